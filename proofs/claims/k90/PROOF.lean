import PyProof.Rows.All
import Wide.All
import OpenK.AllK
import Wide.FinOn
import KE.KStateDown
import Lean
import HandS.Head0
import HandS.Head1
import HandS.Head2
import HandS.HeadEnd
import HandS.HeadHook1
import HandS.HeadHook2
import HandS.HeadHook4
import KE.KDictSum
import KE.GoesEnum
import KE.GoesMore
import HandS.ForMost
import HandS.Defaults
import HandS.Wide
import HandS.Zip
import HandS.Replace
import HandS.SetFor
import HandS.SortInts
import HandS.SortRule
import HandS.Strs
import HandS.Evl
import HandS.Walk
import PySem.Challenge.RW_findcourt_k90_whole_came_and_went
set_option Elab.async false
set_option linter.all false
set_option maxRecDepth 100000
set_option maxHeartbeats 4000000
/-! The text by places; what is asked of the top. -/
namespace Fc
open PySem PySem.Spec PyProof.Rows L2
def top (i : Nat) : Stmt := PySem.Challenge.pw_findcourt_k90_whole_came_and_went.main.body.getD i (.Pass ⟨0, 0, 0, 0⟩)
abbrev s_is_name : Stmt := top 14
abbrev s_look_at_document : Stmt := top 16
abbrev s_lowered : Stmt := top 17
abbrev s_words_of : Stmt := top 18
abbrev s_look_at_pattern : Stmt := top 20
abbrev s_spread : Stmt := top 21
abbrev s_stepped : Stmt := top 22
abbrev s_is_fit : Stmt := top 23
abbrev s_words_like : Stmt := top 24
abbrev s_fields_named : Stmt := top 26
abbrev s_words_named : Stmt := top 27
abbrev s_has_words : Stmt := top 28
abbrev s_row_from : Stmt := top 30
abbrev s_within : Stmt := top 31
abbrev s_thin_word : Stmt := top 32
abbrev s_all_places : Stmt := top 33
abbrev s_near_places : Stmt := top 34
abbrev s_chain_from : Stmt := top 35
abbrev s_chain_places : Stmt := top 36
abbrev s_any_of : Stmt := top 38
abbrev s_rows_of : Stmt := top 39
abbrev s_placed : Stmt := top 40
abbrev s_found_in : Stmt := top 41
abbrev s_both_of : Stmt := top 42
abbrev s_less_of : Stmt := top 43
abbrev s_answers_of : Stmt := top 44
abbrev s_changed : Stmt := top 46
abbrev s_look_at_makes : Stmt := top 48
abbrev s_counted : Stmt := top 49
abbrev s_copied_postings : Stmt := top 50
abbrev s_Piece_init : Stmt := inClass (top 51) 0
abbrev s_Piece_take_in : Stmt := inClass (top 51) 1
abbrev s_Piece_makes : Stmt := inClass (top 51) 2
abbrev s_Piece_fields : Stmt := inClass (top 51) 3
abbrev s_Piece_words : Stmt := inClass (top 51) 4
abbrev s_Piece_postings : Stmt := inClass (top 51) 5
abbrev s_Piece_length : Stmt := inClass (top 51) 6
abbrev s_Stand_init : Stmt := inClass (top 57) 0
abbrev s_Stand_gather : Stmt := inClass (top 57) 1
abbrev s_Stand_documents : Stmt := inClass (top 57) 2
abbrev s_Stand_fields : Stmt := inClass (top 57) 3
abbrev s_Stand_words : Stmt := inClass (top 57) 4
abbrev s_Stand_postings : Stmt := inClass (top 57) 5
abbrev s_House_init : Stmt := inClass (top 59) 0
abbrev s_House_look_for : Stmt := inClass (top 59) 1
abbrev s_House_add_make : Stmt := inClass (top 59) 2
abbrev s_House_put : Stmt := inClass (top 59) 3
abbrev s_House_change : Stmt := inClass (top 59) 4
abbrev s_House_take : Stmt := inClass (top 59) 5
abbrev s_House_seal : Stmt := inClass (top 59) 9
abbrev s_House_piece_at : Stmt := inClass (top 59) 15
abbrev s_House_all_pieces : Stmt := inClass (top 59) 17
abbrev s_House_stand_of : Stmt := inClass (top 59) 21
abbrev s_House_now : Stmt := inClass (top 59) 23
abbrev s_law_mix : Stmt := top 61
abbrev s_law_draws : Stmt := top 62
abbrev s_law_pop : Stmt := top 63
abbrev s_law_pool : Stmt := top 64
abbrev s_law_words : Stmt := top 65
abbrev s_law_text : Stmt := top 66
abbrev s_law_document : Stmt := top 67
abbrev s_law_filed : Stmt := top 68
abbrev s_law_house : Stmt := top 69
abbrev s_law_field : Stmt := top 70
abbrev s_law_pattern : Stmt := top 71
abbrev s_law_question : Stmt := top 72
abbrev s_law_fits : Stmt := top 73
abbrev s_law_chained : Stmt := top 74
abbrev s_law_near : Stmt := top 75
abbrev s_law_stands : Stmt := top 76
abbrev s_law_holds : Stmt := top 77
abbrev s_law_goes_on : Stmt := top 78
abbrev s_law : Stmt := top 79
abbrev adPiece (K : PySem.W.Frag) : Addr := He.ga K "Piece"
abbrev adStand (K : PySem.W.Frag) : Addr := He.ga K "Stand"
abbrev adHouse (K : PySem.W.Frag) : Addr := He.ga K "House"
/-- what the walk asks of the top: constants, built-ins that still are, classes, attributes that no class has -/
structure Tx (K : PySem.W.Frag) (mg : Str → Option Value) : Prop where
  LETTERS : ∃ t, mg "LETTERS" = some (.str "abcdefghijklmnopqrstuvwxyz" t)
  GREAT : ∃ t, mg "GREAT" = some (.str "ABCDEFGHIJKLMNOPQRSTUVWXYZ" t)
  FIGURES : ∃ t, mg "FIGURES" = some (.str "0123456789" t)
  n_len : mg "len" = none
  n_range : mg "range" = none
  n_list : mg "list" = none
  n_dict : mg "dict" = none
  n_sorted : mg "sorted" = none
  n_set : mg "set" = none
  n_all : mg "all" = none
  n_enumerate : mg "enumerate" = none
  n_int : mg "int" = none
  n_min : mg "min" = none
  n_isinstance : mg "isinstance" = none
  n_tuple : mg "tuple" = none
  cPiece : Cls K (adPiece K)
  aPiece_held_makes : NoAttr K (adPiece K) "held_makes"
  aPiece_lengths : NoAttr K (adPiece K) "lengths"
  aPiece_table : NoAttr K (adPiece K) "table"
  cStand : Cls K (adStand K)
  aStand_texts : NoAttr K (adStand K) "texts"
  aStand_table : NoAttr K (adStand K) "table"
  aStand_lengths : NoAttr K (adStand K) "lengths"
  cHouse : Cls K (adHouse K)
  aHouse_time : NoAttr K (adHouse K) "time"
  aHouse_ever : NoAttr K (adHouse K) "ever"
  aHouse_alive : NoAttr K (adHouse K) "alive"
  aHouse_made : NoAttr K (adHouse K) "made"
  aHouse_open_makes : NoAttr K (adHouse K) "open_makes"
  aHouse_sealed : NoAttr K (adHouse K) "sealed"
  aHouse_kept : NoAttr K (adHouse K) "kept"
end Fc
set_option maxHeartbeats 0
/-! The head's facts by names, the run of the top. -/
namespace Fc
open PySem PySem.Spec PyProof.Rows L2
def d_is_name : He.DefD := ⟨("is_name", none), "is_name", "is_name", defArgs s_is_name, defBody s_is_name, defScope s_is_name, [], []⟩
def d_look_at_document : He.DefD := ⟨("look_at_document", none), "look_at_document", "look_at_document", defArgs s_look_at_document, defBody s_look_at_document, defScope s_look_at_document, [], []⟩
def d_lowered : He.DefD := ⟨("lowered", none), "lowered", "lowered", defArgs s_lowered, defBody s_lowered, defScope s_lowered, [], []⟩
def d_words_of : He.DefD := ⟨("words_of", none), "words_of", "words_of", defArgs s_words_of, defBody s_words_of, defScope s_words_of, [], []⟩
def d_look_at_pattern : He.DefD := ⟨("look_at_pattern", none), "look_at_pattern", "look_at_pattern", defArgs s_look_at_pattern, defBody s_look_at_pattern, defScope s_look_at_pattern, [], []⟩
def d_spread : He.DefD := ⟨("spread", none), "spread", "spread", defArgs s_spread, defBody s_spread, defScope s_spread, [], []⟩
def d_stepped : He.DefD := ⟨("stepped", none), "stepped", "stepped", defArgs s_stepped, defBody s_stepped, defScope s_stepped, [], []⟩
def d_is_fit : He.DefD := ⟨("is_fit", none), "is_fit", "is_fit", defArgs s_is_fit, defBody s_is_fit, defScope s_is_fit, [], []⟩
def d_words_like : He.DefD := ⟨("words_like", none), "words_like", "words_like", defArgs s_words_like, defBody s_words_like, defScope s_words_like, [], []⟩
def d_fields_named : He.DefD := ⟨("fields_named", none), "fields_named", "fields_named", defArgs s_fields_named, defBody s_fields_named, defScope s_fields_named, [], []⟩
def d_words_named : He.DefD := ⟨("words_named", none), "words_named", "words_named", defArgs s_words_named, defBody s_words_named, defScope s_words_named, [], []⟩
def d_has_words : He.DefD := ⟨("has_words", none), "has_words", "has_words", defArgs s_has_words, defBody s_has_words, defScope s_has_words, [], []⟩
def d_row_from : He.DefD := ⟨("row_from", none), "row_from", "row_from", defArgs s_row_from, defBody s_row_from, defScope s_row_from, [], []⟩
def d_within : He.DefD := ⟨("within", none), "within", "within", defArgs s_within, defBody s_within, defScope s_within, [], []⟩
def d_thin_word : He.DefD := ⟨("thin_word", none), "thin_word", "thin_word", defArgs s_thin_word, defBody s_thin_word, defScope s_thin_word, [], []⟩
def d_all_places : He.DefD := ⟨("all_places", none), "all_places", "all_places", defArgs s_all_places, defBody s_all_places, defScope s_all_places, [], []⟩
def d_near_places : He.DefD := ⟨("near_places", none), "near_places", "near_places", defArgs s_near_places, defBody s_near_places, defScope s_near_places, [], []⟩
def d_chain_from : He.DefD := ⟨("chain_from", none), "chain_from", "chain_from", defArgs s_chain_from, defBody s_chain_from, defScope s_chain_from, [], []⟩
def d_chain_places : He.DefD := ⟨("chain_places", none), "chain_places", "chain_places", defArgs s_chain_places, defBody s_chain_places, defScope s_chain_places, [], []⟩
def d_any_of : He.DefD := ⟨("any_of", none), "any_of", "any_of", defArgs s_any_of, defBody s_any_of, defScope s_any_of, [], []⟩
def d_rows_of : He.DefD := ⟨("rows_of", none), "rows_of", "rows_of", defArgs s_rows_of, defBody s_rows_of, defScope s_rows_of, [], []⟩
def d_placed : He.DefD := ⟨("placed", none), "placed", "placed", defArgs s_placed, defBody s_placed, defScope s_placed, [], []⟩
def d_found_in : He.DefD := ⟨("found_in", none), "found_in", "found_in", defArgs s_found_in, defBody s_found_in, defScope s_found_in, [], []⟩
def d_both_of : He.DefD := ⟨("both_of", none), "both_of", "both_of", defArgs s_both_of, defBody s_both_of, defScope s_both_of, [], []⟩
def d_less_of : He.DefD := ⟨("less_of", none), "less_of", "less_of", defArgs s_less_of, defBody s_less_of, defScope s_less_of, [], []⟩
def d_answers_of : He.DefD := ⟨("answers_of", none), "answers_of", "answers_of", defArgs s_answers_of, defBody s_answers_of, defScope s_answers_of, [], []⟩
def d_changed : He.DefD := ⟨("changed", none), "changed", "changed", defArgs s_changed, defBody s_changed, defScope s_changed, [], []⟩
def d_look_at_makes : He.DefD := ⟨("look_at_makes", none), "look_at_makes", "look_at_makes", defArgs s_look_at_makes, defBody s_look_at_makes, defScope s_look_at_makes, [], []⟩
def d_counted : He.DefD := ⟨("counted", none), "counted", "counted", defArgs s_counted, defBody s_counted, defScope s_counted, [], []⟩
def d_copied_postings : He.DefD := ⟨("copied_postings", none), "copied_postings", "copied_postings", defArgs s_copied_postings, defBody s_copied_postings, defScope s_copied_postings, [], []⟩
def d_Piece_init : He.DefD := ⟨("Piece", some "__init__"), "__init__", "Piece.__init__", defArgs s_Piece_init, defBody s_Piece_init, defScope s_Piece_init, [], []⟩
def d_Piece_take_in : He.DefD := ⟨("Piece", some "take_in"), "take_in", "Piece.take_in", defArgs s_Piece_take_in, defBody s_Piece_take_in, defScope s_Piece_take_in, [], []⟩
def d_Piece_makes : He.DefD := ⟨("Piece", some "makes"), "makes", "Piece.makes", defArgs s_Piece_makes, defBody s_Piece_makes, defScope s_Piece_makes, [], []⟩
def d_Piece_fields : He.DefD := ⟨("Piece", some "fields"), "fields", "Piece.fields", defArgs s_Piece_fields, defBody s_Piece_fields, defScope s_Piece_fields, [], []⟩
def d_Piece_words : He.DefD := ⟨("Piece", some "words"), "words", "Piece.words", defArgs s_Piece_words, defBody s_Piece_words, defScope s_Piece_words, [], []⟩
def d_Piece_postings : He.DefD := ⟨("Piece", some "postings"), "postings", "Piece.postings", defArgs s_Piece_postings, defBody s_Piece_postings, defScope s_Piece_postings, [], []⟩
def d_Piece_length : He.DefD := ⟨("Piece", some "length"), "length", "Piece.length", defArgs s_Piece_length, defBody s_Piece_length, defScope s_Piece_length, [], []⟩
def d_Stand_init : He.DefD := ⟨("Stand", some "__init__"), "__init__", "Stand.__init__", defArgs s_Stand_init, defBody s_Stand_init, defScope s_Stand_init, [], []⟩
def d_Stand_gather : He.DefD := ⟨("Stand", some "gather"), "gather", "Stand.gather", defArgs s_Stand_gather, defBody s_Stand_gather, defScope s_Stand_gather, [], []⟩
def d_Stand_documents : He.DefD := ⟨("Stand", some "documents"), "documents", "Stand.documents", defArgs s_Stand_documents, defBody s_Stand_documents, defScope s_Stand_documents, [], []⟩
def d_Stand_fields : He.DefD := ⟨("Stand", some "fields"), "fields", "Stand.fields", defArgs s_Stand_fields, defBody s_Stand_fields, defScope s_Stand_fields, [], []⟩
def d_Stand_words : He.DefD := ⟨("Stand", some "words"), "words", "Stand.words", defArgs s_Stand_words, defBody s_Stand_words, defScope s_Stand_words, [], []⟩
def d_Stand_postings : He.DefD := ⟨("Stand", some "postings"), "postings", "Stand.postings", defArgs s_Stand_postings, defBody s_Stand_postings, defScope s_Stand_postings, [], []⟩
def d_House_init : He.DefD := ⟨("House", some "__init__"), "__init__", "House.__init__", defArgs s_House_init, defBody s_House_init, defScope s_House_init, [], []⟩
def d_House_look_for : He.DefD := ⟨("House", some "look_for"), "look_for", "House.look_for", defArgs s_House_look_for, defBody s_House_look_for, defScope s_House_look_for, [], []⟩
def d_House_add_make : He.DefD := ⟨("House", some "add_make"), "add_make", "House.add_make", defArgs s_House_add_make, defBody s_House_add_make, defScope s_House_add_make, [], []⟩
def d_House_put : He.DefD := ⟨("House", some "put"), "put", "House.put", defArgs s_House_put, defBody s_House_put, defScope s_House_put, [], []⟩
def d_House_change : He.DefD := ⟨("House", some "change"), "change", "House.change", defArgs s_House_change, defBody s_House_change, defScope s_House_change, [], []⟩
def d_House_take : He.DefD := ⟨("House", some "take"), "take", "House.take", defArgs s_House_take, defBody s_House_take, defScope s_House_take, [], []⟩
def d_House_seal : He.DefD := ⟨("House", some "seal"), "seal", "House.seal", defArgs s_House_seal, defBody s_House_seal, defScope s_House_seal, [], []⟩
def d_House_piece_at : He.DefD := ⟨("House", some "piece_at"), "piece_at", "House.piece_at", defArgs s_House_piece_at, defBody s_House_piece_at, defScope s_House_piece_at, [], []⟩
def d_House_all_pieces : He.DefD := ⟨("House", some "all_pieces"), "all_pieces", "House.all_pieces", defArgs s_House_all_pieces, defBody s_House_all_pieces, defScope s_House_all_pieces, [], []⟩
def d_House_stand_of : He.DefD := ⟨("House", some "stand_of"), "stand_of", "House.stand_of", defArgs s_House_stand_of, defBody s_House_stand_of, defScope s_House_stand_of, [], []⟩
def d_House_now : He.DefD := ⟨("House", some "now"), "now", "House.now", defArgs s_House_now, defBody s_House_now, defScope s_House_now, [], []⟩
def d_law_mix : He.DefD := ⟨("_law_mix", none), "_law_mix", "_law_mix", defArgs s_law_mix, defBody s_law_mix, defScope s_law_mix, [], []⟩
def d_law_draws : He.DefD := ⟨("_law_draws", none), "_law_draws", "_law_draws", defArgs s_law_draws, defBody s_law_draws, defScope s_law_draws, [], []⟩
def d_law_pop : He.DefD := ⟨("_law_pop", none), "_law_pop", "_law_pop", defArgs s_law_pop, defBody s_law_pop, defScope s_law_pop, [], []⟩
def d_law_pool : He.DefD := ⟨("_law_pool", none), "_law_pool", "_law_pool", defArgs s_law_pool, defBody s_law_pool, defScope s_law_pool, [], []⟩
def d_law_words : He.DefD := ⟨("_law_words", none), "_law_words", "_law_words", defArgs s_law_words, defBody s_law_words, defScope s_law_words, [], []⟩
def d_law_text : He.DefD := ⟨("_law_text", none), "_law_text", "_law_text", defArgs s_law_text, defBody s_law_text, defScope s_law_text, [], []⟩
def d_law_document : He.DefD := ⟨("_law_document", none), "_law_document", "_law_document", defArgs s_law_document, defBody s_law_document, defScope s_law_document, [], []⟩
def d_law_filed : He.DefD := ⟨("_law_filed", none), "_law_filed", "_law_filed", defArgs s_law_filed, defBody s_law_filed, defScope s_law_filed, [], []⟩
def d_law_house : He.DefD := ⟨("_law_house", none), "_law_house", "_law_house", defArgs s_law_house, defBody s_law_house, defScope s_law_house, [], []⟩
def d_law_field : He.DefD := ⟨("_law_field", none), "_law_field", "_law_field", defArgs s_law_field, defBody s_law_field, defScope s_law_field, [], []⟩
def d_law_pattern : He.DefD := ⟨("_law_pattern", none), "_law_pattern", "_law_pattern", defArgs s_law_pattern, defBody s_law_pattern, defScope s_law_pattern, [], []⟩
def d_law_question : He.DefD := ⟨("_law_question", none), "_law_question", "_law_question", defArgs s_law_question, defBody s_law_question, defScope s_law_question, [], []⟩
def d_law_fits : He.DefD := ⟨("_law_fits", none), "_law_fits", "_law_fits", defArgs s_law_fits, defBody s_law_fits, defScope s_law_fits, [], []⟩
def d_law_chained : He.DefD := ⟨("_law_chained", none), "_law_chained", "_law_chained", defArgs s_law_chained, defBody s_law_chained, defScope s_law_chained, [], []⟩
def d_law_near : He.DefD := ⟨("_law_near", none), "_law_near", "_law_near", defArgs s_law_near, defBody s_law_near, defScope s_law_near, [], []⟩
def d_law_stands : He.DefD := ⟨("_law_stands", none), "_law_stands", "_law_stands", defArgs s_law_stands, defBody s_law_stands, defScope s_law_stands, [], []⟩
def d_law_holds : He.DefD := ⟨("_law_holds", none), "_law_holds", "_law_holds", defArgs s_law_holds, defBody s_law_holds, defScope s_law_holds, [], []⟩
def d_law_goes_on : He.DefD := ⟨("_law_goes_on", none), "_law_goes_on", "_law_goes_on", defArgs s_law_goes_on, defBody s_law_goes_on, defScope s_law_goes_on, [], []⟩
def d_law : He.DefD := ⟨("law", none), "law", "law", defArgs s_law, defBody s_law, defScope s_law, [], []⟩
def fn : List He.DefD := [d_is_name, d_look_at_document, d_lowered, d_words_of, d_look_at_pattern, d_spread, d_stepped, d_is_fit, d_words_like, d_fields_named, d_words_named, d_has_words, d_row_from, d_within, d_thin_word, d_all_places, d_near_places, d_chain_from, d_chain_places, d_any_of, d_rows_of, d_placed, d_found_in, d_both_of, d_less_of, d_answers_of, d_changed, d_look_at_makes, d_counted, d_copied_postings, d_Piece_init, d_Piece_take_in, d_Piece_makes, d_Piece_fields, d_Piece_words, d_Piece_postings, d_Piece_length, d_Stand_init, d_Stand_gather, d_Stand_documents, d_Stand_fields, d_Stand_words, d_Stand_postings, d_House_init, d_House_look_for, d_House_add_make, d_House_put, d_House_change, d_House_take, d_House_seal, d_House_piece_at, d_House_all_pieces, d_House_stand_of, d_House_now, d_law_mix, d_law_draws, d_law_pop, d_law_pool, d_law_words, d_law_text, d_law_document, d_law_filed, d_law_house, d_law_field, d_law_pattern, d_law_question, d_law_fits, d_law_chained, d_law_near, d_law_stands, d_law_holds, d_law_goes_on, d_law]
def fa0 : List He.Fa := [.glo "is_name", .glo "look_at_document", .glo "lowered", .glo "words_of", .glo "look_at_pattern", .glo "spread", .glo "stepped", .glo "is_fit", .glo "words_like", .glo "fields_named", .glo "words_named", .glo "has_words", .glo "row_from", .glo "within", .glo "thin_word", .glo "all_places", .glo "near_places", .glo "chain_from", .glo "chain_places", .glo "any_of", .glo "rows_of", .glo "placed", .glo "found_in", .glo "both_of", .glo "less_of", .glo "answers_of", .glo "changed", .glo "look_at_makes", .glo "counted", .glo "copied_postings", .glo "_law_mix", .glo "_law_draws", .glo "_law_pop", .glo "_law_pool", .glo "_law_words", .glo "_law_text", .glo "_law_document", .glo "_law_filed", .glo "_law_house", .glo "_law_field"]
def fa1 : List He.Fa := [.glo "_law_pattern", .glo "_law_question", .glo "_law_fits", .glo "_law_chained", .glo "_law_near", .glo "_law_stands", .glo "_law_holds", .glo "_law_goes_on", .glo "law", .glo "Piece", .glo "Stand", .glo "House", .free "len", .free "range", .free "list", .free "dict", .free "sorted", .free "set", .free "all", .free "enumerate", .free "int", .free "min", .free "isinstance", .free "tuple", .str "LETTERS" "abcdefghijklmnopqrstuvwxyz", .str "GREAT" "ABCDEFGHIJKLMNOPQRSTUVWXYZ", .str "FIGURES" "0123456789", .cls "Piece", .mkr "Piece", .noat "Piece" "held_makes", .noat "Piece" "lengths", .noat "Piece" "table", .cls "Stand", .mkr "Stand", .noat "Stand" "texts", .noat "Stand" "table", .noat "Stand" "lengths", .cls "House", .mkr "House", .noat "House" "time"]
def fa2 : List He.Fa := [.noat "House" "ever", .noat "House" "alive", .noat "House" "made", .noat "House" "open_makes", .noat "House" "sealed", .noat "House" "kept", .meth "Piece" "take_in", .meth "Piece" "makes", .meth "Piece" "fields", .meth "Piece" "words", .meth "Piece" "postings", .meth "Piece" "length", .meth "Stand" "gather", .meth "Stand" "documents", .meth "Stand" "fields", .meth "Stand" "words", .meth "Stand" "postings", .meth "House" "look_for", .meth "House" "add_make", .meth "House" "put", .meth "House" "change", .meth "House" "take", .meth "House" "seal", .meth "House" "piece_at", .meth "House" "all_pieces", .meth "House" "stand_of", .meth "House" "now"]
def fa : List He.Fa := fa0 ++ fa1 ++ fa2
def lo0 : List Str := ["_wall", "FindError", "NoField", "NoMake", "NoBytes", "NoDocument", "NoStamp", "NoPiece", "NoPattern", "LETTERS", "GREAT", "FIGURES", "is_name", "is_word", "look_at_document", "lowered", "words_of", "look_at_pattern", "spread", "stepped", "is_fit", "words_like", "fields_named", "words_named", "has_words", "row_from", "within", "thin_word", "all_places", "near_places"]
def lo1 : List Str := ["chain_from", "chain_places", "any_of", "rows_of", "placed", "found_in", "both_of", "less_of", "answers_of", "changed", "look_at_makes", "counted", "copied_postings", "Piece", "SIGNS", "ByteReader", "read_piece", "Stand", "House", "_law_mix", "_law_draws", "_law_pop", "_law_pool", "_law_words", "_law_text", "_law_document", "_law_filed", "_law_house", "_law_field", "_law_pattern"]
def lo2 : List Str := ["_law_question", "_law_fits", "_law_chained", "_law_near", "_law_stands", "_law_holds", "_law_goes_on"]
def loose : List Str := lo0 ++ lo1 ++ lo2
abbrev R : PySem.W.OpenRow := PySem.W.OpenLaw.row PySem.Challenge.rw_findcourt_k90_whole_came_and_went
abbrev hk : PySem.W.Hook := He.hookD 4 fa fn
def ob (s : PySem.W.SharedT) : He.AlD := He.obsDG 4 fa fn (HandSHeadRun.getT s)
theorem ob_eq (s : PySem.W.SharedT) : ob s = hk.obs s.abs := He.obsDG_eq (HandSHeadRun.getT_eq s)
abbrev q0 : Program := PySem.W.view R.prog [79]
noncomputable abbrev endR (w : World) (os : OsState) : Option PySem.W.SharedT := HandSHeadRun.endF (HandSHeadRun.stepQ (HandSHeadRun.denQ HandSHeadRun.tabQ) R.prog w) 20000 R.prog w os
/-! the run twice, its looks and its facts apart: one kernel run for both takes more memory than is safe -/
open PySem.W PySem.Calls in
theorem runB (w : World) (os : OsState) : (endR w os).map (fun s => (HandSHeadRun.looksF R.prog (boot_heap w.params) s.abs, HandSHeadRun.seenQ q0 loose (importedModules R.prog.main.body) (fun s => xlAt q0 [] s && recOk R.toRowW.records s) s.abs)) = some (true, openGood q0 loose) := by
  kernel_rfl
theorem runC (w : World) (os : OsState) : (endR w os).map ob = some (hk.val w) := by
  kernel_rfl
theorem join_run {α A B C : Type} {x : Option α} {f1 : α → A} {f2 : α → B} {g : α → C} {a : A} {b : B} {c : C} (h1 : x.map (fun s => (f1 s, f2 s)) = some (a, b)) (h2 : x.map g = some c) : x.map (fun s => (f1 s, f2 s, g s)) = some (a, b, c) := by
  cases x with
  | none => cases h1
  | some s =>
    have e1 := Prod.mk.inj (Option.some.inj h1)
    have e2 : g s = c := Option.some.inj h2
    show some (f1 s, f2 s, g s) = some (a, b, c)
    rw [e1.1, e1.2, e2]
theorem run (w : World) : HandSHeadRun.RunEq R (PySem.W.view R.prog [79]) hk ob 20000 loose w := fun os => join_run (runB w os) (runC w os)
end Fc
set_option maxHeartbeats 4000000
/-! Rules that the layer lacks; short forms. -/
namespace Fc
open PySem PySem.Spec PyProof.Rows L2

/-! ### short forms -/
section
variable {X : Cx}
theorem pe_gs {x z : Str} {pos : Pos} (hm : ∃ t, X.mg x = some (.str z t)) (hg : Gl X x := by rfl) (hd : (x == ("__debug__" : Str)) = false := by decide) : PE X (.Name x pos) (tC (.str z)) :=
  ⟨fun _ _ _ H _ I h => by
    obtain ⟨t, e⟩ := hm
    exact (pe_glob (v := .str z) hg e ⟨t, rfl⟩ hd).run _ _ _ H _ I h⟩
theorem psv (i : Nat) {x : Str} {e : Expr} {te : TE} {pos' pos : Pos} (hN : X.N.Nodup) (he : PE X e te) (hi : X.N[i]? = some x := by rfl) (hx : Loc X.env.scope x := by first | exact Or.inl rfl | exact Or.inr rfl)
    (hs : swapsWith e (some (.Name x pos')) pos.line X.env = pure false := by rfl) (hf : X.fn x = true ∨ X.env.scope.names.lookup x = some .local := by first | exact .inl rfl | exact .inr rfl | assumption) :
    PS X (.Assign [.Name x pos'] e pos) (tAsg te (gName i)) := ps_set hN hi hx he hs hf
theorem psaug (i : Nat) {x : Str} {e : Expr} {te : TE} {op : Operator} {ti : TIp} {pos' pos : Pos} (hN : X.N.Nodup) (he : PE X e te) (ho : PIp X op ti) (hi : X.N[i]? = some x := by rfl)
    (hx : Loc X.env.scope x := by first | exact Or.inl rfl | exact Or.inr rfl) (hf : X.fn x = true ∨ X.env.scope.names.lookup x = some .local := by first | exact .inl rfl | exact .inr rfl | assumption) :
    PS X (.AugAssign (.Name x pos') op e pos) (tAug i te ti) := ps_aug hN hi hx he ho hf
theorem pgv (i : Nat) {x : Str} {pos : Pos} (hN : X.N.Nodup) (hi : X.N[i]? = some x := by rfl) (hx : Loc X.env.scope x := by first | exact Or.inl rfl | exact Or.inr rfl)
    (hf : X.fn x = true ∨ X.env.scope.names.lookup x = some .local := by first | exact .inl rfl | exact .inr rfl | assumption) : PG X (.Name x pos) (gName i) := pg_name hN hi hx hf
theorem M1.of {o e : Expr} {m : Str} {apos cpos : Pos} (base : attributeBase o m X.env (eval o X.env) = eval o X.env := by rfl)
    (few : ((backTo cpos (starEach [e] X.env)).all (fun x => !x.1) && (backToKw cpos (keywordEach [] X.env)).all (fun x => x.1.isSome)
    && decide (([e] : List Expr).length + ([] : List Keyword).length + (if ([] : List Keyword).isEmpty then 0 else 1) < 30)) = true := by rfl) (line : (apos.endLine == cpos.line) = true := by rfl)
    (trees : backTo cpos (starEach [e] X.env) = [(false, eval e X.env)] := by rfl) : M1 X o m apos e cpos := ⟨base, few, line, trees⟩
theorem M2.of {o e f : Expr} {m : Str} {apos cpos : Pos} (base : attributeBase o m X.env (eval o X.env) = eval o X.env := by rfl)
    (few : ((backTo cpos (starEach [e, f] X.env)).all (fun x => !x.1) && (backToKw cpos (keywordEach [] X.env)).all (fun x => x.1.isSome)
    && decide (([e, f] : List Expr).length + ([] : List Keyword).length + (if ([] : List Keyword).isEmpty then 0 else 1) < 30)) = true := by rfl) (line : (apos.endLine == cpos.line) = true := by rfl)
    (trees : backTo cpos (starEach [e, f] X.env) = [(false, eval e X.env), (false, eval f X.env)] := by rfl) : M2 X o m apos e f cpos := ⟨base, few, line, trees⟩
end

/-! ### defs, methods, classes as they stand, and what they keep -/
section
variable (P : Program) (w : World) (K : PySem.W.Frag) (mg : Str → Option Value) (base : Heap)
/-- the def of name x keeps sp, at most k calls deep -/
def OkF (k : Nat) (x : Str) (ps : List Str) (sp : Sp) : Prop := ∃ f fd, FnOk P w K mg base CX0 k f fd ps sp ∧ mg x = some (.ref f) ∧ PySem.W.keepIn K (.ref f) = true ∧ Binds K fd ps []
/-- the method m of the class at C -/
def OkM (k : Nat) (C : Addr) (m : Str) (ps : List Str) (sp : Sp) : Prop := ∃ f fd, FnOk P w K mg base CX0 k f fd ps sp ∧ Meth K C m f ∧ Binds K fd ps []
/-- the making of an instance of the class x at C by its __init__ -/
def OkC (k : Nat) (C : Addr) (x : Str) (ps : List Str) (sp : Sp) : Prop := ∃ f fd, FnOk P w K mg base CX0 k f fd ps sp ∧ Mk K C f ∧ mg x = some (.ref C) ∧ Binds K fd ps []
end
/-- where a def stands -/
structure Gd (K : PySem.W.Frag) (mg : Str → Option Value) (x : Str) (st : Stmt) : Prop where
  ex : ∃ f fd, FunD K x x (defArgs st) (defBody st) (defScope st) [] [] f fd ∧ mg x = some (.ref f)
structure Gm (K : PySem.W.Frag) (C : Addr) (x qual : Str) (st : Stmt) : Prop where
  ex : ∃ f fd, FunD K x qual (defArgs st) (defBody st) (defScope st) [] [] f fd ∧ Meth K C x f
structure Gc (K : PySem.W.Frag) (mg : Str → Option Value) (C : Addr) (x qual : Str) (st : Stmt) : Prop where
  ex : ∃ f fd, FunD K "__init__" qual (defArgs st) (defBody st) (defScope st) [] [] f fd ∧ Mk K C f ∧ mg x = some (.ref C)
section
variable {P : Program} {w : World} {K : PySem.W.Frag} {mg : Str → Option Value} {base : Heap} {st : Stmt} {N ps : List Str} {k : Nat} {sp : Sp} {x qual : Str} {C : Addr}
/-- the body's part of the three rules -/
abbrev BodyOk (P : Program) (w : World) (K : PySem.W.Frag) (mg : Str → Option Value) (base : Heap) (N : List Str) (qual : Str) (st : Stmt) (k : Nat) (sp : Sp) : Prop :=
  ∀ (f : Addr) (cdv : Value) (A : Around) (outer : List Env) (s : Shared) (H : Hp) (vs : List V) (Q : VK) (E : XK), Room k (A.deeper (envOfC qual (defScope st) s.heap.objs.size f cdv)) → sp vs H Q E →
    ∃ t, PSs (cxOf CX0 P w K mg base N qual (defScope st) f cdv A outer s H E).nox (defBody st) t ∧ t { nx := fun _ H' => Q .non H', rt := Q } (start N vs) H
abbrev BindOk (x qual : Str) (st : Stmt) (ps : List Str) : Prop :=
  ∀ (kV doc pm : Value) (an : Option Addr) (cdv ct : Value) (us : List Value), us.length = ps.length → bindArgs (PySem.W.fnOf x qual (defArgs st) (defBody st) (defScope st) .none kV doc pm an cdv ct) ⟨us, []⟩ = pure (ps.zip us)
theorem fnD_ok {f : Addr} {fd : FuncData} (F : FunD K x qual (defArgs st) (defBody st) (defScope st) [] [] f fd) (S : FnScope N ps (defScope st)) (len : ∀ vs H Q E, sp vs H Q E → vs.length = ps.length)
    (hb : BodyOk P w K mg base N qual st k sp) : FnOk P w K mg base CX0 (k + 1) f fd ps sp :=
  F.ok S len fun cdv A outer s H vs Q E hr h => by
    obtain ⟨t, h1, h2⟩ := hb f cdv A outer s H vs Q E hr h
    exact ⟨t, h1.nox, h2⟩
theorem Gd.ok (G : Gd K mg x st) (S : FnScope N ps (defScope st)) (bi : BindOk x x st ps) (len : ∀ vs H Q E, sp vs H Q E → vs.length = ps.length) (hb : BodyOk P w K mg base N x st k sp) : OkF P w K mg base (k + 1) x ps sp := by
  obtain ⟨f, fd, F, g⟩ := G.ex
  exact ⟨f, fd, fnD_ok F S len hb, g, F.kp, F.bindsN bi⟩
theorem Gm.ok (G : Gm K C x qual st) (S : FnScope N ps (defScope st)) (bi : BindOk x qual st ps) (len : ∀ vs H Q E, sp vs H Q E → vs.length = ps.length) (hb : BodyOk P w K mg base N qual st k sp) : OkM P w K mg base (k + 1) C x ps sp := by
  obtain ⟨f, fd, F, g⟩ := G.ex
  exact ⟨f, fd, fnD_ok F S len hb, g, F.bindsN bi⟩
theorem Gc.ok (G : Gc K mg C x qual st) (S : FnScope N ps (defScope st)) (bi : BindOk "__init__" qual st ps) (len : ∀ vs H Q E, sp vs H Q E → vs.length = ps.length) (hb : BodyOk P w K mg base N qual st k sp) : OkC P w K mg base (k + 1) C x ps sp := by
  obtain ⟨f, fd, F, g, g2⟩ := G.ex
  exact ⟨f, fd, fnD_ok F S len hb, g, g2, F.bindsN bi⟩
end
section
variable {X : Cx} {k : Nat} {x m : Str} {ps : List Str} {sp : Sp} {C : Addr} {p pos apos : Pos} {e o : Expr} {es : List Expr} {ta : TE} {t : TA}
theorem pe_fn (O : OkF X.prog X.w X.K X.mg X.base k x ps sp) (hr : Room k X.A) (ha : PA X (e :: es) t) (hg : Gl X x := by rfl) (hdb : (x == ("__debug__" : Str)) = false := by decide)
    (he : starEach (e :: es) X.env = (false, eval e X.env) :: starEach es X.env := by rfl) (hpl : (backTo pos (starEach es X.env)).any (·.1) = false := by rfl) :
    PE X (.Call (.Name x p) (e :: es) [] pos) (tCall sp [] E0 t) := by
  obtain ⟨f, fd, F, g, kp, b⟩ := O
  exact pe_call F hr hg g kp b .nil pass0 ha hdb he hpl
theorem pe_mt {pl : Sem Bool} (O : OkM X.prog X.w X.K X.mg X.base k C m ps sp) (hr : Room k X.A) (c : Cls X.K C) (he : PE X o ta) (ha : PA X (e :: es) t)
    (hst : starEach (e :: es) X.env = (false, eval e X.env) :: starEach es X.env := by rfl) (hpl : (backTo pos (starEach es X.env)).any (·.1) = false := by rfl)
    (ht : eval (.Call (.Attribute o m apos) (e :: es) [] pos) X.env = (do
      let ov ← eval o X.env
      standAt apos.atName
      let (f, first) ← holding [ov] (getMethod ov m pl)
      callWith pos f first (backTo pos (starEach (e :: es) X.env)) (backToKw pos (keywordEach [] X.env))) := by rfl) :
    PE X (.Call (.Attribute o m apos) (e :: es) [] pos) (tMeth C m sp [] E0 ta t) := by
  obtain ⟨f, fd, F, g, b⟩ := O
  exact pe_meth he c g F hr b .nil pass0 ha hst hpl ht
theorem pe_mt0 {pl : Sem Bool} (O : OkM X.prog X.w X.K X.mg X.base k C m ps sp) (hr : Room k X.A) (c : Cls X.K C) (he : PE X o ta)
    (ht : eval (.Call (.Attribute o m apos) [] [] pos) X.env = (do
      let ov ← eval o X.env
      standAt apos.atName
      let (f, first) ← holding [ov] (getMethod ov m pl)
      callWith pos f first (backTo pos (starEach [] X.env)) (backToKw pos (keywordEach [] X.env))) := by rfl) :
    PE X (.Call (.Attribute o m apos) [] [] pos) (tMeth C m sp [] E0 ta tNil) := by
  obtain ⟨f, fd, F, g, b⟩ := O
  exact pe_meth0 he c g F hr b .nil pass0 ht
theorem pe_mk (O : OkC X.prog X.w X.K X.mg X.base k C x ps sp) (hr : Room (k + 1) X.A) (ha : PA X (e :: es) t) (hg : Gl X x := by rfl) (hdb : (x == ("__debug__" : Str)) = false := by decide)
    (he : starEach (e :: es) X.env = (false, eval e X.env) :: starEach es X.env := by rfl) (hpl : (backTo pos (starEach es X.env)).any (·.1) = false := by rfl) :
    PE X (.Call (.Name x p) (e :: es) [] pos) (tMake C sp [] E0 t) := by
  obtain ⟨f, fd, F, M, g, b⟩ := O
  exact pe_make M F hr hg g b .nil pass0 ha hdb he hpl
theorem pe_mk0 (O : OkC X.prog X.w X.K X.mg X.base k C x ps sp) (hr : Room (k + 1) X.A) (hg : Gl X x := by rfl) (hdb : (x == ("__debug__" : Str)) = false := by decide) :
    PE X (.Call (.Name x p) [] [] pos) (tMake C sp [] E0 tNil) := by
  obtain ⟨f, fd, F, M, g, b⟩ := O
  exact pe_make0 M F hr hg g b .nil pass0 hdb
end

/-! ### a dict just made is frozen for the walk over it -/
section
variable {X : Cx}
def tFrz (td : TE) : TE := fun σ H Q => td σ H fun x H1 => ∃ d u, x = .ref d ∧ H1 d = some u ∧ Mut (some u) ∧ ∀ od, Q (.ref d) (upd H1 d (.frz od u))
theorem pe_frz {e : Expr} {td : TE} (he : PE X e td) : PE X e (tFrz td) := by
  refine ⟨fun pins s σ H Q I h => ?_⟩
  refine thn (he.run pins s σ H _ I h) fun v s1 ⟨x, H1, I1, r1, d, u, ex, hd, mu, q⟩ => ?_
  obtain ⟨od, I2⟩ := I1.lock hd mu
  subst ex
  exact ⟨.ref d, _, I2, r1, q od⟩
end

/-! ### dicts against the empty one -/
section
variable {X : Cx}
def rEqDn : R2 := fun x y H Q => ∃ a b ks, x = .ref a ∧ y = .ref b ∧ H a = some (.dK ks) ∧ H b = some (.dK []) ∧ Q (.bl ks.isEmpty) H
def rNeDn : R2 := fun x y H Q => ∃ a b ks, x = .ref a ∧ y = .ref b ∧ H a = some (.dK ks) ∧ H b = some (.dK []) ∧ Q (.bl (!ks.isEmpty)) H
theorem op_eqDn (hu : X.A.units < cLine) : OpR X (compareOp .Eq) rEqDn := by
  intro pins s σ H x y v u Q I rx ry h
  obtain ⟨a, b, ks, ex, ey, ea, eb, q⟩ := h
  subst ex ey
  cases rx
  cases ry
  obtain ⟨_, ya, va, ra, da⟩ := I.hok a _ ea
  obtain ⟨_, yb, vb, rb, db⟩ := I.hok b _ eb
  cases rb
  refine PySem.W.keq_eq (knd := mixKind X.prog X.w) (r := true) ya yb da db hu (fun hl => ?_) ?_
  · rw [List.eq_nil_of_length_eq_zero hl]
    exact .nil
  · cases ra with
    | nil => exact ⟨.bl true, H, I, rfl, q⟩
    | cons r1 r2 => exact ⟨.bl false, H, I, rfl, q⟩
theorem op_neDn (hu : X.A.units < cLine) : OpR X (compareOp .NotEq) rNeDn := by
  intro pins s σ H x y v u Q I rx ry h
  obtain ⟨a, b, ks, ex, ey, ea, eb, q⟩ := h
  subst ex ey
  cases rx
  cases ry
  obtain ⟨_, ya, va, ra, da⟩ := I.hok a _ ea
  obtain ⟨_, yb, vb, rb, db⟩ := I.hok b _ eb
  cases rb
  refine PySem.W.keq_ne (knd := mixKind X.prog X.w) (r := true) ya yb da db hu (fun hl => ?_) ?_
  · rw [List.eq_nil_of_length_eq_zero hl]
    exact .nil
  · cases ra with
    | nil => exact ⟨.bl false, H, I, rfl, q⟩
    | cons r1 r2 => exact ⟨.bl true, H, I, rfl, q⟩
end

/-! ### d.keys() as a value; sorted, list of it -/
def keysO (p d : Addr) : HO := .ext fun h => PySem.W.KdlKeysView h p d
theorem keysO_ok {P : Program} {w : World} {H : Hp} {h : Heap} {p d : Addr} (e : h.get? p = some { cls := .type "dict_keys", data := .fields #[.ref d] }) : ObjOk P w H h p (keysO p d) :=
  ⟨⟨_, e, rfl, rfl⟩, ⟨_, e⟩, fun _ _ z k => let ⟨o, ho, r⟩ := z; ⟨o, k o ho, r⟩⟩
section
variable {X : Cx}
def rKeysV : V → List V → Hp → VK → Prop := fun x xs H Q => ∃ (a : Addr) (kvs : List (Key × V)), x = .ref a ∧ xs = [] ∧ Rd H a (.dK kvs) ∧ ∀ p, H p = none → Q (.ref p) (upd H p (keysO p a))
theorem mt_keysV : MtR X "dict.keys" rKeysV := by
  intro pins s σ H x xs v us Q I rx rxs h
  obtain ⟨a, kvs, ex, exs, ha, q⟩ := h
  subst ex exs
  cases rx
  cases rxs
  obtain ⟨z, hd, vs, rel, dd⟩ := dk_rd I.hok ha
  have hf : H s.heap.objs.size = none := I.hok.fresh (Nat.le_refl _)
  refine call_meetsIn PySem.F.slot_dict_keys dd.typeIs PySem.F.entry_dict_keys (PySem.F.args_dict_keys_1 _) (PySem.W.kdl_meets_keys (mixKind X.prog X.w) a hd) ⟨⟨vs, dd⟩, ?_⟩
  exact ⟨.ref s.heap.objs.size, _, I.laid (t' := s.toks) (fun b u e => Heap.get?_push_of_some _ e) (Nat.le_refl _) (keysO_ok (Heap.get?_push_size _ rfl)), rfl, q _ hf⟩
end
/-! ### rules with the written part named (for use within a comprehension's block) -/
section
variable {X : Cx}
theorem ixlK (K : PySem.W.Frag) (h : X.K = K := by rfl) : IxR X (rIxL K) := by
  subst h
  exact ix_list
theorem ixtK (K : PySem.W.Frag) (h : X.K = K := by rfl) : IxR X (rIxT K) := by
  subst h
  exact ix_tup
theorem opInK (K : PySem.W.Frag) (h : X.K = K := by rfl) : OpR X (compareOp .In) (rIn K false) := by
  subst h
  exact op_in_seq
theorem opNotInK (K : PySem.W.Frag) (h : X.K = K := by rfl) : OpR X (compareOp .NotIn) (rIn K true) := by
  subst h
  exact op_notIn_seq
theorem eqDK (K : PySem.W.Frag) (hu : X.A.units + 64 < cLine) (h : X.K = K := by rfl) : OpR X (compareOp .Eq) (rEqD K) := by
  subst h
  exact op_eqD hu
theorem neDK (K : PySem.W.Frag) (hu : X.A.units + 64 < cLine) (h : X.K = K := by rfl) : OpR X (compareOp .NotEq) (rNeD K) := by
  subst h
  exact op_neD hu
def rLenQ (K : PySem.W.Frag) : List V → Hp → VK → Prop := fun xs H Q => ∃ p ys, xs = [.ref p] ∧ (SqL K H p ys ∨ SqT K H p ys) ∧ Q (.int ys.length) H
theorem lenK (K : PySem.W.Frag) (h : X.K = K := by rfl) : CallR X (.builtin "len") (rLenQ K) := by
  subst h
  exact call_len_seq
def rListQ (K : PySem.W.Frag) : List V → Hp → VK → Prop := fun xs H Q => ∃ p ys, xs = [.ref p] ∧ (SqL K H p ys ∨ SqT K H p ys) ∧ ∀ l, H l = none → Q (.ref l) (upd H l (.lst ys))
theorem listOfK (K : PySem.W.Frag) (h : X.K = K := by rfl) : CallR X (.type "list") (rListQ K) := by
  subst h
  exact call_list_of
def rDictP (K : PySem.W.Frag) : List V → Hp → VK → Prop := fun xs H Q => ∃ (a : Addr) (ps : List Addr) (kvs : List (Key × V)), xs = [.ref a] ∧ SqL K H a (ps.map V.ref) ∧ Paired (fun p kv => SqT K H p [kV kv.1, kv.2]) ps kvs ∧ ∀ p, H p = none → Q (.ref p) (upd H p (.dK (mergeK [] kvs)))
theorem dictPK (K : PySem.W.Frag) (hcalm : X.calm = true) (h : X.K = K := by rfl) : CallR X (.type "dict") (rDictP K) := by
  subst h
  exact call_dictP hcalm
theorem allK (K : PySem.W.Frag) (hcalm : X.calm = true) (h : X.K = K := by rfl) : CallR X (.builtin "all") (rAll K) := by
  subst h
  exact cr_all hcalm
theorem slLK (K : PySem.W.Frag) (h : X.K = K := by rfl) : SlR X (rSlL K) := by
  subst h
  exact sl_list
theorem pe_fldK (K : PySem.W.Frag) {e : Expr} {ta : TE} {f : Str} {pos : Pos} (he : PE X e ta) (hb : attributeBase e f X.env (eval e X.env) = eval e X.env := by rfl) (h : X.K = K := by rfl) : PE X (.Attribute e f pos) (tFld K ta f) := by
  subst h
  exact pe_fld he hb
theorem pe_bmK (K : PySem.W.Frag) {T id : String} {name : Str} {r : V → List V → Hp → VK → Prop} {o e : Expr} {es : List Expr} {to : TE} {t : TA} {apos cpos : Pos} (pa : PlainAttrs T) (slot : Slot T name id) (hty : typeOf (.builtin id) = pure (.type "method_descriptor")) (hm : MtR X id r) (ho : PE X o to) (ha : PA X (e :: es) t)
    (hbase : attributeBase o name X.env (eval o X.env) = eval o X.env := by rfl)
    (hfew : ((backTo cpos (starEach (e :: es) X.env)).all (fun x => !x.1) && (backToKw cpos (keywordEach [] X.env)).all (fun x => x.1.isSome)
      && decide ((e :: es).length + ([] : List Keyword).length + (if ([] : List Keyword).isEmpty then 0 else 1) < 30)) = true := by rfl)
    (hline : (apos.endLine == cpos.line) = true := by rfl) (hs : starEach (e :: es) X.env = (false, eval e X.env) :: starEach es X.env := by rfl) (hplain : (backTo cpos (starEach es X.env)).any (·.1) = false := by rfl) (h : X.K = K := by rfl) :
    PE X (.Call (.Attribute o name apos) (e :: es) [] cpos) (tBM K T r to t) := by
  subst h
  exact pe_bm pa slot hty hm ho ha hbase hfew hline hs hplain
end
end Fc
/-! More rules that the layer lacks. -/
namespace Fc
open PySem PySem.Spec PyProof.Rows L2

/-! ### sorted(d.keys()), list(d.keys()) -/
section
variable {X : Cx}
/-- what the walk over a keys view gives -/
theorem keysO_src {pins : List (Addr × Obj)} {σ : L2.St} {H : Hp} {s : Shared} {p a : Addr} {kvs : List (Key × V)} (I : Inv X pins σ H s) (hp : H p = some (keysO p a)) (ha : Rd H a (.dK kvs)) :
    ∃ (vs : List (Key × Value)) (ep : Nat), kvs.length = vs.length ∧ kvs.map (·.1) = vs.map (·.1) ∧ vs.length ≤ sizeLine ∧ PySem.W.KdlKeysView s.heap p a ∧ s.heap.DictAt (mixKind X.prog X.w) a vs ep := by
  obtain ⟨z, lo, vs, rel, dd⟩ := dk_rd I.hok ha
  obtain ⟨ep, hat⟩ := dd.dictAt
  exact ⟨vs, ep, rel.length, rel.keys, by rw [← rel.length]; exact z, (I.hok p _ hp).1, hat⟩
def rSortKI : List V → Hp → VK → Prop := fun xs H Q => ∃ (p a : Addr) (kvs : List (Key × V)) (ks : List Int), xs = [.ref p] ∧ H p = some (keysO p a) ∧ Rd H a (.dK kvs) ∧ kvs.map (·.1) = ks.map Sum.inl ∧ ks.length < 64 ∧
  ∀ (ys : List Int) (q : Addr), ys.Perm ks → ys.Pairwise (· ≤ ·) → H q = none → Q (.ref q) (upd H q (.lst (ys.map V.int)))
theorem cr_sortKI (hcalm : X.calm = true) : CallR X (.builtin "sorted") rSortKI := by
  intro pins s σ H xs us Q I r q
  obtain ⟨p, a, kvs, ks, ex, hp, ha, hks, hlt, q⟩ := q
  subst ex
  obtain ⟨u, eu, rx⟩ := vals1 r
  subst eu
  cases rx
  obtain ⟨vs, ep, hl1, hk1, hz, hv, hat⟩ := keysO_src I hp ha
  have hkeys : vs.map (·.1) = ks.map Sum.inl := hk1.symm.trans hks
  have hl : vs.length = ks.length := by
    have e := congrArg List.length hkeys
    simpa using e
  refine Calls.call_function_entry PyProof.Rows.kind_sorted PyProof.Rows.plain_sorted PyProof.Rows.entry_sorted (PyProof.Rows.args_sorted1 _) ?_
  unfold Builtin.«sorted»
  refine wpAny_bind (m := checkCount "sorted" 1 1 _) (wpAny_pure ?_)
  refine wpAny_bind (PySem.W.kdu_collect (A := X.A.in1) (PySem.W.kdl_keys (knd := mixKind X.prog X.w) (kvs := vs) (ep := ep) (r := p)) (I.ok.hd hcalm) ⟨hv, hat⟩ hz fun h1 tk acc hk hacc => ?_)
  have hal : acc.toList.length = ks.length := by rw [Array.length_toList, hacc.1, hl]
  have hS : IntsAre acc.toList ks := ints_each hal fun j v e => by
    obtain ⟨k, x, e1, e2⟩ := hacc.2 j v (by rw [← Array.getElem?_toList]; exact e)
    have e3 : (ks.map (Sum.inl : Int → Key))[j]? = some k := by
      rw [← hkeys, List.getElem?_map, e1]
      all_goals rfl
    rw [List.getElem?_map] at e3
    cases e4 : ks[j]? with
    | none =>
      rw [e4] at e3
      cases e3
    | some y =>
      rw [e4] at e3
      cases e3
      obtain ⟨t, ev⟩ := Value.isInt_shape (k := y) (v := v) e2
      exact ⟨y, t, rfl, ev⟩
  have I1 : Inv X pins σ H { s with heap := h1, toks := tk } := I.kept hk
  refine wpAny_bind (wpAny_newList ?_ (by rw [hal, sizeLine_eq]; omega))
  have hoL : (h1.push (seqObj "list" acc.toList.toArray 0)).get? h1.objs.size = some (seqObj "list" acc.toList.toArray 0) := Heap.get?_push_size _ rfl
  show wpAny _ _ _ _ _ { s with heap := h1.push (seqObj "list" acc.toList.toArray 0), toks := tk }
  refine wpAny_bind (wpAny_holding (wpAny_call_entry PyProof.Rows.slot_list_sort ⟨_, hoL, rfl⟩ PyProof.Rows.entry_list_sort
    (list_sort_tree (s := { s with heap := h1.push (seqObj "list" acc.toList.toArray 0), toks := tk }) hoL hS (by rw [hal]; exact hlt) fun out ys a1 a2 a3 => ⟨_, rfl, ?_⟩) (PyProof.Rows.args_list_sort _)))
  obtain ⟨c, hc⟩ := PyProof.Rows.sortedHeap_at (vs := acc.toList) (out := out) hoL
  have hlen : (ys.map V.int).length ≤ sizeLine := by
    rw [List.length_map, a2.length_eq, sizeLine_eq]
    omega
  refine wpAny_pure ⟨_, rfl, .ref h1.objs.size, upd H h1.objs.size (.lst (ys.map V.int)), I1.laid (t' := tk) (fun b u e => ?_) (Nat.le_refl _)
    (show ObjOk X.prog X.w _ _ _ (.lst (ys.map V.int)) from ⟨hlen, out.toList, c, vals_of_ints a1, by rw [Array.toArray_toList]; exact hc⟩), rfl, q ys _ a2 a3 (I1.hok.fresh (Nat.le_refl _))⟩
  have hb : b < h1.objs.size := Heap.lt_size e
  rw [PyProof.Rows.sortedHeap_old (Nat.ne_of_lt hb) (by rw [size_push']; exact Nat.lt_succ_of_lt hb)]
  exact Heap.get?_push_of_some _ e
def rSortKS : List V → Hp → VK → Prop := fun xs H Q => ∃ (p a : Addr) (kvs : List (Key × V)) (ks : List Str), xs = [.ref p] ∧ H p = some (keysO p a) ∧ Rd H a (.dK kvs) ∧ kvs.map (·.1) = ks.map Sum.inr ∧ ks.length < 64 ∧
  ∀ (ys : List Str) (q : Addr), ys.Perm ks → H q = none → Q (.ref q) (upd H q (.lst (ys.map V.str)))
theorem cr_sortKS (hcalm : X.calm = true) : CallR X (.builtin "sorted") rSortKS := by
  intro pins s σ H xs us Q I r q
  obtain ⟨p, a, kvs, ks, ex, hp, ha, hks, hlt, q⟩ := q
  subst ex
  obtain ⟨u, eu, rx⟩ := vals1 r
  subst eu
  cases rx
  obtain ⟨vs, ep, hl1, hk1, hz, hv, hat⟩ := keysO_src I hp ha
  have hkeys : vs.map (·.1) = ks.map Sum.inr := hk1.symm.trans hks
  have hl : vs.length = ks.length := by
    have e := congrArg List.length hkeys
    simpa using e
  refine Calls.call_function_entry PyProof.Rows.kind_sorted PyProof.Rows.plain_sorted PyProof.Rows.entry_sorted (PyProof.Rows.args_sorted1 _) ?_
  unfold Builtin.«sorted»
  refine wpAny_bind (m := checkCount "sorted" 1 1 _) (wpAny_pure ?_)
  refine wpAny_bind (PySem.W.kdu_collect (A := X.A.in1) (PySem.W.kdl_keys (knd := mixKind X.prog X.w) (kvs := vs) (ep := ep) (r := p)) (I.ok.hd hcalm) ⟨hv, hat⟩ hz fun h1 tk acc hk hacc => ?_)
  have hal : acc.toList.length = ks.length := by rw [Array.length_toList, hacc.1, hl]
  have hS : StrsAre acc.toList ks := strs_at hal fun j v e => by
    obtain ⟨k, x, e1, e2⟩ := hacc.2 j v (by rw [← Array.getElem?_toList]; exact e)
    have e3 : (ks.map (Sum.inr : Str → Key))[j]? = some k := by
      rw [← hkeys, List.getElem?_map, e1]
      all_goals rfl
    rw [List.getElem?_map] at e3
    cases e4 : ks[j]? with
    | none =>
      rw [e4] at e3
      cases e3
    | some y =>
      rw [e4] at e3
      cases e3
      obtain ⟨t, ev⟩ := Value.isStrOf_shape (x := y) (v := v) e2
      exact ⟨y, t, rfl, ev⟩
  have I1 : Inv X pins σ H { s with heap := h1, toks := tk } := I.kept hk
  refine wpAny_bind (wpAny_newList ?_ (by rw [hal, sizeLine_eq]; omega))
  have hoL : (h1.push (seqObj "list" acc.toList.toArray 0)).get? h1.objs.size = some (seqObj "list" acc.toList.toArray 0) := Heap.get?_push_size _ rfl
  show wpAny _ _ _ _ _ { s with heap := h1.push (seqObj "list" acc.toList.toArray 0), toks := tk }
  refine wpAny_bind (wpAny_holding (wpAny_call_entry PyProof.Rows.slot_list_sort ⟨_, hoL, rfl⟩ PyProof.Rows.entry_list_sort
    (list_sort_treeK strKind_oneLt (s := { s with heap := h1.push (seqObj "list" acc.toList.toArray 0), toks := tk }) hoL hS.keysOf (fun v1 v2 rest e => keyKind_strs (by rw [← e]; exact hS)) (by rw [hal]; exact hlt) fun st1 hp1 hs1 => ⟨_, rfl, ?_⟩)
    (PyProof.Rows.args_list_sort _)))
  obtain ⟨ys, g1, g2, g3⟩ := sorted_out_str hS hp1 hs1
  obtain ⟨c, hc⟩ := PyProof.Rows.sortedHeap_at (vs := acc.toList) (out := (arrOf st1).map (·.2)) hoL
  have hlen : (ys.map V.str).length ≤ sizeLine := by
    rw [List.length_map, g2.length_eq, sizeLine_eq]
    omega
  refine wpAny_pure ⟨_, rfl, .ref h1.objs.size, upd H h1.objs.size (.lst (ys.map V.str)), I1.laid (t' := tk) (fun b u e => ?_) (Nat.le_refl _)
    (show ObjOk X.prog X.w _ _ _ (.lst (ys.map V.str)) from ⟨hlen, ((arrOf st1).map (·.2)).toList, c, vals_of_strs g1, by rw [Array.toArray_toList]; exact hc⟩), rfl, q ys _ g2 (I1.hok.fresh (Nat.le_refl _))⟩
  have hb : b < h1.objs.size := Heap.lt_size e
  rw [PyProof.Rows.sortedHeap_old (Nat.ne_of_lt hb) (by rw [size_push']; exact Nat.lt_succ_of_lt hb)]
  exact Heap.get?_push_of_some _ e
def rListK : List V → Hp → VK → Prop := fun xs H Q => ∃ (p a : Addr) (kvs : List (Key × V)), xs = [.ref p] ∧ H p = some (keysO p a) ∧ Rd H a (.dK kvs) ∧ ∀ q, H q = none → Q (.ref q) (upd H q (.lst (kvs.map fun kv => kV kv.1)))
theorem cr_listK (hcalm : X.calm = true) : CallR X (.type "list") rListK := by
  intro pins s σ H xs us Q I r q
  obtain ⟨p, a, kvs, ex, hp, ha, q⟩ := q
  subst ex
  obtain ⟨u, eu, rx⟩ := vals1 r
  subst eu
  cases rx
  obtain ⟨vs, ep, hl1, hk1, hz, hv, hat⟩ := keysO_src I hp ha
  have ek : (kvs.map fun kv => kV kv.1) = vs.map fun z => kV z.1 := by
    have e := congrArg (List.map kV) hk1
    rw [List.map_map, List.map_map] at e
    exact e
  refine PySem.W.kdl_call (PySem.W.kdl_keys (knd := mixKind X.prog X.w) (kvs := vs) (ep := ep) (r := p)) (I.ok.hd hcalm) ⟨hv, hat⟩ hz fun h1 tk acc c hk hD hacc => ?_
  have hv2 : Vals (vs.map fun z => kV z.1) acc.toList := keys_at (by rw [Array.length_toList]; exact hacc.1) fun j v e => hacc.2 j v (by rw [← Array.getElem?_toList]; exact e)
  exact ⟨.ref s.heap.objs.size, upd H s.heap.objs.size (.lst (kvs.map fun kv => kV kv.1)), I.laid (t' := tk) hk (Nat.le_refl _)
    ⟨by rw [List.length_map, hl1]; exact hz, acc.toList, c, by rw [ek]; exact hv2, by rw [Array.toArray_toList]; exact hD⟩, rfl, q _ (I.hok.fresh (Nat.le_refl _))⟩
end

/-! ### texts times ints -/
section
variable {X : Cx}
def rSRep : R2 := fun x y H Q => ∃ (z : Str) (k : Int), x = .str z ∧ y = .int k ∧ z.length ≤ 1000 ∧ 0 ≤ k ∧ k ≤ 1000 ∧ Q (.str (Txt.mul z k)) H
theorem op_srep : OpR X (binaryOp .Mult) rSRep := by
  intro pins s σ H x y v u Q I rx ry h
  obtain ⟨z, k, ex, ey, hz, h0, h1, q⟩ := h
  subst ex ey
  obtain ⟨t, e1⟩ := rx
  obtain ⟨t2, e2⟩ := ry
  subst e1 e2
  exact SB.mul (mulOk_of 1000 1000 hz (by omega) (by omega) (by decide) (by decide)) fun t3 j => ⟨.str (Txt.mul z k), H, I.tok _, ⟨t3, rfl⟩, q⟩
end

/-! ### how often a text stands in a list -/
def eqt (k : Str) (v : Value) : Bool := match v with
  | .str n _ => decide (n = k)
  | _ => false
theorem eqt_gives {k : Str} {t : Tok} : ∀ {us : List Value} {ns : List Str}, StrsAre us ns → ∀ y ∈ us, MeetsSeq.EqGives y (.str k t) (eqt k y)
  | _, _, .nil => fun y hy => by cases hy
  | _, _, .cons n t' h => fun y hy => by
    rcases List.mem_cons.mp hy with e | e
    · subst e
      exact fun prog w A Q E s q => wpAny_eqBool_str q
    · exact eqt_gives h y e
theorem eqt_count {k : Str} : ∀ {us : List Value} {ns : List Str}, StrsAre us ns → us.countP (eqt k) = ns.count k
  | _, _, .nil => rfl
  | _, _, .cons n t h => by
    rw [List.countP_cons, List.count_cons, eqt_count h]
    by_cases e : n = k
    · simp [eqt, e]
    · simp [eqt, e]
section
variable {X : Cx}
def rCntS (K : PySem.W.Frag) : V → List V → Hp → VK → Prop := fun x xs H Q => ∃ (p : Addr) (ns : List Str) (k : Str), x = .ref p ∧ xs = [.str k] ∧ SqL K H p (ns.map V.str) ∧ Q (.int (ns.count k : Nat)) H
theorem mt_countS : MtR X "list.count" (rCntS X.K) := by
  intro pins s σ H x xs v us Q I rx rxs h
  obtain ⟨p, ns, k, ex, exs, hs, q⟩ := h
  subst ex exs
  cases rx
  obtain ⟨u, eu, ru⟩ := rxs.one
  subst eu
  obtain ⟨t, et⟩ := ru
  subst et
  obtain ⟨its, rv, ⟨⟨cls, dd, data, sl⟩, n, ho, hc, hdn, hd⟩, hlen⟩ := I.list hs
  simp only at hc hd
  subst hc hd
  have hi := rv.strs
  refine call_meets PySem.F.slot_list_count ⟨_, ho, rfl⟩ PySem.F.entry_list_count (PySem.F.args_list_count_2 _ _)
    (SeqAt.list_countAt p its.toArray n dd sl (.str k t) (eqt k)) ⟨ho, fun y hy => (eqt_gives hi y (by simpa using hy)).at _ _, ?_⟩
  have ec : its.toArray.toList.countP (eqt k) = ns.count k := eqt_count hi
  refine ⟨.int (ns.count k : Nat), H, I.tok _, ⟨s.toks, ?_⟩, q⟩
  rw [← ec]
theorem cntK (K : PySem.W.Frag) (h : X.K = K := by rfl) : MtR X "list.count" (rCntS K) := by
  subst h
  exact mt_countS
end
end Fc
/-! set(list of ints); sorted of tuples that begin with unlike ints; enumerate(text). -/
namespace Fc
open PySem PySem.Spec PyProof.Rows L2

/-! ### enumerate(text) -/
/-- the signs of x, each in a new pair with its place -/
def ItE (x : Str) : It :=
  ⟨fun i _ => i < x.cps.size, fun i H v H' => ∃ T c, v = .ref T ∧ H T = none ∧ H' = upd H T (.tup [.int (i : Nat), .str ⟨#[c]⟩]) ∧ x.cps[i]? = some c, fun i _ => i = x.cps.size⟩
theorem turn_enumS {P : Program} {w : World} {K : PySem.W.Frag} {elts : List Expr} {kk : Nat} {tpos : Pos} (x : Str) (t : Tok) (e it : Addr) :
    Turn P w K (.Tuple elts kk tpos) (ItE x) [e, it] e (fun i h => (∃ old, IsEnum h e it ((i : Nat) : Int) old) ∧ h.IsStrIter it (strIterType x) x t i ∧ e ≠ it) where
  mem := by simp
  obj := fun i h st b hb => by
    obtain ⟨⟨old, he⟩, ⟨o, ho, hc, hd⟩, _⟩ := st
    have hb2 : b = e ∨ b = it := by simpa using hb
    rcases hb2 with z | z
    · subst z
      exact ⟨_, he, fun v q => nomatch q⟩
    · subst z
      exact ⟨o, ho, fun v q => by rw [hd] at q; cases q⟩
  keep := fun i h h2 st k => by
    obtain ⟨⟨old, he⟩, ⟨o, ho, r⟩, hne⟩ := st
    exact ⟨⟨old, k e (by simp) _ he⟩, ⟨o, k it (by simp) o ho, r⟩, hne⟩
  item := by
    intro X hP hw hK hc i pins s σ H E I hf st hg
    subst hP hw hK
    obtain ⟨⟨old, he⟩, hit, hne⟩ := st
    have hel : e < s.heap.objs.size := Heap.lt_size he
    have hil : it < s.heap.objs.size := by
      obtain ⟨_, q, _⟩ := id hit
      exact Heap.lt_size q
    refine wpAny_pyNext_enum_itemC (Draws.text (A := X.A.in1) (I.ok.hd hc) it x t) he hit hg hne (fun z => hne (List.mem_singleton.mp z)) fun y h2 tk hP ho hit2 hT hsz hk => ?_
    obtain ⟨c, u, hcx, ey⟩ := hP
    subst ey
    refine ⟨_, rfl, wpAny_letOwnedTupleGo_enum (s := { s with heap := h2, toks := tk + 1 }) ho fun h3 he3 sb => ?_⟩
    have hT2 : h3.get? s.heap.objs.size = some { cls := .type "tuple", data := .seq #[.int i tk, .str ⟨#[c]⟩ u] } := (sb.2 _ (Nat.ne_of_gt hel)).trans hT
    have new : ObjOk X.prog X.w (upd H s.heap.objs.size (.tup [.int (i : Nat), .str ⟨#[c]⟩])) h3 s.heap.objs.size (.tup [.int (i : Nat), .str ⟨#[c]⟩]) :=
      ⟨by show 2 ≤ sizeLine; decide, [.int i tk, .str ⟨#[c]⟩ u], .cons ⟨_, rfl⟩ (.cons ⟨_, rfl⟩ .nil), ⟨_, hT2, rfl, _, rfl⟩⟩
    have I1 : Inv X pins σ (upd H s.heap.objs.size (.tup [.int (i : Nat), .str ⟨#[c]⟩])) { s with heap := h3, toks := tk + 1 } :=
      I.turnedNew (ch := [e, it]) (fun b ob hb q => (sb.2 b (fun z => hb (by simp [z]))).trans (hk b ob (fun z => hb (by simp [z])) (fun z => hb (by simp [z])) q)) hf (Nat.le_refl _) new
    refine ⟨.ref s.heap.objs.size, _, I1, rfl, ⟨_, c, rfl, I.hok.fresh (Nat.le_refl _), rfl, hcx⟩, ⟨⟨.str ⟨#[c]⟩ u, ?_⟩, ?_, hne⟩, fun b hb => ?_⟩
    · have e1 : ((i + 1 : Nat) : Int) = (i : Int) + 1 := by omega
      rw [e1]
      exact he3
    · obtain ⟨o, q1, q2⟩ := hit2
      exact ⟨o, (sb.2 it (Ne.symm hne)).trans q1, q2⟩
    · have hb2 : b = e ∨ b = it := by simpa using hb
      have hlt : b < s.heap.objs.size := by
        rcases hb2 with z | z
        · rw [z]; exact hel
        · rw [z]; exact hil
      rw [upd_ne (Nat.ne_of_lt hlt)]
      exact (hf b hb).1
  done := by
    intro X hP hw hK hc i pins s σ H E I hf st hg
    subst hP hw hK
    obtain ⟨⟨old, he⟩, hit, hne⟩ := st
    obtain ⟨f0, f1, f2, f3, f4, f5⟩ := hf it (by simp)
    obtain ⟨g0, g1, g2, g3, g4, g5⟩ := hf e (by simp)
    have hn : i = x.cps.size := hg
    subst hn
    exact wpAny_pyNext_enum_endD (Draws.text (A := X.A.in1) (I.ok.hd hc) it x t) he hit fun h2 hx => ⟨rfl, I.turned (t' := s.toks) (fun b o hb q => hx b o hb q) f0 f1 f3 f4 f5⟩
  self := fun A i s Q E st h => by
    obtain ⟨⟨_, he⟩, _⟩ := st
    exact wpAny_pyIter_enum he h
def iEnumS (te : TE) : TI := fun σ H R => te σ H fun v H1 => ∃ x, v = .str x ∧ R (ItE x) H1
theorem pi_enumS {X : Cx} {e : Expr} {te : TE} {p pos tpos : Pos} {elts : List Expr} {kk : Nat} (hg : Gl X "enumerate") (hm : X.mg "enumerate" = none) (he : PE X e te) (hs : starEach [e] X.env = (false, eval e X.env) :: starEach [] X.env := by rfl)
    (hs2 : starEach [e] X.env = [(false, eval e X.env)] := by rfl) : PI X (.Tuple elts kk tpos) (.Call (.Name "enumerate" p) [e] [] pos) (iEnumS te) := by
  have ha : PA X [e] (tCons te tNil) := pa_cons he pa_nil hs
  refine ⟨fun pins s σ H R I h => ?_⟩
  have h2 : (tCons te tNil) σ H (fun vs H1 => ∃ x, vs = [.str x] ∧ R (ItE x) H1) := by
    show te σ H fun v H1 => ∃ x, [v] = [V.str x] ∧ R (ItE x) H1
    have e1 : (fun (v : V) (H1 : Hp) => ∃ x, v = V.str x ∧ R (ItE x) H1) = fun v H1 => ∃ x, [v] = [V.str x] ∧ R (ItE x) H1 := by
      funext v H1
      simp
    rw [← e1]
    exact h
  refine Call_ (ld_blt I hg hm boot_enumerate (PyProof.Rows.callWith_type1 (thn (ha.run pos pins s σ H _ I h2) fun us s1 ⟨vs, H1, I1, r1, q1⟩ => ?_) hs2 rfl))
  obtain ⟨x, ex, q⟩ := q1
  subst ex
  cases r1 with
  | cons r rr =>
    cases rr
    obtain ⟨t, et⟩ := r
    subst et
    refine call_enumerate_str fun h1 he1 hit hsz hk => wpAny_pyIter_enum he1 ?_
    have I2 : Inv X pins σ H1 { s1 with heap := h1 } := I1.kept (t' := s1.toks) hk
    refine ⟨s1.heap.objs.size + 1, [s1.heap.objs.size + 1, s1.heap.objs.size], _, _, H1, rfl, I2, turn_enumS x t (s1.heap.objs.size + 1) s1.heap.objs.size, ⟨⟨.none, he1⟩, hit, Nat.succ_ne_self _⟩, fun b hb => ?_, q⟩
    have hle : s1.heap.objs.size ≤ b := by
      have z : b = s1.heap.objs.size + 1 ∨ b = s1.heap.objs.size := by simpa using hb
      rcases z with z | z
      · rw [z]; exact Nat.le_add_right _ _
      · rw [z]; exact Nat.le_refl _
    exact I1.fpOk hle (I1.hok.fresh hle)

/-! ### sorted of tuples that begin with unlike ints: some arrangement of them -/
/-- v is a pair of the int m and an object -/
def TupB (h : Heap) (v : Value) (m : Int) : Prop := ∃ a o t b n, v = .ref a ∧ h.get? a = some o ∧ o.cls = .type "tuple" ∧ o.data = .seq #[Value.int m t, .ref b] n
theorem TupB.keeps {h h2 : Heap} {v : Value} {m : Int} (p : TupB h v m) (k : ∀ b o, h.get? b = some o → o.cls = .type "tuple" → h2.get? b = some o) : TupB h2 v m := by
  obtain ⟨a, o, t, r, n, e, ho, hc, hd⟩ := p
  exact ⟨a, o, t, r, n, e, k _ _ ho hc, hc, hd⟩
def ltBy (k : Value → Int) (v u : Value) : Bool := decide (k v < k u)
theorem swo_by (k : Value → Int) : SrtO.Swo (ltBy k) := by
  refine ⟨fun x y h => ?_, fun x y z h1 h2 => ?_⟩
  · have a := of_decide_eq_true h
    exact decide_eq_false (by omega)
  · have a := of_decide_eq_false h1
    have b := of_decide_eq_false h2
    exact decide_eq_false (by omega)
section
variable {prog : Program} {w : World} {A : Around} {E : Value → Shared → Prop} {s : Shared}
theorem eqBool_one {b : Addr} {Q : Bool → Shared → Prop} (h : Q true s) : wpAny (model prog w) A (eqBool (.ref b) (.ref b)) Q E s := by
  unfold eqBool
  refine wpAny_holding ?_
  rw [if_pos (by simp)]
  exact wpAny_bind (wpAny_rule (wpAny_pure h))
theorem tupB_cmp {vs : List Value} {k : Value → Int} (hp : ∀ v ∈ vs, TupB s.heap v (k v)) (inj : ∀ v ∈ vs, ∀ u ∈ vs, k v = k u → v = u) : SrtO.Cmp prog w A s (tuples' true) (fun p => p.1 ∈ vs) (SrtO.lt2 (ltBy k)) := by
  intro p q hm hm2
  have h1 := hp _ hm
  have h2 := hp _ hm2
  show wpAny (model prog w) A (keyLt' (tuples' true) p.1 q.1) (fun r s2 => s2 = s ∧ r = decide (k p.1 < k q.1)) (fun _ _ => False) s
  by_cases e : k p.1 = k q.1
  · have ev := inj _ hm _ hm2 e
    rw [← ev]
    obtain ⟨a, o, t, b, n, ea, ho, hc, hd⟩ := h1
    have e3 : decide (k p.1 < k p.1) = false := decide_eq_false (Int.lt_irrefl _)
    rw [e3, ea]
    refine PySem.W.kat_lt ho hd ho hd ?_
    show PySem.W.KatLex prog w A true (decide (2 < 2)) _ [(.int (k p.1) t, .int (k p.1) t), (.ref b, .ref b)] 0 s
    refine PySem.W.kat_cons (wpAny_eqBool_int ?_)
    rw [beq_self_eq_true]
    exact PySem.W.kat_yes (PySem.W.kat_cons (eqBool_one (PySem.W.kat_yes (PySem.W.kat_nil ⟨rfl, rfl⟩))))
  · obtain ⟨a, o, t, b, n, ea, ho, hc, hd⟩ := h1
    obtain ⟨a2, o2, t2, b2, n2, ea2, ho2, hc2, hd2⟩ := h2
    generalize k p.1 = x at *
    generalize k q.1 = y at *
    rw [ea, ea2]
    refine PySem.W.kat_lt ho hd ho2 hd2 ?_
    show PySem.W.KatLex prog w A true (decide (2 < 2)) _ [(.int x t, .int y t2), (.ref b, .ref b2)] 0 s
    refine PySem.W.kat_cons (wpAny_eqBool_int ?_)
    rw [beq_eq_false_iff_ne.mpr e]
    exact PySem.W.kat_no (oneLt_int ⟨rfl, rfl⟩)
theorem firstsB {h : Heap} {k : Value → Int} : ∀ {vs : List Value}, (∀ v ∈ vs, TupB h v (k v)) → ∃ fs : List Value, PySem.W.KatTups h vs fs ∧ fs.length = vs.length ∧ ∀ f ∈ fs, ∃ x t, f = Value.int x t
  | [], _ => ⟨[], PySem.W.KatTups.nil, rfl, fun _ hm => by simp at hm⟩
  | v :: vs, hp => by
    obtain ⟨fs, h1, h2, h3⟩ := firstsB (vs := vs) fun u hm => hp u (List.mem_cons_of_mem _ hm)
    obtain ⟨a, o, t, b, n, e, ho, hc, hd⟩ := hp v List.mem_cons_self
    refine ⟨.int (k v) t :: fs, ?_, by simp [h2], fun f hm => ?_⟩
    · rw [e]
      exact PySem.W.KatTups.cons ho hc hd (by rw [← e]; rfl) h1
    · rcases List.mem_cons.mp hm with z | z
      · exact ⟨_, t, z⟩
      · exact h3 f z
theorem tupB_sortable {a : Addr} {vs : List Value} {k : Value → Int} (h0 : 0 < vs.length) (hp : ∀ v ∈ vs, TupB s.heap v (k v)) (inj : ∀ v ∈ vs, ∀ u ∈ vs, k v = k u → v = u) (ha : ∀ o, s.heap.get? a = some o → o.cls ≠ .type "tuple") :
    SrtO.SortableO prog w A s a vs (ltBy k) := by
  intro h2 keep
  have hp2 : ∀ v ∈ vs, TupB h2 v (k v) := fun v hm => (hp v hm).keeps fun b o e c => keep b o (fun z => by subst z; exact ha o e c) e
  obtain ⟨fs, g1, g2, g3⟩ := firstsB hp2
  refine ⟨tuples' true, fun Q E hq => ?_, tupB_cmp hp2 inj⟩
  refine PySem.W.kat_kind (T := .type "int") g1 (by omega) (fun f hm => ?_) (by rfl) ?_
  · obtain ⟨x, t, e⟩ := g3 f hm
    subst e
    exact PySem.W.Looks.now
  · have e : (Value.type "int" != Value.type "tuple") = true := by first | decide +kernel | rfl | decide
    rw [e]
    exact hq
theorem sorted_tupB {l : Addr} {vs : List Value} {k : Value → Int} {Q : Value → Shared → Prop} (hl : s.heap.IsList l vs.toArray) (hz : vs.length ≤ sizeLine) (hp : ∀ v ∈ vs, TupB s.heap v (k v)) (inj : ∀ v ∈ vs, ∀ u ∈ vs, k v = k u → v = u)
    (h : ∀ (h2 : Heap) (d : Addr) (out : List Value), out.Perm vs → (∀ b o, s.heap.get? b = some o → h2.get? b = some o) → s.heap.objs.size ≤ d → (∃ n, h2.get? d = some (seqObj "list" out.toArray n)) → Q (.ref d) { s with heap := h2 }) :
    wpAny (model prog w) A (call (.builtin "sorted") [.ref l]) Q E s := by
  refine SrtO.sorted_ord (swo_by k) hl hz (fun g2 h1 a ha kk => ?_) fun out hs hb => ?_
  · refine tupB_sortable (s := { s with heap := h1 }) (by omega) (fun v hm => (hp v hm).keeps fun b o e _ => (kk b o e).2) inj fun o e => ?_
    have e2 : some o = some (seqObj "list" vs.toArray 0) := e.symm.trans ha
    cases e2
    intro c
    exact absurd (Value.type.inj c) (by decide)
  · exact h _ _ out hb.perm (fun b o e => PyProof.Rows.sortedAll_old e) (Nat.le_succ _) (PyProof.Rows.sortedAll_at s.heap vs out.toArray)
end
section
variable {X : Cx}
def rSortedTI (K : PySem.W.Frag) : List V → Hp → VK → Prop := fun vs H Q => ∃ (a : Addr) (xs : List V) (k : V → Int), vs = [V.ref a] ∧ SqL K H a xs ∧ (∀ x ∈ xs, ∃ t b, x = V.ref t ∧ H t = some (.tup [.int (k x), .ref b])) ∧ (∀ x ∈ xs, ∀ y ∈ xs, k x = k y → x = y) ∧
  ∀ ys p, ys.Perm xs → H p = none → Q (.ref p) (upd H p (.lst ys))
theorem cr_sortedTI : CallR X (.builtin "sorted") (rSortedTI X.K) := by
  intro pins s σ H vs us Q I r h
  obtain ⟨a, xs, k, ev, hs, hx, inj, q⟩ := h
  subst ev
  obtain ⟨its, rv, hl, hz⟩ := I.list hs
  obtain ⟨u, eu, ru⟩ := vals1 r
  subst eu
  cases ru
  obtain ⟨e1, e2⟩ := refs_back rv fun x m => by
    obtain ⟨t, b, e, _⟩ := hx x m
    exact ⟨t, e⟩
  have mem : ∀ v ∈ its, backV v ∈ xs := fun v hv => by
    rw [e1]
    exact List.mem_map.mpr ⟨v, hv, rfl⟩
  refine sorted_tupB (k := fun u => k (backV u)) hl.isList (by rw [← rv.length]; exact hz) (fun v hv => ?_) (fun v hv u hu e => ?_) fun h2 d out pm kp hd hn => ?_
  · obtain ⟨t, et⟩ := e2 v hv
    subst et
    obtain ⟨t2, b, e, ht⟩ := hx _ (mem _ hv)
    cases e
    obtain ⟨_, its2, r2, o, ho, hc, n, hdt⟩ := I.hok _ _ ht
    obtain ⟨u1, u2, eu, ri, rj⟩ := vals2 r2
    subst eu
    obtain ⟨t1, et⟩ := ri
    subst et
    cases rj
    exact ⟨t, o, t1, b, n, rfl, ho, hc, hdt⟩
  · have q := inj _ (mem v hv) _ (mem u hu) e
    obtain ⟨t, et⟩ := e2 v hv
    obtain ⟨t2, et2⟩ := e2 u hu
    subst et et2
    cases q
    rfl
  · have h3 : ∀ u ∈ out, ∃ a, u = Value.ref a := fun u hu => e2 u (pm.mem_iff.mp hu)
    obtain ⟨n, hn⟩ := hn
    have hb : (out.map backV).Perm xs := by
      rw [e1]
      exact pm.map _
    refine ⟨.ref d, upd H d (.lst (out.map backV)), I.laid (t' := s.toks) kp hd ⟨?_, out, n, vals_back h3, hn⟩, rfl, q _ d hb (I.hok.fresh hd)⟩
    rw [hb.length_eq]
    exact hz
end
end Fc
/-! set(list of ints). -/
namespace Fc
open PySem PySem.Spec PyProof.Rows L2
section
variable {P : Program} {w : World} {A : Around} {E : Value → Shared → Prop} {s : Shared}
abbrev set0 (w : World) : Obj := { cls := .type "set", dict := none, data := .set #[] 0 (.fresh 0 0 (!w.params.followText "set-order")) }
theorem call_set_ints {l : Addr} {items : Array Value} (ns : List Int) {Q : Value → Shared → Prop} (hh : A.handled = none) (hl : s.heap.IsList l items) (hit : IntsAre items.toList ns) (hb : ns.length + 1 < scanBound)
    (h : ∀ (h2 : Heap) (tk c : Nat), SetR w h2 s.heap.objs.size (fun j => decide (j ∈ ns)) c → c ≤ ns.length → (∀ b o, s.heap.get? b = some o → h2.get? b = some o) → Q (.ref s.heap.objs.size) { s with heap := h2, toks := tk }) :
    wpAny (model P w) A (call (.type "set") [.ref l]) Q E s := by
  have hisz : items.size = ns.length := by
    have q := IntsAre.length hit
    simpa using q
  obtain ⟨c, tl, hmro⟩ := F.called_set.mro
  have f1 := F.called_set.made
  have f2 := F.called_set.sub
  refine wpAny_call (codeAny_of_tree ?_)
  show wpAny _ _ (callAny (.type "set") _) _ _ _
  refine wpAny_pure ⟨Code.quiet_builtin _ (by decide +kernel), codeAny_builtin F.entry_type_call ?_⟩
  rw [Around.under_plain (weight_type_call_type "set" [.ref l] []) rfl]
  have f3 := F.called_set.notType
  have f4 := F.called_set.canCreate
  have f5 := F.typeCall_set_1 (.ref l)
  repeat (any_goals (first | assumption | wp_step))
  refine codeAny_mono (code_set_led1 (.ref l) (E := E) (Q₁ := fun obj s1 => obj = .ref s.heap.objs.size ∧ s1 = { s with heap := s.heap.push (set0 w) }) ⟨rfl, rfl⟩) fun r s1 hr => ?_
  cases r with
  | error e => exact hr
  | ok fl =>
    cases fl with
    | ret obj =>
      obtain ⟨rfl, rfl⟩ := hr
      have hS : (s.heap.push (set0 w)).get? s.heap.objs.size = some (set0 w) := Heap.get?_push_size _ rfl
      have hT : Shared.TypeIs { s with heap := s.heap.push (set0 w) } (.ref s.heap.objs.size) "set" := ⟨_, hS, rfl⟩
      have f6 := F.called_set.init.lookup
      have f7 := F.called_set.init.bind (.ref s.heap.objs.size)
      repeat (any_goals (first | assumption | wp_step))
      refine codeAny_mono (codeAny_call_builtin (R := wants (fun r s2 => r = .none ∧ ∃ h2 tk c, s2 = { s with heap := h2, toks := tk } ∧ SetR w h2 s.heap.objs.size (fun j => decide (j ∈ ns)) c ∧ c ≤ ns.length ∧
          (∀ b o, s.heap.get? b = some o → h2.get? b = some o)) E) F.called_set.init.plain F.entry_set_init (check_set_init_1 hT ?_)) fun r2 s2 hr2 => ?_
      · obtain ⟨ol, hol, hcl, nl, hdl⟩ := hl
        obtain ⟨ocls, odict, odata, oslots⟩ := ol
        simp only at hcl hdl
        subst hcl hdl
        have hol2 : (s.heap.push (set0 w)).get? l = some { cls := .type "list", dict := odict, data := .seq items nl, slots := oslots } := Heap.get?_push_of_some _ hol
        have g1 := F.sub_list_set
        have g2 := F.sub_list_frozenset
        have hne : (Value.type "list" == Value.type "dict") = false := by decide
        have hl1 : (s.heap.push (set0 w)).IsList l items := ⟨_, hol2, rfl, nl, rfl⟩
        unfold Builtin.«set.__init__» noKeywords Builtin.Frozenset.updateFrom
        generalize hPI : pyIter = PI
        wp_walk
        subst hPI
        refine wpAny_pyIter_list hl1 ?_
        refine wpAny_bind (wpAny_runValue ?_)
        have hlS : l < s.heap.objs.size := Heap.lt_size hol
        have hh3 : A.in1.in1.in1.handled = none := by simp [hh]
        have hneI : l ≠ (s.heap.push (set0 w)).objs.size := by
          rw [Heap.size_push]
          exact Nat.ne_of_lt (Nat.lt_succ_of_lt hlS)
        have hSf : s.heap.objs.size ∉ [(s.heap.push (set0 w)).objs.size, l] := by
          rw [Heap.size_push]
          simp only [List.mem_cons, List.not_mem_nil, or_false, not_or]
          exact ⟨Nat.ne_of_lt (Nat.lt_succ_self _), Nat.ne_of_gt hlS⟩
        have hval : ∀ (i : Nat) (v : Value), items[i]? = some v → ∃ k t, ns[i]? = some k ∧ v = .int k t := fun i v hv => by
          have hi : i < ns.length := by
            rw [← hisz]
            exact (Array.getElem?_eq_some_iff.mp hv).1
          obtain ⟨t, e⟩ := PyProof.Rows.IntsAre.int_at hit i v (by rw [Array.getElem?_toList]; exact hv)
          refine ⟨ns[i], t, List.getElem?_eq_getElem hi, ?_⟩
          rw [e, List.getD_eq_getElem?_getD, List.getElem?_eq_getElem hi]
          rfl
        refine set_update_ints ((Walks.list hh3 _ l hneI items).toS) s.heap.objs.size hSf ns hisz hb hval (items.size - 0) 0 _ (by omega) (Nat.zero_le _)
          ⟨⟨_, Heap.get?_push_size _ rfl, rfl, rfl⟩, (hl1.push _)⟩ ?hS0 ?hR
        case hS0 =>
          exact ⟨0, Nat.le_refl 0, setR_new_at (Heap.get?_push_of_some _ hS)⟩
        case hR =>
          intro s3 c3 hm hc3 hS3
          obtain ⟨h3, g3, d3, tk3, os3⟩ := s3
          have eg : g3 = s.gens := hm.gens
          have ed : d3 = s.drawn := hm.drawn
          have eo : os3 = s.os := hm.os
          subst eg ed eo
          show wpAny _ _ _ _ _ _
          refine wpAny_pure ?_
          show wpAny _ _ (ret Value.none) _ _ _
          rw [hisz] at hc3
          refine wpAny_pure ⟨rfl, h3, tk3, c3, rfl, hS3, hc3, fun b o e => ?_⟩
          have hb0 : b < s.heap.objs.size := Heap.lt_size e
          have hb1 : b ≠ s.heap.objs.size := Nat.ne_of_lt hb0
          have hb2 : b ≠ (s.heap.push (set0 w)).objs.size := by
            rw [Heap.size_push]
            exact Nat.ne_of_lt (Nat.lt_succ_of_lt hb0)
          exact hm.heap b o (by simp only [List.mem_cons, List.not_mem_nil, or_false, not_or]; exact ⟨hb1, hb2⟩) (Heap.get?_push_of_some _ (Heap.get?_push_of_some _ e))
      · cases r2 with
        | error e => exact hr2
        | ok fl2 =>
          cases fl2 with
          | ret r =>
            obtain ⟨rfl, h2, tk, c, rfl, q1, q2, q3⟩ := hr2
            repeat (any_goals (first | assumption | wp_step))
            exact h _ _ _ q1 q2 q3
          | _ => exact hr2.elim
    | _ => exact hr.elim
end
section
variable {X : Cx}
/-- set(l) of ints that lie among fewer than 64 -/
def rSetI (K : PySem.W.Frag) (w : World) : List V → Hp → VK → Prop := fun xs H Q => ∃ (l : Addr) (ns L : List Int), xs = [V.ref l] ∧ SqL K H l (ns.map V.int) ∧ ns.length ≤ 4000 ∧ (∀ k ∈ ns, k ∈ L) ∧ L.length < 64 ∧
  ∀ p c, H p = none → c < 64 → Q (.ref p) (upd H p (SetO w p (fun j => decide (j ∈ ns)) c))
theorem nodup_le {α : Type} [DecidableEq α] : ∀ {a b : List α}, a.Nodup → (∀ x ∈ a, x ∈ b) → a.length ≤ b.length
  | [], _, _, _ => Nat.zero_le _
  | x :: a, b, hn, hs => by
    obtain ⟨h1, h2⟩ := List.nodup_cons.mp hn
    have hx := hs x List.mem_cons_self
    have q := nodup_le (a := a) (b := b.erase x) h2 fun y hy => (List.mem_erase_of_ne (fun e => h1 (by rw [← e]; exact hy))).mpr (hs y (List.mem_cons_of_mem _ hy))
    rw [List.length_erase_of_mem hx] at q
    have : 0 < b.length := List.length_pos_of_mem hx
    rw [List.length_cons]
    omega
theorem cr_setI (hc : X.calm = true) : CallR X (.type "set") (rSetI X.K X.w) := by
  intro pins s σ H xs us Q I r h
  obtain ⟨l, ns, L, ex, hs, hn, hL, h64, q⟩ := h
  subst ex
  rw [Vals.ref1 r]
  obtain ⟨its, rv, hl, hz⟩ := I.list hs
  refine call_set_ints ns (I.ok.hd hc) hl.isList (by simpa using ints_of_vals rv) (by show ns.length + 1 < 4096; omega) fun h2 tk c R hcl kp => ?_
  have hlt : c < 64 := by
    obtain ⟨o, es, ep, t, _, _, _, _, nd, hm, _, _, en, _⟩ := R
    have e1 : (es.toList.map keyOf).length = c := by rw [List.length_map, Array.length_toList]; exact en
    have e2 := nodup_le (b := L) nd fun k hk => hL k (of_decide_eq_true ((hm k).mpr hk))
    omega
  have hf : H s.heap.objs.size = none := I.hok.fresh (Nat.le_refl _)
  exact ⟨.ref s.heap.objs.size, _, I.laid (t' := tk) kp (Nat.le_refl _) (setO_new R), rfl, q _ c hf hlt⟩
end
end Fc
/-! Data: texts as codes, heaps that grow, what the layer's readings say in short. -/
namespace Fc
open PySem PySem.Spec PyProof.Rows L2 Evl
/-! ### texts -/
abbrev Z (l : List Nat) : Str := ⟨l.toArray⟩
theorem Z_of (x : Str) : Z x.cps.toList = x := by
  obtain ⟨c⟩ := x
  simp
theorem Z_len (l : List Nat) : (Z l).length = l.length := by simp [Str.length]
theorem len_of (x : Str) : x.length = x.cps.toList.length := by simp [Str.length]
theorem Z_inj {a b : List Nat} : Z a = Z b ↔ a = b := by
  constructor
  · intro h
    have e := congrArg (fun x : Str => x.cps.toList) h
    simpa using e
  · intro h
    rw [h]
theorem str_inj {x y : Str} : x = y ↔ x.cps.toList = y.cps.toList := by
  constructor
  · intro h
    rw [h]
  · intro h
    rw [← Z_of x, ← Z_of y, h]
theorem Z_app (a b : List Nat) : Z a ++ Z b = Z (a ++ b) := by
  apply str_inj.mpr
  show (a.toArray ++ b.toArray).toList = (a ++ b).toArray.toList
  simp
theorem app_codes (x y : Str) : (x ++ y).cps.toList = x.cps.toList ++ y.cps.toList := by
  show (x.cps ++ y.cps).toList = _
  simp
theorem list_rev_ind {α : Type} {C : List α → Prop} (nil : C []) (snoc : ∀ l a, C l → C (l ++ [a])) (l : List α) : C l := by
  have h : ∀ m : List α, C m.reverse := by
    intro m
    induction m with
    | nil => exact nil
    | cons a r ih =>
      rw [List.reverse_cons]
      exact snoc _ _ ih
  have e := h l.reverse
  rwa [List.reverse_reverse] at e
/-! ### heaps -/
theorem Same.ex {H H' : Hp} (s : Same H H') : Ex H H' := s
theorem ex_new {H0 H : Hp} {p : Addr} {o : HO} (s : Ex H0 H) (h : H p = none) : Ex H0 (upd H p o) := s.trans (Ex.new h)
theorem ex_own {H0 H : Hp} {p : Addr} {o : HO} (s : Ex H0 H) (h : H0 p = none) : Ex H0 (upd H p o) := s.mut h
abbrev LI (H : Hp) (a : Addr) (ns : List Int) : Prop := H a = some (.lst (ns.map V.int))
abbrev LS (H : Hp) (a : Addr) (ws : List Str) : Prop := H a = some (.lst (ws.map V.str))
theorem sizeLine_of {n : Nat} (h : n ≤ 1000000) : n ≤ sizeLine := by
  rw [sizeLine_eq]
  omega
theorem sizeLine_lt {n : Nat} (h : n ≤ 1000000) : n < sizeLine := by
  rw [sizeLine_eq]
  omega
/-! ### values, tests -/
section
variable {K : PySem.W.Frag} {σ : L2.St} {H : Hp} {ta tb tc te : TE} {x y z : V} {t : TT}
theorem ev_lenS {x : Str} (ha : Ev ta σ H (.str x)) (hx : x.length ≤ 1000000) : Ev (tCB (fun xs H Q => ∃ z, xs = [V.str z] ∧ z.length ≤ sizeLine ∧ Q (.int z.length) H) (tCons ta tNil)) σ H (.int (x.length : Int)) :=
  ev_cb (ea_cons ha ea_nil) fun H1 _ Q q => ⟨x, rfl, sizeLine_of hx, q H1 (Ex.refl H1)⟩
theorem ev_lenL {p : Addr} {xs : List V} (ha : Ev ta σ H (.ref p)) (h : SqL K H p xs) : Ev (tCB (rLenQ K) (tCons ta tNil)) σ H (.int (xs.length : Int)) :=
  ev_cb (ea_cons ha ea_nil) fun H1 e Q q => ⟨p, xs, rfl, .inl (ex_l e h), q H1 (Ex.refl H1)⟩
theorem ev_lenD {p : Addr} {kvs : List (Key × V)} (ha : Ev ta σ H (.ref p)) (h : H p = some (.dK kvs)) : Ev (tCB (fun xs H Q => ∃ a kvs, xs = [V.ref a] ∧ H a = some (.dK kvs) ∧ Q (.int kvs.length) H) (tCons ta tNil)) σ H (.int (kvs.length : Int)) :=
  ev_cb (ea_cons ha ea_nil) fun H1 e Q q => ⟨p, kvs, rfl, e p _ h, q H1 (Ex.refl H1)⟩
theorem rv_addS {x y : Str} (h : x.length + y.length ≤ 1000000) : RV (fun x y H Q => ∃ i j, x = V.str i ∧ y = V.str j ∧ i.length + j.length ≤ sizeLine ∧ Q (.str (i ++ j)) H) (.str x) (.str y) H (.str (x ++ y)) :=
  fun H1 _ Q q => ⟨x, y, rfl, rfl, sizeLine_of h, q H1 (Ex.refl H1)⟩
theorem rv_sgn {c : Nat} {z : Str} : RV (fun x y H Q => ∃ (c : Nat) (z : Str), x = .str ⟨#[c]⟩ ∧ y = .str z ∧ Q (.bl (decide (c ∈ z.cps.toList))) H) (.str ⟨#[c]⟩) (.str z) H (.bl (decide (c ∈ z.cps.toList))) :=
  fun H1 _ Q q => ⟨c, z, rfl, rfl, q H1 (Ex.refl H1)⟩
theorem rv_nsgn {c : Nat} {z : Str} : RV (fun x y H Q => ∃ (c : Nat) (z : Str), x = .str ⟨#[c]⟩ ∧ y = .str z ∧ Q (.bl (!decide (c ∈ z.cps.toList))) H) (.str ⟨#[c]⟩) (.str z) H (.bl (!decide (c ∈ z.cps.toList))) :=
  fun H1 _ Q q => ⟨c, z, rfl, rfl, q H1 (Ex.refl H1)⟩
theorem ev_chain {r r2 : R2} {a b : Bool} (ha : Ev ta σ H x) (hb : Ev tb σ H y) (hr : RV r x y H (.bl a)) (hc : a = true → Ev tc σ H z) (hr2 : a = true → RV r2 y z H (.bl b)) : Ev (tChain r r2 ta tb tc) σ H (.bl (a && b)) := fun H1 e Q q =>
  ha H1 e _ fun H2 e2 => hb H2 (e.trans e2) _ fun H3 e3 => hr H3 ((e.trans e2).trans e3) _ fun H4 e4 => ⟨a, rfl, by
    have e14 := (e2.trans e3).trans e4
    cases a with
    | true =>
      show tc σ H4 fun w H5 => r2 y w H5 Q
      exact hc rfl H4 (e.trans e14) _ fun H5 e5 => hr2 rfl H5 ((e.trans e14).trans e5) _ fun H6 e6 => q H6 ((e14.trans e5).trans e6)
    | false =>
      show Q (.bl false) H4
      exact q H4 e14⟩
theorem rv_isN : RV (fun x y H Q => y = V.non ∧ Q (.bl (decide (x = .non))) H) x .non H (.bl (decide (x = .non))) := fun H1 _ Q q => ⟨rfl, q H1 (Ex.refl H1)⟩
theorem rv_notN : RV (fun x y H Q => y = V.non ∧ Q (.bl (!decide (x = .non))) H) x .non H (.bl (!decide (x = .non))) := fun H1 _ Q q => ⟨rfl, q H1 (Ex.refl H1)⟩
theorem ev_all {bs : List Bool} (h : EvL ta σ H (bs.map V.bl)) : Ev (tCB (rAll K) (tCons ta tNil)) σ H (.bl (bs.all id)) := fun H1 e Q q =>
  h H1 e _ fun p H2 _ e2 h2 => ⟨p, bs, rfl, .inl (.inl h2), q H2 e2⟩
/-- an int, a text among ints, texts -/
theorem inV_int (i : Int) (ns : List Int) : inV (.int i) (ns.map V.int) = decide (i ∈ ns) := by
  induction ns with
  | nil => rfl
  | cons n r ih =>
    unfold inV at ih ⊢
    rw [List.map_cons, List.any_cons, ih]
    by_cases e : n = i
    · subst e
      simp [eqV]
    · have e2 : ¬ i = n := fun z => e z.symm
      simp [eqV, e, e2]
theorem inV_str (i : Str) (ns : List Str) : inV (.str i) (ns.map V.str) = decide (i ∈ ns) := by
  induction ns with
  | nil => rfl
  | cons n r ih =>
    unfold inV at ih ⊢
    rw [List.map_cons, List.any_cons, ih]
    by_cases e : n = i
    · subst e
      simp [eqV]
    · have e2 : ¬ i = n := fun z => e z.symm
      simp [eqV, e, e2]
theorem map_at {α : Type} {g : α → V} {ts : List α} {i : Nat} {v : V} (h : (ts.map g)[i]? = some v) : ∃ t, ts[i]? = some t ∧ v = g t := by
  rw [List.getElem?_map] at h
  cases e : ts[i]? with
  | none =>
    rw [e] at h
    cases h
  | some t =>
    rw [e] at h
    cases h
    exact ⟨t, rfl, rfl⟩
theorem flat_ints (ns : List Int) : (ns.map V.int).all flatV = true := by simp [flatV]
theorem flat_strs (ns : List Str) : (ns.map V.str).all flatV = true := by simp [flatV]
theorem rv_inI {p : Addr} {i : Int} {ns : List Int} (h : SqL K H p (ns.map V.int)) : RV (rIn K false) (.int i) (.ref p) H (.bl (decide (i ∈ ns))) := by
  rw [← inV_int]
  exact rv_isL h rfl (flat_ints ns)
theorem rv_niI {p : Addr} {i : Int} {ns : List Int} (h : SqL K H p (ns.map V.int)) : RV (rIn K true) (.int i) (.ref p) H (.bl (!decide (i ∈ ns))) := by
  rw [← inV_int]
  exact rv_niL h rfl (flat_ints ns)
theorem rv_inS {p : Addr} {i : Str} {ns : List Str} (h : SqL K H p (ns.map V.str)) : RV (rIn K false) (.str i) (.ref p) H (.bl (decide (i ∈ ns))) := by
  rw [← inV_str]
  exact rv_isL h rfl (flat_strs ns)
end
theorem pd_get {α β : Type} {R : α → β → Prop} : ∀ {xs : List α} {ys : List β} {i : Nat} {y : β}, Paired R xs ys → ys[i]? = some y → ∃ x, xs[i]? = some x ∧ R x y
  | _, _, _, _, .nil, e => by simp at e
  | _, _, 0, _, .cons r _, e => by
    simp at e
    subst e
    exact ⟨_, rfl, r⟩
  | _, _, i + 1, y, .cons _ t, e => by
    obtain ⟨u, h1, h2⟩ := pd_get (i := i) (y := y) t (by simpa using e)
    exact ⟨u, by simpa using h1, h2⟩
theorem pd_getL {α β : Type} {R : α → β → Prop} : ∀ {xs : List α} {ys : List β} {i : Nat} {x : α}, Paired R xs ys → xs[i]? = some x → ∃ y, ys[i]? = some y ∧ R x y
  | _, _, _, _, .nil, e => by simp at e
  | _, _, 0, _, .cons r _, e => by
    simp at e
    subst e
    exact ⟨_, rfl, r⟩
  | _, _, i + 1, y, .cons _ t, e => by
    obtain ⟨u, h1, h2⟩ := pd_getL (i := i) (x := y) t (by simpa using e)
    exact ⟨u, by simpa using h1, h2⟩
theorem walk_enumS {x : Str} : Walk (ItE x) x.cps.size (fun _ => True) (fun i H v H' => ∃ T c, v = .ref T ∧ H T = none ∧ H' = upd H T (.tup [.int (i : Nat), .str ⟨#[c]⟩]) ∧ x.cps[i]? = some c) :=
  ⟨fun _ _ hi _ => hi, fun _ _ => rfl, fun _ _ _ _ _ _ y => y⟩
abbrev nats (es : List Nat) : List V := es.map fun n : Nat => V.int (n : Int)
theorem nats_app (a b : List Nat) : nats a ++ nats b = nats (a ++ b) := (List.map_append).symm
theorem inV_nat (k : Nat) (es : List Nat) : inV (.int (k : Int)) (nats es) = decide (k ∈ es) := by
  have e : nats es = (es.map fun n : Nat => (n : Int)).map V.int := by rw [List.map_map]; rfl
  rw [e, inV_int]
  have e2 : ((k : Int) ∈ es.map fun n : Nat => (n : Int)) ↔ k ∈ es := by
    rw [List.mem_map]
    constructor
    · rintro ⟨a, h1, h2⟩
      have e3 : a = k := by omega
      rw [← e3]
      exact h1
    · intro h
      exact ⟨k, h, rfl⟩
  by_cases hk : k ∈ es
  · rw [decide_eq_true (e2.mpr hk), decide_eq_true hk]
  · rw [decide_eq_false (fun z => hk (e2.mp z)), decide_eq_false hk]
theorem flat_nats (es : List Nat) : (nats es).all flatV = true := by simp [flatV]
theorem rv_inN {K : PySem.W.Frag} {H : Hp} {p : Addr} {k : Nat} {es : List Nat} (h : SqL K H p (nats es)) : RV (rIn K false) (.int (k : Int)) (.ref p) H (.bl (decide (k ∈ es))) := by
  rw [← inV_nat]
  exact rv_isL h rfl (flat_nats es)
theorem given_nats (n : Nat) (f : Nat → Bool) : given n f (fun k => .int (k : Int)) = nats ((List.range n).filter f) := rfl
/-- an own list that grows -/
theorem ex_app {H0 H : Hp} {p : Addr} {o : HO} (e : Ex H0 H) (hp : H0 p = none) : Ex H0 (upd H p o) := e.mut hp
/-- what a walk goes over -/
def EvI (ti : TI) (σ : L2.St) (H : Hp) (n : Nat) (G : Hp → Prop) (Y : Nat → Hp → V → Hp → Prop) : Prop := ∀ R : It → Hp → Prop, (∀ J H1, Walk J n G Y → Ex H H1 → R J H1) → ti σ H R
section
variable {K : PySem.W.Frag} {σ : L2.St} {H : Hp} {te : TE} {ti : TI} {g : TG} {tu : TS} {tz : TS} {D : Ends} {n : Nat} {G : Hp → Prop} {Y : Nat → Hp → V → Hp → Prop}
theorem s_forI (h : EvI ti σ H n G Y) (Pv : Nat → L2.St → Hp → Prop) (h0 : ∀ H1, Ex H H1 → Pv 0 σ H1) (hG : ∀ i σ H, i ≤ n → Pv i σ H → G H)
    (hs : ∀ i x σ H H', i < n → Pv i σ H → Y i H x H' → g x σ H' fun σ2 H2 => tu { D with nx := Pv (i + 1), ct := Pv (i + 1), bk := D.nx } σ2 H2) (hd : ∀ σ H, Pv n σ H → D.nx σ H) : tFor ti g tu D σ H :=
  h _ fun _ H1 w e => for_it w Pv (h0 H1 e) hG hs hd
theorem q_forI (h : EvI ti σ H n G Y) (Pv : Nat → L2.St → Hp → Prop) (h0 : ∀ H1, Ex H H1 → Pv 0 σ H1) (hG : ∀ i σ H, i ≤ n → Pv i σ H → G H)
    (hs : ∀ i x σ H H', i < n → Pv i σ H → Y i H x H' → g x σ H' fun σ2 H2 => tu { D with nx := Pv (i + 1), ct := Pv (i + 1), bk := tz D } σ2 H2) (hd : ∀ σ H, Pv n σ H → tz D σ H) : tSeq (tFor ti g tu) tz D σ H :=
  s_forI (D := { D with nx := tz D }) h Pv h0 hG hs hd
theorem ei_enumS {x : Str} (h : Ev te σ H (.str x)) : EvI (iEnumS te) σ H x.cps.size (fun _ => True) (fun i H v H' => ∃ T c, v = .ref T ∧ H T = none ∧ H' = upd H T (.tup [.int (i : Nat), .str ⟨#[c]⟩]) ∧ x.cps[i]? = some c) :=
  fun _ k => h H (Ex.refl H) _ fun H1 e => ⟨x, rfl, k _ H1 walk_enumS e⟩
theorem ei_str {x : Str} (h : Ev te σ H (.str x)) : EvI (iStr te) σ H x.cps.size (fun _ => True) (fun i H v H' => H' = H ∧ ∃ c, x.cps[i]? = some c ∧ v = .str ⟨#[c]⟩) :=
  fun _ k => h H (Ex.refl H) _ fun H1 e => ⟨x, rfl, k _ H1 walk_str e⟩
theorem ei_enum {a : Addr} {xs : List V} (h : Ev te σ H (.ref a)) (hx : SqL K H a xs) : EvI (iEnum K (tCons te tNil)) σ H xs.length (fun H => SqL K H a xs) (YPair (fun i => some (.int (i : Nat))) (fun i => xs[i]?)) :=
  fun _ k => h H (Ex.refl H) _ fun H1 e => ⟨a, xs, rfl, ex_l e hx, k _ H1 walk_enum e⟩
end
section
variable {K : PySem.W.Frag} {σ : L2.St} {H : Hp} {ta te tl : TE}
theorem ev_lenLN {xs : List V} (ha : EvL ta σ H xs) : Ev (tCB (rLenQ K) (tCons ta tNil)) σ H (.int (xs.length : Int)) := fun H1 e Q q =>
  ha H1 e _ fun p H2 _ e2 h2 => ⟨p, xs, rfl, .inl (sq_of h2), q H2 e2⟩
/-- sorted(set(l)) of ints that lie among fewer than 64 -/
theorem ev_sset {w : World} {l : Addr} {ns : List Int} (L : List Int) (h : Ev tl σ H (.ref l)) (hl : SqL K H l (ns.map V.int)) (hn : ns.length ≤ 4000) (hL : ∀ k ∈ ns, k ∈ L) (h64 : L.length < 64) {H1 : Hp} (e : Ex H H1) {Q : VK}
    (q : ∀ p H2 (ms : List Int), H1 p = none → Ex H1 H2 → H2 p = some (.lst (ms.map V.int)) → ms.Pairwise (· < ·) → (∀ k, k ∈ ms ↔ k ∈ ns) → Q (.ref p) H2) : tCB (rSortedSet w) (tCons (tCB (rSetI K w) (tCons tl tNil)) tNil) σ H1 Q :=
  h H1 e _ fun H2 e2 => ⟨l, ns, L, rfl, ex_l (e.trans e2) hl, hn, hL, h64, fun p c hp hc => ⟨p, _, c, rfl, upd_same, hc, fun ms p2 hw hm _ hp2 => by
    have e3 : Ex H2 (upd H2 p (SetO w p (fun j => decide (j ∈ ns)) c)) := Ex.new hp
    have e4 : Ex (upd H2 p (SetO w p (fun j => decide (j ∈ ns)) c)) (upd (upd H2 p (SetO w p (fun j => decide (j ∈ ns)) c)) p2 (.lst (ms.map V.int))) := Ex.new hp2
    exact q p2 _ ms (fresh_back (e2.trans e3) hp2) ((e2.trans e3).trans e4) upd_same hw fun k => by rw [hm k, decide_eq_true_iff]⟩⟩
theorem ev_ssetN {w : World} {l : Addr} {ns : List Nat} {b : Nat} (hb : b < 64) (h : Ev tl σ H (.ref l)) (hl : SqL K H l (nats ns)) (hn : ns.length ≤ 4000) (hL : ∀ k ∈ ns, k < b) {H1 : Hp} (e : Ex H H1) {Q : VK}
    (q : ∀ p H2 (ms : List Nat), H1 p = none → Ex H1 H2 → H2 p = some (.lst (nats ms)) → ms.Pairwise (· < ·) → (∀ k, k ∈ ms ↔ k ∈ ns) → ms.length ≤ b → Q (.ref p) H2) : tCB (rSortedSet w) (tCons (tCB (rSetI K w) (tCons tl tNil)) tNil) σ H1 Q := by
  have e0 : nats ns = (ns.map fun n : Nat => (n : Int)).map V.int := by rw [List.map_map]; rfl
  rw [e0] at hl
  refine ev_sset ((List.range b).map fun n : Nat => (n : Int)) h hl (by rw [List.length_map]; exact hn) (fun k hk => ?_) (by rw [List.length_map, List.length_range]; exact hb) e fun p H2 ms hp e2 h2 hw hm => ?_
  · obtain ⟨n, h1, rfl⟩ := List.mem_map.mp hk
    exact List.mem_map.mpr ⟨n, List.mem_range.mpr (hL n h1), rfl⟩
  · have hnn : ∀ k ∈ ms, ∃ n : Nat, n ∈ ns ∧ k = (n : Int) := fun k hk => by
      obtain ⟨n, h1, h2⟩ := List.mem_map.mp ((hm k).mp hk)
      exact ⟨n, h1, h2.symm⟩
    have e3 : ms = (ms.map Int.toNat).map fun n : Nat => (n : Int) := by
      rw [List.map_map]
      apply List.ext_getElem (by simp)
      intro i h1 h2
      obtain ⟨n, _, hn⟩ := hnn ms[i] (List.getElem_mem h1)
      simp [hn]
    have hw2 : (ms.map Int.toNat).Pairwise (· < ·) := by
      rw [List.pairwise_map]
      refine List.Pairwise.imp_of_mem ?_ hw
      intro x y hx hy hxy
      obtain ⟨n, _, rfl⟩ := hnn x hx
      obtain ⟨m, _, rfl⟩ := hnn y hy
      simpa using hxy
    have hm2 : ∀ k, k ∈ ms.map Int.toNat ↔ k ∈ ns := fun k => by
      rw [List.mem_map]
      constructor
      · rintro ⟨x, hx, rfl⟩
        obtain ⟨n, hn, rfl⟩ := hnn x hx
        simpa using hn
      · intro hk
        exact ⟨(k : Int), (hm _).mpr (List.mem_map.mpr ⟨k, hk, rfl⟩), by simp⟩
    refine q p H2 (ms.map Int.toNat) hp e2 ?_ hw2 hm2 ?_
    · rw [h2]
      congr 2
      have e4 := congrArg (List.map V.int) e3
      rw [List.map_map] at e4
      exact e4
    · have nd : (ms.map Int.toNat).Nodup := hw2.imp fun h => Nat.ne_of_lt h
      have q9 := nodup_le (b := List.range b) nd fun x hx => List.mem_range.mpr (hL x ((hm2 x).mp hx))
      rwa [List.length_range] at q9
theorem lt_ext : ∀ {a b : List Nat}, a.Pairwise (· < ·) → b.Pairwise (· < ·) → (∀ k, k ∈ a ↔ k ∈ b) → a = b
  | [], [], _, _, _ => rfl
  | [], y :: ys, _, _, h => absurd ((h y).mpr List.mem_cons_self) List.not_mem_nil
  | x :: xs, [], _, _, h => absurd ((h x).mp List.mem_cons_self) List.not_mem_nil
  | x :: xs, y :: ys, ha, hb, h => by
    obtain ⟨a1, a2⟩ := List.pairwise_cons.mp ha
    obtain ⟨b1, b2⟩ := List.pairwise_cons.mp hb
    have e : x = y := by
      rcases List.mem_cons.mp ((h x).mp List.mem_cons_self) with z | z
      · exact z
      · rcases List.mem_cons.mp ((h y).mpr List.mem_cons_self) with z2 | z2
        · exact z2.symm
        · have := b1 x z
          have := a1 y z2
          omega
    subst e
    rw [lt_ext a2 b2 fun k => ?_]
    constructor
    · intro hk
      rcases List.mem_cons.mp ((h k).mp (List.mem_cons_of_mem _ hk)) with z | z
      · have := a1 k hk
        omega
      · exact z
    · intro hk
      rcases List.mem_cons.mp ((h k).mpr (List.mem_cons_of_mem _ hk)) with z | z
      · have := b1 k hk
        omega
      · exact z
/-- those below b that keep f, rising -/
def upto (b : Nat) (f : Nat → Bool) : List Nat := (List.range b).filter f
theorem upto_lt (b : Nat) (f : Nat → Bool) : (upto b f).Pairwise (· < ·) := List.Pairwise.filter _ List.pairwise_lt_range
theorem upto_mem {b k : Nat} {f : Nat → Bool} : k ∈ upto b f ↔ k < b ∧ f k = true := by
  unfold upto
  rw [List.mem_filter, List.mem_range]
theorem upto_len (b : Nat) (f : Nat → Bool) : (upto b f).length ≤ b := by
  have h := List.length_filter_le f (List.range b)
  rw [List.length_range] at h
  exact h
theorem upto_eq {b : Nat} {f g : Nat → Bool} (h : ∀ k, k < b → f k = g k) : upto b f = upto b g := List.filter_congr fun k hk => h k (List.mem_range.mp hk)
theorem el_sset {w : World} {l : Addr} {ns : List Nat} (b : Nat) (hb : b < 64) (h : Ev tl σ H (.ref l)) (hl : SqL K H l (nats ns)) (hn : ns.length ≤ 4000) (hL : ∀ k ∈ ns, k < b) : EvL (tCB (rSortedSet w) (tCons (tCB (rSetI K w) (tCons tl tNil)) tNil)) σ H (nats (upto b fun k => decide (k ∈ ns))) := fun H1 e Q q =>
  ev_ssetN hb h hl hn hL e fun p H2 ms hp e2 h2 hw hm _ => q p H2 hp e2 (by
    have e3 : upto b (fun k => decide (k ∈ ns)) = ms := lt_ext (upto_lt _ _) hw fun k => by
      rw [upto_mem, hm k, decide_eq_true_iff]
      exact ⟨fun z => z.2, fun z => ⟨hL k z, z⟩⟩
    rw [e3]
    exact h2)
theorem s_ext {l b : Addr} {xs ys : List V} {D : Ends} (hl : H l = some (.lst xs)) (ha : Ev ta σ H (.ref l)) (h : Ev te σ H (.ref b)) (hb : H b = some (.lst ys)) (hz : xs.length + ys.length ≤ 100000) (k : ∀ H1, Ex H H1 → D.nx σ (upd H1 l (.lst (xs ++ ys)))) :
    tDrop (tBM K "list" rExtend ta (tCons te tNil)) D σ H := ha H (Ex.refl H) _ fun H1 e1 =>
  ⟨Or.inl ⟨rfl, xs, sq_of (e1 l _ hl)⟩, h H1 e1 _ fun H2 e2 => ⟨l, b, xs, ys, rfl, rfl, e2 l _ (e1 l _ hl), e2 _ _ (e1 _ _ hb), sz_of hz, k H2 (e1.trans e2)⟩⟩
theorem s_extN {l : Addr} {xs ys : List V} {D : Ends} (hl : H l = some (.lst xs)) (ha : Ev ta σ H (.ref l)) (h : EvL te σ H ys) (hz : xs.length + ys.length ≤ 100000) (k : ∀ H1, Ex H H1 → D.nx σ (upd H1 l (.lst (xs ++ ys)))) :
    tDrop (tBM K "list" rExtend ta (tCons te tNil)) D σ H := ha H (Ex.refl H) _ fun H1 e1 =>
  ⟨Or.inl ⟨rfl, xs, sq_of (e1 l _ hl)⟩, h H1 e1 _ fun b H2 _ e2 h2 => ⟨l, b, xs, ys, rfl, rfl, e2 l _ (e1 l _ hl), h2, sz_of hz, k H2 (e1.trans e2)⟩⟩
theorem cut_tail (x : V) (xs : List V) : cutV (x :: xs) (some 1) none = xs := by
  unfold cutV
  have e1 : HT.sIx (x :: xs).length 0 (some 1) = 1 := by
    have e := HT.sIx_nat (x :: xs).length 0 1
    rw [List.length_cons] at e ⊢
    have e2 : min 1 (xs.length + 1) = 1 := by omega
    rw [e2] at e
    exact e
  rw [e1, HT.sIx_none]
  show (xs.take ((xs.length + 1) - 1)) = xs
  rw [Nat.add_sub_cancel, List.take_length]
end
theorem find_no {α : Type} {l : List α} {f : α → Bool} {i : Nat} {x : α} (h : (l.take i).find? f = none) (hx : l[i]? = some x) (hf : f x = false) : (l.take (i + 1)).find? f = none := by
  rw [List.take_succ, hx, Option.toList_some, List.find?_append, h, List.find?_cons, hf]
  rfl
theorem find_yes {α : Type} {l : List α} {f : α → Bool} {i : Nat} {x : α} (h : (l.take i).find? f = none) (hx : l[i]? = some x) (hf : f x = true) : l.find? f = some x := by
  have e : l = l.take i ++ l.drop i := (List.take_append_drop i l).symm
  have hlt := (List.getElem?_eq_some_iff.mp hx)
  obtain ⟨hl, hx2⟩ := hlt
  rw [e, List.find?_append, h, List.drop_eq_getElem_cons hl, List.find?_cons, hx2, hf]
  rfl
theorem ex_upd {H H1 : Hp} {a : Addr} {o : HO} (e : Ex H H1) (h : H1 a = some o) : Ex (upd H a o) H1 := by
  intro b u hb
  by_cases hab : b = a
  · subst hab
    rw [upd_same] at hb
    cases hb
    exact h
  · rw [upd_ne hab] at hb
    exact e _ _ hb
theorem ne_upd {H Hs : Hp} {a : Addr} {o : HO} (h : Hs a = none) (q : Addr) (h1 : Hs q ≠ none) (h2 : H q = none) : upd H a o q = none := by
  rw [upd_ne]
  · exact h2
  · rintro rfl
    exact h1 h
/-- what a walk with its target goes over: the members of es, each leading to its slots -/
def EvX {α : Type} (ti : TI) (g : TG) (σ : L2.St) (H : Hp) (es : List α) (st : α → L2.St → L2.St) : Prop := ∀ Hs, Ex H Hs → ∀ R : It → Hp → Prop,
  (∀ J H1 Hg (n : Nat) (G : Hp → Prop) (Y : Nat → Hp → V → Hp → Prop), Walk J n G Y → n = es.length → Ex Hs H1 → Ex H Hg → Ex Hg H1 → (∀ q, Hs q ≠ none → H q = none → Hg q = none) → (∀ H2, Ex Hg H2 → G H2) →
    (∀ i x v H2 H3, es[i]? = some x → Ex Hg H2 → Y i H2 v H3 → ∀ (σ0 : L2.St) (S : L2.St → Hp → Prop), (∀ H4, Ex H2 H4 → S (st x σ0) H4) → g v σ0 H3 S) → R J H1) → ti σ Hs R
section
variable {K : PySem.W.Frag} {σ : L2.St} {H : Hp} {tl te : TE} {ti : TI} {g : TG} {t : TT} {vs : List Nat} {α : Type} {es : List α}
theorem given_filter {n : Nat} {f : Nat → Bool} {v : Nat → V} {fb : α → Bool} {G : α → V} (hn : n = es.length) (h : ∀ i x, es[i]? = some x → f i = fb x ∧ v i = G x) : given n f v = (es.filter fb).map G := by
  subst hn
  induction es using list_rev_ind generalizing f v with
  | nil => rfl
  | snoc l a ih =>
    have ih2 := ih (f := f) (v := v) fun i x hx => h i x (by
      have := (List.getElem?_eq_some_iff.mp hx).1
      rw [List.getElem?_append_left this]
      exact hx)
    have ha := h l.length a (by simp)
    rw [List.length_append, List.length_singleton, List.filter_append, List.map_append, ← ih2]
    cases hf : f l.length with
    | true =>
      rw [given_yes hf, ha.2, List.filter_cons, if_pos (by rw [← ha.1]; exact hf)]
      rfl
    | false =>
      rw [given_no hf, List.filter_cons, if_neg (by rw [← ha.1, hf]; decide)]
      simp
theorem el_lcX {st : α → L2.St → L2.St} (fb : α → Bool) (G : α → V) (hI : EvX ti g σ H es st) (hz : es.length ≤ 40000) (hw : ∀ x, wipe (st x (wipe σ vs)) vs = wipe σ vs)
    (ht : ∀ x ∈ es, ∀ H1, Ex H H1 → EvT t (st x (wipe σ vs)) H1 (fb x)) (he : ∀ x ∈ es, ∀ H1, Ex H H1 → fb x = true → Ev te (st x (wipe σ vs)) H1 (G x)) : EvL (tLc ti g t te vs) σ H ((es.filter fb).map G) := by
  intro H0 e Q q
  refine hI H0 e _ fun J H1 Hg n Gd Y w hn e1 _ eg _ hG hY D hD => ?_
  refine lc_it w (Cw H1 (fun i => match es[i]? with | some x => fb x | none => false) (fun i => match es[i]? with | some x => G x | none => .non) D) ⟨hD, Ex.new hD, upd_same⟩ (fun _ _ _ p => hG _ (eg.trans p.2.1)) (fun i v H2 H3 hi p y => ?_) fun H2 p => ?_
  · obtain ⟨x, hx⟩ : ∃ x, es[i]? = some x := ⟨es[i]'(by omega), List.getElem?_eq_getElem (by omega)⟩
    refine hY i x v H2 H3 hx (eg.trans p.2.1) y _ _ fun H4 e4 => ⟨hw x, ?_⟩
    have hm : x ∈ es := List.mem_of_getElem? hx
    have p4 : Cw H1 (fun i => match es[i]? with | some x => fb x | none => false) (fun i => match es[i]? with | some x => G x | none => .non) D i H4 := ⟨p.1, p.2.1.trans e4, e4 _ _ p.2.2⟩
    refine cw_turn p4 (by have := (List.getElem?_eq_some_iff.mp hx).1; omega) ?_ ?_
    · simp only [hx]
      exact ht x hm H1 (e.trans e1)
    · intro hf
      simp only [hx] at hf ⊢
      exact he x hm H1 (e.trans e1) hf
  · have q2 := q D H2 (fresh_back e1 p.1) (e1.trans p.2.1)
    rw [← given_filter (f := fun i => match es[i]? with | some x => fb x | none => false) (v := fun i => match es[i]? with | some x => G x | none => .non) hn] at q2
    · exact q2 p.2.2
    · intro i x hx
      simp only [hx]
      exact ⟨trivial, trivial⟩
theorem ex_list {a : Addr} {j : Nat} {F : α → V} (h : Ev tl σ H (.ref a)) (hx : SqL K H a (es.map F)) : EvX (iList K tl) (gName j) σ H es (fun x σ0 => σ0.set j (some (F x))) := fun Hs e R k =>
  h Hs e _ fun H1 e1 => ⟨a, rfl, ⟨_, ex_l (e.trans e1) hx⟩, k _ H1 H _ _ _ (walk_list (xs := es.map F)) (List.length_map _) e1 (Ex.refl _) (e.trans e1) (fun _ _ z => z) (fun H2 e2 => ex_l e2 hx) fun i x v H2 H3 hi e2 y σ0 S q => by
    obtain ⟨rfl, hv⟩ := y
    obtain ⟨x2, h2, rfl⟩ := map_at hv
    rw [hi] at h2
    cases h2
    exact q H3 (Ex.refl _)⟩
theorem ex_listN {j : Nat} {F : α → V} (h : EvL tl σ H (es.map F)) : EvX (iList K tl) (gName j) σ H es (fun x σ0 => σ0.set j (some (F x))) := fun Hs e R k =>
  h Hs e _ fun a H1 ha e1 hx => ⟨a, rfl, ⟨_, sq_of hx⟩, k _ H1 (upd H a (.lst (es.map F))) _ _ _ (walk_list (xs := es.map F)) (List.length_map _) e1 (Ex.new (fresh_back e ha)) (ex_upd (e.trans e1) hx) (ne_upd ha) (fun H2 e2 => sq_of (e2 _ _ upd_same)) fun i x v H2 H3 hi e2 y σ0 S q => by
    obtain ⟨rfl, hv⟩ := y
    obtain ⟨x2, h2, rfl⟩ := map_at hv
    rw [hi] at h2
    cases h2
    exact q H3 (Ex.refl _)⟩
/-- a list of pairs told by A and B -/
def TupsAt (H : Hp) (a : Addr) (es : List α) (A B : α → V) : Prop := ∃ ts : List Addr, H a = some (.lst (ts.map V.ref)) ∧ Paired (fun t x => H t = some (.tup [A x, B x])) ts es
theorem TupsAt.mono {H H2 : Hp} {a : Addr} {A B : α → V} (h : TupsAt H a es A B) (e : Ex H H2) : TupsAt H2 a es A B := by
  obtain ⟨ts, h1, h2⟩ := h
  exact ⟨ts, e _ _ h1, Paired.mapP h2 fun _ _ q => e _ _ q⟩
theorem ex_tups {a : Addr} {n j1 j2 : Nat} {A B : α → V} (h : Ev tl σ H (.ref a)) (hx : TupsAt H a es A B) (hn : n = 2) : EvX (iList K tl) (gTup K n (gCons (gName j1) (gCons (gName j2) gNil))) σ H es (fun x σ0 => (σ0.set j1 (some (A x))).set j2 (some (B x))) := fun Hs e R k => by
  obtain ⟨ts, hl, hp⟩ := hx
  refine h Hs e _ fun H1 e1 => ⟨a, rfl, ⟨_, sq_of ((e.trans e1) _ _ hl)⟩, k _ H1 H _ _ _ (walk_list (xs := ts.map V.ref)) (by rw [List.length_map, hp.length]) e1 (Ex.refl _) (e.trans e1) (fun _ _ z => z) (fun H2 e2 => sq_of (e2 _ _ hl)) fun i x v H2 H3 hi e2 y σ0 S q => ?_⟩
  obtain ⟨rfl, hv⟩ := y
  obtain ⟨t, ht, rfl⟩ := map_at hv
  obtain ⟨x2, h2, h3⟩ := pd_getL hp ht
  rw [hi] at h2
  cases h2
  exact ⟨t, _, rfl, st_of (e2 _ _ h3), hn.symm, _, _, rfl, _, _, rfl, rfl, q H3 (Ex.refl _)⟩
/-- what is new from H to H' -/
def fr (H H' : Hp) : Hp := fun b => match H b with | none => H' b | some _ => none
/-- H, and all that is new behind Hs -/
def jn (H Hs H' : Hp) : Hp := fun b => match Hs b with | none => H' b | some _ => H b
theorem jn_ex {H Hs H1 : Hp} (e : Ex H Hs) : Ex H (jn H Hs H1) := by
  intro a o h
  unfold jn
  rw [e a o h]
  exact h
theorem jn_to {H Hs H1 : Hp} (e : Ex H H1) : Ex (jn H Hs H1) H1 := by
  intro a o h
  unfold jn at h
  cases hs : Hs a with
  | none =>
    rw [hs] at h
    exact h
  | some u =>
    rw [hs] at h
    exact e a o h
theorem jn_own {H Hs H1 : Hp} (q : Addr) (h : Hs q ≠ none) (h2 : H q = none) : jn H Hs H1 q = none := by
  unfold jn
  cases hs : Hs q with
  | none => exact absurd hs h
  | some u => exact h2
theorem fr_ex {H H' : Hp} : Ex (fr H H') H' := by
  intro a o h
  unfold fr at h
  cases hs : H a with
  | none =>
    rw [hs] at h
    exact h
  | some u =>
    rw [hs] at h
    cases h
theorem fr_jn {G H H' : Hp} : Ex (fr H H') (jn G H H') := by
  intro a o h
  unfold fr at h
  unfold jn
  cases hs : H a with
  | none =>
    rw [hs] at h
    exact h
  | some u =>
    rw [hs] at h
    cases h
theorem fr_at {H H' : Hp} {a : Addr} (h : H a = none) : fr H H' a = H' a := by
  unfold fr
  rw [h]
theorem fr_upd {H H' : Hp} {p : Addr} {o : HO} (h : H p = none) : fr H (upd H' p o) = upd (fr H H') p o := by
  funext b
  by_cases hb : b = p
  · subst hb
    rw [fr_at h, upd_same, upd_same]
  · rw [upd_ne hb]
    unfold fr
    rw [upd_ne hb]
theorem fr_back {H0 H H' : Hp} (e : Ex H0 H) : Ex (fr H H') (fr H0 H') := by
  intro a o h
  unfold fr at h ⊢
  cases hs : H a with
  | none =>
    rw [hs] at h
    rw [fresh_back e hs]
    exact h
  | some u =>
    rw [hs] at h
    cases h
theorem fr_to {H H1 H2 : Hp} (e : Ex H1 H2) : Ex (fr H H1) (fr H H2) := by
  intro a o h
  unfold fr at h ⊢
  cases hs : H a with
  | none =>
    rw [hs] at h
    exact e a o h
  | some u =>
    rw [hs] at h
    cases h
/-- over pairs in a list just made, all new -/
theorem ex_tupsN {n j1 j2 : Nat} {A B : α → V} (h : ∀ H1, Ex H H1 → ∀ Q : VK, (∀ p H2, Ex H1 H2 → TupsAt (fr H1 H2) p es A B → Q (.ref p) H2) → tl σ H1 Q) (hn : n = 2) : EvX (iList K tl) (gTup K n (gCons (gName j1) (gCons (gName j2) gNil))) σ H es (fun x σ0 => (σ0.set j1 (some (A x))).set j2 (some (B x))) := fun Hs e R k => by
  refine h Hs e _ fun a H1 e1 hx => ?_
  have hg : Ex (fr Hs H1) (jn H Hs H1) := fr_jn
  obtain ⟨ts, hl, hp⟩ := hx.mono hg
  have eg : Ex (jn H Hs H1) H1 := jn_to (e.trans e1)
  refine ⟨a, rfl, ⟨_, sq_of (eg _ _ hl)⟩, k _ H1 (jn H Hs H1) _ _ _ (walk_list (xs := ts.map V.ref)) (by rw [List.length_map, hp.length]) e1 (jn_ex e) eg (fun q h1 h2 => jn_own q h1 h2) (fun H2 e2 => sq_of (e2 _ _ hl)) fun i x v H2 H3 hi e2 y σ0 S q => ?_⟩
  obtain ⟨rfl, hv⟩ := y
  obtain ⟨t, ht, rfl⟩ := map_at hv
  obtain ⟨x2, h2, h3⟩ := pd_getL hp ht
  rw [hi] at h2
  cases h2
  exact ⟨t, _, rfl, st_of (e2 _ _ h3), hn.symm, _, _, rfl, _, _, rfl, rfl, q H3 (Ex.refl _)⟩
theorem ex_range1 {ta : TA} {j : Nat} {n : Nat} (h : EvA ta σ H [.int (n : Int)]) (hn : n ≤ 40000) : EvX (iRng1 ta) (gName j) σ H (List.range n) (fun k σ0 => σ0.set j (some (.int (k : Int)))) := fun Hs e R k =>
  h Hs e _ fun H1 e1 => ⟨n, rfl, by omega, by omega, k _ H1 H n (fun _ => True) _ (walk_range (lo := 0)) (List.length_range).symm e1 (Ex.refl _) (e.trans e1) (fun _ _ z => z) (fun _ _ => trivial) fun i x v H2 H3 hi e2 y σ0 S q => by
    obtain ⟨rfl, rfl⟩ := y
    obtain ⟨h1, h2⟩ := List.getElem?_eq_some_iff.mp hi
    rw [List.getElem_range] at h2
    subst h2
    have e0 : (0 : Int) + (i : Int) = (i : Int) := Int.zero_add _
    show S (σ0.set j (some (.int ((0 : Int) + (i : Int))))) H3
    rw [e0]
    exact q H3 (Ex.refl _)⟩
theorem ex_enumV {a : Addr} {xs : List V} {n j1 j2 : Nat} (v : Nat → V) (h : Ev te σ H (.ref a)) (hx : SqL K H a xs) (hv : ∀ k, k < xs.length → xs[k]? = some (v k)) (hn : n = 2) :
    EvX (iEnum K (tCons te tNil)) (gTup K n (gCons (gName j1) (gCons (gName j2) gNil))) σ H (List.range xs.length) (fun k σ0 => (σ0.set j1 (some (.int (k : Int)))).set j2 (some (v k))) := fun Hs e R k =>
  h Hs e _ fun H1 e1 => ⟨a, xs, rfl, ex_l (e.trans e1) hx, k _ H1 H _ _ _ walk_enum (List.length_range).symm e1 (Ex.refl _) (e.trans e1) (fun _ _ z => z) (fun H2 e2 => ex_l e2 hx) fun i x v2 H2 H3 hi e2 y σ0 S q => by
    obtain ⟨T, u1, u2, rfl, hT, rfl, hu1, hu2⟩ := y
    obtain ⟨h1, h2⟩ := List.getElem?_eq_some_iff.mp hi
    rw [List.getElem_range] at h2
    subst h2
    have hi2 : i < xs.length := by simpa using h1
    have hu3 : xs[i]? = some u2 := hu2
    rw [hv i hi2] at hu3
    cases hu1
    cases hu3
    exact ⟨T, _, rfl, st_of upd_same, hn.symm, _, _, rfl, _, _, rfl, rfl, q _ (Ex.new hT)⟩⟩
theorem ex_str {x : Str} {j : Nat} (h : Ev te σ H (.str x)) : EvX (iStr te) (gName j) σ H x.cps.toList (fun c σ0 => σ0.set j (some (.str ⟨#[c]⟩))) := fun Hs e R k =>
  h Hs e _ fun H1 e1 => ⟨x, rfl, k _ H1 H _ _ _ walk_str (Array.length_toList).symm e1 (Ex.refl _) (e.trans e1) (fun _ _ z => z) (fun _ _ => trivial) fun i c v H2 H3 hi e2 y σ0 S q => by
    obtain ⟨rfl, c2, hc, rfl⟩ := y
    rw [← Array.getElem?_toList, hi] at hc
    cases hc
    exact q H3 (Ex.refl _)⟩
/-- a for over it; H is what stays all along, Hg that and the thing walked over -/
theorem s_forX {D : Ends} {tu : TS} {Hs : Hp} {st : α → L2.St → L2.St} (hI : EvX ti g σ H es st) (e0 : Ex H Hs) (Pv : Hp → Nat → L2.St → Hp → Prop) (h0 : ∀ Hg H1, Ex Hs H1 → Ex Hg H1 → Pv Hg 0 σ H1) (hE : ∀ Hg i σ' H1, Pv Hg i σ' H1 → Ex Hg H1)
    (hs : ∀ Hg, Ex H Hg → (∀ q, Hs q ≠ none → H q = none → Hg q = none) → ∀ i x σ' H1, es[i]? = some x → Pv Hg i σ' H1 → ∀ H2, Ex H1 H2 → tu { D with nx := Pv Hg (i + 1), ct := Pv Hg (i + 1), bk := D.nx } (st x σ') H2)
    (hd : ∀ Hg, Ex H Hg → ∀ σ' H1, Pv Hg es.length σ' H1 → D.nx σ' H1) : tFor ti g tu D σ Hs := by
  refine hI Hs e0 _ fun J H1 Hg n Gd Y w hn e1 eg1 eg2 hgn hG hY => ?_
  subst hn
  exact for_it w (Pv Hg) (h0 Hg H1 e1 eg2) (fun i σ' H2 _ p => hG _ (hE _ _ _ _ p)) (fun i v σ' H2 H3 hi p y => hY i es[i] v H2 H3 (List.getElem?_eq_getElem hi) (hE _ _ _ _ p) y _ _ fun H4 e4 => hs Hg eg1 hgn i _ σ' H2 (List.getElem?_eq_getElem hi) p H4 e4) fun σ' H2 p => hd Hg eg1 σ' H2 p
theorem q_forX {D : Ends} {tu tz : TS} {Hs : Hp} {st : α → L2.St → L2.St} (hI : EvX ti g σ H es st) (e0 : Ex H Hs) (Pv : Hp → Nat → L2.St → Hp → Prop) (h0 : ∀ Hg H1, Ex Hs H1 → Ex Hg H1 → Pv Hg 0 σ H1) (hE : ∀ Hg i σ' H1, Pv Hg i σ' H1 → Ex Hg H1)
    (hs : ∀ Hg, Ex H Hg → (∀ q, Hs q ≠ none → H q = none → Hg q = none) → ∀ i x σ' H1, es[i]? = some x → Pv Hg i σ' H1 → ∀ H2, Ex H1 H2 → tu { D with nx := Pv Hg (i + 1), ct := Pv Hg (i + 1), bk := tz D } (st x σ') H2)
    (hd : ∀ Hg, Ex H Hg → ∀ σ' H1, Pv Hg es.length σ' H1 → tz D σ' H1) : tSeq (tFor ti g tu) tz D σ Hs :=
  s_forX (D := { D with nx := tz D }) hI e0 Pv h0 hE hs hd
end
/-- a comprehension over a text -/
theorem el_lcS {te tl : TE} {σ : L2.St} {H : Hp} {j : Nat} {vs : List Nat} {x : Str} (v : Nat → V) (h : Ev tl σ H (.str x)) (hz : x.cps.size ≤ 40000) (hw : ∀ y, wipe ((wipe σ vs).set j (some y)) vs = wipe σ vs)
    (he : ∀ (i c : Nat) H1, Ex H H1 → x.cps[i]? = some c → Ev te ((wipe σ vs).set j (some (.str ⟨#[c]⟩))) H1 (v i)) : EvL (tLc (iStr tl) (gName j) tYes te vs) σ H (given x.cps.size (fun _ => true) v) := fun H0 e Q q => h H0 e _ fun H1 e1 => ⟨x, rfl, fun Dl hD =>
  lc_it (walk_str (z := x)) (Cw H1 (fun _ => true) v Dl) ⟨hD, Ex.new hD, upd_same⟩ (fun _ _ _ _ => trivial) (fun i y H2 H3 hi p hy => by
    obtain ⟨e3, c, hc, e4⟩ := hy
    subst e3 e4
    exact ⟨hw _, cw_turn p (by omega) (fun H4 e5 Q4 q4 => q4 H4 (Ex.refl H4)) fun _ => he i c H1 (e.trans e1) hc⟩) (fun H2 p => q Dl H2 (fresh_back e1 p.1) (e1.trans p.2.1) p.2.2)⟩
theorem given_all {n : Nat} {v : Nat → V} {xs : List V} (hl : xs.length = n) (h : ∀ i, i < n → xs[i]? = some (v i)) : given n (fun _ => true) v = xs := by
  unfold given
  rw [List.filter_eq_self.mpr (fun _ _ => rfl)]
  apply List.ext_getElem?
  intro i
  rw [List.getElem?_map]
  by_cases hi : i < n
  · rw [List.getElem?_range hi, h i hi]
    rfl
  · rw [List.getElem?_eq_none (by simpa using hi), List.getElem?_eq_none (by omega)]
    rfl
end Fc
/-! Words: names of fields, documents, the words of a text. -/
namespace Fc
open PySem PySem.Spec PyProof.Rows L2 Evl
abbrev tLET : Str := "abcdefghijklmnopqrstuvwxyz"
abbrev tGRE : Str := "ABCDEFGHIJKLMNOPQRSTUVWXYZ"
abbrev tFIG : Str := "0123456789"
theorem let_eq : tLET.cps.toList = (List.range 26).map (· + 97) := by decide +kernel
theorem gre_eq : tGRE.cps.toList = (List.range 26).map (· + 65) := by decide +kernel
theorem fig_eq : tFIG.cps.toList = (List.range 10).map (· + 48) := by decide +kernel
theorem mem_let {c : Nat} : c ∈ tLET.cps.toList ↔ 97 ≤ c ∧ c ≤ 122 := by
  rw [let_eq]
  simp only [List.mem_map, List.mem_range]
  constructor
  · rintro ⟨a, h, rfl⟩
    omega
  · intro h
    exact ⟨c - 97, by omega, by omega⟩
theorem mem_gre {c : Nat} : c ∈ tGRE.cps.toList ↔ 65 ≤ c ∧ c ≤ 90 := by
  rw [gre_eq]
  simp only [List.mem_map, List.mem_range]
  constructor
  · rintro ⟨a, h, rfl⟩
    omega
  · intro h
    exact ⟨c - 65, by omega, by omega⟩
theorem mem_fig {c : Nat} : c ∈ tFIG.cps.toList ↔ 48 ≤ c ∧ c ≤ 57 := by
  rw [fig_eq]
  simp only [List.mem_map, List.mem_range]
  constructor
  · rintro ⟨a, h, rfl⟩
    omega
  · intro h
    exact ⟨c - 48, by omega, by omega⟩
/-- a sign as it stands in a word -/
def low (c : Nat) : List Nat := if 65 ≤ c ∧ c ≤ 90 then [c + 32] else if (97 ≤ c ∧ c ≤ 122) ∨ (48 ≤ c ∧ c ≤ 57) then [c] else []
theorem occ_all : (List.range 26).all (fun j => decide (Builtin.Str.occurrences tGRE ⟨#[j + 65]⟩ 0 tGRE.length 1 = [j])) = true := by decide +kernel
theorem occ_at {c : Nat} (h : 65 ≤ c ∧ c ≤ 90) : Builtin.Str.occurrences tGRE ⟨#[c]⟩ 0 tGRE.length 1 = [c - 65] := by
  have q := List.all_eq_true.mp occ_all (c - 65) (List.mem_range.mpr (by omega))
  have e : c - 65 + 65 = c := by omega
  rw [e] at q
  exact of_decide_eq_true q
theorem let_at {j : Nat} (h : j < 26) : tLET.cps.toList[j]? = some (j + 97) := by
  rw [let_eq, List.getElem?_map, List.getElem?_range h]
  rfl

def sp_lowered : Sp := fun vs H Q _ => ∃ c : Nat, vs = [.str ⟨#[c]⟩] ∧ RetV (.str (Z (low c))) H Q
theorem sc_lowered : FnScope ["sign"] ["sign"] (defScope s_lowered) := ⟨rfl, rfl, rfl, by decide +kernel, rfl, by decide +kernel, by decide +kernel⟩
theorem ok_lowered {P : Program} {w : World} {K : PySem.W.Frag} {mg : Str → Option Value} {base : Heap} (G : Gd K mg "lowered" s_lowered) (T : Tx K mg) : OkF P w K mg base 1 "lowered" ["sign"] sp_lowered := by
  refine G.ok (k := 0) sc_lowered (fun _ _ _ _ _ _ us hl => match us, hl with | [_], _ => rfl) (fun vs H Q E h => ?_) (fun f cdv A outer s H vs Q E hr h => ?_)
  · unfold sp_lowered at h
    repeat (first | (obtain ⟨rfl, h⟩ := h; rfl) | (obtain ⟨_, h⟩ := h))
  have hu := hu_of hr
  refine ⟨_, (pss_cons (ps_if (pt_cmpR op_in_sign (pv 0) (pe_gs T.GREAT) (by with_unfolding_all rfl)) (pss_one (ps_ret (pe_ix ix_str (pe_gs T.LETTERS) (pe_m1 PySem.F.slot_str_index PySem.F.type_str_index mt_sindex (pe_gs T.GREAT) (pv 0)) (fun _ _ => rfl)))) pss_nil)
      (pss_cons (ps_if (PW.pt (pw_or (pt_cmpR op_in_sign (pv 0) (pe_gs T.LETTERS) (by with_unfolding_all rfl)) (pw_or1 (pt_cmpR op_in_sign (pv 0) (pe_gs T.FIGURES) (by with_unfolding_all rfl))))) (pss_one (ps_ret (pv 0))) pss_nil)
      (pss_one (ps_ret pe_str)))), ?_⟩
  obtain ⟨c, rfl, k⟩ := h
  refine q_when (b := decide (c ∈ tGRE.cps.toList)) (et_test (ev_op (ev_var rfl) ev_c rv_sgn)) (fun hb H1 e1 => ?_) fun hb H1 e1 => ?_
  · have hc := mem_gre.mp (of_decide_eq_true hb)
    have e2 : low c = [c + 32] := if_pos hc
    rw [e2] at k
    refine ⟨⟨_, rfl⟩, _, rfl, tGRE, ⟨#[c]⟩, c - 65, [], rfl, rfl, occ_at hc, tLET, ((c - 65 : Nat) : Int), c + 32, rfl, rfl, by decide +kernel, ?_, k H1 e1⟩
    have e3 : c + 32 = (c - 65) + 97 := by omega
    rw [e3]
    exact atI_nat (let_at (by omega))
  · have hc : ¬ (65 ≤ c ∧ c ≤ 90) := fun z => of_decide_eq_false hb (mem_gre.mpr z)
    refine q_when (b := decide (c ∈ tLET.cps.toList) || decide (c ∈ tFIG.cps.toList)) (et_or (et_test (ev_op (ev_var rfl) ev_c rv_sgn)) fun _ => et_test (ev_op (ev_var rfl) ev_c rv_sgn)) (fun hd H2 e2 => ?_) fun hd H2 e2 => ?_
    · have hz : (97 ≤ c ∧ c ≤ 122) ∨ (48 ≤ c ∧ c ≤ 57) := by
        rcases Bool.or_eq_true_iff.mp hd with z | z
        · exact .inl (mem_let.mp (of_decide_eq_true z))
        · exact .inr (mem_fig.mp (of_decide_eq_true z))
      have e3 : low c = [c] := by rw [low, if_neg hc, if_pos hz]
      rw [e3] at k
      exact s_ret (ev_var rfl) fun H3 e4 => k H3 ((e1.trans e2).trans e4)
    · have hz : ¬ ((97 ≤ c ∧ c ≤ 122) ∨ (48 ≤ c ∧ c ≤ 57)) := by
        intro z
        have hd2 := Bool.or_eq_false_iff.mp hd
        rcases z with z | z
        · exact of_decide_eq_false hd2.1 (mem_let.mpr z)
        · exact of_decide_eq_false hd2.2 (mem_fig.mpr z)
      have e3 : low c = [] := by rw [low, if_neg hc, if_neg hz]
      rw [e3] at k
      exact s_ret ev_c fun H3 e4 => k H3 ((e1.trans e2).trans e4)

/-- a name of a field -/
def Nm (x : Str) : Prop := 0 < x.length ∧ x.length ≤ 12 ∧ ∀ c ∈ x.cps.toList, c ∈ tLET.cps.toList
def sp_is_name : Sp := fun vs H Q _ => ∃ x : Str, vs = [.str x] ∧ Nm x ∧ RetV (.bl true) H Q
theorem sc_is_name : FnScope ["text", "sign"] ["text"] (defScope s_is_name) := ⟨rfl, rfl, rfl, by decide +kernel, rfl, by decide +kernel, by decide +kernel⟩
theorem ok_is_name {P : Program} {w : World} {K : PySem.W.Frag} {mg : Str → Option Value} {base : Heap} (G : Gd K mg "is_name" s_is_name) (T : Tx K mg) : OkF P w K mg base 1 "is_name" ["text"] sp_is_name := by
  refine G.ok (k := 0) sc_is_name (fun _ _ _ _ _ _ us hl => match us, hl with | [_], _ => rfl) (fun vs H Q E h => ?_) (fun f cdv A outer s H vs Q E hr h => ?_)
  · unfold sp_is_name at h
    repeat (first | (obtain ⟨rfl, h⟩ := h; rfl) | (obtain ⟨_, h⟩ := h))
  have hu := hu_of hr
  refine ⟨_, (pss_one (ps_ret (pe_and (pe_chain op_lt op_le pe_int (pe_callB (id := "len") call_len_str rfl T.n_len PySem.boot_len (pa_cons (pv 0) pa_nil)) pe_int) (pe_one (pe_callB (id := "all") (allK K rfl) rfl T.n_all (by decide +kernel) (pa_cons (pe_lc (own := [("sign", 1)]) (g := gName 1) rfl sc_is_name.nd (pi_str (pv 0)) (blkOk_by (own := [("sign", 1)]) (N := ["text", "sign"]) (sc := defScope s_is_name) (by decide +kernel)) (fun _ _ _ _ _ => (pgv 1 sc_is_name.nd)) (fun _ _ _ _ _ => pts_nil) (fun _ _ _ _ _ => (pe_cmpR op_in_sign (pv 1) (pe_gs T.LETTERS) (by with_unfolding_all rfl)))) pa_nil)))))), ?_⟩
  obtain ⟨x, rfl, ⟨n1, n2, n3⟩, k⟩ := h
  refine s_ret (v := .bl true) ?_ k
  have hl : Ev (tCB (fun xs H Q => ∃ z, xs = [V.str z] ∧ z.length ≤ sizeLine ∧ Q (.int z.length) H) (tCons (tVar 0) tNil)) (start ["text", "sign"] [.str x]) H (.int (x.length : Int)) := ev_lenS (ev_var rfl) (by omega)
  have h1 := ev_chain (r := rI0 fun i j => .bl (decide (i < j))) (r2 := rI0 fun i j => .bl (decide (i ≤ j))) (a := decide ((0 : Int) < (x.length : Int))) (b := decide ((x.length : Int) ≤ 12)) (ev_c (v := .int 0)) hl rv_I0 (fun _ => ev_c (v := .int 12)) (fun _ => rv_I0)
  have e1 : (decide ((0 : Int) < (x.length : Int)) && decide ((x.length : Int) ≤ 12)) = true := by
    rw [Bool.and_eq_true, decide_eq_true_eq, decide_eq_true_eq]
    omega
  rw [e1] at h1
  refine ev_is (ev_andV (a := true) (b := true) h1 fun _ => ?_) rfl
  have hsz : x.cps.size = x.length := rfl
  have hb : (List.replicate x.length true).map V.bl = given x.cps.size (fun _ => true) (fun _ => V.bl true) := by
    rw [given_all (xs := (List.replicate x.length true).map V.bl) (by simp [hsz])]
    intro i hi
    rw [List.getElem?_map, List.getElem?_replicate, if_pos (by omega)]
    rfl
  have hc := el_lcS (te := tOp (fun x y H Q => ∃ (c : Nat) (z : Str), x = .str ⟨#[c]⟩ ∧ y = .str z ∧ Q (.bl (decide (c ∈ z.cps.toList))) H) (tVar 1) (tC (.str tLET))) (tl := tVar 0) (σ := start ["text", "sign"] [.str x]) (H := H) (j := 1) (vs := [1]) (x := x)
    (fun _ => V.bl true) (ev_var rfl) (by omega) (fun y => rfl) (fun i c H1 e1 hc => by
      have m : c ∈ x.cps.toList := by
        rw [← Array.getElem?_toList] at hc
        exact List.mem_of_getElem? hc
      have e2 : decide (c ∈ tLET.cps.toList) = true := decide_eq_true (n3 c m)
      exact ev_is (ev_op (ev_var rfl) ev_c rv_sgn) (congrArg V.bl e2))
  have h2 := ev_all (K := K) (bs := List.replicate x.length true) (by rw [hb]; exact hc)
  exact ev_is h2 (by simp)
/-! ### a document -/
def DocAt (H : Hp) (a : Addr) (ds : List (Str × Str)) : Prop := ∃ ts : List Addr, H a = some (.lst (ts.map V.ref)) ∧ Paired (fun t (p : Str × Str) => H t = some (.tup [.str p.1, .str p.2])) ts ds
theorem DocAt.mono {H H2 : Hp} {a : Addr} {ds : List (Str × Str)} (h : DocAt H a ds) (e : Ex H H2) : DocAt H2 a ds := by
  obtain ⟨ts, h1, h2⟩ := h
  exact ⟨ts, e _ _ h1, Paired.mapP h2 fun _ _ q => e _ _ q⟩
/-- names that rise -/
def DocOk (ds : List (Str × Str)) : Prop := (∀ p ∈ ds, Nm p.1) ∧ ds.Pairwise (fun p q => p.1.cps.toList < q.1.cps.toList) ∧ ds.length ≤ 1000 ∧ ∀ p ∈ ds, ∀ c ∈ p.2.cps.toList, c < 1114112
def lastOf (ds : List (Str × Str)) : Nat → Str
  | 0 => Z []
  | i + 1 => ((ds[i]?).map (·.1)).getD (Z [])
theorem empty_Z : ("" : Str) = Z [] := by decide +kernel
theorem last_lt {ds : List (Str × Str)} (h : DocOk ds) {i : Nat} {p : Str × Str} (hi : ds[i]? = some p) : (lastOf ds i).cps.toList < p.1.cps.toList := by
  obtain ⟨h1, h2, _⟩ := h
  cases i with
  | zero =>
    have q := (h1 p (List.mem_of_getElem? hi)).1
    show ([] : List Nat) < p.1.cps.toList
    cases e : p.1.cps.toList with
    | nil =>
      rw [len_of, e] at q
      simp at q
    | cons x r => exact List.nil_lt_cons x r
  | succ i =>
    obtain ⟨hlt, e1⟩ := List.getElem?_eq_some_iff.mp hi
    have q := List.pairwise_iff_getElem.mp h2 i (i + 1) (by omega) hlt (by omega)
    rw [e1] at q
    have e2 : lastOf ds (i + 1) = (ds[i]'(by omega)).1 := by
      show ((ds[i]?).map (·.1)).getD (Z []) = _
      rw [List.getElem?_eq_getElem (by omega)]
      rfl
    rw [e2]
    exact q
def sp_look_at_document : Sp := fun vs H Q _ => ∃ (a : Addr) (ds : List (Str × Str)), vs = [.ref a] ∧ DocAt H a ds ∧ DocOk ds ∧ RetV .non H Q
theorem sc_look_at_document : FnScope ["document", "last", "place", "field", "text"] ["document"] (defScope s_look_at_document) := ⟨rfl, rfl, rfl, by decide +kernel, rfl, by decide +kernel, by decide +kernel⟩
theorem ok_look_at_document {P : Program} {w : World} {K : PySem.W.Frag} {mg : Str → Option Value} {base : Heap} (G : Gd K mg "look_at_document" s_look_at_document) (T : Tx K mg) (O_is_name : OkF P w K mg base 1 "is_name" ["text"] sp_is_name) : OkF P w K mg base 2 "look_at_document" ["document"] sp_look_at_document := by
  refine G.ok (k := 1) sc_look_at_document (fun _ _ _ _ _ _ us hl => match us, hl with | [_], _ => rfl) (fun vs H Q E h => ?_) (fun f cdv A outer s H vs Q E hr h => ?_)
  · unfold sp_look_at_document at h
    repeat (first | (obtain ⟨rfl, h⟩ := h; rfl) | (obtain ⟨_, h⟩ := h))
  have hu := hu_of hr
  refine ⟨_, (pss_cons (psv 1 sc_look_at_document.nd pe_str)
      (pss_one (ps_for PassesOwn.never rfl (pi_enum rfl T.n_enumerate (pa_cons (pv 0) pa_nil)) (pg_tup rfl (pgs_cons (pgv 2 sc_look_at_document.nd) (pgs_cons (pg_tup rfl (pgs_cons (pgv 3 sc_look_at_document.nd) (pgs_cons (pgv 4 sc_look_at_document.nd) pgs_nil))) pgs_nil)))
        (pss_cons (ps_if (PW.pt (pw_or (pt_not (pt_val (pe_fn O_is_name (hr.mono (by decide)) (pa_cons (pv 3) pa_nil)))) (pw_or1 (pt_cmpR op_le_str (pv 3) (pv 1) (nomark _))))) (pss_one ps_never) pss_nil)
        (pss_one (psv 1 sc_look_at_document.nd (pv 3))))))), ?_⟩
  obtain ⟨a, ds, rfl, hd, hok, k⟩ := h
  obtain ⟨ts, ha, hp⟩ := id hd
  refine q_asg ev_c fun H1 e1 => ?_
  have hl : (ts.map V.ref).length = ds.length := by rw [List.length_map, hp.length]
  refine ⟨_, rfl, a, ts.map V.ref, rfl, ex_l e1 (SqL.of ha), for_it (walk_enum (xs := ts.map V.ref)) (fun i σ H2 => ∃ y2 y3 y4, σ = [some (.ref a), some (.str (lastOf ds i)), y2, y3, y4] ∧ Ex H H2) ?_ ?_ ?_ ?_⟩
  · exact ⟨none, none, none, rfl, e1⟩
  · rintro i σ H2 _ ⟨_, _, _, _, e2⟩
    exact ex_l e2 (SqL.of ha)
  · rintro i x σ H2 H3 hi ⟨y2, y3, y4, rfl, e2⟩ ⟨T, u, v, rfl, hT, rfl, hu, hv⟩
    cases hu
    obtain ⟨t, ht, rfl⟩ := map_at hv
    obtain ⟨p, hpi, hpt⟩ := pd_getL hp ht
    have e3 : Ex H (upd H2 T (.tup [.int (i : Nat), .ref t])) := ex_new e2 hT
    refine ⟨T, _, rfl, .inl (.inl upd_same), rfl, _, _, rfl, _, _, rfl, ⟨t, _, rfl, .inl (.inl (e3 _ _ hpt)), rfl, _, _, rfl, _, _, rfl, rfl, rfl, ?_⟩⟩
    have hn : Nm p.1 := hok.1 p (List.mem_of_getElem? hpi)
    refine q_when (b := false) ?_ (fun z => nomatch z) fun _ H4 e4 => ?_
    · refine et_or (a := false) (b := false) ?_ fun _ => ?_
      · exact et_not (a := true) (et_B (ev_call (ea_cons (ev_var rfl) ea_nil) fun H5 e5 Q5 q5 E5 => ⟨p.1, rfl, hn, q5⟩))
      · refine et_test (ev_op (ev_var rfl) (ev_var rfl) fun H5 e5 Q5 q5 => ⟨_, _, rfl, rfl, ?_⟩)
        rw [decide_eq_true (last_lt hok hpi)]
        exact q5 H5 (Ex.refl H5)
    · refine s_asg (ev_var rfl) fun H5 e5 => ⟨some (.int (i : Nat)), some (.str p.1), some (.str p.2), ?_, (e3.trans e4).trans e5⟩
      have e6 : lastOf ds (i + 1) = p.1 := by
        show ((ds[i]?).map (·.1)).getD (Z []) = _
        rw [hpi]
        rfl
      rw [e6]
      rfl
  · rintro σ H2 ⟨y2, y3, y4, rfl, e2⟩
    exact k H2 e2
/-! ### the words of a text -/
def wstep (a : List Str × List Nat) (c : Nat) : List Str × List Nat :=
  if low c = [] ∧ a.2 ≠ [] then (a.1 ++ [Z a.2], []) else (a.1, a.2 ++ low c)
def wfold (l : List Nat) : List Str × List Nat := l.foldl wstep ([], [])
def wordsOf (x : Str) : List Str := (wfold (x.cps.toList ++ [32])).1
theorem wfold_snoc (l : List Nat) (c : Nat) : wfold (l ++ [c]) = wstep (wfold l) c := by
  unfold wfold
  rw [List.foldl_append]
  rfl
theorem low_len (c : Nat) : (low c).length ≤ 1 := by
  unfold low
  split
  · simp
  · split
    · simp
    · simp
theorem wfold_len (l : List Nat) : (wfold l).1.length ≤ l.length ∧ (wfold l).2.length ≤ l.length := by
  induction l using list_rev_ind with
  | nil => exact ⟨Nat.le_refl _, Nat.le_refl _⟩
  | snoc l c ih =>
    rw [wfold_snoc]
    unfold wstep
    have := low_len c
    split
    · simp
      omega
    · simp
      omega
/-- a list of triples that begin with the words -/
def WordsAt (H : Hp) (p : Addr) (ws : List Str) : Prop := ∃ ts : List Addr, H p = some (.lst (ts.map V.ref)) ∧ Paired (fun t w => ∃ b e : Int, H t = some (.tup [.str w, .int b, .int e])) ts ws
theorem WordsAt.mono {H H2 : Hp} {p : Addr} {ws : List Str} (h : WordsAt H p ws) (e : Ex H H2) : WordsAt H2 p ws := by
  obtain ⟨ts, h1, h2⟩ := h
  exact ⟨ts, e _ _ h1, Paired.mapP h2 fun _ _ ⟨b, c, q⟩ => ⟨b, c, e _ _ q⟩⟩
def sp_words_of : Sp := fun vs H Q _ => ∃ x : Str, vs = [.str x] ∧ x.length ≤ 30000 ∧ ∀ p H2, H p = none → Ex H H2 → WordsAt (fr H H2) p (wordsOf x) → Q (.ref p) H2
theorem sc_words_of : FnScope ["text", "found", "word", "place", "sign", "one"] ["text"] (defScope s_words_of) := ⟨rfl, rfl, rfl, by decide +kernel, rfl, by decide +kernel, by decide +kernel⟩
theorem ok_words_of {P : Program} {w : World} {K : PySem.W.Frag} {mg : Str → Option Value} {base : Heap} (G : Gd K mg "words_of" s_words_of) (T : Tx K mg) (O_lowered : OkF P w K mg base 1 "lowered" ["sign"] sp_lowered) : OkF P w K mg base 2 "words_of" ["text"] sp_words_of := by
  refine G.ok (k := 1) sc_words_of (fun _ _ _ _ _ _ us hl => match us, hl with | [_], _ => rfl) (fun vs H Q E h => ?_) (fun f cdv A outer s H vs Q E hr h => ?_)
  · unfold sp_words_of at h
    repeat (first | (obtain ⟨rfl, h⟩ := h; rfl) | (obtain ⟨_, h⟩ := h))
  have hu := hu_of hr
  refine ⟨_, (pss_cons (psv 1 sc_words_of.nd (pe_lst pa_nil))
      (pss_cons (psv 2 sc_words_of.nd pe_str)
      (pss_cons (ps_for PassesOwn.never rfl (pi_enumS rfl T.n_enumerate (pe_op op_add_str (pv 0) pe_str)) (pg_tup rfl (pgs_cons (pgv 3 sc_words_of.nd) (pgs_cons (pgv 4 sc_words_of.nd) pgs_nil)))
        (pss_cons (psv 5 sc_words_of.nd (pe_fn O_lowered (hr.mono (by decide)) (pa_cons (pv 4) pa_nil)))
        (pss_cons (ps_if (PW.pt (pw_and (pt_cmpR op_eq (pv 5) pe_str (nomark _)) (pw_and1 (pt_cmpR op_ne (pv 2) pe_str (nomark _))))) (pss_cons (ps_expr (pe_bm PySem.F.plainAttrs_list PySem.F.slot_list_append PySem.F.type_list_append mt_append (pv 1) (pa_cons (pe_tup (pa_cons (pv 2) (pa_cons (pe_op op_sub (pv 3) (pe_callB (id := "len") call_len_str rfl T.n_len PySem.boot_len (pa_cons (pv 2) pa_nil))) (pa_cons (pv 3) pa_nil)))) pa_nil)))
          (pss_one (psv 2 sc_words_of.nd pe_str))) pss_nil)
        (pss_one (psv 2 sc_words_of.nd (pe_op op_add_str (pv 2) (pv 5)))))))
      (pss_one (ps_ret (pv 1)))))), ?_⟩
  obtain ⟨x, rfl, hx, k⟩ := h
  refine q_asgL (el_lst ea_nil (Nat.zero_le _)) fun p H1 hp e1 h1 => ?_
  refine q_asg ev_c fun H2 e2 => ?_
  have hx1 : x.length + (Z [32]).length ≤ 1000000 := by
    have h1 : (Z [32]).length = 1 := rfl
    omega
  refine q_forI (ei_enumS (x := x ++ Z [32]) (ev_op (ev_var rfl) ev_c (rv_addS hx1))) (fun i σ H4 => ∃ y3 y4 y5, σ = [some (.str x), some (.ref p), some (.str (Z (wfold ((x.cps.toList ++ [32]).take i)).2)), y3, y4, y5] ∧ Ex H H4 ∧ WordsAt (fr H H4) p (wfold ((x.cps.toList ++ [32]).take i)).1) (fun H3 e3 => ?_) (fun _ _ _ _ _ => trivial) ?_ ?_
  · exact ⟨none, none, none, rfl, (e1.trans e2).trans e3, ⟨[], (fr_at hp).trans ((e2.trans e3) _ _ h1), .nil⟩⟩
  · rintro i v σ H4 H5 hi ⟨y3, y4, y5, rfl, e4, hw⟩ ⟨Tt, c, rfl, hT, rfl, hc⟩
    have hc2 : (x.cps.toList ++ [32])[i]? = some c := by
      rw [← Array.getElem?_toList] at hc
      rw [← hc, app_codes]
    obtain ⟨hlt, hc3⟩ := List.getElem?_eq_some_iff.mp hc2
    have hlt2 : i < x.length + 1 := by
      rw [len_of]
      simpa using hlt
    have hs : wfold ((x.cps.toList ++ [32]).take (i + 1)) = wstep (wfold ((x.cps.toList ++ [32]).take i)) c := by
      rw [List.take_succ, hc2, Option.toList_some, wfold_snoc]
    have hb := wfold_len ((x.cps.toList ++ [32]).take i)
    have hti : ((x.cps.toList ++ [32]).take i).length ≤ i := by
      rw [List.length_take]
      omega
    rw [hs]
    generalize wfold ((x.cps.toList ++ [32]).take i) = a at *
    obtain ⟨fs, cur⟩ := a
    simp only at hb hw ⊢
    have hll := low_len c
    refine ⟨Tt, [.int (i : Nat), .str ⟨#[c]⟩], rfl, .inl (.inl upd_same), rfl, _, _, rfl, _, _, rfl, rfl, ?_⟩
    have e5 : Ex H4 (upd H4 Tt (.tup [.int (i : Nat), .str ⟨#[c]⟩])) := Ex.new hT
    refine q_asg (ev_call (z := .str (Z (low c))) (ea_cons (ev_var rfl) ea_nil) (fun H6 e6 Q6 q6 E6 => ⟨c, rfl, q6⟩)) fun H6 e6 => ?_
    have hw6 : WordsAt (fr H H6) p fs := hw.mono (fr_to (e5.trans e6))
    refine q_when (b := decide (low c = []) && !decide (cur = [])) ?_ (fun hd H7 e7 => ?_) fun hd H7 e7 => ?_
    · refine et_and (et_is (et_test (ev_op (ev_var rfl) ev_c (rv_eq rfl))) ?_) fun _ => et_is (et_test (ev_op (ev_var rfl) ev_c (rv_ne rfl))) ?_
      · rw [empty_Z]
        simp
      · rw [empty_Z]
        simp
    · obtain ⟨hd1, hd2⟩ := Bool.and_eq_true_iff.mp hd
      have hd3 : ¬ cur = [] := by simpa using hd2
      have hd4 : low c = [] := of_decide_eq_true hd1
      obtain ⟨ts, ht0, hp7⟩ := hw6.mono (fr_to e7)
      have ht : H7 p = some (.lst (ts.map V.ref)) := (fr_at hp).symm.trans ht0
      have hlen := hp7.length
      have hb1 : (Z cur).length = cur.length := Z_len cur
      refine q_appU (xs := ts.map V.ref) (ys := [.str (Z cur), .int ((i : Nat) - (Z cur).length), .int (i : Nat)]) ht (ev_var rfl) ?_ ?_ fun t H8 hn8 e8 h8 => ?_
      · refine eu_tup (ea_cons (ev_var rfl) (ea_cons (ev_op (ev_var rfl) (ev_lenS (ev_var rfl) (by omega)) rv_I0) (ea_cons (ev_var rfl) ea_nil))) (by simp)
      · rw [List.length_map]
        omega
      · have e9 : Ex H (upd H8 p (.lst (ts.map V.ref ++ [.ref t]))) := ((((e4.trans e5).trans e6).trans e7).trans e8).mut hp
        have hw9 : WordsAt (fr H (upd H8 p (.lst (ts.map V.ref ++ [.ref t])))) p (fs ++ [Z cur]) := by
          rw [fr_upd hp]
          refine ⟨ts ++ [t], ?_, ?_⟩
          · rw [List.map_append]
            exact upd_same
          · have hne : ∀ (u : Addr) (b c : Int) (z : Str), fr H H8 u = some (.tup [.str z, .int b, .int c]) → upd (fr H H8) p (.lst (ts.map V.ref ++ [.ref t])) u = some (.tup [.str z, .int b, .int c]) := by
              intro u b c z hu2
              rw [upd_ne]
              · exact hu2
              · rintro rfl
                rw [fr_to e8 _ _ ht0] at hu2
                cases hu2
            exact Paired.snoc (Paired.mapP hp7 fun u z ⟨b, c, q⟩ => ⟨b, c, hne u b c z (fr_to e8 _ _ q)⟩) ⟨_, _, hne _ _ _ _ ((fr_at (fresh_back (((e4.trans e5).trans e6).trans e7) hn8)).trans h8)⟩
        have ews : wstep (fs, cur) c = (fs ++ [Z cur], []) := if_pos ⟨hd4, hd3⟩
        rw [ews]
        refine s_asg ev_c fun H9 e10 => ?_
        refine s_asg (ev_op (ev_var rfl) (ev_var rfl) (rv_addS ?_)) fun H10 e11 => ?_
        · rw [hd4]
          decide
        · refine ⟨some (.int (i : Nat)), some (.str ⟨#[c]⟩), some (.str (Z (low c))), ?_, (e9.trans e10).trans e11, hw9.mono (fr_to (e10.trans e11))⟩
          rw [hd4]
          rfl
    · have ews : wstep (fs, cur) c = (fs, cur ++ low c) := by
        refine if_neg ?_
        rintro ⟨z1, z2⟩
        rw [z1] at hd
        simp at hd
        exact z2 hd
      rw [ews]
      refine s_asg (ev_op (ev_var rfl) (ev_var rfl) (rv_addS ?_)) fun H8 e8 => ?_
      · rw [Z_len, Z_len]
        omega
      · refine ⟨some (.int (i : Nat)), some (.str ⟨#[c]⟩), some (.str (Z (low c))), ?_, (((e4.trans e5).trans e6).trans e7).trans e8, hw6.mono (fr_to (e7.trans e8))⟩
        rw [Z_app]
        rfl
  · rintro σ H4 ⟨y3, y4, y5, rfl, e4, hw⟩
    have hsz : (x ++ Z [32]).cps.size = (x.cps.toList ++ [32]).length := by
      rw [← Array.length_toList, app_codes]
    rw [hsz, List.take_length] at hw
    exact s_ret (ev_var rfl) fun H5 e5 => k p H5 hp (e4.trans e5) (hw.mono (fr_to e5))
end Fc
/-! Patterns: how they are walked. -/
namespace Fc
open PySem PySem.Spec PyProof.Rows L2 Evl
abbrev tWILD : Str := "?*"
theorem wild_eq : tWILD.cps.toList = [63, 42] := by decide +kernel
def patC (c : Nat) : Bool := decide (c ∈ tLET.cps.toList) || decide (c ∈ tFIG.cps.toList) || decide (c ∈ tWILD.cps.toList)
def PatOk (x : Str) : Prop := 1 ≤ x.length ∧ x.length ≤ 40 ∧ ∀ c ∈ x.cps.toList, patC c = true
def sp_look_at_pattern : Sp := fun vs H Q _ => ∃ x : Str, vs = [.str x] ∧ PatOk x ∧ RetV .non H Q
theorem sc_look_at_pattern : FnScope ["pattern", "sign"] ["pattern"] (defScope s_look_at_pattern) := ⟨rfl, rfl, rfl, by decide +kernel, rfl, by decide +kernel, by decide +kernel⟩
theorem ok_look_at_pattern {P : Program} {w : World} {K : PySem.W.Frag} {mg : Str → Option Value} {base : Heap} (G : Gd K mg "look_at_pattern" s_look_at_pattern) (T : Tx K mg) : OkF P w K mg base 1 "look_at_pattern" ["pattern"] sp_look_at_pattern := by
  refine G.ok (k := 0) sc_look_at_pattern (fun _ _ _ _ _ _ us hl => match us, hl with | [_], _ => rfl) (fun vs H Q E h => ?_) (fun f cdv A outer s H vs Q E hr h => ?_)
  · unfold sp_look_at_pattern at h
    repeat (first | (obtain ⟨rfl, h⟩ := h; rfl) | (obtain ⟨_, h⟩ := h))
  have hu := hu_of hr
  refine ⟨_, (pss_cons (ps_if (PW.pt (pw_or (pt_cmpR op_lt (pe_callB (id := "len") call_len_str rfl T.n_len PySem.boot_len (pa_cons (pv 0) pa_nil)) pe_int (nomark _)) (pw_or1 (pt_cmpR op_gt (pe_callB (id := "len") call_len_str rfl T.n_len PySem.boot_len (pa_cons (pv 0) pa_nil)) pe_int (nomark _))))) (pss_one ps_never) pss_nil)
      (pss_one (ps_for PassesOwn.never rfl (pi_str (pv 0)) (pgv 1 sc_look_at_pattern.nd)
        (pss_one (ps_if (PW.pt (pw_and (pt_cmpR op_notIn_sign (pv 1) (pe_gs T.LETTERS) (by with_unfolding_all rfl)) (pw_and (pt_cmpR op_notIn_sign (pv 1) (pe_gs T.FIGURES) (by with_unfolding_all rfl)) (pw_and1 (pt_cmpR op_notIn_sign (pv 1) pe_str (by with_unfolding_all rfl)))))) (pss_one ps_never) pss_nil))))), ?_⟩
  obtain ⟨x, rfl, ⟨n1, n2, n3⟩, k⟩ := h
  refine q_when (b := false) ?_ (fun z => nomatch z) fun _ H1 e1 => ?_
  · refine et_is (et_or (et_test (ev_op (ev_lenS (ev_var rfl) (by omega)) ev_c rv_I0)) fun _ => et_test (ev_op (ev_lenS (ev_var rfl) (by omega)) ev_c rv_I0)) ?_
    rw [Bool.or_eq_false_iff, decide_eq_false_iff_not, decide_eq_false_iff_not]
    omega
  · refine s_forI (ei_str (x := x) (ev_var rfl)) (fun i σ H2 => ∃ y, σ = [some (.str x), y] ∧ Ex H H2) (fun H2 e2 => ⟨none, rfl, e1.trans e2⟩) (fun _ _ _ _ _ => trivial) ?_ ?_
    · rintro i v σ H2 H3 hi ⟨y, rfl, e2⟩ ⟨rfl, c, hc, rfl⟩
      have m : c ∈ x.cps.toList := by
        rw [← Array.getElem?_toList] at hc
        exact List.mem_of_getElem? hc
      have hp := n3 c m
      refine s_when (b := false) ?_ (fun z => nomatch z) fun _ H4 e4 => ⟨_, rfl, e2.trans e4⟩
      refine et_is (et_and (et_test (ev_op (ev_var rfl) ev_c rv_nsgn)) fun _ => et_and (et_test (ev_op (ev_var rfl) ev_c rv_nsgn)) fun _ => et_test (ev_op (ev_var rfl) ev_c rv_nsgn)) ?_
      unfold patC at hp
      rw [← Bool.not_or, ← Bool.not_or, ← Bool.or_assoc, hp]
      rfl
    · rintro σ H2 ⟨y, rfl, e2⟩
      exact k H2 e2
/-- whether stars of no signs lead to place k -/
def sprB (pat : List Nat) (es : List Nat) : Nat → Bool
  | 0 => decide (0 ∈ es)
  | k + 1 => decide (k + 1 ∈ es) || (decide (pat[k]? = some 42) && sprB pat es k)
def sprR (pat : List Nat) (es : List Nat) : Nat → Bool
  | 0 => false
  | k + 1 => decide (pat[k]? = some 42) && sprB pat es k
def spr (pat es : List Nat) : List Nat := (List.range (pat.length + 1)).filter (sprB pat es)
theorem spr_len (pat es : List Nat) : (spr pat es).length ≤ pat.length + 1 := by
  have h := List.length_filter_le (sprB pat es) (List.range (pat.length + 1))
  rw [List.length_range] at h
  exact h
theorem spr_le {pat es : List Nat} {k : Nat} (h : k ∈ spr pat es) : k ≤ pat.length := by
  unfold spr at h
  have := List.mem_range.mp (List.mem_filter.mp h).1
  omega
theorem codes_at {x : Str} {k c : Nat} (h : x.cps.toList[k]? = some c) : atI x.cps.toList (k : Int) = some c := atI_nat h
def sp_spread : Sp := fun vs H Q _ => ∃ (x : Str) (a : Addr) (es : List Nat), vs = [.str x, .ref a] ∧ x.length ≤ 1000 ∧ H a = some (.lst (nats es)) ∧ RetL (nats (spr x.cps.toList es)) H Q
theorem sc_spread : FnScope ["pattern", "ends", "found", "at"] ["pattern", "ends"] (defScope s_spread) := ⟨rfl, rfl, rfl, by decide +kernel, rfl, by decide +kernel, by decide +kernel⟩
theorem ok_spread {P : Program} {w : World} {K : PySem.W.Frag} {mg : Str → Option Value} {base : Heap} (G : Gd K mg "spread" s_spread) (T : Tx K mg) : OkF P w K mg base 1 "spread" ["pattern", "ends"] sp_spread := by
  refine G.ok (k := 0) sc_spread (fun _ _ _ _ _ _ us hl => match us, hl with | [_, _], _ => rfl) (fun vs H Q E h => ?_) (fun f cdv A outer s H vs Q E hr h => ?_)
  · unfold sp_spread at h
    repeat (first | (obtain ⟨rfl, h⟩ := h; rfl) | (obtain ⟨_, h⟩ := h))
  have hu := hu_of hr
  refine ⟨_, (pss_cons (psv 2 sc_spread.nd (pe_lst pa_nil))
      (pss_cons (ps_for PassesOwn.never rfl (pi_range1 rfl T.n_range (pa_cons (pe_op op_add (pe_callB (id := "len") call_len_str rfl T.n_len PySem.boot_len (pa_cons (pv 0) pa_nil)) pe_int) pa_nil)) (pgv 3 sc_spread.nd)
        (pss_one (ps_if (PW.pt (pw_or (pt_cmpR (opInK K) (pv 3) (pv 1) (by with_unfolding_all rfl)) (pw_or1 (PW.pt (pw_and (pt_cmpR op_gt (pv 3) pe_int (nomark _)) (pw_and (pt_cmpR op_eq (pe_ix ix_str (pv 0) (pe_op op_sub (pv 3) pe_int) (fun _ _ => rfl)) pe_str (nomark _)) (pw_and1 (pt_cmpR (opInK K) (pe_op op_sub (pv 3) pe_int) (pv 2) (by with_unfolding_all rfl))))))))) (pss_one (ps_expr (pe_bm PySem.F.plainAttrs_list PySem.F.slot_list_append PySem.F.type_list_append mt_append (pv 2) (pa_cons (pv 3) pa_nil)))) pss_nil)))
      (pss_one (ps_ret (pv 2))))), ?_⟩
  obtain ⟨x, a, es, rfl, hx, ha, k⟩ := h
  refine q_asgL (el_lst ea_nil (Nat.zero_le _)) fun p H1 hp e1 h1 => ?_
  have hcl : x.length = x.cps.toList.length := len_of x
  refine q_forR1 (n := (x.length : Int) + 1) (ea_cons (ev_op (ev_lenS (ev_var rfl) (by omega)) ev_c rv_I0) ea_nil) (by omega) (fun i σ H2 => ∃ y, σ = [some (.str x), some (.ref a), some (.ref p), y] ∧ Ex H H2 ∧ H2 p = some (.lst (nats ((List.range i).filter (sprB x.cps.toList es))))) (fun H2 e2 => ⟨none, rfl, e1.trans e2, e2 _ _ h1⟩) ?_ ?_
  · rintro i σ H2 hi ⟨y, rfl, e2, h2⟩
    refine s_when (b := sprB x.cps.toList es i) ?_ (fun hb H3 e3 => ?_) fun hb H3 e3 => ?_
    · refine et_is (et_or (b := sprR x.cps.toList es i) (et_test (ev_op (ev_var rfl) (ev_var rfl) (rv_inN (sq_of (e2 _ _ ha))))) fun _ => ?_) ?_
      · cases i with
        | zero => exact et_and (a := false) (b := false) (et_test (ev_op (ev_var rfl) ev_c rv_I0)) fun z => nomatch z
        | succ j =>
          have hj : j < x.cps.toList.length := by omega
          have ei : ((j + 1 : Nat) : Int) - 1 = (j : Int) := by omega
          have ev1 : ∀ H9 : Hp, Ev (tOp (rI0 fun i j => .int (i - j)) (tVar 3) (tC (.int 1))) [some (V.str x), some (.ref a), some (.ref p), some (.int ((j + 1 : Nat) : Int))] H9 (.int (j : Int)) := fun H9 => ev_is (ev_op (ev_var rfl) ev_c rv_I0) (congrArg V.int ei)
          refine et_is (et_and (a := true) (et_is (et_test (ev_op (ev_var rfl) ev_c rv_I0)) ?_) fun _ => et_and (a := decide (x.cps.toList[j]? = some 42)) (et_is (et_test (ev_op (ev_op (ev_var rfl) (ev1 _) (rv_ixS (c := x.cps.toList[j]) (by omega) (codes_at (List.getElem?_eq_getElem hj)))) ev_c (rv_eq rfl))) ?_) fun _ => et_test (ev_op (ev1 _) (ev_var rfl) (rv_inN (sq_of h2)))) ?_
          · rw [decide_eq_true_iff]
            omega
          · rw [List.getElem?_eq_getElem hj]
            congr 1
            have e9 : ("*" : Str) = ⟨#[42]⟩ := rfl
            rw [e9]
            simp
          · rw [Bool.true_and]
            congr 1
            have hm : (j ∈ (List.range (j + 1)).filter (sprB x.cps.toList es)) ↔ sprB x.cps.toList es j = true := by
              rw [List.mem_filter, List.mem_range]
              exact ⟨fun q => q.2, fun q => ⟨by omega, q⟩⟩
            cases hq : sprB x.cps.toList es j with
            | true => exact decide_eq_true (hm.mpr hq)
            | false => exact decide_eq_false (fun z => by rw [hm, hq] at z; cases z)
      · cases i with
        | zero => show (decide (0 ∈ es) || false) = decide (0 ∈ es); rw [Bool.or_false]
        | succ j => rfl
    · refine s_app (e3 _ _ h2) (ev_var rfl) (ev_var rfl) ?_ fun H4 e4 => ⟨_, rfl, ((e2.trans e3).trans e4).mut hp, ?_⟩
      · have q := List.length_filter_le (sprB x.cps.toList es) (List.range i)
        rw [List.length_range] at q
        rw [List.length_map]
        omega
      · rw [List.range_succ, List.filter_append, List.filter_cons, if_pos hb, upd_same]
        simp
    · refine ⟨_, rfl, e2.trans e3, ?_⟩
      rw [List.range_succ, List.filter_append, List.filter_cons, if_neg (by rw [hb]; decide)]
      simpa using e3 _ _ h2
  · rintro σ H2 ⟨y, rfl, e2, h2⟩
    refine s_ret (ev_var rfl) fun H3 e3 => k p H3 hp (e2.trans e3) ?_
    have en : ((x.length : Int) + 1).toNat = x.cps.toList.length + 1 := by omega
    rw [en] at h2
    exact e3 _ _ h2
def stpF (pat : List Nat) (c at_ : Nat) : List Nat := match pat[at_]? with
  | none => []
  | some d => if d = 42 then [at_] else if d = 63 ∨ d = c then [at_ + 1] else []
def stp (pat es : List Nat) (c : Nat) : List Nat := spr pat (es.flatMap (stpF pat c))
theorem stpF_len (pat : List Nat) (c at_ : Nat) : (stpF pat c at_).length ≤ 1 := by
  unfold stpF
  split
  · simp
  · split
    · simp
    · split
      · simp
      · simp
theorem flat_len {pat : List Nat} {c : Nat} (es : List Nat) : (es.flatMap (stpF pat c)).length ≤ es.length := by
  induction es with
  | nil => exact Nat.le_refl _
  | cons e r ih =>
    rw [List.flatMap_cons, List.length_append, List.length_cons]
    have := stpF_len pat c e
    omega
def sp_stepped : Sp := fun vs H Q _ => ∃ (x : Str) (a : Addr) (es : List Nat) (c : Nat), vs = [.str x, .ref a, .str ⟨#[c]⟩] ∧ x.length ≤ 1000 ∧ es.length ≤ 2000 ∧ H a = some (.lst (nats es)) ∧ RetL (nats (stp x.cps.toList es c)) H Q
theorem sc_stepped : FnScope ["pattern", "ends", "sign", "found", "at"] ["pattern", "ends", "sign"] (defScope s_stepped) := ⟨rfl, rfl, rfl, by decide +kernel, rfl, by decide +kernel, by decide +kernel⟩
theorem ok_stepped {P : Program} {w : World} {K : PySem.W.Frag} {mg : Str → Option Value} {base : Heap} (G : Gd K mg "stepped" s_stepped) (T : Tx K mg) (O_spread : OkF P w K mg base 1 "spread" ["pattern", "ends"] sp_spread) : OkF P w K mg base 2 "stepped" ["pattern", "ends", "sign"] sp_stepped := by
  refine G.ok (k := 1) sc_stepped (fun _ _ _ _ _ _ us hl => match us, hl with | [_, _, _], _ => rfl) (fun vs H Q E h => ?_) (fun f cdv A outer s H vs Q E hr h => ?_)
  · unfold sp_stepped at h
    repeat (first | (obtain ⟨rfl, h⟩ := h; rfl) | (obtain ⟨_, h⟩ := h))
  have hu := hu_of hr
  refine ⟨_, (pss_cons (psv 3 sc_stepped.nd (pe_lst pa_nil))
      (pss_cons (ps_for PassesOwn.never rfl (pi_list (pv 1)) (pgv 4 sc_stepped.nd)
        (pss_one (ps_if (pt_cmpR op_lt (pv 4) (pe_callB (id := "len") call_len_str rfl T.n_len PySem.boot_len (pa_cons (pv 0) pa_nil)) (nomark _)) (pss_one (ps_if (pt_cmpR op_eq (pe_ix ix_str (pv 0) (pv 4) (fun _ _ => rfl)) pe_str (nomark _)) (pss_one (ps_expr (pe_bm PySem.F.plainAttrs_list PySem.F.slot_list_append PySem.F.type_list_append mt_append (pv 3) (pa_cons (pv 4) pa_nil)))) (pss_one (ps_if (PW.pt (pw_or (pt_cmpR op_eq (pe_ix ix_str (pv 0) (pv 4) (fun _ _ => rfl)) pe_str (nomark _)) (pw_or1 (pt_cmpR op_eq (pe_ix ix_str (pv 0) (pv 4) (fun _ _ => rfl)) (pv 2) (nomark _))))) (pss_one (ps_expr (pe_bm PySem.F.plainAttrs_list PySem.F.slot_list_append PySem.F.type_list_append mt_append (pv 3) (pa_cons (pe_op op_add (pv 4) pe_int) pa_nil)))) pss_nil)))) pss_nil)))
      (pss_one (ps_ret (pe_fn O_spread (hr.mono (by decide)) (pa_cons (pv 0) (pa_cons (pv 3) pa_nil))))))), ?_⟩
  obtain ⟨x, a, es, c, rfl, hx, hes, ha, k⟩ := h
  refine q_asgL (el_lst ea_nil (Nat.zero_le _)) fun p H1 hp e1 h1 => ?_
  have hcl : x.length = x.cps.toList.length := len_of x
  refine q_forLn (a := a) (xs := nats es) (ev_var rfl) (sq_of (e1 _ _ ha)) (fun i σ H2 => ∃ y, σ = [some (.str x), some (.ref a), some (.str ⟨#[c]⟩), some (.ref p), y] ∧ Ex H H2 ∧ H2 p = some (.lst (nats ((es.take i).flatMap (stpF x.cps.toList c))))) (fun H2 e2 => ⟨none, rfl, e1.trans e2, e2 _ _ h1⟩) (fun i σ H2 hi ⟨_, _, e2, _⟩ => sq_of (e2 _ _ ha)) ?_ ?_
  · rintro i v σ H2 hi ⟨y, rfl, e2, h2⟩
    obtain ⟨n, hn, rfl⟩ := map_at hi
    have hil : i < es.length := (List.getElem?_eq_some_iff.mp hn).1
    have htk : (es.take (i + 1)).flatMap (stpF x.cps.toList c) = (es.take i).flatMap (stpF x.cps.toList c) ++ stpF x.cps.toList c n := by
      rw [List.take_succ, hn, List.flatMap_append]
      simp
    have hll := flat_len (pat := x.cps.toList) (c := c) (es.take i)
    have hlt : (es.take i).length ≤ 2000 := by
      rw [List.length_take]
      omega
    rw [htk]
    refine s_when (b := decide (n < x.cps.toList.length)) ?_ (fun hb H3 e3 => ?_) fun hb H3 e3 => ?_
    · refine et_is (et_test (ev_op (ev_var rfl) (ev_lenS (ev_var rfl) (by omega)) rv_I0)) ?_
      rw [hcl]
      simp
    · have hnl : n < x.cps.toList.length := of_decide_eq_true hb
      have hix : ∀ H9 : Hp, Ev (tOp rIxS (tVar 0) (tVar 4)) [some (V.str x), some (.ref a), some (.str ⟨#[c]⟩), some (.ref p), some (.int (n : Int))] H9 (.str ⟨#[x.cps.toList[n]]⟩) := fun H9 => ev_op (ev_var rfl) (ev_var rfl) (rv_ixS (by omega) (codes_at (List.getElem?_eq_getElem hnl)))
      have hF : stpF x.cps.toList c n = if x.cps.toList[n] = 42 then [n] else if x.cps.toList[n] = 63 ∨ x.cps.toList[n] = c then [n + 1] else [] := by
        unfold stpF
        rw [List.getElem?_eq_getElem hnl]
      rw [hF]
      refine s_if (b := decide (x.cps.toList[n] = 42)) (et_is (et_test (ev_op (hix _) ev_c (rv_eq rfl))) ?_) (fun hd H4 e4 => ?_) fun hd H4 e4 => ?_
      · have e9 : ("*" : Str) = ⟨#[42]⟩ := rfl
        rw [e9]
        simp
      · rw [if_pos (of_decide_eq_true hd)]
        refine s_app (e4 _ _ (e3 _ _ h2)) (ev_var rfl) (ev_var rfl) (by rw [List.length_map]; omega) fun H5 e5 => ⟨_, rfl, (((e2.trans e3).trans e4).trans e5).mut hp, ?_⟩
        rw [upd_same]
        simp
      · rw [if_neg (of_decide_eq_false hd)]
        refine s_when (b := decide (x.cps.toList[n] = 63) || decide (x.cps.toList[n] = c)) (et_or (et_is (et_test (ev_op (hix _) ev_c (rv_eq rfl))) ?_) fun _ => et_is (et_test (ev_op (hix _) (ev_var rfl) (rv_eq rfl))) ?_) (fun hg H5 e5 => ?_) fun hg H5 e5 => ?_
        · have e9 : ("?" : Str) = ⟨#[63]⟩ := rfl
          rw [e9]
          simp
        · simp
        · have hg2 : x.cps.toList[n] = 63 ∨ x.cps.toList[n] = c := by simpa using hg
          rw [if_pos hg2]
          refine s_app (e5 _ _ (e4 _ _ (e3 _ _ h2))) (ev_var rfl) (ev_op (ev_var rfl) ev_c rv_I0) (by rw [List.length_map]; omega) fun H6 e6 => ⟨_, rfl, ((((e2.trans e3).trans e4).trans e5).trans e6).mut hp, ?_⟩
          rw [upd_same]
          simp
        · have hg2 : ¬ (x.cps.toList[n] = 63 ∨ x.cps.toList[n] = c) := by simpa using hg
          rw [if_neg hg2, List.append_nil]
          exact ⟨_, rfl, ((e2.trans e3).trans e4).trans e5, e5 _ _ (e4 _ _ (e3 _ _ h2))⟩
    · have hF : stpF x.cps.toList c n = [] := by
        unfold stpF
        rw [List.getElem?_eq_none (by have := of_decide_eq_false hb; omega)]
      rw [hF, List.append_nil]
      exact ⟨_, rfl, e2.trans e3, e3 _ _ h2⟩
  · rintro σ H2 ⟨y, rfl, e2, h2⟩
    have hl9 : (nats es).length = es.length := List.length_map _
    rw [hl9, List.take_length] at h2
    exact s_retL (el_call (ea_cons (ev_var rfl) (ea_cons (ev_var rfl) ea_nil)) (fun H3 e3 Q3 q3 E3 => ⟨x, p, _, rfl, hx, e3 _ _ h2, q3⟩)) fun q H3 hq e3 h3 => k q H3 (fresh_back e2 hq) (e2.trans e3) h3
def fitE (pat w : List Nat) : List Nat := w.foldl (stp pat) (spr pat [0])
def fitB (pat w : List Nat) : Bool := decide (pat.length ∈ fitE pat w)
theorem fitE_snoc (pat w : List Nat) (c : Nat) : fitE pat (w ++ [c]) = stp pat (fitE pat w) c := by
  unfold fitE
  rw [List.foldl_append]
  rfl
theorem fitE_len (pat w : List Nat) : (fitE pat w).length ≤ pat.length + 1 := by
  induction w using list_rev_ind with
  | nil => exact spr_len _ _
  | snoc l c ih =>
    rw [fitE_snoc]
    exact spr_len _ _
def sp_is_fit : Sp := fun vs H Q _ => ∃ x y : Str, vs = [.str x, .str y] ∧ x.length ≤ 1000 ∧ y.length ≤ 1000 ∧ RetV (.bl (fitB x.cps.toList y.cps.toList)) H Q
theorem sc_is_fit : FnScope ["pattern", "word", "ends", "sign"] ["pattern", "word"] (defScope s_is_fit) := ⟨rfl, rfl, rfl, by decide +kernel, rfl, by decide +kernel, by decide +kernel⟩
theorem ok_is_fit {P : Program} {w : World} {K : PySem.W.Frag} {mg : Str → Option Value} {base : Heap} (G : Gd K mg "is_fit" s_is_fit) (T : Tx K mg) (O_spread : OkF P w K mg base 1 "spread" ["pattern", "ends"] sp_spread) (O_stepped : OkF P w K mg base 2 "stepped" ["pattern", "ends", "sign"] sp_stepped) : OkF P w K mg base 3 "is_fit" ["pattern", "word"] sp_is_fit := by
  refine G.ok (k := 2) sc_is_fit (fun _ _ _ _ _ _ us hl => match us, hl with | [_, _], _ => rfl) (fun vs H Q E h => ?_) (fun f cdv A outer s H vs Q E hr h => ?_)
  · unfold sp_is_fit at h
    repeat (first | (obtain ⟨rfl, h⟩ := h; rfl) | (obtain ⟨_, h⟩ := h))
  have hu := hu_of hr
  refine ⟨_, (pss_cons (psv 2 sc_is_fit.nd (pe_fn O_spread (hr.mono (by decide)) (pa_cons (pv 0) (pa_cons (pe_lst (pa_cons pe_int pa_nil)) pa_nil))))
      (pss_cons (ps_for PassesOwn.never rfl (pi_str (pv 1)) (pgv 3 sc_is_fit.nd)
        (pss_one (psv 2 sc_is_fit.nd (pe_fn O_stepped (hr.mono (by decide)) (pa_cons (pv 0) (pa_cons (pv 2) (pa_cons (pv 3) pa_nil)))))))
      (pss_one (ps_ret (pe_cmpR (opInK K) (pe_callB (id := "len") call_len_str rfl T.n_len PySem.boot_len (pa_cons (pv 0) pa_nil)) (pv 2) (by with_unfolding_all rfl)))))), ?_⟩
  obtain ⟨x, y, rfl, hx, hy, k⟩ := h
  have hcl : x.length = x.cps.toList.length := len_of x
  refine q_asgL (xs := nats (spr x.cps.toList [0])) ?_ fun p H1 hp e1 h1 => ?_
  · intro H2 e2 Q2 q2
    refine (ev_var (v := .str x) rfl) H2 (Ex.refl _) _ fun H3 e3 => ?_
    exact ⟨sizeLine_of (by decide), fun a ha4 => ⟨x, a, [0], rfl, by omega, upd_same, fun p H5 hp5 e5 h5 => q2 p H5 (fresh_back (e3.trans (Ex.new ha4)) hp5) ((e3.trans (Ex.new ha4)).trans e5) h5⟩⟩
  · refine q_forI (ei_str (x := y) (ev_var rfl)) (fun i σ H2 => ∃ y3 q, σ = [some (.str x), some (.str y), some (.ref q), y3] ∧ Ex H H2 ∧ H2 q = some (.lst (nats (fitE x.cps.toList (y.cps.toList.take i))))) (fun H2 e2 => ⟨none, p, rfl, e1.trans e2, e2 _ _ h1⟩) (fun _ _ _ _ _ => trivial) ?_ ?_
    · rintro i v σ H2 H3 hi ⟨y3, q, rfl, e2, h2⟩ ⟨rfl, c, hc, rfl⟩
      have hc2 : y.cps.toList[i]? = some c := by
        rw [Array.getElem?_toList]
        exact hc
      have hl := fitE_len x.cps.toList (y.cps.toList.take i)
      refine s_asgL (el_call (ea_cons (ev_var rfl) (ea_cons (ev_var rfl) (ea_cons (ev_var rfl) ea_nil))) (fun H4 e4 Q4 q4 E4 => ⟨x, q, _, c, rfl, by omega, by omega, e4 _ _ h2, q4⟩)) fun q2 H4 hq e4 h4 => ⟨_, q2, rfl, e2.trans e4, ?_⟩
      rw [List.take_succ, hc2, Option.toList_some, fitE_snoc]
      exact h4
    · rintro σ H2 ⟨y3, q, rfl, e2, h2⟩
      have hsz : y.cps.size = y.cps.toList.length := by rw [Array.length_toList]
      rw [hsz, List.take_length] at h2
      refine s_ret (ev_is (ev_op (ev_lenS (ev_var rfl) (by omega)) (ev_var rfl) (rv_inN (sq_of h2))) ?_) fun H3 e3 => k H3 (e2.trans e3)
      unfold fitB
      rw [hcl]
end Fc
/-! Words at their places: how they are walked. -/
namespace Fc
open PySem PySem.Spec PyProof.Rows L2 Evl
def optI : Option Nat → V
  | none => .non
  | some k => .int (k : Int)
/-- lists of places -/
def RowsAt (H : Hp) (a : Addr) (rows : List (List Nat)) : Prop := ∃ ts : List Addr, H a = some (.lst (ts.map V.ref)) ∧ Paired (fun t r => H t = some (.lst (nats r))) ts rows
theorem RowsAt.mono {H H2 : Hp} {a : Addr} {rows : List (List Nat)} (h : RowsAt H a rows) (e : Ex H H2) : RowsAt H2 a rows := by
  obtain ⟨ts, h1, h2⟩ := h
  exact ⟨ts, e _ _ h1, Paired.mapP h2 fun _ _ q => e _ _ q⟩
theorem RowsAt.at {H : Hp} {a : Addr} {rows : List (List Nat)} (h : RowsAt H a rows) {k : Nat} {r : List Nat} (hk : rows[k]? = some r) : ∃ (xs : List V) (t : Addr), H a = some (.lst xs) ∧ xs.length = rows.length ∧ atI xs (k : Int) = some (.ref t) ∧ H t = some (.lst (nats r)) := by
  obtain ⟨ts, h1, h2⟩ := h
  obtain ⟨t, h3, h4⟩ := pd_get h2 hk
  refine ⟨ts.map V.ref, t, h1, by rw [List.length_map, h2.length], ?_, h4⟩
  exact atI_nat (by rw [List.getElem?_map, h3]; rfl)
theorem RowsAt.len {H : Hp} {a : Addr} {rows : List (List Nat)} (h : RowsAt H a rows) : ∃ xs : List V, H a = some (.lst xs) ∧ xs.length = rows.length := by
  obtain ⟨ts, h1, h2⟩ := h
  exact ⟨ts.map V.ref, h1, by rw [List.length_map, h2.length]⟩
def RowsOk (rows : List (List Nat)) : Prop := rows.length ≤ 1000 ∧ ∀ r ∈ rows, r.length ≤ 1000
def rowB (rows : List (List Nat)) (pl : Nat) : Bool := (List.range rows.length).all fun k => decide (pl + k ∈ rows.getD k [])
def rowFrom (rows : List (List Nat)) : Option Nat := (rows.headD []).find? (rowB rows)
def sp_row_from : Sp := fun vs H Q _ => ∃ (a : Addr) (rows : List (List Nat)), vs = [.ref a] ∧ RowsAt H a rows ∧ rows ≠ [] ∧ RowsOk rows ∧ RetV (optI (rowFrom rows)) H Q
theorem bl_all {α : Type} (es : List α) (f : α → Bool) : (es.filter fun _ => true).map (fun x => V.bl (f x)) = (es.map f).map V.bl := by
  rw [List.filter_eq_self.mpr (fun _ _ => rfl), List.map_map]
  rfl
theorem sc_row_from : FnScope ["places", "place", "k"] ["places"] (defScope s_row_from) := ⟨rfl, rfl, rfl, by decide +kernel, rfl, by decide +kernel, by decide +kernel⟩
theorem ok_row_from {P : Program} {w : World} {K : PySem.W.Frag} {mg : Str → Option Value} {base : Heap} (G : Gd K mg "row_from" s_row_from) (T : Tx K mg) : OkF P w K mg base 1 "row_from" ["places"] sp_row_from := by
  refine G.ok (k := 0) sc_row_from (fun _ _ _ _ _ _ us hl => match us, hl with | [_], _ => rfl) (fun vs H Q E h => ?_) (fun f cdv A outer s H vs Q E hr h => ?_)
  · unfold sp_row_from at h
    repeat (first | (obtain ⟨rfl, h⟩ := h; rfl) | (obtain ⟨_, h⟩ := h))
  have hu := hu_of hr
  refine ⟨_, (pss_cons (ps_for PassesOwn.never rfl (pi_list (pe_ix (ixlK K) (pv 0) pe_int (fun _ _ => rfl))) (pgv 1 sc_row_from.nd)
        (pss_one (ps_if (pt_val (pe_callB (id := "all") (allK K rfl) rfl T.n_all (by decide +kernel) (pa_cons (pe_lc (own := [("k", 2)]) (g := gName 2) rfl sc_row_from.nd (pi_range1 rfl T.n_range (pa_cons (pe_callB (id := "len") (lenK K) rfl T.n_len PySem.boot_len (pa_cons (pv 0) pa_nil)) pa_nil)) (blkOk_by (own := [("k", 2)]) (N := ["places", "place", "k"]) (sc := defScope s_row_from) (by decide +kernel)) (fun _ _ _ _ _ => (pgv 2 sc_row_from.nd)) (fun _ _ _ _ _ => pts_nil) (fun _ _ _ _ _ => (pe_cmpR (opInK K) (pe_op op_add (pv 1) (pv 2)) (pe_ix (ixlK K) (pv 0) (pv 2) (fun _ _ => rfl)) (by with_unfolding_all rfl)))) pa_nil))) (pss_one (ps_ret (pv 1))) pss_nil)))
      (pss_one (ps_ret pe_non))), ?_⟩
  obtain ⟨a, rows, rfl, ha, hne, ⟨hz, hz2⟩, k⟩ := h
  obtain ⟨r0, rest, hr0⟩ : ∃ r0 rest, rows = r0 :: rest := by
    cases rows with
    | nil => exact absurd rfl hne
    | cons r0 rest => exact ⟨r0, rest, rfl⟩
  have h0 : rows[0]? = some r0 := by rw [hr0]; rfl
  have hhd : rows.headD [] = r0 := by rw [hr0]; rfl
  obtain ⟨xs, t0, hxa, hxl, hx0, ht0⟩ := ha.at h0
  have hr0z : r0.length ≤ 1000 := hz2 r0 (List.mem_of_getElem? h0)
  refine q_forX (es := r0) (st := fun x σ0 => σ0.set 1 (some (.int (x : Int)))) (ex_list (a := t0) (F := fun n : Nat => V.int (n : Int)) (ev_op (ev_var rfl) ev_c (rv_ixL (sq_of hxa) hx0)) (sq_of ht0)) (Ex.refl _) (fun Hb i σ H2 => ∃ y1 y2, σ = [some (.ref a), y1, y2] ∧ Ex H H2 ∧ Ex Hb H2 ∧ (r0.take i).find? (rowB rows) = none) (fun Hb H1 e1 eb => ⟨none, none, rfl, e1, eb, rfl⟩) (fun Hb i σ H1 ⟨_, _, _, _, e, _⟩ => e) ?_ ?_
  · rintro Hb eb _ i x σ H1 hi ⟨y1, y2, rfl, e1, e1b, hno⟩ H2 e2
    have ha2 := ha.mono (e1.trans e2)
    have hall : Ev (tCB (rAll K) (tCons (tLc (iRng1 (tCons (tCB (rLenQ K) (tCons (tVar 0) tNil)) tNil)) (gName 2) tYes (tOp (rIn K false) (tOp (rI0 fun i j => .int (i + j)) (tVar 1) (tVar 2)) (tOp (rIxL K) (tVar 0) (tVar 2))) [2]) tNil)) [some (.ref a), some (.int (x : Int)), y2] H2 (.bl (rowB rows x)) := by
      obtain ⟨ys, hya, hyl⟩ := ha2.len
      have h3 := el_lcX (ti := iRng1 (tCons (tCB (rLenQ K) (tCons (tVar 0) tNil)) tNil)) (g := gName 2) (vs := [2]) (t := tYes) (te := tOp (rIn K false) (tOp (rI0 fun i j => .int (i + j)) (tVar 1) (tVar 2)) (tOp (rIxL K) (tVar 0) (tVar 2))) (es := List.range rows.length) (σ := [some (.ref a), some (.int (x : Int)), y2]) (H := H2) (st := fun (k : Nat) σ0 => σ0.set 2 (some (.int (k : Int)))) (fun _ => true) (fun k => V.bl (decide (x + k ∈ rows.getD k [])))
        (ex_range1 (ea_cons (ev_is (ev_lenL (K := K) (ev_var rfl) (sq_of hya)) (by rw [hyl])) ea_nil) (by omega)) (by rw [List.length_range]; omega) (fun k => rfl) (fun _ _ H3 _ H4 _ Q4 q4 => q4 H4 (Ex.refl _)) (fun k hk H3 e3 _ => ?_)
      · rw [bl_all] at h3
        refine ev_is (ev_all h3) ?_
        unfold rowB
        rw [List.all_map]
        rfl
      · have hk2 : k < rows.length := List.mem_range.mp hk
        have hk3 : rows[k]? = some rows[k] := List.getElem?_eq_getElem hk2
        obtain ⟨zs, t, hza, hzl, hzt, ht⟩ := (ha2.mono e3).at hk3
        have hg : rows.getD k [] = rows[k] := by rw [List.getD_eq_getElem?_getD, hk3]; rfl
        rw [hg]
        refine ev_op (ev_op (ev_var rfl) (ev_var rfl) rv_I0) (ev_op (ev_var rfl) (ev_var rfl) (rv_ixL (sq_of hza) hzt)) ?_
        have e9 : (x : Int) + (k : Int) = ((x + k : Nat) : Int) := by omega
        rw [e9]
        exact rv_inN (sq_of ht)
    refine s_when (b := rowB rows x) (et_test hall) (fun hb H3 e3 => ?_) fun hb H3 e3 => ?_
    · have hf := find_yes hno hi hb
      refine s_ret (ev_var rfl) fun H4 e4 => ?_
      have q := k H4 (((e1.trans e2).trans e3).trans e4)
      unfold rowFrom at q
      rw [hhd, hf] at q
      exact q
    · exact ⟨_, _, rfl, (e1.trans e2).trans e3, (e1b.trans e2).trans e3, find_no hno hi hb⟩
  · rintro Hb eb σ H1 ⟨y1, y2, rfl, e1, e1b, hno⟩
    rw [List.take_length] at hno
    refine s_ret ev_c fun H2 e2 => ?_
    have q := k H2 (e1.trans e2)
    unfold rowFrom at q
    rw [hhd, hno] at q
    exact q
/-! ### within a width -/
def inW (pl wd o : Nat) : Bool := decide (pl ≤ o) && decide (o < pl + wd)
def sp_within : Sp := fun vs H Q _ => ∃ (a : Addr) (r : List Nat) (pl wd : Nat), vs = [.ref a, .int (pl : Int), .int (wd : Int)] ∧ H a = some (.lst (nats r)) ∧ r.length ≤ 1000 ∧ RetL (nats (r.filter (inW pl wd))) H Q
theorem sc_within : FnScope ["places", "place", "width", "one"] ["places", "place", "width"] (defScope s_within) := ⟨rfl, rfl, rfl, by decide +kernel, rfl, by decide +kernel, by decide +kernel⟩
theorem ok_within {P : Program} {w : World} {K : PySem.W.Frag} {mg : Str → Option Value} {base : Heap} (G : Gd K mg "within" s_within) (T : Tx K mg) : OkF P w K mg base 1 "within" ["places", "place", "width"] sp_within := by
  refine G.ok (k := 0) sc_within (fun _ _ _ _ _ _ us hl => match us, hl with | [_, _, _], _ => rfl) (fun vs H Q E h => ?_) (fun f cdv A outer s H vs Q E hr h => ?_)
  · unfold sp_within at h
    repeat (first | (obtain ⟨rfl, h⟩ := h; rfl) | (obtain ⟨_, h⟩ := h))
  have hu := hu_of hr
  refine ⟨_, (pss_one (ps_ret (pe_lc (own := [("one", 3)]) (g := gName 3) rfl sc_within.nd (pi_list (pv 0)) (blkOk_by (own := [("one", 3)]) (N := ["places", "place", "width", "one"]) (sc := defScope s_within) (by decide +kernel)) (fun _ _ _ _ _ => (pgv 3 sc_within.nd)) (fun _ _ _ _ _ => (pts_one (pt_chain op_le op_lt (pv 1) (pv 3) (pe_op op_add (pv 1) (pv 2))))) (fun _ _ _ _ _ => (pv 3))))), ?_⟩
  obtain ⟨a, r, pl, wd, rfl, ha, hz, k⟩ := h
  refine s_retL ?_ k
  refine el_lcX (st := fun (x : Nat) σ0 => σ0.set 3 (some (.int (x : Int)))) (inW pl wd) (fun n : Nat => V.int (n : Int)) (ex_list (ev_var rfl) (sq_of ha)) (by omega) (fun x => rfl) (fun x hx H1 e1 => ?_) fun x hx H1 e1 _ => ev_var rfl
  refine et_is (et_test (ev_chain (r := rI0 fun i j => .bl (decide (i ≤ j))) (r2 := rI0 fun i j => .bl (decide (i < j))) (ev_var rfl) (ev_var rfl) rv_I0 (fun _ => ev_op (ev_var rfl) (ev_var rfl) rv_I0) fun _ => rv_I0)) ?_
  unfold inW
  congr 1
  · exact decide_eq_decide.mpr (by omega)
  · exact decide_eq_decide.mpr (by omega)
/-! ### too seldom there -/
def thinB (ws : List Str) (rows : List (List Nat)) (pl wd k : Nat) : Bool := decide (((rows.getD k []).filter (inW pl wd)).length < ws.count (ws.getD k (Z [])))
def thinF (ws : List Str) (rows : List (List Nat)) (pl wd : Nat) : Option Nat := (List.range ws.length).find? (thinB ws rows pl wd)
def sp_thin_word : Sp := fun vs H Q _ => ∃ (b a : Addr) (ws : List Str) (rows : List (List Nat)) (pl wd : Nat), vs = [.ref b, .ref a, .int (pl : Int), .int (wd : Int)] ∧ H b = some (.lst (ws.map V.str)) ∧ RowsAt H a rows ∧ rows.length = ws.length ∧ RowsOk rows ∧ RetV (optI (thinF ws rows pl wd)) H Q
theorem sc_thin_word : FnScope ["words", "places", "place", "width", "k", "word"] ["words", "places", "place", "width"] (defScope s_thin_word) := ⟨rfl, rfl, rfl, by decide +kernel, rfl, by decide +kernel, by decide +kernel⟩
theorem ok_thin_word {P : Program} {w : World} {K : PySem.W.Frag} {mg : Str → Option Value} {base : Heap} (G : Gd K mg "thin_word" s_thin_word) (T : Tx K mg) (O_within : OkF P w K mg base 1 "within" ["places", "place", "width"] sp_within) : OkF P w K mg base 2 "thin_word" ["words", "places", "place", "width"] sp_thin_word := by
  refine G.ok (k := 1) sc_thin_word (fun _ _ _ _ _ _ us hl => match us, hl with | [_, _, _, _], _ => rfl) (fun vs H Q E h => ?_) (fun f cdv A outer s H vs Q E hr h => ?_)
  · unfold sp_thin_word at h
    repeat (first | (obtain ⟨rfl, h⟩ := h; rfl) | (obtain ⟨_, h⟩ := h))
  have hu := hu_of hr
  refine ⟨_, (pss_cons (ps_for PassesOwn.never rfl (pi_enum rfl T.n_enumerate (pa_cons (pv 0) pa_nil)) (pg_tup rfl (pgs_cons (pgv 4 sc_thin_word.nd) (pgs_cons (pgv 5 sc_thin_word.nd) pgs_nil)))
        (pss_one (ps_if (pt_cmpR op_lt (pe_callB (id := "len") (lenK K) rfl T.n_len PySem.boot_len (pa_cons (pe_fn O_within (hr.mono (by decide)) (pa_cons (pe_ix (ixlK K) (pv 1) (pv 4) (fun _ _ => rfl)) (pa_cons (pv 2) (pa_cons (pv 3) pa_nil)))) pa_nil)) (pe_bmK K PySem.F.plainAttrs_list PySem.F.slot_list_count PySem.F.type_list_count (cntK K) (pv 0) (pa_cons (pv 5) pa_nil)) (nomark _)) (pss_one (ps_ret (pv 4))) pss_nil)))
      (pss_one (ps_ret pe_non))), ?_⟩
  obtain ⟨b, a, ws, rows, pl, wd, rfl, hb, ha, hl, ⟨hz, hz2⟩, k⟩ := h
  have hwl : (ws.map V.str).length = ws.length := List.length_map _
  refine q_forX (es := List.range (ws.map V.str).length) (st := fun k σ0 => (σ0.set 4 (some (.int (k : Int)))).set 5 (some (.str (ws.getD k (Z []))))) (ex_enumV (fun k => .str (ws.getD k (Z []))) (ev_var rfl) (sq_of hb) (fun k hk => ?_) rfl) (Ex.refl _)
    (fun Hb i σ H2 => ∃ y1 y2, σ = [some (.ref b), some (.ref a), some (.int (pl : Int)), some (.int (wd : Int)), y1, y2] ∧ Ex H H2 ∧ Ex Hb H2 ∧ ((List.range ws.length).take i).find? (thinB ws rows pl wd) = none) (fun Hb H1 e1 eb => ⟨none, none, rfl, e1, eb, rfl⟩) (fun Hb i σ H1 ⟨_, _, _, _, e, _⟩ => e) ?_ ?_
  · rw [hwl] at hk
    rw [List.getElem?_map, List.getElem?_eq_getElem hk, List.getD_eq_getElem?_getD, List.getElem?_eq_getElem hk]
    rfl
  · rintro Hb eb _ i x σ H1 hi ⟨y1, y2, rfl, e1, e1b, hno⟩ H2 e2
    rw [hwl] at hi
    have hx : x < ws.length := List.mem_range.mp (List.mem_of_getElem? hi)
    have hx3 : rows[x]? = some (rows[x]'(by omega)) := List.getElem?_eq_getElem (by omega)
    obtain ⟨zs, t, hza, hzl, hzt, ht⟩ := (ha.mono (e1.trans e2)).at hx3
    have hg : rows.getD x [] = rows[x]'(by omega) := by rw [List.getD_eq_getElem?_getD, hx3]; rfl
    have hxz := hz2 _ (List.mem_of_getElem? hx3)
    refine s_when (b := thinB ws rows pl wd x) ?_ (fun hb2 H3 e3 => ?_) fun hb2 H3 e3 => ?_
    · refine et_is (et_test (ev_op (ev_lenLN (xs := nats ((rows[x]'(by omega)).filter (inW pl wd))) (el_call (ea_cons (ev_op (ev_var rfl) (ev_var rfl) (rv_ixL (sq_of hza) hzt)) (ea_cons (ev_var rfl) (ea_cons (ev_var rfl) ea_nil))) fun H4 e4 Q4 q4 E4 => ⟨t, _, pl, wd, rfl, e4 _ _ ht, hxz, q4⟩)) (z := .bl (thinB ws rows pl wd x)) (y := .int (ws.count (ws.getD x (Z [])) : Nat)) ?_ ?_)) rfl
      · intro H4 e4 Q4 q4
        refine (ev_var (v := .ref b) rfl) H4 (Ex.refl _) _ fun H5 e5 => ?_
        have hb5 : SqL K H5 b (ws.map V.str) := sq_of (((((e1.trans e2).trans e4)).trans e5) _ _ hb)
        exact ⟨.inl ⟨rfl, _, hb5⟩, (ea_cons (ev_var (v := .str (ws.getD x (Z []))) rfl) ea_nil) H5 (Ex.refl _) _ fun H6 e6 => ⟨b, ws, _, rfl, rfl, ex_l e6 hb5, q4 H6 (e5.trans e6)⟩⟩
      · refine fun H4 e4 Q4 q4 => ⟨_, _, rfl, rfl, ?_⟩
        have e9 : thinB ws rows pl wd x = decide (((nats ((rows[x]'(by omega)).filter (inW pl wd))).length : Int) < ((ws.count (ws.getD x (Z [])) : Nat) : Int)) := by
          unfold thinB
          rw [hg]
          refine decide_eq_decide.mpr ?_
          rw [List.length_map]
          omega
        rw [e9] at q4
        exact q4 H4 (Ex.refl _)
    · have hf := find_yes hno hi hb2
      refine s_ret (ev_var rfl) fun H4 e4 => ?_
      have q := k H4 (((e1.trans e2).trans e3).trans e4)
      unfold thinF at q
      rw [hf] at q
      exact q
    · exact ⟨_, _, rfl, (e1.trans e2).trans e3, (e1b.trans e2).trans e3, find_no hno hi hb2⟩
  · rintro Hb eb σ H1 ⟨y1, y2, rfl, e1, e1b, hno⟩
    rw [List.length_range, hwl, List.take_of_length_le (by simp)] at hno
    refine s_ret ev_c fun H2 e2 => ?_
    have q := k H2 (e1.trans e2)
    unfold thinF at q
    rw [hno] at q
    exact q
end Fc
/-! All places, nearness, chains. -/
namespace Fc
open PySem PySem.Spec PyProof.Rows L2 Evl
theorem flat_take {α : Type} {rows : List (List α)} {i : Nat} {r : List α} (h : rows[i]? = some r) : (rows.take (i + 1)).flatten = (rows.take i).flatten ++ r := by
  rw [List.take_succ, h, List.flatten_append]
  simp
theorem flat_le {α : Type} (rows : List (List α)) (b : Nat) (h : ∀ r ∈ rows, r.length ≤ b) : rows.flatten.length ≤ rows.length * b := by
  induction rows with
  | nil => exact Nat.zero_le _
  | cons r rs ih =>
    have h1 := h r List.mem_cons_self
    have h2 := ih fun x hx => h x (List.mem_cons_of_mem _ hx)
    rw [List.flatten_cons, List.length_append, List.length_cons, Nat.succ_mul]
    omega
def RowsSm (rows : List (List Nat)) : Prop := rows.length ≤ 60 ∧ ∀ r ∈ rows, r.length ≤ 60 ∧ ∀ k ∈ r, k < 60
theorem RowsSm.ok {rows : List (List Nat)} (h : RowsSm rows) : RowsOk rows := ⟨by have := h.1; omega, fun r hr => by have := (h.2 r hr).1; omega⟩
def sp_all_places : Sp := fun vs H Q _ => ∃ (a : Addr) (rows : List (List Nat)), vs = [.ref a] ∧ RowsAt H a rows ∧ RowsSm rows ∧
  RetL (nats (upto 60 fun k => decide (k ∈ rows.flatten))) H Q
theorem sc_all_places : FnScope ["places", "found", "row"] ["places"] (defScope s_all_places) := ⟨rfl, rfl, rfl, by decide +kernel, rfl, by decide +kernel, by decide +kernel⟩
theorem ok_all_places {P : Program} {w : World} {K : PySem.W.Frag} {mg : Str → Option Value} {base : Heap} (G : Gd K mg "all_places" s_all_places) (T : Tx K mg) : OkF P w K mg base 1 "all_places" ["places"] sp_all_places := by
  refine G.ok (k := 0) sc_all_places (fun _ _ _ _ _ _ us hl => match us, hl with | [_], _ => rfl) (fun vs H Q E h => ?_) (fun f cdv A outer s H vs Q E hr h => ?_)
  · unfold sp_all_places at h
    repeat (first | (obtain ⟨rfl, h⟩ := h; rfl) | (obtain ⟨_, h⟩ := h))
  have hu := hu_of hr
  refine ⟨_, (pss_cons (psv 1 sc_all_places.nd (pe_lst pa_nil))
      (pss_cons (ps_for PassesOwn.never rfl (pi_list (pv 0)) (pgv 2 sc_all_places.nd)
        (pss_one (ps_expr (pe_bm PySem.F.plainAttrs_list PySem.F.slot_list_extend PySem.F.type_list_extend mt_extend (pv 1) (pa_cons (pv 2) pa_nil)))))
      (pss_one (ps_ret (pe_callB (id := "sorted") (cr_sortedSet rfl) rfl T.n_sorted (by decide +kernel) (pa_cons (pe_callTy (T := "set") (cr_setI rfl) rfl T.n_set (by decide +kernel) (pa_cons (pv 1) pa_nil)) pa_nil)))))), ?_⟩
  obtain ⟨a, rows, rfl, ha, ⟨hz, hr2⟩, k⟩ := h
  obtain ⟨ts, hta, htp⟩ := id ha
  have htl := htp.length
  refine q_asgL (el_lst ea_nil (Nat.zero_le _)) fun p H1 hp e1 h1 => ?_
  refine q_forX (H := H) (ex_list (es := ts) (F := V.ref) (ev_var rfl) (sq_of hta)) e1 (fun Hg i σ H2 => ∃ y, σ = [some (.ref a), some (.ref p), y] ∧ Ex H H2 ∧ Ex Hg H2 ∧ H2 p = some (.lst (nats (rows.take i).flatten))) (fun Hg H2 e2 eg => ⟨none, rfl, e1.trans e2, eg, e2 _ _ h1⟩) (fun Hg i σ H2 ⟨_, _, _, e, _⟩ => e) ?_ ?_
  · rintro Hg eg hg i t σ H2 hi ⟨y, rfl, e2, e2g, h2⟩ H3 e3
    obtain ⟨r, hr, ht⟩ := pd_getL htp hi
    have hfl := flat_le (rows.take i) 60 fun x hx => (hr2 x (List.mem_of_mem_take hx)).1
    have htl2 : (rows.take i).length ≤ 60 := by
      rw [List.length_take]
      omega
    have hrl := (hr2 r (List.mem_of_getElem? hr)).1
    have hm : (rows.take i).length * 60 ≤ 60 * 60 := Nat.mul_le_mul_right 60 htl2
    refine s_ext (e3 _ _ h2) (ev_var rfl) (ev_var rfl) ((e2.trans e3) _ _ ht) (by rw [List.length_map, List.length_map]; omega) fun H4 e4 => ⟨_, rfl, ((e2.trans e3).trans e4).mut hp, ((e2g.trans e3).trans e4).mut (hg p (by rw [h1]; exact Option.some_ne_none _) hp), ?_⟩
    rw [flat_take hr, nats_app]
    exact upd_same
  · rintro Hg eg σ H2 ⟨y, rfl, e2, e2g, h2⟩
    rw [htl, List.take_length] at h2
    have hfl := flat_le rows 60 fun x hx => (hr2 x hx).1
    have hm : rows.length * 60 ≤ 60 * 60 := Nat.mul_le_mul_right 60 hz
    have hmem : ∀ q, q ∈ rows.flatten ↔ ∃ r ∈ rows, q ∈ r := fun q => by rw [List.mem_flatten]
    refine s_retL (el_sset 60 (by omega) (ev_var rfl) (sq_of h2) (by omega) fun q hq => ?_) fun p2 H3 hp2 e3 h3 => k p2 H3 (fresh_back e2 hp2) (e2.trans e3) h3
    obtain ⟨r, hr, hq2⟩ := (hmem q).mp hq
    exact (hr2 r hr).2 q hq2
/-! ### nearness -/
/-- words near one another -/
def NearP (ws : List Str) (rows : List (List Nat)) (wd : Nat) : Prop := ∃ pl, (∃ r ∈ rows, pl ∈ r) ∧ thinF ws rows pl wd = none
/-- the rows are the words' own: unlike words lie apart -/
def RowsOf (ws : List Str) (rows : List (List Nat)) (f : Str → List Nat) : Prop := rows = ws.map f ∧ (∀ w, (f w).Nodup) ∧ ∀ w w2 k, k ∈ f w → k ∈ f w2 → w = w2
theorem pick {α : Type} [DecidableEq α] {ws : List α} {f : α → List Nat} {g : List Nat} {W : Nat → Bool} {i : Nat} {w : α} (hw : ws[i]? = some w) (hn : (f w).Nodup) (hd : ∀ w w2 k, k ∈ f w → k ∈ f w2 → w = w2)
    (hg : Paired (fun k v => k ∈ f v) g (ws.take i)) (hc : ws.count w ≤ ((f w).filter W).length) : ((f w).filter W).filter (fun k => !decide (k ∈ g)) ≠ [] := by
  intro h0
  have h1 : ∀ k ∈ (f w).filter W, k ∈ g.filter fun k => decide (k ∈ f w) := fun k hk => by
    have h2 : k ∉ ((f w).filter W).filter (fun k => !decide (k ∈ g)) := by
      rw [h0]
      exact List.not_mem_nil
    rw [List.mem_filter] at h2
    have h3 : k ∈ g := by
      refine Decidable.byContradiction fun z => h2 ⟨hk, ?_⟩
      simpa using z
    exact List.mem_filter.mpr ⟨h3, decide_eq_true (List.mem_filter.mp hk).1⟩
  have h2 := nodup_le (hn.filter W) h1
  have h3 : ∀ {g : List Nat} {vs : List α}, Paired (fun k v => k ∈ f v) g vs → (g.filter fun k => decide (k ∈ f w)).length ≤ vs.count w := by
    intro g vs hp
    induction hp with
    | nil => exact Nat.le_refl _
    | @cons k v g2 vs2 hkv _ ih =>
      rw [List.filter_cons, List.count_cons]
      by_cases hk : k ∈ f w
      · have e := hd _ _ _ hkv hk
        subst e
        rw [if_pos (decide_eq_true hk)]
        simp
        exact ih
      · rw [if_neg (by simpa using hk)]
        omega
  have h4 := h3 hg
  have h5 : (ws.take (i + 1)).count w ≤ ws.count w := List.Sublist.count_le w (List.take_sublist _ _)
  rw [List.take_succ, hw, Option.toList_some, List.count_append, List.count_singleton_self] at h5
  omega
def sp_near_places : Sp := fun vs H Q _ => ∃ (b a : Addr) (ws : List Str) (rows : List (List Nat)) (wd : Nat) (f : Str → List Nat), vs = [.ref b, .ref a, .int (wd : Int)] ∧ H b = some (.lst (ws.map V.str)) ∧ RowsAt H a rows ∧ RowsOf ws rows f ∧ RowsSm rows ∧
  (NearP ws rows wd → ∀ p H2, Ex H H2 → Q (.ref p) H2) ∧ (¬ NearP ws rows wd → RetV .non H Q)
theorem sc_near_places : FnScope ["words", "places", "width", "place", "found", "row", "one"] ["words", "places", "width"] (defScope s_near_places) := ⟨rfl, rfl, rfl, by decide +kernel, rfl, by decide +kernel, by decide +kernel⟩
theorem ok_near_places {P : Program} {w : World} {K : PySem.W.Frag} {mg : Str → Option Value} {base : Heap} (G : Gd K mg "near_places" s_near_places) (T : Tx K mg) (O_all_places : OkF P w K mg base 1 "all_places" ["places"] sp_all_places) (O_thin_word : OkF P w K mg base 2 "thin_word" ["words", "places", "place", "width"] sp_thin_word) (O_within : OkF P w K mg base 1 "within" ["places", "place", "width"] sp_within) : OkF P w K mg base 3 "near_places" ["words", "places", "width"] sp_near_places := by
  refine G.ok (k := 2) sc_near_places (fun _ _ _ _ _ _ us hl => match us, hl with | [_, _, _], _ => rfl) (fun vs H Q E h => ?_) (fun f cdv A outer s H vs Q E hr h => ?_)
  · unfold sp_near_places at h
    repeat (first | (obtain ⟨rfl, h⟩ := h; rfl) | (obtain ⟨_, h⟩ := h))
  have hu := hu_of hr
  refine ⟨_, (pss_cons (ps_for PassesOwn.never rfl (pi_list (pe_fn O_all_places (hr.mono (by decide)) (pa_cons (pv 1) pa_nil))) (pgv 3 sc_near_places.nd)
        (pss_one (ps_if (pt_cmpR op_isN (pe_fn O_thin_word (hr.mono (by decide)) (pa_cons (pv 0) (pa_cons (pv 1) (pa_cons (pv 3) (pa_cons (pv 2) pa_nil))))) pe_non (nomark _)) (pss_cons (psv 4 sc_near_places.nd (pe_lst pa_nil))
          (pss_cons (ps_for PassesOwn.never rfl (pi_list (pv 1)) (pgv 5 sc_near_places.nd)
            (pss_one (ps_expr (pe_bm PySem.F.plainAttrs_list PySem.F.slot_list_append PySem.F.type_list_append mt_append (pv 4) (pa_cons (pe_ix (ixlK K) (pe_lc (own := [("one", 6)]) (g := gName 6) rfl sc_near_places.nd (pi_list (pe_fn O_within (hr.mono (by decide)) (pa_cons (pv 5) (pa_cons (pv 3) (pa_cons (pv 2) pa_nil))))) (blkOk_by (own := [("one", 6)]) (N := ["words", "places", "width", "place", "found", "row", "one"]) (sc := defScope s_near_places) (by decide +kernel)) (fun _ _ _ _ _ => (pgv 6 sc_near_places.nd)) (fun _ _ _ _ _ => (pts_one (pt_cmpR (opNotInK K) (pv 6) (pv 4) (by with_unfolding_all rfl)))) (fun _ _ _ _ _ => (pv 6))) pe_int (fun _ _ => rfl)) pa_nil)))))
          (pss_one (ps_ret (pv 4))))) pss_nil)))
      (pss_one (ps_ret pe_non))), ?_⟩
  obtain ⟨b, a, ws, rows, wd, f9, rfl, hb, ha, ⟨hrw, hnd, hdj⟩, hsm, k1, k2⟩ := h
  have hok := hsm.ok
  have hlw : rows.length = ws.length := by rw [hrw, List.length_map]
  obtain ⟨ts, hta, htp⟩ := id ha
  have htl := htp.length
  refine q_forX (H := H) (es := upto 60 fun k => decide (k ∈ rows.flatten)) (st := fun x σ0 => σ0.set 3 (some (.int (x : Int)))) (ex_listN (F := fun n : Nat => V.int (n : Int)) (el_call (ea_cons (ev_var rfl) ea_nil) fun H1 e1 Q1 q1 E1 => ⟨a, rows, rfl, ha.mono e1, hsm, q1⟩)) (Ex.refl _)
    (fun Hg i σ H2 => ∃ y1 y2 y3 y4, σ = [some (.ref b), some (.ref a), some (.int (wd : Int)), y1, y2, y3, y4] ∧ Ex H H2 ∧ Ex Hg H2 ∧ ((upto 60 fun k => decide (k ∈ rows.flatten)).take i).find? (fun pl => decide (thinF ws rows pl wd = none)) = none) (fun Hg H1 e1 eg => ⟨none, none, none, none, rfl, e1, eg, rfl⟩) (fun Hg i σ H2 ⟨_, _, _, _, _, _, e, _⟩ => e) ?_ ?_
  · rintro Hg eg _ i pl σ H2 hi ⟨y1, y2, y3, y4, rfl, e2, e2g, hno⟩ H3 e3
    have hthin : Ev (tCall sp_thin_word [] E0 (tCons (tVar 0) (tCons (tVar 1) (tCons (tVar 3) (tCons (tVar 2) tNil))))) [some (.ref b), some (.ref a), some (.int (wd : Int)), some (.int (pl : Int)), y2, y3, y4] H3 (optI (thinF ws rows pl wd)) :=
      ev_call (ea_cons (ev_var rfl) (ea_cons (ev_var rfl) (ea_cons (ev_var rfl) (ea_cons (ev_var rfl) ea_nil)))) fun H4 e4 Q4 q4 E4 => ⟨b, a, ws, rows, pl, wd, rfl, ((e2.trans e3).trans e4) _ _ hb, ha.mono ((e2.trans e3).trans e4), hlw, hok, q4⟩
    have hpl := upto_mem.mp (List.mem_of_getElem? hi)
    have hpr : ∃ r ∈ rows, pl ∈ r := by
      have := of_decide_eq_true hpl.2
      rwa [List.mem_flatten] at this
    refine s_when (b := decide (thinF ws rows pl wd = none)) (et_test (ev_op hthin ev_c fun H4 e4 Q4 q4 => ⟨rfl, ?_⟩)) (fun hth H4 e4 => ?_) fun hth H4 e4 => ?_
    · have e9 : decide (optI (thinF ws rows pl wd) = V.non) = decide (thinF ws rows pl wd = none) := by
        cases thinF ws rows pl wd with
        | none => rfl
        | some z => rfl
      rw [e9]
      exact q4 H4 (Ex.refl _)
    · have hth2 : thinF ws rows pl wd = none := of_decide_eq_true hth
      have hen : ∀ (i : Nat) (w : Str), ws[i]? = some w → ws.count w ≤ ((f9 w).filter (inW pl wd)).length := by
        intro i w hw
        obtain ⟨hlt, hw2⟩ := List.getElem?_eq_some_iff.mp hw
        unfold thinF at hth2
        have q := List.find?_eq_none.mp hth2 i (List.mem_range.mpr hlt)
        unfold thinB at q
        have e1 : rows.getD i [] = f9 w := by rw [List.getD_eq_getElem?_getD, hrw, List.getElem?_map, hw]; rfl
        have e2 : ws.getD i (Z []) = w := by rw [List.getD_eq_getElem?_getD, hw]; rfl
        rw [e1, e2] at q
        simpa using q
      have e4a := (e2.trans e3).trans e4
      refine q_asgL (el_lst ea_nil (Nat.zero_le _)) fun p H5 hp e5 h5 => ?_
      refine q_forX (H := H4) (ex_list (es := ts) (F := V.ref) (ev_var rfl) (sq_of (e4a _ _ hta))) e5 (fun Hg2 i σ H6 => ∃ y1 y2 g, σ = [some (.ref b), some (.ref a), some (.int (wd : Int)), some (.int (pl : Int)), some (.ref p), y1, y2] ∧ Ex H4 H6 ∧ Ex Hg2 H6 ∧ H6 p = some (.lst (nats g)) ∧ Paired (fun k v => k ∈ f9 v) g (ws.take i)) (fun Hg2 H6 e6 eg2 => ⟨y3, y4, [], rfl, e5.trans e6, eg2, e6 _ _ h5, .nil⟩) (fun Hg i σ H2 ⟨_, _, _, _, _, e, _⟩ => e) ?_ ?_
      · rintro Hg2 eg2 hgn i t σ H6 hi2 ⟨z1, z2, g, rfl, e6, e6g, h6, hpg⟩ H7 e7
        obtain ⟨r, hr, ht⟩ := pd_getL htp hi2
        obtain ⟨hlt, _⟩ := List.getElem?_eq_some_iff.mp hr
        have hw : ws[i]? = some (ws[i]'(by omega)) := List.getElem?_eq_getElem (by omega)
        have hrf : r = f9 (ws[i]'(by omega)) := by
          rw [hrw, List.getElem?_map, hw] at hr
          cases hr
          rfl
        generalize ws[i]'(by omega) = wi at hw hrf
        subst hrf
        have hne := pick hw (hnd wi) hdj hpg (hen i wi hw)
        obtain ⟨o, os, ho⟩ : ∃ o os, ((f9 wi).filter (inW pl wd)).filter (fun k => !decide (k ∈ g)) = o :: os := by
          cases hc : ((f9 wi).filter (inW pl wd)).filter (fun k => !decide (k ∈ g)) with
          | nil => exact absurd hc hne
          | cons o os => exact ⟨o, os, rfl⟩
        have hof : o ∈ f9 wi := by
          have : o ∈ ((f9 wi).filter (inW pl wd)).filter (fun k => !decide (k ∈ g)) := by rw [ho]; exact List.mem_cons_self
          exact (List.mem_filter.mp (List.mem_filter.mp this).1).1
        have hrz := (hsm.2 _ (List.mem_of_getElem? hr)).1
        have hgl : g.length ≤ 60 := by
          have := hpg.length
          rw [List.length_take] at this
          have := hsm.1
          omega
        have hlc := el_lcX (ti := iList K (tCall sp_within [] E0 (tCons (tVar 5) (tCons (tVar 3) (tCons (tVar 2) tNil))))) (g := gName 6) (vs := [6]) (t := tTest (tOp (rIn K true) (tVar 6) (tVar 4))) (te := tVar 6) (σ := [some (.ref b), some (.ref a), some (.int (wd : Int)), some (.int (pl : Int)), some (.ref p), some (.ref t), z2]) (H := H7) (es := (f9 wi).filter (inW pl wd)) (st := fun x σ0 => σ0.set 6 (some (.int (x : Int)))) (fun k => !decide (k ∈ g)) (fun k : Nat => V.int (k : Int))
          (ex_listN (F := fun n : Nat => V.int (n : Int)) (el_call (ea_cons (ev_var rfl) (ea_cons (ev_var rfl) (ea_cons (ev_var rfl) ea_nil))) fun H8 e8 Q8 q8 E8 => ⟨t, f9 wi, pl, wd, rfl, (((e4a.trans e6).trans e7).trans e8) _ _ ht, by omega, q8⟩)) (by have := List.length_filter_le (inW pl wd) (f9 wi); omega) (fun x => rfl) (fun x hx H8 e8 => et_test (ev_op (ev_var rfl) (ev_var rfl) ?_)) fun x hx H8 e8 _ => ev_var rfl
        · rw [ho] at hlc
          refine s_app (e7 _ _ h6) (ev_var rfl) (ev_opL1 hlc (fun H8 e8 => ev_c) fun q H8 h8 e8 => rv_ixL (sq_of h8) (v := .int (o : Int)) (i := 0) (atI_nat (j := 0) rfl)) (by rw [List.length_map]; omega) fun H8 e8 => ⟨_, _, g ++ [o], rfl, ((e6.trans e7).trans e8).mut (fresh_back (Ex.refl _) hp), ((e6g.trans e7).trans e8).mut (hgn p (by rw [h5]; exact Option.some_ne_none _) hp), ?_, ?_⟩
          · rw [upd_same, ← nats_app]
            rfl
          · rw [List.take_succ, hw, Option.toList_some]
            exact hpg.snoc hof
        · rw [← inV_nat]
          exact rv_niL (sq_of (e8 _ _ (e7 _ _ h6))) rfl (flat_nats g)
      · rintro Hg2 eg2 σ H6 ⟨z1, z2, g, rfl, e6, e6g, h6, hpg⟩
        exact s_ret (ev_var rfl) fun H7 e7 => k1 ⟨pl, hpr, hth2⟩ p H7 ((e4a.trans e6).trans e7)
    · exact ⟨_, _, _, _, rfl, (e2.trans e3).trans e4, (e2g.trans e3).trans e4, find_no hno hi hth⟩
  · rintro Hg eg σ H2 ⟨y1, y2, y3, y4, rfl, e2, e2g, hno⟩
    rw [List.take_length] at hno
    refine s_ret ev_c fun H3 e3 => k2 ?_ H3 (e2.trans e3)
    rintro ⟨pl, ⟨r, hr, hpr⟩, hth⟩
    have hm : pl ∈ upto 60 fun k => decide (k ∈ rows.flatten) := upto_mem.mpr ⟨(hsm.2 r hr).2 pl hpr, decide_eq_true (List.mem_flatten.mpr ⟨r, hr, hpr⟩)⟩
    have q := List.find?_eq_none.mp hno pl hm
    exact q (decide_eq_true hth)
/-! ### chains -/
def chainR (most : Nat) : List (List Nat) → Nat → List Nat
  | [], _ => []
  | r :: rs, last => match r.filter (fun o => decide (last < o) && decide (o < most)) with
    | [] => []
    | k :: _ => k :: chainR most rs k
def sp_chain_from : Sp := fun vs H Q _ => ∃ (a : Addr) (rows : List (List Nat)) (pl wd : Nat), vs = [.ref a, .int (pl : Int), .int (wd : Int)] ∧ RowsAt H a rows ∧ RowsOk rows ∧ rows ≠ [] ∧ RetL (nats (pl :: chainR (pl + wd) rows.tail pl)) H Q
theorem sc_chain_from : FnScope ["places", "place", "width", "found", "row", "later", "one"] ["places", "place", "width"] (defScope s_chain_from) := ⟨rfl, rfl, rfl, by decide +kernel, rfl, by decide +kernel, by decide +kernel⟩
theorem ok_chain_from {P : Program} {w : World} {K : PySem.W.Frag} {mg : Str → Option Value} {base : Heap} (G : Gd K mg "chain_from" s_chain_from) (T : Tx K mg) : OkF P w K mg base 1 "chain_from" ["places", "place", "width"] sp_chain_from := by
  refine G.ok (k := 0) sc_chain_from (fun _ _ _ _ _ _ us hl => match us, hl with | [_, _, _], _ => rfl) (fun vs H Q E h => ?_) (fun f cdv A outer s H vs Q E hr h => ?_)
  · unfold sp_chain_from at h
    repeat (first | (obtain ⟨rfl, h⟩ := h; rfl) | (obtain ⟨_, h⟩ := h))
  have hu := hu_of hr
  refine ⟨_, (pss_cons (psv 3 sc_chain_from.nd (pe_lst (pa_cons (pv 1) pa_nil)))
      (pss_cons (ps_for PassesOwn.never rfl (pi_list (pe_slice (slLK K) (pv 0) (po_some pe_int) po_none)) (pgv 4 sc_chain_from.nd)
        (pss_cons (ps_setLc (i := 5) (own := [("one", 6)]) (g := gName 6) rfl sc_chain_from.nd rfl rfl (sw_true rfl rfl rfl (by decide +kernel)) (pi_list (pv 4)) (blkOk_by (own := [("one", 6)]) (N := ["places", "place", "width", "found", "row", "later", "one"]) (sc := defScope s_chain_from) (by decide +kernel)) (fun _ _ _ _ _ => (pgv 6 sc_chain_from.nd)) (fun _ _ _ _ _ => (pts_one (pt_chain op_lt op_lt (pe_ix (ixlK K) (pv 3) (pe_un un_neg pe_int) (fun _ _ => rfl)) (pv 6) (pe_op op_add (pv 1) (pv 2))))) (fun _ _ _ _ _ => (pv 6)))
        (pss_cons (ps_if (pt_cmpR op_eq (pe_callB (id := "len") (lenK K) rfl T.n_len PySem.boot_len (pa_cons (pv 5) pa_nil)) pe_int (nomark _)) (pss_one (ps_ret (pv 3))) pss_nil)
        (pss_one (ps_expr (pe_bm PySem.F.plainAttrs_list PySem.F.slot_list_append PySem.F.type_list_append mt_append (pv 3) (pa_cons (pe_ix (ixlK K) (pv 5) pe_int (fun _ _ => rfl)) pa_nil)))))))
      (pss_one (ps_ret (pv 3))))), ?_⟩
  obtain ⟨a, rows, pl, wd, rfl, ha, ⟨hz, hz2⟩, hne, k⟩ := h
  obtain ⟨r0, rest, rfl⟩ : ∃ r0 rest, rows = r0 :: rest := by
    cases rows with
    | nil => exact absurd rfl hne
    | cons r0 rest => exact ⟨r0, rest, rfl⟩
  obtain ⟨ts, hta, htp⟩ := id ha
  obtain ⟨t0, trest, rfl⟩ : ∃ t0 trest, ts = t0 :: trest := by
    cases htp with
    | cons h1 h2 => exact ⟨_, _, rfl⟩
  have htp2 : Paired (fun t r => H t = some (.lst (nats r))) trest rest := by
    cases htp with
    | cons h1 h2 => exact h2
  have htl := htp2.length
  rw [List.length_cons] at hz
  refine q_asgL (xs := nats [pl]) (el_lst (ea_cons (ev_var rfl) ea_nil) (by simp)) fun p H1 hp e1 h1 => ?_
  have hsl : EvL (tSl (rSlL K) (tVar 0) (tPart (tC (.int 1))) tNoPart) [some (.ref a), some (.int (pl : Int)), some (.int (wd : Int)), some (.ref p), none, none, none] H (trest.map V.ref) := by
    have q := el_sl (K := K) (te := tVar 0) (tl := tPart (tC (.int 1))) (th := tNoPart) (σ := [some (.ref a), some (.int (pl : Int)), some (.int (wd : Int)), some (.ref p), none, none, none]) (H := H) (a := a) (ev_var rfl) (eo_some ev_c) eo_none (sq_of hta)
    rw [List.map_cons, cut_tail] at q
    exact q
  refine q_forX (H := H) (ex_listN (es := trest) (F := V.ref) hsl) e1 (fun Hg i σ H2 => ∃ y1 y2 y3 fs last, σ = [some (.ref a), some (.int (pl : Int)), some (.int (wd : Int)), some (.ref p), y1, y2, y3] ∧ Ex H H2 ∧ Ex Hg H2 ∧ H2 p = some (.lst (nats (fs ++ [last]))) ∧ fs.length = i ∧ pl :: chainR (pl + wd) rest pl = fs ++ last :: chainR (pl + wd) (rest.drop i) last) (fun Hg H2 e2 eg => ⟨none, none, none, [], pl, rfl, e1.trans e2, eg, e2 _ _ h1, rfl, rfl⟩) (fun Hg i σ H2 ⟨_, _, _, _, _, _, _, e, _⟩ => e) ?_ ?_
  · rintro Hg eg hgn i t σ H2 hi ⟨y1, y2, y3, fs, last, rfl, e2, e2g, h2, hfl, hch⟩ H3 e3
    obtain ⟨r, hr, ht⟩ := pd_getL htp2 hi
    obtain ⟨hlt, hr2⟩ := List.getElem?_eq_some_iff.mp hr
    have hrz := hz2 r (List.mem_cons_of_mem _ (List.mem_of_getElem? hr))
    have hdr : rest.drop i = r :: rest.drop (i + 1) := by
      rw [List.drop_eq_getElem_cons hlt, hr2]
    have hlast : ∀ H9, Ex H2 H9 → ∀ σ9 : L2.St, σ9[3]? = some (some (.ref p)) → Ev (tOp (rIxL K) (tVar 3) (tUn (rU fun i => .int (-i)) (tC (.int 1)))) σ9 H9 (.int (last : Int)) := fun H9 e9 σ9 hσ => by
      refine ev_op (ev_var hσ) (ev_un ev_c ru_neg) (rv_ixL (sq_of (e9 _ _ h2)) ?_)
      show atI (nats (fs ++ [last])) (-1) = _
      rw [← nats_app]
      exact atI_last _ _
    have hlc := el_lcX (ti := iList K (tVar 4)) (g := gName 6) (vs := [6]) (t := tTest (tChain (rI0 fun i j => .bl (decide (i < j))) (rI0 fun i j => .bl (decide (i < j))) (tOp (rIxL K) (tVar 3) (tUn (rU fun i => .int (-i)) (tC (.int 1)))) (tVar 6) (tOp (rI0 fun i j => .int (i + j)) (tVar 1) (tVar 2)))) (te := tVar 6) (σ := [some (.ref a), some (.int (pl : Int)), some (.int (wd : Int)), some (.ref p), some (.ref t), y2, y3]) (H := H3) (es := r) (st := fun x σ0 => σ0.set 6 (some (.int (x : Int)))) (fun o => decide (last < o) && decide (o < pl + wd)) (fun k : Nat => V.int (k : Int))
      (ex_list (F := fun n : Nat => V.int (n : Int)) (ev_var rfl) (sq_of ((e2.trans e3) _ _ ht))) (by omega) (fun x => rfl) (fun x hx H8 e8 => et_is (et_test (ev_chain (r := rI0 fun i j => .bl (decide (i < j))) (r2 := rI0 fun i j => .bl (decide (i < j))) (hlast H8 (e3.trans e8) _ rfl) (ev_var rfl) rv_I0 (fun _ => ev_op (ev_var rfl) (ev_var rfl) rv_I0) fun _ => rv_I0)) ?_) fun x hx H8 e8 _ => ev_var rfl
    · refine q_asgL hlc fun q H4 hq e4 h4 => ?_
      cases hc : r.filter (fun o => decide (last < o) && decide (o < pl + wd)) with
      | nil =>
        rw [hc] at h4
        have hcr : chainR (pl + wd) (rest.drop i) last = [] := by
          rw [hdr]
          show (match r.filter (fun o => decide (last < o) && decide (o < pl + wd)) with
            | [] => []
            | k :: _ => k :: chainR (pl + wd) (rest.drop (i + 1)) k) = []
          rw [hc]
        refine q_when (b := true) (et_is (et_test (ev_op (ev_lenL (ev_var rfl) (sq_of h4)) ev_c (rv_eq rfl))) ?_) (fun _ H5 e5 => ?_) fun z => nomatch z
        · rfl
        · refine s_ret (ev_var rfl) fun H6 e6 => k p H6 hp (((e2.trans e3).trans e4).trans (e5.trans e6)) ?_
          show H6 p = some (.lst (nats (pl :: chainR (pl + wd) rest pl)))
          rw [hch, hcr]
          exact (((e3.trans e4).trans e5).trans e6) _ _ h2
      | cons o os =>
        rw [hc] at h4
        refine q_when (b := false) (et_is (et_test (ev_op (ev_lenL (ev_var rfl) (sq_of h4)) ev_c (rv_eq rfl))) ?_) (fun z => nomatch z) fun _ H5 e5 => ?_
        · simp
          omega
        · refine s_app ((((e3.trans e4).trans e5)) _ _ h2) (ev_var rfl) (ev_op (ev_var rfl) ev_c (rv_ixL (sq_of (e5 _ _ h4)) (v := .int (o : Int)) (i := 0) (atI_nat (j := 0) rfl))) ?_ fun H6 e6 => ⟨_, _, _, fs ++ [last], o, rfl, ((((e2.trans e3).trans e4).trans e5).trans e6).mut hp, ((((e2g.trans e3).trans e4).trans e5).trans e6).mut (hgn p (by rw [h1]; exact Option.some_ne_none _) hp), ?_, ?_, ?_⟩
          · rw [List.length_map, List.length_append, List.length_singleton, hfl]
            omega
          · rw [upd_same, ← nats_app (fs ++ [last])]
            rfl
          · rw [List.length_append, hfl]
            rfl
          · rw [hch, hdr]
            have hcr : chainR (pl + wd) (r :: rest.drop (i + 1)) last = o :: chainR (pl + wd) (rest.drop (i + 1)) o := by
              show (match r.filter (fun o => decide (last < o) && decide (o < pl + wd)) with
                | [] => []
                | k :: _ => k :: chainR (pl + wd) (rest.drop (i + 1)) k) = _
              rw [hc]
            rw [hcr, List.append_assoc]
            rfl
    · congr 1
      · exact decide_eq_decide.mpr (by omega)
      · exact decide_eq_decide.mpr (by omega)
  · rintro Hg eg σ H2 ⟨y1, y2, y3, fs, last, rfl, e2, e2g, h2, hfl, hch⟩
    refine s_ret (ev_var rfl) fun H3 e3 => k p H3 hp (e2.trans e3) ?_
    show H3 p = some (.lst (nats (pl :: chainR (pl + wd) rest pl)))
    rw [hch, htl, List.drop_length]
    exact e3 _ _ h2
def chainB (rows : List (List Nat)) (wd pl : Nat) : Bool := decide ((pl :: chainR (pl + wd) rows.tail pl).length = rows.length)
def sp_chain_places : Sp := fun vs H Q _ => ∃ (a : Addr) (rows : List (List Nat)) (wd : Nat), vs = [.ref a, .int (wd : Int)] ∧ RowsAt H a rows ∧ RowsOk rows ∧ rows ≠ [] ∧
  ((rows.headD []).any (chainB rows wd) = true → ∀ p H2, Ex H H2 → Q (.ref p) H2) ∧ ((rows.headD []).any (chainB rows wd) = false → RetV .non H Q)
theorem any_find {α : Type} {l : List α} {f : α → Bool} : l.any f = (l.find? f).isSome := by
  induction l with
  | nil => rfl
  | cons x r ih =>
    rw [List.any_cons, List.find?_cons, ih]
    cases f x <;> rfl
theorem sc_chain_places : FnScope ["places", "width", "place", "found"] ["places", "width"] (defScope s_chain_places) := ⟨rfl, rfl, rfl, by decide +kernel, rfl, by decide +kernel, by decide +kernel⟩
theorem ok_chain_places {P : Program} {w : World} {K : PySem.W.Frag} {mg : Str → Option Value} {base : Heap} (G : Gd K mg "chain_places" s_chain_places) (T : Tx K mg) (O_chain_from : OkF P w K mg base 1 "chain_from" ["places", "place", "width"] sp_chain_from) : OkF P w K mg base 2 "chain_places" ["places", "width"] sp_chain_places := by
  refine G.ok (k := 1) sc_chain_places (fun _ _ _ _ _ _ us hl => match us, hl with | [_, _], _ => rfl) (fun vs H Q E h => ?_) (fun f cdv A outer s H vs Q E hr h => ?_)
  · unfold sp_chain_places at h
    repeat (first | (obtain ⟨rfl, h⟩ := h; rfl) | (obtain ⟨_, h⟩ := h))
  have hu := hu_of hr
  refine ⟨_, (pss_cons (ps_for PassesOwn.never rfl (pi_list (pe_ix (ixlK K) (pv 0) pe_int (fun _ _ => rfl))) (pgv 2 sc_chain_places.nd)
        (pss_cons (psv 3 sc_chain_places.nd (pe_fn O_chain_from (hr.mono (by decide)) (pa_cons (pv 0) (pa_cons (pv 2) (pa_cons (pv 1) pa_nil)))))
        (pss_one (ps_if (pt_cmpR op_eq (pe_callB (id := "len") (lenK K) rfl T.n_len PySem.boot_len (pa_cons (pv 3) pa_nil)) (pe_callB (id := "len") (lenK K) rfl T.n_len PySem.boot_len (pa_cons (pv 0) pa_nil)) (nomark _)) (pss_one (ps_ret (pv 3))) pss_nil))))
      (pss_one (ps_ret pe_non))), ?_⟩
  obtain ⟨a, rows, wd, rfl, ha, hok, hne, k1, k2⟩ := h
  obtain ⟨hz, hz2⟩ := id hok
  obtain ⟨r0, rest, hr0⟩ : ∃ r0 rest, rows = r0 :: rest := by
    cases rows with
    | nil => exact absurd rfl hne
    | cons r0 rest => exact ⟨r0, rest, rfl⟩
  have h0 : rows[0]? = some r0 := by rw [hr0]; rfl
  have hhd : rows.headD [] = r0 := by rw [hr0]; rfl
  rw [hhd] at k1 k2
  obtain ⟨xs, t0, hxa, hxl, hx0, ht0⟩ := ha.at h0
  refine q_forX (H := H) (es := r0) (st := fun x σ0 => σ0.set 2 (some (.int (x : Int)))) (ex_list (a := t0) (F := fun n : Nat => V.int (n : Int)) (ev_op (ev_var rfl) ev_c (rv_ixL (sq_of hxa) hx0)) (sq_of ht0)) (Ex.refl _) (fun Hb i σ H2 => ∃ y1 y2, σ = [some (.ref a), some (.int (wd : Int)), y1, y2] ∧ Ex H H2 ∧ Ex Hb H2 ∧ (r0.take i).find? (chainB rows wd) = none) (fun Hb H1 e1 eb => ⟨none, none, rfl, e1, eb, rfl⟩) (fun Hb i σ H1 ⟨_, _, _, _, e, _⟩ => e) ?_ ?_
  · rintro Hb eb _ i x σ H1 hi ⟨y1, y2, rfl, e1, e1b, hno⟩ H2 e2
    refine q_asgL (xs := nats (x :: chainR (x + wd) rows.tail x)) (el_call (ea_cons (ev_var rfl) (ea_cons (ev_var rfl) (ea_cons (ev_var rfl) ea_nil))) fun H3 e3 Q3 q3 E3 => ⟨a, rows, x, wd, rfl, ha.mono ((e1.trans e2).trans e3), hok, hne, q3⟩) fun p H3 hp e3 h3 => ?_
    have e13 := (e1.trans e2).trans e3
    obtain ⟨ys, hya, hyl⟩ := (ha.mono e13).len
    refine s_when (b := chainB rows wd x) (et_is (et_test (ev_op (ev_lenL (ev_var rfl) (sq_of h3)) (ev_lenL (ev_var rfl) (sq_of hya)) (rv_eq rfl))) ?_) (fun hb H4 e4 => ?_) fun hb H4 e4 => ?_
    · unfold chainB
      refine decide_eq_decide.mpr ?_
      rw [hyl, List.length_map]
      constructor
      · intro z
        have z2 := V.int.inj z
        omega
      · intro z
        rw [z]
    · refine s_ret (ev_var rfl) fun H5 e5 => k1 ?_ p H5 ((e13.trans e4).trans e5)
      rw [any_find, find_yes hno hi hb]
      rfl
    · exact ⟨_, _, rfl, e13.trans e4, ((e1b.trans e2).trans e3).trans e4, find_no hno hi hb⟩
  · rintro Hb eb σ H1 ⟨y1, y2, rfl, e1, e1b, hno⟩
    rw [List.take_length] at hno
    refine s_ret ev_c fun H2 e2 => k2 ?_ H2 (e1.trans e2)
    rw [any_find, hno]
    rfl
end Fc
/-! Dicts told by what they hold; attributes; places of words. -/
namespace Fc
open PySem PySem.Spec PyProof.Rows L2 Evl
/-! ### dicts -/
theorem nd_put {kvs : List (Key × V)} (k : Key) (v : V) (h : (kvs.map Prod.fst).Nodup) : ((putK kvs k v).map Prod.fst).Nodup := by
  unfold putK
  by_cases a : (kvs.any fun kv => decide (kv.1 = k)) = true
  · rw [if_pos a, List.map_map]
    have e : (Prod.fst ∘ fun kv : Key × V => if kv.1 = k then (kv.1, v) else kv) = Prod.fst := by
      funext kv
      show (if kv.1 = k then (kv.1, v) else kv).1 = kv.1
      split <;> rfl
    rw [e]
    exact h
  · rw [if_neg a, List.map_append, List.nodup_append]
    refine ⟨h, by simp, ?_⟩
    intro x hx y hy e
    simp at hy
    subst hy
    subst e
    obtain ⟨kv, h1, h2⟩ := List.mem_map.mp hx
    exact a (List.any_eq_true.mpr ⟨kv, h1, decide_eq_true h2⟩)
theorem valV_mem {kvs : List (Key × V)} {k : Key} {v : V} (h : (kvs.map Prod.fst).Nodup) (hm : (k, v) ∈ kvs) : valV kvs k = some v := by
  induction kvs with
  | nil => exact absurd hm List.not_mem_nil
  | cons p r ih =>
    rw [List.map_cons, List.nodup_cons] at h
    rcases List.mem_cons.mp hm with e | e
    · subst e
      exact valV_pos rfl
    · have hne : ¬ p.1 = k := fun z => h.1 (by rw [z]; exact List.mem_map.mpr ⟨_, e, rfl⟩)
      rw [valV_neg hne]
      exact ih h.2 e
theorem valV_some {kvs : List (Key × V)} {k : Key} {v : V} (h : valV kvs k = some v) : (k, v) ∈ kvs := by
  induction kvs with
  | nil => cases h
  | cons p r ih =>
    by_cases e : p.1 = k
    · rw [valV_pos e] at h
      cases h
      subst e
      exact List.mem_cons_self
    · rw [valV_neg e] at h
      exact List.mem_cons_of_mem _ (ih h)
abbrev kS (w : Str) : Key := Sum.inr w
abbrev kN (n : Nat) : Key := Sum.inl (n : Int)
/-- a dict whose keys are texts out of L, told by what stands at each -/
structure Dct (L : List Str) (kvs : List (Key × V)) (R : Str → Option V → Prop) : Prop where
  nd : (kvs.map Prod.fst).Nodup
  keys : ∀ kv ∈ kvs, ∃ w ∈ L, kv.1 = kS w
  val : ∀ w, R w (valV kvs (kS w))
theorem Dct.nil {L : List Str} {R : Str → Option V → Prop} (h : ∀ w, R w none) : Dct L [] R := ⟨List.nodup_nil, fun _ h => absurd h List.not_mem_nil, h⟩
theorem Dct.put {L : List Str} {kvs : List (Key × V)} {R R' : Str → Option V → Prop} {w : Str} {v : V} (d : Dct L kvs R) (hw : w ∈ L) (h : R' w (some v)) (h2 : ∀ u, u ≠ w → R u (valV kvs (kS u)) → R' u (valV kvs (kS u))) : Dct L (putK kvs (kS w) v) R' := by
  refine ⟨nd_put _ _ d.nd, fun kv hkv => ?_, fun u => ?_⟩
  · unfold putK at hkv
    by_cases a : (kvs.any fun kv => decide (kv.1 = kS w)) = true
    · rw [if_pos a] at hkv
      obtain ⟨x, h3, h4⟩ := List.mem_map.mp hkv
      obtain ⟨z, hz, hz2⟩ := d.keys x h3
      refine ⟨z, hz, ?_⟩
      rw [← h4]
      show (if x.1 = kS w then (x.1, v) else x).1 = kS z
      split <;> exact hz2
    · rw [if_neg a] at hkv
      rcases List.mem_append.mp hkv with h3 | h3
      · exact d.keys kv h3
      · simp at h3
        exact ⟨w, hw, by rw [h3]⟩
  · rw [valV_put]
    by_cases e : u = w
    · subst e
      rw [if_pos rfl]
      exact h
    · rw [if_neg (fun z => e (Sum.inr.inj z))]
      exact h2 u e (d.val u)
theorem Dct.imp {L : List Str} {kvs : List (Key × V)} {R R' : Str → Option V → Prop} (d : Dct L kvs R) (h : ∀ w, w ∈ L ∨ valV kvs (kS w) = none → R w (valV kvs (kS w)) → R' w (valV kvs (kS w))) : Dct L kvs R' := ⟨d.nd, d.keys, fun w => h w (by
  cases e : valV kvs (kS w) with
  | none => exact .inr rfl
  | some v =>
    obtain ⟨z, hz, hz2⟩ := d.keys _ (valV_some e)
    exact .inl (by rw [Sum.inr.inj hz2]; exact hz)) (d.val w)⟩
theorem Dct.len {L : List Str} {kvs : List (Key × V)} {R : Str → Option V → Prop} (d : Dct L kvs R) : kvs.length ≤ L.length := by
  have h := nodup_le (b := L.map kS) d.nd fun k hk => by
    obtain ⟨kv, h1, rfl⟩ := List.mem_map.mp hk
    obtain ⟨w, hw, e⟩ := d.keys kv h1
    rw [e]
    exact List.mem_map.mpr ⟨w, hw, rfl⟩
  rwa [List.length_map, List.length_map] at h
/-- its keys as texts -/
theorem Dct.names {L : List Str} {kvs : List (Key × V)} {R : Str → Option V → Prop} (d : Dct L kvs R) : ∃ ks : List Str, kvs.map Prod.fst = ks.map kS ∧ ks.Nodup ∧ ks.length ≤ L.length ∧ ∀ w, w ∈ ks ↔ (valV kvs (kS w)).isSome = true := by
  have hk : ∀ {kvs : List (Key × V)}, (∀ kv ∈ kvs, ∃ w ∈ L, kv.1 = kS w) → ∃ ks : List Str, kvs.map Prod.fst = ks.map kS := by
    intro kvs
    induction kvs with
    | nil => exact fun _ => ⟨[], rfl⟩
    | cons p r ih =>
      intro h
      obtain ⟨ks, e⟩ := ih fun kv hkv => h kv (List.mem_cons_of_mem _ hkv)
      obtain ⟨w, _, e2⟩ := h p List.mem_cons_self
      exact ⟨w :: ks, by rw [List.map_cons, List.map_cons, e, e2]⟩
  obtain ⟨ks, e⟩ := hk d.keys
  have hlen : ks.length = kvs.length := by
    have := congrArg List.length e
    rwa [List.length_map, List.length_map, eq_comm] at this
  refine ⟨ks, e, ?_, by rw [hlen]; exact d.len, fun w => ?_⟩
  · have h := d.nd
    rw [e] at h
    exact List.Pairwise.of_map kS (fun a b hab z => hab (by rw [z])) h
  · have h1 : w ∈ ks ↔ kS w ∈ kvs.map Prod.fst := by
      rw [e, List.mem_map]
      exact ⟨fun h => ⟨w, h, rfl⟩, fun ⟨z, h, e⟩ => by rw [← Sum.inr.inj e]; exact h⟩
    rw [h1, List.mem_map]
    constructor
    · rintro ⟨⟨k, v⟩, h2, e2⟩
      have e3 : k = kS w := e2
      subst e3
      rw [valV_mem d.nd h2]
      rfl
    · intro h2
      obtain ⟨v, hv⟩ := Option.isSome_iff_exists.mp h2
      exact ⟨_, valV_some hv, rfl⟩
/-! ### attributes and dicts, read and written -/
section
variable {K : PySem.W.Frag} {σ : L2.St} {H : Hp} {ta te td ty tv tx : TE} {x y v : V} {D : Ends}
theorem ev_fld {a C dx : Addr} {fs : List (Str × V)} {f : Str} (ha : Ev ta σ H (.ref a)) (h : H a = some (.ins C dx fs)) (c : Cls K C) (n : NoAttr K C f) (hf : fs.lookup f = some v) : Ev (tFld K ta f) σ H v :=
  fun H1 e Q q => ha H1 e _ fun H2 e2 => ⟨a, C, dx, fs, v, rfl, e2 _ _ (e _ _ h), c, n, hf, q H2 e2⟩
theorem dget_ex {H H2 : Hp} {a : Addr} {y : V} {r : Option V} (h : DGet H a y r) (e : Ex H H2) : DGet H2 a y r := by
  rcases h with ⟨kvs, k, h1, h2, h3⟩ | ⟨kvs, k, b, h1, h2, h3, h4⟩
  · exact .inl ⟨kvs, k, ex_rd e h1, h2, h3⟩
  · exact .inr ⟨kvs, k, b, ex_rd e h1, h2, e _ _ h3, h4⟩
theorem isD_get {H : Hp} {a : Addr} {y : V} {r : Option V} (h : DGet H a y r) : IsD H a := by
  rcases h with ⟨kvs, k, h1, _⟩ | ⟨kvs, k, b, h1, _⟩
  · exact .inl ⟨kvs, h1⟩
  · exact .inr ⟨kvs, h1⟩
theorem ev_dget {a : Addr} (hd : Ev td σ H (.ref a)) (hy : Ev ty σ H y) (h : DGet H a y (some v)) : Ev (tDGet td ty) σ H v :=
  fun H1 e Q q => hd H1 e _ fun H2 e2 => hy H2 (e.trans e2) _ fun H3 e3 => ⟨a, v, rfl, dget_ex h ((e.trans e2).trans e3), q H3 (e2.trans e3)⟩
/-- d.get(k, x), there or x is new -/
theorem ev_dgetD {a : Addr} {o : Option V} (hd : Ev td σ H (.ref a)) (hy : Ev ty σ H y) (hx : Ev tx σ H x) (h : DGet H a y o) : Ev (tDGet2 td ty tx) σ H (o.getD x) :=
  fun H1 e Q q => hd H1 e _ fun H2 e2 => ⟨a, rfl, isD_get (dget_ex h (e.trans e2)), hy H2 (e.trans e2) _ fun H3 e3 => hx H3 ((e.trans e2).trans e3) _ fun H4 e4 => ⟨o, dget_ex h (((e.trans e2).trans e3).trans e4), q H4 ((e2.trans e3).trans e4)⟩⟩
def OldL (H : Hp) (xs : List V) : Option V → Prop
  | none => xs = []
  | some u => ∃ l, u = .ref l ∧ H l = some (.lst xs)
/-- d.get(k, []) + [v] -/
theorem el_getcat {a : Addr} {o : Option V} {xs : List V} (hd : Ev td σ H (.ref a)) (hy : Ev ty σ H y) (h : DGet H a y o) (ho : OldL H xs o) (hz : xs.length ≤ 90000)
    (he : Ev te σ H v) : EvL (tOp rCat (tDGet2 td ty (tLst tNil)) (tLst (tCons te tNil))) σ H (xs ++ [v]) := fun H1 e Q q =>
  hd H1 e _ fun H2 e2 => ⟨a, rfl, isD_get (dget_ex h (e.trans e2)), hy H2 (e.trans e2) _ fun H3 e3 => ⟨sizeLine_of (by decide), fun pe hpe => ⟨o, dget_ex h (((e.trans e2).trans e3).trans (Ex.new hpe)), by
    have e4 : Ex H (upd H3 pe (.lst [])) := ((e.trans e2).trans e3).trans (Ex.new hpe)
    have hfst : ∃ l, o.getD (.ref pe) = .ref l ∧ upd H3 pe (.lst []) l = some (.lst xs) := by
      cases o with
      | none =>
        have ho2 : xs = [] := ho
        subst ho2
        exact ⟨pe, rfl, upd_same⟩
      | some u =>
        obtain ⟨l, h1, h2⟩ := ho
        exact ⟨l, h1, e4 _ _ h2⟩
    obtain ⟨l, hl1, hl2⟩ := hfst
    refine he _ e4 _ fun H5 e5 => ⟨sizeLine_of (by simp), fun pv hpv => ?_⟩
    have e6 : Ex (upd H3 pe (.lst [])) (upd H5 pv (.lst [v])) := e5.trans (Ex.new hpv)
    refine ⟨l, pv, xs, [v], hl1, rfl, e6 _ _ hl2, upd_same, sizeLine_of (by simp; omega), fun p hp => q p _ ?_ ?_ upd_same⟩
    · exact fresh_back (((e2.trans e3).trans (Ex.new hpe)).trans e6) hp
    · exact (((e2.trans e3).trans (Ex.new hpe)).trans e6).trans (Ex.new hp)⟩⟩⟩
/-- d.get(k, []) + [(..)] -/
theorem el_getcatU {a : Addr} {o : Option V} {xs us : List V} (hd : Ev td σ H (.ref a)) (hy : Ev ty σ H y) (h : DGet H a y o) (ho : OldL H xs o) (hz : xs.length ≤ 90000)
    (he : EvU te σ H us) {H1 : Hp} (e : Ex H H1) {Q : VK} (q : ∀ p t H2, H1 p = none → H1 t = none → Ex H1 H2 → H2 p = some (.lst (xs ++ [.ref t])) → H2 t = some (.tup us) → Q (.ref p) H2) :
    tOp rCat (tDGet2 td ty (tLst tNil)) (tLst (tCons te tNil)) σ H1 Q :=
  hd H1 e _ fun H2 e2 => ⟨a, rfl, isD_get (dget_ex h (e.trans e2)), hy H2 (e.trans e2) _ fun H3 e3 => ⟨sizeLine_of (by decide), fun pe hpe => ⟨o, dget_ex h (((e.trans e2).trans e3).trans (Ex.new hpe)), by
    have e4 : Ex H (upd H3 pe (.lst [])) := ((e.trans e2).trans e3).trans (Ex.new hpe)
    have hfst : ∃ l, o.getD (.ref pe) = .ref l ∧ upd H3 pe (.lst []) l = some (.lst xs) := by
      cases o with
      | none =>
        have ho2 : xs = [] := ho
        subst ho2
        exact ⟨pe, rfl, upd_same⟩
      | some u =>
        obtain ⟨l, h1, h2⟩ := ho
        exact ⟨l, h1, e4 _ _ h2⟩
    obtain ⟨l, hl1, hl2⟩ := hfst
    refine he _ e4 _ fun t H5 ht e5 h5 => ⟨sizeLine_of (by simp), fun pv hpv => ?_⟩
    have e6 : Ex (upd H3 pe (.lst [])) (upd H5 pv (.lst [.ref t])) := e5.trans (Ex.new hpv)
    have e7 := ((e2.trans e3).trans (Ex.new hpe)).trans e6
    refine ⟨l, pv, xs, [.ref t], hl1, rfl, e6 _ _ hl2, upd_same, sizeLine_of (by simp; omega), fun p hp => q p t _ ?_ ?_ ?_ upd_same ?_⟩
    · exact fresh_back e7 hp
    · exact fresh_back ((e2.trans e3).trans (Ex.new hpe)) ht
    · exact e7.trans (Ex.new hp)
    · exact (Ex.new hp) _ _ ((Ex.new hpv) _ _ h5)⟩⟩⟩
theorem s_dput {a : Addr} {kvs : List (Key × V)} {w : Str} (hv : Ev tv σ H v) (hd : Ev td σ H (.ref a)) (hy : Ev ty σ H (.str w)) (h : H a = some (.dK kvs)) (hl : kvs.length ≤ 90000) (k : ∀ H1, Ex H H1 → D.nx σ (upd H1 a (.dK (putK kvs (kS w) v)))) : sDPut td ty tv D σ H :=
  hv H (Ex.refl _) _ fun H1 e1 => hd H1 e1 _ fun H2 e2 => hy H2 (e1.trans e2) _ fun H3 e3 => ⟨a, _, rfl, .inl ⟨kvs, kS w, ((e1.trans e2).trans e3) _ _ h, rfl, sizeLine_lt (by omega), rfl⟩, k H3 ((e1.trans e2).trans e3)⟩
theorem s_dputI {a : Addr} {kvs : List (Key × V)} {i : Int} (hv : Ev tv σ H v) (hd : Ev td σ H (.ref a)) (hy : Ev ty σ H (.int i)) (h : H a = some (.dK kvs)) (hl : kvs.length ≤ 90000) (k : ∀ H1, Ex H H1 → D.nx σ (upd H1 a (.dK (putK kvs (.inl i) v)))) : sDPut td ty tv D σ H :=
  hv H (Ex.refl _) _ fun H1 e1 => hd H1 e1 _ fun H2 e2 => hy H2 (e1.trans e2) _ fun H3 e3 => ⟨a, _, rfl, .inl ⟨kvs, .inl i, ((e1.trans e2).trans e3) _ _ h, rfl, sizeLine_lt (by omega), rfl⟩, k H3 ((e1.trans e2).trans e3)⟩
theorem s_dputL {a : Addr} {kvs : List (Key × V)} {w : Str} {xs : List V} (hv : EvL tv σ H xs) (hd : Ev td σ H (.ref a)) (hy : Ev ty σ H (.str w)) (h : H a = some (.dK kvs)) (hl : kvs.length ≤ 90000) (k : ∀ p H1, H p = none → Ex H H1 → H1 p = some (.lst xs) → D.nx σ (upd H1 a (.dK (putK kvs (kS w) (.ref p))))) : sDPut td ty tv D σ H :=
  hv H (Ex.refl _) _ fun p H1 hp e1 h1 => hd H1 e1 _ fun H2 e2 => hy H2 (e1.trans e2) _ fun H3 e3 => ⟨a, _, rfl, .inl ⟨kvs, kS w, ((e1.trans e2).trans e3) _ _ h, rfl, sizeLine_lt (by omega), rfl⟩, k p H3 hp ((e1.trans e2).trans e3) ((e2.trans e3) _ _ h1)⟩
theorem s_dputU {a : Addr} {kvs : List (Key × V)} {w : Str} {xs : List V} (hv : EvU tv σ H xs) (hd : Ev td σ H (.ref a)) (hy : Ev ty σ H (.str w)) (h : H a = some (.dK kvs)) (hl : kvs.length ≤ 90000) (k : ∀ p H1, H p = none → Ex H H1 → H1 p = some (.tup xs) → D.nx σ (upd H1 a (.dK (putK kvs (kS w) (.ref p))))) : sDPut td ty tv D σ H :=
  hv H (Ex.refl _) _ fun p H1 hp e1 h1 => hd H1 e1 _ fun H2 e2 => hy H2 (e1.trans e2) _ fun H3 e3 => ⟨a, _, rfl, .inl ⟨kvs, kS w, ((e1.trans e2).trans e3) _ _ h, rfl, sizeLine_lt (by omega), rfl⟩, k p H3 hp ((e1.trans e2).trans e3) ((e2.trans e3) _ _ h1)⟩
theorem ev_dnewK : ∀ H1, ∀ Q : VK, (∀ p, H1 p = none → Q (.ref p) (upd H1 p (.dK []))) → tDNewK σ H1 Q := fun _ _ q => q
end
/-! ### places of a word -/
def posOf (ws : List Str) (w : Str) : List Nat := (List.range ws.length).filter fun i => decide (ws[i]? = some w)
theorem pos_snoc (ws : List Str) (v w : Str) : posOf (ws ++ [v]) w = posOf ws w ++ if v = w then [ws.length] else [] := by
  unfold posOf
  rw [List.length_append, List.length_singleton, List.range_succ, List.filter_append]
  congr 1
  · refine List.filter_congr fun i hi => ?_
    rw [List.getElem?_append_left (List.mem_range.mp hi)]
  · rw [List.filter_cons]
    by_cases h : v = w
    · simp [h]
    · simp [h]
theorem pos_mem {ws : List Str} {w : Str} {k : Nat} : k ∈ posOf ws w ↔ ws[k]? = some w := by
  unfold posOf
  rw [List.mem_filter, List.mem_range, decide_eq_true_iff]
  exact ⟨fun h => h.2, fun h => ⟨(List.getElem?_eq_some_iff.mp h).1, h⟩⟩
theorem pos_lt {ws : List Str} {w : Str} {k : Nat} (h : k ∈ posOf ws w) : k < ws.length := (List.getElem?_eq_some_iff.mp (pos_mem.mp h)).1
theorem pos_len (ws : List Str) (w : Str) : (posOf ws w).length ≤ ws.length := by
  have h := List.length_filter_le (fun i => decide (ws[i]? = some w)) (List.range ws.length)
  rwa [List.length_range] at h
theorem pos_nd (ws : List Str) (w : Str) : (posOf ws w).Nodup := List.nodup_range.filter _
theorem pos_nil {ws : List Str} {w : Str} : posOf ws w = [] ↔ w ∉ ws := by
  constructor
  · intro h hm
    obtain ⟨k, hk⟩ := List.getElem?_of_mem hm
    have := pos_mem.mpr hk
    rw [h] at this
    exact List.not_mem_nil this
  · intro h
    cases e : posOf ws w with
    | nil => rfl
    | cons k r =>
      have hk : k ∈ posOf ws w := by rw [e]; exact List.mem_cons_self
      exact absurd (List.mem_of_getElem? (pos_mem.mp hk)) h
/-! ### ghosts: what is told of an own thing's contents stands in a part of the heap without it -/
theorem jn_fr {G H H3 H9 : Hp} (eG : Ex G (fr H H3)) (e : Ex H H3) (e9 : Ex H3 H9) : Ex (jn G H3 H9) (fr H H9) := by
  intro a o h
  unfold jn at h
  cases hs : H3 a with
  | none =>
    rw [hs] at h
    rw [fr_at (fresh_back e hs)]
    exact h
  | some u =>
    rw [hs] at h
    exact fr_to e9 _ _ (eG _ _ h)
theorem jn_G {G H3 H9 : Hp} (eG : Ex G H3) : Ex G (jn G H3 H9) := jn_ex eG
theorem jn_new {G H3 H9 : Hp} {a : Addr} (h : H3 a = none) : jn G H3 H9 a = H9 a := by
  unfold jn
  rw [h]
theorem own_ne {H : Hp} {a b : Addr} {o : HO} (h : H a = some o) (hb : H b = none) : a ≠ b := by
  rintro rfl
  rw [h] at hb
  cases hb
def del (H : Hp) (a : Addr) : Hp := fun b => if b = a then none else H b
theorem del_at {H : Hp} {a : Addr} : del H a a = none := if_pos rfl
theorem del_ne {H : Hp} {a b : Addr} (h : b ≠ a) : del H a b = H b := if_neg h
theorem del_ex {H : Hp} {a : Addr} : Ex (del H a) H := by
  intro b o h
  unfold del at h
  split at h
  · cases h
  · exact h
theorem del_mono {H H' : Hp} {a : Addr} (e : Ex H H') : Ex (del H a) (del H' a) := by
  intro b o h
  unfold del at h ⊢
  split at h
  · cases h
  · rename_i hb
    rw [if_neg hb]
    exact e _ _ h
end Fc
/-! What a document counts. -/
namespace Fc
open PySem PySem.Spec PyProof.Rows L2 Evl
def fw (ds : List (Str × Str)) (f : Str) : List Str := match ds.find? (fun p => decide (p.1 = f)) with
  | some p => wordsOf p.2
  | none => []
def DocIn (L : List Str) (ds : List (Str × Str)) : Prop := ∀ p ∈ ds, p.1 ∈ L ∧ p.2.length ≤ 30000 ∧ (wordsOf p.2).length ≤ 60 ∧ ∀ w ∈ wordsOf p.2, w ∈ L
def PlR (G : Hp) (ws : List Str) (w : Str) : Option V → Prop
  | none => w ∉ ws
  | some v => w ∈ ws ∧ ∃ l, v = .ref l ∧ G l = some (.lst (nats (posOf ws w)))
theorem PlR.mono {G G2 : Hp} {ws : List Str} {w : Str} {o : Option V} (h : PlR G ws w o) (e : Ex G G2) : PlR G2 ws w o := by
  cases o with
  | none => exact h
  | some v =>
    obtain ⟨h1, l, h2, h3⟩ := h
    exact ⟨h1, l, h2, e _ _ h3⟩
def PlAt (L : List Str) (G : Hp) (d : Addr) (ws : List Str) : Prop := ∃ kws, G d = some (.dK kws) ∧ Dct L kws (PlR G ws)
theorem PlAt.mono {L : List Str} {G G2 : Hp} {d : Addr} {ws : List Str} (h : PlAt L G d ws) (e : Ex G G2) : PlAt L G2 d ws := by
  obtain ⟨kws, h1, h2⟩ := h
  exact ⟨kws, e _ _ h1, h2.imp fun w _ q => q.mono e⟩
def CntR (L : List Str) (G : Hp) (ds : List (Str × Str)) (f : Str) : Option V → Prop
  | none => fw ds f = []
  | some v => fw ds f ≠ [] ∧ ∃ t d, v = .ref t ∧ G t = some (.tup [.int ((fw ds f).length : Nat), .ref d]) ∧ PlAt L G d (fw ds f)
theorem CntR.mono {L : List Str} {G G2 : Hp} {ds : List (Str × Str)} {f : Str} {o : Option V} (h : CntR L G ds f o) (e : Ex G G2) : CntR L G2 ds f o := by
  cases o with
  | none => exact h
  | some v =>
    obtain ⟨h1, t, d, h2, h3, h4⟩ := h
    exact ⟨h1, t, d, h2, e _ _ h3, h4.mono e⟩
def CntAt (L : List Str) (G : Hp) (p : Addr) (ds : List (Str × Str)) : Prop := ∃ kvs, G p = some (.dK kvs) ∧ Dct L kvs (CntR L (del G p) ds)
theorem CntAt.mono {L : List Str} {G G2 : Hp} {d : Addr} {ds : List (Str × Str)} (h : CntAt L G d ds) (e : Ex G G2) : CntAt L G2 d ds := by
  obtain ⟨kws, h1, h2⟩ := h
  exact ⟨kws, e _ _ h1, h2.imp fun w _ q => q.mono (del_mono e)⟩
theorem fw_snoc {ds : List (Str × Str)} {p : Str × Str} (h : ∀ q ∈ ds, q.1 ≠ p.1) (f : Str) : fw (ds ++ [p]) f = if p.1 = f then wordsOf p.2 else fw ds f := by
  unfold fw
  rw [List.find?_append]
  by_cases e : p.1 = f
  · rw [if_pos e]
    have hn : ds.find? (fun p => decide (p.1 = f)) = none := List.find?_eq_none.mpr fun q hq => by
      have := h q hq
      rw [e] at this
      simpa using this
    rw [hn]
    simp [e]
  · rw [if_neg e]
    cases hc : ds.find? (fun p => decide (p.1 = f)) with
    | none => simp [e]
    | some q => rfl
theorem fw_none {ds : List (Str × Str)} {f : Str} (h : ∀ q ∈ ds, q.1 ≠ f) : fw ds f = [] := by
  unfold fw
  rw [List.find?_eq_none.mpr fun q hq => by simpa using h q hq]
theorem doc_apart {ds : List (Str × Str)} (hok : DocOk ds) {i : Nat} {q : Str × Str} (hi : ds[i]? = some q) {x : Str × Str} (hx : x ∈ ds.take i) : x.1 ≠ q.1 := by
  obtain ⟨_, hpw, _⟩ := hok
  obtain ⟨n, hn⟩ := List.getElem?_of_mem hx
  rw [List.getElem?_take] at hn
  split at hn
  · rename_i hni
    obtain ⟨g1, g2⟩ := List.getElem?_eq_some_iff.mp hn
    obtain ⟨g3, g4⟩ := List.getElem?_eq_some_iff.mp hi
    have g5 := List.pairwise_iff_getElem.mp hpw n i g1 g3 hni
    rw [g2, g4] at g5
    intro z
    rw [z] at g5
    exact absurd g5 (List.lt_irrefl _)
  · cases hn
theorem pos_snoc_len (ws : List Str) (v : Str) : nats (posOf ws v) ++ [.int (ws.length : Nat)] = nats (posOf (ws ++ [v]) v) := by
  rw [pos_snoc, if_pos rfl, ← nats_app]
  rfl
def sp_counted : Sp := fun vs H Q _ => ∃ (L : List Str) (a : Addr) (ds : List (Str × Str)), vs = [.ref a] ∧ DocAt H a ds ∧ DocOk ds ∧ DocIn L ds ∧ L.length ≤ 60 ∧ ∀ p H2, H p = none → Ex H H2 → CntAt L (fr H H2) p ds → Q (.ref p) H2
theorem sc_counted : FnScope ["document", "found", "field", "text", "places", "many", "word", "begin", "end"] ["document"] (defScope s_counted) := ⟨rfl, rfl, rfl, by decide +kernel, rfl, by decide +kernel, by decide +kernel⟩
theorem ok_counted {P : Program} {w : World} {K : PySem.W.Frag} {mg : Str → Option Value} {base : Heap} (G : Gd K mg "counted" s_counted) (T : Tx K mg) (O_words_of : OkF P w K mg base 2 "words_of" ["text"] sp_words_of) : OkF P w K mg base 3 "counted" ["document"] sp_counted := by
  refine G.ok (k := 2) sc_counted (fun _ _ _ _ _ _ us hl => match us, hl with | [_], _ => rfl) (fun vs H Q E h => ?_) (fun f cdv A outer s H vs Q E hr h => ?_)
  · unfold sp_counted at h
    repeat (first | (obtain ⟨rfl, h⟩ := h; rfl) | (obtain ⟨_, h⟩ := h))
  have hu := hu_of hr
  refine ⟨_, (pss_cons (psv 1 sc_counted.nd pe_dnewK)
      (pss_cons (ps_for PassesOwn.never rfl (pi_list (pv 0)) (pg_tup rfl (pgs_cons (pgv 2 sc_counted.nd) (pgs_cons (pgv 3 sc_counted.nd) pgs_nil)))
        (pss_cons (psv 4 sc_counted.nd pe_dnewK)
        (pss_cons (psv 5 sc_counted.nd pe_int)
        (pss_cons (ps_for PassesOwn.never rfl (pi_list (pe_fn O_words_of (hr.mono (by decide)) (pa_cons (pv 3) pa_nil))) (pg_tup rfl (pgs_cons (pgv 6 sc_counted.nd) (pgs_cons (pgv 7 sc_counted.nd) (pgs_cons (pgv 8 sc_counted.nd) pgs_nil))))
          (pss_cons (ps_dput hu (pv 4) (pv 6) (pe_op op_cat (pe_dget2 hu (pv 4) (pv 6) (pe_lst pa_nil) (M2.of rfl)) (pe_lst (pa_cons (pv 5) pa_nil))) rfl)
          (pss_one (psaug 5 sc_counted.nd pe_int ip_add))))
        (pss_one (ps_if (pt_cmpR op_gt (pv 5) pe_int (nomark _)) (pss_one (ps_dput hu (pv 1) (pv 2) (pe_tup (pa_cons (pv 5) (pa_cons (pv 4) pa_nil))) rfl)) pss_nil))))))
      (pss_one (ps_ret (pv 1))))), ?_⟩
  obtain ⟨L, a, ds, rfl, hd, hok, hin, hL, k⟩ := h
  refine fun p hp => ?_
  have e1 : Ex H (upd H p (.dK [])) := Ex.new hp
  refine q_forX (H := H) (ex_tups (es := ds) (A := fun p => .str p.1) (B := fun p => .str p.2) (ev_var rfl) hd rfl) e1 (fun Hg i σ H2 => ∃ y2 y3 y4 y5 y6 y7 y8 kvs G, σ = [some (.ref a), some (.ref p), y2, y3, y4, y5, y6, y7, y8] ∧ Ex H H2 ∧ Ex Hg H2 ∧ H2 p = some (.dK kvs) ∧ Dct L kvs (CntR L G (ds.take i)) ∧ Ex G (fr H H2) ∧ G p = none)
    (fun Hg H2 e2 eg => ⟨none, none, none, none, none, none, none, [], fun _ => none, rfl, e1.trans e2, eg, e2 _ _ upd_same, .nil fun w => rfl, (fun _ _ z => nomatch z), rfl⟩) (fun Hg i σ H2 ⟨_, _, _, _, _, _, _, _, _, _, _, e, _⟩ => e) ?_ ?_
  · rintro Hg eg hgn i q σ H2 hi ⟨y2, y3, y4, y5, y6, y7, y8, kvs, G, rfl, e2, e2g, h2, hD, eG, hGp⟩ H3 e3
    obtain ⟨hqL, hqz, hqw, hqv⟩ := hin q (List.mem_of_getElem? hi)
    have e23 := e2.trans e3
    have h3 := e3 _ _ h2
    have eG3 : Ex G (fr H H3) := eG.trans (fr_to e3)
    have hgp : Hg p = none := hgn p (by rw [upd_same]; exact Option.some_ne_none _) hp
    have hH3p : H3 p ≠ none := by rw [h3]; exact Option.some_ne_none _
    -- places
    refine fun d hd3 => ?_
    have e4 : Ex H3 (upd H3 d (.dK [])) := Ex.new hd3
    refine q_asg ev_c fun H5 e5 => ?_
    have h5 : H5 d = some (.dK []) := e5 _ _ upd_same
    have hH5d : H5 d ≠ none := by rw [h5]; exact Option.some_ne_none _
    -- the words
    refine (ev_var (v := .str q.2) rfl) H5 (Ex.refl _) _ fun H5' e5' => ⟨q.2, rfl, hqz, fun wl H6 hwl e6 hwa => ?_⟩
    have e35 : Ex H3 H6 := (e4.trans e5).trans (e5'.trans e6)
    obtain ⟨ts, htl, htp⟩ := hwa
    have htlen := htp.length
    have e6w : Ex (fr H5' H6) H6 := fr_ex
    have hfd : fr H5' H6 d = none := by
      unfold fr
      rw [e5' _ _ h5]
    refine ⟨wl, rfl, ⟨_, sq_of (e6w _ _ htl)⟩, for_it (walk_list (xs := ts.map V.ref)) (fun j σ H7 => ∃ z6 z7 z8 kws G2, σ = [some (.ref a), some (.ref p), some (.str q.1), some (.str q.2), some (.ref d), some (.int (j : Nat)), z6, z7, z8] ∧ Ex H3 H7 ∧ Ex (fr H5' H6) H7 ∧ H7 d = some (.dK kws) ∧ Dct L kws (PlR G2 ((wordsOf q.2).take j)) ∧ Ex G2 (fr H3 H7) ∧ G2 d = none) ?_ ?_ ?_ ?_⟩
    · exact ⟨y6, y7, y8, [], fun _ => none, rfl, e35, e6w, (e5'.trans e6) _ _ h5, .nil fun w => List.not_mem_nil, (fun _ _ z => nomatch z), rfl⟩
    · rintro j σ H7 _ ⟨_, _, _, _, _, _, _, ew, _⟩
      exact sq_of (ew _ _ htl)
    · rintro j x σ H7 H8 hj ⟨z6, z7, z8, kws, G2, rfl, e7, e7w, h7, hD2, eG2, hG2d⟩ ⟨rfl, hx⟩
      obtain ⟨t, ht, rfl⟩ := map_at hx
      obtain ⟨wd, hwd, b, c, hbc⟩ := pd_getL htp ht
      have hwm : wd ∈ wordsOf q.2 := List.mem_of_getElem? hwd
      have hjl : j < (wordsOf q.2).length := (List.getElem?_eq_some_iff.mp hwd).1
      have htk : (wordsOf q.2).take (j + 1) = (wordsOf q.2).take j ++ [wd] := by
        rw [List.take_succ, hwd, Option.toList_some]
      have htj : ((wordsOf q.2).take j).length = j := by
        rw [List.length_take]
        omega
      refine ⟨t, _, rfl, st_of (e7w _ _ hbc), rfl, _, _, rfl, _, _, rfl, _, _, rfl, rfl, ?_⟩
      have hv := hD2.val wd
      have hkl := hD2.len
      have hpl := pos_len ((wordsOf q.2).take j) wd
      have eG27 : Ex G2 H8 := eG2.trans fr_ex
      refine s_dputL (D := _) (xs := nats (posOf ((wordsOf q.2).take j) wd) ++ [.int (j : Nat)]) (w := wd) (kvs := kws) (a := d) (el_getcat (o := valV kws (kS wd)) (ev_var rfl) (ev_var rfl) (DGet.k (k := kS wd) h7) ?_ (by rw [List.length_map]; omega) (ev_var rfl)) (ev_var rfl) (ev_var rfl) h7 (by omega) fun l H9 hl e9 h9 => ?_
      · cases hc : valV kws (kS wd) with
        | none =>
          rw [hc] at hv
          show nats (posOf ((wordsOf q.2).take j) wd) = []
          rw [pos_nil.mpr hv]
          rfl
        | some u =>
          rw [hc] at hv
          obtain ⟨_, l, h10, h11⟩ := hv
          exact ⟨l, h10, eG27 _ _ h11⟩
      · have e39 : Ex H3 H9 := e7.trans e9
        have hG3 : jn G2 H8 H9 d = none := jn_own d (by rw [h7]; exact Option.some_ne_none _) hG2d
        have eG3' : Ex (jn G2 H8 H9) (fr H3 H9) := jn_fr eG2 e7 e9
        refine s_aug (f := fun x y => x + y) (a := (j : Int)) (b := 1) rfl ev_c fun H10 e10 => ⟨some (.str wd), some (.int b), some (.int c), putK kws (kS wd) (.ref l), jn G2 H8 H9, ?_, ?_, ?_, e10 _ _ upd_same, ?_, ?_, hG3⟩
        · rfl
        · exact (e39.mut hd3).trans e10
        · exact ((e7w.trans e9).mut hfd).trans e10
        · rw [htk]
          have ejn : Ex G2 (jn G2 H8 H9) := jn_ex eG27
          refine hD2.put (hqv wd hwm) ⟨List.mem_append_right _ (List.mem_singleton.mpr rfl), l, rfl, ?_⟩ fun u hu hu2 => ?_
          · rw [jn_new hl, h9, ← pos_snoc_len, htj]
          · have hu3 := hu2.mono ejn
            cases hc : valV kws (kS u) with
            | none =>
              rw [hc] at hu3
              intro hm
              rcases List.mem_append.mp hm with z | z
              · exact hu3 z
              · exact hu (List.mem_singleton.mp z)
            | some v =>
              rw [hc] at hu3
              obtain ⟨h12, l2, h13, h14⟩ := hu3
              refine ⟨List.mem_append_left _ h12, l2, h13, ?_⟩
              rw [pos_snoc, if_neg (fun z => hu z.symm), List.append_nil]
              exact h14
        · have q9 : Ex (jn G2 H8 H9) (fr H3 (upd H9 d (.dK (putK kws (kS wd) (.ref l))))) := by
            rw [fr_upd hd3]
            exact eG3'.mut hG3
          exact q9.trans (fr_to e10)
    · rintro σ H7 ⟨z6, z7, z8, kws, G2, rfl, e7, e7w, h7, hD2, eG2, hG2d⟩
      have hnl : (ts.map V.ref).length = (wordsOf q.2).length := by rw [List.length_map, htlen]
      rw [hnl, List.take_length] at hD2
      rw [hnl]
      have hnn : ∀ x ∈ ds.take i, x.1 ≠ q.1 := fun x hx => doc_apart hok hi hx
      have hno : fw (ds.take i) q.1 = [] := fw_none hnn
      have hfw : ∀ f, fw (ds.take (i + 1)) f = if q.1 = f then wordsOf q.2 else fw (ds.take i) f := fun f => by
        rw [List.take_succ, hi, Option.toList_some]
        exact fw_snoc hnn f
      have hpl2 : PlAt L (fr H3 H7) d (wordsOf q.2) := ⟨kws, (fr_at hd3).trans h7, hD2.imp fun w _ z => z.mono eG2⟩
      refine s_when (b := decide (wordsOf q.2 ≠ [])) (et_is (et_test (ev_op (ev_var rfl) ev_c rv_I0)) ?_) (fun hb H8 e8 => ?_) fun hb H8 e8 => ?_
      · refine decide_eq_decide.mpr ?_
        constructor
        · intro z1 z2
          rw [z2] at z1
          exact absurd z1 (by simp)
        · intro z1
          have := List.length_pos_iff.mpr z1
          omega
      · have hb2 : wordsOf q.2 ≠ [] := of_decide_eq_true hb
        have h8 : H8 p = some (.dK kvs) := (e7.trans e8) _ _ h3
        refine s_dputU (D := _) (a := p) (kvs := kvs) (w := q.1) (eu_tup (ea_cons (ev_var rfl) (ea_cons (ev_var rfl) ea_nil)) (by simp)) (ev_var rfl) (ev_var rfl) h8 (by have := hD.len; omega) fun t H9 ht e9 h9 => ?_
        have e39 : Ex H3 H9 := (e7.trans e8).trans e9
        have hGn : jn G H3 H9 p = none := jn_own p hH3p hGp
        have eGn : Ex (jn G H3 H9) (fr H H9) := jn_fr eG3 e23 e39
        refine ⟨_, _, _, _, _, _, _, putK kvs (kS q.1) (.ref t), jn G H3 H9, rfl, (e23.trans e39).mut hp, ((e2g.trans e3).trans e39).mut hgp, upd_same, ?_, ?_, hGn⟩
        · have eGj : Ex G (jn G H3 H9) := jn_ex (eG3.trans fr_ex)
          refine hD.put hqL ?_ fun u hu hu2 => ?_
          · have e10 := hfw q.1
            rw [if_pos rfl] at e10
            show fw (ds.take (i + 1)) q.1 ≠ [] ∧ _
            rw [e10]
            refine ⟨hb2, t, d, rfl, ?_, hpl2.mono ((fr_to (e8.trans e9)).trans fr_jn)⟩
            rw [jn_new (fresh_back (e7.trans e8) ht)]
            exact h9
          · have hu3 := hu2.mono eGj
            have e10 := hfw u
            rw [if_neg (fun z => hu z.symm)] at e10
            cases hc : valV kvs (kS u) with
            | none =>
              rw [hc] at hu3
              exact e10.trans hu3
            | some v =>
              rw [hc] at hu3
              show fw (ds.take (i + 1)) u ≠ [] ∧ _
              rw [e10]
              exact hu3
        · rw [fr_upd hp]
          exact eGn.mut hGn
      · have hb2 : wordsOf q.2 = [] := by simpa using hb
        refine ⟨_, _, _, _, _, _, _, kvs, G, rfl, (e23.trans e7).trans e8, ((e2g.trans e3).trans e7).trans e8, (e7.trans e8) _ _ h3, hD.imp fun u _ hu2 => ?_, eG3.trans (fr_to (e7.trans e8)), hGp⟩
        have e10 := hfw u
        have e11 : fw (ds.take (i + 1)) u = fw (ds.take i) u := by
          rw [e10]
          by_cases hqu : q.1 = u
          · subst hqu
            rw [if_pos rfl, hb2]
            exact hno.symm
          · rw [if_neg hqu]
        cases hc : valV kvs (kS u) with
        | none =>
          rw [hc] at hu2
          exact e11.trans hu2
        | some v =>
          rw [hc] at hu2
          show fw (ds.take (i + 1)) u ≠ [] ∧ _
          rw [e11]
          exact hu2
  · rintro Hg eg σ H2 ⟨y2, y3, y4, y5, y6, y7, y8, kvs, G, rfl, e2, e2g, h2, hD, eG, hGp⟩
    rw [List.take_length] at hD
    refine s_ret (ev_var rfl) fun H3 e3 => k p H3 hp (e2.trans e3) ⟨kvs, (fr_at hp).trans (e3 _ _ h2), hD.imp fun w _ z => z.mono fun b o hb => by
      rw [del_ne (own_ne hb hGp)]
      exact fr_to e3 _ _ (eG _ _ hb)⟩
end Fc
/-! Postings, tables, comprehensions that make new things. -/
namespace Fc
open PySem PySem.Spec PyProof.Rows L2 Evl
/-! ### heaps -/
theorem jn_mono {C Hs H H' : Hp} (e : Ex H H') : Ex (jn C Hs H) (jn C Hs H') := by
  intro a o h
  unfold jn at h ⊢
  cases hs : Hs a with
  | none =>
    rw [hs] at h
    exact e _ _ h
  | some u =>
    rw [hs] at h
    exact h
theorem jn_upd {C Hs H : Hp} {a : Addr} {o : HO} (h : Hs a ≠ none) : jn C Hs (upd H a o) = jn C Hs H := by
  funext b
  unfold jn
  cases hs : Hs b with
  | none =>
    rw [upd_ne]
    rintro rfl
    exact h hs
  | some u => rfl
theorem jn_old {C Hs H : Hp} {a : Addr} (h : Hs a ≠ none) : jn C Hs H a = C a := by
  unfold jn
  cases hs : Hs a with
  | none => exact absurd hs h
  | some u => rfl
/-- a part of H stays where all but a of a heap does -/
theorem ex_del {C H H' : Hp} {a : Addr} (e : Ex C H) (h : C a = none) (e2 : Ex (del H a) H') : Ex C H' := by
  intro b o hb
  refine e2 _ _ ?_
  rw [del_ne]
  · exact e _ _ hb
  · rintro rfl
    rw [h] at hb
    cases hb
theorem ex_jn {C Hs H' : Hp} (e : Ex C H') : Ex (jn C Hs H') H' := jn_to e
theorem ns {α : Type} {o : Option α} {x : α} (h : o = some x) : o ≠ none := by rw [h]; exact Option.some_ne_none x
/-! ### postings -/
abbrev Post := List (Nat × List Nat)
def PostAt (H : Hp) (l : Addr) (ps : Post) : Prop := ∃ ts : List Addr, H l = some (.lst (ts.map V.ref)) ∧ Paired (fun t (x : Nat × List Nat) => ∃ q, H t = some (.tup [.int (x.1 : Nat), .ref q]) ∧ H q = some (.lst (nats x.2))) ts ps
theorem PostAt.mono {H H2 : Hp} {l : Addr} {ps : Post} (h : PostAt H l ps) (e : Ex H H2) : PostAt H2 l ps := by
  obtain ⟨ts, h1, h2⟩ := h
  exact ⟨ts, e _ _ h1, Paired.mapP h2 fun _ _ ⟨q, q1, q2⟩ => ⟨q, e _ _ q1, e _ _ q2⟩⟩
theorem PostAt.del {H : Hp} {l d : Addr} {ps : Post} {kvs : List (Key × V)} (h : PostAt H l ps) (hd : H d = some (.dK kvs)) : PostAt (del H d) l ps := by
  have k : ∀ {b : Addr} {o : HO}, H b = some o → (∀ kvs, o ≠ .dK kvs) → Fc.del H d b = some o := fun {b o} hb hn => by
    rw [del_ne]
    · exact hb
    · rintro rfl
      rw [hd] at hb
      cases hb
      exact hn _ rfl
  obtain ⟨ts, h1, h2⟩ := h
  exact ⟨ts, k h1 (fun _ z => nomatch z), Paired.mapP h2 fun _ _ ⟨q, q1, q2⟩ => ⟨q, k q1 (fun _ z => nomatch z), k q2 (fun _ z => nomatch z)⟩⟩
theorem PostAt.off {H : Hp} {l d : Addr} {ps : Post} (h : PostAt H l ps) (h1 : ∀ xs, H d ≠ some (.lst xs)) (h2 : ∀ xs, H d ≠ some (.tup xs)) : PostAt (Fc.del H d) l ps := by
  have kl : ∀ {b : Addr} {xs}, H b = some (.lst xs) → Fc.del H d b = some (.lst xs) := fun {b xs} hb => by
    rw [del_ne]
    · exact hb
    · rintro rfl
      exact h1 _ hb
  have kt : ∀ {b : Addr} {xs}, H b = some (.tup xs) → Fc.del H d b = some (.tup xs) := fun {b xs} hb => by
    rw [del_ne]
    · exact hb
    · rintro rfl
      exact h2 _ hb
  obtain ⟨ts, g1, g2⟩ := h
  exact ⟨ts, kl g1, Paired.mapP g2 fun _ _ ⟨q, q1, q2⟩ => ⟨q, kt q1, kl q2⟩⟩
theorem pd_es {H : Hp} : ∀ {ts : List Addr} {ps : Post}, Paired (fun t (x : Nat × List Nat) => ∃ q, H t = some (.tup [.int (x.1 : Nat), .ref q]) ∧ H q = some (.lst (nats x.2))) ts ps →
    ∃ es : List (Nat × Addr × List Nat), es.map (fun e => (e.1, e.2.2)) = ps ∧ Paired (fun t (e : Nat × Addr × List Nat) => H t = some (.tup [.int (e.1 : Nat), .ref e.2.1])) ts es ∧ ∀ e ∈ es, H e.2.1 = some (.lst (nats e.2.2))
  | _, _, .nil => ⟨[], rfl, .nil, fun _ h => absurd h List.not_mem_nil⟩
  | _, _, @Paired.cons _ _ _ t x _ _ ⟨q, q1, q2⟩ r => by
    obtain ⟨es, h1, h2, h3⟩ := pd_es r
    refine ⟨(x.1, q, x.2) :: es, by rw [List.map_cons, h1], .cons q1 h2, fun e he => ?_⟩
    rcases List.mem_cons.mp he with z | z
    · subst z
      exact q2
    · exact h3 e z
theorem PostAt.es {H : Hp} {l : Addr} {ps : Post} (h : PostAt H l ps) : ∃ es : List (Nat × Addr × List Nat), es.map (fun e => (e.1, e.2.2)) = ps ∧ TupsAt H l es (fun e => .int (e.1 : Nat)) (fun e => .ref e.2.1) ∧ ∀ e ∈ es, H e.2.1 = some (.lst (nats e.2.2)) := by
  obtain ⟨ts, h1, h2⟩ := h
  obtain ⟨es, g1, g2, g3⟩ := pd_es h2
  exact ⟨es, g1, ⟨ts, h1, g2⟩, g3⟩
theorem PostAt.nil {H : Hp} {l : Addr} (h : H l = some (.lst [])) : PostAt H l [] := ⟨[], h, .nil⟩
/-! ### a comprehension whose members are new -/
theorem lc_new {K : PySem.W.Frag} {σ : L2.St} {H H0 : Hp} {te : TE} {ti : TI} {g : TG} {t : TT} {vs : List Nat} {α : Type} {es : List α} {st : α → L2.St → L2.St} {R : Hp → V → α → Prop} (fb : α → Bool) (hR : ∀ {G G2 : Hp} {v : V} {x : α}, R G v x → Ex G G2 → R G2 v x)
    (hI : EvX ti g σ H es st) (hz : es.length ≤ 40000) (hw : ∀ x, wipe (st x (wipe σ vs)) vs = wipe σ vs) (ht : ∀ x ∈ es, ∀ H1, Ex H H1 → EvT t (st x (wipe σ vs)) H1 (fb x))
    (he : ∀ x ∈ es, ∀ H1, Ex H H1 → fb x = true → ∀ Q : VK, (∀ v H2, Ex H1 H2 → R (fr H1 H2) v x → Q v H2) → te (st x (wipe σ vs)) H1 Q) (e : Ex H H0) {Q : VK}
    (q : ∀ p H2 (xs : List V), H0 p = none → Ex H0 H2 → fr H0 H2 p = some (.lst xs) → Paired (R (fr H0 H2)) xs (es.filter fb) → Q (.ref p) H2) : tLc ti g t te vs σ H0 Q := by
  refine hI H0 e _ fun J H1 Hg n Gd Y w hn e1 eHg eg _ hG hY D hD => ?_
  refine lc_it w (fun i H2 => ∃ G xs, Ex H0 H2 ∧ Ex Hg H2 ∧ H2 D = some (.lst xs) ∧ Ex G (fr H0 H2) ∧ G D = none ∧ Paired (R G) xs ((es.take i).filter fb)) ?_ (fun _ _ _ ⟨_, _, _, eg2, _⟩ => hG _ eg2) (fun i v H2 H3 hi ⟨G, xs, p1, p2, p3, p4, p5, p6⟩ y => ?_) fun H2 ⟨G, xs, p1, p2, p3, p4, p5, p6⟩ => ?_
  · exact ⟨fun _ => none, [], e1.trans (Ex.new hD), eg.trans (Ex.new hD), upd_same, (fun _ _ z => nomatch z), rfl, .nil⟩
  · obtain ⟨x, hx⟩ : ∃ x, es[i]? = some x := ⟨es[i]'(by omega), List.getElem?_eq_getElem (by omega)⟩
    have hil : i < es.length := by omega
    have hm : x ∈ es := List.mem_of_getElem? hx
    have hgD : Hg D = none := fresh_back eg hD
    have h0D : H0 D = none := fresh_back e1 hD
    have htk : ∀ b : Bool, fb x = b → (es.take (i + 1)).filter fb = (es.take i).filter fb ++ if b = true then [x] else [] := by
      intro b hb
      rw [List.take_succ, hx, Option.toList_some, List.filter_append, List.filter_cons, hb]
      cases b <;> rfl
    refine hY i x v H2 H3 hx p2 y _ _ fun H4 e4 => ⟨hw x, ?_⟩
    have e04 := p1.trans e4
    refine ht x hm H4 (e.trans e04) H4 (Ex.refl _) _ fun H5 e5 => ?_
    cases hfb : fb x with
    | false =>
      refine ⟨G, xs, e04.trans e5, (p2.trans e4).trans e5, (e4.trans e5) _ _ p3, p4.trans (fr_to (e4.trans e5)), p5, ?_⟩
      rw [htk false hfb]
      simpa using p6
    | true =>
      refine he x hm H5 (e.trans (e04.trans e5)) hfb _ fun u H6 e6 hu => ?_
      have h6 : H6 D = some (.lst xs) := ((e4.trans e5).trans e6) _ _ p3
      have hlen : xs.length ≤ 40000 := by
        have a1 := p6.length
        have a2 := List.length_filter_le fb (es.take i)
        rw [List.length_take] at a2
        omega
      have h5D : H5 D ≠ none := ns ((e4.trans e5) _ _ p3)
      have p4' : Ex G (fr H0 H5) := p4.trans (fr_to (e4.trans e5))
      have hGD : jn G H5 H6 D = none := jn_own D h5D p5
      refine ⟨xs, h6, sizeLine_lt (by omega), jn G H5 H6, xs ++ [u], ((e04.trans e5).trans e6).mut h0D, (((p2.trans e4).trans e5).trans e6).mut hgD, upd_same, ?_, hGD, ?_⟩
      · rw [fr_upd h0D]
        exact (jn_fr p4' (e04.trans e5) e6).mut hGD
      · rw [htk true hfb]
        exact Paired.snoc (Paired.mapP p6 fun a b r => hR r (jn_ex (p4'.trans fr_ex))) (hR hu fr_jn)
  · rw [hn, List.take_length] at p6
    exact q D H2 xs (fresh_back e1 hD) p1 ((fr_at (fresh_back e1 hD)).trans p3) (Paired.mapP p6 fun a b r => hR r p4)
/-! ### tables -/
abbrev Tab := Str → Str → Post
def InR (C : Hp) (F : Str → Post) (w : Str) : Option V → Prop
  | none => F w = []
  | some v => ∃ l, v = .ref l ∧ PostAt C l (F w)
theorem InR.mono {C C2 : Hp} {F : Str → Post} {w : Str} {o : Option V} (h : InR C F w o) (e : Ex C C2) : InR C2 F w o := by
  cases o with
  | none => exact h
  | some v =>
    obtain ⟨l, h1, h2⟩ := h
    exact ⟨l, h1, h2.mono e⟩
theorem InR.eq {C : Hp} {F F2 : Str → Post} {w : Str} {o : Option V} (h : InR C F w o) (e : F w = F2 w) : InR C F2 w o := by
  cases o with
  | none => exact e.symm.trans h
  | some v =>
    obtain ⟨l, h1, h2⟩ := h
    rw [e] at h2
    exact ⟨l, h1, h2⟩
/-- a field's words at v, where C holds the postings and H the words; F is kept free of them -/
def TabR (L : List Str) (C F H : Hp) (T : Tab) (f : Str) : Option V → Prop
  | none => ∀ w, T f w = []
  | some v => ∃ a kws, v = .ref a ∧ H a = some (.dK kws) ∧ C a = none ∧ F a = none ∧ Dct L kws (InR C (T f))
/-- a table that grows -/
def TabAt (L : List Str) (C F H : Hp) (t : Addr) (kvs : List (Key × V)) (T : Tab) : Prop := H t = some (.dK kvs) ∧ C t = none ∧ F t = none ∧ Dct L kvs (TabR L C F H T) ∧ (∀ f, valV kvs (kS f) ≠ some (.ref t)) ∧ ∀ f f2 v, valV kvs (kS f) = some v → valV kvs (kS f2) = some v → f = f2
/-- a table that stays -/
def TiR (L : List Str) (C : Hp) (T : Tab) (f : Str) : Option V → Prop
  | none => ∀ w, T f w = []
  | some v => ∃ a kws, v = .ref a ∧ C a = some (.dK kws) ∧ Dct L kws (InR C (T f))
def TiAt (L : List Str) (C : Hp) (t : Addr) (T : Tab) : Prop := ∃ kvs, C t = some (.dK kvs) ∧ Dct L kvs (TiR L C T)
theorem TiR.mono {L : List Str} {C C2 : Hp} {T : Tab} {f : Str} {o : Option V} (h : TiR L C T f o) (e : Ex C C2) : TiR L C2 T f o := by
  cases o with
  | none => exact h
  | some v =>
    obtain ⟨a, kws, h1, h2, h3⟩ := h
    exact ⟨a, kws, h1, e _ _ h2, h3.imp fun w _ z => z.mono e⟩
theorem TiAt.mono {L : List Str} {C C2 : Hp} {t : Addr} {T : Tab} (h : TiAt L C t T) (e : Ex C C2) : TiAt L C2 t T := by
  obtain ⟨kvs, h1, h2⟩ := h
  exact ⟨kvs, e _ _ h1, h2.imp fun w _ z => z.mono e⟩
theorem InR.off {C : Hp} {F : Str → Post} {w : Str} {d : Addr} {o : Option V} (h : InR C F w o) (h1 : ∀ xs, C d ≠ some (.lst xs)) (h2 : ∀ xs, C d ≠ some (.tup xs)) : InR (del C d) F w o := by
  cases o with
  | none => exact h
  | some v =>
    obtain ⟨l, g1, g2⟩ := h
    exact ⟨l, g1, g2.off h1 h2⟩
theorem TabR.imp {L : List Str} {C F H C2 F2 H2 : Hp} {T : Tab} {f : Str} {o : Option V} (h : TabR L C F H T f o) (h2 : ∀ a kws, o = some (.ref a) → H a = some (.dK kws) → C a = none → F a = none → Dct L kws (InR C (T f)) → H2 a = some (.dK kws) ∧ C2 a = none ∧ F2 a = none ∧ Dct L kws (InR C2 (T f))) : TabR L C2 F2 H2 T f o := by
  cases o with
  | none => exact h
  | some v =>
    obtain ⟨a, kws, rfl, g2, g3, g4, g5⟩ := h
    obtain ⟨q1, q2, q3, q4⟩ := h2 a kws rfl g2 g3 g4 g5
    exact ⟨a, kws, rfl, q1, q2, q3, q4⟩
theorem TabAt.ex {L : List Str} {C F H H2 : Hp} {t : Addr} {kvs : List (Key × V)} {T : Tab} (h : TabAt L C F H t kvs T) (e : Ex H H2) : TabAt L C F H2 t kvs T := by
  obtain ⟨h1, h2, h3, h4, h5, h6⟩ := h
  exact ⟨e _ _ h1, h2, h3, h4.imp fun f _ z => z.imp fun a kws _ g2 g3 g4 g5 => ⟨e _ _ g2, g3, g4, g5⟩, h5, h6⟩
theorem TabAt.gr {L : List Str} {C C2 F H : Hp} {t : Addr} {kvs : List (Key × V)} {T : Tab} (h : TabAt L C F H t kvs T) (e : Ex C C2) (n : ∀ x, H x ≠ none → C2 x = C x) : TabAt L C2 F H t kvs T := by
  obtain ⟨h1, h2, h3, h4, h5, h6⟩ := h
  exact ⟨h1, by rw [n _ (ns h1)]; exact h2, h3, h4.imp fun f _ z => z.imp fun a kws _ g2 g3 g4 g5 => ⟨g2, by rw [n _ (ns g2)]; exact g3, g4, g5.imp fun w _ y => y.mono e⟩, h5, h6⟩
theorem nodup_take {α : Type} {ks : List α} (hn : ks.Nodup) {j : Nat} {w : α} (h : ks[j]? = some w) : w ∉ ks.take j := fun z => by
  obtain ⟨n, hn2⟩ := List.getElem?_of_mem z
  rw [List.getElem?_take] at hn2
  split at hn2
  · rename_i hnj
    obtain ⟨g1, g2⟩ := List.getElem?_eq_some_iff.mp hn2
    obtain ⟨g3, g4⟩ := List.getElem?_eq_some_iff.mp h
    have g5 := List.pairwise_iff_getElem.mp hn n j g1 g3 hnj
    rw [g2, g4] at g5
    exact g5 rfl
  · cases hn2
theorem fw_in {L : List Str} {ds : List (Str × Str)} (h : DocIn L ds) (f : Str) : (fw ds f).length ≤ 60 ∧ (fw ds f ≠ [] → f ∈ L) ∧ ∀ w ∈ fw ds f, w ∈ L := by
  unfold fw
  cases hc : ds.find? (fun p => decide (p.1 = f)) with
  | none => exact ⟨Nat.zero_le _, fun z => absurd rfl z, fun w hw => absurd hw List.not_mem_nil⟩
  | some p =>
    have hm := List.mem_of_find?_eq_some hc
    have hf := List.find?_some hc
    obtain ⟨h1, _, h3, h4⟩ := h p hm
    refine ⟨h3, fun _ => ?_, h4⟩
    rw [← of_decide_eq_true hf]
    exact h1
theorem tab_set {L : List Str} {C F H : Hp} {t a : Addr} {kvs kws : List (Key × V)} {T : Tab} {f : Str} (h : TabAt L C F H t kvs T) (ha : H a = some (.dK kws)) (hd : Dct L kws (InR C (T f))) (hC : C a = none) (hF : F a = none) (hat : a ≠ t) (hf : f ∈ L)
    (hi : ∀ g, g ≠ f → valV kvs (kS g) ≠ some (.ref a)) : TabAt L C F (upd H t (.dK (putK kvs (kS f) (.ref a)))) t (putK kvs (kS f) (.ref a)) T ∧ valV (putK kvs (kS f) (.ref a)) (kS f) = some (.ref a) := by
  obtain ⟨h1, h2, h3, h4, h5, h6⟩ := h
  have hv : ∀ g, valV (putK kvs (kS f) (.ref a)) (kS g) = if g = f then some (.ref a) else valV kvs (kS g) := fun g => by
    rw [valV_put]
    by_cases e : g = f
    · subst e
      rw [if_pos rfl, if_pos rfl]
    · rw [if_neg (fun z => e (Sum.inr.inj z)), if_neg e]
  refine ⟨⟨upd_same, h2, h3, h4.put hf ⟨a, kws, rfl, ?_, hC, hF, hd⟩ fun u hu z => z.imp fun b kw eb g2 g3 g4 g5 => ⟨?_, g3, g4, g5⟩, fun g => ?_, fun g g2 v e1 e2 => ?_⟩, by rw [hv, if_pos rfl]⟩
  · rw [upd_ne hat]
    exact ha
  · rw [upd_ne]
    · exact g2
    · rintro rfl
      exact h5 _ eb
  · rw [hv]
    split
    · intro z
      exact hat (V.ref.inj (Option.some.inj z))
    · exact h5 g
  · rw [hv] at e1 e2
    by_cases c1 : g = f
    · by_cases c2 : g2 = f
      · rw [c1, c2]
      · rw [if_pos c1] at e1
        rw [if_neg c2] at e2
        cases e1
        exact absurd e2 (hi g2 c2)
    · rw [if_neg c1] at e1
      by_cases c2 : g2 = f
      · rw [if_pos c2] at e2
        cases e2
        exact absurd e1 (hi g c1)
      · rw [if_neg c2] at e2
        exact h6 g g2 v e1 e2
theorem del_upd {H : Hp} {d : Addr} {o : HO} : Ex (del H d) (upd H d o) := by
  intro b u hb
  by_cases c : b = d
  · subst c
    rw [del_at] at hb
    cases hb
  · rw [upd_ne c]
    exact del_ex _ _ hb
/-- another thing of the ghost changes -/
theorem TabAt.swap {L : List Str} {C F H : Hp} {t d : Addr} {kvs : List (Key × V)} {T : Tab} {o : HO} (h : TabAt L C F H t kvs T) (hd : C d ≠ none) (h1 : ∀ xs, C d ≠ some (.lst xs)) (h2 : ∀ xs, C d ≠ some (.tup xs)) : TabAt L (upd C d o) F (upd H d o) t kvs T := by
  obtain ⟨g1, g2, g3, g4, g5, g6⟩ := h
  have htd : t ≠ d := fun z => hd (by rw [← z]; exact g2)
  refine ⟨by rw [upd_ne htd]; exact g1, by rw [upd_ne htd]; exact g2, g3, g4.imp fun f _ z => z.imp fun a kws _ q2 q3 q4 q5 => ?_, g5, g6⟩
  have had : a ≠ d := fun z => hd (by rw [← z]; exact q3)
  exact ⟨by rw [upd_ne had]; exact q2, by rw [upd_ne had]; exact q3, q4, q5.imp fun w _ y => (y.off h1 h2).mono del_upd⟩
theorem fresh_del {Hl H' : Hp} {a p : Addr} (e : Ex (del Hl a) H') (ha : H' a ≠ none) (hp : H' p = none) : Hl p = none := by
  have h := fresh_back e hp
  rw [del_ne] at h
  · exact h
  · rintro rfl
    exact ha hp
/-- a table behind a change of the words at f alone -/
theorem tab_in {L : List Str} {C C2 F F2 H H2 : Hp} {t a : Addr} {kvs kws : List (Key × V)} {T T2 : Tab} {f : Str} (h : TabAt L C F H t kvs T) (hv : valV kvs (kS f) = some (.ref a)) (hk : Ex (del H a) H2) (eC : Ex C C2) (nC : ∀ x, H x ≠ none → C2 x = C x) (nF : ∀ x, H x ≠ none → F2 x = F x)
    (hT : ∀ g, g ≠ f → T2 g = T g) (h2 : H2 a = some (.dK kws)) (hd : Dct L kws (InR C2 (T2 f))) : TabAt L C2 F2 H2 t kvs T2 := by
  obtain ⟨h1, g2, g3, h4, h5, h6⟩ := h
  have keep : ∀ {b o}, H b = some o → b ≠ a → H2 b = some o := fun {b o} hb hne => hk _ _ (by rw [del_ne hne]; exact hb)
  have hat : t ≠ a := fun z => h5 f (by rw [hv, z])
  refine ⟨keep h1 hat, by rw [nC _ (ns h1)]; exact g2, by rw [nF _ (ns h1)]; exact g3, ⟨h4.nd, h4.keys, fun g => ?_⟩, h5, h6⟩
  have z := h4.val g
  by_cases e : g = f
  · subst e
    rw [hv] at z ⊢
    obtain ⟨b, kw, eb, q2, q3, q4, q5⟩ := z
    cases eb
    exact ⟨a, kws, rfl, h2, by rw [nC _ (ns q2)]; exact q3, by rw [nF _ (ns q2)]; exact q4, hd⟩
  · cases hc : valV kvs (kS g) with
    | none =>
      rw [hc] at z
      intro w
      rw [hT g e]
      exact z w
    | some v =>
      rw [hc] at z
      obtain ⟨b, kw, rfl, q2, q3, q4, q5⟩ := z
      have hne : b ≠ a := fun z2 => e (h6 g f _ hc (by rw [hv, z2]))
      refine ⟨b, kw, rfl, keep q2 hne, by rw [nC _ (ns q2)]; exact q3, by rw [nF _ (ns q2)]; exact q4, ?_⟩
      rw [hT g e]
      exact q5.imp fun w _ y => y.mono eC
theorem TabAt.done {L : List Str} {C F H : Hp} {t : Addr} {kvs : List (Key × V)} {T : Tab} (h : TabAt L C F H t kvs T) (eC : Ex C (fr F H)) : TiAt L (fr F H) t T := by
  obtain ⟨h1, h2, h3, h4, _⟩ := h
  refine ⟨kvs, (fr_at h3).trans h1, h4.imp fun f _ z => ?_⟩
  cases e : valV kvs (kS f) with
  | none =>
    rw [e] at z
    exact z
  | some v =>
    rw [e] at z
    obtain ⟨a, kws, g1, g2, g3, g4, g5⟩ := z
    exact ⟨a, kws, g1, (fr_at g4).trans g2, g5.imp fun w _ z => z.mono eC⟩
section
variable {K : PySem.W.Frag} {σ : L2.St} {H : Hp} {td ty : TE} {y v : V} {a : Addr}
/-- d.get(k, {}), there -/
theorem ev_dgetN (hd : Ev td σ H (.ref a)) (hy : Ev ty σ H y) (h : DGet H a y (some v)) : Ev (tDGet2 td ty tDNewK) σ H v :=
  fun H1 e Q q => hd H1 e _ fun H2 e2 => ⟨a, rfl, isD_get (dget_ex h (e.trans e2)), hy H2 (e.trans e2) _ fun H3 e3 => fun p hp => ⟨some v, dget_ex h (((e.trans e2).trans e3).trans (Ex.new hp)), q _ ((e2.trans e3).trans (Ex.new hp))⟩⟩
/-- d.get(k, {}), not there -/
theorem ed_dgetN (hd : Ev td σ H (.ref a)) (hy : Ev ty σ H y) (h : DGet H a y none) {H1 : Hp} (e : Ex H H1) {Q : VK} (q : ∀ p H2, H1 p = none → Ex H1 H2 → H2 p = some (.dK []) → Q (.ref p) H2) : tDGet2 td ty tDNewK σ H1 Q :=
  hd H1 e _ fun H2 e2 => ⟨a, rfl, isD_get (dget_ex h (e.trans e2)), hy H2 (e.trans e2) _ fun H3 e3 => fun p hp => ⟨none, dget_ex h (((e.trans e2).trans e3).trans (Ex.new hp)), q p _ (fresh_back (e2.trans e3) hp) ((e2.trans e3).trans (Ex.new hp)) upd_same⟩⟩
theorem q_asgQ {i : Nat} {tz : TS} {D : Ends} {te : TE} {C : V → Hp → Prop} (hh : ∀ Q : VK, (∀ v H2, C v H2 → Q v H2) → te σ H Q) (k : ∀ v H2, C v H2 → tz D (σ.set i (some v)) H2) : tSeq (tAsg te (gName i)) tz D σ H := hh _ fun v H2 c => k v H2 c
theorem q_asgN {i : Nat} {tz : TS} {D : Ends} (hd : Ev td σ H (.ref a)) (hy : Ev ty σ H y) (h : DGet H a y none) (k : ∀ p H2, H p = none → Ex H H2 → H2 p = some (.dK []) → tz D (σ.set i (some (.ref p))) H2) : tSeq (tAsg (tDGet2 td ty tDNewK) (gName i)) tz D σ H :=
  q_asgQ (C := fun v H2 => ∃ p, v = .ref p ∧ H p = none ∧ Ex H H2 ∧ H2 p = some (.dK [])) (fun Q q => ed_dgetN hd hy h (Ex.refl _) fun p H2 hp e h2 => q _ _ ⟨p, rfl, hp, e, h2⟩) fun v H2 ⟨p, hv, hp, e, h2⟩ => by
    subst hv
    exact k p H2 hp e h2
variable {ta tv : TE} {D : Ends} {tz : TS}
theorem s_fldL {a C dx : Addr} {fs : List (Str × V)} {f : Str} {xs : List V} (hv : EvL tv σ H xs) (ha : Ev ta σ H (.ref a)) (h : H a = some (.ins C dx fs)) (c : Cls K C) (n : NoAttr K C f) (hl : fs.length < 1000) (k : ∀ p H1, H p = none → Ex H H1 → H1 p = some (.lst xs) → D.nx σ (upd H1 a (.ins C dx (putF f (.ref p) fs)))) : sFld K ta tv f D σ H :=
  hv H (Ex.refl _) _ fun p H1 hp e1 h1 => ha H1 e1 _ fun H2 e2 => ⟨a, C, dx, fs, rfl, (e1.trans e2) _ _ h, c, n, hl, k p H2 hp (e1.trans e2) (e2 _ _ h1)⟩
theorem s_fldV {a C dx : Addr} {fs : List (Str × V)} {f : Str} (hv : Ev tv σ H v) (ha : Ev ta σ H (.ref a)) (h : H a = some (.ins C dx fs)) (c : Cls K C) (n : NoAttr K C f) (hl : fs.length < 1000) (k : ∀ H1, Ex H H1 → D.nx σ (upd H1 a (.ins C dx (putF f v fs)))) : sFld K ta tv f D σ H :=
  hv H (Ex.refl _) _ fun H1 e1 => ha H1 e1 _ fun H2 e2 => ⟨a, C, dx, fs, rfl, (e1.trans e2) _ _ h, c, n, hl, k H2 (e1.trans e2)⟩
theorem s_fldK {a C dx : Addr} {fs : List (Str × V)} {f : Str} (ha : ∀ p, H p = none → Ev ta σ (upd H p (.dK [])) (.ref a)) (h : H a = some (.ins C dx fs)) (c : Cls K C) (n : NoAttr K C f) (hl : fs.length < 1000) (k : ∀ p H1, H p = none → Ex H H1 → H1 p = some (.dK []) → D.nx σ (upd H1 a (.ins C dx (putF f (.ref p) fs)))) : sFld K ta tDNewK f D σ H :=
  fun p hp => ha p hp _ (Ex.refl _) _ fun H2 e2 => ⟨a, C, dx, fs, rfl, ((Ex.new hp).trans e2) _ _ h, c, n, hl, k p H2 hp ((Ex.new hp).trans e2) (e2 _ _ upd_same)⟩
theorem s_fldT {a C dx : Addr} {fs : List (Str × V)} {f : Str} (ha : ∀ p, H p = none → Ev ta σ (upd H p (.dT [])) (.ref a)) (h : H a = some (.ins C dx fs)) (c : Cls K C) (n : NoAttr K C f) (hl : fs.length < 1000) (k : ∀ p H1, H p = none → Ex H H1 → H1 p = some (.dT []) → D.nx σ (upd H1 a (.ins C dx (putF f (.ref p) fs)))) : sFld K ta tDNewT f D σ H :=
  fun p hp => ha p hp _ (Ex.refl _) _ fun H2 e2 => ⟨a, C, dx, fs, rfl, ((Ex.new hp).trans e2) _ _ h, c, n, hl, k p H2 hp ((Ex.new hp).trans e2) (e2 _ _ upd_same)⟩
/-- a for over it; more is known of Hg at the start -/
theorem s_forY {ti : TI} {g : TG} {α : Type} {es : List α} {tu : TS} {Hs : Hp} {st : α → L2.St → L2.St} (hI : EvX ti g σ H es st) (e0 : Ex H Hs) (Pv : Hp → Nat → L2.St → Hp → Prop) (h0 : ∀ Hg H1, Ex H Hg → (∀ q, Hs q ≠ none → H q = none → Hg q = none) → Ex Hs H1 → Ex Hg H1 → Pv Hg 0 σ H1) (hE : ∀ Hg i σ' H1, Pv Hg i σ' H1 → Ex Hg H1)
    (hs : ∀ Hg, Ex H Hg → (∀ q, Hs q ≠ none → H q = none → Hg q = none) → ∀ i x σ' H1, es[i]? = some x → Pv Hg i σ' H1 → ∀ H2, Ex H1 H2 → tu { D with nx := Pv Hg (i + 1), ct := Pv Hg (i + 1), bk := D.nx } (st x σ') H2)
    (hd : ∀ Hg, Ex H Hg → ∀ σ' H1, Pv Hg es.length σ' H1 → D.nx σ' H1) : tFor ti g tu D σ Hs := by
  refine hI Hs e0 _ fun J H1 Hg n Gd Y w hn e1 eg1 eg2 hgn hG hY => ?_
  subst hn
  exact for_it w (Pv Hg) (h0 Hg H1 eg1 hgn e1 eg2) (fun i σ' H2 _ p => hG _ (hE _ _ _ _ p)) (fun i v σ' H2 H3 hi p y => hY i es[i] v H2 H3 (List.getElem?_eq_getElem hi) (hE _ _ _ _ p) y _ _ fun H4 e4 => hs Hg eg1 hgn i _ σ' H2 (List.getElem?_eq_getElem hi) p H4 e4) fun σ' H2 p => hd Hg eg1 σ' H2 p
end
end Fc
/-! Pieces: what they take in. -/
namespace Fc
open PySem PySem.Spec PyProof.Rows L2 Evl
abbrev MkT := Nat × Addr × List (Str × Str)
def MksAt (H : Hp) (a : Addr) (ms : List MkT) : Prop := TupsAt H a ms (fun m => .int (m.1 : Nat)) (fun m => .ref m.2.1) ∧ ∀ m ∈ ms, DocAt H m.2.1 m.2.2
theorem MksAt.mono {H H2 : Hp} {a : Addr} {ms : List MkT} (h : MksAt H a ms) (e : Ex H H2) : MksAt H2 a ms := ⟨h.1.mono e, fun m hm => (h.2 m hm).mono e⟩
def MksOk (L : List Str) (ms : List MkT) : Prop := ms.Pairwise (fun m n => m.1 < n.1) ∧ ms.length ≤ 60 ∧ ∀ m ∈ ms, DocOk m.2.2 ∧ DocIn L m.2.2 ∧ m.1 < 60
def sp_look_at_makes : Sp := fun vs H Q _ => ∃ (L : List Str) (a : Addr) (ms : List MkT), vs = [.ref a] ∧ MksAt H a ms ∧ MksOk L ms ∧ RetV .non H Q
theorem sc_look_at_makes : FnScope ["makes", "last", "place", "make", "document"] ["makes"] (defScope s_look_at_makes) := ⟨rfl, rfl, rfl, by decide +kernel, rfl, by decide +kernel, by decide +kernel⟩
theorem ok_look_at_makes {P : Program} {w : World} {K : PySem.W.Frag} {mg : Str → Option Value} {base : Heap} (G : Gd K mg "look_at_makes" s_look_at_makes) (T : Tx K mg) (O_look_at_document : OkF P w K mg base 2 "look_at_document" ["document"] sp_look_at_document) : OkF P w K mg base 3 "look_at_makes" ["makes"] sp_look_at_makes := by
  refine G.ok (k := 2) sc_look_at_makes (fun _ _ _ _ _ _ us hl => match us, hl with | [_], _ => rfl) (fun vs H Q E h => ?_) (fun f cdv A outer s H vs Q E hr h => ?_)
  · unfold sp_look_at_makes at h
    repeat (first | (obtain ⟨rfl, h⟩ := h; rfl) | (obtain ⟨_, h⟩ := h))
  have hu := hu_of hr
  refine ⟨_, (pss_cons (psv 1 sc_look_at_makes.nd (pe_un un_neg pe_int))
      (pss_one (ps_for PassesOwn.never rfl (pi_enum rfl T.n_enumerate (pa_cons (pv 0) pa_nil)) (pg_tup rfl (pgs_cons (pgv 2 sc_look_at_makes.nd) (pgs_cons (pg_tup rfl (pgs_cons (pgv 3 sc_look_at_makes.nd) (pgs_cons (pgv 4 sc_look_at_makes.nd) pgs_nil))) pgs_nil)))
        (pss_cons (ps_if (pt_cmpR op_le (pv 3) (pv 1) (nomark _)) (pss_one ps_never) pss_nil)
        (pss_cons (psv 1 sc_look_at_makes.nd (pv 3))
        (pss_one (ps_expr (pe_fn O_look_at_document (hr.mono (by decide)) (pa_cons (pv 4) pa_nil))))))))), ?_⟩
  obtain ⟨L, a, ms, rfl, ⟨⟨ts, hta, htp⟩, hdoc⟩, ⟨hpw, hlen, hok⟩, k⟩ := h
  refine q_asg (ev_un ev_c ru_neg) fun H1 e1 => ?_
  refine s_forI (ei_enum (a := a) (xs := ts.map V.ref) (ev_var rfl) (sq_of (e1 _ _ hta))) (fun i σ H2 => ∃ (l : Int) (y2 y3 y4 : Option V), σ = [some (.ref a), some (.int l), y2, y3, y4] ∧ Ex H H2 ∧ ∀ j m, i ≤ j → ms[j]? = some m → l < (m.1 : Int)) (fun H2 e2 => ⟨-1, none, none, none, rfl, e1.trans e2, fun _ _ _ _ => by omega⟩) ?_ ?_ ?_
  · rintro i σ H2 _ ⟨_, _, _, _, _, e2, _⟩
    exact sq_of (e2 _ _ hta)
  · rintro i x σ H2 H3 hi ⟨l, y2, y3, y4, rfl, e2, hl⟩ ⟨Tt, u, v, rfl, hT, rfl, hu, hv⟩
    cases hu
    obtain ⟨t, ht, rfl⟩ := map_at hv
    obtain ⟨m, hm, hmt⟩ := pd_getL htp ht
    have hmm := List.mem_of_getElem? hm
    have e3 : Ex H (upd H2 Tt (.tup [.int (i : Nat), .ref t])) := ex_new e2 hT
    refine ⟨Tt, _, rfl, st_of upd_same, rfl, _, _, rfl, _, _, rfl, ⟨t, _, rfl, st_of (e3 _ _ hmt), rfl, _, _, rfl, _, _, rfl, rfl, rfl, ?_⟩⟩
    refine q_when (b := false) (et_is (et_test (ev_op (ev_var rfl) (ev_var rfl) rv_I0)) ?_) (fun z => nomatch z) fun _ H4 e4 => ?_
    · have := hl i m (Nat.le_refl _) hm
      exact decide_eq_false (by omega)
    · refine q_asg (ev_var rfl) fun H5 e5 => ?_
      refine s_drop (v := .non) (ev_call (ea_cons (ev_var rfl) ea_nil) fun H6 e6 Q6 q6 E6 => ⟨m.2.1, m.2.2, rfl, (hdoc m hmm).mono (((e3.trans e4).trans e5).trans e6), (hok m hmm).1, q6⟩) fun H6 e6 => ⟨m.1, some (.int (i : Nat)), some (.int (m.1 : Nat)), some (.ref m.2.1), rfl, ((e3.trans e4).trans e5).trans e6, fun j n hj hn => ?_⟩
      obtain ⟨g1, g2⟩ := List.getElem?_eq_some_iff.mp hm
      obtain ⟨g3, g4⟩ := List.getElem?_eq_some_iff.mp hn
      have g5 := List.pairwise_iff_getElem.mp hpw i j g1 g3 (by omega)
      rw [g2, g4] at g5
      omega
  · rintro σ H2 ⟨l, y2, y3, y4, rfl, e2, _⟩
    exact k H2 e2
/-! ### postings copied -/
def CpR (G : Hp) (v : V) (x : Nat × Addr × List Nat) : Prop := ∃ t q, v = .ref t ∧ G t = some (.tup [.int (x.1 : Nat), .ref q]) ∧ G q = some (.lst (nats x.2.2))
theorem CpR.mono {G G2 : Hp} {v : V} {x : Nat × Addr × List Nat} (h : CpR G v x) (e : Ex G G2) : CpR G2 v x := by
  obtain ⟨t, q, h1, h2, h3⟩ := h
  exact ⟨t, q, h1, e _ _ h2, e _ _ h3⟩
theorem CpR.post {G : Hp} : ∀ {vs : List V} {es : List (Nat × Addr × List Nat)}, Paired (CpR G) vs es → ∃ ts : List Addr, vs = ts.map V.ref ∧ Paired (fun t (x : Nat × List Nat) => ∃ q, G t = some (.tup [.int (x.1 : Nat), .ref q]) ∧ G q = some (.lst (nats x.2))) ts (es.map fun e => (e.1, e.2.2))
  | _, _, .nil => ⟨[], rfl, .nil⟩
  | _, _, .cons ⟨t, q, h1, h2, h3⟩ r => by
    obtain ⟨ts, e, p⟩ := CpR.post r
    subst h1 e
    exact ⟨t :: ts, rfl, .cons ⟨q, h2, h3⟩ p⟩
def RetP (ps : Post) (H : Hp) (Q : VK) : Prop := ∀ p H2, H p = none → Ex H H2 → PostAt (fr H H2) p ps → Q (.ref p) H2
def sp_copied_postings : Sp := fun vs H Q _ => ∃ (a : Addr) (ps : Post), vs = [.ref a] ∧ PostAt H a ps ∧ ps.length ≤ 1000 ∧ RetP ps H Q
theorem sc_copied_postings : FnScope ["postings", "make", "places"] ["postings"] (defScope s_copied_postings) := ⟨rfl, rfl, rfl, by decide +kernel, rfl, by decide +kernel, by decide +kernel⟩
theorem ok_copied_postings {P : Program} {w : World} {K : PySem.W.Frag} {mg : Str → Option Value} {base : Heap} (G : Gd K mg "copied_postings" s_copied_postings) (T : Tx K mg) : OkF P w K mg base 1 "copied_postings" ["postings"] sp_copied_postings := by
  refine G.ok (k := 0) sc_copied_postings (fun _ _ _ _ _ _ us hl => match us, hl with | [_], _ => rfl) (fun vs H Q E h => ?_) (fun f cdv A outer s H vs Q E hr h => ?_)
  · unfold sp_copied_postings at h
    repeat (first | (obtain ⟨rfl, h⟩ := h; rfl) | (obtain ⟨_, h⟩ := h))
  have hu := hu_of hr
  refine ⟨_, (pss_one (ps_ret (pe_lc (own := [("make", 1), ("places", 2)]) (g := gTup K 2 (gCons (gName 1) (gCons (gName 2) (gNil)))) rfl sc_copied_postings.nd (pi_list (pv 0)) (blkOk_by (own := [("make", 1), ("places", 2)]) (N := ["postings", "make", "places"]) (sc := defScope s_copied_postings) (by decide +kernel)) (fun _ _ _ _ _ => (pg_tup rfl (pgs_cons (pgv 1 sc_copied_postings.nd) (pgs_cons (pgv 2 sc_copied_postings.nd) pgs_nil)))) (fun _ _ _ _ _ => pts_nil) (fun _ _ _ _ _ => (pe_tup (pa_cons (pv 1) (pa_cons (pe_callTy (T := "list") (listOfK K) rfl T.n_list (by decide +kernel) (pa_cons (pv 2) pa_nil)) pa_nil))))))), ?_⟩
  obtain ⟨a, ps, rfl, ha, hz, k⟩ := h
  obtain ⟨es, hes, ht, hq⟩ := ha.es
  have hel : es.length ≤ 1000 := by
    rw [← hes, List.length_map] at hz
    exact hz
  refine lc_new (K := K) (R := CpR) (fun _ => true) (fun h e => h.mono e) (ex_tups (es := es) (A := fun e => .int (e.1 : Nat)) (B := fun e => .ref e.2.1) (ev_var rfl) ht rfl) (by omega) (fun x => rfl) (fun _ _ H1 _ H2 _ Q2 q2 => q2 H2 (Ex.refl _)) (fun x hx H1 e1 _ Q1 q1 => ?_) (Ex.refl _) fun p H2 xs hp e2 h2 hpd => ?_
  · refine ⟨_, rfl, _, rfl, x.2.1, _, rfl, .inl (sq_of (e1 _ _ (hq x hx))), fun l hl => ⟨sizeLine_of (by simp), fun t ht2 => ?_⟩⟩
    have e14 : Ex H1 (upd H1 l (.lst (nats x.2.2))) := Ex.new hl
    have e15 : Ex H1 (upd (upd H1 l (.lst (nats x.2.2))) t (.tup [.int (x.1 : Nat), .ref l])) := e14.trans (Ex.new ht2)
    refine q1 (.ref t) _ e15 ⟨t, l, rfl, ?_, ?_⟩
    · rw [fr_at (fresh_back e14 ht2)]
      exact upd_same
    · rw [fr_at hl]
      exact (Ex.new ht2) _ _ upd_same
  · rw [List.filter_eq_self.mpr (fun _ _ => rfl)] at hpd
    obtain ⟨ts, e, q⟩ := CpR.post hpd
    rw [hes] at q
    rw [e] at h2
    exact k p H2 hp e2 ⟨ts, h2, q⟩
/-! ### a piece takes in the places of a make's words -/
/-- the table with (m, places) behind at f and those words of ws that are in ks -/
def addT (T : Tab) (f : Str) (m : Nat) (ws ks : List Str) : Tab := fun g w => if g = f ∧ w ∈ ks then T f w ++ [(m, posOf ws w)] else T g w
abbrev PieceO (K : PySem.W.Frag) (dx hm lg tb : Addr) : HO := .ins (adPiece K) dx [("held_makes", .ref hm), ("lengths", .ref lg), ("table", .ref tb)]
def sp_Piece_take_in (K : PySem.W.Frag) : Sp := fun vs H Q _ => ∃ (L : List Str) (C F : Hp) (s dx hm lg tb pl : Addr) (kvs : List (Key × V)) (T : Tab) (f : Str) (m : Nat) (ws : List Str), vs = [.ref s, .str f, .int (m : Nat), .ref pl] ∧ L.length ≤ 60 ∧ f ∈ L ∧ ws.length ≤ 60 ∧
  (∀ f w, (T f w).length ≤ 60) ∧ C s = some (PieceO K dx hm lg tb) ∧ Ex C (fr F H) ∧ Ex F H ∧ PlAt L C pl ws ∧ TabAt L C F H tb kvs T ∧
  ∀ H' C' kvs', Ex F H' → Ex C C' → Ex C' (fr F H') → (∀ a, H a ≠ none → C' a = C a) → TabAt L C' F H' tb kvs' (addT T f m ws ws) → Q .non H'
def addF (F : Str → Post) (m : Nat) (ws ks : List Str) : Str → Post := fun w => if w ∈ ks then F w ++ [(m, posOf ws w)] else F w
theorem sc_Piece_take_in : FnScope ["self", "field", "make", "places", "words", "word"] ["self", "field", "make", "places"] (defScope s_Piece_take_in) := ⟨rfl, rfl, rfl, by decide +kernel, rfl, by decide +kernel, by decide +kernel⟩
theorem ok_Piece_take_in {P : Program} {w : World} {K : PySem.W.Frag} {mg : Str → Option Value} {base : Heap} (G : Gm K (adPiece K) "take_in" "Piece.take_in" s_Piece_take_in) (T : Tx K mg) : OkM P w K mg base 1 (adPiece K) "take_in" ["self", "field", "make", "places"] (sp_Piece_take_in K) := by
  refine G.ok (k := 0) sc_Piece_take_in (fun _ _ _ _ _ _ us hl => match us, hl with | [_, _, _, _], _ => rfl) (fun vs H Q E h => ?_) (fun f cdv A outer s H vs Q E hr h => ?_)
  · unfold sp_Piece_take_in at h
    repeat (first | (obtain ⟨rfl, h⟩ := h; rfl) | (obtain ⟨_, h⟩ := h))
  have hu := hu_of hr
  refine ⟨_, (pss_cons (psv 4 sc_Piece_take_in.nd (pe_dget2 hu (pe_fldK K (pv 0)) (pv 1) pe_dnewK (M2.of rfl)))
      (pss_cons (ps_dput hu (pe_fldK K (pv 0)) (pv 1) (pv 4) rfl)
      (pss_one (ps_lock (ps_for PassesOwn.never rfl (pi_keysM (pv 3)) (pgv 5 sc_Piece_take_in.nd)
        (pss_one (ps_dput hu (pv 4) (pv 5) (pe_op op_cat (pe_dget2 hu (pv 4) (pv 5) (pe_lst pa_nil) (M2.of rfl)) (pe_lst (pa_cons (pe_tup (pa_cons (pv 2) (pa_cons (pe_dget hu (pv 3) (pv 5) (fun _ _ => rfl)) pa_nil))) pa_nil))) rfl))))))), ?_⟩
  obtain ⟨L, C, F, sA, dx, hm, lg, tb, pl, kvs, T9, fl, m, ws, rfl, hL, hfL, hws, hTl, hsC, eC, eF, ⟨kpl, hpl, hDp⟩, hT, k⟩ := h
  have eCH : Ex C H := eC.trans fr_ex
  have hs := eCH _ _ hsC
  obtain ⟨ht1, ht2, ht3, ht4, ht5, ht6⟩ := id hT
  have hkl := ht4.len
  have htbE : ∀ (σ9 : L2.St) H9, σ9[0]? = some (some (.ref sA)) → Ex H H9 → Ev (tFld K (tVar 0) "table") σ9 H9 (.ref tb) := fun σ9 H9 h0 e9 => ev_fld (ev_var h0) (e9 _ _ hs) T.cPiece T.aPiece_table rfl
  -- behind the words' dict a: the rest
  have rest : ∀ (a : Addr) (kws : List (Key × V)) (H1 : Hp), Ex H H1 → H1 a = some (.dK kws) → Dct L kws (InR C (T9 fl)) → C a = none → F a = none → a ≠ tb → (∀ g, g ≠ fl → valV kvs (kS g) ≠ some (.ref a)) →
      tSeq (sDPut (tFld K (tVar 0) "table") (tVar 1) (tVar 4)) (tLock (tFor (iKeysM (tVar 3)) (gName 5) (sDPut (tVar 4) (tVar 5) (tOp rCat (tDGet2 (tVar 4) (tVar 5) (tLst tNil)) (tLst (tCons (tTup (tCons (tVar 2) (tCons (tDGet (tVar 3) (tVar 5)) tNil))) tNil)))))) { nx := fun _ H' => Q .non H', rt := Q } [some (.ref sA), some (.str fl), some (.int (m : Nat)), some (.ref pl), some (.ref a), none] H1 := by
    intro a kws H1 e1 ha hD hCa hFa hat hinj
    refine s_dput (D := { nx := _, rt := _ }) (a := tb) (kvs := kvs) (w := fl) (ev_var rfl) (htbE _ _ rfl e1) (ev_var rfl) (e1 _ _ ht1) (by omega) fun H2 e2 => ?_
    obtain ⟨hT2, hv2⟩ := tab_set (hT.ex (e1.trans e2)) (e2 _ _ ha) hD hCa hFa hat hfL hinj
    generalize hHs : upd H2 tb (.dK (putK kvs (kS fl) (.ref a))) = Hs at hT2 ⊢
    have e12 := e1.trans e2
    have eCs : Ex C Hs := by
      rw [← hHs]
      exact (eCH.trans e12).mut ht2
    have eFs : Ex F Hs := by
      rw [← hHs]
      exact (eF.trans e12).mut ht3
    have hFpl : F pl = none := by
      have q := eC _ _ hpl
      unfold fr at q
      cases hq : F pl with
      | none => rfl
      | some u =>
        rw [hq] at q
        cases q
    have has : Hs a = some (.dK kws) := by
      rw [← hHs, upd_ne hat]
      exact e2 _ _ ha
    have hpa : pl ≠ a := own_ne hpl hCa
    have dom : ∀ x, Hs x = none → H x = none := fun x hx => by
      rw [← hHs] at hx
      by_cases c : x = tb
      · subst c
        rw [upd_same] at hx
        cases hx
      · rw [upd_ne c] at hx
        exact fresh_back e12 hx
    refine ⟨pl, .dK kpl, eCs _ _ hpl, trivial, fun od => ?_⟩
    generalize hHl : upd Hs pl (.frz od (.dK kpl)) = Hl
    have hlpl : Hl pl = some (.frz od (.dK kpl)) := by
      rw [← hHl]
      exact upd_same
    have hla : Hl a = some (.dK kws) := by
      rw [← hHl, upd_ne (fun z => hpa z.symm)]
      exact has
    have eC0 : Ex (del C pl) Hl := by
      rw [← hHl]
      exact (del_ex.trans eCs).mut del_at
    have eFl : Ex F Hl := by
      rw [← hHl]
      exact eFs.mut hFpl
    have doml : ∀ x, Hl x = none → Hs x = none := fun x hx => by
      rw [← hHl] at hx
      by_cases c : x = pl
      · subst c
        rw [upd_same] at hx
        cases hx
      · rw [upd_ne c] at hx
        exact hx
    obtain ⟨ks, hks, hnd, _, hkm⟩ := hDp.names
    have hkl2 : ks.length = kpl.length := by
      have := congrArg List.length hks
      rwa [List.length_map, List.length_map, eq_comm] at this
    have hD0 : Dct L kws (InR (del C pl) (T9 fl)) := hD.imp fun w _ z => by
      cases hc : valV kws (kS w) with
      | none =>
        rw [hc] at z
        exact z
      | some v =>
        rw [hc] at z
        obtain ⟨l, h8, h9⟩ := z
        exact ⟨l, h8, h9.del hpl⟩
    have hC0a : del C pl a = none := by
      rw [del_ne (fun z => hpa z.symm)]
      exact hCa
    refine ⟨_, rfl, pl, od, kpl, rfl, hlpl, for_it (walk_keys (kvs := kpl)) (fun j σ H' => ∃ (y : Option V) (kw2 : List (Key × V)), σ = [some (.ref sA), some (.str fl), some (.int (m : Nat)), some (.ref pl), some (.ref a), y] ∧ Ex (del Hl a) H' ∧ H' a = some (.dK kw2) ∧ Dct L kw2 (InR (jn (del C pl) Hl H') (addF (T9 fl) m ws (ks.take j)))) ?_ ?_ ?_ ?_⟩
    · refine ⟨none, kws, rfl, del_ex, hla, hD0.imp fun w _ z => (z.mono (jn_ex eC0)).eq ?_⟩
      unfold addF
      rw [if_neg (by simp)]
    · rintro j σ H' _ ⟨_, _, _, e', _⟩
      exact e' _ _ (by rw [del_ne hpa]; exact hlpl)
    · rintro j x σ H' H'' hj ⟨y, kw2, rfl, e', ha', hD'⟩ ⟨rfl, kk, v, hkv, rfl⟩
      have hpl' : H'' pl = some (.frz od (.dK kpl)) := e' _ _ (by rw [del_ne hpa]; exact hlpl)
      have hja : j < ks.length := by omega
      have hkj : kk = kS ks[j] := by
        have q : (kpl.map Prod.fst)[j]? = (ks.map kS)[j]? := by rw [hks]
        rw [List.getElem?_map, List.getElem?_map, hkv, List.getElem?_eq_getElem hja] at q
        exact Option.some.inj q
      generalize hw : ks[j] = w at hkj
      have hwj : ks[j]? = some w := by rw [List.getElem?_eq_getElem hja, hw]
      subst hkj
      have hvv := valV_mem hDp.nd (List.mem_of_getElem? hkv)
      have hpr := hDp.val w
      rw [hvv] at hpr
      obtain ⟨hwm, l, rfl, hl⟩ := hpr
      have hwn : w ∉ ks.take j := fun z => by
        obtain ⟨n, hn⟩ := List.getElem?_of_mem z
        rw [List.getElem?_take] at hn
        split at hn
        · rename_i hnj
          obtain ⟨g1, g2⟩ := List.getElem?_eq_some_iff.mp hn
          have g5 := List.pairwise_iff_getElem.mp hnd n j g1 hja hnj
          rw [g2, hw] at g5
          exact g5 rfl
        · cases hn
      have hl0 : del C pl l = some (.lst (nats (posOf ws w))) := by
        rw [del_ne]
        · exact hl
        · rintro rfl
          rw [hpl] at hl
          cases hl
      have ha0 : Hl a ≠ none := ns hla
      have eC' : Ex (del C pl) H'' := ex_del eC0 hC0a e'
      have ej : Ex (jn (del C pl) Hl H'') H'' := jn_to eC'
      have hold := hD'.val w
      have hFw : addF (T9 fl) m ws (ks.take j) w = T9 fl w := if_neg hwn
      obtain ⟨ts, hts, htp⟩ : ∃ ts : List Addr, OldL H'' (ts.map V.ref) (valV kw2 (kS w)) ∧ Paired (fun t (x : Nat × List Nat) => ∃ q, jn (del C pl) Hl H'' t = some (.tup [.int (x.1 : Nat), .ref q]) ∧ jn (del C pl) Hl H'' q = some (.lst (nats x.2))) ts (T9 fl w) := by
        cases hc : valV kw2 (kS w) with
        | none =>
          rw [hc] at hold
          have hold2 : addF (T9 fl) m ws (ks.take j) w = [] := hold
          rw [hFw] at hold2
          exact ⟨[], rfl, by rw [hold2]; exact .nil⟩
        | some u =>
          rw [hc] at hold
          obtain ⟨l2, rfl, ts, h11, h12⟩ := hold
          rw [hFw] at h12
          exact ⟨ts, ⟨l2, rfl, ej _ _ h11⟩, h12⟩
      have htl := htp.length
      have hTw := hTl fl w
      show sDPut (tVar 4) (tVar 5) _ _ [some (.ref sA), some (.str fl), some (.int (m : Nat)), some (.ref pl), some (.ref a), some (.str w)] H''
      refine el_getcatU (a := a) (y := .str w) (o := valV kw2 (kS w)) (xs := ts.map V.ref) (us := [.int (m : Nat), .ref l]) (ev_var rfl) (ev_var rfl) (DGet.k (k := kS w) ha') hts (by rw [List.length_map]; omega)
        (eu_tup (ea_cons (ev_var rfl) (ea_cons (ev_dget (a := pl) (y := .str w) (ev_var rfl) (ev_var rfl) (.inl ⟨kpl, kS w, .inr ⟨od, hpl'⟩, rfl, hvv.symm⟩)) ea_nil)) (by simp)) (Ex.refl _) fun p t H1' hp ht e1' hp1 ht1' => ?_
      have hlp := fresh_del e' (ns ha') hp
      have hlt := fresh_del e' (ns ha') ht
      refine ⟨_, rfl, _, rfl, a, _, rfl, .inl ⟨kw2, kS w, e1' _ _ ha', rfl, sizeLine_lt (by have := hD'.len; omega), rfl⟩, some (.str w), putK kw2 (kS w) (.ref p), rfl, (e'.trans e1').mut del_at, upd_same, ?_⟩
      rw [jn_upd ha0]
      have ejj : Ex (jn (del C pl) Hl H'') (jn (del C pl) Hl H1') := jn_mono e1'
      have hwL : w ∈ L := by
        obtain ⟨z, hz, hz2⟩ := hDp.keys _ (List.mem_of_getElem? hkv)
        rw [Sum.inr.inj hz2]
        exact hz
      refine hD'.put hwL ⟨p, rfl, ts ++ [t], ?_, ?_⟩ fun u hu z => (z.mono ejj).eq ?_
      · rw [jn_new hlp, hp1, List.map_append]
        rfl
      · have e9 : addF (T9 fl) m ws (ks.take (j + 1)) w = T9 fl w ++ [(m, posOf ws w)] := if_pos (by rw [List.take_succ, hwj]; simp)
        rw [e9]
        refine Paired.snoc (Paired.mapP htp fun b x ⟨q, q1, q2⟩ => ⟨q, ejj _ _ q1, ejj _ _ q2⟩) ⟨l, ?_, ?_⟩
        · rw [jn_new hlt]
          exact ht1'
        · exact jn_ex eC0 _ _ hl0
      · unfold addF
        have e9 : u ∈ ks.take (j + 1) ↔ u ∈ ks.take j := by
          rw [List.take_succ, hwj]
          simp [hu]
        by_cases c : u ∈ ks.take j
        · rw [if_pos c, if_pos (e9.mpr c)]
        · rw [if_neg c, if_neg (fun z => c (e9.mp z))]
    · rintro σ H' ⟨y, kw2, rfl, e', ha', hD'⟩
      rw [← hkl2, List.take_length] at hD'
      have hpl' : H' pl = some (.frz od (.dK kpl)) := e' _ _ (by rw [del_ne hpa]; exact hlpl)
      refine ⟨hpl', ?_⟩
      have eC' : Ex (del C pl) H' := ex_del eC0 hC0a e'
      have eF' : Ex F (upd H' pl (.dK kpl)) := (ex_del eFl hFa e').mut hFpl
      have eC2 : Ex C (upd H' pl (.dK kpl)) := by
        intro b o hb
        by_cases c : b = pl
        · subst c
          rw [upd_same, ← hpl]
          exact hb
        · rw [upd_ne c]
          exact eC' _ _ (by rw [del_ne c]; exact hb)
      have eCj : Ex C (del (jn C Hs (upd H' pl (.dK kpl))) a) := by
        intro b o hb
        rw [del_ne (own_ne hb hCa)]
        exact jn_ex eCs _ _ hb
      have keep : Ex (del Hs a) (upd H' pl (.dK kpl)) := by
        intro b o hb
        by_cases c : b = pl
        · subst c
          rw [del_ne hpa, eCs _ _ hpl] at hb
          rw [upd_same]
          exact hb
        · rw [upd_ne c]
          refine e' _ _ ?_
          have hba : b ≠ a := fun z => by
            rw [z, del_at] at hb
            cases hb
          rw [del_ne hba] at hb
          rw [del_ne hba, ← hHl, upd_ne c]
          exact hb
      have nC2 : ∀ x, Hs x ≠ none → del (jn C Hs (upd H' pl (.dK kpl))) a x = C x := fun x hx => by
        by_cases c : x = a
        · subst c
          rw [del_at, hCa]
        · rw [del_ne c, jn_old hx]
      have nC : ∀ x, H x ≠ none → del (jn C Hs (upd H' pl (.dK kpl))) a x = C x := fun x hx => nC2 x fun z => hx (dom x z)
      refine k _ (del (jn C Hs (upd H' pl (.dK kpl))) a) (putK kvs (kS fl) (.ref a)) eF' eCj ?_ nC ?_
      · intro b o hb
        have hba : b ≠ a := fun z => by
          rw [z, del_at] at hb
          cases hb
        rw [del_ne hba] at hb
        by_cases c : Hs b = none
        · rw [jn_new c] at hb
          rw [fr_at (fresh_back eFs c)]
          exact hb
        · rw [jn_old c] at hb
          have hFb : F b = none := by
            have q := eC _ _ hb
            unfold fr at q
            cases hq : F b with
            | none => rfl
            | some u =>
              rw [hq] at q
              cases q
          rw [fr_at hFb]
          exact eC2 _ _ hb
      · refine tab_in hT2 hv2 keep eCj nC2 (fun _ _ => rfl) (fun g hg => ?_) (kws := kw2) ?_ ?_
        · funext w
          unfold addT
          rw [if_neg (fun z => hg z.1)]
        · rw [upd_ne (fun z => hpa z.symm)]
          exact ha'
        · refine hD'.imp fun w _ z => (z.mono ?_).eq ?_
          · intro b o hb
            by_cases c : Hl b = none
            · rw [jn_new c] at hb
              rw [del_ne (own_ne hla c).symm, jn_new (doml b c), upd_ne (own_ne hlpl c).symm]
              exact hb
            · rw [jn_old c] at hb
              have hb2 := del_ex _ _ hb
              rw [del_ne (own_ne hb2 hCa), jn_old (ns (eCs _ _ hb2))]
              exact hb2
          · unfold addF addT
            have e9 : w ∈ ks ↔ w ∈ ws := by
              rw [hkm w]
              have := hDp.val w
              cases hc : valV kpl (kS w) with
              | none =>
                rw [hc] at this
                have h2 : w ∉ ws := this
                simpa using h2
              | some v =>
                rw [hc] at this
                have h2 : w ∈ ws := this.1
                simpa using h2
            by_cases c : w ∈ ws
            · rw [if_pos (e9.mpr c), if_pos ⟨rfl, c⟩]
            · rw [if_neg (fun z => c (e9.mp z)), if_neg (fun z => c z.2)]
  have hv := ht4.val fl
  cases hc : valV kvs (kS fl) with
  | some v =>
    rw [hc] at hv
    obtain ⟨a, kws, rfl, q2, q3, q4, q5⟩ := hv
    refine q_asg (v := .ref a) (ev_dgetN (a := tb) (y := .str fl) (htbE _ _ rfl (Ex.refl _)) (ev_var rfl) ?_) fun H1 e1 => rest a kws H1 e1 (e1 _ _ q2) q5 q3 q4 (fun z => ht5 fl (by rw [hc, z])) fun g hg z => hg (ht6 g fl _ z hc)
    rw [← hc]
    exact DGet.k (k := kS fl) ht1
  | none =>
    rw [hc] at hv
    have hg : DGet H tb (.str fl) none := by
      rw [← hc]
      exact DGet.k (k := kS fl) ht1
    refine q_asgN (a := tb) (y := .str fl) (htbE _ _ rfl (Ex.refl _)) (ev_var rfl) hg fun a H1 ha e1 h1 => rest a [] H1 e1 h1 (.nil fun w => hv w) (fresh_back eCH ha) (fresh_back eF ha) (own_ne ht1 ha).symm fun g _ z => ?_
    have := ht4.val g
    rw [z] at this
    obtain ⟨b, kw, eb, g2, _⟩ := this
    cases eb
    rw [ha] at g2
    cases g2
end Fc
/-! Pieces: how they are made. -/
namespace Fc
open PySem PySem.Spec PyProof.Rows L2 Evl
abbrev Doc := List (Str × Str)
/-- the postings of makes -/
def tabOf (ms : List (Nat × Doc)) : Tab := fun f w => ms.filterMap fun m => if w ∈ fw m.2 f then some (m.1, posOf (fw m.2 f) w) else none
theorem tabOf_snoc (ms : List (Nat × Doc)) (m : Nat × Doc) (f w : Str) : tabOf (ms ++ [m]) f w = if w ∈ fw m.2 f then tabOf ms f w ++ [(m.1, posOf (fw m.2 f) w)] else tabOf ms f w := by
  unfold tabOf
  rw [List.filterMap_append]
  by_cases h : w ∈ fw m.2 f
  · rw [if_pos h]
    simp [h]
  · rw [if_neg h]
    simp [h]
theorem tabOf_len (ms : List (Nat × Doc)) (f w : Str) : (tabOf ms f w).length ≤ ms.length := by
  unfold tabOf
  exact List.length_filterMap_le _ _
def md (m : MkT) : Nat × Doc := (m.1, m.2.2)
def LenOk (n : Nat) (lk : List (List Key × V)) : Prop := (∀ k v, valV lk k = some v → ∃ i : Nat, v = .int (i : Nat)) ∧ lk.length ≤ n
/-- a piece made -/
def PieceAt (K : PySem.W.Frag) (L : List Str) (C : Hp) (s : Addr) (mk : List Nat) (T : Tab) : Prop := ∃ dx hm lg tb lk, C s = some (PieceO K dx hm lg tb) ∧ C hm = some (.lst (nats mk)) ∧ C lg = some (.dT lk) ∧ LenOk 90000 lk ∧ TiAt L C tb T
theorem PieceAt.mono {K : PySem.W.Frag} {L : List Str} {C C2 : Hp} {s : Addr} {mk : List Nat} {T : Tab} (h : PieceAt K L C s mk T) (e : Ex C C2) : PieceAt K L C2 s mk T := by
  obtain ⟨dx, hm, lg, tb, lk, h1, h2, h3, h4, h5⟩ := h
  exact ⟨dx, hm, lg, tb, lk, e _ _ h1, e _ _ h2, e _ _ h3, h4, h5.mono e⟩
def sp_Piece_init (K : PySem.W.Frag) : Sp := fun vs H Q _ => ∃ (L : List Str) (F : Hp) (s dx a : Addr) (ms : List MkT), vs = [.ref s, .ref a] ∧ L.length ≤ 60 ∧ Ex F H ∧ F s = none ∧ H s = some (.ins (adPiece K) dx []) ∧ MksAt F a ms ∧ MksOk L ms ∧
  ∀ H', Ex F H' → PieceAt K L (fr F H') s (ms.map (·.1)) (tabOf (ms.map md)) → Q .non H'
/-- fields of a make taken in so far -/
def partT (T : Tab) (m : Nat) (d : Doc) (ks : List Str) : Tab := fun f w => if f ∈ ks ∧ w ∈ fw d f then T f w ++ [(m, posOf (fw d f) w)] else T f w
theorem partT_snoc (T : Tab) (m : Nat) (d : Doc) {ks : List Str} {f : Str} (h : f ∉ ks) : addT (partT T m d ks) f m (fw d f) (fw d f) = partT T m d (ks ++ [f]) := by
  funext g w
  unfold addT partT
  by_cases c : g = f
  · subst c
    by_cases c2 : w ∈ fw d g
    · rw [if_pos ⟨rfl, c2⟩, if_neg (fun z => h z.1), if_pos ⟨by simp, c2⟩]
    · rw [if_neg (fun z => c2 z.2), if_neg (fun z => c2 z.2), if_neg (fun z => c2 z.2)]
  · rw [if_neg (fun z => c z.1)]
    have e : g ∈ ks ++ [f] ↔ g ∈ ks := by simp [c]
    by_cases c2 : g ∈ ks ∧ w ∈ fw d g
    · rw [if_pos c2, if_pos ⟨e.mpr c2.1, c2.2⟩]
    · rw [if_neg c2, if_neg (fun z => c2 ⟨e.mp z.1, z.2⟩)]
theorem sc_Piece_init : FnScope ["self", "makes", "make", "document", "field", "many", "places"] ["self", "makes"] (defScope s_Piece_init) := ⟨rfl, rfl, rfl, by decide +kernel, rfl, by decide +kernel, by decide +kernel⟩
theorem ok_Piece_init {P : Program} {w : World} {K : PySem.W.Frag} {mg : Str → Option Value} {base : Heap} (G : Gc K mg (adPiece K) "Piece" "Piece.__init__" s_Piece_init) (T : Tx K mg) (O_look_at_makes : OkF P w K mg base 3 "look_at_makes" ["makes"] sp_look_at_makes) (O_counted : OkF P w K mg base 3 "counted" ["document"] sp_counted) (O_Piece_take_in : OkM P w K mg base 1 (adPiece K) "take_in" ["self", "field", "make", "places"] (sp_Piece_take_in K)) : OkC P w K mg base 4 (adPiece K) "Piece" ["self", "makes"] (sp_Piece_init K) := by
  refine G.ok (k := 3) sc_Piece_init (fun _ _ _ _ _ _ us hl => match us, hl with | [_, _], _ => rfl) (fun vs H Q E h => ?_) (fun f cdv A outer s H vs Q E hr h => ?_)
  · unfold sp_Piece_init at h
    repeat (first | (obtain ⟨rfl, h⟩ := h; rfl) | (obtain ⟨_, h⟩ := h))
  have hu := hu_of hr
  refine ⟨_, (pss_cons (ps_expr (pe_fn O_look_at_makes (hr.mono (by decide)) (pa_cons (pv 1) pa_nil)))
      (pss_cons (ps_fld (pv 0) (pe_lc (own := [("make", 2), ("document", 3)]) (g := gTup K 2 (gCons (gName 2) (gCons (gName 3) (gNil)))) rfl sc_Piece_init.nd (pi_list (pv 1)) (blkOk_by (own := [("make", 2), ("document", 3)]) (N := ["self", "makes", "make", "document", "field", "many", "places"]) (sc := defScope s_Piece_init) (by decide +kernel)) (fun _ _ _ _ _ => (pg_tup rfl (pgs_cons (pgv 2 sc_Piece_init.nd) (pgs_cons (pgv 3 sc_Piece_init.nd) pgs_nil)))) (fun _ _ _ _ _ => pts_nil) (fun _ _ _ _ _ => (pv 2))) rfl)
      (pss_cons (ps_fld (pv 0) pe_dnewT rfl)
      (pss_cons (ps_fld (pv 0) pe_dnewK rfl)
      (pss_one (ps_for PassesOwn.never rfl (pi_list (pv 1)) (pg_tup rfl (pgs_cons (pgv 2 sc_Piece_init.nd) (pgs_cons (pgv 3 sc_Piece_init.nd) pgs_nil)))
        (pss_one (ps_for PassesOwn.never rfl (pi_items (pe_frz (pe_fn O_counted (hr.mono (by decide)) (pa_cons (pv 3) pa_nil)))) (pg_tup rfl (pgs_cons (pgv 4 sc_Piece_init.nd) (pgs_cons (pg_tup rfl (pgs_cons (pgv 5 sc_Piece_init.nd) (pgs_cons (pgv 6 sc_Piece_init.nd) pgs_nil))) pgs_nil)))
          (pss_cons (ps_dput hu (pe_fldK K (pv 0)) (pe_tup (pa_cons (pv 2) (pa_cons (pv 4) pa_nil))) (pv 5) rfl)
          (pss_one (ps_expr (pe_mt O_Piece_take_in (hr.mono (by decide)) T.cPiece (pv 0) (pa_cons (pv 4) (pa_cons (pv 2) (pa_cons (pv 6) pa_nil))))))))))))))), ?_⟩
  obtain ⟨L, F, sA, dx, a, ms, rfl, hL, eF, hFs, hs, ⟨hmt, hmd⟩, hmo, k⟩ := h
  obtain ⟨hpw, hml, hmk⟩ := id hmo
  refine q_drop (v := .non) (ev_call (ea_cons (ev_var rfl) ea_nil) fun H1 e1 Q1 q1 E1 => ⟨L, a, ms, rfl, ⟨hmt.mono (eF.trans e1), fun m hm => (hmd m hm).mono (eF.trans e1)⟩, hmo, q1⟩) fun H1 e1 => ?_
  -- held_makes
  refine s_fldL (D := { nx := _, rt := _ }) (xs := nats (ms.map (·.1))) (a := sA) (C := adPiece K) (dx := dx) (fs := []) ?_ (ev_var rfl) (e1 _ _ hs) T.cPiece T.aPiece_held_makes (by decide) fun hm H2 hhm e2 h2 => ?_
  · have q := el_lcX (ti := iList K (tVar 1)) (g := gTup K 2 (gCons (gName 2) (gCons (gName 3) gNil))) (vs := [2, 3]) (t := tYes) (te := tVar 2) (σ := [some (.ref sA), some (.ref a), none, none, none, none, none]) (H := H1) (es := ms) (st := fun (m : MkT) σ0 => (σ0.set 2 (some (.int (m.1 : Nat)))).set 3 (some (.ref m.2.1))) (fun _ => true) (fun m : MkT => V.int (m.1 : Nat))
      (ex_tups (A := fun m : MkT => .int (m.1 : Nat)) (B := fun m : MkT => .ref m.2.1) (ev_var rfl) (hmt.mono (eF.trans e1)) rfl) (by omega) (fun x => rfl) (fun _ _ H3 _ H4 _ Q4 q4 => q4 H4 (Ex.refl _)) fun x hx H3 e3 _ => ev_var rfl
    rw [List.filter_eq_self.mpr (fun _ _ => rfl)] at q
    have e9 : nats (ms.map (·.1)) = ms.map fun m => V.int (m.1 : Nat) := by
      show (ms.map (·.1)).map _ = _
      rw [List.map_map]
      rfl
    rw [e9]
    exact q
  · have hsH2 := (e1.trans e2) _ _ hs
    have hhs : hm ≠ sA := (own_ne (e1 _ _ hs) hhm).symm
    have hf1 : putF "held_makes" (.ref hm) [] = ([("held_makes", .ref hm)] : List (Str × V)) := rfl
    rw [hf1]
    generalize hHa : upd H2 sA (.ins (adPiece K) dx ([("held_makes", .ref hm)] : List (Str × V))) = Ha
    have has : Ha sA = some (.ins (adPiece K) dx ([("held_makes", .ref hm)] : List (Str × V))) := by
      rw [← hHa]
      exact upd_same
    have eFa : Ex F Ha := by
      rw [← hHa]
      exact ((eF.trans e1).trans e2).mut hFs
    have hha : Ha hm = some (.lst (nats (ms.map (·.1)))) := by
      rw [← hHa, upd_ne hhs]
      exact h2
    refine s_fldT (D := { nx := _, rt := _ }) (a := sA) (C := adPiece K) (dx := dx) (fun _ _ => ev_var rfl) has T.cPiece T.aPiece_lengths (by simp) fun lg Hb hlg eb hb => ?_
    have hls : lg ≠ sA := (own_ne has hlg).symm
    have hf2 : putF "lengths" (.ref lg) ([("held_makes", .ref hm)] : List (Str × V)) = ([("held_makes", .ref hm), ("lengths", .ref lg)] : List (Str × V)) := rfl
    rw [hf2]
    generalize hHb : upd Hb sA (.ins (adPiece K) dx ([("held_makes", .ref hm), ("lengths", .ref lg)] : List (Str × V))) = Hb2
    have hbs : Hb2 sA = some (.ins (adPiece K) dx ([("held_makes", .ref hm), ("lengths", .ref lg)] : List (Str × V))) := by
      rw [← hHb]
      exact upd_same
    have eFb : Ex F Hb2 := by
      rw [← hHb]
      exact (eFa.trans eb).mut hFs
    have hhb : Hb2 hm = some (.lst (nats (ms.map (·.1)))) := by
      rw [← hHb, upd_ne hhs]
      exact eb _ _ hha
    have hlb : Hb2 lg = some (.dT []) := by
      rw [← hHb, upd_ne hls]
      exact hb
    have hFl : F lg = none := fresh_back eFa hlg
    refine s_fldK (D := { nx := _, rt := _ }) (a := sA) (C := adPiece K) (dx := dx) (fun _ _ => ev_var rfl) hbs T.cPiece T.aPiece_table (by simp) fun tb Hc htb ec hc => ?_
    have hts : tb ≠ sA := (own_ne hbs htb).symm
    have hFt : F tb = none := fresh_back eFb htb
    have hFh : F hm = none := fresh_back (eF.trans e1) hhm
    have hfs : putF "table" (.ref tb) ([("held_makes", .ref hm), ("lengths", .ref lg)] : List (Str × V)) = ([("held_makes", .ref hm), ("lengths", .ref lg), ("table", .ref tb)] : List (Str × V)) := rfl
    rw [hfs]
    generalize hHd : upd Hc sA (PieceO K dx hm lg tb) = Hd
    have hds : Hd sA = some (PieceO K dx hm lg tb) := by
      rw [← hHd]
      exact upd_same
    have eFd : Ex F Hd := by
      rw [← hHd]
      exact (eFb.trans ec).mut hFs
    have hhd : Hd hm = some (.lst (nats (ms.map (·.1)))) := by
      rw [← hHd, upd_ne hhs]
      exact ec _ _ hhb
    have hld : Hd lg = some (.dT []) := by
      rw [← hHd, upd_ne hls]
      exact ec _ _ hlb
    have htd : Hd tb = some (.dK []) := by
      rw [← hHd, upd_ne hts]
      exact hc
    have hht : hm ≠ tb := fun z => by
      rw [z, htd] at hhd
      cases hhd
    have hlt : lg ≠ tb := fun z => by
      rw [z, htd] at hld
      cases hld
    -- the makes
    refine s_forY (H := F) (ex_tups (es := ms) (A := fun m : MkT => .int (m.1 : Nat)) (B := fun m : MkT => .ref m.2.1) (ev_var rfl) hmt rfl) eFd (fun Hg i σ H2 => ∃ y2 y3 y4 y5 y6 C lk kvs, σ = [some (.ref sA), some (.ref a), y2, y3, y4, y5, y6] ∧ Ex Hg H2 ∧ Ex C (fr Hg H2) ∧ C sA = some (PieceO K dx hm lg tb) ∧ C hm = some (.lst (nats (ms.map (·.1)))) ∧ C lg = some (.dT lk) ∧ LenOk (60 * i) lk ∧ TabAt L C Hg H2 tb kvs (tabOf ((ms.map md).take i)))
      (fun Hg H3 eg hgn e3 eg3 => ?_) (fun Hg i σ H2 ⟨_, _, _, _, _, _, _, _, _, e, _⟩ => e) ?_ ?_
    · have gs := hgn sA (ns hds) hFs
      have gh := hgn hm (ns hhd) hFh
      have gl := hgn lg (ns hld) hFl
      have gt := hgn tb (ns htd) hFt
      refine ⟨none, none, none, none, none, del (fr Hg H3) tb, [], [], rfl, eg3, del_ex, ?_, ?_, ?_, ⟨(fun _ _ z => nomatch z), Nat.zero_le _⟩, e3 _ _ htd, del_at, gt, .nil fun f w => rfl, (fun f z => nomatch z), (fun f g v z => nomatch z)⟩
      · rw [del_ne hts.symm, fr_at gs]
        exact e3 _ _ hds
      · rw [del_ne hht, fr_at gh]
        exact e3 _ _ hhd
      · rw [del_ne hlt, fr_at gl]
        exact e3 _ _ hld
    · rintro Hg eg hgn i m σ Hx hi ⟨y2, y3, y4, y5, y6, C, lk, kvs, rfl, egx, eCx, hCs, hCh, hCl, hLen, hTab⟩ H3 e3
      have hmm := List.mem_of_getElem? hi
      obtain ⟨hmk1, hmk2, hmk3⟩ := hmk m hmm
      have hil : i < ms.length := (List.getElem?_eq_some_iff.mp hi).1
      have eg3 : Ex Hg H3 := egx.trans e3
      have eC3 : Ex C (fr Hg H3) := eCx.trans (fr_to e3)
      have eC3' : Ex C H3 := eC3.trans fr_ex
      refine ⟨_, rfl, L, m.2.1, m.2.2, rfl, (hmd m hmm).mono (eg.trans eg3), hmk1, hmk2, hL, fun cd H4 hcd e4 ⟨kvc, hk, hDc⟩ => ?_⟩
      have hk4 : H4 cd = some (.dK kvc) := fr_ex _ _ hk
      refine ⟨cd, .dK kvc, rfl, hk4, trivial, fun od => ?_⟩
      generalize hHf : upd H4 cd (.frz od (.dK kvc)) = Hf
      have hfc : Hf cd = some (.frz od (.dK kvc)) := by
        rw [← hHf]
        exact upd_same
      have e3f : Ex H3 Hf := by
        rw [← hHf]
        exact e4.mut hcd
      have egf : Ex Hg Hf := eg3.trans e3f
      have e5 : Ex (del (fr H3 H4) cd) (jn C H3 Hf) := by
        intro b o hb
        have hbc : b ≠ cd := fun z => by
          rw [z, del_at] at hb
          cases hb
        rw [del_ne hbc] at hb
        have h3b : H3 b = none := by
          unfold fr at hb
          cases hq : H3 b with
          | none => rfl
          | some u =>
            rw [hq] at hb
            cases hb
        rw [fr_at h3b] at hb
        rw [jn_new h3b, ← hHf, upd_ne hbc]
        exact hb
      obtain ⟨ks, hks, hnd, hkL, hkm⟩ := hDc.names
      have hkl2 : ks.length = kvc.length := by
        have := congrArg List.length hks
        rwa [List.length_map, List.length_map, eq_comm] at this
      have hl3 : H3 lg ≠ none := ns (eC3' _ _ hCl)
      refine ⟨cd, od, kvc, rfl, hfc, for_it (walk_items (kvs := kvc)) (fun j σ H' => ∃ z4 z5 z6 C' lk' kvs', σ = [some (.ref sA), some (.ref a), some (.int (m.1 : Nat)), some (.ref m.2.1), z4, z5, z6] ∧ Ex Hg H' ∧ Ex C' (fr Hg H') ∧ Ex (del (jn C H3 Hf) lg) C' ∧ C' lg = some (.dT lk') ∧ LenOk (60 * i + j) lk' ∧ TabAt L C' Hg H' tb kvs' (partT (tabOf ((ms.map md).take i)) m.1 m.2.2 (ks.take j))) ?_ ?_ ?_ ?_⟩
      · refine ⟨y4, y5, y6, jn C H3 Hf, lk, kvs, rfl, egf, jn_fr eC3 eg3 e3f, del_ex, by rw [jn_old hl3]; exact hCl, hLen, ?_⟩
        have e9 : partT (tabOf ((ms.map md).take i)) m.1 m.2.2 (ks.take 0) = tabOf ((ms.map md).take i) := by
          funext f w
          unfold partT
          rw [if_neg (by simp)]
        rw [e9]
        exact ((hTab.ex e3).gr (jn_ex eC3') fun x hx => jn_old hx).ex e3f
      · rintro j σ H' _ ⟨_, _, _, C', _, _, _, _, eC', eCc, _⟩
        refine (eC'.trans fr_ex) _ _ (eCc _ _ ?_)
        rw [del_ne (fun z => hl3 (by rw [← z]; exact hcd)), jn_new hcd]
        exact hfc
      · rintro j x σ H' H'' hj ⟨z4, z5, z6, C', lk', kvs', rfl, eg', eC', eCc, hCl', hLen', hTab'⟩ ⟨T0, u, v, rfl, hT0, rfl, hu0, hv0⟩
        obtain ⟨⟨kk, v0⟩, hkv⟩ : ∃ p, kvc[j]? = some p := ⟨kvc[j], List.getElem?_eq_getElem hj⟩
        have hu1 : kvc[j]?.map (fun kv => kV kv.1) = some u := hu0
        have hv1 : kvc[j]?.map Prod.snd = some v := hv0
        rw [hkv] at hu1 hv1
        cases hu1
        cases hv1
        have hja : j < ks.length := by omega
        have hkj : kk = kS ks[j] := by
          have q : (kvc.map Prod.fst)[j]? = (ks.map kS)[j]? := by rw [hks]
          rw [List.getElem?_map, List.getElem?_map, hkv, List.getElem?_eq_getElem hja] at q
          exact Option.some.inj q
        generalize hw : ks[j] = fl at hkj
        have hwj : ks[j]? = some fl := by rw [List.getElem?_eq_getElem hja, hw]
        subst hkj
        have hvv := valV_mem hDc.nd (List.mem_of_getElem? hkv)
        have hcr := hDc.val fl
        rw [hvv] at hcr
        obtain ⟨hne, t, pd, rfl, ht, hpd⟩ := hcr
        obtain ⟨hf1, hf2, hf3⟩ := fw_in hmk2 fl
        have hflL := hf2 hne
        have eC'H : Ex C' H' := eC'.trans fr_ex
        have e6 : Ex H' (upd H' T0 (.tup [kV (kS fl), .ref t])) := Ex.new hT0
        have hlt2 : ∀ {b : Addr} {o : HO}, del (fr H3 H4) cd b = some o → b ≠ lg := fun {b o} hb z => by
          have hb2 := del_ex _ _ hb
          rw [z] at hb2
          unfold fr at hb2
          cases hq : H3 lg with
          | none => exact hl3 hq
          | some u =>
            rw [hq] at hb2
            cases hb2
        have toC' : Ex (del (fr H3 H4) cd) C' := fun b o hb => eCc _ _ (by rw [del_ne (hlt2 hb)]; exact e5 _ _ hb)
        refine ⟨T0, _, rfl, st_of upd_same, rfl, _, _, rfl, _, _, rfl, ⟨t, _, rfl, st_of (e6 _ _ (eC'H _ _ (toC' _ _ ht))), rfl, _, _, rfl, _, _, rfl, rfl, rfl, ?_⟩⟩
        have hCs' : C' sA = some (PieceO K dx hm lg tb) := by
          refine eCc _ _ ?_
          rw [del_ne hls.symm, jn_old (ns (eC3' _ _ hCs))]
          exact hCs
        have hs6 := e6 _ _ (eC'H _ _ hCs')
        -- lengths
        refine ⟨_, rfl, _, rfl, sA, adPiece K, dx, _, .ref lg, rfl, hs6, T.cPiece, T.aPiece_lengths, rfl, _, rfl, _, rfl, sizeLine_of (by simp), fun b hb => ?_⟩
        have e7 := Ex.new (o := .tup [.int (m.1 : Nat), kV (kS fl)]) hb
        have e67 := e6.trans e7
        refine ⟨lg, _, rfl, .inr ⟨lk', [Sum.inl (m.1 : Int), Sum.inr fl], b, e67 _ _ (eC'H _ _ hCl'), rfl, upd_same, sizeLine_lt (by have := hLen'.2; omega), rfl⟩, ?_⟩
        generalize hlk2 : putK lk' [Sum.inl (m.1 : Int), Sum.inr fl] (.int ((fw m.2.2 fl).length : Nat)) = lk2
        generalize hHp : upd (upd H' T0 (.tup [kV (kS fl), .ref t])) b (.tup [.int (m.1 : Nat), kV (kS fl)]) = Hp
        have e6p : Ex H' Hp := by
          rw [← hHp]
          exact e67
        have n1 : ∀ xs, C' lg ≠ some (.lst xs) := fun xs z => by
          rw [hCl'] at z
          cases z
        have n2 : ∀ xs, C' lg ≠ some (.tup xs) := fun xs z => by
          rw [hCl'] at z
          cases z
        have hTab2 := (hTab'.ex e6p).swap (o := .dT lk2) (ns hCl') n1 n2
        have hgl : Hg lg = none := hgn lg (ns hld) hFl
        have eC2 : Ex (upd C' lg (.dT lk2)) (fr Hg (upd Hp lg (.dT lk2))) := by
          rw [fr_upd hgl]
          intro c o hc2
          by_cases q : c = lg
          · subst q
            rw [upd_same] at hc2 ⊢
            exact hc2
          · rw [upd_ne q] at hc2 ⊢
            exact fr_to e6p _ _ (eC' _ _ hc2)
        have hs2 : upd C' lg (.dT lk2) sA = some (PieceO K dx hm lg tb) := by
          rw [upd_ne hls.symm]
          exact hCs'
        have hpd2 : PlAt L (upd C' lg (.dT lk2)) pd (fw m.2.2 fl) := hpd.mono fun b o hb => by
          rw [upd_ne (hlt2 hb)]
          exact toC' _ _ hb
        have hTl : ∀ f w, (partT (tabOf ((ms.map md).take i)) m.1 m.2.2 (ks.take j) f w).length ≤ 60 := fun f w => by
          have q1 := tabOf_len ((ms.map md).take i) f w
          rw [List.length_take, List.length_map] at q1
          unfold partT
          split
          · rw [List.length_append, List.length_singleton]
            omega
          · omega
        refine ⟨_, rfl, sA, dx, _, rfl, (eC2.trans fr_ex) _ _ hs2, rfl, _, rfl, _, rfl, _, rfl, L, upd C' lg (.dT lk2), Hg, sA, dx, hm, lg, tb, pd, kvs', _, fl, m.1, fw m.2.2 fl, rfl, hL, hflL, hf1, hTl, hs2, eC2, (eg'.trans e6p).mut hgl, hpd2, hTab2, fun H5 C5 kvs5 eg5 eCC eC5 nC5 hTab5 => ?_⟩
        refine ⟨_, _, _, C5, lk2, kvs5, rfl, eg5, eC5, fun c o hc2 => eCC _ _ ?_, eCC _ _ upd_same, ?_, ?_⟩
        · have q : c ≠ lg := fun z => by
            rw [z, del_at] at hc2
            cases hc2
          rw [upd_ne q]
          exact eCc _ _ hc2
        · rw [← hlk2]
          refine ⟨fun k2 v2 hv2 => ?_, ?_⟩
          · rw [valV_put] at hv2
            split at hv2
            · cases hv2
              exact ⟨_, rfl⟩
            · exact hLen'.1 k2 v2 hv2
          · have := length_putK lk' [Sum.inl (m.1 : Int), Sum.inr fl] (.int ((fw m.2.2 fl).length : Nat))
            have := hLen'.2
            omega
        · rw [partT_snoc _ _ _ (nodup_take hnd hwj)] at hTab5
          rw [List.take_succ, hwj]
          exact hTab5
      · rintro σ H' ⟨z4, z5, z6, C', lk', kvs', rfl, eg', eC', eCc, hCl', hLen', hTab'⟩
        rw [← hkl2, List.take_length] at hTab'
        refine ⟨_, _, _, _, _, C', lk', kvs', rfl, eg', eC', eCc _ _ ?_, eCc _ _ ?_, hCl', ⟨hLen'.1, ?_⟩, ?_⟩
        · rw [del_ne hls.symm, jn_old (ns (eC3' _ _ hCs))]
          exact hCs
        · rw [del_ne, jn_old (ns (eC3' _ _ hCh))]
          · exact hCh
          · intro z
            rw [z, hCl] at hCh
            cases hCh
        · have := hLen'.2
          omega
        · have e9 : partT (tabOf ((ms.map md).take i)) m.1 m.2.2 ks = tabOf ((ms.map md).take (i + 1)) := by
            funext f w
            have hi2 : (ms.map md)[i]? = some (md m) := by
              rw [List.getElem?_map, hi]
              rfl
            rw [List.take_succ, hi2, Option.toList_some, tabOf_snoc]
            unfold partT
            by_cases c : w ∈ fw m.2.2 f
            · have c2 : f ∈ ks := by
                rw [hkm f]
                have := hDc.val f
                cases hc3 : valV kvc (kS f) with
                | none =>
                  rw [hc3] at this
                  have h9 : fw m.2.2 f = [] := this
                  rw [h9] at c
                  exact absurd c List.not_mem_nil
                | some v => rfl
              rw [if_pos ⟨c2, c⟩]
              exact (if_pos c).symm
            · rw [if_neg (fun z => c z.2)]
              exact (if_neg c).symm
          rw [e9] at hTab'
          exact hTab'
    · rintro Hg eg σ H2 ⟨y2, y3, y4, y5, y6, C, lk, kvs, rfl, egx, eCx, hCs, hCh, hCl, hLen, hTab⟩
      have hms : (ms.map md).take ms.length = ms.map md := by
        rw [List.take_of_length_le (by simp)]
      rw [hms] at hTab
      have hb : Ex (fr Hg H2) (fr F H2) := fr_back eg
      exact k H2 (eg.trans egx) ⟨dx, hm, lg, tb, lk, hb _ _ (eCx _ _ hCs), hb _ _ (eCx _ _ hCh), hb _ _ (eCx _ _ hCl), ⟨hLen.1, by have := hLen.2; omega⟩, (hTab.done eCx).mono hb⟩
end Fc
/-! What pieces and stands tell. -/
namespace Fc
open PySem PySem.Spec PyProof.Rows L2 Evl
section
variable {K : PySem.W.Frag} {σ : L2.St} {H : Hp} {td ty1 ty2 te : TE} {L : List Str} {D : Ends} {tz : TS}
theorem s_retQ {C : V → Hp → Prop} (hh : ∀ Q : VK, (∀ v H2, C v H2 → Q v H2) → te σ H Q) (k : ∀ v H2, C v H2 → D.rt v H2) : tRet te D σ H := hh _ fun v H2 c => k v H2 c
/-- a list of names -/
def NamesAt (L : List Str) (N : Str → Prop) (H1 : Hp) (v : V) (H2 : Hp) : Prop := ∃ (p : Addr) (ks : List Str), v = .ref p ∧ H1 p = none ∧ Ex H1 H2 ∧ H2 p = some (.lst (ks.map V.str)) ∧ ks.Nodup ∧ ks.length ≤ 60 ∧ (∀ f ∈ ks, f ∈ L) ∧ ∀ f, N f → f ∈ ks
theorem keys_of {d : Addr} {kvs : List (Key × V)} {R : Str → Option V → Prop} (hd : Ev td σ H (.ref d)) (h : H d = some (.dK kvs)) (hD : Dct L kvs R) (hL : L.length ≤ 60) {H1 : Hp} (e : Ex H H1) {Q : VK}
    (q : ∀ v H2, NamesAt L (fun f => (valV kvs (kS f)).isSome = true) H1 v H2 → Q v H2) : tCB rSortKS (tCons (tBM0 K "dict" rKeysV td) tNil) σ H1 Q := by
  obtain ⟨ks, h1, h2, h3, h4⟩ := hD.names
  refine hd H1 e _ fun H2 e2 => ⟨.inr (.inr (.inl ⟨rfl, .inl ⟨kvs, (e.trans e2) _ _ h⟩⟩)), d, kvs, rfl, rfl, .inl ((e.trans e2) _ _ h), fun p hp => ?_⟩
  refine ⟨p, d, kvs, ks, rfl, upd_same, .inl ((Ex.new hp) _ _ ((e.trans e2) _ _ h)), h1, by omega, fun ys r pm hr => ?_⟩
  have e3 : Ex H1 (upd H2 p (keysO p d)) := e2.trans (Ex.new hp)
  refine q _ _ ⟨r, ys, rfl, fresh_back e3 hr, e3.trans (Ex.new hr), upd_same, pm.nodup_iff.mpr h2, by rw [pm.length_eq]; omega, fun f hf => ?_, fun f hf => pm.mem_iff.mpr ((h4 f).mpr hf)⟩
  have hk : kS f ∈ kvs.map Prod.fst := by
    rw [h1]
    exact List.mem_map.mpr ⟨f, pm.mem_iff.mp hf, rfl⟩
  obtain ⟨kv, g1, g2⟩ := List.mem_map.mp hk
  obtain ⟨w, hw, g3⟩ := hD.keys kv g1
  rw [g2] at g3
  rw [Sum.inr.inj g3]
  exact hw
theorem tab_fields {C : Hp} {tb : Addr} {T : Tab} (hT : TiAt L C tb T) (eC : Ex C H) (hd : Ev td σ H (.ref tb)) (hL : L.length ≤ 60) {H1 : Hp} (e : Ex H H1) {Q : VK}
    (q : ∀ v H2, NamesAt L (fun f => ∃ w, T f w ≠ []) H1 v H2 → Q v H2) : tCB rSortKS (tCons (tBM0 K "dict" rKeysV td) tNil) σ H1 Q := by
  obtain ⟨kvs, h1, h2⟩ := hT
  refine keys_of hd (eC _ _ h1) h2 hL e fun v H2 ⟨p, ks, g1, g2, g3, g4, g5, g6, g7, g8⟩ => q v H2 ⟨p, ks, g1, g2, g3, g4, g5, g6, g7, fun f ⟨w, hw⟩ => g8 f ?_⟩
  have := h2.val f
  cases hc : valV kvs (kS f) with
  | none =>
    rw [hc] at this
    exact absurd (this w) hw
  | some u =>
    show (valV kvs (kS f)).isSome = true
    rw [hc]
    rfl
theorem keys_new {H1 : Hp} (hd : ∀ Q : VK, (∀ p H2, H1 p = none → Ex H1 H2 → H2 p = some (.dK []) → Q (.ref p) H2) → td σ H1 Q) {N : Str → Prop} (hN : ∀ w, ¬ N w) {Q : VK} (q : ∀ v H2, NamesAt L N H1 v H2 → Q v H2) : tCB rSortKS (tCons (tBM0 K "dict" rKeysV td) tNil) σ H1 Q :=
  hd _ fun p H2 hp e2 hp2 => ⟨.inr (.inr (.inl ⟨rfl, .inl ⟨[], hp2⟩⟩)), p, [], rfl, rfl, .inl hp2, fun r hr => ⟨r, p, [], [], rfl, upd_same, .inl ((Ex.new hr) _ _ hp2), rfl, by decide, fun ys t pm ht => by
    have hy0 : ys = [] := pm.eq_nil
    subst hy0
    have e3 := e2.trans (Ex.new (o := keysO r p) hr)
    exact q _ _ ⟨t, [], rfl, fresh_back e3 ht, e3.trans (Ex.new ht), upd_same, List.nodup_nil, Nat.zero_le _, fun _ z => absurd z List.not_mem_nil, fun w hw => absurd hw (hN w)⟩⟩⟩
theorem tab_words {C : Hp} {tb : Addr} {T : Tab} {f : Str} (hT : TiAt L C tb T) (eC : Ex C H) (hd : Ev td σ H (.ref tb)) (hy : Ev ty1 σ H (.str f)) (hL : L.length ≤ 60) {H1 : Hp} (e : Ex H H1) {Q : VK}
    (q : ∀ v H2, NamesAt L (fun w => T f w ≠ []) H1 v H2 → Q v H2) : tCB rSortKS (tCons (tBM0 K "dict" rKeysV (tDGet2 td ty1 tDNewK)) tNil) σ H1 Q := by
  obtain ⟨kvs, h1, h2⟩ := hT
  have hv := h2.val f
  have hg : DGet H tb (.str f) (valV kvs (kS f)) := DGet.k (k := kS f) (eC _ _ h1)
  cases hc : valV kvs (kS f) with
  | none =>
    rw [hc] at hv hg
    exact keys_new (fun Q2 q2 => ed_dgetN hd hy hg e q2) (fun w z => z (hv w)) q
  | some u =>
    rw [hc] at hv hg
    obtain ⟨a, kws, rfl, g2, g3⟩ := hv
    refine keys_of (ev_dgetN hd hy hg) (eC _ _ g2) g3 hL e fun v H2 ⟨p, ks, q1, q2, q3, q4, q5, q6, q7, q8⟩ => q v H2 ⟨p, ks, q1, q2, q3, q4, q5, q6, q7, fun w hw => q8 w ?_⟩
    have := g3.val w
    cases hc2 : valV kws (kS w) with
    | none =>
      rw [hc2] at this
      exact absurd this hw
    | some u =>
      show (valV kws (kS w)).isSome = true
      rw [hc2]
      rfl
theorem post_new {w : Str} {H1 : Hp} (hd : ∀ Q : VK, (∀ p H2, H1 p = none → Ex H1 H2 → H2 p = some (.dK []) → Q (.ref p) H2) → td σ H1 Q) (hy2 : Ev ty2 σ H1 (.str w)) {Q : VK} (q : ∀ l H2, Ex H1 H2 → H2 l = some (.lst []) → Q (.ref l) H2) : tDGet2 td ty2 (tLst tNil) σ H1 Q :=
  hd _ fun p H2 hp e2 hp2 => ⟨p, rfl, .inl ⟨[], .inl hp2⟩, hy2 H2 e2 _ fun H3 e3 => ⟨sizeLine_of (by decide), fun l hl => ⟨none, .inl ⟨[], kS w, .inl ((e3.trans (Ex.new hl)) _ _ hp2), rfl, rfl⟩, q l _ ((e2.trans e3).trans (Ex.new hl)) upd_same⟩⟩⟩
theorem post_old {w : Str} {H1 : Hp} {a : Addr} {kws : List (Key × V)} (hd : Ev td σ H1 (.ref a)) (ha : H1 a = some (.dK kws)) (hy2 : Ev ty2 σ H1 (.str w)) {Q : VK} (q : ∀ l H2, Ex H1 H2 → H2 l = some (.lst []) → Q ((valV kws (kS w)).getD (.ref l)) H2) : tDGet2 td ty2 (tLst tNil) σ H1 Q :=
  hd H1 (Ex.refl _) _ fun H2 e2 => ⟨a, rfl, .inl ⟨kws, .inl (e2 _ _ ha)⟩, hy2 H2 e2 _ fun H3 e3 => ⟨sizeLine_of (by decide), fun l hl => ⟨valV kws (kS w), .inl ⟨kws, kS w, .inl (((e2.trans e3).trans (Ex.new hl)) _ _ ha), rfl, rfl⟩, q l _ ((e2.trans e3).trans (Ex.new hl)) upd_same⟩⟩⟩
theorem call_1 {sp : Sp} {E : XK} {C : V → Hp → Prop} {Q : VK} (hh : ∀ Q : VK, (∀ v H2, C v H2 → Q v H2) → te σ H Q) (k : ∀ v H2, C v H2 → sp [v] H2 Q E) : tCall sp [] E (tCons te tNil) σ H Q := hh _ fun v H2 c => k v H2 c
theorem call_cb {r : List V → Hp → VK → Prop} {P : V → Hp → Prop} {Q : VK} (hh : ∀ Q : VK, (∀ v H2, P v H2 → Q v H2) → te σ H Q) (k : ∀ v H2, P v H2 → r [v] H2 Q) : tCB r (tCons te tNil) σ H Q := hh _ fun v H2 c => k v H2 c
theorem tab_post {C : Hp} {tb : Addr} {T : Tab} {f w : Str} (hT : TiAt L C tb T) (eC : Ex C H) (hd : Ev td σ H (.ref tb)) (hy1 : Ev ty1 σ H (.str f)) (hy2 : Ev ty2 σ H (.str w)) {H1 : Hp} (e : Ex H H1) {Q : VK}
    (q : ∀ a H2, Ex H1 H2 → PostAt H2 a (T f w) → Q (.ref a) H2) : tDGet2 (tDGet2 td ty1 tDNewK) ty2 (tLst tNil) σ H1 Q := by
  obtain ⟨kvs, h1, h2⟩ := hT
  have hv := h2.val f
  have hg : DGet H tb (.str f) (valV kvs (kS f)) := DGet.k (k := kS f) (eC _ _ h1)
  cases hc : valV kvs (kS f) with
  | none =>
    rw [hc] at hv hg
    exact post_new (fun Q2 q2 => ed_dgetN hd hy1 hg e q2) (hy2.mono e) fun l H2 e2 h2 => q l H2 e2 (by rw [hv w]; exact .nil h2)
  | some u =>
    rw [hc] at hv hg
    obtain ⟨a, kws, rfl, g2, g3⟩ := hv
    have hv2 := g3.val w
    refine post_old (Ev.mono e (ev_dgetN hd hy1 hg)) ((eC.trans e) _ _ g2) (hy2.mono e) fun l H2 e2 hl => ?_
    cases hc2 : valV kws (kS w) with
    | none =>
      rw [hc2] at hv2
      refine q l _ e2 ?_
      have hv3 : T f w = [] := hv2
      rw [hv3]
      exact PostAt.nil hl
    | some u =>
      rw [hc2] at hv2
      obtain ⟨l2, rfl, g5⟩ := hv2
      exact q l2 _ e2 (g5.mono ((eC.trans e).trans e2))
end
/-! ### pieces -/
def sp_Piece_makes (K : PySem.W.Frag) : Sp := fun vs H Q _ => ∃ (L : List Str) (C : Hp) (s : Addr) (mk : List Nat) (T : Tab), vs = [.ref s] ∧ PieceAt K L C s mk T ∧ Ex C H ∧ RetL (nats mk) H Q
theorem sc_Piece_makes : FnScope ["self"] ["self"] (defScope s_Piece_makes) := ⟨rfl, rfl, rfl, by decide +kernel, rfl, by decide +kernel, by decide +kernel⟩
theorem ok_Piece_makes {P : Program} {w : World} {K : PySem.W.Frag} {mg : Str → Option Value} {base : Heap} (G : Gm K (adPiece K) "makes" "Piece.makes" s_Piece_makes) (T : Tx K mg) : OkM P w K mg base 1 (adPiece K) "makes" ["self"] (sp_Piece_makes K) := by
  refine G.ok (k := 0) sc_Piece_makes (fun _ _ _ _ _ _ us hl => match us, hl with | [_], _ => rfl) (fun vs H Q E h => ?_) (fun f cdv A outer s H vs Q E hr h => ?_)
  · unfold sp_Piece_makes at h
    repeat (first | (obtain ⟨rfl, h⟩ := h; rfl) | (obtain ⟨_, h⟩ := h))
  have hu := hu_of hr
  refine ⟨_, (pss_one (ps_ret (pe_callTy (T := "list") (listOfK K) rfl T.n_list (by decide +kernel) (pa_cons (pe_fldK K (pv 0)) pa_nil)))), ?_⟩
  obtain ⟨L, C, sA, mk, T9, rfl, ⟨dx, hm, lg, tb, lk, h1, h2, h3, h4, h5⟩, eC, k⟩ := h
  exact s_retL (el_cb (ea_cons (ev_fld (ev_var rfl) (eC _ _ h1) T.cPiece T.aPiece_held_makes rfl) ea_nil) fun H1 e1 Q1 q1 => ⟨hm, _, rfl, .inl (sq_of ((eC.trans e1) _ _ h2)), fun l hl => q1 l _ hl (Ex.new hl) upd_same⟩) k
def sp_Piece_fields (K : PySem.W.Frag) : Sp := fun vs H Q _ => ∃ (L : List Str) (C : Hp) (s : Addr) (mk : List Nat) (T : Tab), vs = [.ref s] ∧ L.length ≤ 60 ∧ PieceAt K L C s mk T ∧ Ex C H ∧ ∀ v H2, NamesAt L (fun f => ∃ w, T f w ≠ []) H v H2 → Q v H2
theorem sc_Piece_fields : FnScope ["self"] ["self"] (defScope s_Piece_fields) := ⟨rfl, rfl, rfl, by decide +kernel, rfl, by decide +kernel, by decide +kernel⟩
theorem ok_Piece_fields {P : Program} {w : World} {K : PySem.W.Frag} {mg : Str → Option Value} {base : Heap} (G : Gm K (adPiece K) "fields" "Piece.fields" s_Piece_fields) (T : Tx K mg) : OkM P w K mg base 1 (adPiece K) "fields" ["self"] (sp_Piece_fields K) := by
  refine G.ok (k := 0) sc_Piece_fields (fun _ _ _ _ _ _ us hl => match us, hl with | [_], _ => rfl) (fun vs H Q E h => ?_) (fun f cdv A outer s H vs Q E hr h => ?_)
  · unfold sp_Piece_fields at h
    repeat (first | (obtain ⟨rfl, h⟩ := h; rfl) | (obtain ⟨_, h⟩ := h))
  have hu := hu_of hr
  refine ⟨_, (pss_one (ps_ret (pe_callB (id := "sorted") (cr_sortKS rfl) rfl T.n_sorted (by decide +kernel) (pa_cons (pe_bm0 PySem.F.plainAttrs_dict PySem.F.slot_dict_keys PySem.F.type_dict_keys mt_keysV (pe_fldK K (pv 0))) pa_nil)))), ?_⟩
  obtain ⟨L, C, sA, mk, T9, rfl, hL, ⟨dx, hm, lg, tb, lk, h1, h2, h3, h4, h5⟩, eC, k⟩ := h
  exact s_retQ (C := NamesAt L (fun f => ∃ w, T9 f w ≠ []) H) (fun Q2 q2 => tab_fields h5 eC (ev_fld (ev_var rfl) (eC _ _ h1) T.cPiece T.aPiece_table rfl) hL (Ex.refl _) q2) k
def sp_Piece_words (K : PySem.W.Frag) : Sp := fun vs H Q _ => ∃ (L : List Str) (C : Hp) (s : Addr) (mk : List Nat) (T : Tab) (f : Str), vs = [.ref s, .str f] ∧ L.length ≤ 60 ∧ PieceAt K L C s mk T ∧ Ex C H ∧ ∀ v H2, NamesAt L (fun w => T f w ≠ []) H v H2 → Q v H2
theorem sc_Piece_words : FnScope ["self", "field"] ["self", "field"] (defScope s_Piece_words) := ⟨rfl, rfl, rfl, by decide +kernel, rfl, by decide +kernel, by decide +kernel⟩
theorem ok_Piece_words {P : Program} {w : World} {K : PySem.W.Frag} {mg : Str → Option Value} {base : Heap} (G : Gm K (adPiece K) "words" "Piece.words" s_Piece_words) (T : Tx K mg) : OkM P w K mg base 1 (adPiece K) "words" ["self", "field"] (sp_Piece_words K) := by
  refine G.ok (k := 0) sc_Piece_words (fun _ _ _ _ _ _ us hl => match us, hl with | [_, _], _ => rfl) (fun vs H Q E h => ?_) (fun f cdv A outer s H vs Q E hr h => ?_)
  · unfold sp_Piece_words at h
    repeat (first | (obtain ⟨rfl, h⟩ := h; rfl) | (obtain ⟨_, h⟩ := h))
  have hu := hu_of hr
  refine ⟨_, (pss_one (ps_ret (pe_callB (id := "sorted") (cr_sortKS rfl) rfl T.n_sorted (by decide +kernel) (pa_cons (pe_bm0 PySem.F.plainAttrs_dict PySem.F.slot_dict_keys PySem.F.type_dict_keys mt_keysV (pe_dget2 hu (pe_fldK K (pv 0)) (pv 1) pe_dnewK (M2.of rfl))) pa_nil)))), ?_⟩
  obtain ⟨L, C, sA, mk, T9, fl, rfl, hL, ⟨dx, hm, lg, tb, lk, h1, h2, h3, h4, h5⟩, eC, k⟩ := h
  exact s_retQ (C := NamesAt L (fun w => T9 fl w ≠ []) H) (fun Q2 q2 => tab_words h5 eC (ev_fld (ev_var rfl) (eC _ _ h1) T.cPiece T.aPiece_table rfl) (ev_var rfl) hL (Ex.refl _) q2) k
def sp_Piece_postings (K : PySem.W.Frag) : Sp := fun vs H Q _ => ∃ (L : List Str) (C : Hp) (s : Addr) (mk : List Nat) (T : Tab) (f w : Str), vs = [.ref s, .str f, .str w] ∧ (T f w).length ≤ 60 ∧ PieceAt K L C s mk T ∧ Ex C H ∧ RetP (T f w) H Q
theorem sc_Piece_postings : FnScope ["self", "field", "word"] ["self", "field", "word"] (defScope s_Piece_postings) := ⟨rfl, rfl, rfl, by decide +kernel, rfl, by decide +kernel, by decide +kernel⟩
theorem ok_Piece_postings {P : Program} {w : World} {K : PySem.W.Frag} {mg : Str → Option Value} {base : Heap} (G : Gm K (adPiece K) "postings" "Piece.postings" s_Piece_postings) (T : Tx K mg) (O_copied_postings : OkF P w K mg base 1 "copied_postings" ["postings"] sp_copied_postings) : OkM P w K mg base 2 (adPiece K) "postings" ["self", "field", "word"] (sp_Piece_postings K) := by
  refine G.ok (k := 1) sc_Piece_postings (fun _ _ _ _ _ _ us hl => match us, hl with | [_, _, _], _ => rfl) (fun vs H Q E h => ?_) (fun f cdv A outer s H vs Q E hr h => ?_)
  · unfold sp_Piece_postings at h
    repeat (first | (obtain ⟨rfl, h⟩ := h; rfl) | (obtain ⟨_, h⟩ := h))
  have hu := hu_of hr
  refine ⟨_, (pss_one (ps_ret (pe_fn O_copied_postings (hr.mono (by decide)) (pa_cons (pe_dget2 hu (pe_dget2 hu (pe_fldK K (pv 0)) (pv 1) pe_dnewK (M2.of rfl)) (pv 2) (pe_lst pa_nil) (M2.of rfl)) pa_nil)))), ?_⟩
  obtain ⟨L, C, sA, mk, T9, fl, wd, rfl, hT, ⟨dx, hm, lg, tb, lk, h1, h2, h3, h4, h5⟩, eC, k⟩ := h
  refine s_retQ (C := fun v H2 => ∃ p, v = .ref p ∧ H p = none ∧ Ex H H2 ∧ PostAt (fr H H2) p (T9 fl wd)) (fun Q2 q2 => ?_) fun v H2 ⟨p, hv, hp, e, hpp⟩ => by
    subst hv
    exact k p H2 hp e hpp
  refine call_1 (C := fun v H1 => ∃ a, v = .ref a ∧ Ex H H1 ∧ PostAt H1 a (T9 fl wd)) (fun Q3 q3 => tab_post (f := fl) (w := wd) h5 eC (ev_fld (ev_var rfl) (eC _ _ h1) T.cPiece T.aPiece_table rfl) (ev_var rfl) (ev_var rfl) (Ex.refl _) fun a H2 e ha => q3 _ _ ⟨a, rfl, e, ha⟩) fun v H1 ⟨a, hv, e1, ha⟩ => ?_
  subst hv
  exact ⟨a, _, rfl, ha, by omega, fun p H2 hp e2 hpp => q2 _ _ ⟨p, rfl, fresh_back e1 hp, e1.trans e2, hpp.mono (fr_back e1)⟩⟩
def sp_Piece_length (K : PySem.W.Frag) : Sp := fun vs H Q _ => ∃ (L : List Str) (C : Hp) (s : Addr) (mk : List Nat) (T : Tab) (m : Nat) (f : Str), vs = [.ref s, .int (m : Nat), .str f] ∧ PieceAt K L C s mk T ∧ Ex C H ∧ ∀ (n : Nat) H2, Ex H H2 → Q (.int (n : Nat)) H2
theorem sc_Piece_length : FnScope ["self", "make", "field"] ["self", "make", "field"] (defScope s_Piece_length) := ⟨rfl, rfl, rfl, by decide +kernel, rfl, by decide +kernel, by decide +kernel⟩
theorem ok_Piece_length {P : Program} {w : World} {K : PySem.W.Frag} {mg : Str → Option Value} {base : Heap} (G : Gm K (adPiece K) "length" "Piece.length" s_Piece_length) (T : Tx K mg) : OkM P w K mg base 1 (adPiece K) "length" ["self", "make", "field"] (sp_Piece_length K) := by
  refine G.ok (k := 0) sc_Piece_length (fun _ _ _ _ _ _ us hl => match us, hl with | [_, _, _], _ => rfl) (fun vs H Q E h => ?_) (fun f cdv A outer s H vs Q E hr h => ?_)
  · unfold sp_Piece_length at h
    repeat (first | (obtain ⟨rfl, h⟩ := h; rfl) | (obtain ⟨_, h⟩ := h))
  have hu := hu_of hr
  refine ⟨_, (pss_one (ps_ret (pe_dget2 hu (pe_fldK K (pv 0)) (pe_tup (pa_cons (pv 1) (pa_cons (pv 2) pa_nil))) pe_int (M2.of rfl)))), ?_⟩
  obtain ⟨L, C, sA, mk, T9, m, fl, rfl, ⟨dx, hm, lg, tb, lk, h1, h2, h3, h4, h5⟩, eC, k⟩ := h
  refine s_retQ (C := fun v H2 => ∃ n : Nat, v = .int (n : Nat) ∧ Ex H H2) (fun Q2 q2 => ?_) fun v H2 ⟨n, hv, e⟩ => by
    subst hv
    exact k n H2 e
  refine (ev_fld (v := .ref lg) (ev_var rfl) (eC _ _ h1) T.cPiece T.aPiece_lengths rfl) H (Ex.refl _) _ fun H1 e1 => ⟨lg, rfl, .inr ⟨lk, .inl ((eC.trans e1) _ _ h3)⟩, ?_⟩
  refine ⟨_, rfl, _, rfl, sizeLine_of (by simp), fun b hb => ?_⟩
  refine ⟨valV lk [Sum.inl (m : Int), Sum.inr fl], .inr ⟨lk, _, b, .inl ((Ex.new hb) _ _ ((eC.trans e1) _ _ h3)), rfl, upd_same, rfl⟩, ?_⟩
  cases hc : valV lk [Sum.inl (m : Int), Sum.inr fl] with
  | none => exact q2 _ _ ⟨0, rfl, e1.trans (Ex.new hb)⟩
  | some v =>
    obtain ⟨n, rfl⟩ := h4.1 _ _ hc
    exact q2 _ _ ⟨n, rfl, e1.trans (Ex.new hb)⟩
end Fc
/-! Stands: a field of a piece gathered. -/
namespace Fc
open PySem PySem.Spec PyProof.Rows L2 Evl
section
variable {K : PySem.W.Frag} {σ : L2.St} {H : Hp} {ta te : TE} {t : TA} {vs : List V} {sp : Sp} {a C dx : Addr} {fs : List (Str × V)} {m : Str} {E : XK} {D : Ends} {g : TG} {tu : TS} {v : V}
theorem el_meth {xs : List V} (ha : Ev ta σ H (.ref a)) (h : H a = some (.ins C dx fs)) (hl : fs.lookup m = none) (ht : EvA t σ H vs) (hs : SpL sp (.ref a :: (vs ++ [])) H xs) : EvL (tMeth C m sp [] E ta t) σ H xs := fun H1 e Q q =>
  ha H1 e _ fun H2 e2 => ⟨a, dx, fs, rfl, (e.trans e2) _ _ h, hl, ht H2 (e.trans e2) _ fun H3 e3 => hs H3 ((e.trans e2).trans e3) _ (fun p H4 hp e4 h4 => q p H4 (fresh_back (e2.trans e3) hp) ((e2.trans e3).trans e4) h4) E⟩
theorem eq_meth {P : V → Hp → Prop} (ha : Ev ta σ H (.ref a)) (h : H a = some (.ins C dx fs)) (hl : fs.lookup m = none) (ht : EvA t σ H vs) {Q : VK} (hs : ∀ H1, Ex H H1 → ∀ Q : VK, (∀ v H2, P v H2 → Q v H2) → sp (.ref a :: (vs ++ [])) H1 Q E) (q : ∀ v H2, P v H2 → Q v H2) : tMeth C m sp [] E ta t σ H Q :=
  ha H (Ex.refl _) _ fun H2 e2 => ⟨a, dx, fs, rfl, e2 _ _ h, hl, ht H2 e2 _ fun H3 e3 => hs H3 (e2.trans e3) _ q⟩
theorem s_forQ {P : V → Hp → Prop} (hh : ∀ Q : VK, (∀ v H1, P v H1 → Q v H1) → te σ H Q) (k : ∀ v H1, P v H1 → ∃ (a : Addr) (xs : List V), v = .ref a ∧ H1 a = some (.lst xs) ∧ ∃ Pv : Nat → L2.St → Hp → Prop, Pv 0 σ H1 ∧ (∀ i σ' H', i ≤ xs.length → Pv i σ' H' → H' a = some (.lst xs)) ∧
    (∀ i x σ' H', xs[i]? = some x → Pv i σ' H' → g x σ' H' fun σ2 H2 => tu { D with nx := Pv (i + 1), ct := Pv (i + 1), bk := D.nx } σ2 H2) ∧ ∀ σ' H', Pv xs.length σ' H' → D.nx σ' H') : tFor (iList K te) g tu D σ H :=
  hh _ fun v H1 p => by
    obtain ⟨a, xs, rfl, h1, Pv, h2, h3, h4, h5⟩ := k v H1 p
    exact ⟨a, rfl, ⟨xs, sq_of h1⟩, for_list Pv h2 (fun i σ' H' hi z => sq_of (h3 i σ' H' hi z)) h4 h5⟩
end
section
variable {σ : L2.St} {H : Hp} {ta tb tv td ty : TE} {c : TT} {t u : TS} {D : Ends} {r : R2}
theorem s_ifQ {P : Bool → Hp → Prop} (h : ∀ Q : Bool → Hp → Prop, (∀ b H1, P b H1 → Q b H1) → c σ H Q) (h1 : ∀ H1, P true H1 → t D σ H1) (h2 : ∀ H1, P false H1 → u D σ H1) : tIfS c t u D σ H := h _ fun b H1 p => by
  cases b with
  | true => exact h1 H1 p
  | false => exact h2 H1 p
theorem et_opQ {P : V → Hp → Prop} {Q : Bool → Hp → Prop} (h : ∀ Q : VK, (∀ v H1, P v H1 → Q v H1) → ta σ H Q) (k : ∀ v H1, P v H1 → tb σ H1 fun y H3 => r v y H3 fun z H4 => ∃ b, z = .bl b ∧ Q b H4) : tTest (tOp r ta tb) σ H Q := h _ fun v H1 p => k v H1 p
theorem s_dputQ {P : V → Hp → Prop} (h : ∀ Q : VK, (∀ v H1, P v H1 → Q v H1) → tv σ H Q) (k : ∀ v H1, P v H1 → td σ H1 fun x H2 => ty σ H2 fun y H3 => ∃ a H4, x = .ref a ∧ DPut H3 a y v H4 ∧ D.nx σ H4) : sDPut td ty tv D σ H := h _ fun v H1 p => k v H1 p
theorem et_din {a : Addr} {y : V} {o : Option V} (hy : Ev ty σ H y) (hd : Ev td σ H (.ref a)) (h : DGet H a y o) : EvT (tB (tDIn ty td)) σ H o.isSome := fun H1 e Q q =>
  hy H1 e _ fun H2 e2 => hd H2 (e.trans e2) _ fun H3 e3 => ⟨a, o, rfl, dget_ex h ((e.trans e2).trans e3), _, rfl, q H3 (e2.trans e3)⟩
theorem et_andQ {P : Bool → Hp → Prop} {t2 : TT} {a : Bool} {Q : Bool → Hp → Prop} (h : EvT c σ H a) (h2 : a = true → ∀ H1, Ex H H1 → t2 σ H1 Q) (h3 : a = false → ∀ H1, Ex H H1 → Q false H1) : tAnd c t2 σ H Q := h H (Ex.refl _) _ fun H1 e => by
  cases a with
  | true => exact h2 rfl H1 e
  | false => exact h3 rfl H1 e
end
theorem TabAt.pro {L : List Str} {C F F2 H : Hp} {t : Addr} {kvs : List (Key × V)} {T : Tab} (h : TabAt L C F2 H t kvs T) (e : Ex F F2) : TabAt L C F H t kvs T := by
  obtain ⟨h1, h2, h3, h4, h5, h6⟩ := h
  exact ⟨h1, h2, fresh_back e h3, h4.imp fun f _ z => z.imp fun a kws _ g2 g3 g4 g5 => ⟨g2, g3, fresh_back e g4, g5⟩, h5, h6⟩
theorem TabAt.eq {L : List Str} {C F H : Hp} {t : Addr} {kvs : List (Key × V)} {T T2 : Tab} (h : TabAt L C F H t kvs T) (e : T = T2) : TabAt L C F H t kvs T2 := by
  rw [← e]
  exact h
/-- makes and their numbers -/
def MkD (C : Hp) (d : Addr) (num : Nat → Option Nat) : Prop := ∃ kvs, C d = some (.dK kvs) ∧ ∀ m : Nat, valV kvs (kN m) = (num m).map fun n => V.int (n : Nat)
theorem MkD.mono {C C2 : Hp} {d : Addr} {num : Nat → Option Nat} (h : MkD C d num) (e : Ex C C2) : MkD C2 d num := by
  obtain ⟨kvs, h1, h2⟩ := h
  exact ⟨kvs, e _ _ h1, h2⟩
theorem MkD.get {C H : Hp} {d : Addr} {num : Nat → Option Nat} (h : MkD C d num) (e : Ex C H) (m : Nat) : DGet H d (.int (m : Nat)) ((num m).map fun n => V.int (n : Nat)) := by
  obtain ⟨kvs, h1, h2⟩ := h
  rw [← h2 m]
  exact DGet.k (k := kN m) (e _ _ h1)
def conv (num : Nat → Option Nat) (ps : Post) : Post := ps.filterMap fun x => (num x.1).map fun n => (n, x.2)
theorem conv_snoc (num : Nat → Option Nat) (ps : Post) (x : Nat × List Nat) : conv num (ps ++ [x]) = conv num ps ++ (match num x.1 with | some n => [(n, x.2)] | none => []) := by
  unfold conv
  rw [List.filterMap_append]
  cases h : num x.1 with
  | none => simp [h]
  | some n => simp [h]
theorem conv_len (num : Nat → Option Nat) (ps : Post) : (conv num ps).length ≤ ps.length := List.length_filterMap_le _ _
def add1 (T : Tab) (f w : Str) (x : Post) : Tab := fun g v => if g = f ∧ v = w then T g v ++ x else T g v
def gatT (T : Tab) (f : Str) (num : Nat → Option Nat) (Tp : Tab) : Tab := fun g w => if g = f then T g w ++ conv num (Tp f w) else T g w
abbrev StandO (K : PySem.W.Frag) (dx tx tb lg : Addr) : HO := .ins (adStand K) dx [("texts", .ref tx), ("table", .ref tb), ("lengths", .ref lg)]
theorem fr_none {F H : Hp} {a : Addr} {o : HO} (h : fr F H a = some o) : F a = none := by
  unfold fr at h
  cases hq : F a with
  | none => rfl
  | some u =>
    rw [hq] at h
    cases h
/-- what one posting more leaves -/
theorem tab_one {L : List Str} {C F H H1 : Hp} {t a p tp : Addr} {kvs kws : List (Key × V)} {T : Tab} {f w : Str} {ts : List Addr} {n : Nat} {q : Addr} {ps : List Nat} (h : TabAt L C F H t kvs T) (hv : valV kvs (kS f) = some (.ref a)) (ha : H a = some (.dK kws)) (hD : Dct L kws (InR C (T f)))
    (eC : Ex C (fr F H)) (eF : Ex F H) (e1 : Ex H H1) (hp : H p = none) (ht : H tp = none) (hp1 : H1 p = some (.lst (ts.map V.ref ++ [.ref tp]))) (ht1 : H1 tp = some (.tup [.int (n : Nat), .ref q])) (hts : Paired (fun t (x : Nat × List Nat) => ∃ q, C t = some (.tup [.int (x.1 : Nat), .ref q]) ∧ C q = some (.lst (nats x.2))) ts (T f w))
    (hq : C q = some (.lst (nats ps))) (hw : w ∈ L) : TabAt L (jn C H H1) F (upd H1 a (.dK (putK kws (kS w) (.ref p)))) t kvs (add1 T f w [(n, ps)]) ∧ Ex C (jn C H H1) ∧ Ex (jn C H H1) (fr F (upd H1 a (.dK (putK kws (kS w) (.ref p))))) ∧ Ex F (upd H1 a (.dK (putK kws (kS w) (.ref p)))) := by
  have eCH : Ex C H := eC.trans fr_ex
  have eCj : Ex C (jn C H H1) := jn_ex eCH
  have hv2 := h.2.2.2.1.val f
  rw [hv] at hv2
  obtain ⟨b, kw, eb, g2, g3, g4, g5⟩ := hv2
  cases eb
  have hja : jn C H H1 a = none := by rw [jn_old (ns ha)]; exact g3
  refine ⟨tab_in h hv (fun b o hb => ?_) eCj (fun x hx => jn_old hx) (fun _ _ => rfl) (fun g hg => ?_) upd_same (hD.put hw ⟨p, rfl, ts ++ [tp], ?_, ?_⟩ fun u hu z => (z.mono eCj).eq ?_), eCj, ?_, (eF.trans e1).mut g4⟩
  · have hba : b ≠ a := fun z => by
      rw [z, del_at] at hb
      cases hb
    rw [upd_ne hba]
    exact e1 _ _ (del_ex _ _ hb)
  · funext v
    unfold add1
    rw [if_neg (fun z => hg z.1)]
  · rw [jn_new hp, hp1, List.map_append]
    rfl
  · have e9 : add1 T f w [(n, ps)] f w = T f w ++ [(n, ps)] := if_pos ⟨rfl, rfl⟩
    rw [e9]
    refine Paired.snoc (Paired.mapP hts fun b x ⟨q, q1, q2⟩ => ⟨q, eCj _ _ q1, eCj _ _ q2⟩) ⟨q, ?_, eCj _ _ hq⟩
    rw [jn_new ht]
    exact ht1
  · unfold add1
    rw [if_neg (fun z => hu z.2)]
  · rw [fr_upd g4]
    exact (jn_fr eC eF e1).mut hja
/-- the words' old list -/
theorem old_list {C H : Hp} {F : Str → Post} {w : Str} {o : Option V} (h : InR C F w o) (e : Ex C H) : ∃ ts : List Addr, OldL H (ts.map V.ref) o ∧ Paired (fun t (x : Nat × List Nat) => ∃ q, C t = some (.tup [.int (x.1 : Nat), .ref q]) ∧ C q = some (.lst (nats x.2))) ts (F w) := by
  cases o with
  | none =>
    have h2 : F w = [] := h
    exact ⟨[], rfl, by rw [h2]; exact .nil⟩
  | some u =>
    obtain ⟨l2, rfl, ts, h11, h12⟩ := h
    exact ⟨ts, ⟨l2, rfl, e _ _ h11⟩, h12⟩
def sp_Stand_gather (K : PySem.W.Frag) : Sp := fun vs H Q _ => ∃ (L : List Str) (C F : Hp) (s dx tx tb lg pc mdd : Addr) (mk : List Nat) (T Tp : Tab) (f : Str) (num : Nat → Option Nat) (kvs : List (Key × V)) (lk : List (List Key × V)) (N : Nat), vs = [.ref s, .ref pc, .str f, .ref mdd] ∧ L.length ≤ 60 ∧ f ∈ L ∧
  C s = some (StandO K dx tx tb lg) ∧ PieceAt K L F pc mk Tp ∧ mk.length ≤ 60 ∧ MkD F mdd num ∧ C lg = some (.dT lk) ∧ LenOk N lk ∧ N ≤ 80000 ∧ Ex F H ∧ Ex C (fr F H) ∧ (∀ w, (T f w).length + (Tp f w).length ≤ 1000 ∧ (Tp f w).length ≤ 60) ∧ TabAt L C F H tb kvs T ∧
  ∀ H' C' kvs' lk', Ex F H' → Ex (del C lg) C' → Ex C' (fr F H') → C' lg = some (.dT lk') → LenOk (N + 60) lk' → TabAt L C' F H' tb kvs' (gatT T f num Tp) → Q .non H'
theorem sc_Stand_gather : FnScope ["self", "piece", "field", "makes", "make", "word", "places", "words"] ["self", "piece", "field", "makes"] (defScope s_Stand_gather) := ⟨rfl, rfl, rfl, by decide +kernel, rfl, by decide +kernel, by decide +kernel⟩
theorem ok_Stand_gather {P : Program} {w : World} {K : PySem.W.Frag} {mg : Str → Option Value} {base : Heap} (G : Gm K (adStand K) "gather" "Stand.gather" s_Stand_gather) (T : Tx K mg) (O_Piece_makes : OkM P w K mg base 1 (adPiece K) "makes" ["self"] (sp_Piece_makes K)) (O_Piece_length : OkM P w K mg base 1 (adPiece K) "length" ["self", "make", "field"] (sp_Piece_length K)) (O_Piece_words : OkM P w K mg base 1 (adPiece K) "words" ["self", "field"] (sp_Piece_words K)) (O_Piece_postings : OkM P w K mg base 2 (adPiece K) "postings" ["self", "field", "word"] (sp_Piece_postings K)) : OkM P w K mg base 3 (adStand K) "gather" ["self", "piece", "field", "makes"] (sp_Stand_gather K) := by
  refine G.ok (k := 2) sc_Stand_gather (fun _ _ _ _ _ _ us hl => match us, hl with | [_, _, _, _], _ => rfl) (fun vs H Q E h => ?_) (fun f cdv A outer s H vs Q E hr h => ?_)
  · unfold sp_Stand_gather at h
    repeat (first | (obtain ⟨rfl, h⟩ := h; rfl) | (obtain ⟨_, h⟩ := h))
  have hu := hu_of hr
  refine ⟨_, (pss_cons (ps_for PassesOwn.never rfl (pi_list (pe_mt0 O_Piece_makes (hr.mono (by decide)) T.cPiece (pv 1))) (pgv 4 sc_Stand_gather.nd)
        (pss_one (ps_if (PW.pt (pw_and (pt_cmp (pc_din hu (pv 4) (pv 3))) (pw_and1 (pt_cmpR op_gt (pe_mt O_Piece_length (hr.mono (by decide)) T.cPiece (pv 1) (pa_cons (pv 4) (pa_cons (pv 2) pa_nil))) pe_int (nomark _))))) (pss_one (ps_dput hu (pe_fldK K (pv 0)) (pe_tup (pa_cons (pe_dget hu (pv 3) (pv 4) (fun _ _ => rfl)) (pa_cons (pv 2) pa_nil))) (pe_mt O_Piece_length (hr.mono (by decide)) T.cPiece (pv 1) (pa_cons (pv 4) (pa_cons (pv 2) pa_nil))) rfl)) pss_nil)))
      (pss_one (ps_for PassesOwn.never rfl (pi_list (pe_mt O_Piece_words (hr.mono (by decide)) T.cPiece (pv 1) (pa_cons (pv 2) pa_nil))) (pgv 5 sc_Stand_gather.nd)
        (pss_one (ps_for PassesOwn.never rfl (pi_list (pe_mt O_Piece_postings (hr.mono (by decide)) T.cPiece (pv 1) (pa_cons (pv 2) (pa_cons (pv 5) pa_nil)))) (pg_tup rfl (pgs_cons (pgv 4 sc_Stand_gather.nd) (pgs_cons (pgv 6 sc_Stand_gather.nd) pgs_nil)))
          (pss_one (ps_if (pt_cmp (pc_din hu (pv 4) (pv 3))) (pss_cons (psv 7 sc_Stand_gather.nd (pe_dget2 hu (pe_fldK K (pv 0)) (pv 2) pe_dnewK (M2.of rfl)))
            (pss_cons (ps_dput hu (pe_fldK K (pv 0)) (pv 2) (pv 7) rfl)
            (pss_one (ps_dput hu (pv 7) (pv 5) (pe_op op_cat (pe_dget2 hu (pv 7) (pv 5) (pe_lst pa_nil) (M2.of rfl)) (pe_lst (pa_cons (pe_tup (pa_cons (pe_dget hu (pv 3) (pv 4) (fun _ _ => rfl)) (pa_cons (pv 6) pa_nil))) pa_nil))) rfl)))) pss_nil))))))), ?_⟩
  obtain ⟨L, C, F, sA, dx, tx, tb, lg, pc, mdd, mk, T9, Tp, fl, num, kvs, lk, N, rfl, hL, hfL, hsC, hPc, hmk, hMd, hlC, hLen, hN, eF, eC, hTl, hT, k⟩ := h
  have eCH : Ex C H := eC.trans fr_ex
  have hFl : F lg = none := fr_none (eC _ _ hlC)
  have hFs : F sA = none := fr_none (eC _ _ hsC)
  obtain ⟨pdx, phm, plg, ptb, plk, hp1, hp2, hp3, hp4, hp5⟩ := id hPc
  have hsl : sA ≠ lg := fun z => by
    rw [z, hlC] at hsC
    cases hsC
  have eFd : Ex F (del H lg) := fun b o hb => by
    rw [del_ne (own_ne hb hFl)]
    exact eF _ _ hb
  -- the lengths
  refine s_forY (D := { nx := _, rt := _ }) (H := del H lg) (ex_listN (es := mk) (F := fun n : Nat => V.int (n : Nat)) (el_meth (ev_var rfl) (eFd _ _ hp1) rfl ea_nil fun H1 e1 Q1 q1 E1 => ⟨L, F, pc, mk, Tp, rfl, hPc, eFd.trans e1, q1⟩)) del_ex
    (fun Hg i σ H1 => ∃ y4 y5 y6 y7 lk', σ = [some (.ref sA), some (.ref pc), some (.str fl), some (.ref mdd), y4, y5, y6, y7] ∧ Ex (del H lg) H1 ∧ Ex Hg H1 ∧ H1 lg = some (.dT lk') ∧ LenOk (N + i) lk') (fun Hg H1 eg hgn e1 eg1 => ⟨none, none, none, none, lk, rfl, del_ex.trans e1, eg1, (eCH.trans e1) _ _ hlC, hLen⟩) (fun Hg i σ H1 ⟨_, _, _, _, _, _, _, e, _⟩ => e) ?_ ?_
  · rintro Hg eg hgn i m σ H1 hi ⟨y4, y5, y6, y7, lk', rfl, e1, e1g, hl1, hLen1⟩ H2 e2
    have hil : i < mk.length := (List.getElem?_eq_some_iff.mp hi).1
    have hgl : Hg lg = none := hgn lg (ns (eCH _ _ hlC)) del_at
    have eF2 : Ex F H2 := eFd.trans (e1.trans e2)
    have hget := fun H3 (e3 : Ex H2 H3) => hMd.get (eF2.trans e3) m
    have hlen : ∀ (σ9 : L2.St) H3, Ex H2 H3 → σ9[1]? = some (some (.ref pc)) → σ9[2]? = some (some (.str fl)) → σ9[4]? = some (some (.int (m : Nat))) → ∀ Q9 : VK, (∀ (n : Nat) H4, Ex H3 H4 → Q9 (.int (n : Nat)) H4) → tMeth (adPiece K) "length" (sp_Piece_length K) [] E0 (tVar 1) (tCons (tVar 4) (tCons (tVar 2) tNil)) σ9 H3 Q9 := fun σ9 H3 e3 s1 s2 s4 Q9 q9 =>
      eq_meth (P := fun v H4 => ∃ n : Nat, v = .int (n : Nat) ∧ Ex H3 H4) (ev_var s1) ((eF2.trans e3) _ _ hp1) rfl (ea_cons (ev_var s4) (ea_cons (ev_var s2) ea_nil)) (fun H4 e4 Q4 q4 => ⟨L, F, pc, mk, Tp, m, fl, rfl, hPc, (eF2.trans e3).trans e4, fun n H5 e5 => q4 _ _ ⟨n, rfl, e4.trans e5⟩⟩) fun v H4 ⟨n, hv, e4⟩ => by
        subst hv
        exact q9 n H4 e4
    refine s_ifQ (P := fun b H3 => Ex H2 H3 ∧ (b = true → ∃ n, num m = some n)) (fun Q3 q3 => ?_) (fun H3 ⟨e3, hb⟩ => ?_) (fun H3 ⟨e3, _⟩ => ?_)
    · refine et_andQ (P := fun _ _ => True) (et_din (ev_var rfl) (ev_var rfl) (hget H2 (Ex.refl _))) (fun hn H3 e3 => ?_) fun _ H3 e3 => q3 false H3 ⟨e3, fun z => nomatch z⟩
      refine et_opQ (P := fun v H4 => ∃ n : Nat, v = .int (n : Nat) ∧ Ex H2 H4) (fun Q4 q4 => hlen _ H3 e3 rfl rfl rfl Q4 fun n H4 e4 => q4 _ _ ⟨n, rfl, e3.trans e4⟩) fun v H4 ⟨n, hv, e4⟩ => ?_
      subst hv
      refine ⟨_, _, rfl, rfl, _, rfl, q3 _ H4 ⟨e4, fun _ => ?_⟩⟩
      cases hc : num m with
      | none =>
        rw [hc] at hn
        cases hn
      | some n => exact ⟨n, rfl⟩
    · obtain ⟨n, hn⟩ := hb rfl
      refine s_dputQ (P := fun v H4 => ∃ n : Nat, v = .int (n : Nat) ∧ Ex H2 H4) (fun Q4 q4 => hlen _ H3 e3 rfl rfl rfl Q4 fun n H4 e4 => q4 _ _ ⟨n, rfl, e3.trans e4⟩) fun v H4 ⟨n2, hv, e4⟩ => ?_
      subst hv
      have hs4 : H4 sA = some (StandO K dx tx tb lg) := (e1.trans (e2.trans e4)) _ _ (by rw [del_ne hsl]; exact eCH _ _ hsC)
      have hg4 := hget H4 e4
      rw [hn] at hg4
      refine ⟨_, rfl, sA, adStand K, dx, _, .ref lg, rfl, hs4, T.cStand, T.aStand_lengths, rfl, ?_⟩
      refine ⟨_, rfl, _, rfl, mdd, _, rfl, hg4, _, rfl, sizeLine_of (by simp), fun b hb => ?_⟩
      have e5 := Ex.new (o := .tup [.int (n : Nat), .str fl]) hb
      have hl5 : upd H4 b (.tup [.int (n : Nat), .str fl]) lg = some (.dT lk') := e5 _ _ ((e2.trans e4) _ _ hl1)
      refine ⟨lg, _, rfl, .inr ⟨lk', [Sum.inl (n : Int), Sum.inr fl], b, hl5, rfl, upd_same, sizeLine_lt (by have := hLen1.2; omega), rfl⟩, _, _, _, _, _, rfl, (e1.trans ((e2.trans e4).trans e5)).mut del_at, (e1g.trans ((e2.trans e4).trans e5)).mut hgl, upd_same, ⟨fun k2 v2 hv2 => ?_, ?_⟩⟩
      · rw [valV_put] at hv2
        split at hv2
        · cases hv2
          exact ⟨_, rfl⟩
        · exact hLen1.1 k2 v2 hv2
      · have := length_putK lk' [Sum.inl (n : Int), Sum.inr fl] (.int (n2 : Nat))
        have := hLen1.2
        omega
    · exact ⟨_, _, _, _, lk', rfl, e1.trans (e2.trans e3), e1g.trans (e2.trans e3), (e2.trans e3) _ _ hl1, hLen1.1, by have := hLen1.2; omega⟩
  · rintro Hg eg σ H1 ⟨y4, y5, y6, y7, lk', rfl, e1, e1g, hl1, hLen1⟩
    have n1 : ∀ xs, C lg ≠ some (.lst xs) := fun xs z => by
      rw [hlC] at z
      cases z
    have n2 : ∀ xs, C lg ≠ some (.tup xs) := fun xs z => by
      rw [hlC] at z
      cases z
    have eH1 : Ex (upd H lg (.dT lk')) H1 := fun b o hb => by
      by_cases c : b = lg
      · subst c
        rw [upd_same] at hb
        rw [hl1]
        exact hb
      · rw [upd_ne c] at hb
        exact e1 _ _ (by rw [del_ne c]; exact hb)
    have hT1 : TabAt L (upd C lg (.dT lk')) F H1 tb kvs T9 := (hT.swap (o := .dT lk') (ns hlC) n1 n2).ex eH1
    have eF1 : Ex F H1 := eFd.trans e1
    generalize hC1 : upd C lg (.dT lk') = C1 at hT1
    have eC1 : Ex C1 (fr F H1) := by
      rw [← hC1]
      intro b o hb
      by_cases c : b = lg
      · subst c
        rw [upd_same] at hb
        rw [fr_at hFl, hl1]
        exact hb
      · rw [upd_ne c] at hb
        rw [fr_at (fr_none (eC _ _ hb))]
        exact e1 _ _ (by rw [del_ne c]; exact eCH _ _ hb)
    have hs1 : C1 sA = some (StandO K dx tx tb lg) := by
      rw [← hC1, upd_ne hsl]
      exact hsC
    have hl1C : C1 lg = some (.dT lk') := by
      rw [← hC1]
      exact upd_same
    have dC1 : Ex (del C lg) C1 := by
      rw [← hC1]
      exact del_upd
    clear hC1
    refine s_forQ (P := NamesAt L (fun w => Tp fl w ≠ []) H1) (fun Q3 q3 => eq_meth (P := NamesAt L (fun w => Tp fl w ≠ []) H1) (ev_var rfl) (eF1 _ _ hp1) rfl (ea_cons (ev_var rfl) ea_nil) (fun H2 e2 Q4 q4 => ⟨L, F, pc, mk, Tp, fl, rfl, hL, hPc, eF1.trans e2, fun v H3 ⟨p, ks, z1, z2, z3, z4⟩ => q4 v H3 ⟨p, ks, z1, fresh_back e2 z2, e2.trans z3, z4⟩⟩) q3) fun v H2 ⟨p, ks, hv, hp, e2, h2, hnd, hkl, hin, hall⟩ => ?_
    have eC1' : Ex C1 H1 := eC1.trans fr_ex
    refine ⟨p, ks.map V.str, hv, h2, fun i σ H' => ∃ z4 z5 z6 z7 C' kvs', σ = [some (.ref sA), some (.ref pc), some (.str fl), some (.ref mdd), z4, z5, z6, z7] ∧ Ex F H' ∧ Ex C' (fr F H') ∧ Ex (jn C1 H1 H2) C' ∧ TabAt L C' F H' tb kvs' (fun g w => if g = fl ∧ w ∈ ks.take i then T9 g w ++ conv num (Tp fl w) else T9 g w), ?_, ?_, ?_, ?_⟩
    · refine ⟨_, _, _, _, jn C1 H1 H2, kvs, rfl, eF1.trans e2, jn_fr eC1 eF1 e2, Ex.refl _, ((hT1.gr (jn_ex eC1') fun x hx => jn_old hx).ex e2).eq ?_⟩
      funext g w
      rw [if_neg (by simp)]
    · rintro i σ H' _ ⟨_, _, _, _, C', _, _, _, eC', eCC, _⟩
      exact (eC'.trans fr_ex) _ _ (eCC _ _ (by rw [jn_new hp]; exact h2))
    · rintro i x σ H' hi ⟨z4, z5, z6, z7, C', kvs', rfl, eF', eC', eCC, hT'⟩
      obtain ⟨w, hw, rfl⟩ := map_at hi
      have hwL := hin w (List.mem_of_getElem? hw)
      have hwn := nodup_take hnd hw
      have eC'' : Ex C' H' := eC'.trans fr_ex
      show tFor _ _ _ _ [some (.ref sA), some (.ref pc), some (.str fl), some (.ref mdd), z4, some (.str w), z6, z7] H'
      refine s_forQ (P := fun v H3 => ∃ p, v = .ref p ∧ H' p = none ∧ Ex H' H3 ∧ PostAt (fr H' H3) p (Tp fl w)) (fun Q3 q3 => eq_meth (P := fun v H3 => ∃ p, v = .ref p ∧ H' p = none ∧ Ex H' H3 ∧ PostAt (fr H' H3) p (Tp fl w)) (ev_var rfl) (eF' _ _ hp1) rfl (ea_cons (ev_var rfl) (ea_cons (ev_var rfl) ea_nil)) (fun H3 e3 Q4 q4 => ⟨L, F, pc, mk, Tp, fl, w, rfl, ?_, hPc, eF'.trans e3, fun p H4 hp4 e4 hpp => q4 _ _ ⟨p, rfl, fresh_back e3 hp4, e3.trans e4, hpp.mono (fr_back e3)⟩⟩) q3) fun v H3 ⟨p3, hv3, hp3', e3, hpp⟩ => ?_
      · exact (hTl w).2
      obtain ⟨es, hes, ⟨ts, htl, htp⟩, hqs⟩ := (hpp.mono (fr_jn (G := C'))).es
      have eC3 : Ex (jn C' H' H3) (fr F H3) := jn_fr eC' eF' e3
      have eC3H := eC3.trans fr_ex
      have hel : ts.length = (Tp fl w).length := by
        rw [htp.length, ← hes, List.length_map]
      refine ⟨p3, ts.map V.ref, hv3, eC3H _ _ htl, fun j σ H4 => ∃ u4 u6 u7 C4 kvs4, σ = [some (.ref sA), some (.ref pc), some (.str fl), some (.ref mdd), u4, some (.str w), u6, u7] ∧ Ex F H4 ∧ Ex C4 (fr F H4) ∧ Ex (jn C' H' H3) C4 ∧ TabAt L C4 F H4 tb kvs4 (add1 (fun g w => if g = fl ∧ w ∈ ks.take i then T9 g w ++ conv num (Tp fl w) else T9 g w) fl w (conv num ((Tp fl w).take j))), ?_, ?_, ?_, ?_⟩
      · refine ⟨_, _, _, jn C' H' H3, kvs', rfl, eF'.trans e3, eC3, Ex.refl _, ((hT'.gr (jn_ex eC'') fun x hx => jn_old hx).ex e3).eq ?_⟩
        funext g v
        have h0 : conv num ((Tp fl w).take 0) = [] := rfl
        unfold add1
        by_cases c : g = fl ∧ v = w
        · rw [if_pos c, h0, List.append_nil]
        · rw [if_neg c]
      · rintro j σ H4 _ ⟨_, _, _, C4, _, _, _, eC4, eCC4, _⟩
        exact (eC4.trans fr_ex) _ _ (eCC4 _ _ htl)
      · rintro j x σ H4 hj ⟨u4, u6, u7, C4, kvs4, rfl, eF4, eC4, eCC4, hT4⟩
        obtain ⟨t, ht, rfl⟩ := map_at hj
        obtain ⟨⟨m, q, ps⟩, he, hte⟩ := pd_getL htp ht
        have eC4H := eC4.trans fr_ex
        have hq4 : C4 q = some (.lst (nats ps)) := eCC4 _ _ (hqs _ (List.mem_of_getElem? he))
        have hTj : (Tp fl w)[j]? = some (m, ps) := by
          rw [← hes, List.getElem?_map, he]
          rfl
        have htk : (Tp fl w).take (j + 1) = (Tp fl w).take j ++ [(m, ps)] := by
          rw [List.take_succ, hTj]
          rfl
        have hcv : conv num ((Tp fl w).take (j + 1)) = conv num ((Tp fl w).take j) ++ (match num m with | some n => [(n, ps)] | none => []) := by
          rw [htk, conv_snoc]
        refine ⟨t, _, rfl, st_of (eC4H _ _ (eCC4 _ _ hte)), rfl, _, _, rfl, _, _, rfl, rfl, ?_⟩
        show tIfS _ _ _ _ [some (.ref sA), some (.ref pc), some (.str fl), some (.ref mdd), some (.int (m : Nat)), some (.str w), some (.ref q), u7] H4
        have hgt := hMd.get eF4 m
        refine s_when (et_din (ev_var rfl) (ev_var rfl) hgt) (fun hb H5 e5 => ?_) fun hb H5 e5 => ?_
        · obtain ⟨n, hn⟩ : ∃ n, num m = some n := by
            cases hc : num m with
            | none =>
              rw [hc] at hb
              cases hb
            | some n => exact ⟨n, rfl⟩
          rw [hn] at hgt hcv
          have eF5 := eF4.trans e5
          have eC5 : Ex C4 (fr F H5) := eC4.trans (fr_to e5)
          have eC5H := eC5.trans fr_ex
          have hT5 := hT4.ex e5
          generalize hTw : add1 (fun g w => if g = fl ∧ w ∈ ks.take i then T9 g w ++ conv num (Tp fl w) else T9 g w) fl w (conv num ((Tp fl w).take j)) = Tw at hT5
          have hTwl : (Tw fl w).length ≤ 1000 := by
            have hx : Tw fl w = T9 fl w ++ conv num ((Tp fl w).take j) := by
              rw [← hTw]
              unfold add1
              rw [if_pos ⟨rfl, rfl⟩]
              exact congrArg (· ++ conv num ((Tp fl w).take j)) (if_neg (fun z => hwn z.2))
            rw [hx, List.length_append]
            have q1 := conv_len num ((Tp fl w).take j)
            rw [List.length_take] at q1
            have q2 := (hTl w).1
            omega
          have hs4 : C4 sA = some (StandO K dx tx tb lg) := eCC4 _ _ (jn_ex eC'' _ _ (eCC _ _ (jn_ex eC1' _ _ hs1)))
          have htbE : ∀ (σ9 : L2.St) H9, σ9[0]? = some (some (.ref sA)) → Ex H5 H9 → Ev (tFld K (tVar 0) "table") σ9 H9 (.ref tb) := fun σ9 H9 h0 e9 => ev_fld (ev_var h0) (e9 _ _ (eC5H _ _ hs4)) T.cStand T.aStand_table rfl
          obtain ⟨ht1, ht2, ht3, ht4, ht5, ht6⟩ := id hT5
          have hkl4 := ht4.len
          have rest : ∀ (a : Addr) (kws : List (Key × V)) (H6 : Hp), Ex H5 H6 → H6 a = some (.dK kws) → Dct L kws (InR C4 (Tw fl)) → C4 a = none → F a = none → a ≠ tb → (∀ g, g ≠ fl → valV kvs4 (kS g) ≠ some (.ref a)) →
              tSeq (sDPut (tFld K (tVar 0) "table") (tVar 2) (tVar 7)) (sDPut (tVar 7) (tVar 5) (tOp rCat (tDGet2 (tVar 7) (tVar 5) (tLst tNil)) (tLst (tCons (tTup (tCons (tDGet (tVar 3) (tVar 4)) (tCons (tVar 6) tNil))) tNil))))
                { nx := fun σ H4 => ∃ u4 u6 u7 C4 kvs4, σ = [some (.ref sA), some (.ref pc), some (.str fl), some (.ref mdd), u4, some (.str w), u6, u7] ∧ Ex F H4 ∧ Ex C4 (fr F H4) ∧ Ex (jn C' H' H3) C4 ∧ TabAt L C4 F H4 tb kvs4 (add1 (fun g w => if g = fl ∧ w ∈ ks.take i then T9 g w ++ conv num (Tp fl w) else T9 g w) fl w (conv num ((Tp fl w).take (j + 1)))), rt := Q }
                [some (.ref sA), some (.ref pc), some (.str fl), some (.ref mdd), some (.int (m : Nat)), some (.str w), some (.ref q), some (.ref a)] H6 := by
            intro a kws H6 e6 ha hD hCa hFa hat hinj
            refine s_dput (D := { nx := _, rt := _ }) (a := tb) (kvs := kvs4) (w := fl) (ev_var rfl) (htbE _ _ rfl e6) (ev_var rfl) (e6 _ _ ht1) (by omega) fun H7 e7 => ?_
            obtain ⟨hT7, hv7⟩ := tab_set (hT5.ex (e6.trans e7)) (e7 _ _ ha) hD hCa hFa hat hfL hinj
            generalize hHs : upd H7 tb (.dK (putK kvs4 (kS fl) (.ref a))) = Hs at hT7 ⊢
            have eFs : Ex F Hs := by
              rw [← hHs]
              exact ((eF5.trans e6).trans e7).mut ht3
            have eCs : Ex C4 (fr F Hs) := by
              rw [← hHs, fr_upd ht3]
              exact (eC5.trans (fr_to (e6.trans e7))).mut ht2
            have has : Hs a = some (.dK kws) := by
              rw [← hHs, upd_ne hat]
              exact e7 _ _ ha
            obtain ⟨ts2, ho2, hp2'⟩ := old_list (hD.val w) (eCs.trans fr_ex)
            have hl2 := hp2'.length
            have hgs := hMd.get eFs m
            rw [hn] at hgs
            refine s_dputQ (P := fun v H8 => ∃ p t, v = .ref p ∧ Hs p = none ∧ Hs t = none ∧ Ex Hs H8 ∧ H8 p = some (.lst (ts2.map V.ref ++ [.ref t])) ∧ H8 t = some (.tup [.int (n : Nat), .ref q])) (fun Q8 q8 => el_getcatU (a := a) (y := .str w) (o := valV kws (kS w)) (xs := ts2.map V.ref) (us := [.int (n : Nat), .ref q]) (ev_var rfl) (ev_var rfl) (DGet.k (k := kS w) has) ho2 (by rw [List.length_map]; omega)
              (eu_tup (ea_cons (ev_dget (a := mdd) (y := .int (m : Nat)) (ev_var rfl) (ev_var rfl) hgs) (ea_cons (ev_var rfl) ea_nil)) (by simp)) (Ex.refl _) fun p t H8 hp ht e8 h8 h9 => q8 _ _ ⟨p, t, rfl, hp, ht, e8, h8, h9⟩) fun v H8 ⟨p5, t5, hv5, hp5, ht5', e8, h8, h9⟩ => ?_
            subst hv5
            obtain ⟨r1, r2, r3, r4⟩ := tab_one hT7 hv7 has hD eCs eFs e8 hp5 ht5' h8 h9 hp2' hq4 hwL
            refine ⟨_, rfl, _, rfl, a, _, rfl, .inl ⟨kws, kS w, e8 _ _ has, rfl, sizeLine_lt (by have := hD.len; omega), rfl⟩, _, _, _, jn C4 Hs H8, _, rfl, r4, r3, eCC4.trans r2, r1.eq ?_⟩
            rw [← hTw, hcv]
            funext g v
            unfold add1
            by_cases c : g = fl ∧ v = w
            · rw [if_pos c, if_pos c, if_pos c, List.append_assoc]
            · rw [if_neg c, if_neg c, if_neg c]
          have hv := ht4.val fl
          cases hc : valV kvs4 (kS fl) with
          | some v =>
            rw [hc] at hv
            obtain ⟨a, kws, rfl, q2, q3, q4, q5⟩ := hv
            refine q_asg (v := .ref a) (ev_dgetN (a := tb) (y := .str fl) (htbE _ _ rfl (Ex.refl _)) (ev_var rfl) ?_) fun H6 e6 => rest a kws H6 e6 (e6 _ _ q2) q5 q3 q4 (fun z => ht5 fl (by rw [hc, z])) fun g hg z => hg (ht6 g fl _ z hc)
            rw [← hc]
            exact DGet.k (k := kS fl) ht1
          | none =>
            rw [hc] at hv
            have hg : DGet H5 tb (.str fl) none := by
              rw [← hc]
              exact DGet.k (k := kS fl) ht1
            refine q_asgN (a := tb) (y := .str fl) (htbE _ _ rfl (Ex.refl _)) (ev_var rfl) hg fun a H6 ha e6 h6 => rest a [] H6 e6 h6 (.nil fun w => hv w) (fresh_back eC5H ha) (fresh_back eF5 ha) (own_ne ht1 ha).symm fun g _ z => ?_
            have := ht4.val g
            rw [z] at this
            obtain ⟨b, kw, eb, g2, _⟩ := this
            cases eb
            rw [ha] at g2
            cases g2
        · have hn : num m = none := by
            cases hc : num m with
            | none => rfl
            | some n =>
              rw [hc] at hb
              cases hb
          rw [hn] at hcv
          refine ⟨_, _, _, C4, kvs4, rfl, eF4.trans e5, eC4.trans (fr_to e5), eCC4, (hT4.ex e5).eq ?_⟩
          rw [hcv, List.append_nil]
      · rintro σ H4 ⟨u4, u6, u7, C4, kvs4, rfl, eF4, eC4, eCC4, hT4⟩
        have hfull : (Tp fl w).take (ts.map V.ref).length = Tp fl w := by
          rw [List.length_map, hel, List.take_length]
        rw [hfull] at hT4
        refine ⟨_, _, _, _, C4, kvs4, rfl, eF4, eC4, eCC.trans ((jn_ex eC'').trans eCC4), hT4.eq ?_⟩
        funext g v
        show (if g = fl ∧ v = w then (if g = fl ∧ v ∈ ks.take i then T9 g v ++ conv num (Tp fl v) else T9 g v) ++ conv num (Tp fl w) else (if g = fl ∧ v ∈ ks.take i then T9 g v ++ conv num (Tp fl v) else T9 g v)) = if g = fl ∧ v ∈ ks.take (i + 1) then T9 g v ++ conv num (Tp fl v) else T9 g v
        have e9 : v ∈ ks.take (i + 1) ↔ v ∈ ks.take i ∨ v = w := by
          rw [List.take_succ, hw]
          simp
        by_cases c : g = fl
        · by_cases c2 : v = w
          · rw [if_pos ⟨c, c2⟩, if_neg (fun z => hwn (by rw [← c2]; exact z.2)), if_pos ⟨c, e9.mpr (.inr c2)⟩, c2]
          · rw [if_neg (fun z => c2 z.2)]
            by_cases c3 : v ∈ ks.take i
            · rw [if_pos ⟨c, c3⟩, if_pos ⟨c, e9.mpr (.inl c3)⟩]
            · rw [if_neg (fun z => c3 z.2), if_neg (fun z => (e9.mp z.2).elim c3 c2)]
        · rw [if_neg (fun z => c z.1), if_neg (fun z => c z.1), if_neg (fun z => c z.1)]
    · rintro σ H' ⟨z4, z5, z6, z7, C', kvs', rfl, eF', eC', eCC, hT'⟩
      rw [List.length_map, List.take_length] at hT'
      have dCl : Ex (del C lg) C' := dC1.trans ((jn_ex eC1').trans eCC)
      have hl' : C' lg = some (.dT lk') := eCC _ _ (jn_ex eC1' _ _ hl1C)
      refine k H' C' kvs' lk' eF' dCl eC' hl' ⟨hLen1.1, by have := hLen1.2; omega⟩ (hT'.eq ?_)
      funext g w
      unfold gatT
      by_cases c : g = fl
      · by_cases c2 : w ∈ ks
        · rw [if_pos ⟨c, c2⟩, if_pos c]
        · rw [if_neg (fun z => c2 z.2), if_pos c]
          have h0 : Tp fl w = [] := Decidable.byContradiction fun z => c2 (hall w z)
          rw [h0]
          exact (List.append_nil _).symm
      · rw [if_neg (fun z => c z.1), if_neg c]
end Fc
/-! Stands: how they are made, what they tell. -/
namespace Fc
open PySem PySem.Spec PyProof.Rows L2 Evl
def StandAt (K : PySem.W.Frag) (L : List Str) (C : Hp) (s : Addr) (nums : List Nat) (T : Tab) : Prop := ∃ dx tx tb lg kvt, C s = some (StandO K dx tx tb lg) ∧ C tx = some (.dK kvt) ∧ kvt.map Prod.fst = nums.map kN ∧ nums.Nodup ∧ (∀ n ∈ nums, n < 60) ∧ TiAt L C tb T
theorem StandAt.mono {K : PySem.W.Frag} {L : List Str} {C C2 : Hp} {s : Addr} {nums : List Nat} {T : Tab} (h : StandAt K L C s nums T) (e : Ex C C2) : StandAt K L C2 s nums T := by
  obtain ⟨dx, tx, tb, lg, kvt, h1, h2, h3, h4, h5, h6⟩ := h
  exact ⟨dx, tx, tb, lg, kvt, e _ _ h1, e _ _ h2, h3, h4, h5, h6.mono e⟩
theorem el_keysI {K : PySem.W.Frag} {σ : L2.St} {H : Hp} {td : TE} {tx : Addr} {kvt : List (Key × V)} {nums : List Nat} (hd : Ev td σ H (.ref tx)) (h2 : H tx = some (.dK kvt)) (h3 : kvt.map Prod.fst = nums.map kN) (h4 : nums.Nodup) (h5 : ∀ n ∈ nums, n < 60) :
    EvL (tCB rSortKI (tCons (tBM0 K "dict" rKeysV td) tNil)) σ H (nats (upto 60 fun n => decide (n ∈ nums))) := by
  intro H1 e1 Q q2
  refine hd H1 e1 _ fun H2 e2 => ⟨.inr (.inr (.inl ⟨rfl, .inl ⟨kvt, (e1.trans e2) _ _ h2⟩⟩)), tx, kvt, rfl, rfl, .inl ((e1.trans e2) _ _ h2), fun p hp => ?_⟩
  have hn60 : nums.length ≤ 60 := by
    have q := nodup_le (b := List.range 60) h4 fun n hn => List.mem_range.mpr (h5 n hn)
    rwa [List.length_range] at q
  refine ⟨p, tx, kvt, nums.map fun n : Nat => (n : Int), rfl, upd_same, .inl ((Ex.new hp) _ _ ((e1.trans e2) _ _ h2)), by rw [h3, List.map_map]; rfl, by rw [List.length_map]; omega, fun ys r pm hw hr => ?_⟩
  have e3 : Ex H1 (upd H2 p (keysO p tx)) := e2.trans (Ex.new hp)
  refine q2 r _ (fresh_back e3 hr) (e3.trans (Ex.new hr)) ?_
  have hnn : ∀ k ∈ ys, ∃ n : Nat, n ∈ nums ∧ k = (n : Int) := fun k hk => by
    obtain ⟨n, g1, g2⟩ := List.mem_map.mp (pm.mem_iff.mp hk)
    exact ⟨n, g1, g2.symm⟩
  have hnd : ys.Nodup := pm.nodup_iff.mpr (List.Pairwise.map _ (fun a b hab z => hab (by omega)) h4)
  have hlt : ys.Pairwise (· < ·) := by
    have := List.Pairwise.and hw hnd
    exact this.imp fun ⟨a, b⟩ => by omega
  have e4 : ys = (ys.map Int.toNat).map fun n : Nat => (n : Int) := by
    rw [List.map_map]
    apply List.ext_getElem (by simp)
    intro i g1 g2
    obtain ⟨n, _, hn⟩ := hnn ys[i] (List.getElem_mem g1)
    simp [hn]
  have e5 : ys.map Int.toNat = upto 60 fun n => decide (n ∈ nums) := by
    refine lt_ext ?_ (upto_lt _ _) fun k => ?_
    · rw [List.pairwise_map]
      refine List.Pairwise.imp_of_mem ?_ hlt
      intro x y hx hy hxy
      obtain ⟨n, _, rfl⟩ := hnn x hx
      obtain ⟨m, _, rfl⟩ := hnn y hy
      simpa using hxy
    · rw [upto_mem, decide_eq_true_iff, List.mem_map]
      constructor
      · rintro ⟨x, hx, rfl⟩
        obtain ⟨n, hn, rfl⟩ := hnn x hx
        simpa using ⟨h5 n hn, hn⟩
      · rintro ⟨_, hk⟩
        exact ⟨(k : Int), pm.mem_iff.mpr (List.mem_map.mpr ⟨k, hk, rfl⟩), by simp⟩
  rw [upd_same, e4, e5, List.map_map]
  rfl
def sp_Stand_documents (K : PySem.W.Frag) : Sp := fun vs H Q _ => ∃ (L : List Str) (C : Hp) (s : Addr) (nums : List Nat) (T : Tab), vs = [.ref s] ∧ StandAt K L C s nums T ∧ Ex C H ∧ RetL (nats (upto 60 fun n => decide (n ∈ nums))) H Q
theorem sc_Stand_documents : FnScope ["self"] ["self"] (defScope s_Stand_documents) := ⟨rfl, rfl, rfl, by decide +kernel, rfl, by decide +kernel, by decide +kernel⟩
theorem ok_Stand_documents {P : Program} {w : World} {K : PySem.W.Frag} {mg : Str → Option Value} {base : Heap} (G : Gm K (adStand K) "documents" "Stand.documents" s_Stand_documents) (T : Tx K mg) : OkM P w K mg base 1 (adStand K) "documents" ["self"] (sp_Stand_documents K) := by
  refine G.ok (k := 0) sc_Stand_documents (fun _ _ _ _ _ _ us hl => match us, hl with | [_], _ => rfl) (fun vs H Q E h => ?_) (fun f cdv A outer s H vs Q E hr h => ?_)
  · unfold sp_Stand_documents at h
    repeat (first | (obtain ⟨rfl, h⟩ := h; rfl) | (obtain ⟨_, h⟩ := h))
  have hu := hu_of hr
  refine ⟨_, (pss_one (ps_ret (pe_callB (id := "sorted") (cr_sortKI rfl) rfl T.n_sorted (by decide +kernel) (pa_cons (pe_bm0 PySem.F.plainAttrs_dict PySem.F.slot_dict_keys PySem.F.type_dict_keys mt_keysV (pe_fldK K (pv 0))) pa_nil)))), ?_⟩
  obtain ⟨L, C, sA, nums, T9, rfl, ⟨dx, tx, tb, lg, kvt, h1, h2, h3, h4, h5, h6⟩, eC, k⟩ := h
  exact s_retL (el_keysI (ev_fld (ev_var rfl) (eC _ _ h1) T.cStand T.aStand_texts rfl) (eC _ _ h2) h3 h4 h5) k
def sp_Stand_fields (K : PySem.W.Frag) : Sp := fun vs H Q _ => ∃ (L : List Str) (C : Hp) (s : Addr) (nums : List Nat) (T : Tab), vs = [.ref s] ∧ L.length ≤ 60 ∧ StandAt K L C s nums T ∧ Ex C H ∧ ∀ v H2, NamesAt L (fun f => ∃ w, T f w ≠ []) H v H2 → Q v H2
theorem sc_Stand_fields : FnScope ["self"] ["self"] (defScope s_Stand_fields) := ⟨rfl, rfl, rfl, by decide +kernel, rfl, by decide +kernel, by decide +kernel⟩
theorem ok_Stand_fields {P : Program} {w : World} {K : PySem.W.Frag} {mg : Str → Option Value} {base : Heap} (G : Gm K (adStand K) "fields" "Stand.fields" s_Stand_fields) (T : Tx K mg) : OkM P w K mg base 1 (adStand K) "fields" ["self"] (sp_Stand_fields K) := by
  refine G.ok (k := 0) sc_Stand_fields (fun _ _ _ _ _ _ us hl => match us, hl with | [_], _ => rfl) (fun vs H Q E h => ?_) (fun f cdv A outer s H vs Q E hr h => ?_)
  · unfold sp_Stand_fields at h
    repeat (first | (obtain ⟨rfl, h⟩ := h; rfl) | (obtain ⟨_, h⟩ := h))
  have hu := hu_of hr
  refine ⟨_, (pss_one (ps_ret (pe_callB (id := "sorted") (cr_sortKS rfl) rfl T.n_sorted (by decide +kernel) (pa_cons (pe_bm0 PySem.F.plainAttrs_dict PySem.F.slot_dict_keys PySem.F.type_dict_keys mt_keysV (pe_fldK K (pv 0))) pa_nil)))), ?_⟩
  obtain ⟨L, C, sA, nums, T9, rfl, hL, ⟨dx, tx, tb, lg, kvt, h1, h2, h3, h4, h5, h6⟩, eC, k⟩ := h
  exact s_retQ (C := NamesAt L (fun f => ∃ w, T9 f w ≠ []) H) (fun Q2 q2 => tab_fields h6 eC (ev_fld (ev_var rfl) (eC _ _ h1) T.cStand T.aStand_table rfl) hL (Ex.refl _) q2) k
def sp_Stand_words (K : PySem.W.Frag) : Sp := fun vs H Q _ => ∃ (L : List Str) (C : Hp) (s : Addr) (nums : List Nat) (T : Tab) (f : Str), vs = [.ref s, .str f] ∧ L.length ≤ 60 ∧ StandAt K L C s nums T ∧ Ex C H ∧ ∀ v H2, NamesAt L (fun w => T f w ≠ []) H v H2 → Q v H2
theorem sc_Stand_words : FnScope ["self", "field"] ["self", "field"] (defScope s_Stand_words) := ⟨rfl, rfl, rfl, by decide +kernel, rfl, by decide +kernel, by decide +kernel⟩
theorem ok_Stand_words {P : Program} {w : World} {K : PySem.W.Frag} {mg : Str → Option Value} {base : Heap} (G : Gm K (adStand K) "words" "Stand.words" s_Stand_words) (T : Tx K mg) : OkM P w K mg base 1 (adStand K) "words" ["self", "field"] (sp_Stand_words K) := by
  refine G.ok (k := 0) sc_Stand_words (fun _ _ _ _ _ _ us hl => match us, hl with | [_, _], _ => rfl) (fun vs H Q E h => ?_) (fun f cdv A outer s H vs Q E hr h => ?_)
  · unfold sp_Stand_words at h
    repeat (first | (obtain ⟨rfl, h⟩ := h; rfl) | (obtain ⟨_, h⟩ := h))
  have hu := hu_of hr
  refine ⟨_, (pss_one (ps_ret (pe_callB (id := "sorted") (cr_sortKS rfl) rfl T.n_sorted (by decide +kernel) (pa_cons (pe_bm0 PySem.F.plainAttrs_dict PySem.F.slot_dict_keys PySem.F.type_dict_keys mt_keysV (pe_dget2 hu (pe_fldK K (pv 0)) (pv 1) pe_dnewK (M2.of rfl))) pa_nil)))), ?_⟩
  obtain ⟨L, C, sA, nums, T9, fl, rfl, hL, ⟨dx, tx, tb, lg, kvt, h1, h2, h3, h4, h5, h6⟩, eC, k⟩ := h
  exact s_retQ (C := NamesAt L (fun w => T9 fl w ≠ []) H) (fun Q2 q2 => tab_words h6 eC (ev_fld (ev_var rfl) (eC _ _ h1) T.cStand T.aStand_table rfl) (ev_var rfl) hL (Ex.refl _) q2) k
def sp_Stand_postings (K : PySem.W.Frag) : Sp := fun vs H Q _ => ∃ (L : List Str) (C : Hp) (s : Addr) (nums : List Nat) (T : Tab) (f w : Str), vs = [.ref s, .str f, .str w] ∧ (T f w).length ≤ 60 ∧ StandAt K L C s nums T ∧ Ex C H ∧ RetP (T f w) H Q
theorem sc_Stand_postings : FnScope ["self", "field", "word"] ["self", "field", "word"] (defScope s_Stand_postings) := ⟨rfl, rfl, rfl, by decide +kernel, rfl, by decide +kernel, by decide +kernel⟩
theorem ok_Stand_postings {P : Program} {w : World} {K : PySem.W.Frag} {mg : Str → Option Value} {base : Heap} (G : Gm K (adStand K) "postings" "Stand.postings" s_Stand_postings) (T : Tx K mg) (O_copied_postings : OkF P w K mg base 1 "copied_postings" ["postings"] sp_copied_postings) : OkM P w K mg base 2 (adStand K) "postings" ["self", "field", "word"] (sp_Stand_postings K) := by
  refine G.ok (k := 1) sc_Stand_postings (fun _ _ _ _ _ _ us hl => match us, hl with | [_, _, _], _ => rfl) (fun vs H Q E h => ?_) (fun f cdv A outer s H vs Q E hr h => ?_)
  · unfold sp_Stand_postings at h
    repeat (first | (obtain ⟨rfl, h⟩ := h; rfl) | (obtain ⟨_, h⟩ := h))
  have hu := hu_of hr
  refine ⟨_, (pss_one (ps_ret (pe_fn O_copied_postings (hr.mono (by decide)) (pa_cons (pe_dget2 hu (pe_dget2 hu (pe_fldK K (pv 0)) (pv 1) pe_dnewK (M2.of rfl)) (pv 2) (pe_lst pa_nil) (M2.of rfl)) pa_nil)))), ?_⟩
  obtain ⟨L, C, sA, nums, T9, fl, wd, rfl, hT, ⟨dx, tx, tb, lg, kvt, h1, h2, h3, h4, h5, h6⟩, eC, k⟩ := h
  refine s_retQ (C := fun v H2 => ∃ p, v = .ref p ∧ H p = none ∧ Ex H H2 ∧ PostAt (fr H H2) p (T9 fl wd)) (fun Q2 q2 => ?_) fun v H2 ⟨p, hv, hp, e, hpp⟩ => by
    subst hv
    exact k p H2 hp e hpp
  refine call_1 (C := fun v H1 => ∃ a, v = .ref a ∧ Ex H H1 ∧ PostAt H1 a (T9 fl wd)) (fun Q3 q3 => tab_post (f := fl) (w := wd) h6 eC (ev_fld (ev_var rfl) (eC _ _ h1) T.cStand T.aStand_table rfl) (ev_var rfl) (ev_var rfl) (Ex.refl _) fun a H2 e ha => q3 _ _ ⟨a, rfl, e, ha⟩) fun v H1 ⟨a, hv, e1, ha⟩ => ?_
  subst hv
  exact ⟨a, _, rfl, ha, by omega, fun p H2 hp e2 hpp => q2 _ _ ⟨p, rfl, fresh_back e1 hp, e1.trans e2, hpp.mono (fr_back e1)⟩⟩
/-! ### arranging -/
theorem pd_perm {α β : Type} {R : α → β → Prop} : ∀ {xs xs2 : List α}, xs2.Perm xs → ∀ {ys : List β}, Paired R xs ys → ∃ ys2 : List β, ys2.Perm ys ∧ Paired R xs2 ys2 := by
  intro xs xs2 h
  induction h with
  | nil => exact fun {ys} p => ⟨ys, .refl _, p⟩
  | @cons x l1 l2 _ ih =>
    intro ys p
    cases p with
    | cons r p =>
      obtain ⟨ys2, h1, h2⟩ := ih p
      exact ⟨_ :: ys2, h1.cons _, .cons r h2⟩
  | @swap x y l =>
    intro ys p
    cases p with
    | cons r p =>
      cases p with
      | cons r2 p => exact ⟨_, .swap _ _ _, .cons r2 (.cons r p)⟩
  | @trans l1 l2 l3 _ _ ih1 ih2 =>
    intro ys p
    obtain ⟨ys2, h1, h2⟩ := ih2 p
    obtain ⟨ys3, h3, h4⟩ := ih1 h2
    exact ⟨ys3, h3.trans h1, h4⟩
theorem pd_nd {α β : Type} {R : α → β → Prop} {k : α → Int} {f : β → Int} (hR : ∀ x y, R x y → k x = f y) : ∀ {xs : List α} {ys : List β}, Paired R xs ys → (ys.map f).Nodup → ∀ x ∈ xs, ∀ y ∈ xs, k x = k y → x = y := by
  intro xs ys p
  induction p with
  | nil => exact fun _ x hx => absurd hx List.not_mem_nil
  | @cons a b l1 l2 r p ih =>
    intro hn
    rw [List.map_cons, List.nodup_cons] at hn
    have hk : ∀ x ∈ l1, k x ∈ l2.map f := by
      intro x hx
      obtain ⟨i, hi⟩ := List.getElem?_of_mem hx
      obtain ⟨y, hy, hr⟩ := pd_getL p hi
      rw [hR x y hr]
      exact List.mem_map.mpr ⟨y, List.mem_of_getElem? hy, rfl⟩
    intro x hx y hy e
    rcases List.mem_cons.mp hx with hx2 | hx2
    · rcases List.mem_cons.mp hy with hy2 | hy2
      · rw [hx2, hy2]
      · have := hk y hy2
        rw [← e, hx2, hR a b r] at this
        exact absurd this hn.1
    · rcases List.mem_cons.mp hy with hy2 | hy2
      · have := hk x hx2
        rw [e, hy2, hR a b r] at this
        exact absurd this hn.1
      · exact ih hn.2 x hx2 y hy2 e
theorem tabOf_app (a b : List (Nat × Doc)) (f w : Str) : tabOf (a ++ b) f w = tabOf a f w ++ tabOf b f w := by
  unfold tabOf
  exact List.filterMap_append
theorem conv_app (num : Nat → Option Nat) (a b : Post) : conv num (a ++ b) = conv num a ++ conv num b := by
  unfold conv
  exact List.filterMap_append
theorem flat_take_len {α β : Type} (l : List α) (g : α → List β) (i : Nat) : ((l.take i).flatMap g).length ≤ (l.flatMap g).length := by
  have e : l.flatMap g = (l.take i).flatMap g ++ (l.drop i).flatMap g := by
    rw [← List.flatMap_append, List.take_append_drop]
  rw [e, List.length_append]
  omega
theorem upd_back {H : Hp} {a : Addr} {o o2 : HO} (h : H a = some o) : upd (upd H a o2) a o = H := by
  funext b
  by_cases c : b = a
  · subst c
    rw [upd_same, h]
  · rw [upd_ne c, upd_ne c]
theorem listK_of {K : PySem.W.Frag} {σ : L2.St} {H : Hp} {td : TE} {d : Addr} {kws : List (Key × V)} (hd : Ev td σ H (.ref d)) (h : H d = some (.dK kws)) : EvL (tCB rListK (tCons (tBM0 K "dict" rKeysV td) tNil)) σ H (kws.map fun kv => kV kv.1) := fun H1 e1 Q q =>
  hd H1 e1 _ fun H2 e2 => ⟨.inr (.inr (.inl ⟨rfl, .inl ⟨kws, (e1.trans e2) _ _ h⟩⟩)), d, kws, rfl, rfl, .inl ((e1.trans e2) _ _ h), fun p hp => ⟨p, d, kws, rfl, upd_same, .inl ((Ex.new hp) _ _ ((e1.trans e2) _ _ h)), fun r hr => q r _ (fresh_back (e2.trans (Ex.new hp)) hr) ((e2.trans (Ex.new hp)).trans (Ex.new hr)) upd_same⟩⟩
def PoR (C : Hp) (v : V) (x : Nat × List Nat) : Prop := ∃ t q, v = .ref t ∧ C t = some (.tup [.int (x.1 : Nat), .ref q]) ∧ C q = some (.lst (nats x.2))
theorem PoR.to {C : Hp} : ∀ {ts : List Addr} {ps : Post}, Paired (fun t (x : Nat × List Nat) => ∃ q, C t = some (.tup [.int (x.1 : Nat), .ref q]) ∧ C q = some (.lst (nats x.2))) ts ps → Paired (PoR C) (ts.map V.ref) ps
  | _, _, .nil => .nil
  | _, _, .cons ⟨q, h1, h2⟩ r => .cons ⟨_, q, rfl, h1, h2⟩ (PoR.to r)
theorem PoR.back {C : Hp} : ∀ {vs : List V} {ps : Post}, Paired (PoR C) vs ps → ∃ ts : List Addr, vs = ts.map V.ref ∧ Paired (fun t (x : Nat × List Nat) => ∃ q, C t = some (.tup [.int (x.1 : Nat), .ref q]) ∧ C q = some (.lst (nats x.2))) ts ps
  | _, _, .nil => ⟨[], rfl, .nil⟩
  | _, _, .cons ⟨t, q, h1, h2, h3⟩ r => by
    obtain ⟨ts, e, p⟩ := PoR.back r
    subst h1 e
    exact ⟨t :: ts, rfl, .cons ⟨q, h2, h3⟩ p⟩
def keyI (C : Hp) : V → Int
  | .ref t => match C t with
    | some (.tup (.int i :: _)) => i
    | _ => 0
  | _ => 0
theorem keyI_at {C : Hp} {v : V} {x : Nat × List Nat} (h : PoR C v x) : keyI C v = (x.1 : Int) ∧ ∃ t b, v = .ref t ∧ C t = some (.tup [.int (keyI C v), .ref b]) := by
  obtain ⟨t, q, rfl, h2, h3⟩ := h
  have e : keyI C (.ref t) = (x.1 : Int) := by
    show (match C t with
      | some (.tup (.int i :: _)) => i
      | _ => 0) = _
    rw [h2]
  exact ⟨e, t, q, rfl, by rw [e]; exact h2⟩
theorem sorted_of {K : PySem.W.Frag} {σ : L2.St} {H C : Hp} {td : TE} {l : Addr} {ts : List Addr} {ps : Post} (hd : Ev td σ H (.ref l)) (hl : C l = some (.lst (ts.map V.ref))) (eC : Ex C H) (hp : Paired (fun t (x : Nat × List Nat) => ∃ q, C t = some (.tup [.int (x.1 : Nat), .ref q]) ∧ C q = some (.lst (nats x.2))) ts ps)
    (hn : (ps.map (·.1)).Nodup) {Q : VK} (q : ∀ p ts2 ps2 H2, H p = none → Ex H H2 → H2 p = some (.lst (ts2.map V.ref)) → ps2.Perm ps → Paired (fun t (x : Nat × List Nat) => ∃ q, C t = some (.tup [.int (x.1 : Nat), .ref q]) ∧ C q = some (.lst (nats x.2))) ts2 ps2 → Q (.ref p) H2) : tCB (rSortedTI K) (tCons td tNil) σ H Q := by
  have hp2 := PoR.to hp
  refine hd H (Ex.refl _) _ fun H2 e2 => ⟨l, ts.map V.ref, keyI C, rfl, sq_of ((eC.trans e2) _ _ hl), fun x hx => ?_, ?_, fun ys p pm hpf => ?_⟩
  · obtain ⟨i, hi⟩ := List.getElem?_of_mem hx
    obtain ⟨y, _, hr⟩ := pd_getL hp2 hi
    obtain ⟨_, t, b, e, h⟩ := keyI_at hr
    exact ⟨t, b, e, (eC.trans e2) _ _ h⟩
  · refine pd_nd (R := PoR C) (k := keyI C) (f := fun x : Nat × List Nat => (x.1 : Int)) (fun x y r => (keyI_at r).1) hp2 ?_
    have e9 : ps.map (fun x : Nat × List Nat => (x.1 : Int)) = (ps.map (·.1)).map fun n : Nat => (n : Int) := by
      rw [List.map_map]
      rfl
    rw [e9]
    exact List.Pairwise.map _ (fun a b hab z => hab (by omega)) hn
  · obtain ⟨ps2, g1, g2⟩ := pd_perm pm hp2
    obtain ⟨ts2, rfl, g3⟩ := PoR.back g2
    exact q p ts2 ps2 _ (fresh_back e2 hpf) (e2.trans (Ex.new hpf)) upd_same g1 g3
abbrev PcT := Addr × List (Nat × Doc)
def sp_Stand_init (K : PySem.W.Frag) : Sp := fun vs H Q _ => ∃ (L : List Str) (F : Hp) (s dx pl mdd td : Addr) (pcs : List PcT) (num : Nat → Option Nat) (nums : List Nat) (kvt : List (Key × V)), vs = [.ref s, .ref pl, .ref mdd, .ref td] ∧ L.length ≤ 60 ∧ Ex F H ∧ F s = none ∧ H s = some (.ins (adStand K) dx []) ∧
  F pl = some (.lst (pcs.map fun x => V.ref x.1)) ∧ (∀ x ∈ pcs, PieceAt K L F x.1 (x.2.map (·.1)) (tabOf x.2)) ∧ MkD F mdd num ∧ F td = some (.dK kvt) ∧ kvt.map Prod.fst = nums.map kN ∧ nums.Nodup ∧ (∀ n ∈ nums, n < 60) ∧ pcs.length ≤ 20 ∧ (pcs.flatMap (·.2)).length ≤ 60 ∧
  (∀ f w, ((conv num (tabOf (pcs.flatMap (·.2)) f w)).map (·.1)).Nodup) ∧ ∀ H' T, Ex F H' → StandAt K L (fr F H') s nums T → (∀ f w, (T f w).Perm (conv num (tabOf (pcs.flatMap (·.2)) f w))) → Q .non H'
theorem sc_Stand_init : FnScope ["self", "pieces", "makes", "texts", "piece", "field", "word"] ["self", "pieces", "makes", "texts"] (defScope s_Stand_init) := ⟨rfl, rfl, rfl, by decide +kernel, rfl, by decide +kernel, by decide +kernel⟩
theorem ok_Stand_init {P : Program} {w : World} {K : PySem.W.Frag} {mg : Str → Option Value} {base : Heap} (G : Gc K mg (adStand K) "Stand" "Stand.__init__" s_Stand_init) (T : Tx K mg) (O_Piece_fields : OkM P w K mg base 1 (adPiece K) "fields" ["self"] (sp_Piece_fields K)) (O_Stand_gather : OkM P w K mg base 3 (adStand K) "gather" ["self", "piece", "field", "makes"] (sp_Stand_gather K)) : OkC P w K mg base 4 (adStand K) "Stand" ["self", "pieces", "makes", "texts"] (sp_Stand_init K) := by
  refine G.ok (k := 3) sc_Stand_init (fun _ _ _ _ _ _ us hl => match us, hl with | [_, _, _, _], _ => rfl) (fun vs H Q E h => ?_) (fun f cdv A outer s H vs Q E hr h => ?_)
  · unfold sp_Stand_init at h
    repeat (first | (obtain ⟨rfl, h⟩ := h; rfl) | (obtain ⟨_, h⟩ := h))
  have hu := hu_of hr
  refine ⟨_, (pss_cons (ps_fld (pv 0) (pe_callTy (T := "dict") call_dictD rfl T.n_dict (by decide +kernel) (pa_cons (pv 3) pa_nil)) rfl)
      (pss_cons (ps_fld (pv 0) pe_dnewK rfl)
      (pss_cons (ps_fld (pv 0) pe_dnewT rfl)
      (pss_cons (ps_for PassesOwn.never rfl (pi_list (pv 1)) (pgv 4 sc_Stand_init.nd)
        (pss_one (ps_for PassesOwn.never rfl (pi_list (pe_mt0 O_Piece_fields (hr.mono (by decide)) T.cPiece (pv 4))) (pgv 5 sc_Stand_init.nd)
          (pss_one (ps_expr (pe_mt O_Stand_gather (hr.mono (by decide)) T.cStand (pv 0) (pa_cons (pv 4) (pa_cons (pv 5) (pa_cons (pv 2) pa_nil)))))))))
      (pss_one (ps_lock (ps_for PassesOwn.never rfl (pi_keysM (pe_fldK K (pv 0))) (pgv 5 sc_Stand_init.nd)
        (pss_one (ps_for PassesOwn.never rfl (pi_list (pe_callTy (T := "list") (cr_listK rfl) rfl T.n_list (by decide +kernel) (pa_cons (pe_bm0 PySem.F.plainAttrs_dict PySem.F.slot_dict_keys PySem.F.type_dict_keys mt_keysV (pe_dget hu (pe_fldK K (pv 0)) (pv 5) (fun _ _ => rfl))) pa_nil))) (pgv 6 sc_Stand_init.nd)
          (pss_one (ps_dput hu (pe_dget hu (pe_fldK K (pv 0)) (pv 5) (fun _ _ => rfl)) (pv 6) (pe_callB (id := "sorted") cr_sortedTI rfl T.n_sorted (by decide +kernel) (pa_cons (pe_dget hu (pe_dget hu (pe_fldK K (pv 0)) (pv 5) (fun _ _ => rfl)) (pv 6) (fun _ _ => rfl)) pa_nil)) rfl))))))))))), ?_⟩
  obtain ⟨L, F, sA, dx, pl, mdd, td, pcs, num, nums, kvt, rfl, hL, eF, hFs, hs, hpl, hpc, hMd, htd, hkt, hnd, hn60, hp20, hall, hcn, k⟩ := h
  -- texts
  refine ⟨_, rfl, td, kvt, rfl, .inl (eF _ _ htd), fun tx htx => ⟨_, rfl, sA, adStand K, dx, [], rfl, (Ex.new htx) _ _ hs, T.cStand, T.aStand_texts, by simp, ?_⟩⟩
  have hxs : tx ≠ sA := (own_ne hs htx).symm
  have hf1 : putF "texts" (.ref tx) [] = ([("texts", .ref tx)] : List (Str × V)) := rfl
  rw [hf1]
  generalize hHa : upd (upd H tx (.dK kvt)) sA (.ins (adStand K) dx ([("texts", .ref tx)] : List (Str × V))) = Ha
  have has : Ha sA = some (.ins (adStand K) dx ([("texts", .ref tx)] : List (Str × V))) := by
    rw [← hHa]
    exact upd_same
  have eFa : Ex F Ha := by
    rw [← hHa]
    exact (eF.trans (Ex.new htx)).mut hFs
  have hxa : Ha tx = some (.dK kvt) := by
    rw [← hHa, upd_ne hxs]
    exact upd_same
  refine s_fldK (D := { nx := _, rt := _ }) (a := sA) (C := adStand K) (dx := dx) (fun _ _ => ev_var rfl) has T.cStand T.aStand_table (by simp) fun tb Hb htb eb hb => ?_
  have hts : tb ≠ sA := (own_ne has htb).symm
  have hf2 : putF "table" (.ref tb) ([("texts", .ref tx)] : List (Str × V)) = ([("texts", .ref tx), ("table", .ref tb)] : List (Str × V)) := rfl
  rw [hf2]
  generalize hHb : upd Hb sA (.ins (adStand K) dx ([("texts", .ref tx), ("table", .ref tb)] : List (Str × V))) = Hb2
  have hbs : Hb2 sA = some (.ins (adStand K) dx ([("texts", .ref tx), ("table", .ref tb)] : List (Str × V))) := by
    rw [← hHb]
    exact upd_same
  have eFb : Ex F Hb2 := by
    rw [← hHb]
    exact (eFa.trans eb).mut hFs
  have hxb : Hb2 tx = some (.dK kvt) := by
    rw [← hHb, upd_ne hxs]
    exact eb _ _ hxa
  have htb2 : Hb2 tb = some (.dK []) := by
    rw [← hHb, upd_ne hts]
    exact hb
  have hxt : tx ≠ tb := own_ne hxa htb
  have hFt : F tb = none := fresh_back eFa htb
  refine s_fldT (D := { nx := _, rt := _ }) (a := sA) (C := adStand K) (dx := dx) (fun _ _ => ev_var rfl) hbs T.cStand T.aStand_lengths (by simp) fun lg Hc hlg ec hc => ?_
  have hls : lg ≠ sA := (own_ne hbs hlg).symm
  have hlt : lg ≠ tb := (own_ne htb2 hlg).symm
  have hFl : F lg = none := fresh_back eFb hlg
  have hFx : F tx = none := fresh_back eF htx
  have hfs : putF "lengths" (.ref lg) ([("texts", .ref tx), ("table", .ref tb)] : List (Str × V)) = ([("texts", .ref tx), ("table", .ref tb), ("lengths", .ref lg)] : List (Str × V)) := rfl
  rw [hfs]
  generalize hHd : upd Hc sA (StandO K dx tx tb lg) = Hd
  have hds : Hd sA = some (StandO K dx tx tb lg) := by
    rw [← hHd]
    exact upd_same
  have eFd : Ex F Hd := by
    rw [← hHd]
    exact (eFb.trans ec).mut hFs
  have hxd : Hd tx = some (.dK kvt) := by
    rw [← hHd, upd_ne hxs]
    exact ec _ _ hxb
  have htd2 : Hd tb = some (.dK []) := by
    rw [← hHd, upd_ne hts]
    exact ec _ _ htb2
  have hld : Hd lg = some (.dT []) := by
    rw [← hHd, upd_ne hls]
    exact hc
  have hTi : ∀ i f w, (tabOf ((pcs.take i).flatMap (·.2)) f w).length ≤ 60 := fun i f w => by
    have q := tabOf_len ((pcs.take i).flatMap (·.2)) f w
    have q2 : ((pcs.take i).flatMap (·.2)).length ≤ (pcs.flatMap (·.2)).length := flat_take_len _ _ _
    omega
  -- the pieces
  refine s_forY (D := { nx := _, rt := _ }) (H := F) (ex_list (es := pcs) (F := fun x => V.ref x.1) (ev_var rfl) (sq_of hpl)) eFd (fun Hg i σ H2 => ∃ y4 y5 y6 C lk kvs, σ = [some (.ref sA), some (.ref pl), some (.ref mdd), some (.ref td), y4, y5, y6] ∧ Ex Hg H2 ∧ Ex C (fr Hg H2) ∧ C sA = some (StandO K dx tx tb lg) ∧ C tx = some (.dK kvt) ∧ C lg = some (.dT lk) ∧ LenOk (3600 * i) lk ∧ TabAt L C Hg H2 tb kvs (fun f w => conv num (tabOf ((pcs.take i).flatMap (·.2)) f w)))
      (fun Hg H3 eg hgn e3 eg3 => ?_) (fun Hg i σ H2 ⟨_, _, _, _, _, _, _, e, _⟩ => e) ?_ ?_
  · have gs := hgn sA (ns hds) hFs
    have gx := hgn tx (ns hxd) hFx
    have gl := hgn lg (ns hld) hFl
    have gt := hgn tb (ns htd2) hFt
    refine ⟨none, none, none, del (fr Hg H3) tb, [], [], rfl, eg3, del_ex, ?_, ?_, ?_, ⟨(fun _ _ z => nomatch z), Nat.zero_le _⟩, e3 _ _ htd2, del_at, gt, .nil fun f w => rfl, (fun f z => nomatch z), (fun f g v z => nomatch z)⟩
    · rw [del_ne hts.symm, fr_at gs]
      exact e3 _ _ hds
    · rw [del_ne hxt, fr_at gx]
      exact e3 _ _ hxd
    · rw [del_ne hlt, fr_at gl]
      exact e3 _ _ hld
  · rintro Hg eg hgn i ⟨pc, ms⟩ σ Hx hi ⟨y4, y5, y6, C, lk, kvs, rfl, egx, eCx, hCs, hCx, hCl, hLen, hTab⟩ H3 e3
    have hpcA := (hpc _ (List.mem_of_getElem? hi)).mono eg
    have eg3 : Ex Hg H3 := egx.trans e3
    have eC3 : Ex C (fr Hg H3) := eCx.trans (fr_to e3)
    have hil : i < pcs.length := (List.getElem?_eq_some_iff.mp hi).1
    obtain ⟨pdx, phm, plg, ptb, plk, hp1, hp2, hp3, hp4, hp5⟩ := id hpcA
    have htk : (pcs.take (i + 1)).flatMap (·.2) = (pcs.take i).flatMap (·.2) ++ ms := by
      rw [List.take_succ, hi, Option.toList_some, List.flatMap_append]
      simp
    have hmsl : ((pcs.take i).flatMap (·.2)).length + ms.length ≤ 60 := by
      rw [← List.length_append, ← htk]
      exact Nat.le_trans (flat_take_len _ _ _) hall
    have hTl : ∀ f w, (conv num (tabOf ((pcs.take i).flatMap (·.2)) f w)).length ≤ 60 := fun f w => Nat.le_trans (conv_len _ _) (hTi i f w)
    have hTm : ∀ f w, (tabOf ms f w).length ≤ 60 := fun f w => by
      have := tabOf_len ms f w
      omega
    show tFor _ _ _ _ [some (.ref sA), some (.ref pl), some (.ref mdd), some (.ref td), some (.ref pc), y5, y6] H3
    refine s_forQ (P := NamesAt L (fun f => ∃ w, tabOf ms f w ≠ []) H3) (fun Q3 q3 => eq_meth (P := NamesAt L (fun f => ∃ w, tabOf ms f w ≠ []) H3) (ev_var rfl) (eg3 _ _ hp1) rfl ea_nil (fun H4 e4 Q4 q4 => ⟨L, Hg, pc, ms.map (·.1), tabOf ms, rfl, hL, hpcA, eg3.trans e4, fun v H5 ⟨p, ks, z1, z2, z3, z4⟩ => q4 v H5 ⟨p, ks, z1, fresh_back e4 z2, e4.trans z3, z4⟩⟩) q3) fun v H4 ⟨p, ks, hv, hp, e4, h4, hnd4, hkl, hin, hal⟩ => ?_
    have eC3' : Ex C H3 := eC3.trans fr_ex
    refine ⟨p, ks.map V.str, hv, h4, fun j σ H' => ∃ z5 z6 C' lk' kvs', σ = [some (.ref sA), some (.ref pl), some (.ref mdd), some (.ref td), some (.ref pc), z5, z6] ∧ Ex Hg H' ∧ Ex C' (fr Hg H') ∧ Ex (del (jn C H3 H4) lg) C' ∧ C' lg = some (.dT lk') ∧ LenOk (3600 * i + 60 * j) lk' ∧ TabAt L C' Hg H' tb kvs' (fun f w => if f ∈ ks.take j then conv num (tabOf ((pcs.take i).flatMap (·.2)) f w) ++ conv num (tabOf ms f w) else conv num (tabOf ((pcs.take i).flatMap (·.2)) f w)), ?_, ?_, ?_, ?_⟩
    · refine ⟨_, _, jn C H3 H4, lk, kvs, rfl, eg3.trans e4, jn_fr eC3 eg3 e4, del_ex, by rw [jn_old (ns (eC3' _ _ hCl))]; exact hCl, hLen, (((hTab.ex e3).gr (jn_ex eC3') fun x hx => jn_old hx).ex e4).eq ?_⟩
      funext f w
      rw [if_neg (by simp)]
    · rintro j σ H' _ ⟨_, _, C', _, _, _, _, eC', eCC, _⟩
      refine (eC'.trans fr_ex) _ _ (eCC _ _ ?_)
      rw [del_ne (own_ne (eC3' _ _ hCl) hp).symm, jn_new hp]
      exact h4
    · rintro j x σ H' hj ⟨z5, z6, C', lk', kvs', rfl, eg', eC', eCC, hCl', hLen', hT'⟩
      obtain ⟨f9, hf, rfl⟩ := map_at hj
      have hfL := hin f9 (List.mem_of_getElem? hf)
      have hfn := nodup_take hnd4 hf
      have hjl : j < ks.length := (List.getElem?_eq_some_iff.mp hf).1
      have hs' : C' sA = some (StandO K dx tx tb lg) := by
        refine eCC _ _ ?_
        rw [del_ne hls.symm, jn_old (ns (eC3' _ _ hCs))]
        exact hCs
      have hbound : 3600 * i + 60 * j ≤ 80000 := by omega
      refine ⟨_, rfl, sA, dx, _, rfl, (eC'.trans fr_ex) _ _ hs', rfl, _, rfl, _, rfl, _, rfl, L, C', Hg, sA, dx, tx, tb, lg, pc, mdd, ms.map (·.1), _, tabOf ms, f9, num, kvs', lk', 3600 * i + 60 * j, rfl, hL, hfL, hs', hpcA, by rw [List.length_map]; omega, hMd.mono eg, hCl', hLen', hbound, eg', eC', fun w => ⟨?_, hTm f9 w⟩, hT', fun H5 C5 kvs5 lk5 eg5 eCC5 eC5 hCl5 hLen5 hT5 => ?_⟩
      · have q1 := hTl f9 w
        have q2 := hTm f9 w
        rw [if_neg hfn]
        omega
      · refine ⟨_, _, C5, lk5, kvs5, rfl, eg5, eC5, fun b o hb => eCC5 _ _ ?_, hCl5, ⟨hLen5.1, by have := hLen5.2; omega⟩, hT5.eq ?_⟩
        · have hbl : b ≠ lg := fun z => by
            rw [z, del_at] at hb
            cases hb
          rw [del_ne hbl]
          exact eCC _ _ hb
        · funext g w
          show (if g = f9 then (if g ∈ ks.take j then conv num (tabOf ((pcs.take i).flatMap (·.2)) g w) ++ conv num (tabOf ms g w) else conv num (tabOf ((pcs.take i).flatMap (·.2)) g w)) ++ conv num (tabOf ms f9 w) else (if g ∈ ks.take j then conv num (tabOf ((pcs.take i).flatMap (·.2)) g w) ++ conv num (tabOf ms g w) else conv num (tabOf ((pcs.take i).flatMap (·.2)) g w))) = if g ∈ ks.take (j + 1) then conv num (tabOf ((pcs.take i).flatMap (·.2)) g w) ++ conv num (tabOf ms g w) else conv num (tabOf ((pcs.take i).flatMap (·.2)) g w)
          have e9 : g ∈ ks.take (j + 1) ↔ g ∈ ks.take j ∨ g = f9 := by
            rw [List.take_succ, hf]
            simp
          by_cases c : g = f9
          · rw [if_pos c, if_pos (e9.mpr (.inr c)), if_neg (by rw [c]; exact hfn), c]
          · rw [if_neg c]
            by_cases c2 : g ∈ ks.take j
            · rw [if_pos c2, if_pos (e9.mpr (.inl c2))]
            · rw [if_neg c2, if_neg (fun z => (e9.mp z).elim c2 c)]
    · rintro σ H' ⟨z5, z6, C', lk', kvs', rfl, eg', eC', eCC, hCl', hLen', hT'⟩
      rw [List.length_map, List.take_length] at hT'
      rw [List.length_map] at hLen'
      refine ⟨_, _, _, C', lk', kvs', rfl, eg', eC', eCC _ _ ?_, eCC _ _ ?_, hCl', ⟨hLen'.1, by have := hLen'.2; omega⟩, hT'.eq ?_⟩
      · rw [del_ne hls.symm, jn_old (ns (eC3' _ _ hCs))]
        exact hCs
      · rw [del_ne, jn_old (ns (eC3' _ _ hCx))]
        · exact hCx
        · intro z
          rw [z, hCl] at hCx
          cases hCx
      · funext f w
        rw [htk, tabOf_app, conv_app]
        by_cases c : f ∈ ks
        · rw [if_pos c]
        · rw [if_neg c]
          have h0 : tabOf ms f w = [] := Decidable.byContradiction fun z => c (hal f ⟨w, z⟩)
          rw [h0]
          exact (List.append_nil _).symm
  · rintro Hg eg σ H2 ⟨y4, y5, y6, C, lk, kvs, rfl, egx, eCx, hCs, hCx, hCl, hLen, hTab⟩
    have hpl2 : pcs.take pcs.length = pcs := List.take_length
    rw [hpl2] at hTab
    have hT0l : ∀ f w, (conv num (tabOf (pcs.flatMap (·.2)) f w)).length ≤ 60 := fun f w => by
      have q := tabOf_len (pcs.flatMap (·.2)) f w
      have q2 := conv_len num (tabOf (pcs.flatMap (·.2)) f w)
      omega
    generalize hT0 : (fun f w => conv num (tabOf (pcs.flatMap (·.2)) f w)) = T0 at hTab
    have hT0' : ∀ f w, conv num (tabOf (pcs.flatMap (·.2)) f w) = T0 f w := fun f w => by rw [← hT0]
    -- arranging
    have htH := hTab.1
    have hgt := hTab.2.2.1
    have hCt := hTab.2.1
    refine ⟨tb, .dK kvs, htH, trivial, fun od => ?_⟩
    have hsH2 := (eCx.trans fr_ex) _ _ hCs
    obtain ⟨ks, hks, hknd, _, hkm⟩ := hTab.2.2.2.1.names
    have hkl2 : ks.length = kvs.length := by
      have := congrArg List.length hks
      rwa [List.length_map, List.length_map, eq_comm] at this
    have hst : sA ≠ tb := hts.symm
    have hnd0 : ∀ f w, ((T0 f w).map (·.1)).Nodup := fun f w => by
      rw [← hT0']
      exact hcn f w
    generalize hHl : upd H2 tb (.frz od (.dK kvs)) = Hl
    have hlt2 : Hl tb = some (.frz od (.dK kvs)) := by
      rw [← hHl]
      exact upd_same
    have hls2 : Hl sA = some (StandO K dx tx tb lg) := by
      rw [← hHl, upd_ne hst]
      exact hsH2
    refine ⟨_, rfl, sA, adStand K, dx, _, .ref tb, rfl, hls2, T.cStand, T.aStand_table, rfl, tb, od, kvs, rfl, hlt2, for_it (walk_keys (kvs := kvs)) (fun j σ H' => ∃ z5 z6 C' T', σ = [some (.ref sA), some (.ref pl), some (.ref mdd), some (.ref td), y4, z5, z6] ∧ Ex Hg H' ∧ H' tb = some (.frz od (.dK kvs)) ∧ Ex C' (fr Hg H') ∧ Ex C C' ∧ TabAt L C' Hg (upd H' tb (.dK kvs)) tb kvs T' ∧ ∀ f w, (T' f w).Perm (T0 f w)) ?_ ?_ ?_ ?_⟩
    · refine ⟨_, _, C, T0, rfl, ?_, hlt2, ?_, Ex.refl _, ?_, fun f w => .refl _⟩
      · rw [← hHl]
        exact egx.mut hgt
      · rw [← hHl, fr_upd hgt]
        exact eCx.mut hCt
      · rw [← hHl, upd_back htH]
        exact hTab
    · rintro j σ H' _ ⟨_, _, _, _, _, _, h, _⟩
      exact h
    · rintro j x σ H' H'' hj ⟨z5, z6, C', T', rfl, eg', ht', eC', eCC, hT', hpm⟩ ⟨rfl, kk, v, hkv, rfl⟩
      have hja : j < ks.length := by omega
      have hkj : kk = kS ks[j] := by
        have q : (kvs.map Prod.fst)[j]? = (ks.map kS)[j]? := by rw [hks]
        rw [List.getElem?_map, List.getElem?_map, hkv, List.getElem?_eq_getElem hja] at q
        exact Option.some.inj q
      generalize ks[j] = fl at hkj
      subst hkj
      have hvv := valV_mem hTab.2.2.2.1.nd (List.mem_of_getElem? hkv)
      have hval := hT'.2.2.2.1.val fl
      rw [hvv] at hval
      obtain ⟨a, kws, rfl, ha, hCa, hga, hDk⟩ := hval
      have hat : a ≠ tb := fun z => hT'.2.2.2.2.1 fl (by rw [hvv, z])
      rw [upd_ne hat] at ha
      have eC'' : Ex C' H'' := eC'.trans fr_ex
      have hs' : ∀ {H9 : Hp}, Ex C' H9 → H9 sA = some (StandO K dx tx tb lg) := fun e9 => e9 _ _ (eCC _ _ hCs)
      show tFor _ _ _ _ [some (.ref sA), some (.ref pl), some (.ref mdd), some (.ref td), y4, some (.str fl), z6] H''
      have hget : ∀ {H9 : Hp}, H9 tb = some (.frz od (.dK kvs)) → DGet H9 tb (.str fl) (some (.ref a)) := fun h9 => .inl ⟨kvs, kS fl, .inr ⟨od, h9⟩, rfl, hvv.symm⟩
      have hTD : ∀ (σ9 : L2.St) (H9 : Hp), σ9[0]? = some (some (.ref sA)) → σ9[5]? = some (some (.str fl)) → Ex C' H9 → H9 tb = some (.frz od (.dK kvs)) → Ev (tDGet (tFld K (tVar 0) "table") (tVar 5)) σ9 H9 (.ref a) := fun σ9 H9 s0 s5 e9 h9 => ev_dget (ev_fld (ev_var s0) (hs' e9) T.cStand T.aStand_table rfl) (ev_var s5) (hget h9)
      refine s_forQ (P := fun v H3 => ∃ p, v = .ref p ∧ H'' p = none ∧ Ex H'' H3 ∧ H3 p = some (.lst (kws.map fun kv => kV kv.1))) (fun Q3 q3 => listK_of (hTD _ _ rfl rfl eC'' ht') ha H'' (Ex.refl _) Q3 fun p H3 hp e3 h3 => q3 _ _ ⟨p, rfl, hp, e3, h3⟩) fun v H3 ⟨p, hv, hp, e3, h3⟩ => ?_
      refine ⟨p, kws.map fun kv => kV kv.1, hv, h3, fun i σ H4 => ∃ z6 C4 T4 kw4, σ = [some (.ref sA), some (.ref pl), some (.ref mdd), some (.ref td), y4, some (.str fl), z6] ∧ Ex Hg H4 ∧ H4 tb = some (.frz od (.dK kvs)) ∧ Ex C4 (fr Hg H4) ∧ Ex (jn C' H'' H3) C4 ∧ TabAt L C4 Hg (upd H4 tb (.dK kvs)) tb kvs T4 ∧ (∀ f w, (T4 f w).Perm (T0 f w)) ∧ H4 a = some (.dK kw4) ∧ ∀ kv ∈ kws, (valV kw4 kv.1).isSome = true, ?_, ?_, ?_, ?_⟩
      · have hTu := hT'.gr (jn_ex (H1 := H3) eC'') (fun x hx => jn_old (fun z => hx (by
          by_cases c : x = tb
          · rw [c, ht'] at z
            cases z
          · rw [upd_ne c, z]))) 
        refine ⟨_, jn C' H'' H3, T', kws, rfl, eg'.trans e3, e3 _ _ ht', jn_fr eC' eg' e3, Ex.refl _, hTu.ex ?_, hpm, e3 _ _ ha, fun kv hkv2 => by rw [valV_mem hDk.nd hkv2]; rfl⟩
        intro b o hb
        by_cases c : b = tb
        · subst c
          rw [upd_same] at hb ⊢
          exact hb
        · rw [upd_ne c] at hb ⊢
          exact e3 _ _ hb
      · rintro i σ H4 _ ⟨_, C4, _, _, _, _, _, eC4, eCC4, _⟩
        exact (eC4.trans fr_ex) _ _ (eCC4 _ _ (by rw [jn_new hp]; exact h3))
      · rintro i x σ H4 hi ⟨z6', C4, T4, kw4, rfl, eg4, ht4, eC4, eCC4, hT4, hpm4, ha4, hall4⟩
        obtain ⟨⟨k9, v9⟩, hk9, rfl⟩ := map_at hi
        have hkm9 := List.mem_of_getElem? hk9
        obtain ⟨w, hwL, hkw⟩ := hDk.keys _ hkm9
        have hkw2 : k9 = kS w := hkw
        subst hkw2
        have hsome := hall4 _ hkm9
        obtain ⟨u, hu9⟩ := Option.isSome_iff_exists.mp hsome
        have hu9' : valV kw4 (kS w) = some u := hu9
        have hval4 := hT4.2.2.2.1.val fl
        rw [hvv] at hval4
        obtain ⟨b, kw, eb, hb2, hCb, hgb, hDb⟩ := hval4
        cases eb
        rw [upd_ne hat, ha4] at hb2
        cases hb2
        have hin4 := hDb.val w
        rw [hu9'] at hin4
        obtain ⟨l, rfl, ts, hl4, hp4⟩ := hin4
        have eC4H : Ex C4 H4 := eC4.trans fr_ex
        have eC'4 : Ex C' C4 := (jn_ex eC'').trans eCC4
        show sDPut _ _ _ _ [some (.ref sA), some (.ref pl), some (.ref mdd), some (.ref td), y4, some (.str fl), some (.str w)] H4
        refine s_dputQ (P := fun v H5 => ∃ p ts2 ps2, v = .ref p ∧ H4 p = none ∧ Ex H4 H5 ∧ H5 p = some (.lst (ts2.map V.ref)) ∧ ps2.Perm (T4 fl w) ∧ Paired (fun t (x : Nat × List Nat) => ∃ q, C4 t = some (.tup [.int (x.1 : Nat), .ref q]) ∧ C4 q = some (.lst (nats x.2))) ts2 ps2)
          (fun Q5 q5 => sorted_of (C := C4) (ev_dget (a := a) (y := .str w) (hTD _ _ rfl rfl (eC'4.trans eC4H) ht4) (ev_var rfl) (by rw [← hu9']; exact DGet.k (k := kS w) ha4)) hl4 eC4H hp4 (((hpm4 fl w).map _).nodup_iff.mpr (hnd0 fl w)) fun p ts2 ps2 H5 hp5 e5 h5 pm5 pr5 => q5 _ _ ⟨p, ts2, ps2, rfl, hp5, e5, h5, pm5, pr5⟩) fun v H5 ⟨p5, ts2, ps2, hv5, hp5, e5, h5, pm5, pr5⟩ => ?_
        subst hv5
        refine (hTD _ _ rfl rfl ((eC'4.trans eC4H).trans e5) (e5 _ _ ht4)) H5 (Ex.refl _) _ fun H6 e6 => ⟨_, rfl, a, _, rfl, .inl ⟨kw4, kS w, (e5.trans e6) _ _ ha4, rfl, sizeLine_lt (by have := hDb.len; omega), rfl⟩, ?_⟩
        have e46 := e5.trans e6
        have hj4a : jn C4 H4 H6 a = none := by
          rw [jn_old (ns ha4)]
          exact hCb
        have eCj : Ex C4 (jn C4 H4 H6) := jn_ex eC4H
        have hta : tb ≠ a := fun z => hat z.symm
        refine ⟨_, jn C4 H4 H6, fun g v => if g = fl ∧ v = w then ps2 else T4 g v, putK kw4 (kS w) (.ref p5), rfl, (eg4.trans e46).mut hgb, ?_, ?_, eCC4.trans eCj, ?_, fun g v => ?_, upd_same, fun kv hkv2 => ?_⟩
        · rw [upd_ne hta]
          exact e46 _ _ ht4
        · rw [fr_upd hgb]
          exact (jn_fr eC4 eg4 e46).mut hj4a
        · refine tab_in hT4 hvv (fun b o hb => ?_) eCj (fun x hx => jn_old (fun z => hx (by
            by_cases c : x = tb
            · rw [c, ht4] at z
              cases z
            · rw [upd_ne c, z]))) (fun _ _ => rfl) (fun g hg => ?_) (kws := putK kw4 (kS w) (.ref p5)) ?_ ?_
          · have hba : b ≠ a := fun z => by
              rw [z, del_at] at hb
              cases hb
            rw [del_ne hba] at hb
            by_cases c : b = tb
            · rw [c, upd_same] at hb ⊢
              exact hb
            · rw [upd_ne c] at hb ⊢
              rw [upd_ne hba]
              exact e46 _ _ hb
          · funext v
            exact if_neg (fun z => hg z.1)
          · rw [upd_ne hat, upd_same]
          · refine hDb.put hwL ⟨p5, rfl, ts2, ?_, ?_⟩ fun u hu z => (z.mono eCj).eq ?_
            · rw [jn_new hp5]
              exact e6 _ _ h5
            · have e9 : ((fun v => if fl = fl ∧ v = w then ps2 else T4 fl v) w) = ps2 := if_pos ⟨rfl, rfl⟩
              rw [e9]
              exact Paired.mapP pr5 fun b x ⟨q, q1, q2⟩ => ⟨q, eCj _ _ q1, eCj _ _ q2⟩
            · exact (if_neg (fun z => hu z.2)).symm
        · show List.Perm (if g = fl ∧ v = w then ps2 else T4 g v) _
          by_cases c : g = fl ∧ v = w
          · rw [if_pos c, c.1, c.2]
            exact pm5.trans (hpm4 fl w)
          · rw [if_neg c]
            exact hpm4 g v
        · rw [valV_put]
          split
          · rfl
          · exact hall4 kv hkv2
      · rintro σ H4 ⟨z6', C4, T4, kw4, rfl, eg4, ht4, eC4, eCC4, hT4, hpm4, ha4, hall4⟩
        exact ⟨_, _, C4, T4, rfl, eg4, ht4, eC4, (eCC.trans (jn_ex eC'')).trans eCC4, hT4, hpm4⟩
    · rintro σ H' ⟨z5, z6, C', T', rfl, eg', ht', eC', eCC, hT', hpm⟩
      refine ⟨ht', ?_⟩
      have egu : Ex Hg (upd H' tb (.dK kvs)) := eg'.mut hgt
      have eCu : Ex C' (fr Hg (upd H' tb (.dK kvs))) := by
        rw [fr_upd hgt]
        exact eC'.mut hT'.2.1
      have hb : Ex (fr Hg (upd H' tb (.dK kvs))) (fr F (upd H' tb (.dK kvs))) := fr_back eg
      refine k _ T' (eg.trans egu) ⟨dx, tx, tb, lg, kvt, hb _ _ (eCu _ _ (eCC _ _ hCs)), hb _ _ (eCu _ _ (eCC _ _ hCx)), hkt, hnd, hn60, (hT'.done eCu).mono hb⟩ fun f w => ?_
      rw [hT0']
      exact hpm f w
end Fc
/-! The house: what it holds, makes added, documents put, changed, taken. -/
namespace Fc
open PySem PySem.Spec PyProof.Rows L2 Evl
section
variable {K : PySem.W.Frag} {σ : L2.St} {H : Hp} {ta te : TE} {D : Ends}
theorem s_appQ {l : Addr} {xs : List V} {P : V → Hp → Prop} (hl : ∀ H2, Ex H H2 → H2 l = some (.lst xs)) (ha : Ev ta σ H (.ref l)) (h : ∀ H1, Ex H H1 → ∀ Q : VK, (∀ v H2, Ex H1 H2 → P v H2 → Q v H2) → te σ H1 Q) (hz : xs.length < 100000) (k : ∀ v H2, Ex H H2 → P v H2 → D.nx σ (upd H2 l (.lst (xs ++ [v])))) :
    tDrop (tBM K "list" rAppend ta (tCons te tNil)) D σ H := ha H (Ex.refl H) _ fun H1 e1 =>
  ⟨Or.inl ⟨rfl, xs, sq_of (hl H1 e1)⟩, h H1 e1 _ fun v H2 e2 p => ⟨l, xs, v, rfl, rfl, hl H2 (e1.trans e2), sz_lt hz, k v H2 (e1.trans e2) p⟩⟩
theorem s_fldInc {a C dx : Addr} {fs : List (Str × V)} {f : Str} {t : Int} (ha : Ev ta σ H (.ref a)) (h : H a = some (.ins C dx fs)) (c : Cls K C) (n : NoAttr K C f) (hf : fs.lookup f = some (.int t)) (hl : fs.length < 1000) (k : ∀ H1, Ex H H1 → D.nx σ (upd H1 a (.ins C dx (putF f (.int (t + 1)) fs)))) : sFldAug K ta (tC (.int 1)) rAdd f D σ H :=
  ha H (Ex.refl _) _ fun H1 e1 => ⟨a, C, dx, fs, .int t, rfl, e1 _ _ h, c, n, hf, ⟨t, 1, rfl, rfl, dx, fs, e1 _ _ h, hl, k H1 e1⟩⟩
end
structure HSt where
  pcs : List PcT
  ops : List MkT
  mdA : List Addr
  al : List (Nat × Nat)
  ever : Nat
def allM (S : HSt) : List (Nat × Doc) := S.pcs.flatMap (·.2) ++ S.ops.map md
abbrev HouseO (K : PySem.W.Frag) (dx al mdl op sl kp : Addr) (t ev : Int) : HO := .ins (adHouse K) dx [("time", .int t), ("ever", .int ev), ("alive", .ref al), ("made", .ref mdl), ("open_makes", .ref op), ("sealed", .ref sl), ("kept", .ref kp)]
abbrev alK (al : List (Nat × Nat)) : List (Key × V) := al.map fun x => (kN x.1, V.int (x.2 : Nat))
structure HIn (K : PySem.W.Frag) (L : List Str) (C H : Hp) (hp dx al mdl op sl kp : Addr) (t : Int) (S : HSt) (to ts : List Addr) : Prop where
  house : H hp = some (HouseO K dx al mdl op sl kp t S.ever)
  alive : H al = some (.dK (alK S.al))
  made : H mdl = some (.lst (S.mdA.map V.ref))
  opn : H op = some (.lst (to.map V.ref))
  sld : H sl = some (.lst (ts.map V.ref))
  nd : [hp, al, mdl, op, sl].Nodup
  out : ∀ a ∈ [hp, al, mdl, op, sl], C a = none
  ops : Paired (fun t (m : MkT) => C t = some (.tup [.int (m.1 : Nat), .ref m.2.1])) to S.ops
  opd : ∀ m ∈ S.ops, DocAt C m.2.1 m.2.2
  pcs : Paired (fun t (x : PcT) => ∃ q, C t = some (.tup [.ref q, .ref x.1, .non])) ts S.pcs
  pcd : ∀ x ∈ S.pcs, PieceAt K L C x.1 (x.2.map (·.1)) (tabOf x.2)
  mds : Paired (fun a (m : Nat × Doc) => DocAt C a m.2) S.mdA (allM S)
def HouseAt (K : PySem.W.Frag) (L : List Str) (C H : Hp) (hp : Addr) (M : List Addr) (S : HSt) : Prop := ∃ dx al mdl op sl kp t to ts, M = [hp, al, mdl, op, sl] ∧ HIn K L C H hp dx al mdl op sl kp t S to ts
structure HOk (L : List Str) (S : HSt) : Prop where
  all : (allM S).map (·.1) = List.range (allM S).length
  few : (allM S).length ≤ 40
  docs : ∀ m ∈ allM S, DocOk m.2 ∧ DocIn L m.2
  pcs : S.pcs.length ≤ 19
  al1 : (S.al.map (·.1)).Nodup
  al2 : (S.al.map (·.2)).Nodup
  alb : ∀ x ∈ S.al, x.1 < S.ever ∧ x.2 < (allM S).length
  ever : S.ever ≤ 40
/-- what is kept but the house's own -/
def Keep (M : List Addr) (H H' : Hp) : Prop := ∀ a o, a ∉ M → H a = some o → H' a = some o
theorem Keep.refl (M : List Addr) (H : Hp) : Keep M H H := fun _ _ _ h => h
theorem Keep.ex {M : List Addr} {H H' H2 : Hp} (k : Keep M H H') (e : Ex H' H2) : Keep M H H2 := fun a o ha h => e _ _ (k a o ha h)
theorem Keep.upd {M : List Addr} {H H' : Hp} {m : Addr} {o : HO} (k : Keep M H H') (hm : m ∈ M) : Keep M H (upd H' m o) := fun a u ha h => by
  rw [upd_ne (fun z => ha (by rw [z]; exact hm))]
  exact k a u ha h
theorem Keep.trans {M : List Addr} {H H' H2 : Hp} (k : Keep M H H') (k2 : Keep M H' H2) : Keep M H H2 := fun a o ha h => k2 a o ha (k a o ha h)
theorem Keep.C {M : List Addr} {C H H' : Hp} (k : Keep M H H') (e : Ex C H) (hC : ∀ a ∈ M, C a = none) : Ex C H' := fun a o h => k a o (fun z => by rw [hC a z] at h; cases h) (e _ _ h)
def alPut (al : List (Nat × Nat)) (n m : Nat) : List (Nat × Nat) := if al.any (fun x => decide (x.1 = n)) = true then al.map (fun x => if x.1 = n then (x.1, m) else x) else al ++ [(n, m)]
theorem alK_put (al : List (Nat × Nat)) (n m : Nat) : putK (alK al) (kN n) (.int (m : Nat)) = alK (alPut al n m) := by
  unfold putK alPut
  have e : ((alK al).any fun kv => decide (kv.1 = kN n)) = al.any (fun x => decide (x.1 = n)) := by
    rw [List.any_map]
    congr 1
    funext x
    refine decide_eq_decide.mpr ?_
    constructor
    · intro z
      have := Sum.inl.inj z
      omega
    · intro z
      show kN x.1 = kN n
      rw [z]
  rw [e]
  split
  · show List.map _ (List.map _ al) = List.map _ (List.map _ al)
    rw [List.map_map, List.map_map]
    refine List.map_congr_left fun x _ => ?_
    show (if kN x.1 = kN n then (kN x.1, V.int (m : Nat)) else (kN x.1, V.int (x.2 : Nat))) = (kN (if x.1 = n then (x.1, m) else x).1, V.int ((if x.1 = n then (x.1, m) else x).2 : Nat))
    by_cases c : x.1 = n
    · rw [if_pos c, if_pos (by rw [c])]
    · rw [if_neg c, if_neg (fun z => c (by have := Sum.inl.inj z; omega))]
  · show _ = List.map _ (al ++ [(n, m)])
    rw [List.map_append]
    rfl
theorem alK_val (al : List (Nat × Nat)) (n : Nat) : valV (alK al) (kN n) = (al.find? fun x => decide (x.1 = n)).map fun x => V.int (x.2 : Nat) := by
  induction al with
  | nil => rfl
  | cons x r ih =>
    show valV ((kN x.1, V.int (x.2 : Nat)) :: alK r) (kN n) = _
    rw [List.find?_cons]
    by_cases c : x.1 = n
    · rw [valV_pos (by rw [c]), decide_eq_true c]
      rfl
    · rw [valV_neg (fun z => c (by have := Sum.inl.inj z; omega)), decide_eq_false c]
      exact ih
def addS (S : HSt) (n : Nat) (d1 d2 : Addr) (ds : Doc) : HSt := { S with ops := S.ops ++ [((allM S).length, d1, ds)], mdA := S.mdA ++ [d2], al := alPut S.al n (allM S).length }
theorem allM_add (S : HSt) (n : Nat) (d1 d2 : Addr) (ds : Doc) : allM (addS S n d1 d2 ds) = allM S ++ [((allM S).length, ds)] := by
  show S.pcs.flatMap (·.2) ++ (S.ops ++ [_]).map md = (S.pcs.flatMap (·.2) ++ S.ops.map md) ++ _
  rw [List.map_append, List.append_assoc]
  rfl
theorem DocAt.copy {C : Hp} {a b : Addr} {ds : List (Str × Str)} {xs : List V} (h : DocAt C a ds) (ha : C a = some (.lst xs)) {C2 : Hp} (e : Ex C C2) (hb : C2 b = some (.lst xs)) : DocAt C2 b ds := by
  obtain ⟨ts, h1, h2⟩ := h
  rw [ha] at h1
  cases h1
  exact ⟨ts, hb, Paired.mapP h2 fun _ _ q => e _ _ q⟩
def sp_House_add_make (K : PySem.W.Frag) : Sp := fun vs H Q _ => ∃ (L : List Str) (C : Hp) (hp d : Addr) (M : List Addr) (S : HSt) (n : Nat) (ds : Doc), vs = [.ref hp, .int (n : Nat), .ref d] ∧ Ex C H ∧ HouseAt K L C H hp M S ∧ (allM S).length ≤ 1000 ∧ S.al.length ≤ 1000 ∧ DocAt C d ds ∧
  ∀ H' C' d1 d2, Ex C C' → Ex C' H' → (∀ a, H a ≠ none → C' a = C a) → Keep M H H' → HouseAt K L C' H' hp M (addS S n d1 d2 ds) → Q .non H'
theorem sc_House_add_make : FnScope ["self", "number", "document"] ["self", "number", "document"] (defScope s_House_add_make) := ⟨rfl, rfl, rfl, by decide +kernel, rfl, by decide +kernel, by decide +kernel⟩
theorem ok_House_add_make {P : Program} {w : World} {K : PySem.W.Frag} {mg : Str → Option Value} {base : Heap} (G : Gm K (adHouse K) "add_make" "House.add_make" s_House_add_make) (T : Tx K mg) : OkM P w K mg base 1 (adHouse K) "add_make" ["self", "number", "document"] (sp_House_add_make K) := by
  refine G.ok (k := 0) sc_House_add_make (fun _ _ _ _ _ _ us hl => match us, hl with | [_, _, _], _ => rfl) (fun vs H Q E h => ?_) (fun f cdv A outer s H vs Q E hr h => ?_)
  · unfold sp_House_add_make at h
    repeat (first | (obtain ⟨rfl, h⟩ := h; rfl) | (obtain ⟨_, h⟩ := h))
  have hu := hu_of hr
  refine ⟨_, (pss_cons (ps_expr (pe_bm PySem.F.plainAttrs_list PySem.F.slot_list_append PySem.F.type_list_append mt_append (pe_fldK K (pv 0)) (pa_cons (pe_tup (pa_cons (pe_callB (id := "len") (lenK K) rfl T.n_len PySem.boot_len (pa_cons (pe_fldK K (pv 0)) pa_nil)) (pa_cons (pe_callTy (T := "list") (listOfK K) rfl T.n_list (by decide +kernel) (pa_cons (pv 2) pa_nil)) pa_nil))) pa_nil)))
      (pss_cons (ps_dput hu (pe_fldK K (pv 0)) (pv 1) (pe_callB (id := "len") (lenK K) rfl T.n_len PySem.boot_len (pa_cons (pe_fldK K (pv 0)) pa_nil)) rfl)
      (pss_cons (ps_expr (pe_bm PySem.F.plainAttrs_list PySem.F.slot_list_append PySem.F.type_list_append mt_append (pe_fldK K (pv 0)) (pa_cons (pe_callTy (T := "list") (listOfK K) rfl T.n_list (by decide +kernel) (pa_cons (pv 2) pa_nil)) pa_nil)))
      (pss_one (ps_fldaug (pv 0) pe_int in_add))))), ?_⟩
  obtain ⟨L, C, hp, d, M, S, n, ds, rfl, eC, ⟨dx, al, mdl, op, sl, kp, t, to, ts, rfl, hi⟩, hfew, hal, hdoc, k⟩ := h
  obtain ⟨i1, i2, i3, i4, i5, i6, i7, i8, i9, i10, i11, i12⟩ := id hi
  obtain ⟨dts, hdl, hdp⟩ := id hdoc
  have hml := i12.length
  have hol : to.length ≤ 1000 := by
    have a1 := i8.length
    have a2 : (allM S).length = (S.pcs.flatMap (·.2)).length + (S.ops.map md).length := by
      unfold allM
      rw [List.length_append]
    rw [List.length_map] at a2
    omega
  have hM : ∀ a ∈ [hp, al, mdl, op, sl], a ∈ [hp, al, mdl, op, sl] := fun _ h => h
  have i6' := i6
  simp only [List.nodup_cons, List.mem_cons, List.not_mem_nil, not_or, or_false] at i6
  obtain ⟨⟨n1, n2, n3, n4⟩, ⟨n5, n6, n7⟩, ⟨n8, n9⟩, n10, _⟩ := i6
  have hlen : ∀ (σ9 : L2.St) (H9 : Hp), σ9[0]? = some (some (.ref hp)) → H9 hp = some (HouseO K dx al mdl op sl kp t S.ever) → H9 mdl = some (.lst (S.mdA.map V.ref)) → Ev (tCB (rLenQ K) (tCons (tFld K (tVar 0) "made") tNil)) σ9 H9 (.int ((allM S).length : Nat)) := fun σ9 H9 s0 h1 h2 => by
    refine ev_is (ev_lenL (xs := S.mdA.map V.ref) (ev_fld (ev_var s0) h1 T.cHouse T.aHouse_made rfl) (sq_of h2)) ?_
    rw [List.length_map, hml]
  -- open_makes
  refine s_appQ (D := { nx := _, rt := _ }) (l := op) (xs := to.map V.ref) (P := fun v H2 => ∃ tp d1, v = .ref tp ∧ H tp = none ∧ H d1 = none ∧ H2 tp = some (.tup [.int ((allM S).length : Nat), .ref d1]) ∧ H2 d1 = some (.lst (dts.map V.ref))) (fun H2 e2 => e2 _ _ i4) (ev_fld (ev_var rfl) i1 T.cHouse T.aHouse_open_makes rfl) (fun H1 e1 Q1 q1 => ?_) (by rw [List.length_map]; omega) fun v H2 e2 ⟨tp, d1, hv, htp, hd1, ht2, hd2⟩ => ?_
  · refine (hlen _ H1 rfl (e1 _ _ i1) (e1 _ _ i3)) H1 (Ex.refl _) _ fun H2 e2 => ⟨_, rfl, d, _, rfl, .inl (sq_of ((eC.trans (e1.trans e2)) _ _ hdl)), fun l hl => ⟨sizeLine_of (by simp), fun p hp2 => q1 _ _ ((e2.trans (Ex.new hl)).trans (Ex.new hp2)) ⟨p, l, rfl, fresh_back ((e1.trans e2).trans (Ex.new hl)) hp2, fresh_back (e1.trans e2) hl, upd_same, (Ex.new hp2) _ _ upd_same⟩⟩⟩
  subst hv
  have k2 : Keep [hp, al, mdl, op, sl] H (upd H2 op (.lst (to.map V.ref ++ [.ref tp]))) := ((Keep.refl _ H).ex e2).upd (by simp)
  generalize hHa : upd H2 op (.lst (to.map V.ref ++ [.ref tp])) = Ha at k2 ⊢
  have a1 : Ha hp = some (HouseO K dx al mdl op sl kp t S.ever) := by rw [← hHa, upd_ne n3]; exact e2 _ _ i1
  have a2 : Ha al = some (.dK (alK S.al)) := by rw [← hHa, upd_ne n6]; exact e2 _ _ i2
  have a3 : Ha mdl = some (.lst (S.mdA.map V.ref)) := by rw [← hHa, upd_ne n8]; exact e2 _ _ i3
  have a4 : Ha op = some (.lst (to.map V.ref ++ [.ref tp])) := by rw [← hHa]; exact upd_same
  have a5 : Ha sl = some (.lst (ts.map V.ref)) := by rw [← hHa, upd_ne (fun z => n10 z.symm)]; exact e2 _ _ i5
  have htpo : tp ≠ op := (own_ne i4 htp).symm
  have hd1o : d1 ≠ op := (own_ne i4 hd1).symm
  have a6 : Ha tp = some (.tup [.int ((allM S).length : Nat), .ref d1]) := by rw [← hHa, upd_ne htpo]; exact ht2
  have a7 : Ha d1 = some (.lst (dts.map V.ref)) := by rw [← hHa, upd_ne hd1o]; exact hd2
  clear hHa
  -- alive
  refine s_dputI (D := { nx := _, rt := _ }) (a := al) (kvs := alK S.al) (i := (n : Int)) (hlen _ _ rfl a1 a3) (ev_fld (ev_var rfl) a1 T.cHouse T.aHouse_alive rfl) (ev_var rfl) a2 (by rw [List.length_map]; omega) fun H3 e3 => ?_
  have hput : putK (alK S.al) (Sum.inl (n : Int)) (.int ((allM S).length : Nat)) = alK (alPut S.al n (allM S).length) := alK_put _ _ _
  rw [hput]
  have k3 : Keep [hp, al, mdl, op, sl] H (upd H3 al (.dK (alK (alPut S.al n (allM S).length)))) := (k2.ex e3).upd (by simp)
  generalize hHb : upd H3 al (.dK (alK (alPut S.al n (allM S).length))) = Hb at k3 ⊢
  have b1 : Hb hp = some (HouseO K dx al mdl op sl kp t S.ever) := by rw [← hHb, upd_ne n1]; exact e3 _ _ a1
  have b2 : Hb al = some (.dK (alK (alPut S.al n (allM S).length))) := by rw [← hHb]; exact upd_same
  have b3 : Hb mdl = some (.lst (S.mdA.map V.ref)) := by rw [← hHb, upd_ne (fun z => n5 z.symm)]; exact e3 _ _ a3
  have b4 : Hb op = some (.lst (to.map V.ref ++ [.ref tp])) := by rw [← hHb, upd_ne (fun z => n6 z.symm)]; exact e3 _ _ a4
  have b5 : Hb sl = some (.lst (ts.map V.ref)) := by rw [← hHb, upd_ne (fun z => n7 z.symm)]; exact e3 _ _ a5
  have b6 : Hb tp = some (.tup [.int ((allM S).length : Nat), .ref d1]) := by rw [← hHb, upd_ne (own_ne i2 htp).symm]; exact e3 _ _ a6
  have b7 : Hb d1 = some (.lst (dts.map V.ref)) := by rw [← hHb, upd_ne (own_ne i2 hd1).symm]; exact e3 _ _ a7
  have hCb : Ex C Hb := k3.C eC i7
  clear hHb
  -- made
  refine s_appL (D := { nx := _, rt := _ }) (l := mdl) (xs := S.mdA.map V.ref) (ys := dts.map V.ref) b3 (ev_fld (ev_var rfl) b1 T.cHouse T.aHouse_made rfl) (el_cb (ea_cons (ev_var rfl) ea_nil) fun H4 e4 Q4 q4 => ⟨d, _, rfl, .inl (sq_of ((hCb.trans e4) _ _ hdl)), fun l hl => q4 l _ hl (Ex.new hl) upd_same⟩) (by rw [List.length_map]; omega) fun d2 H4 hd2f e4 h4 => ?_
  have k4 : Keep [hp, al, mdl, op, sl] H (upd H4 mdl (.lst (S.mdA.map V.ref ++ [.ref d2]))) := (k3.ex e4).upd (by simp)
  generalize hHc : upd H4 mdl (.lst (S.mdA.map V.ref ++ [.ref d2])) = Hc at k4 ⊢
  have c1 : Hc hp = some (HouseO K dx al mdl op sl kp t S.ever) := by rw [← hHc, upd_ne n2]; exact e4 _ _ b1
  have c2 : Hc al = some (.dK (alK (alPut S.al n (allM S).length))) := by rw [← hHc, upd_ne n5]; exact e4 _ _ b2
  have c3 : Hc mdl = some (.lst (S.mdA.map V.ref ++ [.ref d2])) := by rw [← hHc]; exact upd_same
  have c4 : Hc op = some (.lst (to.map V.ref ++ [.ref tp])) := by rw [← hHc, upd_ne (fun z => n8 z.symm)]; exact e4 _ _ b4
  have c5 : Hc sl = some (.lst (ts.map V.ref)) := by rw [← hHc, upd_ne (fun z => n9 z.symm)]; exact e4 _ _ b5
  have c6 : Hc tp = some (.tup [.int ((allM S).length : Nat), .ref d1]) := by rw [← hHc, upd_ne (own_ne i3 htp).symm]; exact e4 _ _ b6
  have c7 : Hc d1 = some (.lst (dts.map V.ref)) := by rw [← hHc, upd_ne (own_ne i3 hd1).symm]; exact e4 _ _ b7
  have c8 : Hc d2 = some (.lst (dts.map V.ref)) := by rw [← hHc, upd_ne (own_ne b3 hd2f).symm]; exact h4
  clear hHc
  have hd2H : H d2 = none := by
    cases hq : H d2 with
    | none => rfl
    | some u =>
      by_cases hm : d2 ∈ [hp, al, mdl, op, sl]
      · simp only [List.mem_cons, List.not_mem_nil, or_false] at hm
        rcases hm with z | z | z | z | z
        · rw [z, b1] at hd2f; cases hd2f
        · rw [z, b2] at hd2f; cases hd2f
        · rw [z, b3] at hd2f; cases hd2f
        · rw [z, b4] at hd2f; cases hd2f
        · rw [z, b5] at hd2f; cases hd2f
      · rw [k3 _ _ hm hq] at hd2f; cases hd2f
  -- time
  refine s_fldInc (ev_var rfl) c1 T.cHouse T.aHouse_time rfl (by simp) fun H5 e5 => ?_
  have k5 : Keep [hp, al, mdl, op, sl] H (upd H5 hp (HouseO K dx al mdl op sl kp (t + 1) S.ever)) := (k4.ex e5).upd (by simp)
  have hpf : putF "time" (.int (t + 1)) ([("time", .int t), ("ever", .int S.ever), ("alive", .ref al), ("made", .ref mdl), ("open_makes", .ref op), ("sealed", .ref sl), ("kept", .ref kp)] : List (Str × V)) = ([("time", .int (t + 1)), ("ever", .int S.ever), ("alive", .ref al), ("made", .ref mdl), ("open_makes", .ref op), ("sealed", .ref sl), ("kept", .ref kp)] : List (Str × V)) := rfl
  rw [hpf]
  generalize hHf : upd H5 hp (HouseO K dx al mdl op sl kp (t + 1) S.ever) = Hf at k5 ⊢
  have f0 : ∀ {x o}, x ≠ hp → Hc x = some o → Hf x = some o := fun {x o} hx h => by rw [← hHf, upd_ne hx]; exact e5 _ _ h
  have f1 : Hf hp = some (HouseO K dx al mdl op sl kp (t + 1) S.ever) := by rw [← hHf]; exact upd_same
  have eCf : Ex C Hf := k5.C eC i7
  have eCC : Ex C (jn C H Hf) := jn_ex eC
  have hne : ∀ {x}, H x = none → x ≠ hp := fun {x} hx => (own_ne i1 hx).symm
  have e14 : (addS S n d1 d2 ds).ops = S.ops ++ [((allM S).length, d1, ds)] := rfl
  refine k Hf (jn C H Hf) d1 d2 eCC (jn_to eCf) (fun a ha => jn_old ha) k5 ⟨dx, al, mdl, op, sl, kp, t + 1, to ++ [tp], ts, rfl, ⟨f1, f0 (fun z => n1 z.symm) c2, ?_, ?_, f0 (fun z => n4 z.symm) c5, i6', ?_, ?_, ?_, ?_, ?_, ?_⟩⟩
  · rw [f0 (fun z => n2 z.symm) c3]
    show _ = some (HO.lst ((S.mdA ++ [d2]).map V.ref))
    rw [List.map_append]
    rfl
  · rw [f0 (fun z => n3 z.symm) c4, List.map_append]
    rfl
  · intro a ha
    have hHa : H a ≠ none := by
      simp only [List.mem_cons, List.not_mem_nil, or_false] at ha
      rcases ha with rfl | rfl | rfl | rfl | rfl
      · exact ns i1
      · exact ns i2
      · exact ns i3
      · exact ns i4
      · exact ns i5
    rw [jn_old hHa]
    exact i7 a ha
  · rw [e14]
    exact Paired.snoc (Paired.mapP i8 fun _ _ q => eCC _ _ q) (by rw [jn_new htp]; exact f0 (hne htp) c6)
  · intro m hm
    rw [e14] at hm
    rcases List.mem_append.mp hm with hm | hm
    · exact (i9 m hm).mono eCC
    · rw [List.mem_singleton.mp hm]
      exact hdoc.copy hdl eCC (by rw [jn_new hd1]; exact f0 (hne hd1) c7)
  · exact Paired.mapP i10 fun _ _ ⟨q, z⟩ => ⟨q, eCC _ _ z⟩
  · exact fun x hx => (i11 x hx).mono eCC
  · rw [allM_add]
    exact Paired.snoc (Paired.mapP i12 fun _ _ q => q.mono eCC) (hdoc.copy hdl eCC (by rw [jn_new hd2H]; exact f0 (hne hd2H) c8))
end Fc
/-! The house: its deeds. -/
namespace Fc
open PySem PySem.Spec PyProof.Rows L2 Evl
section
variable {K : PySem.W.Frag} {L : List Str} {C H : Hp} {hp : Addr} {M : List Addr} {S : HSt}
theorem HouseAt.in (h : HouseAt K L C H hp M S) : ∃ dx al mdl op sl kp t to ts, M = [hp, al, mdl, op, sl] ∧ HIn K L C H hp dx al mdl op sl kp t S to ts := h
/-- what is kept of the house where the heap grows -/
theorem HouseAt.ex {H2 : Hp} (h : HouseAt K L C H hp M S) (e : Ex H H2) : HouseAt K L C H2 hp M S := by
  obtain ⟨dx, al, mdl, op, sl, kp, t, to, ts, hM, i1, i2, i3, i4, i5, i6, i7, i8, i9, i10, i11, i12⟩ := h
  exact ⟨dx, al, mdl, op, sl, kp, t, to, ts, hM, e _ _ i1, e _ _ i2, e _ _ i3, e _ _ i4, e _ _ i5, i6, i7, i8, i9, i10, i11, i12⟩
theorem HouseAt.gr {C2 : Hp} (h : HouseAt K L C H hp M S) (e : Ex C C2) (n : ∀ a, H a ≠ none → C2 a = C a) : HouseAt K L C2 H hp M S := by
  obtain ⟨dx, al, mdl, op, sl, kp, t, to, ts, hM, i1, i2, i3, i4, i5, i6, i7, i8, i9, i10, i11, i12⟩ := h
  refine ⟨dx, al, mdl, op, sl, kp, t, to, ts, hM, i1, i2, i3, i4, i5, i6, fun a ha => ?_, Paired.mapP i8 fun _ _ q => e _ _ q, fun m hm => (i9 m hm).mono e, Paired.mapP i10 fun _ _ ⟨q, z⟩ => ⟨q, e _ _ z⟩, fun x hx => (i11 x hx).mono e, Paired.mapP i12 fun _ _ q => q.mono e⟩
  have hHa : H a ≠ none := by
    simp only [List.mem_cons, List.not_mem_nil, or_false] at ha
    rcases ha with rfl | rfl | rfl | rfl | rfl
    · exact ns i1
    · exact ns i2
    · exact ns i3
    · exact ns i4
    · exact ns i5
  rw [n a hHa]
  exact i7 a ha
theorem HouseAt.none (h : HouseAt K L C H hp M S) : ∀ a ∈ M, C a = none ∧ H a ≠ none := by
  obtain ⟨dx, al, mdl, op, sl, kp, t, to, ts, rfl, i1, i2, i3, i4, i5, i6, i7, i8, i9, i10, i11, i12⟩ := h
  intro a ha
  refine ⟨i7 a ha, ?_⟩
  simp only [List.mem_cons, List.not_mem_nil, or_false] at ha
  rcases ha with rfl | rfl | rfl | rfl | rfl
  · exact ns i1
  · exact ns i2
  · exact ns i3
  · exact ns i4
  · exact ns i5
end
/-- what a deed leaves -/
def Did (K : PySem.W.Frag) (L : List Str) (C H : Hp) (hp : Addr) (M : List Addr) (N : HSt → Prop) (v : V) (Q : VK) : Prop := ∀ H' C' M' S', Ex C C' → Ex C' H' → (∀ a, H a ≠ none → C' a = C a) → Keep M H H' → (∀ a ∈ M', a ∈ M ∨ H a = none) → HouseAt K L C' H' hp M' S' → N S' → Q v H'
def S0 : HSt := ⟨[], [], [], [], 0⟩
def sp_House_init (K : PySem.W.Frag) : Sp := fun vs H Q _ => ∃ (F : Hp) (s dx : Addr), vs = [.ref s] ∧ Ex F H ∧ F s = none ∧ H s = some (.ins (adHouse K) dx []) ∧ ∀ H' M, Ex F H' → (∀ a ∈ M, F a = none) → (∀ L C, Ex C F → HouseAt K L C H' s M S0) → Q .non H'
theorem sc_House_init : FnScope ["self"] ["self"] (defScope s_House_init) := ⟨rfl, rfl, rfl, by decide +kernel, rfl, by decide +kernel, by decide +kernel⟩
theorem ok_House_init {P : Program} {w : World} {K : PySem.W.Frag} {mg : Str → Option Value} {base : Heap} (G : Gc K mg (adHouse K) "House" "House.__init__" s_House_init) (T : Tx K mg) : OkC P w K mg base 1 (adHouse K) "House" ["self"] (sp_House_init K) := by
  refine G.ok (k := 0) sc_House_init (fun _ _ _ _ _ _ us hl => match us, hl with | [_], _ => rfl) (fun vs H Q E h => ?_) (fun f cdv A outer s H vs Q E hr h => ?_)
  · unfold sp_House_init at h
    repeat (first | (obtain ⟨rfl, h⟩ := h; rfl) | (obtain ⟨_, h⟩ := h))
  have hu := hu_of hr
  refine ⟨_, (pss_cons (ps_fld (pv 0) pe_int rfl)
      (pss_cons (ps_fld (pv 0) pe_int rfl)
      (pss_cons (ps_fld (pv 0) pe_dnewK rfl)
      (pss_cons (ps_fld (pv 0) (pe_lst pa_nil) rfl)
      (pss_cons (ps_fld (pv 0) (pe_lst pa_nil) rfl)
      (pss_cons (ps_fld (pv 0) (pe_lst pa_nil) rfl)
      (pss_one (ps_fld (pv 0) pe_dnewK rfl)))))))), ?_⟩
  obtain ⟨F, s9, dx, rfl, eF, hFs, hs, k⟩ := h
  refine s_fldV (D := { nx := _, rt := _ }) (v := .int 0) (a := s9) (C := adHouse K) (dx := dx) ev_c (ev_var rfl) hs T.cHouse T.aHouse_time (by simp) fun H1 e1 => ?_
  have p1 : putF "time" (.int 0) ([] : List (Str × V)) = ([("time", .int 0)] : List (Str × V)) := rfl
  rw [p1]
  generalize hG1 : upd H1 s9 (.ins (adHouse K) dx ([("time", .int 0)] : List (Str × V))) = G1
  have s1 : G1 s9 = some (.ins (adHouse K) dx ([("time", .int 0)] : List (Str × V))) := by
    rw [← hG1]
    exact upd_same
  have F1 : Ex F G1 := by
    rw [← hG1]
    exact (eF.trans e1).mut hFs
  refine s_fldV (D := { nx := _, rt := _ }) (v := .int 0) (a := s9) (C := adHouse K) (dx := dx) ev_c (ev_var rfl) s1 T.cHouse T.aHouse_ever (by simp) fun H2 e2 => ?_
  have p2 : putF "ever" (.int 0) ([("time", .int 0)] : List (Str × V)) = ([("time", .int 0), ("ever", .int 0)] : List (Str × V)) := rfl
  rw [p2]
  generalize hG2 : upd H2 s9 (.ins (adHouse K) dx ([("time", .int 0), ("ever", .int 0)] : List (Str × V))) = G2
  have s2 : G2 s9 = some (.ins (adHouse K) dx ([("time", .int 0), ("ever", .int 0)] : List (Str × V))) := by
    rw [← hG2]
    exact upd_same
  have F2 : Ex F G2 := by
    rw [← hG2]
    exact (F1.trans e2).mut hFs
  refine s_fldK (D := { nx := _, rt := _ }) (a := s9) (C := adHouse K) (dx := dx) (fun _ _ => ev_var rfl) s2 T.cHouse T.aHouse_alive (by simp) fun al H3 g3 e3 h3 => ?_
  have p3 : putF "alive" (.ref al) ([("time", .int 0), ("ever", .int 0)] : List (Str × V)) = ([("time", .int 0), ("ever", .int 0), ("alive", .ref al)] : List (Str × V)) := rfl
  rw [p3]
  generalize hG3 : upd H3 s9 (.ins (adHouse K) dx ([("time", .int 0), ("ever", .int 0), ("alive", .ref al)] : List (Str × V))) = G3
  have s3 : G3 s9 = some (.ins (adHouse K) dx ([("time", .int 0), ("ever", .int 0), ("alive", .ref al)] : List (Str × V))) := by
    rw [← hG3]
    exact upd_same
  have F3 : Ex F G3 := by
    rw [← hG3]
    exact (F2.trans e3).mut hFs
  have ne_al : al ≠ s9 := (own_ne s2 g3).symm
  have kal3 : G3 al = some (.dK []) := by
    rw [← hG3, upd_ne ne_al]
    exact h3
  have f_al : F al = none := fresh_back F2 g3
  refine s_fldL (D := { nx := _, rt := _ }) (a := s9) (C := adHouse K) (dx := dx) (xs := []) (el_lst ea_nil (Nat.zero_le _)) (ev_var rfl) s3 T.cHouse T.aHouse_made (by simp) fun mdl H4 g4 e4 h4 => ?_
  have p4 : putF "made" (.ref mdl) ([("time", .int 0), ("ever", .int 0), ("alive", .ref al)] : List (Str × V)) = ([("time", .int 0), ("ever", .int 0), ("alive", .ref al), ("made", .ref mdl)] : List (Str × V)) := rfl
  rw [p4]
  generalize hG4 : upd H4 s9 (.ins (adHouse K) dx ([("time", .int 0), ("ever", .int 0), ("alive", .ref al), ("made", .ref mdl)] : List (Str × V))) = G4
  have s4 : G4 s9 = some (.ins (adHouse K) dx ([("time", .int 0), ("ever", .int 0), ("alive", .ref al), ("made", .ref mdl)] : List (Str × V))) := by
    rw [← hG4]
    exact upd_same
  have F4 : Ex F G4 := by
    rw [← hG4]
    exact (F3.trans e4).mut hFs
  have kal4 : G4 al = some (.dK []) := by
    rw [← hG4, upd_ne ne_al]
    exact e4 _ _ kal3
  have ne_mdl : mdl ≠ s9 := (own_ne s3 g4).symm
  have kmdl4 : G4 mdl = some (.lst []) := by
    rw [← hG4, upd_ne ne_mdl]
    exact h4
  have f_mdl : F mdl = none := fresh_back F3 g4
  have n_al_mdl : al ≠ mdl := own_ne kal3 g4
  refine s_fldL (D := { nx := _, rt := _ }) (a := s9) (C := adHouse K) (dx := dx) (xs := []) (el_lst ea_nil (Nat.zero_le _)) (ev_var rfl) s4 T.cHouse T.aHouse_open_makes (by simp) fun op H5 g5 e5 h5 => ?_
  have p5 : putF "open_makes" (.ref op) ([("time", .int 0), ("ever", .int 0), ("alive", .ref al), ("made", .ref mdl)] : List (Str × V)) = ([("time", .int 0), ("ever", .int 0), ("alive", .ref al), ("made", .ref mdl), ("open_makes", .ref op)] : List (Str × V)) := rfl
  rw [p5]
  generalize hG5 : upd H5 s9 (.ins (adHouse K) dx ([("time", .int 0), ("ever", .int 0), ("alive", .ref al), ("made", .ref mdl), ("open_makes", .ref op)] : List (Str × V))) = G5
  have s5 : G5 s9 = some (.ins (adHouse K) dx ([("time", .int 0), ("ever", .int 0), ("alive", .ref al), ("made", .ref mdl), ("open_makes", .ref op)] : List (Str × V))) := by
    rw [← hG5]
    exact upd_same
  have F5 : Ex F G5 := by
    rw [← hG5]
    exact (F4.trans e5).mut hFs
  have kal5 : G5 al = some (.dK []) := by
    rw [← hG5, upd_ne ne_al]
    exact e5 _ _ kal4
  have kmdl5 : G5 mdl = some (.lst []) := by
    rw [← hG5, upd_ne ne_mdl]
    exact e5 _ _ kmdl4
  have ne_op : op ≠ s9 := (own_ne s4 g5).symm
  have kop5 : G5 op = some (.lst []) := by
    rw [← hG5, upd_ne ne_op]
    exact h5
  have f_op : F op = none := fresh_back F4 g5
  have n_al_op : al ≠ op := own_ne kal4 g5
  have n_mdl_op : mdl ≠ op := own_ne kmdl4 g5
  refine s_fldL (D := { nx := _, rt := _ }) (a := s9) (C := adHouse K) (dx := dx) (xs := []) (el_lst ea_nil (Nat.zero_le _)) (ev_var rfl) s5 T.cHouse T.aHouse_sealed (by simp) fun sl H6 g6 e6 h6 => ?_
  have p6 : putF "sealed" (.ref sl) ([("time", .int 0), ("ever", .int 0), ("alive", .ref al), ("made", .ref mdl), ("open_makes", .ref op)] : List (Str × V)) = ([("time", .int 0), ("ever", .int 0), ("alive", .ref al), ("made", .ref mdl), ("open_makes", .ref op), ("sealed", .ref sl)] : List (Str × V)) := rfl
  rw [p6]
  generalize hG6 : upd H6 s9 (.ins (adHouse K) dx ([("time", .int 0), ("ever", .int 0), ("alive", .ref al), ("made", .ref mdl), ("open_makes", .ref op), ("sealed", .ref sl)] : List (Str × V))) = G6
  have s6 : G6 s9 = some (.ins (adHouse K) dx ([("time", .int 0), ("ever", .int 0), ("alive", .ref al), ("made", .ref mdl), ("open_makes", .ref op), ("sealed", .ref sl)] : List (Str × V))) := by
    rw [← hG6]
    exact upd_same
  have F6 : Ex F G6 := by
    rw [← hG6]
    exact (F5.trans e6).mut hFs
  have kal6 : G6 al = some (.dK []) := by
    rw [← hG6, upd_ne ne_al]
    exact e6 _ _ kal5
  have kmdl6 : G6 mdl = some (.lst []) := by
    rw [← hG6, upd_ne ne_mdl]
    exact e6 _ _ kmdl5
  have kop6 : G6 op = some (.lst []) := by
    rw [← hG6, upd_ne ne_op]
    exact e6 _ _ kop5
  have ne_sl : sl ≠ s9 := (own_ne s5 g6).symm
  have ksl6 : G6 sl = some (.lst []) := by
    rw [← hG6, upd_ne ne_sl]
    exact h6
  have f_sl : F sl = none := fresh_back F5 g6
  have n_al_sl : al ≠ sl := own_ne kal5 g6
  have n_mdl_sl : mdl ≠ sl := own_ne kmdl5 g6
  have n_op_sl : op ≠ sl := own_ne kop5 g6
  refine s_fldK (a := s9) (C := adHouse K) (dx := dx) (fun _ _ => ev_var rfl) s6 T.cHouse T.aHouse_kept (by simp) fun kp H7 g7 e7 h7 => ?_
  have p7 : putF "kept" (.ref kp) ([("time", .int 0), ("ever", .int 0), ("alive", .ref al), ("made", .ref mdl), ("open_makes", .ref op), ("sealed", .ref sl)] : List (Str × V)) = ([("time", .int 0), ("ever", .int 0), ("alive", .ref al), ("made", .ref mdl), ("open_makes", .ref op), ("sealed", .ref sl), ("kept", .ref kp)] : List (Str × V)) := rfl
  rw [p7]
  generalize hG7 : upd H7 s9 (.ins (adHouse K) dx ([("time", .int 0), ("ever", .int 0), ("alive", .ref al), ("made", .ref mdl), ("open_makes", .ref op), ("sealed", .ref sl), ("kept", .ref kp)] : List (Str × V))) = G7
  have s7 : G7 s9 = some (.ins (adHouse K) dx ([("time", .int 0), ("ever", .int 0), ("alive", .ref al), ("made", .ref mdl), ("open_makes", .ref op), ("sealed", .ref sl), ("kept", .ref kp)] : List (Str × V))) := by
    rw [← hG7]
    exact upd_same
  have F7 : Ex F G7 := by
    rw [← hG7]
    exact (F6.trans e7).mut hFs
  have kal7 : G7 al = some (.dK []) := by
    rw [← hG7, upd_ne ne_al]
    exact e7 _ _ kal6
  have kmdl7 : G7 mdl = some (.lst []) := by
    rw [← hG7, upd_ne ne_mdl]
    exact e7 _ _ kmdl6
  have kop7 : G7 op = some (.lst []) := by
    rw [← hG7, upd_ne ne_op]
    exact e7 _ _ kop6
  have ksl7 : G7 sl = some (.lst []) := by
    rw [← hG7, upd_ne ne_sl]
    exact e7 _ _ ksl6
  have ne_kp : kp ≠ s9 := (own_ne s6 g7).symm
  have kkp7 : G7 kp = some (.dK []) := by
    rw [← hG7, upd_ne ne_kp]
    exact h7
  have f_kp : F kp = none := fresh_back F6 g7
  have n_al_kp : al ≠ kp := own_ne kal6 g7
  have n_mdl_kp : mdl ≠ kp := own_ne kmdl6 g7
  have n_op_kp : op ≠ kp := own_ne kop6 g7
  have n_sl_kp : sl ≠ kp := own_ne ksl6 g7
  have hne : [s9, al, mdl, op, sl].Nodup := by
    simp only [List.nodup_cons, List.mem_cons, List.not_mem_nil, not_or, or_false, not_false_iff, List.nodup_nil, and_true]
    exact ⟨⟨fun z => ne_al z.symm, fun z => ne_mdl z.symm, fun z => ne_op z.symm, fun z => ne_sl z.symm⟩, ⟨n_al_mdl, n_al_op, n_al_sl⟩, ⟨n_mdl_op, n_mdl_sl⟩, n_op_sl⟩
  have hF : ∀ a ∈ [s9, al, mdl, op, sl], F a = none := by
    intro a ha
    simp only [List.mem_cons, List.not_mem_nil, or_false] at ha
    rcases ha with rfl | rfl | rfl | rfl | rfl
    · exact hFs
    · exact f_al
    · exact f_mdl
    · exact f_op
    · exact f_sl
  exact k G7 [s9, al, mdl, op, sl] F7 hF fun L C eC => ⟨dx, al, mdl, op, sl, kp, 0, [], [], rfl, s7, kal7, kmdl7, kop7, ksl7, hne, fun a ha => fresh_back eC (hF a ha), .nil, fun _ h => absurd h List.not_mem_nil, .nil, fun _ h => absurd h List.not_mem_nil, .nil⟩
def sp_House_look_for (K : PySem.W.Frag) : Sp := fun vs H Q _ => ∃ (L : List Str) (C : Hp) (hp : Addr) (M : List Addr) (S : HSt) (n m : Nat), vs = [.ref hp, .int (n : Nat)] ∧ HouseAt K L C H hp M S ∧ (n, m) ∈ S.al ∧ RetV .non H Q
theorem al_find {al : List (Nat × Nat)} {n m : Nat} (h : (n, m) ∈ al) : (valV (alK al) (kN n)).isSome = true := by
  rw [alK_val]
  cases hc : al.find? (fun x => decide (x.1 = n)) with
  | none =>
    have := List.find?_eq_none.mp hc _ h
    simp at this
  | some x => rfl
theorem sc_House_look_for : FnScope ["self", "number"] ["self", "number"] (defScope s_House_look_for) := ⟨rfl, rfl, rfl, by decide +kernel, rfl, by decide +kernel, by decide +kernel⟩
theorem ok_House_look_for {P : Program} {w : World} {K : PySem.W.Frag} {mg : Str → Option Value} {base : Heap} (G : Gm K (adHouse K) "look_for" "House.look_for" s_House_look_for) (T : Tx K mg) : OkM P w K mg base 1 (adHouse K) "look_for" ["self", "number"] (sp_House_look_for K) := by
  refine G.ok (k := 0) sc_House_look_for (fun _ _ _ _ _ _ us hl => match us, hl with | [_, _], _ => rfl) (fun vs H Q E h => ?_) (fun f cdv A outer s H vs Q E hr h => ?_)
  · unfold sp_House_look_for at h
    repeat (first | (obtain ⟨rfl, h⟩ := h; rfl) | (obtain ⟨_, h⟩ := h))
  have hu := hu_of hr
  refine ⟨_, (pss_one (ps_if (pt_cmp (pc_dnotin hu (pv 1) (pe_fldK K (pv 0)))) (pss_one ps_never) pss_nil)), ?_⟩
  obtain ⟨L, C, hp, M, S, n, m, rfl, ⟨dx, al, mdl, op, sl, kp, t, to, ts, hM, hi⟩, hm, k⟩ := h
  have hsome := al_find hm
  refine s_when (b := false) (fun H1 e1 Q1 q1 => ?_) (fun z => nomatch z) fun _ H1 e1 => k H1 e1
  refine ⟨_, rfl, _, rfl, hp, _, dx, _, .ref al, rfl, e1 _ _ hi.house, T.cHouse, T.aHouse_alive, rfl, al, _, rfl, DGet.k (k := kN n) (e1 _ _ hi.alive), _, rfl, ?_⟩
  rw [hsome]
  exact q1 H1 (Ex.refl _)
def sp_House_put (K : PySem.W.Frag) : Sp := fun vs H Q _ => ∃ (L : List Str) (C : Hp) (hp d : Addr) (M : List Addr) (S : HSt) (ds : Doc), vs = [.ref hp, .ref d] ∧ Ex C H ∧ HouseAt K L C H hp M S ∧ (allM S).length ≤ 1000 ∧ S.al.length ≤ 1000 ∧ DocAt C d ds ∧ DocOk ds ∧
  Did K L C H hp M (fun S' => ∃ d1 d2, S' = addS { S with ever := S.ever + 1 } S.ever d1 d2 ds) (.int (S.ever : Nat)) Q
theorem HouseAt.inc {K : PySem.W.Frag} {L : List Str} {C H : Hp} {hp dx al mdl op sl kp : Addr} {t : Int} {S S' : HSt} {to ts : List Addr} {t' : Int} (h : HIn K L C H hp dx al mdl op sl kp t S to ts) (h1 : S'.pcs = S.pcs) (h2 : S'.ops = S.ops) (h3 : S'.mdA = S.mdA) (h4 : S'.al = S.al) {H1 : Hp} (e : Ex H H1) :
    HouseAt K L C (upd H1 hp (HouseO K dx al mdl op sl kp t' S'.ever)) hp [hp, al, mdl, op, sl] S' := by
  obtain ⟨i1, i2, i3, i4, i5, i6, i7, i8, i9, i10, i11, i12⟩ := h
  have i6' := i6
  simp only [List.nodup_cons, List.mem_cons, List.not_mem_nil, not_or, or_false] at i6
  obtain ⟨⟨n1, n2, n3, n4⟩, ⟨n5, n6, n7⟩, ⟨n8, n9⟩, n10, _⟩ := i6
  have eA : allM S' = allM S := by
    unfold allM
    rw [h1, h2]
  have f0 : ∀ {x o}, x ≠ hp → H x = some o → upd H1 hp (HouseO K dx al mdl op sl kp t' S'.ever) x = some o := fun {x o} hx h => by rw [upd_ne hx]; exact e _ _ h
  exact ⟨dx, al, mdl, op, sl, kp, t', to, ts, rfl, upd_same, by rw [h4]; exact f0 (fun z => n1 z.symm) i2, by rw [h3]; exact f0 (fun z => n2 z.symm) i3, f0 (fun z => n3 z.symm) i4, f0 (fun z => n4 z.symm) i5, i6', i7, by rw [h2]; exact i8, by rw [h2]; exact i9, by rw [h1]; exact i10, by rw [h1]; exact i11, by rw [h3, eA]; exact i12⟩
theorem sc_House_put : FnScope ["self", "document", "number"] ["self", "document"] (defScope s_House_put) := ⟨rfl, rfl, rfl, by decide +kernel, rfl, by decide +kernel, by decide +kernel⟩
theorem ok_House_put {P : Program} {w : World} {K : PySem.W.Frag} {mg : Str → Option Value} {base : Heap} (G : Gm K (adHouse K) "put" "House.put" s_House_put) (T : Tx K mg) (O_look_at_document : OkF P w K mg base 2 "look_at_document" ["document"] sp_look_at_document) (O_House_add_make : OkM P w K mg base 1 (adHouse K) "add_make" ["self", "number", "document"] (sp_House_add_make K)) : OkM P w K mg base 3 (adHouse K) "put" ["self", "document"] (sp_House_put K) := by
  refine G.ok (k := 2) sc_House_put (fun _ _ _ _ _ _ us hl => match us, hl with | [_, _], _ => rfl) (fun vs H Q E h => ?_) (fun f cdv A outer s H vs Q E hr h => ?_)
  · unfold sp_House_put at h
    repeat (first | (obtain ⟨rfl, h⟩ := h; rfl) | (obtain ⟨_, h⟩ := h))
  have hu := hu_of hr
  refine ⟨_, (pss_cons (ps_expr (pe_fn O_look_at_document (hr.mono (by decide)) (pa_cons (pv 1) pa_nil)))
      (pss_cons (psv 2 sc_House_put.nd (pe_fldK K (pv 0)))
      (pss_cons (ps_fldaug (pv 0) pe_int in_add)
      (pss_cons (ps_expr (pe_mt O_House_add_make (hr.mono (by decide)) T.cHouse (pv 0) (pa_cons (pv 2) (pa_cons (pv 1) pa_nil))))
      (pss_one (ps_ret (pv 2))))))), ?_⟩
  obtain ⟨L, C, hp, d, M, S, ds, rfl, eC, ⟨dx, al, mdl, op, sl, kp, t, to, ts, rfl, hi⟩, hfew, hal, hdoc, hdok, k⟩ := h
  refine q_drop (v := .non) (ev_call (ea_cons (ev_var rfl) ea_nil) fun H1 e1 Q1 q1 E1 => ⟨d, ds, rfl, hdoc.mono (eC.trans e1), hdok, q1⟩) fun H1 e1 => ?_
  refine q_asg (v := .int (S.ever : Nat)) (ev_fld (ev_var rfl) (e1 _ _ hi.house) T.cHouse T.aHouse_ever rfl) fun H2 e2 => ?_
  have e12 := e1.trans e2
  refine s_fldInc (D := { nx := _, rt := _ }) (ev_var rfl) (e12 _ _ hi.house) T.cHouse T.aHouse_ever rfl (by simp) fun H3 e3 => ?_
  have e13 := e12.trans e3
  have hpf : putF "ever" (.int ((S.ever : Int) + 1)) ([("time", .int t), ("ever", .int S.ever), ("alive", .ref al), ("made", .ref mdl), ("open_makes", .ref op), ("sealed", .ref sl), ("kept", .ref kp)] : List (Str × V)) = ([("time", .int t), ("ever", .int ((S.ever : Int) + 1)), ("alive", .ref al), ("made", .ref mdl), ("open_makes", .ref op), ("sealed", .ref sl), ("kept", .ref kp)] : List (Str × V)) := rfl
  rw [hpf]
  have hH := HouseAt.inc (t' := t) (S' := { S with ever := S.ever + 1 }) hi rfl rfl rfl rfl e13
  have hev : (((S.ever + 1 : Nat)) : Int) = (S.ever : Int) + 1 := by omega
  rw [show ({ S with ever := S.ever + 1 } : HSt).ever = S.ever + 1 from rfl, hev] at hH
  have k3 : Keep [hp, al, mdl, op, sl] H (upd H3 hp (HouseO K dx al mdl op sl kp t ((S.ever : Int) + 1))) := ((Keep.refl _ H).ex e13).upd (by simp)
  have eC3 := k3.C eC hi.out
  generalize hHa : upd H3 hp (HouseO K dx al mdl op sl kp t ((S.ever : Int) + 1)) = Ha at hH k3 eC3 ⊢
  have hdom : ∀ a, H a ≠ none → Ha a ≠ none := fun a ha => by
    rw [← hHa]
    by_cases c : a = hp
    · subst c
      rw [upd_same]
      exact Option.some_ne_none _
    · rw [upd_ne c]
      cases hq : H a with
      | none => exact absurd hq ha
      | some u => exact ns (e13 _ _ hq)
  obtain ⟨dx2, al2, mdl2, op2, sl2, kp2, t2, to2, ts2, hM2, hi2⟩ := id hH
  refine ⟨_, rfl, hp, dx2, _, rfl, hi2.house, rfl, _, rfl, _, rfl, L, C, hp, d, _, _, S.ever, ds, rfl, eC3, hH, hfew, hal, hdoc, fun H' C' d1 d2 eCC eC' hn hK hH' => ?_⟩
  refine s_ret (ev_var rfl) fun H5 e5 => k H5 C' _ _ eCC (eC'.trans e5) (fun a ha => hn a (hdom a ha)) ((k3.trans hK).ex e5) (fun a ha => .inl ha) (hH'.ex e5) ⟨d1, d2, rfl⟩
def sp_House_change (K : PySem.W.Frag) : Sp := fun vs H Q _ => ∃ (L : List Str) (C : Hp) (hp d : Addr) (M : List Addr) (S : HSt) (ds : Doc) (n m : Nat), vs = [.ref hp, .int (n : Nat), .ref d] ∧ Ex C H ∧ HouseAt K L C H hp M S ∧ (allM S).length ≤ 1000 ∧ S.al.length ≤ 1000 ∧ DocAt C d ds ∧ DocOk ds ∧ (n, m) ∈ S.al ∧
  Did K L C H hp M (fun S' => ∃ d1 d2, S' = addS S n d1 d2 ds) .non Q
theorem sc_House_change : FnScope ["self", "number", "document"] ["self", "number", "document"] (defScope s_House_change) := ⟨rfl, rfl, rfl, by decide +kernel, rfl, by decide +kernel, by decide +kernel⟩
theorem ok_House_change {P : Program} {w : World} {K : PySem.W.Frag} {mg : Str → Option Value} {base : Heap} (G : Gm K (adHouse K) "change" "House.change" s_House_change) (T : Tx K mg) (O_House_look_for : OkM P w K mg base 1 (adHouse K) "look_for" ["self", "number"] (sp_House_look_for K)) (O_look_at_document : OkF P w K mg base 2 "look_at_document" ["document"] sp_look_at_document) (O_House_add_make : OkM P w K mg base 1 (adHouse K) "add_make" ["self", "number", "document"] (sp_House_add_make K)) : OkM P w K mg base 3 (adHouse K) "change" ["self", "number", "document"] (sp_House_change K) := by
  refine G.ok (k := 2) sc_House_change (fun _ _ _ _ _ _ us hl => match us, hl with | [_, _, _], _ => rfl) (fun vs H Q E h => ?_) (fun f cdv A outer s H vs Q E hr h => ?_)
  · unfold sp_House_change at h
    repeat (first | (obtain ⟨rfl, h⟩ := h; rfl) | (obtain ⟨_, h⟩ := h))
  have hu := hu_of hr
  refine ⟨_, (pss_cons (ps_expr (pe_mt O_House_look_for (hr.mono (by decide)) T.cHouse (pv 0) (pa_cons (pv 1) pa_nil)))
      (pss_cons (ps_expr (pe_fn O_look_at_document (hr.mono (by decide)) (pa_cons (pv 2) pa_nil)))
      (pss_one (ps_expr (pe_mt O_House_add_make (hr.mono (by decide)) T.cHouse (pv 0) (pa_cons (pv 1) (pa_cons (pv 2) pa_nil))))))), ?_⟩
  obtain ⟨L, C, hp, d, M, S, ds, n, m, rfl, eC, hH, hfew, hal, hdoc, hdok, hm, k⟩ := h
  obtain ⟨dx2, al2, mdl2, op2, sl2, kp2, t2, to2, ts2, hM2, hi2⟩ := id hH
  refine ⟨_, rfl, hp, dx2, _, rfl, hi2.house, rfl, _, rfl, L, C, hp, M, S, n, m, rfl, hH, hm, fun H1 e1 => ?_⟩
  refine q_drop (v := .non) (ev_call (ea_cons (ev_var rfl) ea_nil) fun H2 e2 Q1 q1 E1 => ⟨d, ds, rfl, hdoc.mono ((eC.trans e1).trans e2), hdok, q1⟩) fun H2 e2 => ?_
  have e12 := e1.trans e2
  refine ⟨_, rfl, hp, dx2, _, rfl, e12 _ _ hi2.house, rfl, _, rfl, _, rfl, L, C, hp, d, M, S, n, ds, rfl, eC.trans e12, hH.ex e12, hfew, hal, hdoc, fun H' C' d1 d2 eCC eC' hn hK hH' => ?_⟩
  refine k H' C' M _ eCC eC' (fun a ha => hn a ?_) (fun a o ha h => hK a o ha (e12 _ _ h)) (fun a ha => .inl ha) hH' ⟨d1, d2, rfl⟩
  cases hq : H a with
  | none => exact absurd hq ha
  | some u => exact ns (e12 _ _ hq)
def sp_House_take (K : PySem.W.Frag) : Sp := fun vs H Q _ => ∃ (L : List Str) (C : Hp) (hp : Addr) (M : List Addr) (S : HSt) (n m : Nat), vs = [.ref hp, .int (n : Nat)] ∧ Ex C H ∧ HouseAt K L C H hp M S ∧ (n, m) ∈ S.al ∧
  Did K L C H hp M (fun S' => S' = { S with al := S.al.filter fun x => decide (x.1 ≠ n) }) .non Q
theorem alK_drop (al : List (Nat × Nat)) (n : Nat) : dropK (alK al) (kN n) = alK (al.filter fun x => decide (x.1 ≠ n)) := by
  unfold dropK
  show List.filter _ (List.map _ al) = List.map _ (List.filter _ al)
  rw [List.filter_map]
  congr 1
  refine List.filter_congr fun x _ => ?_
  refine decide_eq_decide.mpr ?_
  constructor
  · intro h z
    exact h (by show kN x.1 = kN n; rw [z])
  · intro h z
    exact h (by have := Sum.inl.inj z; omega)
theorem sc_House_take : FnScope ["self", "number"] ["self", "number"] (defScope s_House_take) := ⟨rfl, rfl, rfl, by decide +kernel, rfl, by decide +kernel, by decide +kernel⟩
theorem ok_House_take {P : Program} {w : World} {K : PySem.W.Frag} {mg : Str → Option Value} {base : Heap} (G : Gm K (adHouse K) "take" "House.take" s_House_take) (T : Tx K mg) (O_House_look_for : OkM P w K mg base 1 (adHouse K) "look_for" ["self", "number"] (sp_House_look_for K)) : OkM P w K mg base 2 (adHouse K) "take" ["self", "number"] (sp_House_take K) := by
  refine G.ok (k := 1) sc_House_take (fun _ _ _ _ _ _ us hl => match us, hl with | [_, _], _ => rfl) (fun vs H Q E h => ?_) (fun f cdv A outer s H vs Q E hr h => ?_)
  · unfold sp_House_take at h
    repeat (first | (obtain ⟨rfl, h⟩ := h; rfl) | (obtain ⟨_, h⟩ := h))
  have hu := hu_of hr
  refine ⟨_, (pss_cons (ps_expr (pe_mt O_House_look_for (hr.mono (by decide)) T.cHouse (pv 0) (pa_cons (pv 1) pa_nil)))
      (pss_cons (ps_expr (pe_dpop1 (pe_fldK K (pv 0)) (pv 1) (M1.of rfl)))
      (pss_one (ps_fldaug (pv 0) pe_int in_add)))), ?_⟩
  obtain ⟨L, C, hp, M, S, n, m, rfl, eC, hH, hm, k⟩ := h
  obtain ⟨dx, al, mdl, op, sl, kp, t, to, ts, rfl, hi⟩ := id hH
  have hsome := al_find hm
  obtain ⟨v0, hv0⟩ := Option.isSome_iff_exists.mp hsome
  refine ⟨_, rfl, hp, dx, _, rfl, hi.house, rfl, _, rfl, L, C, hp, _, S, n, m, rfl, hH, hm, fun H1 e1 => ?_⟩
  refine ⟨_, rfl, hp, _, dx, _, .ref al, rfl, e1 _ _ hi.house, T.cHouse, T.aHouse_alive, rfl, al, rfl, .inl ⟨_, .inl (e1 _ _ hi.alive)⟩, _, rfl, alK S.al, kN n, v0, e1 _ _ hi.alive, rfl, hv0, ?_⟩
  rw [alK_drop]
  have i6 := hi.nd
  simp only [List.nodup_cons, List.mem_cons, List.not_mem_nil, not_or, or_false] at i6
  obtain ⟨⟨n1, n2, n3, n4⟩, ⟨n5, n6, n7⟩, ⟨n8, n9⟩, n10, _⟩ := i6
  have k1 : Keep [hp, al, mdl, op, sl] H (upd H1 al (.dK (alK (S.al.filter fun x => decide (x.1 ≠ n))))) := ((Keep.refl _ H).ex e1).upd (by simp)
  have f0 : ∀ {x o}, x ≠ al → H x = some o → upd H1 al (.dK (alK (S.al.filter fun x => decide (x.1 ≠ n)))) x = some o := fun {x o} hx h => by rw [upd_ne hx]; exact e1 _ _ h
  generalize hHa : upd H1 al (.dK (alK (S.al.filter fun x => decide (x.1 ≠ n)))) = Ha at k1 f0 ⊢
  have hin : HIn K L C Ha hp dx al mdl op sl kp t { S with al := S.al.filter fun x => decide (x.1 ≠ n) } to ts := ⟨f0 n1 hi.house, by rw [← hHa]; exact upd_same, f0 (fun z => n5 z.symm) hi.made, f0 (fun z => n6 z.symm) hi.opn, f0 (fun z => n7 z.symm) hi.sld, hi.nd, hi.out, hi.ops, hi.opd, hi.pcs, hi.pcd, hi.mds⟩
  refine s_fldInc (ev_var rfl) hin.house T.cHouse T.aHouse_time rfl (by simp) fun H5 e5 => ?_
  have hpf : putF "time" (.int (t + 1)) ([("time", .int t), ("ever", .int S.ever), ("alive", .ref al), ("made", .ref mdl), ("open_makes", .ref op), ("sealed", .ref sl), ("kept", .ref kp)] : List (Str × V)) = ([("time", .int (t + 1)), ("ever", .int S.ever), ("alive", .ref al), ("made", .ref mdl), ("open_makes", .ref op), ("sealed", .ref sl), ("kept", .ref kp)] : List (Str × V)) := rfl
  have k5 : Keep [hp, al, mdl, op, sl] H (upd H5 hp (HouseO K dx al mdl op sl kp (t + 1) S.ever)) := (k1.ex e5).upd (by simp)
  have hH' := HouseAt.inc (t' := t + 1) hin rfl rfl rfl rfl e5 (S' := { S with al := S.al.filter fun x => decide (x.1 ≠ n) })
  rw [show (putF _ _ _ : List (Str × V)) = _ from hpf]
  exact k _ C _ _ (Ex.refl _) (k5.C eC hi.out) (fun _ _ => rfl) k5 (fun a ha => .inl ha) hH' rfl
end Fc
/-! The house: sealing, its pieces. -/
namespace Fc
open PySem PySem.Spec PyProof.Rows L2 Evl
/-! ### makes as plain data (for the test against the empty list) -/
theorem dp_map {K : PySem.W.Frag} {H : Hp} {α : Type} {R : V → α → Prop} {F : α → PyData} (h : ∀ v e, R v e → Dp K H v (F e)) : ∀ {vs : List V} {es : List α}, Paired R vs es → DpAll K H vs (es.map F)
  | _, _, .nil => .nil
  | _, _, .cons r p => .cons (h _ _ r) (dp_map h p)
theorem lay_map {α : Type} {F : α → PyData} : ∀ {es : List α}, (∀ e ∈ es, PyData.canLay0 (F e) = true) → PyData.canLayAll0 (es.map F) = true
  | [], _ => by simp [PyData.canLayAll0]
  | e :: r, h => by simp [PyData.canLayAll0, h e List.mem_cons_self, lay_map fun x hx => h x (List.mem_cons_of_mem _ hx)]
theorem dep_map {α : Type} {F : α → PyData} {k : Nat} (h : ∀ e, PyData.depth (F e) ≤ k) : ∀ es : List α, PyData.depthAll (es.map F) ≤ k
  | [] => by simp [PyData.depthAll]
  | e :: r => by
    have h1 := h e
    have h2 := dep_map h r
    simp only [List.map_cons, PyData.depthAll]
    omega
theorem strOk_of {x : Str} (h : ∀ c ∈ x.cps.toList, c < 1114112) : PyData.strOk x = true := by
  unfold PyData.strOk
  rw [← Array.all_toList, List.all_eq_true]
  exact fun c hc => decide_eq_true (h c hc)
theorem nm_ok {x : Str} (h : Nm x) : PyData.strOk x = true := strOk_of fun c hc => by
  have := mem_let.mp (h.2.2 c hc)
  omega
def dF (p : Str × Str) : PyData := .tuple [.str p.1, .str p.2]
def dM (m : MkT) : PyData := .tuple [.int (m.1 : Nat), .list (m.2.2.map dF)]
theorem dF_dep (p : Str × Str) : PyData.depth (dF p) ≤ 2 := by
  unfold dF
  simp [PyData.depth, PyData.depthAll]
theorem dM_dep (m : MkT) : PyData.depth (dM m) ≤ 5 := by
  have h2 := dep_map (F := dF) (k := 2) dF_dep m.2.2
  unfold dM
  simp only [PyData.depth, PyData.depthAll]
  omega
theorem dM_ok (m : MkT) (h : DocOk m.2.2) : PyData.canLay0 (dM m) = true := by
  have h1 := lay_map (F := dF) (es := m.2.2) fun p hp => by
    unfold dF
    simp [PyData.canLay0, PyData.canLayAll0, nm_ok (h.1 p hp), strOk_of (h.2.2.2 p hp)]
  unfold dM
  simp [PyData.canLay0, PyData.canLayAll0, h1]
theorem ops_shaped (ms : List MkT) (h : ∀ m ∈ ms, DocOk m.2.2) : SeqAt.shaped (.list (ms.map dM)) = true := by
  have h1 := lay_map (F := dM) (es := ms) fun m hm => dM_ok m (h m hm)
  have h2 := dep_map (F := dM) (k := 5) dM_dep ms
  unfold SeqAt.shaped
  have h3 : PyData.depth (.list (ms.map dM)) ≤ 64 := by
    simp only [PyData.depth]
    omega
  rw [decide_eq_true h3]
  simp [PyData.canLay0, h1]
theorem doc_dp {K : PySem.W.Frag} {H : Hp} {a : Addr} {ds : Doc} (h : DocAt H a ds) : Dp K H (.ref a) (.list (ds.map dF)) := by
  obtain ⟨ts, h1, h2⟩ := h
  have h3 : ∀ {ts : List Addr} {ds : Doc}, Paired (fun t (p : Str × Str) => H t = some (.tup [.str p.1, .str p.2])) ts ds → Paired (fun v (p : Str × Str) => ∃ t, v = V.ref t ∧ H t = some (.tup [.str p.1, .str p.2])) (ts.map V.ref) ds := by
    intro ts ds p
    induction p with
    | nil => exact .nil
    | cons r _ ih => exact .cons ⟨_, rfl, r⟩ ih
  refine .lst (sq_of h1) (dp_map (fun v e r => ?_) (h3 h2))
  obtain ⟨t, rfl, ht⟩ := r
  exact .tup (st_of ht) (.cons (.str _) (.cons (.str _) .nil))
theorem ops_dp {K : PySem.W.Frag} {H : Hp} {a : Addr} {to : List Addr} {ms : List MkT} (h : H a = some (.lst (to.map V.ref))) (hp : Paired (fun t (m : MkT) => H t = some (.tup [.int (m.1 : Nat), .ref m.2.1])) to ms) (hd : ∀ m ∈ ms, DocAt H m.2.1 m.2.2) : Dp K H (.ref a) (.list (ms.map dM)) := by
  have h3 : ∀ {to : List Addr} {ms : List MkT}, Paired (fun t (m : MkT) => H t = some (.tup [.int (m.1 : Nat), .ref m.2.1])) to ms → (∀ m ∈ ms, DocAt H m.2.1 m.2.2) → Paired (fun v (m : MkT) => ∃ t, v = V.ref t ∧ H t = some (.tup [.int (m.1 : Nat), .ref m.2.1]) ∧ DocAt H m.2.1 m.2.2) (to.map V.ref) ms := by
    intro to ms p
    induction p with
    | nil => exact fun _ => .nil
    | cons r _ ih => exact fun hd => .cons ⟨_, rfl, r, hd _ List.mem_cons_self⟩ (ih fun m hm => hd m (List.mem_cons_of_mem _ hm))
  refine .lst (sq_of h) (dp_map (fun v e r => ?_) (h3 hp hd))
  obtain ⟨t, rfl, ht, hdd⟩ := r
  exact .tup (st_of ht) (.cons (.int _) (.cons (doc_dp hdd) .nil))
theorem ops_ne (ms : List MkT) : (!PyData.eqv (.list (ms.map dM)) (.list [])) = !ms.isEmpty := by
  cases ms with
  | nil => rfl
  | cons m r => simp [PyData.eqv, PyData.eqvAll]
/-! ### a piece at its place -/
def sp_House_piece_at (K : PySem.W.Frag) : Sp := fun vs H Q _ => ∃ (L : List Str) (C : Hp) (hp : Addr) (M : List Addr) (S : HSt) (i : Nat) (x : PcT), vs = [.ref hp, .int (i : Nat)] ∧ Ex C H ∧ HouseAt K L C H hp M S ∧ S.pcs[i]? = some x ∧ RetV (.ref x.1) H Q
theorem sc_House_piece_at : FnScope ["self", "at", "makes", "piece", "row"] ["self", "at"] (defScope s_House_piece_at) := ⟨rfl, rfl, rfl, by decide +kernel, rfl, by decide +kernel, by decide +kernel⟩
theorem ok_House_piece_at {P : Program} {w : World} {K : PySem.W.Frag} {mg : Str → Option Value} {base : Heap} (G : Gm K (adHouse K) "piece_at" "House.piece_at" s_House_piece_at) (T : Tx K mg) : OkM P w K mg base 1 (adHouse K) "piece_at" ["self", "at"] (sp_House_piece_at K) := by
  refine G.ok (k := 0) sc_House_piece_at (fun _ _ _ _ _ _ us hl => match us, hl with | [_, _], _ => rfl) (fun vs H Q E h => ?_) (fun f cdv A outer s H vs Q E hr h => ?_)
  · unfold sp_House_piece_at at h
    repeat (first | (obtain ⟨rfl, h⟩ := h; rfl) | (obtain ⟨_, h⟩ := h))
  have hu := hu_of hr
  refine ⟨_, (pss_cons (ps_asg (pe_ix (ixlK K) (pe_fldK K (pv 0)) (pv 1) (fun _ _ => rfl)) (pg_tup rfl (pgs_cons (pgv 2 sc_House_piece_at.nd) (pgs_cons (pgv 3 sc_House_piece_at.nd) (pgs_cons (pgv 4 sc_House_piece_at.nd) pgs_nil)))))
      (pss_cons (ps_if (pt_cmpR op_isN (pv 3) pe_non (nomark _)) (pss_one ps_never) pss_nil)
      (pss_one (ps_ret (pv 3))))), ?_⟩
  obtain ⟨L, C, hp, M, S, i, x, rfl, eC, ⟨dx, al, mdl, op, sl, kp, t, to, ts, hM, hi⟩, hx, k⟩ := h
  obtain ⟨tt, ht, q, htt⟩ := pd_get hi.pcs hx
  refine (ev_op (σ := start ["self", "at", "makes", "piece", "row"] [.ref hp, .int (i : Nat)]) (z := .ref tt) (ev_fld (ev_var rfl) hi.house T.cHouse T.aHouse_sealed rfl) (ev_var rfl) (rv_ixL (sq_of hi.sld) (atI_nat (by rw [List.getElem?_map, ht]; rfl)))) H (Ex.refl _) _ fun H1 e1 => ⟨tt, _, rfl, st_of ((eC.trans e1) _ _ htt), rfl, _, _, rfl, _, _, rfl, _, _, rfl, rfl, ?_⟩
  refine q_when (b := false) (et_is (et_test (ev_op (ev_var rfl) ev_c rv_isN)) ?_) (fun z => nomatch z) fun _ H2 e2 => s_ret (ev_var rfl) fun H3 e3 => k H3 ((e1.trans e2).trans e3)
  rfl
end Fc
/-! The house sealed. -/
namespace Fc
open PySem PySem.Spec PyProof.Rows L2 Evl
section
variable {K : PySem.W.Frag} {L : List Str} {C H : Hp} {hp dx al mdl op sl kp : Addr} {t : Int} {S : HSt} {to ts : List Addr}
theorem ops_mks (h : HIn K L C H hp dx al mdl op sl kp t S to ts) {F : Hp} (eC : Ex C F) (ho : F op = some (.lst (to.map V.ref))) : MksAt F op S.ops :=
  ⟨⟨to, ho, Paired.mapP h.ops fun _ _ q => eC _ _ q⟩, fun m hm => (h.opd m hm).mono eC⟩
theorem ops_ok (ho : HOk L S) : MksOk L S.ops := by
  have hall := ho.all
  have hlen : (allM S).length = (S.pcs.flatMap (·.2)).length + S.ops.length := by
    unfold allM
    rw [List.length_append, List.length_map]
  have hp : ((allM S).map (·.1)).Pairwise (· < ·) := by
    rw [hall]
    exact List.pairwise_lt_range
  have hsub : (S.ops.map (·.1)).Pairwise (· < ·) := by
    have e : (allM S).map (·.1) = (S.pcs.flatMap (·.2)).map (·.1) ++ S.ops.map (·.1) := by
      unfold allM
      rw [List.map_append, List.map_map]
      rfl
    rw [e] at hp
    exact (List.pairwise_append.mp hp).2.1
  refine ⟨(List.pairwise_map.mp hsub), by have := ho.few; omega, fun m hm => ?_⟩
  have hmm : md m ∈ allM S := List.mem_append_right _ (List.mem_map.mpr ⟨m, hm, rfl⟩)
  obtain ⟨h1, h2⟩ := ho.docs _ hmm
  refine ⟨h1, h2, ?_⟩
  have h3 : m.1 ∈ (allM S).map (·.1) := List.mem_map.mpr ⟨_, hmm, rfl⟩
  rw [hall] at h3
  have := List.mem_range.mp h3
  have := ho.few
  omega
end
def sealS (S : HSt) (p : Addr) : HSt := if S.ops = [] then S else { S with pcs := S.pcs ++ [(p, S.ops.map md)], ops := [] }
theorem allM_seal (S : HSt) (p : Addr) : allM (sealS S p) = allM S := by
  unfold sealS
  split
  · rfl
  · unfold allM
    rw [List.flatMap_append]
    simp
def sp_House_seal (K : PySem.W.Frag) : Sp := fun vs H Q _ => ∃ (L : List Str) (C : Hp) (hp : Addr) (M : List Addr) (S : HSt), vs = [.ref hp] ∧ L.length ≤ 60 ∧ Ex C H ∧ HouseAt K L C H hp M S ∧ HOk L S ∧
  Did K L C H hp M (fun S' => ∃ p, S' = sealS S p) .non Q
theorem sc_House_seal : FnScope ["self", "piece"] ["self"] (defScope s_House_seal) := ⟨rfl, rfl, rfl, by decide +kernel, rfl, by decide +kernel, by decide +kernel⟩
theorem ok_House_seal {P : Program} {w : World} {K : PySem.W.Frag} {mg : Str → Option Value} {base : Heap} (G : Gm K (adHouse K) "seal" "House.seal" s_House_seal) (T : Tx K mg) (O_Piece_init : OkC P w K mg base 4 (adPiece K) "Piece" ["self", "makes"] (sp_Piece_init K)) (O_Piece_makes : OkM P w K mg base 1 (adPiece K) "makes" ["self"] (sp_Piece_makes K)) : OkM P w K mg base 6 (adHouse K) "seal" ["self"] (sp_House_seal K) := by
  refine G.ok (k := 5) sc_House_seal (fun _ _ _ _ _ _ us hl => match us, hl with | [_], _ => rfl) (fun vs H Q E h => ?_) (fun f cdv A outer s H vs Q E hr h => ?_)
  · unfold sp_House_seal at h
    repeat (first | (obtain ⟨rfl, h⟩ := h; rfl) | (obtain ⟨_, h⟩ := h))
  have hu := hu_of hr
  refine ⟨_, (pss_cons (ps_if (pt_cmpR (neDK K hr.units) (pe_fldK K (pv 0)) (pe_lst pa_nil) (nomark _)) (pss_cons (psv 1 sc_House_seal.nd (pe_mk O_Piece_init (hr.mono (by decide)) (pa_cons (pe_fldK K (pv 0)) pa_nil)))
        (pss_cons (ps_expr (pe_bm PySem.F.plainAttrs_list PySem.F.slot_list_append PySem.F.type_list_append mt_append (pe_fldK K (pv 0)) (pa_cons (pe_tup (pa_cons (pe_mt0 O_Piece_makes (hr.mono (by decide)) T.cPiece (pv 1)) (pa_cons (pv 1) (pa_cons pe_non pa_nil)))) pa_nil)))
        (pss_one (ps_fld (pv 0) (pe_lst pa_nil) rfl)))) pss_nil)
      (pss_one (ps_fldaug (pv 0) pe_int in_add))), ?_⟩
  obtain ⟨L, C, hp, M, S, rfl, hL, eC, hH, hok, k⟩ := h
  obtain ⟨dx, al, mdl, op, sl, kp, t, to, ts, rfl, hi⟩ := id hH
  have i6 := hi.nd
  simp only [List.nodup_cons, List.mem_cons, List.not_mem_nil, not_or, or_false] at i6
  obtain ⟨⟨n1, n2, n3, n4⟩, ⟨n5, n6, n7⟩, ⟨n8, n9⟩, n10, _⟩ := i6
  have hmo := ops_ok hok
  refine q_when (b := !S.ops.isEmpty) (et_test (ev_opL (ev_fld (ev_var rfl) hi.house T.cHouse T.aHouse_open_makes rfl) (el_lst ea_nil (Nat.zero_le _)) fun p H1 hp1 e1 H2 e2 Q2 q2 => ?_)) (fun hb H1 e1 => ?_) fun hb H1 e1 => ?_
  · have e12 := e1.trans e2
    refine ⟨.list (S.ops.map dM), .list [], ops_dp (e12 _ _ hi.opn) (Paired.mapP hi.ops fun _ _ q => (eC.trans e12) _ _ q) (fun m hm => (hi.opd m hm).mono (eC.trans e12)), .lst (sq_of (e2 _ _ hp1)) .nil, ops_shaped _ fun m hm => (hmo.2.2 m hm).1, by decide, ?_⟩
    rw [ops_ne]
    exact q2 H2 (Ex.refl _)
  · have hne : S.ops ≠ [] := by
      intro z
      rw [z] at hb
      cases hb
    have eC1 := eC.trans e1
    -- the piece
    refine (ev_fld (σ := start ["self", "piece"] [.ref hp]) (v := .ref op) (ev_var rfl) (e1 _ _ hi.house) T.cHouse T.aHouse_open_makes rfl) H1 (Ex.refl _) _ fun H2 e2 => fun x xd hx hxd hne2 => ?_
    have e02 := e1.trans e2
    have eC2 := eC.trans e02
    refine ⟨L, H2, x, xd, op, S.ops, rfl, hL, (Ex.new hxd).trans (Ex.new (by rw [upd_ne hne2.symm]; exact hx)), hx, upd_same, ops_mks hi eC2 (e02 _ _ hi.opn), hmo, fun H3 e3 hP => ⟨rfl, ?_⟩⟩
    have e03 := e02.trans e3
    have eC3 := eC.trans e03
    -- sealed
    have hP3 : PieceAt K L H3 x (S.ops.map (·.1)) (tabOf (S.ops.map md)) := hP.mono fr_ex
    obtain ⟨pdx, phm, plg, ptb, plk, pp1, pp2, pp3, pp4, pp5⟩ := id hP3
    refine s_appQ (D := { nx := _, rt := _ }) (l := sl) (xs := ts.map V.ref) (P := fun v H4 => ∃ tp q, v = .ref tp ∧ H3 tp = none ∧ H4 tp = some (.tup [.ref q, .ref x, .non])) (fun H4 e4 => (e03.trans e4) _ _ hi.sld) (ev_fld (ev_var rfl) (e03 _ _ hi.house) T.cHouse T.aHouse_sealed rfl) (fun H4 e4 Q4 q4 => ?_) (by rw [List.length_map, hi.pcs.length]; have := hok.pcs; omega) fun v H4 e4 ⟨tp, q, hv, htp, ht4⟩ => ?_
    · refine (el_meth (ta := tVar 1) (σ := [some (.ref hp), some (.ref x)]) (xs := nats (S.ops.map (·.1))) (E := E0) (ev_var rfl) (e4 _ _ pp1) rfl ea_nil fun H5 e5 Q5 q5 E5 => ⟨L, H3, x, _, _, rfl, hP3, e4.trans e5, q5⟩) H4 (Ex.refl _) _ fun q H5 hq e5 hq5 => ⟨_, rfl, sizeLine_of (by simp), fun tp htp => q4 _ _ (e5.trans (Ex.new htp)) ⟨tp, q, rfl, fresh_back (e4.trans e5) htp, upd_same⟩⟩
    subst hv
    have e04 := e03.trans e4
    have k4 : Keep [hp, al, mdl, op, sl] H (upd H4 sl (.lst (ts.map V.ref ++ [.ref tp]))) := ((Keep.refl _ H).ex e04).upd (by simp)
    have f4 : ∀ {y o}, y ≠ sl → H4 y = some o → upd H4 sl (.lst (ts.map V.ref ++ [.ref tp])) y = some o := fun {y o} hy h => by rw [upd_ne hy]; exact h
    have hsl4 : upd H4 sl (.lst (ts.map V.ref ++ [.ref tp])) sl = some (.lst (ts.map V.ref ++ [.ref tp])) := upd_same
    generalize hHa : upd H4 sl (.lst (ts.map V.ref ++ [.ref tp])) = Ha at k4 f4 hsl4 ⊢
    -- open_makes
    refine s_fldL (D := { nx := _, rt := _ }) (a := hp) (C := adHouse K) (dx := dx) (xs := []) (el_lst ea_nil (Nat.zero_le _)) (ev_var rfl) (f4 n4 (e04 _ _ hi.house)) T.cHouse T.aHouse_open_makes (by simp) fun op2 H5 hop2 e5 h5 => ?_
    have hpf : putF "open_makes" (.ref op2) ([("time", .int t), ("ever", .int S.ever), ("alive", .ref al), ("made", .ref mdl), ("open_makes", .ref op), ("sealed", .ref sl), ("kept", .ref kp)] : List (Str × V)) = ([("time", .int t), ("ever", .int S.ever), ("alive", .ref al), ("made", .ref mdl), ("open_makes", .ref op2), ("sealed", .ref sl), ("kept", .ref kp)] : List (Str × V)) := rfl
    rw [hpf]
    have k5 : Keep [hp, al, mdl, op, sl] H (upd H5 hp (HouseO K dx al mdl op2 sl kp t S.ever)) := (k4.ex e5).upd (by simp)
    have f5 : ∀ {y o}, y ≠ hp → Ha y = some o → upd H5 hp (HouseO K dx al mdl op2 sl kp t S.ever) y = some o := fun {y o} hy h => by rw [upd_ne hy]; exact e5 _ _ h
    have ho2 : op2 ≠ hp := (own_ne (f4 n4 (e04 _ _ hi.house)) hop2).symm
    have h5' : upd H5 hp (HouseO K dx al mdl op2 sl kp t S.ever) op2 = some (.lst []) := by rw [upd_ne ho2]; exact h5
    have hhp5 : upd H5 hp (HouseO K dx al mdl op2 sl kp t S.ever) hp = some (HouseO K dx al mdl op2 sl kp t S.ever) := upd_same
    generalize hHb : upd H5 hp (HouseO K dx al mdl op2 sl kp t S.ever) = Hb at k5 f5 h5' hhp5 ⊢
    -- time
    refine s_fldInc (ev_var rfl) hhp5 T.cHouse T.aHouse_time rfl (by simp) fun H6 e6 => ?_
    have hpf2 : putF "time" (.int (t + 1)) ([("time", .int t), ("ever", .int S.ever), ("alive", .ref al), ("made", .ref mdl), ("open_makes", .ref op2), ("sealed", .ref sl), ("kept", .ref kp)] : List (Str × V)) = ([("time", .int (t + 1)), ("ever", .int S.ever), ("alive", .ref al), ("made", .ref mdl), ("open_makes", .ref op2), ("sealed", .ref sl), ("kept", .ref kp)] : List (Str × V)) := rfl
    rw [hpf2]
    have k6 : Keep [hp, al, mdl, op, sl] H (upd H6 hp (HouseO K dx al mdl op2 sl kp (t + 1) S.ever)) := (k5.ex e6).upd (by simp)
    have f6 : ∀ {y o}, y ≠ hp → Hb y = some o → upd H6 hp (HouseO K dx al mdl op2 sl kp (t + 1) S.ever) y = some o := fun {y o} hy h => by rw [upd_ne hy]; exact e6 _ _ h
    have hhp6 : upd H6 hp (HouseO K dx al mdl op2 sl kp (t + 1) S.ever) hp = some (HouseO K dx al mdl op2 sl kp (t + 1) S.ever) := upd_same
    generalize hHc : upd H6 hp (HouseO K dx al mdl op2 sl kp (t + 1) S.ever) = Hc at k6 f6 hhp6 ⊢
    have fin : ∀ {y o}, y ≠ hp → y ≠ sl → H4 y = some o → Hc y = some o := fun {y o} g1 g2 h => f6 g1 (f5 g1 (f4 g2 h))
    have eCc : Ex C Hc := k6.C eC hi.out
    have hop2H : H op2 = none := by
      cases hq : H op2 with
      | none => rfl
      | some u =>
        by_cases c : op2 = sl
        · rw [c, hsl4] at hop2
          cases hop2
        · rw [f4 c (e04 _ _ hq)] at hop2
          cases hop2
    have hCo2 : C op2 = none := fresh_back eC hop2H
    have ejc : Ex (jn C H Hc) Hc := jn_to eCc
    have eCC : Ex C (del (jn C H Hc) op2) := fun b o hb => by
      rw [del_ne (own_ne hb hCo2)]
      exact jn_ex eC _ _ hb
    have new : ∀ {y o}, H y = none → y ≠ op2 → H4 y = some o → del (jn C H Hc) op2 y = some o := fun {y o} g1 g2 h => by
      rw [del_ne g2, jn_new g1]
      exact fin (own_ne hi.house g1).symm (own_ne hi.sld g1).symm h
    have hne2' : ∀ {y o}, y ≠ sl → H4 y = some o → y ≠ op2 := fun {y o} g h z => by
      rw [← z, f4 g h] at hop2
      cases hop2
    refine k Hc (del (jn C H Hc) op2) [hp, al, mdl, op2, sl] _ eCC (del_ex.trans ejc) (fun a ha => ?_) k6 (fun a ha => ?_) ⟨dx, al, mdl, op2, sl, kp, t + 1, [], ts ++ [tp], rfl, ?_⟩ ⟨x, rfl⟩
    · rw [del_ne (fun z => ha (by rw [z]; exact hop2H)), jn_old ha]
    · simp only [List.mem_cons, List.not_mem_nil, or_false] at ha ⊢
      rcases ha with z | z | z | z | z
      · exact .inl (.inl z)
      · exact .inl (.inr (.inl z))
      · exact .inl (.inr (.inr (.inl z)))
      · exact .inr (by rw [z]; exact hop2H)
      · exact .inl (.inr (.inr (.inr (.inr z))))
    · have eS : sealS S x = { S with pcs := S.pcs ++ [(x, S.ops.map md)], ops := [] } := if_neg hne
      have hxH : H x = none := fresh_back e02 hx
      have o2 : ∀ {y o}, H y = some o → op2 ≠ y := fun {y o} hy z => by rw [← z, hop2H] at hy; cases hy
      refine ⟨by rw [eS]; exact hhp6, by rw [eS]; exact fin (fun z => n1 z.symm) n7 (e04 _ _ hi.alive), by rw [eS]; exact fin (fun z => n2 z.symm) n9 (e04 _ _ hi.made), by rw [f6 ho2 h5']; rfl, ?_, ?_, ?_, by rw [eS]; exact .nil, by rw [eS]; exact fun _ h => absurd h List.not_mem_nil, ?_, ?_, ?_⟩
      · rw [f6 (fun z => n4 z.symm) (f5 (fun z => n4 z.symm) hsl4), List.map_append]
        rfl
      · simp only [List.nodup_cons, List.mem_cons, List.not_mem_nil, not_or, or_false, not_false_iff, List.nodup_nil, and_true]
        exact ⟨⟨n1, n2, fun z => ho2 z.symm, n4⟩, ⟨n5, fun z => o2 hi.alive z.symm, n7⟩, ⟨fun z => o2 hi.made z.symm, n9⟩, o2 hi.sld⟩
      · intro a ha
        simp only [List.mem_cons, List.not_mem_nil, or_false] at ha
        rcases ha with rfl | rfl | rfl | rfl | rfl
        · rw [del_ne (o2 hi.house).symm, jn_old (ns hi.house)]
          exact hi.out _ (by simp)
        · rw [del_ne (o2 hi.alive).symm, jn_old (ns hi.alive)]
          exact hi.out _ (by simp)
        · rw [del_ne (o2 hi.made).symm, jn_old (ns hi.made)]
          exact hi.out _ (by simp)
        · exact del_at
        · rw [del_ne (o2 hi.sld).symm, jn_old (ns hi.sld)]
          exact hi.out _ (by simp)
      · rw [eS]
        refine Paired.snoc (Paired.mapP hi.pcs fun _ _ ⟨q, z⟩ => ⟨q, eCC _ _ z⟩) ⟨q, ?_⟩
        have htpH : H tp = none := fresh_back e03 htp
        exact new htpH (hne2' (own_ne hi.sld htpH).symm ht4) ht4
      · rw [eS]
        intro y hy
        rcases List.mem_append.mp hy with hy | hy
        · exact (hi.pcd y hy).mono eCC
        · rw [List.mem_singleton.mp hy]
          have hP4 : PieceAt K L (del (jn C H Hc) op2) x (S.ops.map (·.1)) (tabOf (S.ops.map md)) := hP.mono fun b o hb => by
            have hb2 := fr_none hb
            rw [fr_at hb2] at hb
            have hbH : H b = none := fresh_back e02 hb2
            have hb4 := e4 _ _ hb
            exact new hbH (hne2' (own_ne hi.sld hbH).symm hb4) hb4
          have e9 : (S.ops.map md).map (·.1) = S.ops.map (·.1) := by
            rw [List.map_map]
            rfl
          rw [e9]
          exact hP4
      · rw [allM_seal]
        have e9 : (sealS S x).mdA = S.mdA := by rw [eS]
        rw [e9]
        exact Paired.mapP hi.mds fun _ _ q => q.mono eCC
  · have hne : S.ops = [] := by
      cases hc : S.ops with
      | nil => rfl
      | cons a r =>
        rw [hc] at hb
        cases hb
    refine s_fldInc (ev_var rfl) (e1 _ _ hi.house) T.cHouse T.aHouse_time rfl (by simp) fun H5 e5 => ?_
    have e15 := e1.trans e5
    have hpf : putF "time" (.int (t + 1)) ([("time", .int t), ("ever", .int S.ever), ("alive", .ref al), ("made", .ref mdl), ("open_makes", .ref op), ("sealed", .ref sl), ("kept", .ref kp)] : List (Str × V)) = ([("time", .int (t + 1)), ("ever", .int S.ever), ("alive", .ref al), ("made", .ref mdl), ("open_makes", .ref op), ("sealed", .ref sl), ("kept", .ref kp)] : List (Str × V)) := rfl
    rw [hpf]
    have k5 : Keep [hp, al, mdl, op, sl] H (upd H5 hp (HouseO K dx al mdl op sl kp (t + 1) S.ever)) := ((Keep.refl _ H).ex e15).upd (by simp)
    have hH' := HouseAt.inc (t' := t + 1) hi rfl rfl rfl rfl e15 (S' := S)
    exact k _ C _ _ (Ex.refl _) (k5.C eC hi.out) (fun _ _ => rfl) k5 (fun a ha => .inl ha) hH' ⟨hp, (if_pos hne).symm⟩
end Fc
/-! The house's stand of now. -/
namespace Fc
open PySem PySem.Spec PyProof.Rows L2 Evl
def sp_House_all_pieces (K : PySem.W.Frag) : Sp := fun vs H Q _ => ∃ (L : List Str) (C : Hp) (hp : Addr) (M : List Addr) (S : HSt), vs = [.ref hp] ∧ L.length ≤ 60 ∧ Ex C H ∧ HouseAt K L C H hp M S ∧ HOk L S ∧
  ∀ a p H', H a = none → Ex H H' → H' a = some (.lst ((S.pcs.map fun x => V.ref x.1) ++ [.ref p])) → PieceAt K L H' p (S.ops.map (·.1)) (tabOf (S.ops.map md)) → Q (.ref a) H'
theorem s_retC {σ : L2.St} {H : Hp} {ta tb : TE} {D : Ends} {xs : List V} {P : V → Hp → Prop} (ha : EvL ta σ H xs) (hb : ∀ H1, Ex H H1 → ∀ Q : VK, (∀ b y H2, Ex H1 H2 → H2 b = some (.lst [y]) → P y H2 → Q (.ref b) H2) → tb σ H1 Q) (hz : xs.length ≤ 1000) (hP : ∀ y H2 H3, P y H2 → Ex H2 H3 → P y H3)
    (k : ∀ a y H2, H a = none → Ex H H2 → H2 a = some (.lst (xs ++ [y])) → P y H2 → D.rt (.ref a) H2) : tRet (tOp rCat ta tb) D σ H :=
  ha H (Ex.refl _) _ fun p H1 hp e1 h1 => hb H1 e1 _ fun b y H2 e2 h2 py => ⟨p, b, xs, [y], rfl, rfl, e2 _ _ h1, h2, sizeLine_of (by simp; omega), fun a ha => k a y _ (fresh_back (e1.trans e2) ha) ((e1.trans e2).trans (Ex.new ha)) upd_same (hP _ _ _ py (Ex.new ha))⟩
theorem sc_House_all_pieces : FnScope ["self", "at"] ["self"] (defScope s_House_all_pieces) := ⟨rfl, rfl, rfl, by decide +kernel, rfl, by decide +kernel, by decide +kernel⟩
theorem ok_House_all_pieces {P : Program} {w : World} {K : PySem.W.Frag} {mg : Str → Option Value} {base : Heap} (G : Gm K (adHouse K) "all_pieces" "House.all_pieces" s_House_all_pieces) (T : Tx K mg) (O_House_piece_at : OkM P w K mg base 1 (adHouse K) "piece_at" ["self", "at"] (sp_House_piece_at K)) (O_Piece_init : OkC P w K mg base 4 (adPiece K) "Piece" ["self", "makes"] (sp_Piece_init K)) : OkM P w K mg base 6 (adHouse K) "all_pieces" ["self"] (sp_House_all_pieces K) := by
  refine G.ok (k := 5) sc_House_all_pieces (fun _ _ _ _ _ _ us hl => match us, hl with | [_], _ => rfl) (fun vs H Q E h => ?_) (fun f cdv A outer s H vs Q E hr h => ?_)
  · unfold sp_House_all_pieces at h
    repeat (first | (obtain ⟨rfl, h⟩ := h; rfl) | (obtain ⟨_, h⟩ := h))
  have hu := hu_of hr
  refine ⟨_, (pss_one (ps_ret (pe_op op_cat (pe_lc (own := [("at", 1)]) (g := gName 1) rfl sc_House_all_pieces.nd (pi_range1 rfl T.n_range (pa_cons (pe_callB (id := "len") (lenK K) rfl T.n_len PySem.boot_len (pa_cons (pe_fldK K (pv 0)) pa_nil)) pa_nil)) (blkOk_by (own := [("at", 1)]) (N := ["self", "at"]) (sc := defScope s_House_all_pieces) (by decide +kernel)) (fun _ _ _ _ _ => (pgv 1 sc_House_all_pieces.nd)) (fun _ _ _ _ _ => pts_nil) (fun _ _ _ _ _ => (pe_mt O_House_piece_at (hr.mono (by decide)) T.cHouse (pv 0) (pa_cons (pv 1) pa_nil)))) (pe_lst (pa_cons (pe_mk O_Piece_init (hr.mono (by decide)) (pa_cons (pe_fldK K (pv 0)) pa_nil)) pa_nil))))), ?_⟩
  obtain ⟨L, C, hp, M, S, rfl, hL, eC, hH, hok, k⟩ := h
  obtain ⟨dx, al, mdl, op, sl, kp, t, to, ts, hM, hi⟩ := id hH
  have hpl := hi.pcs.length
  have hpc := hok.pcs
  have hlist : EvL (tLc (iRng1 (tCons (tCB (rLenQ K) (tCons (tFld K (tVar 0) "sealed") tNil)) tNil)) (gName 1) tYes (tMeth (adHouse K) "piece_at" (sp_House_piece_at K) [] E0 (tVar 0) (tCons (tVar 1) tNil)) [1]) (start ["self", "at"] [.ref hp]) H (S.pcs.map fun x => V.ref x.1) := by
    have q := el_lcX (ti := iRng1 (tCons (tCB (rLenQ K) (tCons (tFld K (tVar 0) "sealed") tNil)) tNil)) (g := gName 1) (vs := [1]) (t := tYes) (te := tMeth (adHouse K) "piece_at" (sp_House_piece_at K) [] E0 (tVar 0) (tCons (tVar 1) tNil)) (es := List.range S.pcs.length) (σ := start ["self", "at"] [.ref hp]) (H := H) (st := fun (k : Nat) σ0 => σ0.set 1 (some (.int (k : Int)))) (fun _ => true) (fun k => match S.pcs[k]? with | some x => V.ref x.1 | none => .non)
      (ex_range1 (ea_cons (ev_is (ev_lenL (K := K) (ev_fld (ev_var rfl) hi.house T.cHouse T.aHouse_sealed rfl) (sq_of hi.sld)) (by rw [List.length_map, hpl])) ea_nil) (by omega)) (by rw [List.length_range]; omega) (fun k => rfl) (fun _ _ H3 _ H4 _ Q4 q4 => q4 H4 (Ex.refl _)) (fun i hi2 H3 e3 _ => ?_)
    · rw [List.filter_eq_self.mpr (fun _ _ => rfl)] at q
      have e9 : (List.range S.pcs.length).map (fun k => match S.pcs[k]? with | some x => V.ref x.1 | none => .non) = S.pcs.map fun x => V.ref x.1 := by
        apply List.ext_getElem?
        intro i
        rw [List.getElem?_map, List.getElem?_map]
        by_cases c : i < S.pcs.length
        · rw [List.getElem?_range c, List.getElem?_eq_getElem c]
          show some (match S.pcs[i]? with | some x => V.ref x.1 | none => .non) = _
          rw [List.getElem?_eq_getElem c]
          rfl
        · rw [List.getElem?_eq_none (by simpa using c), List.getElem?_eq_none (by omega)]
          rfl
      rw [e9] at q
      exact q
    · have hil := List.mem_range.mp hi2
      have hx := List.getElem?_eq_getElem hil
      rw [hx]
      intro H4 e4 Q4 q4
      exact ⟨_, rfl, hp, dx, _, rfl, (e3.trans e4) _ _ hi.house, rfl, _, rfl, L, C, hp, M, S, i, _, rfl, eC.trans (e3.trans e4), hH.ex (e3.trans e4), hx, q4⟩
  refine s_retC (P := fun y H2 => ∃ p, y = .ref p ∧ PieceAt K L H2 p (S.ops.map (fun m : MkT => m.1)) (tabOf (S.ops.map md))) hlist (fun H1 e1 Q1 q1 => ?_) (by rw [List.length_map]; omega) (fun y H2 H3 ⟨p, hy, hp2⟩ e => ⟨p, hy, hp2.mono e⟩) fun a y H2 ha e2 h2 ⟨p, hy, hp2⟩ => by
    subst hy
    exact k a p H2 ha e2 h2 hp2
  refine (ev_fld (σ := start ["self", "at"] [.ref hp]) (v := .ref op) (ev_var rfl) (e1 _ _ hi.house) T.cHouse T.aHouse_open_makes rfl) H1 (Ex.refl _) _ fun H2 e2 => fun x xd hx hxd hne2 => ?_
  have e02 := e1.trans e2
  refine ⟨L, H2, x, xd, op, S.ops, rfl, hL, (Ex.new hxd).trans (Ex.new (by rw [upd_ne hne2.symm]; exact hx)), hx, upd_same, ops_mks hi (eC.trans e02) (e02 _ _ hi.opn), ops_ok hok, fun H3 e3 hP => ⟨rfl, sizeLine_of (by simp), fun b hb => ?_⟩⟩
  exact q1 b _ _ ((e2.trans e3).trans (Ex.new hb)) upd_same ⟨x, rfl, (hP.mono fr_ex).mono (Ex.new hb)⟩
/-! ### the dicts of the stand -/
theorem merge_nd : ∀ {more kvs : List (Key × V)}, ((kvs ++ more).map Prod.fst).Nodup → mergeK kvs more = kvs ++ more
  | [], kvs, _ => by rw [List.append_nil]; rfl
  | p :: r, kvs, h => by
    have hn : valV kvs p.1 = none := by
      cases hc : valV kvs p.1 with
      | none => rfl
      | some v =>
        have h1 := valV_some hc
        rw [List.map_append, List.nodup_append] at h
        exact absurd rfl (h.2.2 p.1 (List.mem_map.mpr ⟨_, h1, rfl⟩) p.1 (by simp))
    show mergeK (putK kvs p.1 p.2) r = _
    rw [putK_new _ hn, merge_nd (kvs := kvs ++ [(p.1, p.2)]) (by rw [List.append_assoc]; exact h), List.append_assoc]
    rfl
def numOf (al : List (Nat × Nat)) (m : Nat) : Option Nat := (al.find? fun x => decide (x.2 = m)).map (·.1)
theorem numOf_val (al : List (Nat × Nat)) (m : Nat) : valV (al.map fun x => (kN x.2, V.int (x.1 : Nat))) (kN m) = (numOf al m).map fun n => V.int (n : Nat) := by
  unfold numOf
  induction al with
  | nil => rfl
  | cons x r ih =>
    rw [List.map_cons, List.find?_cons]
    by_cases c : x.2 = m
    · rw [valV_pos (by show kN x.2 = kN m; rw [c]), decide_eq_true c]
      rfl
    · rw [valV_neg (fun z => c (by have := Sum.inl.inj z; omega)), decide_eq_false c]
      exact ih
theorem numOf_mem {al : List (Nat × Nat)} (h : (al.map (·.2)).Nodup) {n m : Nat} : numOf al m = some n ↔ (n, m) ∈ al := by
  unfold numOf
  constructor
  · intro z
    cases hc : al.find? (fun x => decide (x.2 = m)) with
    | none =>
      rw [hc] at z
      cases z
    | some x =>
      rw [hc] at z
      have h1 := List.mem_of_find?_eq_some hc
      have h2 : x.2 = m := by simpa using List.find?_some (p := fun x : Nat × Nat => decide (x.2 = m)) hc
      have h3 : x.1 = n := Option.some.inj z
      rw [← h2, ← h3]
      exact h1
  · intro z
    induction al with
    | nil => exact absurd z List.not_mem_nil
    | cons x r ih =>
      rw [List.map_cons, List.nodup_cons] at h
      rw [List.find?_cons]
      rcases List.mem_cons.mp z with z | z
      · rw [← z, decide_eq_true rfl]
        rfl
      · have hne : ¬ x.2 = m := fun e => h.1 (by rw [e]; exact List.mem_map.mpr ⟨_, z, rfl⟩)
        rw [decide_eq_false hne]
        exact ih h.2 z
/-- the walk over the pairs of a dict that is locked -/
theorem ex_items {K : PySem.W.Frag} {σ : L2.St} {H : Hp} {td : TE} {α : Type} {es : List α} {A : α → Key} {B : α → V} {d : Addr} {od : Obj} {n j1 j2 : Nat} (h : Ev td σ H (.ref d)) (hd : H d = some (.frz od (.dK (es.map fun x => (A x, B x))))) (hn : n = 2) :
    EvX (iItems td) (gTup K n (gCons (gName j1) (gCons (gName j2) gNil))) σ H es (fun x σ0 => (σ0.set j1 (some (kV (A x)))).set j2 (some (B x))) := fun Hs e R k =>
  h Hs e _ fun H1 e1 => ⟨d, od, _, rfl, (e.trans e1) _ _ hd, k _ H1 H _ _ _ (walk_items (kvs := es.map fun x => (A x, B x))) (List.length_map _) e1 (Ex.refl _) (e.trans e1) (fun _ _ z => z) (fun H2 e2 => e2 _ _ hd) fun i x v H2 H3 hi e2 y σ0 S q => by
    obtain ⟨T, u1, u2, rfl, hT, rfl, hu1, hu2⟩ := y
    have g1 : (es.map fun x => (A x, B x))[i]?.map (fun kv => kV kv.1) = some u1 := hu1
    have g2 : (es.map fun x => (A x, B x))[i]?.map Prod.snd = some u2 := hu2
    rw [List.getElem?_map, hi] at g1 g2
    cases g1
    cases g2
    exact ⟨T, _, rfl, st_of upd_same, hn.symm, _, _, rfl, _, _, rfl, rfl, q _ (Ex.new hT)⟩⟩
theorem lock_back {H H' : Hp} {a : Addr} {u o : HO} (h : H a = some u) (e : Ex (upd H a o) H') : Ex H (upd H' a u) := by
  intro b v hb
  by_cases c : b = a
  · subst c
    rw [upd_same, ← h]
    exact hb
  · rw [upd_ne c]
    exact e _ _ (by rw [upd_ne c]; exact hb)
/-- dict([(k, v) for .. in d.items()]) with the dict locked: pairs told by A and B -/
theorem dict_of_items {K : PySem.W.Frag} {σ : L2.St} {H : Hp} {td te1 te2 : TE} {α : Type} {es : List α} {A A2 : α → Key} {B B2 : α → V} {d : Addr} {n j1 j2 : Nat} {vs : List Nat} (hn : n = 2) (h : ∀ H1, Ev td σ H1 (.ref d)) (hd : H d = some (.dK (es.map fun x => (A x, B x)))) (hz : es.length ≤ 40000)
    (hw : ∀ x, wipe (((wipe σ vs).set j1 (some (kV (A x)))).set j2 (some (B x))) vs = wipe σ vs) (he1 : ∀ x ∈ es, ∀ H1, Ex (del H d) H1 → Ev te1 (((wipe σ vs).set j1 (some (kV (A x)))).set j2 (some (B x))) H1 (kV (A2 x))) (he2 : ∀ x ∈ es, ∀ H1, Ex (del H d) H1 → Ev te2 (((wipe σ vs).set j1 (some (kV (A x)))).set j2 (some (B x))) H1 (B2 x))
    (hnd : (es.map A2).Nodup) {Q : VK} (q : ∀ p H2, H p = none → Ex H H2 → H2 p = some (.dK (es.map fun x => (A2 x, B2 x))) → Q (.ref p) H2) :
    tCB (rDictP K) (tCons (tLockE (tLc (iItems td) (gTup K n (gCons (gName j1) (gCons (gName j2) gNil))) tYes (tTup (tCons te1 (tCons te2 tNil))) vs)) tNil) σ H Q := by
  refine ⟨d, _, hd, trivial, fun od => ?_⟩
  have hdel : Ex (del H d) (upd H d (.frz od (.dK (es.map fun x => (A x, B x))))) := del_upd
  refine lc_new (K := K) (R := fun G v x => ∃ t, v = V.ref t ∧ G t = some (.tup [kV (A2 x), B2 x])) (fun _ => true) (fun ⟨t, h1, h2⟩ e => ⟨t, h1, e _ _ h2⟩) (ex_items (es := es) (A := A) (B := B) (h _) upd_same hn) hz hw (fun _ _ H1 _ H2 _ Q2 q2 => q2 H2 (Ex.refl _)) (fun x hx H1 e1 _ Q1 q1 => ?_) (Ex.refl _) fun p H2 xs hp e2 h2 hpd => ?_
  · refine (he1 x hx H1 (hdel.trans e1)) H1 (Ex.refl _) _ fun H2 e2 => (he2 x hx H2 (hdel.trans (e1.trans e2))) H2 (Ex.refl _) _ fun H3 e3 => ⟨sizeLine_of (by simp), fun t ht => q1 _ _ ((e2.trans e3).trans (Ex.new ht)) ⟨t, rfl, ?_⟩⟩
    rw [fr_at (fresh_back (e2.trans e3) ht)]
    exact upd_same
  · have hfz : H2 d = some (.frz od (.dK (es.map fun x => (A x, B x)))) := e2 _ _ upd_same
    refine ⟨hfz, ?_⟩
    rw [List.filter_eq_self.mpr (fun _ _ => rfl)] at hpd
    have hback : ∀ {vs : List V} {es : List α} {G : Hp}, Paired (fun v x => ∃ t, v = V.ref t ∧ G t = some (.tup [kV (A2 x), B2 x])) vs es → ∃ ps : List Addr, vs = ps.map V.ref ∧ Paired (fun t x => G t = some (.tup [kV (A2 x), B2 x])) ps es := by
      intro vs es G p
      induction p with
      | nil => exact ⟨[], rfl, .nil⟩
      | cons r _ ih =>
        obtain ⟨t, h1, h2⟩ := r
        obtain ⟨ps, e, p⟩ := ih
        subst h1 e
        exact ⟨t :: ps, rfl, .cons h2 p⟩
    obtain ⟨ps, rfl, hps⟩ := hback hpd
    have hpn : p ≠ d := fun z => by
      rw [z, upd_same] at hp
      cases hp
    have hlp : upd H2 d (.dK (es.map fun x => (A x, B x))) p = some (.lst (ps.map V.ref)) := by
      rw [upd_ne hpn]
      exact fr_ex _ _ h2
    have hpr : Paired (fun p (kv : Key × V) => SqT K (upd H2 d (.dK (es.map fun x => (A x, B x)))) p [kV kv.1, kv.2]) ps (es.map fun x => (A2 x, B2 x)) := by
      have hmap : ∀ {ps : List Addr} {es2 : List α}, Paired (fun t x => fr (upd H d (.frz od (.dK (es.map fun x => (A x, B x))))) H2 t = some (.tup [kV (A2 x), B2 x])) ps es2 → Paired (fun p (kv : Key × V) => SqT K (upd H2 d (.dK (es.map fun x => (A x, B x)))) p [kV kv.1, kv.2]) ps (es2.map fun x => (A2 x, B2 x)) := by
        intro ps es2 p
        induction p with
        | nil => exact .nil
        | cons r _ ih =>
          refine .cons (st_of ?_) ih
          rw [upd_ne]
          · exact fr_ex _ _ r
          · rintro rfl
            have := fr_none r
            rw [upd_same] at this
            cases this
      exact hmap hps
    refine ⟨p, ps, _, rfl, sq_of hlp, hpr, fun p2 hp2 => ?_⟩
    have e3 : Ex H (upd H2 d (.dK (es.map fun x => (A x, B x)))) := lock_back hd e2
    have hm : mergeK [] (es.map fun x => (A2 x, B2 x)) = es.map fun x => (A2 x, B2 x) := merge_nd (kvs := []) (by
      rw [List.nil_append, List.map_map]
      exact hnd)
    rw [hm]
    exact q p2 _ (fresh_back e3 hp2) (e3.trans (Ex.new hp2)) upd_same
end Fc
/-! now. -/
namespace Fc
open PySem PySem.Spec PyProof.Rows L2 Evl
theorem kN_inj {a b : Nat} (h : kN a = kN b) : a = b := by
  have h2 : (a : Int) = (b : Int) := Sum.inl.inj h
  omega
theorem nd_at {α : Type} {l : List α} (h : l.Nodup) {i j : Nat} {x : α} (hi : l[i]? = some x) (hj : l[j]? = some x) : i = j := by
  obtain ⟨a1, a2⟩ := List.getElem?_eq_some_iff.mp hi
  obtain ⟨b1, b2⟩ := List.getElem?_eq_some_iff.mp hj
  rcases Nat.lt_trichotomy i j with c | c | c
  · exact absurd (a2.trans b2.symm) (List.pairwise_iff_getElem.mp h i j a1 b1 c)
  · exact c
  · exact absurd (b2.trans a2.symm) (List.pairwise_iff_getElem.mp h j i b1 a1 c)
theorem conv_nd {num : Nat → Option Nat} (inj : ∀ m m2 n, num m = some n → num m2 = some n → m = m2) {ms : List (Nat × Doc)} (hn : (ms.map (·.1)).Nodup) (f w : Str) : ((conv num (tabOf ms f w)).map (·.1)).Nodup := by
  induction ms with
  | nil => exact List.nodup_nil
  | cons m r ih =>
    rw [List.map_cons, List.nodup_cons] at hn
    have ih2 := ih hn.2
    have e : tabOf (m :: r) f w = (if w ∈ fw m.2 f then [(m.1, posOf (fw m.2 f) w)] else []) ++ tabOf r f w := by
      unfold tabOf
      rw [List.filterMap_cons]
      by_cases c : w ∈ fw m.2 f
      · rw [if_pos c, if_pos c]
        rfl
      · rw [if_neg c, if_neg c]
        rfl
    rw [e, conv_app]
    by_cases c : w ∈ fw m.2 f
    · rw [if_pos c]
      cases hc : num m.1 with
      | none =>
        have e2 : conv num [(m.1, posOf (fw m.2 f) w)] = [] := by
          unfold conv
          simp [hc]
        rw [e2]
        exact ih2
      | some n =>
        have e2 : conv num [(m.1, posOf (fw m.2 f) w)] = [(n, posOf (fw m.2 f) w)] := by
          unfold conv
          simp [hc]
        rw [e2, List.singleton_append, List.map_cons, List.nodup_cons]
        refine ⟨fun hm => ?_, ih2⟩
        obtain ⟨y, hy, hy2⟩ := List.mem_map.mp hm
        unfold conv at hy
        obtain ⟨x, hx, hx2⟩ := List.mem_filterMap.mp hy
        obtain ⟨n2, hn2, hn3⟩ := Option.map_eq_some_iff.mp hx2
        have hn4 : n2 = n := by
          rw [← hn3] at hy2
          exact hy2
        subst hn4
        have hxm := inj _ _ _ hn2 hc
        unfold tabOf at hx
        obtain ⟨z, hz, hz2⟩ := List.mem_filterMap.mp hx
        split at hz2
        · cases hz2
          exact hn.1 (by rw [← hxm]; exact List.mem_map.mpr ⟨z, hz, rfl⟩)
        · cases hz2
    · rw [if_neg c]
      exact ih2
def NowAt (K : PySem.W.Frag) (L : List Str) (S : HSt) (H : Hp) (v : V) (H' : Hp) : Prop := ∃ s T, v = .ref s ∧ H s = none ∧ Ex H H' ∧ StandAt K L (fr H H') s (S.al.map (·.1)) T ∧ ∀ f w, (T f w).Perm (conv (numOf S.al) (tabOf (allM S) f w))
def sp_House_stand_of (K : PySem.W.Frag) : Sp := fun vs H Q _ => ∃ (L : List Str) (C : Hp) (hp dx al mdl op sl kp : Addr) (t : Int) (S : HSt) (to ts : List Addr), vs = [.ref hp, .ref al] ∧ L.length ≤ 60 ∧ Ex C H ∧ HIn K L C H hp dx al mdl op sl kp t S to ts ∧ HOk L S ∧ ∀ v H', NowAt K L S H v H' → Q v H'
theorem sc_House_stand_of : FnScope ["self", "alive", "numbers", "number", "make", "texts"] ["self", "alive"] (defScope s_House_stand_of) := ⟨rfl, rfl, rfl, by decide +kernel, rfl, by decide +kernel, by decide +kernel⟩
theorem ok_House_stand_of {P : Program} {w : World} {K : PySem.W.Frag} {mg : Str → Option Value} {base : Heap} (G : Gm K (adHouse K) "stand_of" "House.stand_of" s_House_stand_of) (T : Tx K mg) (O_Stand_init : OkC P w K mg base 4 (adStand K) "Stand" ["self", "pieces", "makes", "texts"] (sp_Stand_init K)) (O_House_all_pieces : OkM P w K mg base 6 (adHouse K) "all_pieces" ["self"] (sp_House_all_pieces K)) : OkM P w K mg base 7 (adHouse K) "stand_of" ["self", "alive"] (sp_House_stand_of K) := by
  refine G.ok (k := 6) sc_House_stand_of (fun _ _ _ _ _ _ us hl => match us, hl with | [_, _], _ => rfl) (fun vs H Q E h => ?_) (fun f cdv A outer s H vs Q E hr h => ?_)
  · unfold sp_House_stand_of at h
    repeat (first | (obtain ⟨rfl, h⟩ := h; rfl) | (obtain ⟨_, h⟩ := h))
  have hu := hu_of hr
  refine ⟨_, (pss_cons (psv 2 sc_House_stand_of.nd (pe_callTy (T := "dict") (dictPK K rfl) rfl T.n_dict (by decide +kernel) (pa_cons (pe_lock (pe_lc (own := [("number", 3), ("make", 4)]) (g := gTup K 2 (gCons (gName 3) (gCons (gName 4) (gNil)))) rfl sc_House_stand_of.nd (pi_items (pv 1)) (blkOk_by (own := [("number", 3), ("make", 4)]) (N := ["self", "alive", "numbers", "number", "make", "texts"]) (sc := defScope s_House_stand_of) (by decide +kernel)) (fun _ _ _ _ _ => (pg_tup rfl (pgs_cons (pgv 3 sc_House_stand_of.nd) (pgs_cons (pgv 4 sc_House_stand_of.nd) pgs_nil)))) (fun _ _ _ _ _ => pts_nil) (fun _ _ _ _ _ => (pe_tup (pa_cons (pv 4) (pa_cons (pv 3) pa_nil)))))) pa_nil)))
      (pss_cons (psv 5 sc_House_stand_of.nd (pe_callTy (T := "dict") (dictPK K rfl) rfl T.n_dict (by decide +kernel) (pa_cons (pe_lock (pe_lc (own := [("number", 3), ("make", 4)]) (g := gTup K 2 (gCons (gName 3) (gCons (gName 4) (gNil)))) rfl sc_House_stand_of.nd (pi_items (pv 1)) (blkOk_by (own := [("number", 3), ("make", 4)]) (N := ["self", "alive", "numbers", "number", "make", "texts"]) (sc := defScope s_House_stand_of) (by decide +kernel)) (fun _ _ _ _ _ => (pg_tup rfl (pgs_cons (pgv 3 sc_House_stand_of.nd) (pgs_cons (pgv 4 sc_House_stand_of.nd) pgs_nil)))) (fun _ _ _ _ _ => pts_nil) (fun _ _ _ _ _ => (pe_tup (pa_cons (pv 3) (pa_cons (pe_ix (ixlK K) (pe_fldK K (pv 0)) (pv 4) (fun _ _ => rfl)) pa_nil)))))) pa_nil)))
      (pss_one (ps_ret (pe_mk O_Stand_init (hr.mono (by decide)) (pa_cons (pe_mt0 O_House_all_pieces (hr.mono (by decide)) T.cHouse (pv 0)) (pa_cons (pv 2) (pa_cons (pv 5) pa_nil)))))))), ?_⟩
  obtain ⟨L, C, hp, dx, al, mdl, op, sl, kp, t, S, to, ts, rfl, hL, eC, hi, hok, k⟩ := h
  have i6 := hi.nd
  simp only [List.nodup_cons, List.mem_cons, List.not_mem_nil, not_or, or_false] at i6
  obtain ⟨⟨n1, n2, n3, n4⟩, ⟨n5, n6, n7⟩, ⟨n8, n9⟩, n10, _⟩ := i6
  have hall := hok.all
  have hfew := hok.few
  have hal40 : S.al.length ≤ 40 := by
    have q := nodup_le (b := List.range 40) hok.al1 fun n hn => by
      obtain ⟨x, hx, rfl⟩ := List.mem_map.mp hn
      have := (hok.alb x hx).1
      have := hok.ever
      exact List.mem_range.mpr (by omega)
    rwa [List.length_map, List.length_range] at q
  have nd1 : (S.al.map fun x => kN x.1).Nodup := by
    have q := List.Pairwise.map (R := (· ≠ ·)) (S := (· ≠ ·)) kN (fun a b hab z => hab (kN_inj z)) hok.al1
    rw [List.map_map] at q
    exact q
  have nd2 : (S.al.map fun x => kN x.2).Nodup := by
    have q := List.Pairwise.map (R := (· ≠ ·)) (S := (· ≠ ·)) kN (fun a b hab z => hab (kN_inj z)) hok.al2
    rw [List.map_map] at q
    exact q
  -- numbers
  refine q_asgQ (C := fun v H2 => ∃ p, v = .ref p ∧ H p = none ∧ Ex H H2 ∧ H2 p = some (.dK (S.al.map fun x => (kN x.2, V.int (x.1 : Nat))))) (fun Q2 q2 => dict_of_items (es := S.al) (A := fun x => kN x.1) (B := fun x => .int (x.2 : Nat)) (A2 := fun x => kN x.2) (B2 := fun x => .int (x.1 : Nat)) rfl (fun H1 => ev_var rfl) hi.alive (by omega) (fun x => rfl) (fun x _ H1 _ => ev_var rfl) (fun x _ H1 _ => ev_var rfl) nd2 fun p H2 hp2 e2 h2 => q2 _ _ ⟨p, rfl, hp2, e2, h2⟩) fun v H2 ⟨pn, hv, hpn, e2, hn2⟩ => ?_
  subst hv
  -- texts
  refine q_asgQ (C := fun v H3 => ∃ p, v = .ref p ∧ H2 p = none ∧ Ex H2 H3 ∧ H3 p = some (.dK (S.al.map fun x => (kN x.1, match S.mdA[x.2]? with | some a => V.ref a | none => .non)))) (fun Q2 q2 => dict_of_items (es := S.al) (A := fun x => kN x.1) (B := fun x => .int (x.2 : Nat)) (A2 := fun x => kN x.1) (B2 := fun x => match S.mdA[x.2]? with | some a => V.ref a | none => .non) rfl (fun H1 => ev_var rfl) (e2 _ _ hi.alive) (by omega) (fun x => rfl) (fun x _ H1 _ => ev_var rfl) (fun x hx H1 e1 => ?_) nd1 fun p H3 hp3 e3 h3 => q2 _ _ ⟨p, rfl, hp3, e3, h3⟩) fun v H3 ⟨pt, hv, hpt, e3, ht3⟩ => ?_
  · have hxm : x.2 < S.mdA.length := by
      rw [hi.mds.length]
      exact (hok.alb x hx).2
    have hh : H1 hp = some (HouseO K dx al mdl op sl kp t S.ever) := e1 _ _ (by rw [del_ne n1]; exact e2 _ _ hi.house)
    have hm : H1 mdl = some (.lst (S.mdA.map V.ref)) := e1 _ _ (by rw [del_ne (fun z => n5 z.symm)]; exact e2 _ _ hi.made)
    rw [List.getElem?_eq_getElem hxm]
    exact ev_op (ev_fld (ev_var rfl) hh T.cHouse T.aHouse_made rfl) (ev_var rfl) (rv_ixL (sq_of hm) (atI_nat (by rw [List.getElem?_map, List.getElem?_eq_getElem hxm]; rfl)))
  subst hv
  have e03 := e2.trans e3
  have hH3 : HouseAt K L C H3 hp [hp, al, mdl, op, sl] S := ⟨dx, al, mdl, op, sl, kp, t, to, ts, rfl, e03 _ _ hi.house, e03 _ _ hi.alive, e03 _ _ hi.made, e03 _ _ hi.opn, e03 _ _ hi.sld, hi.nd, hi.out, hi.ops, hi.opd, hi.pcs, hi.pcd, hi.mds⟩
  -- the stand
  refine s_retQ (C := NowAt K L S H) (fun Q4 q4 => ?_) k
  refine ⟨_, rfl, hp, dx, _, rfl, e03 _ _ hi.house, rfl, L, C, hp, _, S, rfl, hL, eC.trans e03, hH3, hok, fun a p H4 ha e4 h4 hP => ?_⟩
  refine ⟨_, rfl, _, rfl, fun x xd hx hxd hne2 => ?_⟩
  have e04 := e03.trans e4
  have hfl : (S.pcs ++ [(p, S.ops.map md)]).flatMap (·.2) = allM S := by
    unfold allM
    rw [List.flatMap_append]
    simp
  refine ⟨L, H4, x, xd, a, pn, pt, S.pcs ++ [(p, S.ops.map md)], numOf S.al, S.al.map (·.1), _, rfl, hL, (Ex.new hxd).trans (Ex.new (by rw [upd_ne hne2.symm]; exact hx)), hx, upd_same, by rw [h4, List.map_append]; rfl, fun y hy => ?_, ⟨_, e4 _ _ (e3 _ _ hn2), numOf_val S.al⟩, e4 _ _ ht3, ?_, hok.al1, fun n hn => ?_, ?_, ?_, ?_, fun H5 T5 e5 hS hpm => ⟨rfl, q4 _ _ ⟨x, T5, rfl, fresh_back e04 hx, e04.trans e5, hS.mono (fr_back e04), fun f w => ?_⟩⟩⟩
  · rcases List.mem_append.mp hy with hy | hy
    · exact (hi.pcd y hy).mono (eC.trans e04)
    · rw [List.mem_singleton.mp hy]
      have e9 : (S.ops.map md).map (·.1) = S.ops.map (·.1) := by
        rw [List.map_map]
        rfl
      rw [e9]
      exact hP
  · rw [List.map_map, List.map_map]
    rfl
  · obtain ⟨x, hx, rfl⟩ := List.mem_map.mp hn
    have := (hok.alb x hx).1
    have := hok.ever
    omega
  · have := hok.pcs
    rw [List.length_append, List.length_singleton]
    omega
  · rw [hfl]
    omega
  · intro f w
    rw [hfl]
    refine conv_nd (fun m m2 n g1 g2 => ?_) (by rw [hall]; exact List.nodup_range) f w
    have q1 := (numOf_mem hok.al2).mp g1
    have q2 := (numOf_mem hok.al2).mp g2
    have hnd := hok.al1
    obtain ⟨i, hi1⟩ := List.getElem?_of_mem q1
    obtain ⟨j, hj1⟩ := List.getElem?_of_mem q2
    have hij : i = j := nd_at hnd (x := n) (by rw [List.getElem?_map, hi1]; rfl) (by rw [List.getElem?_map, hj1]; rfl)
    subst hij
    rw [hi1] at hj1
    cases hj1
    rfl
  · rw [hfl] at hpm
    exact hpm f w
def sp_House_now (K : PySem.W.Frag) : Sp := fun vs H Q _ => ∃ (L : List Str) (C : Hp) (hp : Addr) (M : List Addr) (S : HSt), vs = [.ref hp] ∧ L.length ≤ 60 ∧ Ex C H ∧ HouseAt K L C H hp M S ∧ HOk L S ∧ ∀ v H', NowAt K L S H v H' → Q v H'
theorem sc_House_now : FnScope ["self"] ["self"] (defScope s_House_now) := ⟨rfl, rfl, rfl, by decide +kernel, rfl, by decide +kernel, by decide +kernel⟩
theorem ok_House_now {P : Program} {w : World} {K : PySem.W.Frag} {mg : Str → Option Value} {base : Heap} (G : Gm K (adHouse K) "now" "House.now" s_House_now) (T : Tx K mg) (O_House_stand_of : OkM P w K mg base 7 (adHouse K) "stand_of" ["self", "alive"] (sp_House_stand_of K)) : OkM P w K mg base 8 (adHouse K) "now" ["self"] (sp_House_now K) := by
  refine G.ok (k := 7) sc_House_now (fun _ _ _ _ _ _ us hl => match us, hl with | [_], _ => rfl) (fun vs H Q E h => ?_) (fun f cdv A outer s H vs Q E hr h => ?_)
  · unfold sp_House_now at h
    repeat (first | (obtain ⟨rfl, h⟩ := h; rfl) | (obtain ⟨_, h⟩ := h))
  have hu := hu_of hr
  refine ⟨_, (pss_one (ps_ret (pe_mt O_House_stand_of (hr.mono (by decide)) T.cHouse (pv 0) (pa_cons (pe_fldK K (pv 0)) pa_nil)))), ?_⟩
  obtain ⟨L, C, hp, M, S, rfl, hL, eC, ⟨dx, al, mdl, op, sl, kp, t, to, ts, rfl, hi⟩, hok, k⟩ := h
  refine s_retQ (C := NowAt K L S H) (fun Q4 q4 => ?_) k
  refine ⟨_, rfl, hp, dx, _, rfl, hi.house, rfl, _, rfl, hp, _, dx, _, .ref al, rfl, hi.house, T.cHouse, T.aHouse_alive, rfl, L, C, hp, dx, al, mdl, op, sl, kp, t, S, to, ts, rfl, hL, eC, hi, hok, q4⟩
end Fc
/-! Questions: leaves, the words they name. -/
namespace Fc
open PySem PySem.Spec PyProof.Rows L2 Evl
/-- the words of a document by fields -/
abbrev Wd := Str → List Str
inductive Lf where
  | word (f w : Str)
  | like (f p : Str)
  | row (f : Str) (ws : List Str)
  | near (f : Str) (n : Nat) (ws : List Str)
  | chain (f : Str) (n : Nat) (ws : List Str)
def Lf.field : Lf → Str
  | .word f _ => f
  | .like f _ => f
  | .row f _ => f
  | .near f _ _ => f
  | .chain f _ _ => f
def Lf.names : Lf → List Str
  | .word _ _ => []
  | .like _ _ => []
  | .row _ ws => ws
  | .near _ _ ws => ws
  | .chain _ _ ws => ws
/-- words of rows, nearness, chains -/
def NamesOk (ws : List Str) : Prop := ws ≠ [] ∧ ws.length ≤ 60 ∧ ∀ w ∈ ws, w.length ≤ 1000 ∧ ∀ c ∈ w.cps.toList, c < 1114112
def LfAt (H : Hp) (a : Addr) : Lf → Prop
  | .word f w => H a = some (.tup [.str "word", .str f, .str w]) ∧ w.length ≤ 1000
  | .like f p => H a = some (.tup [.str "like", .str f, .str p]) ∧ PatOk p
  | .row f ws => NamesOk ws ∧ ∃ l, H a = some (.tup [.str "row", .str f, .ref l]) ∧ H l = some (.lst (ws.map V.str))
  | .near f n ws => NamesOk ws ∧ ∃ l, H a = some (.tup [.str "near", .str f, .int (n : Nat), .ref l]) ∧ H l = some (.lst (ws.map V.str))
  | .chain f n ws => NamesOk ws ∧ ∃ l, H a = some (.tup [.str "chain", .str f, .int (n : Nat), .ref l]) ∧ H l = some (.lst (ws.map V.str))
def LfSm : Lf → Prop
  | .near _ n _ => n ≤ 1000
  | .chain _ n _ => n ≤ 1000
  | _ => True
theorem LfAt.mono {H H2 : Hp} {a : Addr} {lf : Lf} (h : LfAt H a lf) (e : Ex H H2) : LfAt H2 a lf := by
  cases lf with
  | word f w => exact ⟨e _ _ h.1, h.2⟩
  | like f p => exact ⟨e _ _ h.1, h.2⟩
  | row f ws =>
    obtain ⟨h1, l, h2, h3⟩ := h
    exact ⟨h1, l, e _ _ h2, e _ _ h3⟩
  | near f n ws =>
    obtain ⟨h1, l, h2, h3⟩ := h
    exact ⟨h1, l, e _ _ h2, e _ _ h3⟩
  | chain f n ws =>
    obtain ⟨h1, l, h2, h3⟩ := h
    exact ⟨h1, l, e _ _ h2, e _ _ h3⟩
/-- documents by numbers, and their postings -/
structure SdOf (T : Tab) (dd : Nat → Option Wd) : Prop where
  nd : ∀ f w, ((T f w).map (·.1)).Nodup
  mem : ∀ f w n ps, (n, ps) ∈ T f w ↔ ∃ D, dd n = some D ∧ w ∈ D f ∧ ps = posOf (D f) w
  lt : ∀ n D, dd n = some D → n < 60 ∧ ∀ f, (D f).length ≤ 60
theorem SdOf.len {T : Tab} {dd : Nat → Option Wd} (h : SdOf T dd) (f w : Str) : (T f w).length ≤ 60 := by
  have q := nodup_le (b := List.range 60) (h.nd f w) fun n hn => by
    obtain ⟨⟨m, ps⟩, hx, rfl⟩ := List.mem_map.mp hn
    obtain ⟨D, h1, _⟩ := (h.mem f w m ps).mp hx
    exact List.mem_range.mpr (h.lt m D h1).1
  rwa [List.length_map, List.length_range] at q
structure SdAt (K : PySem.W.Frag) (L : List Str) (C : Hp) (s : Addr) (dd : Nat → Option Wd) (T : Tab) (nums : List Nat) : Prop where
  at_ : StandAt K L C s nums T
  of_ : SdOf T dd
  num : ∀ n, n ∈ nums ↔ ∃ D, dd n = some D
  few : L.length ≤ 60
  lw : ∀ w ∈ L, w.length ≤ 1000
theorem SdAt.mono {K : PySem.W.Frag} {L : List Str} {C C2 : Hp} {s : Addr} {dd : Nat → Option Wd} {T : Tab} {nums : List Nat} (h : SdAt K L C s dd T nums) (e : Ex C C2) : SdAt K L C2 s dd T nums := ⟨h.at_.mono e, h.of_, h.num, h.few, h.lw⟩
theorem StandAt.ins {K : PySem.W.Frag} {L : List Str} {C : Hp} {s : Addr} {nums : List Nat} {T : Tab} (h : StandAt K L C s nums T) : ∃ dx tx tb lg, C s = some (StandO K dx tx tb lg) := by
  obtain ⟨dx, tx, tb, lg, kvt, h1, _⟩ := h
  exact ⟨dx, tx, tb, lg, h1⟩
/-! ### fields, kinds -/
def sp_fields_named : Sp := fun vs H Q _ => ∃ (a : Addr) (fs : List Str) (f : Str), vs = [.ref a, .str f] ∧ H a = some (.lst (fs.map V.str)) ∧ fs.length ≤ 60 ∧ RetL ((if f = Z [42] then fs else [f]).map V.str) H Q
theorem sc_fields_named : FnScope ["fields", "field"] ["fields", "field"] (defScope s_fields_named) := ⟨rfl, rfl, rfl, by decide +kernel, rfl, by decide +kernel, by decide +kernel⟩
theorem ok_fields_named {P : Program} {w : World} {K : PySem.W.Frag} {mg : Str → Option Value} {base : Heap} (G : Gd K mg "fields_named" s_fields_named) (T : Tx K mg) : OkF P w K mg base 1 "fields_named" ["fields", "field"] sp_fields_named := by
  refine G.ok (k := 0) sc_fields_named (fun _ _ _ _ _ _ us hl => match us, hl with | [_, _], _ => rfl) (fun vs H Q E h => ?_) (fun f cdv A outer s H vs Q E hr h => ?_)
  · unfold sp_fields_named at h
    repeat (first | (obtain ⟨rfl, h⟩ := h; rfl) | (obtain ⟨_, h⟩ := h))
  have hu := hu_of hr
  refine ⟨_, (pss_cons (ps_if (pt_cmpR op_eq (pv 1) pe_str (nomark _)) (pss_one (ps_ret (pe_callTy (T := "list") (listOfK K) rfl T.n_list (by decide +kernel) (pa_cons (pv 0) pa_nil)))) pss_nil)
      (pss_one (ps_ret (pe_lst (pa_cons (pv 1) pa_nil))))), ?_⟩
  obtain ⟨a, fs, f9, rfl, ha, hl, k⟩ := h
  have e9 : ("*" : Str) = Z [42] := rfl
  refine q_when (b := decide (f9 = Z [42])) (et_is (et_test (ev_op (ev_var rfl) ev_c (rv_eq rfl))) ?_) (fun hb H1 e1 => ?_) fun hb H1 e1 => ?_
  · rw [e9]
    simp
  · rw [if_pos (of_decide_eq_true hb)] at k
    exact s_retL (el_cb (ea_cons (ev_var rfl) ea_nil) fun H2 e2 Q2 q2 => ⟨a, _, rfl, .inl (sq_of ((e1.trans e2) _ _ ha)), fun l hl => q2 l _ hl (Ex.new hl) upd_same⟩) fun p H2 hp e2 h2 => k p H2 (fresh_back e1 hp) (e1.trans e2) h2
  · rw [if_neg (of_decide_eq_false hb)] at k
    exact s_retL (el_lst (ea_cons (ev_var rfl) ea_nil) (by simp)) fun p H2 hp e2 h2 => k p H2 (fresh_back e1 hp) (e1.trans e2) h2
def isLf (x : Str) : Bool := decide (x ∈ ([("word" : Str), "like", "row", "near", "chain"] : List Str))
def sp_has_words : Sp := fun vs H Q _ => ∃ (a : Addr) (x : Str) (xs : List V), vs = [.ref a] ∧ H a = some (.tup (.str x :: xs)) ∧ RetV (.bl (isLf x)) H Q
theorem sc_has_words : FnScope ["question"] ["question"] (defScope s_has_words) := ⟨rfl, rfl, rfl, by decide +kernel, rfl, by decide +kernel, by decide +kernel⟩
theorem ok_has_words {P : Program} {w : World} {K : PySem.W.Frag} {mg : Str → Option Value} {base : Heap} (G : Gd K mg "has_words" s_has_words) (T : Tx K mg) : OkF P w K mg base 1 "has_words" ["question"] sp_has_words := by
  refine G.ok (k := 0) sc_has_words (fun _ _ _ _ _ _ us hl => match us, hl with | [_], _ => rfl) (fun vs H Q E h => ?_) (fun f cdv A outer s H vs Q E hr h => ?_)
  · unfold sp_has_words at h
    repeat (first | (obtain ⟨rfl, h⟩ := h; rfl) | (obtain ⟨_, h⟩ := h))
  have hu := hu_of hr
  refine ⟨_, (pss_one (ps_ret (pe_cmpR (opInK K) (pe_ix (ixtK K) (pv 0) pe_int (fun _ _ => rfl)) (pe_lst (pa_cons pe_str (pa_cons pe_str (pa_cons pe_str (pa_cons pe_str (pa_cons pe_str pa_nil)))))) (by with_unfolding_all rfl)))), ?_⟩
  obtain ⟨a, x, xs, rfl, ha, k⟩ := h
  refine s_ret (ev_opL (ev_op (ev_var rfl) ev_c (rv_ixT (st_of ha) (v := .str x) (i := 0) (atI_nat (j := 0) rfl))) (el_lst (vs := [.str "word", .str "like", .str "row", .str "near", .str "chain"]) (ea_cons ev_c (ea_cons ev_c (ea_cons ev_c (ea_cons ev_c (ea_cons ev_c ea_nil))))) (by simp)) fun p H1 h1 e1 => ?_) k
  exact rv_inS (ns := [("word" : Str), "like", "row", "near", "chain"]) (sq_of h1)
/-! ### words of a pattern, of a question -/
theorem s_retN {L : List Str} {σ : L2.St} {H : Hp} {te : TE} {D : Ends} {P : V → Hp → Prop} (hh : ∀ Q : VK, (∀ v H2, P v H2 → Q v H2) → te σ H Q) (k : ∀ v H2, P v H2 → D.rt v H2) : tRet te D σ H := hh _ fun v H2 p => k v H2 p
/-- a comprehension over a new list of texts that is told only so far -/
theorem el_lcQ {K : PySem.W.Frag} {σ : L2.St} {H : Hp} {tl te : TE} {t : TT} {j : Nat} {vs : List Nat} {L : List Str} {N : Str → Prop} (hh : ∀ Q : VK, (∀ v H2, NamesAt L N H v H2 → Q v H2) → tl σ H Q) (fb : Str → Bool) (hw : ∀ x, wipe ((wipe σ vs).set j (some (.str x))) vs = wipe σ vs)
    (ht : ∀ x H1, x ∈ L → Ex H H1 → EvT t ((wipe σ vs).set j (some (.str x))) H1 (fb x)) (he : ∀ x H1, Ex H H1 → Ev te ((wipe σ vs).set j (some (.str x))) H1 (.str x)) {Q : VK} (q : ∀ p H2 (ks : List Str), H p = none → Ex H H2 → H2 p = some (.lst ((ks.filter fb).map V.str)) → ks.Nodup → ks.length ≤ 60 → (∀ f, N f → f ∈ ks) → Q (.ref p) H2) :
    tLc (iList K tl) (gName j) t te vs σ H Q :=
  hh _ fun v H2 ⟨p, ks, hv, hp, e2, h2, hnd, hkl, hin, hall⟩ => by
    subst hv
    refine ⟨p, rfl, ⟨_, sq_of h2⟩, ?_⟩
    have hl := el_lcX (ti := iList K (tC (.ref p))) (g := gName j) (vs := vs) (t := t) (te := te) (es := ks) (σ := σ) (H := H2) (st := fun x σ0 => σ0.set j (some (.str x))) fb (fun x => V.str x) (ex_list (F := fun x => V.str x) ev_c (sq_of h2)) (by omega) hw (fun x hx H3 e3 => ht x H3 (hin x hx) (e2.trans e3)) (fun x hx H3 e3 _ => he x H3 (e2.trans e3))
    obtain ⟨a, ha, _, hb⟩ := hl H2 (Ex.refl _) Q fun r H3 hr e3 h3 => q r H3 ks (fresh_back e2 hr) (e2.trans e3) h3 hnd hkl hall
    cases ha
    exact hb
def sp_words_like (K : PySem.W.Frag) : Sp := fun vs H Q _ => ∃ (L : List Str) (C : Hp) (s : Addr) (dd : Nat → Option Wd) (T : Tab) (nums : List Nat) (f p : Str), vs = [.ref s, .str f, .str p] ∧ SdAt K L C s dd T nums ∧ Ex C H ∧ PatOk p ∧
  ∀ a H2 (ks : List Str), H a = none → Ex H H2 → H2 a = some (.lst (ks.map V.str)) → ks.length ≤ 60 → (∀ w ∈ ks, fitB p.cps.toList w.cps.toList = true) → (∀ w, T f w ≠ [] → fitB p.cps.toList w.cps.toList = true → w ∈ ks) → Q (.ref a) H2
theorem sc_words_like : FnScope ["stand", "field", "pattern", "word"] ["stand", "field", "pattern"] (defScope s_words_like) := ⟨rfl, rfl, rfl, by decide +kernel, rfl, by decide +kernel, by decide +kernel⟩
theorem ok_words_like {P : Program} {w : World} {K : PySem.W.Frag} {mg : Str → Option Value} {base : Heap} (G : Gd K mg "words_like" s_words_like) (T : Tx K mg) (O_look_at_pattern : OkF P w K mg base 1 "look_at_pattern" ["pattern"] sp_look_at_pattern) (O_Stand_words : OkM P w K mg base 1 (adStand K) "words" ["self", "field"] (sp_Stand_words K)) (O_is_fit : OkF P w K mg base 3 "is_fit" ["pattern", "word"] sp_is_fit) : OkF P w K mg base 4 "words_like" ["stand", "field", "pattern"] (sp_words_like K) := by
  refine G.ok (k := 3) sc_words_like (fun _ _ _ _ _ _ us hl => match us, hl with | [_, _, _], _ => rfl) (fun vs H Q E h => ?_) (fun f cdv A outer s H vs Q E hr h => ?_)
  · unfold sp_words_like at h
    repeat (first | (obtain ⟨rfl, h⟩ := h; rfl) | (obtain ⟨_, h⟩ := h))
  have hu := hu_of hr
  refine ⟨_, (pss_cons (ps_expr (pe_fn O_look_at_pattern (hr.mono (by decide)) (pa_cons (pv 2) pa_nil)))
      (pss_one (ps_ret (pe_lc (own := [("word", 3)]) (g := gName 3) rfl sc_words_like.nd (pi_list (pe_mt O_Stand_words (hr.mono (by decide)) T.cStand (pv 0) (pa_cons (pv 1) pa_nil))) (blkOk_by (own := [("word", 3)]) (N := ["stand", "field", "pattern", "word"]) (sc := defScope s_words_like) (by decide +kernel)) (fun _ _ _ _ _ => (pgv 3 sc_words_like.nd)) (fun _ _ _ _ _ => (pts_one (pt_val (pe_fn O_is_fit (hr.mono (by decide)) (pa_cons (pv 2) (pa_cons (pv 3) pa_nil)))))) (fun _ _ _ _ _ => (pv 3)))))), ?_⟩
  obtain ⟨L, C, sA, dd, T9, nums, f9, p9, rfl, hS, eC, hpat, k⟩ := h
  obtain ⟨dx, tx, tb, lg, hs⟩ := hS.at_.ins
  refine q_drop (v := .non) (ev_call (ea_cons (ev_var rfl) ea_nil) fun H1 e1 Q1 q1 E1 => ⟨p9, rfl, hpat, q1⟩) fun H1 e1 => ?_
  refine s_retQ (C := fun v H2 => ∃ (a : Addr) (ks : List Str), v = .ref a ∧ H1 a = none ∧ Ex H1 H2 ∧ H2 a = some (.lst ((ks.filter fun w : Str => fitB p9.cps.toList w.cps.toList).map V.str)) ∧ ks.length ≤ 60 ∧ ∀ w, T9 f9 w ≠ [] → w ∈ ks) (fun Q2 q2 => ?_) fun v H2 ⟨a, ks, hv, ha, e2, h2, hl, hall⟩ => ?_
  · refine el_lcQ (L := L) (N := fun w => T9 f9 w ≠ []) (fun Q3 q3 => eq_meth (P := NamesAt L (fun w => T9 f9 w ≠ []) H1) (ev_var rfl) ((eC.trans e1) _ _ hs) rfl (ea_cons (ev_var rfl) ea_nil) (fun H3 e3 Q4 q4 => ⟨L, C, sA, nums, T9, f9, rfl, hS.few, hS.at_, eC.trans (e1.trans e3), fun v H5 ⟨p, ks, z1, z2, z3, z4⟩ => q4 v H5 ⟨p, ks, z1, fresh_back e3 z2, e3.trans z3, z4⟩⟩) q3) (fun w : Str => fitB p9.cps.toList w.cps.toList) (fun x => rfl) (fun x H3 hx e3 => et_B (ev_call (ea_cons (ev_var rfl) (ea_cons (ev_var rfl) ea_nil)) fun H4 e4 Q4 q4 E4 => ⟨p9, x, rfl, by have := hpat.2.1; omega, hS.lw x hx, q4⟩)) (fun x H3 e3 => ev_var rfl) fun p H3 ks hp e3 h3 _ hl hall => q2 _ _ ⟨p, ks, rfl, hp, e3, h3, hl, hall⟩
  · subst hv
    refine k a H2 _ (fresh_back e1 ha) (e1.trans e2) h2 ?_ (fun w hw => (List.mem_filter.mp hw).2) fun w hw hf => List.mem_filter.mpr ⟨hall w hw, hf⟩
    have := List.length_filter_le (fun w : Str => fitB p9.cps.toList w.cps.toList) ks
    omega
def WNamed (lf : Lf) (T : Tab) (fl : Str) (ws : List Str) : Prop := match lf with
  | .word _ w => ws = [w]
  | .like _ p => ws.length ≤ 60 ∧ (∀ w ∈ ws, fitB p.cps.toList w.cps.toList = true) ∧ ∀ w, T fl w ≠ [] → fitB p.cps.toList w.cps.toList = true → w ∈ ws
  | .row _ ns => ws = ns
  | .near _ _ ns => ws = ns
  | .chain _ _ ns => ws = ns
def sp_words_named (K : PySem.W.Frag) : Sp := fun vs H Q _ => ∃ (L : List Str) (C : Hp) (s q : Addr) (dd : Nat → Option Wd) (T : Tab) (nums : List Nat) (f : Str) (lf : Lf), vs = [.ref s, .str f, .ref q] ∧ SdAt K L C s dd T nums ∧ Ex C H ∧ LfAt H q lf ∧
  ∀ a H2 (ks : List Str), H a = none → Ex H H2 → H2 a = some (.lst (ks.map V.str)) → WNamed lf T f ks → Q (.ref a) H2
theorem sc_words_named : FnScope ["stand", "field", "question"] ["stand", "field", "question"] (defScope s_words_named) := ⟨rfl, rfl, rfl, by decide +kernel, rfl, by decide +kernel, by decide +kernel⟩
theorem ok_words_named {P : Program} {w : World} {K : PySem.W.Frag} {mg : Str → Option Value} {base : Heap} (G : Gd K mg "words_named" s_words_named) (T : Tx K mg) (O_words_like : OkF P w K mg base 4 "words_like" ["stand", "field", "pattern"] (sp_words_like K)) : OkF P w K mg base 5 "words_named" ["stand", "field", "question"] (sp_words_named K) := by
  refine G.ok (k := 4) sc_words_named (fun _ _ _ _ _ _ us hl => match us, hl with | [_, _, _], _ => rfl) (fun vs H Q E h => ?_) (fun f cdv A outer s H vs Q E hr h => ?_)
  · unfold sp_words_named at h
    repeat (first | (obtain ⟨rfl, h⟩ := h; rfl) | (obtain ⟨_, h⟩ := h))
  have hu := hu_of hr
  refine ⟨_, (pss_cons (ps_if (pt_cmpR op_eq (pe_ix (ixtK K) (pv 2) pe_int (fun _ _ => rfl)) pe_str (nomark _)) (pss_one (ps_ret (pe_lst (pa_cons (pe_ix (ixtK K) (pv 2) pe_int (fun _ _ => rfl)) pa_nil)))) pss_nil)
      (pss_cons (ps_if (pt_cmpR op_eq (pe_ix (ixtK K) (pv 2) pe_int (fun _ _ => rfl)) pe_str (nomark _)) (pss_one (ps_ret (pe_fn O_words_like (hr.mono (by decide)) (pa_cons (pv 0) (pa_cons (pv 1) (pa_cons (pe_ix (ixtK K) (pv 2) pe_int (fun _ _ => rfl)) pa_nil)))))) pss_nil)
      (pss_one (ps_ret (pe_callTy (T := "list") (listOfK K) rfl T.n_list (by decide +kernel) (pa_cons (pe_ix (ixtK K) (pv 2) (pe_un un_neg pe_int) (fun _ _ => rfl)) pa_nil)))))), ?_⟩
  obtain ⟨L, C, sA, q, dd, T9, nums, f9, lf, rfl, hS, eC, hq, k⟩ := h
  have kind : ∀ {H1 : Hp} {x y : Str} {xs : List V}, H1 q = some (.tup (.str x :: xs)) → Ev (tOp rEq (tOp (rIxT K) (tVar 2) (tC (.int 0))) (tC (.str y))) (start ["stand", "field", "question"] [.ref sA, .str f9, .ref q]) H1 (.bl (decide (x = y))) := fun {H1 x y xs} hx =>
    ev_is (ev_op (ev_op (ev_var rfl) ev_c (rv_ixT (st_of hx) (v := .str x) (i := 0) (atI_nat (j := 0) rfl))) ev_c (rv_eq rfl)) (by simp)
  have last : ∀ {H1 : Hp} {ns : List Str} {l : Addr} {xs : List V}, Ex H H1 → H1 q = some (.tup (xs ++ [.ref l])) → H1 l = some (.lst (ns.map V.str)) → WNamed lf T9 f9 ns →
      tRet (tCB (rListQ K) (tCons (tOp (rIxT K) (tVar 2) (tUn (rU fun i => .int (-i)) (tC (.int 1)))) tNil)) { nx := fun _ H' => Q .non H', rt := Q } (start ["stand", "field", "question"] [.ref sA, .str f9, .ref q]) H1 := fun {H1 ns l xs} e1 hx hl hw =>
    s_retL (el_cb (ea_cons (ev_op (ev_var rfl) (ev_un ev_c ru_neg) (rv_ixT (st_of hx) (atI_last xs _))) ea_nil) fun H2 e2 Q2 q2 => ⟨l, _, rfl, .inl (sq_of (e2 _ _ hl)), fun p hp => q2 p _ hp (Ex.new hp) upd_same⟩) fun p H2 hp e2 h2 => k p H2 ns (fresh_back e1 hp) (e1.trans e2) h2 hw
  cases lf with
  | word f w =>
    refine q_when (b := true) (et_test (kind hq.1)) (fun _ H1 e1 => ?_) (fun z => nomatch z)
    exact s_retL (xs := [w].map V.str) (el_lst (ea_cons (ev_op (ev_var rfl) ev_c (rv_ixT (st_of (e1 _ _ hq.1)) (v := .str w) (i := 2) (atI_nat (j := 2) rfl))) ea_nil) (by simp)) fun p H2 hp e2 h2 => k p H2 [w] (fresh_back e1 hp) (e1.trans e2) h2 rfl
  | like f p =>
    refine q_when (b := false) (et_is (et_test (kind hq.1)) (by decide)) (fun z => nomatch z) fun _ H1 e1 => ?_
    refine q_when (b := true) (et_test (kind (e1 _ _ hq.1))) (fun _ H2 e2 => ?_) (fun z => nomatch z)
    have e12 := e1.trans e2
    refine s_retQ (C := fun v H3 => ∃ (a : Addr) (ks : List Str), v = .ref a ∧ H2 a = none ∧ Ex H2 H3 ∧ H3 a = some (.lst (ks.map V.str)) ∧ WNamed (.like f p) T9 f9 ks) (fun Q3 q3 => ?_) fun v H3 ⟨a, ks, hv, ha, e3, h3, hw⟩ => by
      subst hv
      exact k a H3 ks (fresh_back e12 ha) (e12.trans e3) h3 hw
    refine ⟨_, rfl, _, rfl, (ev_op (σ := start ["stand", "field", "question"] [.ref sA, .str f9, .ref q]) (ev_var rfl) ev_c (rv_ixT (st_of (e12 _ _ hq.1)) (v := .str p) (i := 2) (atI_nat (j := 2) rfl))) H2 (Ex.refl _) _ fun H3 e3 => ⟨L, C, sA, dd, T9, nums, f9, p, rfl, hS, (eC.trans e12).trans e3, hq.2, fun a H4 ks ha e4 h4 hl h5 h6 => q3 _ _ ⟨a, ks, rfl, fresh_back e3 ha, e3.trans e4, h4, hl, h5, h6⟩⟩⟩
  | row f ns =>
    obtain ⟨hn, l, h1, h2⟩ := hq
    refine q_when (b := false) (et_is (et_test (kind h1)) (by decide)) (fun z => nomatch z) fun _ H1 e1 => ?_
    refine q_when (b := false) (et_is (et_test (kind (e1 _ _ h1))) (by decide)) (fun z => nomatch z) fun _ H2 e2 => ?_
    exact last (xs := [.str "row", .str f]) (e1.trans e2) ((e1.trans e2) _ _ h1) ((e1.trans e2) _ _ h2) rfl
  | near f n ns =>
    obtain ⟨hn, l, h1, h2⟩ := hq
    refine q_when (b := false) (et_is (et_test (kind h1)) (by decide)) (fun z => nomatch z) fun _ H1 e1 => ?_
    refine q_when (b := false) (et_is (et_test (kind (e1 _ _ h1))) (by decide)) (fun z => nomatch z) fun _ H2 e2 => ?_
    exact last (xs := [.str "near", .str f, .int (n : Nat)]) (e1.trans e2) ((e1.trans e2) _ _ h1) ((e1.trans e2) _ _ h2) rfl
  | chain f n ns =>
    obtain ⟨hn, l, h1, h2⟩ := hq
    refine q_when (b := false) (et_is (et_test (kind h1)) (by decide)) (fun z => nomatch z) fun _ H1 e1 => ?_
    refine q_when (b := false) (et_is (et_test (kind (e1 _ _ h1))) (by decide)) (fun z => nomatch z) fun _ H2 e2 => ?_
    exact last (xs := [.str "chain", .str f, .int (n : Nat)]) (e1.trans e2) ((e1.trans e2) _ _ h1) ((e1.trans e2) _ _ h2) rfl
end Fc
/-! Documents in which some of some words stand; all of them, with their places. -/
namespace Fc
open PySem PySem.Spec PyProof.Rows L2 Evl
section
variable {K : PySem.W.Frag} {σ : L2.St} {H : Hp} {tl te : TE}
/-- the numbers of new postings -/
theorem el_post {j1 j2 n : Nat} {vs : List Nat} {ps : Post} (hh : ∀ H1, Ex H H1 → ∀ Q : VK, (∀ p H2, H1 p = none → Ex H1 H2 → PostAt (fr H1 H2) p ps → Q (.ref p) H2) → tl σ H1 Q) (hn : n = 2) (hz : ps.length ≤ 1000) (hw : ∀ a b, wipe (((wipe σ vs).set j1 (some a)).set j2 (some b)) vs = wipe σ vs)
    (hj : ∀ a b, (((wipe σ vs).set j1 (some a)).set j2 (some b))[j1]? = some (some a)) : EvL (tLc (iList K tl) (gTup K n (gCons (gName j1) (gCons (gName j2) gNil))) tYes (tVar j1) vs) σ H (nats (ps.map (·.1))) := fun H1 e1 Q q =>
  hh H1 e1 _ fun p H2 hp e2 hpo => by
    obtain ⟨es, hes, ht, _⟩ := (hpo.mono fr_ex).es
    obtain ⟨ts, htl, htp⟩ := id ht
    have hel : es.length = ps.length := by rw [← hes, List.length_map]
    refine ⟨p, rfl, ⟨_, sq_of htl⟩, ?_⟩
    have hl := el_lcX (ti := iList K (tC (.ref p))) (g := gTup K n (gCons (gName j1) (gCons (gName j2) gNil))) (vs := vs) (t := tYes) (te := tVar j1) (es := es) (σ := σ) (H := H2) (st := fun (e : Nat × Addr × List Nat) σ0 => (σ0.set j1 (some (.int (e.1 : Nat)))).set j2 (some (.ref e.2.1))) (fun _ => true) (fun e => V.int (e.1 : Nat))
      (ex_tups (A := fun e : Nat × Addr × List Nat => .int (e.1 : Nat)) (B := fun e : Nat × Addr × List Nat => .ref e.2.1) ev_c ht hn) (by omega) (fun x => hw _ _) (fun _ _ H3 _ H4 _ Q4 q4 => q4 H4 (Ex.refl _)) (fun x hx H3 e3 _ => ev_var (hj _ _))
    rw [List.filter_eq_self.mpr (fun _ _ => rfl)] at hl
    have e9 : es.map (fun e => V.int (e.1 : Nat)) = nats (ps.map (·.1)) := by
      rw [← hes]
      show _ = List.map _ (List.map _ (List.map _ es))
      rw [List.map_map, List.map_map]
      rfl
    rw [e9] at hl
    obtain ⟨a, ha, _, hb⟩ := hl H2 (Ex.refl _) Q fun r H3 hr e3 h3 => q r H3 (fresh_back e2 hr) (e2.trans e3) h3
    cases ha
    exact hb
end
def anyN (T : Tab) (f : Str) (ws : List Str) : List Nat := ws.flatMap fun w => (T f w).map (·.1)
def sp_any_of (K : PySem.W.Frag) : Sp := fun vs H Q _ => ∃ (L : List Str) (C : Hp) (s a : Addr) (dd : Nat → Option Wd) (T : Tab) (nums : List Nat) (f : Str) (ws : List Str), vs = [.ref s, .str f, .ref a] ∧ SdAt K L C s dd T nums ∧ Ex C H ∧ H a = some (.lst (ws.map V.str)) ∧ ws.length ≤ 60 ∧
  RetL (nats (upto 60 fun n => decide (n ∈ anyN T f ws))) H Q
theorem sc_any_of : FnScope ["stand", "field", "words", "found", "word", "document", "places"] ["stand", "field", "words"] (defScope s_any_of) := ⟨rfl, rfl, rfl, by decide +kernel, rfl, by decide +kernel, by decide +kernel⟩
theorem ok_any_of {P : Program} {w : World} {K : PySem.W.Frag} {mg : Str → Option Value} {base : Heap} (G : Gd K mg "any_of" s_any_of) (T : Tx K mg) (O_Stand_postings : OkM P w K mg base 2 (adStand K) "postings" ["self", "field", "word"] (sp_Stand_postings K)) : OkF P w K mg base 3 "any_of" ["stand", "field", "words"] (sp_any_of K) := by
  refine G.ok (k := 2) sc_any_of (fun _ _ _ _ _ _ us hl => match us, hl with | [_, _, _], _ => rfl) (fun vs H Q E h => ?_) (fun f cdv A outer s H vs Q E hr h => ?_)
  · unfold sp_any_of at h
    repeat (first | (obtain ⟨rfl, h⟩ := h; rfl) | (obtain ⟨_, h⟩ := h))
  have hu := hu_of hr
  refine ⟨_, (pss_cons (psv 3 sc_any_of.nd (pe_lst pa_nil))
      (pss_cons (ps_for PassesOwn.never rfl (pi_list (pv 2)) (pgv 4 sc_any_of.nd)
        (pss_one (ps_expr (pe_bm PySem.F.plainAttrs_list PySem.F.slot_list_extend PySem.F.type_list_extend mt_extend (pv 3) (pa_cons (pe_lc (own := [("document", 5), ("places", 6)]) (g := gTup K 2 (gCons (gName 5) (gCons (gName 6) (gNil)))) rfl sc_any_of.nd (pi_list (pe_mt O_Stand_postings (hr.mono (by decide)) T.cStand (pv 0) (pa_cons (pv 1) (pa_cons (pv 4) pa_nil)))) (blkOk_by (own := [("document", 5), ("places", 6)]) (N := ["stand", "field", "words", "found", "word", "document", "places"]) (sc := defScope s_any_of) (by decide +kernel)) (fun _ _ _ _ _ => (pg_tup rfl (pgs_cons (pgv 5 sc_any_of.nd) (pgs_cons (pgv 6 sc_any_of.nd) pgs_nil)))) (fun _ _ _ _ _ => pts_nil) (fun _ _ _ _ _ => (pv 5))) pa_nil)))))
      (pss_one (ps_ret (pe_callB (id := "sorted") (cr_sortedSet rfl) rfl T.n_sorted (by decide +kernel) (pa_cons (pe_callTy (T := "set") (cr_setI rfl) rfl T.n_set (by decide +kernel) (pa_cons (pv 3) pa_nil)) pa_nil)))))), ?_⟩
  obtain ⟨L, C, sA, a, dd, T9, nums, f9, ws, rfl, hS, eC, ha, hw, k⟩ := h
  obtain ⟨dx, tx, tb, lg, hs⟩ := hS.at_.ins
  have hlen := fun w => hS.of_.len f9 w
  refine q_asgL (el_lst ea_nil (Nat.zero_le _)) fun p H1 hp e1 h1 => ?_
  have hfl : ∀ i, (anyN T9 f9 (ws.take i)).length ≤ 3600 := fun i => by
    have q : ∀ l : List Str, (anyN T9 f9 l).length ≤ l.length * 60 := fun l => by
      induction l with
      | nil => exact Nat.zero_le _
      | cons w r ih =>
        show ((T9 f9 w).map (·.1) ++ anyN T9 f9 r).length ≤ _
        rw [List.length_append, List.length_map, List.length_cons, Nat.succ_mul]
        have := hlen w
        omega
    have q2 := q (ws.take i)
    rw [List.length_take] at q2
    have : min i ws.length * 60 ≤ 60 * 60 := Nat.mul_le_mul_right 60 (by omega)
    omega
  refine q_forX (H := H) (ex_list (es := ws) (F := V.str) (ev_var rfl) (sq_of ha)) e1 (fun Hg i σ H2 => ∃ y4 y5 y6, σ = [some (.ref sA), some (.str f9), some (.ref a), some (.ref p), y4, y5, y6] ∧ Ex H H2 ∧ Ex Hg H2 ∧ H2 p = some (.lst (nats (anyN T9 f9 (ws.take i))))) (fun Hg H2 e2 eg => ⟨none, none, none, rfl, e1.trans e2, eg, e2 _ _ h1⟩) (fun Hg i σ H2 ⟨_, _, _, _, _, e, _⟩ => e) ?_ ?_
  · rintro Hg eg hgn i w σ H2 hi ⟨y4, y5, y6, rfl, e2, e2g, h2⟩ H3 e3
    have e23 := e2.trans e3
    refine s_extN (ys := nats ((T9 f9 w).map (·.1))) (e3 _ _ h2) (ev_var rfl) (el_post (fun H4 e4 Q4 q4 => eq_meth (P := fun v H5 => ∃ p, v = .ref p ∧ H4 p = none ∧ Ex H4 H5 ∧ PostAt (fr H4 H5) p (T9 f9 w)) (ev_var rfl) ((eC.trans (e23.trans e4)) _ _ hs) rfl (ea_cons (ev_var rfl) (ea_cons (ev_var rfl) ea_nil)) (fun H5 e5 Q5 q5 => ⟨L, C, sA, nums, T9, f9, w, rfl, hlen w, hS.at_, eC.trans ((e23.trans e4).trans e5), fun p H6 hp6 e6 hpp => q5 _ _ ⟨p, rfl, fresh_back e5 hp6, e5.trans e6, hpp.mono (fr_back e5)⟩⟩) fun v H5 ⟨p, hv, hp5, e5, hpp⟩ => by
        subst hv
        exact q4 p H5 hp5 e5 hpp) rfl (by have := hlen w; omega) (fun _ _ => rfl) (fun _ _ => rfl)) ?_ fun H4 e4 => ⟨_, _, _, rfl, (e23.trans e4).mut hp, ((e2g.trans e3).trans e4).mut (hgn p (ns h1) hp), ?_⟩
    · have := hfl i
      have := hlen w
      rw [List.length_map, List.length_map, List.length_map]
      omega
    · rw [upd_same, nats_app]
      have e9 : anyN T9 f9 (ws.take (i + 1)) = anyN T9 f9 (ws.take i) ++ (T9 f9 w).map (·.1) := by
        unfold anyN
        rw [List.take_succ, hi, Option.toList_some, List.flatMap_append]
        simp
      rw [e9]
  · rintro Hg eg σ H2 ⟨y4, y5, y6, rfl, e2, e2g, h2⟩
    have hx := hfl ws.length
    rw [List.take_length] at h2 hx
    refine s_retL (el_sset 60 (by omega) (ev_var rfl) (sq_of h2) (by omega) fun n hn => ?_) fun q H3 hq e3 h3 => k q H3 (fresh_back e2 hq) (e2.trans e3) h3
    unfold anyN at hn
    obtain ⟨w, _, hn2⟩ := List.mem_flatMap.mp hn
    obtain ⟨⟨m, ps⟩, hm, rfl⟩ := List.mem_map.mp hn2
    obtain ⟨D, hD, _⟩ := (hS.of_.mem f9 w m ps).mp hm
    exact (hS.of_.lt m D hD).1
/-! ### rows -/
/-- a dict of postings -/
def PoD (G : Hp) (d : Addr) (ps : Post) : Prop := ∃ es : List (Nat × Addr × List Nat), es.map (fun e => (e.1, e.2.2)) = ps ∧ G d = some (.dK (es.map fun e => (kN e.1, V.ref e.2.1))) ∧ ∀ e ∈ es, G e.2.1 = some (.lst (nats e.2.2))
theorem PoD.mono {G G2 : Hp} {d : Addr} {ps : Post} (h : PoD G d ps) (e : Ex G G2) : PoD G2 d ps := by
  obtain ⟨es, h1, h2, h3⟩ := h
  exact ⟨es, h1, e _ _ h2, fun x hx => e _ _ (h3 x hx)⟩
def plN (ps : Post) (n : Nat) : Option (List Nat) := (ps.find? fun x => decide (x.1 = n)).map (·.2)
/-- what the dict tells, locked or not -/
theorem es_val (es : List (Nat × Addr × List Nat)) (n : Nat) : (valV (es.map fun e => (kN e.1, V.ref e.2.1)) (kN n) = none ∧ plN (es.map fun e => (e.1, e.2.2)) n = none) ∨ ∃ e ∈ es, e.1 = n ∧ valV (es.map fun e => (kN e.1, V.ref e.2.1)) (kN n) = some (.ref e.2.1) ∧ plN (es.map fun e => (e.1, e.2.2)) n = some e.2.2 := by
  induction es with
  | nil => exact .inl ⟨rfl, rfl⟩
  | cons x r ih =>
    by_cases c : x.1 = n
    · refine .inr ⟨x, List.mem_cons_self, c, ?_, ?_⟩
      · rw [List.map_cons, valV_pos (by show kN x.1 = kN n; rw [c])]
      · unfold plN
        rw [List.map_cons, List.find?_cons, decide_eq_true c]
        rfl
    · have e1 : valV ((x :: r).map fun e => (kN e.1, V.ref e.2.1)) (kN n) = valV (r.map fun e => (kN e.1, V.ref e.2.1)) (kN n) := by
        rw [List.map_cons, valV_neg (fun z => c (kN_inj z))]
      have e2 : plN ((x :: r).map fun e => (e.1, e.2.2)) n = plN (r.map fun e => (e.1, e.2.2)) n := by
        unfold plN
        rw [List.map_cons, List.find?_cons, decide_eq_false c]
      rw [e1, e2]
      rcases ih with h | ⟨e, he, h⟩
      · exact .inl h
      · exact .inr ⟨e, List.mem_cons_of_mem _ he, h⟩
theorem plN_mem {ps : Post} (hn : (ps.map (·.1)).Nodup) {n : Nat} {l : List Nat} : plN ps n = some l ↔ (n, l) ∈ ps := by
  unfold plN
  induction ps with
  | nil => simp
  | cons x r ih =>
    rw [List.map_cons, List.nodup_cons] at hn
    rw [List.find?_cons]
    by_cases c : x.1 = n
    · rw [decide_eq_true c]
      constructor
      · intro z
        have z2 : x.2 = l := Option.some.inj z
        rw [← c, ← z2]
        exact List.mem_cons_self
      · intro z
        rcases List.mem_cons.mp z with z | z
        · rw [← z]
          rfl
        · exact absurd (List.mem_map.mpr ⟨_, z, rfl⟩) (by rw [c] at hn; exact hn.1)
    · rw [decide_eq_false c, ih hn.2]
      constructor
      · exact fun z => List.mem_cons_of_mem _ z
      · intro z
        rcases List.mem_cons.mp z with z | z
        · exact absurd (by rw [← z]) c
        · exact z
end Fc
/-! Rows of places for each document. -/
namespace Fc
open PySem PySem.Spec PyProof.Rows L2 Evl
def pls (T : Tab) (f : Str) (ws : List Str) (n : Nat) : List (List Nat) := ws.map fun w => (plN (T f w) n).getD []
def allB (T : Tab) (f : Str) (ws : List Str) (n : Nat) : Bool := ws.all fun w => (plN (T f w) n).isSome
def FoundAt (G : Hp) (p : Addr) (T : Tab) (f : Str) (ws : List Str) (es : List (Nat × Addr)) : Prop := G p = some (.dK (es.map fun e => (kN e.1, V.ref e.2))) ∧ ∀ e ∈ es, RowsAt G e.2 (pls T f ws e.1)
theorem ev_din {σ : L2.St} {H : Hp} {ty td : TE} {a : Addr} {y : V} {o : Option V} (hy : Ev ty σ H y) (hd : Ev td σ H (.ref a)) (h : DGet H a y o) : Ev (tDIn ty td) σ H (.bl o.isSome) := fun H1 e Q q =>
  hy H1 e _ fun H2 e2 => hd H2 (e.trans e2) _ fun H3 e3 => ⟨a, o, rfl, dget_ex h ((e.trans e2).trans e3), q H3 (e2.trans e3)⟩
theorem op_q {σ : L2.St} {H : Hp} {ta : TE} {r : R2} {w : V} {P : V → Hp → Prop} {Q : VK} (h : ∀ Q : VK, (∀ v H1, P v H1 → Q v H1) → ta σ H Q) (k : ∀ v H1, P v H1 → r v w H1 Q) : tOp r ta (tC w) σ H Q := h _ fun v H1 p => k v H1 p
theorem call_2 {σ : L2.St} {H : Hp} {ta tb : TE} {sp : Sp} {E : XK} {P : V → Hp → Prop} {P2 : V → Hp → Hp → Prop} {Q : VK} (h : ∀ Q : VK, (∀ v H1, P v H1 → Q v H1) → ta σ H Q) (h2 : ∀ v H1, P v H1 → ∀ Q : VK, (∀ u H2, P2 u H1 H2 → Q u H2) → tb σ H1 Q) (k : ∀ v u H1 H2, P v H1 → P2 u H1 H2 → sp [v, u] H2 Q E) : tCall sp [] E (tCons ta (tCons tb tNil)) σ H Q :=
  h _ fun v H1 p => h2 v H1 p _ fun u H2 p2 => k v u H1 H2 p p2
theorem q9_asgL {σ : L2.St} {H : Hp} {te : TE} {i : Nat} {D : Ends} {C : V → Hp → Prop} (hh : ∀ Q : VK, (∀ v H2, C v H2 → Q v H2) → te σ H Q) (k : ∀ v H2, C v H2 → D.nx (σ.set i (some v)) H2) : tAsg te (gName i) D σ H := hh _ fun v H2 c => k v H2 c
theorem pd_zip {α β : Type} {R : α → β → Prop} {xs : List α} {ys : List β} (p : Paired R xs ys) : ∀ x ∈ xs.zip ys, R x.1 x.2 := by
  induction p with
  | nil => exact fun x hx => absurd hx List.not_mem_nil
  | cons r _ ih =>
    intro x hx
    rw [List.zip_cons_cons] at hx
    rcases List.mem_cons.mp hx with z | z
    · rw [z]
      exact r
    · exact ih x z
theorem zip_fst {α β : Type} {R : α → β → Prop} {xs : List α} {ys : List β} (p : Paired R xs ys) : (xs.zip ys).map Prod.fst = xs := List.map_fst_zip (by rw [p.length]; exact Nat.le_refl _)
theorem zip_snd {α β : Type} {R : α → β → Prop} {xs : List α} {ys : List β} (p : Paired R xs ys) : (xs.zip ys).map Prod.snd = ys := List.map_snd_zip (by rw [p.length]; exact Nat.le_refl _)
theorem rows_back {G : Hp} {γ : Type} {F : γ → List Nat} : ∀ {vs : List V} {es : List γ}, Paired (fun v x => ∃ q, v = V.ref q ∧ G q = some (.lst (nats (F x)))) vs es → ∃ ts : List Addr, vs = ts.map V.ref ∧ Paired (fun t r => G t = some (.lst (nats r))) ts (es.map F)
  | _, _, .nil => ⟨[], rfl, .nil⟩
  | _, _, .cons ⟨q, h1, h2⟩ r => by
    obtain ⟨ts, e, p⟩ := rows_back r
    subst h1 e
    exact ⟨q :: ts, rfl, .cons h2 p⟩
theorem pod_back {G : Hp} {T : Tab} {f : Str} : ∀ {vs : List V} {ws : List Str}, Paired (fun v w => ∃ d, v = V.ref d ∧ PoD G d (T f w)) vs ws → ∃ ds : List Addr, vs = ds.map V.ref ∧ Paired (fun d w => PoD G d (T f w)) ds ws
  | _, _, .nil => ⟨[], rfl, .nil⟩
  | _, _, .cons ⟨q, h1, h2⟩ r => by
    obtain ⟨ts, e, p⟩ := pod_back r
    subst h1 e
    exact ⟨q :: ts, rfl, .cons h2 p⟩
def sp_rows_of (K : PySem.W.Frag) : Sp := fun vs H Q _ => ∃ (L : List Str) (C : Hp) (s a : Addr) (dd : Nat → Option Wd) (T : Tab) (nums : List Nat) (f w0 : Str) (ws : List Str), vs = [.ref s, .str f, .ref a] ∧ SdAt K L C s dd T nums ∧ Ex C H ∧ H a = some (.lst ((w0 :: ws).map V.str)) ∧ (w0 :: ws).length ≤ 60 ∧
  ∀ p H2 es, H p = none → Ex H H2 → FoundAt (fr H H2) p T f (w0 :: ws) es → es.map (·.1) = ((T f w0).map (·.1)).filter (allB T f (w0 :: ws)) → Q (.ref p) H2
theorem sc_rows_of : FnScope ["stand", "field", "words", "rows", "word", "found", "document", "row"] ["stand", "field", "words"] (defScope s_rows_of) := ⟨rfl, rfl, rfl, by decide +kernel, rfl, by decide +kernel, by decide +kernel⟩
theorem ok_rows_of {P : Program} {w : World} {K : PySem.W.Frag} {mg : Str → Option Value} {base : Heap} (G : Gd K mg "rows_of" s_rows_of) (T : Tx K mg) (O_Stand_postings : OkM P w K mg base 2 (adStand K) "postings" ["self", "field", "word"] (sp_Stand_postings K)) : OkF P w K mg base 3 "rows_of" ["stand", "field", "words"] (sp_rows_of K) := by
  refine G.ok (k := 2) sc_rows_of (fun _ _ _ _ _ _ us hl => match us, hl with | [_, _, _], _ => rfl) (fun vs H Q E h => ?_) (fun f cdv A outer s H vs Q E hr h => ?_)
  · unfold sp_rows_of at h
    repeat (first | (obtain ⟨rfl, h⟩ := h; rfl) | (obtain ⟨_, h⟩ := h))
  have hu := hu_of hr
  refine ⟨_, (pss_cons (ps_setLc (i := 3) (own := [("word", 4)]) (g := gName 4) rfl sc_rows_of.nd rfl rfl (sw_true rfl rfl rfl (by decide +kernel)) (pi_list (pv 2)) (blkOk_by (own := [("word", 4)]) (N := ["stand", "field", "words", "rows", "word", "found", "document", "row"]) (sc := defScope s_rows_of) (by decide +kernel)) (fun _ _ _ _ _ => (pgv 4 sc_rows_of.nd)) (fun _ _ _ _ _ => pts_nil) (fun _ _ _ _ _ => (pe_callTy (T := "dict") (dictPK K rfl) rfl T.n_dict (by decide +kernel) (pa_cons (pe_mt O_Stand_postings (hr.mono (by decide)) T.cStand (pv 0) (pa_cons (pv 1) (pa_cons (pv 4) pa_nil))) pa_nil))))
      (pss_cons (psv 5 sc_rows_of.nd pe_dnewK)
      (pss_cons (ps_lock (ps_for PassesOwn.never rfl (pi_keys (pe_ix (ixlK K) (pv 3) pe_int (fun _ _ => rfl))) (pgv 6 sc_rows_of.nd)
        (pss_one (ps_if (pt_val (pe_callB (id := "all") (allK K rfl) rfl T.n_all (by decide +kernel) (pa_cons (pe_lc (own := [("row", 7)]) (g := gName 7) rfl sc_rows_of.nd (pi_list (pv 3)) (blkOk_by (own := [("row", 7)]) (N := ["stand", "field", "words", "rows", "word", "found", "document", "row"]) (sc := defScope s_rows_of) (by decide +kernel)) (fun _ _ _ _ _ => (pgv 7 sc_rows_of.nd)) (fun _ _ _ _ _ => pts_nil) (fun _ _ _ _ _ => (pe_cmp (pc_din hu (pv 6) (pv 7)) rfl))) pa_nil))) (pss_one (ps_dput hu (pv 5) (pv 6) (pe_lc (own := [("row", 7)]) (g := gName 7) rfl sc_rows_of.nd (pi_list (pv 3)) (blkOk_by (own := [("row", 7)]) (N := ["stand", "field", "words", "rows", "word", "found", "document", "row"]) (sc := defScope s_rows_of) (by decide +kernel)) (fun _ _ _ _ _ => (pgv 7 sc_rows_of.nd)) (fun _ _ _ _ _ => pts_nil) (fun _ _ _ _ _ => (pe_callTy (T := "list") (listOfK K) rfl T.n_list (by decide +kernel) (pa_cons (pe_dget hu (pv 7) (pv 6) (fun _ _ => rfl)) pa_nil)))) rfl)) pss_nil))))
      (pss_one (ps_ret (pv 5)))))), ?_⟩
  obtain ⟨L, C, sA, a, dd, T9, nums, f9, w0, ws0, rfl, hS, eC, ha, hw, k⟩ := h
  obtain ⟨dx, tx, tb, lg, hs⟩ := hS.at_.ins
  have hlen := fun w => hS.of_.len f9 w
  have hnd := fun w => hS.of_.nd f9 w
  generalize hws : w0 :: ws0 = ws at ha hw k
  -- rows
  refine q_asgQ (C := fun v H2 => ∃ rl ds, v = .ref rl ∧ H rl = none ∧ Ex H H2 ∧ fr H H2 rl = some (.lst (ds.map V.ref)) ∧ Paired (fun d w => PoD (fr H H2) d (T9 f9 w)) ds ws) (fun Q2 q2 => ?_) fun v H2 ⟨rl, ds, hv, hrl, e2, h2, hds⟩ => ?_
  · refine lc_new (K := K) (R := fun G v w => ∃ d, v = V.ref d ∧ PoD G d (T9 f9 w)) (fun _ => true) (fun ⟨d, h1, h2⟩ e => ⟨d, h1, h2.mono e⟩) (ex_list (es := ws) (F := V.str) (ev_var rfl) (sq_of ha)) (by omega) (fun x => rfl) (fun _ _ H1 _ H2 _ Q2 q2 => q2 H2 (Ex.refl _)) (fun w hw2 H1 e1 _ Q1 q1 => ?_) (Ex.refl _) fun p H2 xs hp e2 h2 hpd => ?_
    · refine call_cb (P := fun v H5 => ∃ p, v = .ref p ∧ H1 p = none ∧ Ex H1 H5 ∧ PostAt (fr H1 H5) p (T9 f9 w)) (fun Q4 q4 => eq_meth (P := fun v H5 => ∃ p, v = .ref p ∧ H1 p = none ∧ Ex H1 H5 ∧ PostAt (fr H1 H5) p (T9 f9 w)) (ev_var rfl) ((eC.trans e1) _ _ hs) rfl (ea_cons (ev_var rfl) (ea_cons (ev_var rfl) ea_nil)) (fun H5 e5 Q5 q5 => ⟨L, C, sA, nums, T9, f9, w, rfl, hlen w, hS.at_, eC.trans (e1.trans e5), fun p H6 hp6 e6 hpp => q5 _ _ ⟨p, rfl, fresh_back e5 hp6, e5.trans e6, hpp.mono (fr_back e5)⟩⟩) q4) fun v H5 ⟨p, hv, hp5, e5, hpp⟩ => ?_
      subst hv
      obtain ⟨es, hes, ⟨ts, htl, htp⟩, hqs⟩ := hpp.es
      have hnk : (es.map fun e => kN e.1).Nodup := by
        have q := hnd w
        rw [← hes, List.map_map] at q
        have q2 := List.Pairwise.map (R := (· ≠ ·)) (S := (· ≠ ·)) kN (fun a b hab z => hab (kN_inj z)) q
        rw [List.map_map] at q2
        exact q2
      have hm : mergeK [] (es.map fun e => (kN e.1, V.ref e.2.1)) = es.map fun e => (kN e.1, V.ref e.2.1) := merge_nd (kvs := []) (by
        rw [List.nil_append, List.map_map]
        exact hnk)
      have hmap : ∀ {ts : List Addr} {es : List (Nat × Addr × List Nat)}, Paired (fun t (e : Nat × Addr × List Nat) => fr H1 H5 t = some (.tup [.int (e.1 : Nat), .ref e.2.1])) ts es → Paired (fun p (kv : Key × V) => SqT K H5 p [kV kv.1, kv.2]) ts (es.map fun e => (kN e.1, V.ref e.2.1)) := by
        intro ts es p
        induction p with
        | nil => exact .nil
        | cons r _ ih => exact .cons (st_of (fr_ex _ _ r)) ih
      refine ⟨p, ts, _, rfl, sq_of (fr_ex _ _ htl), hmap htp, fun d hd => ?_⟩
      rw [hm]
      refine q1 _ _ (e5.trans (Ex.new hd)) ⟨d, rfl, es, hes, ?_, fun e he => fr_to (Ex.new hd) _ _ (hqs e he)⟩
      rw [fr_at (fresh_back e5 hd)]
      exact upd_same
    · rw [List.filter_eq_self.mpr (fun _ _ => rfl)] at hpd
      obtain ⟨ds, rfl, hds⟩ := pod_back hpd
      exact q2 _ _ ⟨p, ds, rfl, hp, e2, h2, hds⟩
  subst hv
  -- found
  refine fun fd hfd => ?_
  have e3 : Ex H2 (upd H2 fd (.dK [])) := Ex.new hfd
  have e23 := e2.trans e3
  have hf3 : upd H2 fd (.dK []) fd = some (.dK []) := upd_same
  generalize hH3 : upd H2 fd (.dK []) = H3 at e3 e23 hf3 ⊢
  have hfdH : H fd = none := fresh_back e2 hfd
  obtain ⟨d0, ds1, hd0⟩ : ∃ d0 ds1, ds = d0 :: ds1 := by
    rw [← hws] at hds
    cases hds with
    | cons r p => exact ⟨_, _, rfl⟩
  have hpo0 : PoD (fr H H2) d0 (T9 f9 w0) := by
    rw [hd0, ← hws] at hds
    cases hds with
    | cons r p => exact r
  obtain ⟨es0, hes0, hd0k, hq0⟩ := hpo0
  have hG3 : Ex (fr H H2) H3 := fr_ex.trans e3
  have hGf : fr H H2 fd = none := fresh_back fr_ex hfd
  refine ⟨d0, _, hG3 _ _ hd0k, trivial, fun od => ?_⟩
  generalize hHl : upd H3 d0 (.frz od (.dK (es0.map fun e => (kN e.1, V.ref e.2.1)))) = Hl
  have hd0f : d0 ≠ fd := own_ne hd0k hGf
  have hlf : Hl fd = some (.dK []) := by rw [← hHl, upd_ne (fun z => hd0f z.symm)]; exact hf3
  have hl0 : Hl d0 = some (.frz od (.dK (es0.map fun e => (kN e.1, V.ref e.2.1)))) := by rw [← hHl]; exact upd_same
  have hlr : Hl rl = some (.lst (ds.map V.ref)) := by
    rw [← hHl, upd_ne]
    · exact hG3 _ _ h2
    · rintro rfl
      rw [hd0k] at h2
      cases h2
  have rdD : ∀ x ∈ ds.zip ws, ∃ es : List (Nat × Addr × List Nat), es.map (fun e => (e.1, e.2.2)) = T9 f9 x.2 ∧ Rd (del Hl fd) x.1 (.dK (es.map fun e => (kN e.1, V.ref e.2.1))) ∧ ∀ e ∈ es, del Hl fd e.2.1 = some (.lst (nats e.2.2)) := fun x hx => by
    obtain ⟨es, q1, q2, q3⟩ := pd_zip hds x hx
    refine ⟨es, q1, ?_, fun e he => ?_⟩
    · have hxf : x.1 ≠ fd := own_ne q2 hGf
      by_cases c : x.1 = d0
      · rw [c, hd0k] at q2
        have q5 := HO.dK.inj (Option.some.inj q2)
        rw [← q5]
        refine .inr ⟨od, ?_⟩
        rw [del_ne hxf, c]
        exact hl0
      · refine .inl ?_
        rw [del_ne hxf, ← hHl, upd_ne c]
        exact hG3 _ _ q2
    · have q4 := q3 e he
      rw [del_ne (own_ne q4 hGf), ← hHl, upd_ne]
      · exact hG3 _ _ q4
      · rintro z
        rw [z, hd0k] at q4
        cases q4
  have hzl : ∀ {H9 : Hp}, Ex (del Hl fd) H9 → H9 rl = some (.lst ((ds.zip ws).map fun x => V.ref x.1)) := fun {H9} e9 => by
    have q := e9 rl (.lst (ds.map V.ref)) (by rw [del_ne (own_ne h2 hGf)]; exact hlr)
    rw [q]
    congr 2
    have e8 : ds.map V.ref = ((ds.zip ws).map Prod.fst).map V.ref := by rw [zip_fst hds]
    rw [e8, List.map_map]
    rfl
  have hzlen : (ds.zip ws).length ≤ 60 := by
    rw [List.length_zip, hds.length]
    omega
  have hn0 : (es0.map (·.1)) = (T9 f9 w0).map (·.1) := by
    rw [← hes0, List.map_map]
    rfl
  have hn0d : (es0.map (·.1)).Nodup := by
    rw [hn0]
    exact hnd w0
  have hes0l : es0.length ≤ 60 := by
    have := hlen w0
    rw [← hes0, List.length_map] at this
    exact this
  have hat0 : atI (ds.map V.ref) 0 = some (.ref d0) := by
    rw [hd0]
    exact atI_nat (j := 0) rfl
  refine ⟨_, rfl, rl, _, 0, .ref d0, rfl, rfl, sq_of hlr, hat0, d0, od, rfl, .inl ⟨_, hl0, for_it (walk_keys (kvs := es0.map fun e => (kN e.1, V.ref e.2.1))) (fun j σ H' => ∃ (y4 y6 y7 : Option V) (C' : Hp) (out : List (Nat × Addr)), σ = [some (.ref sA), some (.str f9), some (.ref a), some (.ref rl), y4, some (.ref fd), y6, y7] ∧ Ex (del Hl fd) H' ∧ H' fd = some (.dK (out.map fun e => (kN e.1, V.ref e.2))) ∧ Ex C' (fr H3 H') ∧ (∀ e ∈ out, RowsAt C' e.2 (pls T9 f9 ws e.1)) ∧ out.map (·.1) = ((es0.map (·.1)).take j).filter (allB T9 f9 ws)) ?_ ?_ ?_ ?_⟩⟩
  · exact ⟨none, none, none, fun _ => none, [], rfl, del_ex, hlf, (fun _ _ z => nomatch z), (fun _ h => absurd h List.not_mem_nil), rfl⟩
  · rintro j σ H' _ ⟨_, _, _, _, _, _, e', _⟩
    exact e' _ _ (by rw [del_ne hd0f]; exact hl0)
  · rintro j x σ H' H'' hj ⟨y4, y6, y7, C', out, rfl, e', hfd', eC', hrows, hout⟩ ⟨rfl, kk, v, hkv, rfl⟩
    obtain ⟨e0, he0, hkv2⟩ : ∃ e0, es0[j]? = some e0 ∧ (kN e0.1, V.ref e0.2.1) = (kk, v) := by
      rw [List.getElem?_map] at hkv
      cases hc : es0[j]? with
      | none =>
        rw [hc] at hkv
        cases hkv
      | some e0 =>
        rw [hc] at hkv
        exact ⟨e0, rfl, Option.some.inj hkv⟩
    cases hkv2
    obtain ⟨n, q0, l0⟩ := e0
    have hnj : (es0.map (·.1))[j]? = some n := by
      rw [List.getElem?_map, he0]
      rfl
    have htk : (es0.map (·.1)).take (j + 1) = (es0.map (·.1)).take j ++ [n] := by
      rw [List.take_succ, hnj, Option.toList_some]
    show tIfS _ _ _ _ [some (.ref sA), some (.str f9), some (.ref a), some (.ref rl), y4, some (.ref fd), some (.int (n : Nat)), y7] H''
    -- the rows' own
    have row : ∀ x ∈ ds.zip ws, ∀ {H9 : Hp}, Ex (del Hl fd) H9 → ∃ o, DGet H9 x.1 (.int (n : Nat)) o ∧ o.isSome = (plN (T9 f9 x.2) n).isSome ∧ ∀ u, o = some u → ∃ q, u = .ref q ∧ H9 q = some (.lst (nats ((plN (T9 f9 x.2) n).getD []))) := fun x hx {H9} e9 => by
      obtain ⟨es, q1, q2, q3⟩ := rdD x hx
      refine ⟨_, .inl ⟨_, kN n, ex_rd e9 q2, rfl, rfl⟩, ?_, fun u hu => ?_⟩
      · rcases es_val es n with ⟨h1, h2⟩ | ⟨e, he, h1, h2, h3⟩
        · rw [h1, ← q1, h2]
          rfl
        · rw [h2, ← q1, h3]
          rfl
      · rcases es_val es n with ⟨h1, h2⟩ | ⟨e, he, h1, h2, h3⟩
        · rw [h1] at hu
          cases hu
        · rw [h2] at hu
          cases hu
          refine ⟨_, rfl, ?_⟩
          rw [← q1, h3]
          exact e9 _ _ (q3 e he)
    have hall : Ev (tCB (rAll K) (tCons (tLc (iList K (tVar 3)) (gName 7) tYes (tDIn (tVar 6) (tVar 7)) [7]) tNil)) [some (.ref sA), some (.str f9), some (.ref a), some (.ref rl), y4, some (.ref fd), some (.int (n : Nat)), y7] H'' (.bl (allB T9 f9 ws n)) := by
      have h3 := el_lcX (ti := iList K (tVar 3)) (g := gName 7) (vs := [7]) (t := tYes) (te := tDIn (tVar 6) (tVar 7)) (es := ds.zip ws) (σ := [some (.ref sA), some (.str f9), some (.ref a), some (.ref rl), y4, some (.ref fd), some (.int (n : Nat)), y7]) (H := H'') (st := fun (x : Addr × Str) σ0 => σ0.set 7 (some (.ref x.1))) (fun _ => true) (fun x => V.bl ((plN (T9 f9 x.2) n).isSome))
        (ex_list (F := fun x : Addr × Str => V.ref x.1) (ev_var rfl) (sq_of (hzl e'))) (by omega) (fun x => rfl) (fun _ _ H3 _ H4 _ Q4 q4 => q4 H4 (Ex.refl _)) (fun x hx H9 e9 _ => ?_)
      · rw [bl_all] at h3
        refine ev_is (ev_all h3) ?_
        unfold allB
        have e8 : ws.all (fun w => (plN (T9 f9 w) n).isSome) = ((ds.zip ws).map Prod.snd).all (fun w => (plN (T9 f9 w) n).isSome) := by rw [zip_snd hds]
        rw [e8, List.all_map, List.all_map]
        rfl
      · obtain ⟨o, g1, g2, _⟩ := row x hx (e'.trans e9)
        rw [← g2]
        exact ev_din (ev_var rfl) (ev_var rfl) g1
    refine s_when (b := allB T9 f9 ws n) (et_B hall) (fun hb H4 e4 => ?_) fun hb H4 e4 => ?_
    · have e'4 := e'.trans e4
      refine s_dputQ (P := fun v H5 => ∃ r, v = .ref r ∧ H4 r = none ∧ Ex H4 H5 ∧ RowsAt (fr H4 H5) r (pls T9 f9 ws n)) (fun Q5 q5 => ?_) fun v H5 ⟨r, hv, hr, e5, hrA⟩ => ?_
      · refine lc_new (K := K) (R := fun G v (x : Addr × Str) => ∃ q, v = V.ref q ∧ G q = some (.lst (nats ((plN (T9 f9 x.2) n).getD [])))) (fun _ => true) (fun ⟨d, h1, h2⟩ e => ⟨d, h1, e _ _ h2⟩) (ex_list (es := ds.zip ws) (F := fun x : Addr × Str => V.ref x.1) (ev_var rfl) (sq_of (hzl e'4))) (by omega) (fun x => rfl) (fun _ _ H1 _ H2 _ Q2 q2 => q2 H2 (Ex.refl _)) (fun x hx H9 e9 _ Q1 q1 => ?_) (Ex.refl _) fun p H6 xs hp e6 h6 hpd => ?_
        · obtain ⟨o, g1, g2, g3⟩ := row x hx (e'4.trans e9)
          have hso : (plN (T9 f9 x.2) n).isSome = true := by
            have hb2 : allB T9 f9 ws n = true := hb
            unfold allB at hb2
            refine List.all_eq_true.mp hb2 x.2 ?_
            have : x.2 ∈ (ds.zip ws).map Prod.snd := List.mem_map.mpr ⟨x, hx, rfl⟩
            rwa [zip_snd hds] at this
          rw [hso] at g2
          obtain ⟨u, hu⟩ := Option.isSome_iff_exists.mp g2
          obtain ⟨q, rfl, hq⟩ := g3 u hu
          rw [hu] at g1
          refine call_cb (P := fun v H10 => v = .ref q ∧ Ex H9 H10) (fun Q4 q4 => (ev_dget (ev_var rfl) (ev_var rfl) g1) H9 (Ex.refl _) _ fun H10 e10 => q4 _ _ ⟨rfl, e10⟩) fun v H10 ⟨hv, e10⟩ => ?_
          subst hv
          refine ⟨q, _, rfl, .inl (sq_of (e10 _ _ hq)), fun l hl => q1 _ _ (e10.trans (Ex.new hl)) ⟨l, rfl, ?_⟩⟩
          rw [fr_at (fresh_back e10 hl)]
          exact upd_same
        · rw [List.filter_eq_self.mpr (fun _ _ => rfl)] at hpd
          obtain ⟨ts, rfl, hts⟩ := rows_back (F := fun x : Addr × Str => (plN (T9 f9 x.2) n).getD []) hpd
          refine q5 _ _ ⟨p, rfl, hp, e6, ts, h6, ?_⟩
          have e8 : pls T9 f9 ws n = (ds.zip ws).map fun x => (plN (T9 f9 x.2) n).getD [] := by
            unfold pls
            have e7 : ws.map (fun w => (plN (T9 f9 w) n).getD []) = ((ds.zip ws).map Prod.snd).map (fun w => (plN (T9 f9 w) n).getD []) := by rw [zip_snd hds]
            rw [e7, List.map_map]
            rfl
          rw [e8]
          exact hts
      · subst hv
        have e45 := e4.trans e5
        have hfd5 := e45 _ _ hfd'
        have hnout : valV (out.map fun e => (kN e.1, V.ref e.2)) (kN n) = none := by
          cases hc : valV (out.map fun e => (kN e.1, V.ref e.2)) (kN n) with
          | none => rfl
          | some u =>
            obtain ⟨e, he, hek⟩ := List.mem_map.mp (valV_some hc)
            have hen : e.1 = n := kN_inj (Prod.mk.inj hek).1
            have : n ∈ out.map (·.1) := List.mem_map.mpr ⟨e, he, hen⟩
            rw [hout] at this
            exact absurd (List.mem_filter.mp this).1 (nodup_take hn0d hnj)
        have hol : out.length ≤ 60 := by
          have q1 := congrArg List.length hout
          have q2 := List.length_filter_le (allB T9 f9 ws) ((es0.map (·.1)).take j)
          rw [List.length_take, List.length_map] at q2
          rw [List.length_map] at q1
          omega
        refine ⟨_, rfl, _, rfl, fd, _, rfl, .inl ⟨_, kN n, hfd5, rfl, sizeLine_lt (by rw [List.length_map]; omega), rfl⟩, ?_⟩
        rw [putK_new _ hnout]
        have h3f : H3 fd ≠ none := ns hf3
        have h5C : fr H3 H5 fd = none := by
          unfold fr
          rw [hf3]
        have hC'f : C' fd = none := fresh_back (eC'.trans (fr_to e45)) h5C
        have eCj : Ex (fr H4 H5) (fr H3 H5) := fun b o hb => by
          have h4b := fr_none hb
          have h3b : H3 b = none := by
            cases hq : H3 b with
            | none => rfl
            | some u =>
              by_cases c : b = d0
              · have := (e'.trans e4) d0 _ (by rw [del_ne hd0f]; exact hl0)
                rw [← c, h4b] at this
                cases this
              · by_cases c2 : b = fd
                · rw [c2, e4 _ _ hfd'] at h4b
                  cases h4b
                · have : H4 b = some u := (e'.trans e4) _ _ (by rw [del_ne c2, ← hHl, upd_ne c]; exact hq)
                  rw [h4b] at this
                  cases this
          rw [fr_at h4b] at hb
          rw [fr_at h3b]
          exact hb
        refine ⟨_, _, _, fr H3 H5, out ++ [(n, r)], rfl, (e'.trans e45).mut del_at, by rw [upd_same, List.map_append]; rfl, ?_, fun e he => ?_, ?_⟩
        · intro b o hb
          have hbf : b ≠ fd := own_ne hb h5C
          unfold fr at hb ⊢
          cases hq : H3 b with
          | none =>
            rw [hq] at hb
            show upd H5 fd _ b = some o
            rw [upd_ne hbf]
            exact hb
          | some u =>
            rw [hq] at hb
            cases hb
        · rcases List.mem_append.mp he with he | he
          · exact (hrows e he).mono (eC'.trans (fr_to e45))
          · rw [List.mem_singleton.mp he]
            exact hrA.mono eCj
        · rw [List.map_append, htk, List.filter_append, hout]
          congr 1
          rw [List.filter_cons, if_pos hb]
          rfl
    · refine ⟨_, _, _, C', out, rfl, e'.trans e4, e4 _ _ hfd', eC'.trans (fr_to e4), hrows, ?_⟩
      rw [htk, List.filter_append, List.filter_cons, if_neg (by rw [hb]; decide), hout]
      simp
  · rintro σ H' ⟨y4, y6, y7, C', out, rfl, e', hfd', eC', hrows, hout⟩
    have hd0' : H' d0 = some (.frz od (.dK (es0.map fun e => (kN e.1, V.ref e.2.1)))) := e' _ _ (by rw [del_ne hd0f]; exact hl0)
    refine ⟨hd0', ?_⟩
    rw [List.length_map, ← List.length_map (f := fun e : Nat × Addr × List Nat => e.1), List.take_length, hn0] at hout
    have hH3d : H3 d0 ≠ none := ns (hG3 _ _ hd0k)
    have eH : Ex H (upd H' d0 (.dK (es0.map fun e => (kN e.1, V.ref e.2.1)))) := fun b o hb => by
      have h3b := e23 _ _ hb
      have hbf : b ≠ fd := own_ne hb hfdH
      by_cases c : b = d0
      · rw [c, hG3 _ _ hd0k] at h3b
        rw [c, upd_same]
        exact h3b
      · rw [upd_ne c]
        exact e' _ _ (by rw [del_ne hbf, ← hHl, upd_ne c]; exact h3b)
    have hCn : Ex C' (fr H (upd H' d0 (.dK (es0.map fun e => (kN e.1, V.ref e.2.1))))) := fun b o hb => by
      have q := eC' _ _ hb
      have h3b := fr_none q
      rw [fr_at h3b] at q
      rw [fr_at (fresh_back e23 h3b), upd_ne (fun z => hH3d (by rw [← z]; exact h3b))]
      exact q
    refine s_ret (ev_var rfl) fun H5 e5 => k fd H5 out hfdH (eH.trans e5) ⟨?_, fun e he => (hrows e he).mono (hCn.trans (fr_to e5))⟩ hout
    rw [fr_at hfdH]
    refine e5 _ _ ?_
    rw [upd_ne (fun z => hd0f z.symm)]
    exact hfd'
end Fc
/-! Documents of a leaf in a field. -/
namespace Fc
open PySem PySem.Spec PyProof.Rows L2 Evl
def placedP : Lf → List (List Nat) → Prop
  | .word _ _, _ => False
  | .like _ _, _ => False
  | .row _ _, rows => (rowFrom rows).isSome = true
  | .near _ n ws, rows => NearP ws rows n
  | .chain _ n _, rows => (rows.headD []).any (chainB rows n) = true
/-- a leaf in a field's words -/
def leafP (lf : Lf) (ws : List Str) : Prop := match lf with
  | .word _ w => w ∈ ws
  | .like _ p => ∃ w ∈ ws, fitB p.cps.toList w.cps.toList = true
  | lf => placedP lf (lf.names.map (posOf ws))
def isP : Lf → Bool
  | .word _ _ => false
  | .like _ _ => false
  | _ => true
noncomputable def pB (p : Prop) : Bool := @decide p (Classical.propDecidable p)
theorem pB_true {p : Prop} : pB p = true ↔ p := by
  unfold pB
  exact @decide_eq_true_iff p (Classical.propDecidable p)
theorem pB_yes {p : Prop} (h : p) : pB p = true := pB_true.mpr h
theorem pB_no {p : Prop} (h : ¬ p) : pB p = false := by
  cases hc : pB p with
  | false => rfl
  | true => exact absurd (pB_true.mp hc) h
theorem pB_eq {p : Prop} {b : Bool} (h : b = true ↔ p) : pB p = b := by
  cases b with
  | true => exact pB_yes (h.mp rfl)
  | false => exact pB_no fun z => by cases h.mpr z
theorem LfAt.nm {H : Hp} {a : Addr} {lf : Lf} (h : LfAt H a lf) (hp : isP lf = true) : NamesOk lf.names := by
  cases lf with
  | word f w => cases hp
  | like f p => cases hp
  | row f ws => exact h.1
  | near f n ws => exact h.1
  | chain f n ws => exact h.1
theorem rows_sm {d : List Str} (hd : d.length ≤ 60) {ns : List Str} (hn : ns.length ≤ 60) : RowsSm (ns.map (posOf d)) := by
  refine ⟨by rw [List.length_map]; exact hn, fun r hr => ?_⟩
  obtain ⟨w, _, rfl⟩ := List.mem_map.mp hr
  have := pos_len d w
  exact ⟨by omega, fun k hk => by have := pos_lt hk; omega⟩
theorem pos_apart {d : List Str} {w w2 : Str} {k : Nat} (h : k ∈ posOf d w) (h2 : k ∈ posOf d w2) : w = w2 := by
  have a := pos_mem.mp h
  have b := pos_mem.mp h2
  rw [a] at b
  exact Option.some.inj b
def sp_placed : Sp := fun vs H Q _ => ∃ (q a : Addr) (lf : Lf) (d : List Str), vs = [.ref q, .ref a] ∧ LfAt H q lf ∧ isP lf = true ∧ d.length ≤ 60 ∧ RowsAt H a (lf.names.map (posOf d)) ∧ RetV (.bl (pB (placedP lf (lf.names.map (posOf d))))) H Q
theorem sc_placed : FnScope ["question", "places"] ["question", "places"] (defScope s_placed) := ⟨rfl, rfl, rfl, by decide +kernel, rfl, by decide +kernel, by decide +kernel⟩
theorem ok_placed {P : Program} {w : World} {K : PySem.W.Frag} {mg : Str → Option Value} {base : Heap} (G : Gd K mg "placed" s_placed) (T : Tx K mg) (O_row_from : OkF P w K mg base 1 "row_from" ["places"] sp_row_from) (O_near_places : OkF P w K mg base 3 "near_places" ["words", "places", "width"] sp_near_places) (O_chain_places : OkF P w K mg base 2 "chain_places" ["places", "width"] sp_chain_places) : OkF P w K mg base 4 "placed" ["question", "places"] sp_placed := by
  refine G.ok (k := 3) sc_placed (fun _ _ _ _ _ _ us hl => match us, hl with | [_, _], _ => rfl) (fun vs H Q E h => ?_) (fun f cdv A outer s H vs Q E hr h => ?_)
  · unfold sp_placed at h
    repeat (first | (obtain ⟨rfl, h⟩ := h; rfl) | (obtain ⟨_, h⟩ := h))
  have hu := hu_of hr
  refine ⟨_, (pss_cons (ps_if (pt_cmpR op_eq (pe_ix (ixtK K) (pv 0) pe_int (fun _ _ => rfl)) pe_str (nomark _)) (pss_one (ps_ret (pe_cmpR op_notN (pe_fn O_row_from (hr.mono (by decide)) (pa_cons (pv 1) pa_nil)) pe_non (nomark _)))) pss_nil)
      (pss_cons (ps_if (pt_cmpR op_eq (pe_ix (ixtK K) (pv 0) pe_int (fun _ _ => rfl)) pe_str (nomark _)) (pss_one (ps_ret (pe_cmpR op_notN (pe_fn O_near_places (hr.mono (by decide)) (pa_cons (pe_ix (ixtK K) (pv 0) pe_int (fun _ _ => rfl)) (pa_cons (pv 1) (pa_cons (pe_ix (ixtK K) (pv 0) pe_int (fun _ _ => rfl)) pa_nil)))) pe_non (nomark _)))) pss_nil)
      (pss_one (ps_ret (pe_cmpR op_notN (pe_fn O_chain_places (hr.mono (by decide)) (pa_cons (pv 1) (pa_cons (pe_ix (ixtK K) (pv 0) pe_int (fun _ _ => rfl)) pa_nil))) pe_non (nomark _)))))), ?_⟩
  obtain ⟨q, a, lf, d, rfl, hq, hP, hd, hr, k⟩ := h
  have hnm := hq.nm hP
  obtain ⟨hne, hnl, _⟩ := id hnm
  have hsm := rows_sm hd hnl
  have hrne : lf.names.map (posOf d) ≠ [] := fun z => hne (List.map_eq_nil_iff.mp z)
  have kind : ∀ {H1 : Hp} {x y : Str} {xs : List V}, H1 q = some (.tup (.str x :: xs)) → Ev (tOp rEq (tOp (rIxT K) (tVar 0) (tC (.int 0))) (tC (.str y))) (start ["question", "places"] [.ref q, .ref a]) H1 (.bl (decide (x = y))) := fun {H1 x y xs} hx =>
    ev_is (ev_op (ev_op (ev_var rfl) ev_c (rv_ixT (st_of hx) (v := .str x) (i := 0) (atI_nat (j := 0) rfl))) ev_c (rv_eq rfl)) (by simp)
  cases lf with
  | word f w => cases hP
  | like f p => cases hP
  | row f ns =>
    obtain ⟨hn, l, h1, h2⟩ := hq
    refine q_when (b := true) (et_test (kind h1)) (fun _ H1 e1 => ?_) (fun z => nomatch z)
    refine s_ret (ev_is (ev_op (ev_call (ea_cons (ev_var rfl) ea_nil) fun H2 e2 Q2 q2 E2 => ⟨a, _, rfl, hr.mono (e1.trans e2), hrne, hsm.ok, q2⟩) ev_c rv_notN) ?_) fun H2 e2 => k H2 (e1.trans e2)
    congr 1
    refine (pB_eq ?_).symm
    show (!decide (optI (rowFrom (ns.map (posOf d))) = V.non)) = true ↔ (rowFrom (ns.map (posOf d))).isSome = true
    cases rowFrom (ns.map (posOf d)) with
    | none => simp [optI]
    | some x => simp [optI]
  | near f n ns =>
    obtain ⟨hn, l, h1, h2⟩ := hq
    refine q_when (b := false) (et_is (et_test (kind h1)) (by decide)) (fun z => nomatch z) fun _ H1 e1 => ?_
    refine q_when (b := true) (et_test (kind (e1 _ _ h1))) (fun _ H2 e2 => ?_) (fun z => nomatch z)
    have e12 := e1.trans e2
    have ix3 := fun (H3 : Hp) (e3 : Ex H2 H3) => (rv_ixT (K := K) (st_of ((e12.trans e3) _ _ h1)) (v := .ref l) (i := 3) (atI_nat (j := 3) rfl))
    refine s_retQ (C := fun v H3 => v = .bl (pB (NearP ns (ns.map (posOf d)) n)) ∧ Ex H2 H3) (fun Q3 q3 => ?_) fun v H3 ⟨hv, e3⟩ => by
      subst hv
      exact k H3 (e12.trans e3)
    refine op_q (P := fun v H3 => Ex H2 H3 ∧ ((NearP ns (ns.map (posOf d)) n ∧ ∃ p, v = .ref p) ∨ (¬ NearP ns (ns.map (posOf d)) n ∧ v = .non))) (fun Q4 q4 => ?_) fun v H3 ⟨e3, hv⟩ => ?_
    · refine (ea_cons (σ := start ["question", "places"] [.ref q, .ref a]) (ev_op (ev_var rfl) ev_c (ix3 H2 (Ex.refl _))) (ea_cons (ev_var rfl) (ea_cons (ev_op (ev_var rfl) ev_c (rv_ixT (K := K) (st_of (e12 _ _ h1)) (v := .int (n : Nat)) (i := 2) (atI_nat (j := 2) rfl))) ea_nil))) H2 (Ex.refl _) _ fun H3 e3 => ?_
      exact ⟨l, a, ns, ns.map (posOf d), n, posOf d, rfl, (e12.trans e3) _ _ h2, hr.mono (e12.trans e3), ⟨rfl, pos_nd d, fun w w2 k => pos_apart⟩, hsm, fun hN p H4 e4 => q4 _ _ ⟨e3.trans e4, .inl ⟨hN, p, rfl⟩⟩, fun hN H4 e4 => q4 _ _ ⟨e3.trans e4, .inr ⟨hN, rfl⟩⟩⟩
    · rcases hv with ⟨hN, p, rfl⟩ | ⟨hN, rfl⟩
      · refine ⟨rfl, ?_⟩
        rw [pB_yes hN] at q3
        exact q3 _ _ ⟨rfl, e3⟩
      · refine ⟨rfl, ?_⟩
        rw [pB_no hN] at q3
        exact q3 _ _ ⟨rfl, e3⟩
  | chain f n ns =>
    obtain ⟨hn, l, h1, h2⟩ := hq
    refine q_when (b := false) (et_is (et_test (kind h1)) (by decide)) (fun z => nomatch z) fun _ H1 e1 => ?_
    refine q_when (b := false) (et_is (et_test (kind (e1 _ _ h1))) (by decide)) (fun z => nomatch z) fun _ H2 e2 => ?_
    have e12 := e1.trans e2
    refine s_retQ (C := fun v H3 => v = .bl (pB (((ns.map (posOf d)).headD []).any (chainB (ns.map (posOf d)) n) = true)) ∧ Ex H2 H3) (fun Q3 q3 => ?_) fun v H3 ⟨hv, e3⟩ => by
      subst hv
      exact k H3 (e12.trans e3)
    refine op_q (P := fun v H3 => Ex H2 H3 ∧ ((((ns.map (posOf d)).headD []).any (chainB (ns.map (posOf d)) n) = true ∧ ∃ p, v = .ref p) ∨ (((ns.map (posOf d)).headD []).any (chainB (ns.map (posOf d)) n) = false ∧ v = .non))) (fun Q4 q4 => ?_) fun v H3 ⟨e3, hv⟩ => ?_
    · refine (ea_cons (σ := start ["question", "places"] [.ref q, .ref a]) (ev_var rfl) (ea_cons (ev_op (ev_var rfl) ev_c (rv_ixT (K := K) (st_of (e12 _ _ h1)) (v := .int (n : Nat)) (i := 2) (atI_nat (j := 2) rfl))) ea_nil)) H2 (Ex.refl _) _ fun H3 e3 => ?_
      exact ⟨a, ns.map (posOf d), n, rfl, hr.mono (e12.trans e3), hsm.ok, hrne, fun hN p H4 e4 => q4 _ _ ⟨e3.trans e4, .inl ⟨hN, p, rfl⟩⟩, fun hN H4 e4 => q4 _ _ ⟨e3.trans e4, .inr ⟨hN, rfl⟩⟩⟩
    · rcases hv with ⟨hN, p, rfl⟩ | ⟨hN, rfl⟩
      · refine ⟨rfl, ?_⟩
        rw [pB_yes hN] at q3
        exact q3 _ _ ⟨rfl, e3⟩
      · refine ⟨rfl, ?_⟩
        rw [pB_no (by rw [hN]; decide)] at q3
        exact q3 _ _ ⟨rfl, e3⟩
end Fc
/-! Documents found. -/
namespace Fc
open PySem PySem.Spec PyProof.Rows L2 Evl
/-- what is where a row, nearness or chain is -/
theorem leaf_all {lf : Lf} {d : List Str} (hP : isP lf = true) (hn : lf.names ≠ []) (h : placedP lf (lf.names.map (posOf d))) : ∀ w ∈ lf.names, w ∈ d := by
  have key : ∀ {ns : List Str} {k : Nat} {w : Str}, ns[k]? = some w → ((ns.map (posOf d)).getD k []) = posOf d w := fun {ns k w} hk => by
    rw [List.getD_eq_getElem?_getD, List.getElem?_map, hk]
    rfl
  have mem : ∀ {w : Str}, posOf d w ≠ [] → w ∈ d := fun {w} hne => Decidable.byContradiction fun z => hne (pos_nil.mpr z)
  cases lf with
  | word f w => cases hP
  | like f p => cases hP
  | row f ns =>
    have h1 : (rowFrom (ns.map (posOf d))).isSome = true := h
    obtain ⟨pl, hpl⟩ := Option.isSome_iff_exists.mp h1
    have h2 := List.find?_some hpl
    intro w hw
    obtain ⟨k, hk⟩ := List.getElem?_of_mem hw
    have hk : ns[k]? = some w := hk
    have hkl := (List.getElem?_eq_some_iff.mp hk).1
    unfold rowB at h2
    have h3 := List.all_eq_true.mp h2 k (List.mem_range.mpr (by rw [List.length_map]; exact hkl))
    have h4 := of_decide_eq_true h3
    rw [key hk] at h4
    exact mem fun z => by rw [z] at h4; exact absurd h4 List.not_mem_nil
  | near f n ns =>
    obtain ⟨pl, _, hth⟩ := h
    intro w hw
    obtain ⟨k, hk⟩ := List.getElem?_of_mem hw
    have hk : ns[k]? = some w := hk
    have hkl := (List.getElem?_eq_some_iff.mp hk).1
    unfold thinF at hth
    have h3 := List.find?_eq_none.mp hth k (List.mem_range.mpr hkl)
    unfold thinB at h3
    rw [show (Lf.near f n ns).names = ns from rfl, key hk, List.getD_eq_getElem?_getD, hk] at h3
    have h4 : ns.count w ≤ ((posOf d w).filter (inW pl n)).length := by simpa using h3
    have h5 : 0 < ns.count w := List.count_pos_iff.mpr hw
    refine mem fun z => ?_
    rw [z] at h4
    simp at h4
    omega
  | chain f n ns =>
    have h1 : ((ns.map (posOf d)).headD []).any (chainB (ns.map (posOf d)) n) = true := h
    obtain ⟨pl, hpl, hc⟩ := List.any_eq_true.mp h1
    obtain ⟨w0, ws, rfl⟩ : ∃ w0 ws, ns = w0 :: ws := by
      cases ns with
      | nil => exact absurd rfl hn
      | cons a b => exact ⟨a, b, rfl⟩
    unfold chainB at hc
    have h2 := of_decide_eq_true hc
    have h3 : (chainR (pl + n) (ws.map (posOf d)) pl).length = (ws.map (posOf d)).length := by
      rw [List.length_cons] at h2
      have h4 : ((w0 :: ws).map (posOf d)).length = (ws.map (posOf d)).length + 1 := by simp
      rw [h4] at h2
      have h5 : ((w0 :: ws).map (posOf d)).tail = ws.map (posOf d) := rfl
      rw [h5] at h2
      omega
    have all : ∀ {ws : List Str} {last : Nat}, (chainR (pl + n) (ws.map (posOf d)) last).length = (ws.map (posOf d)).length → ∀ w ∈ ws, w ∈ d := by
      intro ws
      induction ws with
      | nil => exact fun _ w hw => absurd hw List.not_mem_nil
      | cons v r ih =>
        intro last h w hw
        have hun : chainR (pl + n) ((v :: r).map (posOf d)) last = match (posOf d v).filter (fun o => decide (last < o) && decide (o < pl + n)) with
          | [] => []
          | k :: _ => k :: chainR (pl + n) (r.map (posOf d)) k := rfl
        rw [hun] at h
        cases hf : (posOf d v).filter (fun o => decide (last < o) && decide (o < pl + n)) with
        | nil =>
          rw [hf] at h
          cases h
        | cons k ks =>
          rw [hf] at h
          rcases List.mem_cons.mp hw with z | z
          · rw [z]
            refine mem fun z2 => ?_
            rw [z2] at hf
            cases hf
          · have h6 : (chainR (pl + n) (r.map (posOf d)) k).length + 1 = (r.map (posOf d)).length + 1 := h
            exact ih (last := k) (by omega) w z
    intro w hw
    rcases List.mem_cons.mp hw with z | z
    · rw [z]
      refine mem fun z2 => ?_
      have : (((w0 :: ws).map (posOf d)).headD []) = posOf d w0 := rfl
      rw [this, z2] at hpl
      exact absurd hpl List.not_mem_nil
    · exact all h3 w z
def sp_found_in (K : PySem.W.Frag) : Sp := fun vs H Q _ => ∃ (L : List Str) (C : Hp) (s q : Addr) (dd : Nat → Option Wd) (T : Tab) (nums : List Nat) (f : Str) (lf : Lf), vs = [.ref s, .str f, .ref q] ∧ SdAt K L C s dd T nums ∧ Ex C H ∧ LfAt H q lf ∧
  ∀ p H2 (ns : List Nat), H p = none → Ex H H2 → H2 p = some (.lst (nats ns)) → ns.length ≤ 60 → (∀ n, n ∈ ns ↔ ∃ D, dd n = some D ∧ leafP lf (D f)) → Q (.ref p) H2
theorem any_mem {T : Tab} {dd : Nat → Option Wd} (h : SdOf T dd) {f : Str} {ws : List Str} {n : Nat} : n ∈ upto 60 (fun n => decide (n ∈ anyN T f ws)) ↔ ∃ D, dd n = some D ∧ ∃ w ∈ ws, w ∈ D f := by
  rw [upto_mem, decide_eq_true_iff]
  unfold anyN
  rw [List.mem_flatMap]
  constructor
  · rintro ⟨_, w, hw, hn⟩
    obtain ⟨⟨m, ps⟩, hm, rfl⟩ := List.mem_map.mp hn
    obtain ⟨D, h1, h2, _⟩ := (h.mem f w m ps).mp hm
    exact ⟨D, h1, w, hw, h2⟩
  · rintro ⟨D, h1, w, hw, h2⟩
    exact ⟨(h.lt n D h1).1, w, hw, List.mem_map.mpr ⟨(n, posOf (D f) w), (h.mem f w n _).mpr ⟨D, h1, h2, rfl⟩, rfl⟩⟩
theorem plN_of {T : Tab} {dd : Nat → Option Wd} (h : SdOf T dd) {f w : Str} {n : Nat} {l : List Nat} : plN (T f w) n = some l ↔ ∃ D, dd n = some D ∧ w ∈ D f ∧ l = posOf (D f) w := by
  rw [plN_mem (h.nd f w), h.mem f w n l]
theorem sc_found_in : FnScope ["stand", "field", "question", "words", "document", "places"] ["stand", "field", "question"] (defScope s_found_in) := ⟨rfl, rfl, rfl, by decide +kernel, rfl, by decide +kernel, by decide +kernel⟩
theorem ok_found_in {P : Program} {w : World} {K : PySem.W.Frag} {mg : Str → Option Value} {base : Heap} (G : Gd K mg "found_in" s_found_in) (T : Tx K mg) (O_words_named : OkF P w K mg base 5 "words_named" ["stand", "field", "question"] (sp_words_named K)) (O_any_of : OkF P w K mg base 3 "any_of" ["stand", "field", "words"] (sp_any_of K)) (O_rows_of : OkF P w K mg base 3 "rows_of" ["stand", "field", "words"] (sp_rows_of K)) (O_placed : OkF P w K mg base 4 "placed" ["question", "places"] sp_placed) : OkF P w K mg base 6 "found_in" ["stand", "field", "question"] (sp_found_in K) := by
  refine G.ok (k := 5) sc_found_in (fun _ _ _ _ _ _ us hl => match us, hl with | [_, _, _], _ => rfl) (fun vs H Q E h => ?_) (fun f cdv A outer s H vs Q E hr h => ?_)
  · unfold sp_found_in at h
    repeat (first | (obtain ⟨rfl, h⟩ := h; rfl) | (obtain ⟨_, h⟩ := h))
  have hu := hu_of hr
  refine ⟨_, (pss_cons (psv 3 sc_found_in.nd (pe_fn O_words_named (hr.mono (by decide)) (pa_cons (pv 0) (pa_cons (pv 1) (pa_cons (pv 2) pa_nil)))))
      (pss_cons (ps_if (PW.pt (pw_or (pt_cmpR op_eq (pe_ix (ixtK K) (pv 2) pe_int (fun _ _ => rfl)) pe_str (nomark _)) (pw_or1 (pt_cmpR op_eq (pe_ix (ixtK K) (pv 2) pe_int (fun _ _ => rfl)) pe_str (nomark _))))) (pss_one (ps_ret (pe_fn O_any_of (hr.mono (by decide)) (pa_cons (pv 0) (pa_cons (pv 1) (pa_cons (pv 3) pa_nil)))))) pss_nil)
      (pss_one (ps_ret (pe_lc (own := [("document", 4), ("places", 5)]) (g := gTup K 2 (gCons (gName 4) (gCons (gName 5) (gNil)))) rfl sc_found_in.nd (pi_items (pe_frz (pe_fn O_rows_of (hr.mono (by decide)) (pa_cons (pv 0) (pa_cons (pv 1) (pa_cons (pv 3) pa_nil)))))) (blkOk_by (own := [("document", 4), ("places", 5)]) (N := ["stand", "field", "question", "words", "document", "places"]) (sc := defScope s_found_in) (by decide +kernel)) (fun _ _ _ _ _ => (pg_tup rfl (pgs_cons (pgv 4 sc_found_in.nd) (pgs_cons (pgv 5 sc_found_in.nd) pgs_nil)))) (fun _ _ _ _ _ => (pts_one (pt_val (pe_fn O_placed (hr.mono (by decide)) (pa_cons (pv 2) (pa_cons (pv 5) pa_nil)))))) (fun _ _ _ _ _ => (pv 4))))))), ?_⟩
  obtain ⟨L, C, sA, q, dd, T9, nums, f9, lf, rfl, hS, eC, hq, k⟩ := h
  refine q_asgQ (C := fun v H2 => ∃ (a : Addr) (ks : List Str), v = .ref a ∧ H a = none ∧ Ex H H2 ∧ H2 a = some (.lst (ks.map V.str)) ∧ WNamed lf T9 f9 ks) (fun Q2 q2 => ⟨_, rfl, _, rfl, _, rfl, L, C, sA, q, dd, T9, nums, f9, lf, rfl, hS, eC, hq, fun a H2 ks ha e2 h2 hw => q2 _ _ ⟨a, ks, rfl, ha, e2, h2, hw⟩⟩) fun v H2 ⟨a, ks, hv, ha, e2, h2, hwn⟩ => ?_
  subst hv
  have kind : ∀ {H1 : Hp} {x y : Str} {xs : List V}, H1 q = some (.tup (.str x :: xs)) → Ev (tOp rEq (tOp (rIxT K) (tVar 2) (tC (.int 0))) (tC (.str y))) [some (.ref sA), some (.str f9), some (.ref q), some (.ref a), none, none] H1 (.bl (decide (x = y))) := fun {H1 x y xs} hx =>
    ev_is (ev_op (ev_op (ev_var rfl) ev_c (rv_ixT (st_of hx) (v := .str x) (i := 0) (atI_nat (j := 0) rfl))) ev_c (rv_eq rfl)) (by simp)
  have q2A := hq.mono e2
  have some' : ∀ (H3 : Hp), Ex H2 H3 → ks.length ≤ 60 → (∀ n, (∃ D, dd n = some D ∧ ∃ w ∈ ks, w ∈ D f9) ↔ ∃ D, dd n = some D ∧ leafP lf (D f9)) →
      tRet (tCall (sp_any_of K) [] E0 (tCons (tVar 0) (tCons (tVar 1) (tCons (tVar 3) tNil)))) { nx := fun _ H' => Q .non H', rt := Q } [some (.ref sA), some (.str f9), some (.ref q), some (.ref a), none, none] H3 := fun H3 e3 hl hiff =>
    s_retL (el_call (ea_cons (ev_var rfl) (ea_cons (ev_var rfl) (ea_cons (ev_var rfl) ea_nil))) fun H4 e4 Q4 q4 E4 => ⟨L, C, sA, a, dd, T9, nums, f9, ks, rfl, hS, eC.trans ((e2.trans e3).trans e4), (e3.trans e4) _ _ h2, hl, q4⟩) fun p H5 hp e5 h5 => k p H5 _ (fresh_back (e2.trans e3) hp) ((e2.trans e3).trans e5) h5 (upto_len _ _) fun n => (any_mem hS.of_).trans (hiff n)
  by_cases hP : isP lf = true
  · have hnm := hq.nm hP
    have hks : ks = lf.names := by
      cases lf with
      | word f w => cases hP
      | like f p => cases hP
      | row f ns => exact hwn
      | near f n ns => exact hwn
      | chain f n ns => exact hwn
    subst hks
    obtain ⟨hne, hnl, _⟩ := id hnm
    have hkind : ∃ x xs, H q = some (.tup (.str x :: xs)) ∧ x ≠ "word" ∧ x ≠ "like" := by
      cases lf with
      | word f w => cases hP
      | like f p => cases hP
      | row f ns =>
        obtain ⟨_, l, h3, _⟩ := hq
        exact ⟨_, _, h3, by decide, by decide⟩
      | near f n ns =>
        obtain ⟨_, l, h3, _⟩ := hq
        exact ⟨_, _, h3, by decide, by decide⟩
      | chain f n ns =>
        obtain ⟨_, l, h3, _⟩ := hq
        exact ⟨_, _, h3, by decide, by decide⟩
    obtain ⟨x, xs, hx, hx1, hx2⟩ := hkind
    refine q_when (b := false) (et_is (et_or (et_test (kind (e2 _ _ hx))) fun _ => et_test (kind (e2 _ _ hx))) ?_) (fun z => nomatch z) fun _ H3 e3 => ?_
    · rw [decide_eq_false hx1, decide_eq_false hx2]
      rfl
    · have e23 := e2.trans e3
      obtain ⟨w0, ws, hns⟩ : ∃ w0 ws, lf.names = w0 :: ws := by
        cases hc : lf.names with
        | nil => exact absurd hc hne
        | cons a b => exact ⟨a, b, rfl⟩
      refine s_retQ (C := fun v H4 => ∃ p ns, v = .ref p ∧ H3 p = none ∧ Ex H3 H4 ∧ H4 p = some (.lst (nats ns)) ∧ ns.length ≤ 60 ∧ ∀ n, n ∈ ns ↔ ∃ D, dd n = some D ∧ leafP lf (D f9)) (fun Q4 q4 => ?_) fun v H4 ⟨p, ns, hv, hp, e4, h4, hl, hm⟩ => by
        subst hv
        exact k p H4 ns (fresh_back e23 hp) (e23.trans e4) h4 hl hm
      refine ⟨_, rfl, _, rfl, _, rfl, L, C, sA, a, dd, T9, nums, f9, w0, ws, rfl, hS, eC.trans e23, by rw [← hns]; exact e3 _ _ h2, by rw [← hns]; exact hnl, fun fd H4 es hfd e4 hF hes => ?_⟩
      rw [← hns] at hF hes
      obtain ⟨hF1, hF2⟩ := id hF
      refine ⟨fd, _, rfl, fr_ex _ _ hF1, trivial, fun od => ?_⟩
      have e34 : Ex H3 (upd H4 fd (.frz od (.dK (es.map fun e => (kN e.1, V.ref e.2))))) := e4.mut hfd
      refine ⟨fd, od, _, rfl, upd_same, ?_⟩
      have hes60 : es.length ≤ 60 := by
        have a1 := congrArg List.length hes
        have a2 := List.length_filter_le (allB T9 f9 lf.names) ((T9 f9 w0).map (·.1))
        have a3 := hS.of_.len f9 w0
        rw [List.length_map] at a1 a2
        omega
      have hrow : ∀ e ∈ es, RowsAt (upd H4 fd (.frz od (.dK (es.map fun e => (kN e.1, V.ref e.2))))) e.2 (pls T9 f9 lf.names e.1) := fun e he => by
        obtain ⟨ts, g1, g2⟩ := hF2 e he
        have keep : ∀ {b : Addr} {xs : List V}, fr H3 H4 b = some (.lst xs) → upd H4 fd (.frz od (.dK (es.map fun e => (kN e.1, V.ref e.2)))) b = some (.lst xs) := fun {b xs} hb => by
          rw [upd_ne]
          · exact fr_ex _ _ hb
          · rintro rfl
            rw [hF1] at hb
            cases hb
        exact ⟨ts, keep g1, Paired.mapP g2 fun _ _ q => keep q⟩
      -- the document behind a number found
      have hdoc : ∀ e ∈ es, ∃ D, dd e.1 = some D ∧ pls T9 f9 lf.names e.1 = lf.names.map (posOf (D f9)) ∧ (D f9).length ≤ 60 := fun e he => by
        have h9 : e.1 ∈ es.map (·.1) := List.mem_map.mpr ⟨e, he, rfl⟩
        rw [hes] at h9
        have hb := (List.mem_filter.mp h9).2
        unfold allB at hb
        have hb2 := List.all_eq_true.mp hb
        obtain ⟨l0, hl0⟩ := Option.isSome_iff_exists.mp (hb2 w0 (by rw [hns]; exact List.mem_cons_self))
        obtain ⟨D, hD, _⟩ := (plN_of hS.of_).mp hl0
        refine ⟨D, hD, ?_, (hS.of_.lt _ D hD).2 f9⟩
        unfold pls
        refine List.map_congr_left fun w hw => ?_
        obtain ⟨l, hl⟩ := Option.isSome_iff_exists.mp (hb2 w hw)
        obtain ⟨D2, hD2, _, rfl⟩ := (plN_of hS.of_).mp hl
        rw [hD] at hD2
        cases hD2
        rw [hl]
        rfl
      have hl := el_lcX (ti := iItems (tC (.ref fd))) (g := gTup K 2 (gCons (gName 4) (gCons (gName 5) gNil))) (vs := [4, 5]) (t := tB (tCall sp_placed [] E0 (tCons (tVar 2) (tCons (tVar 5) tNil)))) (te := tVar 4) (es := es) (σ := [some (.ref sA), some (.str f9), some (.ref q), some (.ref a), none, none]) (H := upd H4 fd (.frz od (.dK (es.map fun e => (kN e.1, V.ref e.2))))) (st := fun (e : Nat × Addr) σ0 => (σ0.set 4 (some (kV (kN e.1)))).set 5 (some (.ref e.2))) (fun e => pB (placedP lf (pls T9 f9 lf.names e.1))) (fun e => V.int (e.1 : Nat))
        (ex_items (A := fun e : Nat × Addr => kN e.1) (B := fun e : Nat × Addr => .ref e.2) ev_c upd_same rfl) (by omega) (fun x => rfl) (fun e he H5 e5 => ?_) (fun e he H5 e5 _ => ev_var rfl)
      · have e9 : ((es.filter fun e => pB (placedP lf (pls T9 f9 lf.names e.1))).map fun e => V.int (e.1 : Nat)) = nats ((es.filter fun e => pB (placedP lf (pls T9 f9 lf.names e.1))).map (·.1)) := by
          show _ = List.map _ (List.map _ _)
          rw [List.map_map]
          rfl
        rw [e9] at hl
        suffices hQ : ∀ r H5, upd H4 fd (.frz od (.dK (es.map fun e => (kN e.1, V.ref e.2)))) r = none → Ex (upd H4 fd (.frz od (.dK (es.map fun e => (kN e.1, V.ref e.2))))) H5 → H5 r = some (.lst (nats ((es.filter fun e => pB (placedP lf (pls T9 f9 lf.names e.1))).map (·.1)))) → Q4 (.ref r) H5 by
          obtain ⟨a2, oa, kvs2, ha2, hk2, hb⟩ := hl _ (Ex.refl _) Q4 hQ
          cases ha2
          rw [upd_same] at hk2
          cases hk2
          exact hb
        intro r H5 hr e5 h5
        refine q4 _ _ ⟨r, _, rfl, fresh_back e34 hr, e34.trans e5, h5, ?_, fun n => ?_⟩
        · rw [List.length_map]
          have := List.length_filter_le (fun e : Nat × Addr => pB (placedP lf (pls T9 f9 lf.names e.1))) es
          omega
        · rw [List.mem_map]
          have lfP : ∀ D : Wd, leafP lf (D f9) ↔ placedP lf (lf.names.map (posOf (D f9))) := fun D => by
            cases lf with
            | word f w => cases hP
            | like f p => cases hP
            | row f ns => exact Iff.rfl
            | near f n ns => exact Iff.rfl
            | chain f n ns => exact Iff.rfl
          constructor
          · rintro ⟨e, he, rfl⟩
            obtain ⟨he1, he2⟩ := List.mem_filter.mp he
            obtain ⟨D, hD, hp2, _⟩ := hdoc e he1
            rw [hp2] at he2
            exact ⟨D, hD, (lfP D).mpr (pB_true.mp he2)⟩
          · rintro ⟨D, hD, hlf⟩
            have hpl := (lfP D).mp hlf
            have hall := leaf_all hP hne hpl
            have h9 : n ∈ es.map (·.1) := by
              rw [hes]
              refine List.mem_filter.mpr ⟨?_, ?_⟩
              · have hw0 : w0 ∈ D f9 := hall w0 (by rw [hns]; exact List.mem_cons_self)
                exact List.mem_map.mpr ⟨(n, posOf (D f9) w0), (hS.of_.mem f9 w0 n _).mpr ⟨D, hD, hw0, rfl⟩, rfl⟩
              · unfold allB
                refine List.all_eq_true.mpr fun w hw => ?_
                rw [(plN_of hS.of_).mpr ⟨D, hD, hall w hw, rfl⟩]
                rfl
            obtain ⟨e, he, rfl⟩ := List.mem_map.mp h9
            obtain ⟨D2, hD2, hp2, _⟩ := hdoc e he
            rw [hD] at hD2
            cases hD2
            refine ⟨e, List.mem_filter.mpr ⟨he, ?_⟩, rfl⟩
            rw [hp2]
            exact pB_yes hpl
      · obtain ⟨D, hD, hp2, hD60⟩ := hdoc e he
        refine et_B (ev_call (ea_cons (ev_var rfl) (ea_cons (ev_var rfl) ea_nil)) fun H6 e6 Q6 q6 E6 => ⟨q, e.2, lf, D f9, rfl, hq.mono (e23.trans (e34.trans (e5.trans e6))), hP, hD60, ?_, ?_⟩)
        · rw [← hp2]
          exact (hrow e he).mono (e5.trans e6)
        · rw [← hp2]
          exact q6
  · cases lf with
    | word f w =>
      refine q_when (b := true) (et_is (et_or (et_test (kind (q2A.1))) fun _ => et_test (kind (q2A.1))) (by decide)) (fun _ H3 e3 => some' H3 e3 ?_ fun n => ?_) (fun z => nomatch z)
      · have : ks = [w] := hwn
        rw [this]
        simp
      · have h9 : ks = [w] := hwn
        rw [h9]
        constructor
        · rintro ⟨D, hD, v, hv, hv2⟩
          rw [List.mem_singleton.mp hv] at hv2
          exact ⟨D, hD, hv2⟩
        · rintro ⟨D, hD, hv⟩
          exact ⟨D, hD, w, List.mem_singleton.mpr rfl, hv⟩
    | like f p =>
      obtain ⟨h3, h4, h5⟩ := hwn
      refine q_when (b := true) (et_is (et_or (et_test (kind (q2A.1))) fun _ => et_test (kind (q2A.1))) (by decide)) (fun _ H3 e3 => some' H3 e3 h3 fun n => ?_) (fun z => nomatch z)
      constructor
      · rintro ⟨D, hD, v, hv, hv2⟩
        exact ⟨D, hD, v, hv2, h4 v hv⟩
      · rintro ⟨D, hD, v, hv, hv2⟩
        refine ⟨D, hD, v, h5 v ?_ hv2, hv⟩
        intro z
        have h9 := (hS.of_.mem f9 v n _).mpr ⟨D, hD, hv, rfl⟩
        rw [z] at h9
        exact absurd h9 List.not_mem_nil
    | row f ns => exact absurd rfl hP
    | near f n ns => exact absurd rfl hP
    | chain f n ns => exact absurd rfl hP
end Fc
/-! Rising lists held against one another. -/
namespace Fc
open PySem PySem.Spec PyProof.Rows L2 Evl
section
variable {K : PySem.W.Frag} {H : Hp} {a b : Addr} {ones others : List Nat}
/-- whether k stands where x is or should be -/
def AtK (others : List Nat) (k x : Nat) : Prop := k ≤ others.length ∧ ∀ j o, j < k → others[j]? = some o → o < x
theorem atK_mem (hs : others.Pairwise (· < ·)) {k x : Nat} (h : AtK others k x) (hge : ∀ o, others[k]? = some o → x ≤ o) : x ∈ others ↔ others[k]? = some x := by
  constructor
  · intro hm
    obtain ⟨j, hj⟩ := List.getElem?_of_mem hm
    obtain ⟨j1, j2⟩ := List.getElem?_eq_some_iff.mp hj
    rcases Nat.lt_trichotomy j k with c | c | c
    · have := h.2 j x c hj
      omega
    · rw [← c]
      exact hj
    · have hk : k < others.length := by omega
      have q := List.pairwise_iff_getElem.mp hs k j hk j1 c
      have := hge _ (List.getElem?_eq_getElem hk)
      omega
  · exact fun h => List.mem_of_getElem? h
/-- the inner walk -/
theorem scan_k {σ0 : L2.St} {D : Ends} {tz : TS} {x k0 : Nat} (hsg : ∀ k : Nat, (σ0.set 3 (some (.int (k : Int))))[1]? = some (some (.ref b)) ∧ (σ0.set 3 (some (.int (k : Int))))[3]? = some (some (.int (k : Int))) ∧ (σ0.set 3 (some (.int (k : Int))))[4]? = some (some (.int (x : Int)))) (hb : H b = some (.lst (nats others))) (hl : others.length ≤ 1000)
    (h0 : AtK others k0 x) (hk : ∀ k H1, Ex H H1 → AtK others k x → (∀ o, others[k]? = some o → x ≤ o) → tz D (σ0.set 3 (some (.int (k : Int)))) H1) :
    tSeq (tWhile (tAnd (tTest (tOp (rI0 fun i j => .bl (decide (i < j))) (tVar 3) (tCB (rLenQ K) (tCons (tVar 1) tNil)))) (tTest (tOp (rI0 fun i j => .bl (decide (i < j))) (tOp (rIxL K) (tVar 1) (tVar 3)) (tVar 4)))) (tAug 3 (tC (.int 1)) (ipI fun i j => i + j))) tz D (σ0.set 3 (some (.int (k0 : Int)))) H := by
  refine q_while (fun m σ H1 => ∃ k : Nat, m = others.length - k ∧ σ = σ0.set 3 (some (.int (k : Int))) ∧ Ex H H1 ∧ AtK others k x) _ ⟨k0, rfl, rfl, Ex.refl _, h0⟩ ?_
  rintro m σ H1 ⟨k, rfl, rfl, e1, hk1⟩
  obtain ⟨s1, s3, s4⟩ := hsg k
  have hb1 := e1 _ _ hb
  have hlen : ∀ H2, Ex H1 H2 → Ev (tCB (rLenQ K) (tCons (tVar 1) tNil)) (σ0.set 3 (some (.int (k : Int)))) H2 (.int (others.length : Int)) := fun H2 e2 => by
    have q := ev_lenL (K := K) (ta := tVar 1) (σ := σ0.set 3 (some (.int (k : Int)))) (ev_var s1) (sq_of (e2 _ _ hb1))
    rw [List.length_map] at q
    exact q
  by_cases c : k < others.length
  · have hat := List.getElem?_eq_getElem c
    generalize others[k] = o at hat
    have hT : EvT (tAnd (tTest (tOp (rI0 fun i j => .bl (decide (i < j))) (tVar 3) (tCB (rLenQ K) (tCons (tVar 1) tNil)))) (tTest (tOp (rI0 fun i j => .bl (decide (i < j))) (tOp (rIxL K) (tVar 1) (tVar 3)) (tVar 4)))) (σ0.set 3 (some (.int (k : Int)))) H1 (decide (o < x)) := by
      refine et_is (et_and (et_test (ev_op (ev_var s3) (hlen H1 (Ex.refl _)) rv_I0)) fun _ => et_test (ev_op (ev_op (ev_var s1) (ev_var s3) (rv_ixL (sq_of hb1) (atI_nat (v := .int (o : Int)) (by rw [List.getElem?_map, hat]; rfl)))) (ev_var s4) rv_I0)) ?_
      have c1 : decide ((k : Int) < (others.length : Int)) = true := decide_eq_true (by omega)
      rw [c1, Bool.true_and]
      exact decide_eq_decide.mpr (by omega)
    refine ⟨_, hT, fun ht H2 e2 => ⟨fun σ H3 => ∃ k' : Nat, others.length - k' < others.length - k ∧ σ = σ0.set 3 (some (.int (k' : Int))) ∧ Ex H H3 ∧ AtK others k' x, fun σ2 H3 ⟨k', g1, g2, g3, g4⟩ => ⟨_, g1, k', rfl, g2, g3, g4⟩, s_aug (f := fun i j => i + j) (a := (k : Int)) (b := 1) s3 ev_c fun H3 e3 => ⟨k + 1, by omega, ?_, (e1.trans e2).trans e3, by omega, fun j o2 hj ho2 => ?_⟩⟩, fun hf H2 e2 => hk k H2 (e1.trans e2) hk1 fun o2 ho2 => ?_⟩
    · rw [List.set_set]
      rfl
    · by_cases c2 : j = k
      · rw [c2, hat] at ho2
        cases ho2
        exact of_decide_eq_true ht
      · exact hk1.2 j o2 (by omega) ho2
    · rw [hat] at ho2
      cases ho2
      have := of_decide_eq_false hf
      omega
  · have hT : EvT (tAnd (tTest (tOp (rI0 fun i j => .bl (decide (i < j))) (tVar 3) (tCB (rLenQ K) (tCons (tVar 1) tNil)))) (tTest (tOp (rI0 fun i j => .bl (decide (i < j))) (tOp (rIxL K) (tVar 1) (tVar 3)) (tVar 4)))) (σ0.set 3 (some (.int (k : Int)))) H1 false := by
      refine et_is (et_and (a := false) (b := false) (et_is (et_test (ev_op (ev_var s3) (hlen H1 (Ex.refl _)) rv_I0)) (decide_eq_false (by omega))) fun z => nomatch z) rfl
    refine ⟨_, hT, (fun z => nomatch z), fun _ H2 e2 => hk k H2 (e1.trans e2) hk1 fun o2 ho2 => ?_⟩
    rw [List.getElem?_eq_none (by omega)] at ho2
    cases ho2
end
def sp_both_of : Sp := fun vs H Q _ => ∃ (a b : Addr) (ones others : List Nat), vs = [.ref a, .ref b] ∧ H a = some (.lst (nats ones)) ∧ H b = some (.lst (nats others)) ∧ ones.length ≤ 1000 ∧ others.length ≤ 1000 ∧ ones.Pairwise (· < ·) ∧ others.Pairwise (· < ·) ∧ RetL (nats (ones.filter fun x => decide (x ∈ others))) H Q
theorem filt_take {l : List Nat} {f : Nat → Bool} {i x : Nat} (h : l[i]? = some x) : (l.take (i + 1)).filter f = (l.take i).filter f ++ if f x = true then [x] else [] := by
  rw [List.take_succ, h, Option.toList_some, List.filter_append, List.filter_cons]
  cases f x <;> rfl
theorem atK_next {others ones : List Nat} (hs : ones.Pairwise (· < ·)) {i k x : Nat} (hi : ones[i]? = some x) (h : AtK others k x) {j y : Nat} (hj : i + 1 ≤ j) (hy : ones[j]? = some y) : AtK others k y := by
  refine ⟨h.1, fun j2 o hj2 ho => ?_⟩
  have h1 := h.2 j2 o hj2 ho
  obtain ⟨a1, a2⟩ := List.getElem?_eq_some_iff.mp hi
  obtain ⟨b1, b2⟩ := List.getElem?_eq_some_iff.mp hy
  have q := List.pairwise_iff_getElem.mp hs i j a1 b1 (by omega)
  omega
theorem sc_both_of : FnScope ["ones", "others", "found", "k", "one"] ["ones", "others"] (defScope s_both_of) := ⟨rfl, rfl, rfl, by decide +kernel, rfl, by decide +kernel, by decide +kernel⟩
theorem ok_both_of {P : Program} {w : World} {K : PySem.W.Frag} {mg : Str → Option Value} {base : Heap} (G : Gd K mg "both_of" s_both_of) (T : Tx K mg) : OkF P w K mg base 1 "both_of" ["ones", "others"] sp_both_of := by
  refine G.ok (k := 0) sc_both_of (fun _ _ _ _ _ _ us hl => match us, hl with | [_, _], _ => rfl) (fun vs H Q E h => ?_) (fun f cdv A outer s H vs Q E hr h => ?_)
  · unfold sp_both_of at h
    repeat (first | (obtain ⟨rfl, h⟩ := h; rfl) | (obtain ⟨_, h⟩ := h))
  have hu := hu_of hr
  refine ⟨_, (pss_cons (psv 2 sc_both_of.nd (pe_lst pa_nil))
      (pss_cons (psv 3 sc_both_of.nd pe_int)
      (pss_cons (ps_for PassesOwn.never rfl (pi_list (pv 0)) (pgv 4 sc_both_of.nd)
        (pss_cons (ps_while PassesOwn.never (PW.pt (pw_and (pt_cmpR op_lt (pv 3) (pe_callB (id := "len") (lenK K) rfl T.n_len PySem.boot_len (pa_cons (pv 1) pa_nil)) (nomark _)) (pw_and1 (pt_cmpR op_lt (pe_ix (ixlK K) (pv 1) (pv 3) (fun _ _ => rfl)) (pv 4) (nomark _))))) (pss_one (psaug 3 sc_both_of.nd pe_int ip_add)))
        (pss_one (ps_if (PW.pt (pw_and (pt_cmpR op_lt (pv 3) (pe_callB (id := "len") (lenK K) rfl T.n_len PySem.boot_len (pa_cons (pv 1) pa_nil)) (nomark _)) (pw_and1 (pt_cmpR op_eq (pe_ix (ixlK K) (pv 1) (pv 3) (fun _ _ => rfl)) (pv 4) (nomark _))))) (pss_one (ps_expr (pe_bm PySem.F.plainAttrs_list PySem.F.slot_list_append PySem.F.type_list_append mt_append (pv 2) (pa_cons (pv 4) pa_nil)))) pss_nil))))
      (pss_one (ps_ret (pv 2)))))), ?_⟩
  obtain ⟨a, b, ones, others, rfl, ha, hb, hl1, hl2, hs1, hs2, k⟩ := h
  refine q_asgL (el_lst ea_nil (Nat.zero_le _)) fun p H1 hp e1 h1 => ?_
  refine q_asg ev_c fun H2 e2 => ?_
  refine q_forX (H := H) (es := ones) (st := fun x σ0 => σ0.set 4 (some (.int (x : Int)))) (ex_list (F := fun n : Nat => V.int (n : Int)) (ev_var rfl) (sq_of ha)) (e1.trans e2) (fun Hg i σ H3 => ∃ (y : Option V) (kk : Nat), σ = [some (.ref a), some (.ref b), some (.ref p), some (.int (kk : Int)), y] ∧ Ex H H3 ∧ Ex Hg H3 ∧ H3 p = some (.lst (nats ((ones.take i).filter fun x => decide (x ∈ others)))) ∧ ∀ j x, i ≤ j → ones[j]? = some x → AtK others kk x)
    (fun Hg H3 e3 eg => ⟨none, 0, rfl, (e1.trans e2).trans e3, eg, (e2.trans e3) _ _ h1, fun j x _ _ => ⟨Nat.zero_le _, fun j o hj => by omega⟩⟩) (fun Hg i σ H2 ⟨_, _, _, _, e, _⟩ => e) ?_ ?_
  · rintro Hg eg hgn i x σ H3 hi ⟨y, kk, rfl, e3, e3g, h3, hk⟩ H4 e4
    refine scan_k (b := b) (x := x) (σ0 := [some (.ref a), some (.ref b), some (.ref p), some (.int (kk : Int)), some (.int (x : Int))]) (k0 := kk) (fun k => ⟨rfl, rfl, rfl⟩) ((e3.trans e4) _ _ hb) hl2 (hk i x (Nat.le_refl _) hi) fun k2 H5 e5 hk2 hge => ?_
    have hm := atK_mem hs2 hk2 hge
    have e35 := (e3.trans e4).trans e5
    have hb5 := e35 _ _ hb
    show tIfS _ _ _ _ [some (.ref a), some (.ref b), some (.ref p), some (.int (k2 : Int)), some (.int (x : Int))] H5
    refine s_when (b := decide (x ∈ others)) ?_ (fun hd H6 e6 => ?_) fun hd H6 e6 => ?_
    · have hlen : Ev (tCB (rLenQ K) (tCons (tVar 1) tNil)) [some (.ref a), some (.ref b), some (.ref p), some (.int (k2 : Int)), some (.int (x : Int))] H5 (.int (others.length : Int)) := by
        have q := ev_lenL (K := K) (ta := tVar 1) (σ := [some (.ref a), some (.ref b), some (.ref p), some (.int (k2 : Int)), some (.int (x : Int))]) (ev_var rfl) (sq_of hb5)
        rw [List.length_map] at q
        exact q
      by_cases c : k2 < others.length
      · have hat := List.getElem?_eq_getElem c
        generalize others[k2] = o at hat
        refine et_is (et_and (et_test (ev_op (ev_var rfl) hlen rv_I0)) fun _ => et_test (ev_op (ev_op (ev_var rfl) (ev_var rfl) (rv_ixL (sq_of hb5) (atI_nat (v := .int (o : Int)) (by rw [List.getElem?_map, hat]; rfl)))) (ev_var rfl) (rv_eq rfl))) ?_
        have c1 : decide ((k2 : Int) < (others.length : Int)) = true := decide_eq_true (by omega)
        rw [c1, Bool.true_and]
        refine decide_eq_decide.mpr ?_
        rw [hm, hat]
        constructor
        · intro z
          have z2 := V.int.inj z
          congr 1
          omega
        · intro z
          rw [Option.some.inj z]
      · refine et_is (et_and (a := false) (b := false) (et_is (et_test (ev_op (ev_var rfl) hlen rv_I0)) (decide_eq_false (by omega))) fun z => nomatch z) ?_
        refine (decide_eq_false fun z => ?_).symm
        rw [hm, List.getElem?_eq_none (by omega)] at z
        cases z
    · refine s_app (e6 _ _ (e5 _ _ (e4 _ _ h3))) (ev_var rfl) (ev_var rfl) ?_ fun H7 e7 => ⟨_, k2, rfl, ((e35.trans e6).trans e7).mut hp, ((((e3g.trans e4).trans e5).trans e6).trans e7).mut (hgn p (ns ((e2) _ _ h1)) hp), ?_, fun j y2 hj hy => atK_next hs1 hi hk2 hj hy⟩
      · have q := List.length_filter_le (fun x => decide (x ∈ others)) (ones.take i)
        rw [List.length_take] at q
        rw [List.length_map]
        omega
      · rw [upd_same, filt_take hi, if_pos hd, ← nats_app]
        rfl
    · refine ⟨_, k2, rfl, e35.trans e6, ((e3g.trans e4).trans e5).trans e6, ?_, fun j y2 hj hy => atK_next hs1 hi hk2 hj hy⟩
      rw [filt_take hi, if_neg (by rw [hd]; decide), List.append_nil]
      exact e6 _ _ (e5 _ _ (e4 _ _ h3))
  · rintro Hg eg σ H3 ⟨y, kk, rfl, e3, e3g, h3, hk⟩
    rw [List.take_length] at h3
    exact s_ret (ev_var rfl) fun H4 e4 => k p H4 hp (e3.trans e4) (e4 _ _ h3)
def sp_less_of : Sp := fun vs H Q _ => ∃ (a b : Addr) (ones others : List Nat), vs = [.ref a, .ref b] ∧ H a = some (.lst (nats ones)) ∧ H b = some (.lst (nats others)) ∧ ones.length ≤ 1000 ∧ others.length ≤ 1000 ∧ ones.Pairwise (· < ·) ∧ others.Pairwise (· < ·) ∧ RetL (nats (ones.filter fun x => !decide (x ∈ others))) H Q
theorem sc_less_of : FnScope ["ones", "others", "found", "k", "one"] ["ones", "others"] (defScope s_less_of) := ⟨rfl, rfl, rfl, by decide +kernel, rfl, by decide +kernel, by decide +kernel⟩
theorem ok_less_of {P : Program} {w : World} {K : PySem.W.Frag} {mg : Str → Option Value} {base : Heap} (G : Gd K mg "less_of" s_less_of) (T : Tx K mg) : OkF P w K mg base 1 "less_of" ["ones", "others"] sp_less_of := by
  refine G.ok (k := 0) sc_less_of (fun _ _ _ _ _ _ us hl => match us, hl with | [_, _], _ => rfl) (fun vs H Q E h => ?_) (fun f cdv A outer s H vs Q E hr h => ?_)
  · unfold sp_less_of at h
    repeat (first | (obtain ⟨rfl, h⟩ := h; rfl) | (obtain ⟨_, h⟩ := h))
  have hu := hu_of hr
  refine ⟨_, (pss_cons (psv 2 sc_less_of.nd (pe_lst pa_nil))
      (pss_cons (psv 3 sc_less_of.nd pe_int)
      (pss_cons (ps_for PassesOwn.never rfl (pi_list (pv 0)) (pgv 4 sc_less_of.nd)
        (pss_cons (ps_while PassesOwn.never (PW.pt (pw_and (pt_cmpR op_lt (pv 3) (pe_callB (id := "len") (lenK K) rfl T.n_len PySem.boot_len (pa_cons (pv 1) pa_nil)) (nomark _)) (pw_and1 (pt_cmpR op_lt (pe_ix (ixlK K) (pv 1) (pv 3) (fun _ _ => rfl)) (pv 4) (nomark _))))) (pss_one (psaug 3 sc_less_of.nd pe_int ip_add)))
        (pss_one (ps_if (PW.pt (pw_or (pt_cmpR op_eq (pv 3) (pe_callB (id := "len") (lenK K) rfl T.n_len PySem.boot_len (pa_cons (pv 1) pa_nil)) (nomark _)) (pw_or1 (pt_cmpR op_ne (pe_ix (ixlK K) (pv 1) (pv 3) (fun _ _ => rfl)) (pv 4) (nomark _))))) (pss_one (ps_expr (pe_bm PySem.F.plainAttrs_list PySem.F.slot_list_append PySem.F.type_list_append mt_append (pv 2) (pa_cons (pv 4) pa_nil)))) pss_nil))))
      (pss_one (ps_ret (pv 2)))))), ?_⟩
  obtain ⟨a, b, ones, others, rfl, ha, hb, hl1, hl2, hs1, hs2, k⟩ := h
  refine q_asgL (el_lst ea_nil (Nat.zero_le _)) fun p H1 hp e1 h1 => ?_
  refine q_asg ev_c fun H2 e2 => ?_
  refine q_forX (H := H) (es := ones) (st := fun x σ0 => σ0.set 4 (some (.int (x : Int)))) (ex_list (F := fun n : Nat => V.int (n : Int)) (ev_var rfl) (sq_of ha)) (e1.trans e2) (fun Hg i σ H3 => ∃ (y : Option V) (kk : Nat), σ = [some (.ref a), some (.ref b), some (.ref p), some (.int (kk : Int)), y] ∧ Ex H H3 ∧ Ex Hg H3 ∧ H3 p = some (.lst (nats ((ones.take i).filter fun x => !decide (x ∈ others)))) ∧ ∀ j x, i ≤ j → ones[j]? = some x → AtK others kk x)
    (fun Hg H3 e3 eg => ⟨none, 0, rfl, (e1.trans e2).trans e3, eg, (e2.trans e3) _ _ h1, fun j x _ _ => ⟨Nat.zero_le _, fun j o hj => by omega⟩⟩) (fun Hg i σ H2 ⟨_, _, _, _, e, _⟩ => e) ?_ ?_
  · rintro Hg eg hgn i x σ H3 hi ⟨y, kk, rfl, e3, e3g, h3, hk⟩ H4 e4
    refine scan_k (b := b) (x := x) (σ0 := [some (.ref a), some (.ref b), some (.ref p), some (.int (kk : Int)), some (.int (x : Int))]) (k0 := kk) (fun k => ⟨rfl, rfl, rfl⟩) ((e3.trans e4) _ _ hb) hl2 (hk i x (Nat.le_refl _) hi) fun k2 H5 e5 hk2 hge => ?_
    have hm := atK_mem hs2 hk2 hge
    have e35 := (e3.trans e4).trans e5
    have hb5 := e35 _ _ hb
    show tIfS _ _ _ _ [some (.ref a), some (.ref b), some (.ref p), some (.int (k2 : Int)), some (.int (x : Int))] H5
    refine s_when (b := !decide (x ∈ others)) ?_ (fun hd H6 e6 => ?_) fun hd H6 e6 => ?_
    · have hlen : Ev (tCB (rLenQ K) (tCons (tVar 1) tNil)) [some (.ref a), some (.ref b), some (.ref p), some (.int (k2 : Int)), some (.int (x : Int))] H5 (.int (others.length : Int)) := by
        have q := ev_lenL (K := K) (ta := tVar 1) (σ := [some (.ref a), some (.ref b), some (.ref p), some (.int (k2 : Int)), some (.int (x : Int))]) (ev_var rfl) (sq_of hb5)
        rw [List.length_map] at q
        exact q
      by_cases c : k2 < others.length
      · have hat := List.getElem?_eq_getElem c
        generalize others[k2] = o at hat
        refine et_is (et_or (a := false) (et_is (et_test (ev_op (ev_var rfl) hlen (rv_eq rfl))) ?_) fun _ => et_test (ev_op (ev_op (ev_var rfl) (ev_var rfl) (rv_ixL (sq_of hb5) (atI_nat (v := .int (o : Int)) (by rw [List.getElem?_map, hat]; rfl)))) (ev_var rfl) (rv_ne rfl))) ?_
        · refine decide_eq_false fun z => ?_
          have z2 := V.int.inj z
          omega
        · rw [Bool.false_or]
          congr 1
          refine decide_eq_decide.mpr ?_
          rw [hm, hat]
          constructor
          · intro z
            have z2 := V.int.inj z
            congr 1
            omega
          · intro z
            rw [Option.some.inj z]
      · have hk3 : k2 = others.length := by
          have := hk2.1
          omega
        refine et_is (et_or (a := true) (b := true) (et_is (et_test (ev_op (ev_var rfl) hlen (rv_eq rfl))) (decide_eq_true (by rw [hk3]))) fun z => nomatch z) ?_
        have hnm : decide (x ∈ others) = false := decide_eq_false fun z => by
          rw [hm, List.getElem?_eq_none (by omega)] at z
          cases z
        rw [hnm]
        rfl
    · refine s_app (e6 _ _ (e5 _ _ (e4 _ _ h3))) (ev_var rfl) (ev_var rfl) ?_ fun H7 e7 => ⟨_, k2, rfl, ((e35.trans e6).trans e7).mut hp, ((((e3g.trans e4).trans e5).trans e6).trans e7).mut (hgn p (ns ((e2) _ _ h1)) hp), ?_, fun j y2 hj hy => atK_next hs1 hi hk2 hj hy⟩
      · have q := List.length_filter_le (fun x => !decide (x ∈ others)) (ones.take i)
        rw [List.length_take] at q
        rw [List.length_map]
        omega
      · rw [upd_same, filt_take hi, if_pos hd, ← nats_app]
        rfl
    · refine ⟨_, k2, rfl, e35.trans e6, ((e3g.trans e4).trans e5).trans e6, ?_, fun j y2 hj hy => atK_next hs1 hi hk2 hj hy⟩
      rw [filt_take hi, if_neg (by rw [hd]; decide), List.append_nil]
      exact e6 _ _ (e5 _ _ (e4 _ _ h3))
  · rintro Hg eg σ H3 ⟨y, kk, rfl, e3, e3g, h3, hk⟩
    rw [List.take_length] at h3
    exact s_ret (ev_var rfl) fun H4 e4 => k p H4 hp (e3.trans e4) (e4 _ _ h3)
end Fc
/-! Answers. -/
namespace Fc
open PySem PySem.Spec PyProof.Rows L2 Evl
/-- what a leaf asks of a document -/
def holdL (lf : Lf) (D : Wd) : Prop := if lf.field = Z [42] then ∃ f, leafP lf (D f) else leafP lf (D lf.field)
def QAt : Nat → Hp → Addr → (Wd → Prop) → Prop
  | 0, _, _, _ => False
  | n + 1, H, a, P => (∃ lf, (LfAt H a lf ∧ LfSm lf) ∧ ∀ D, P D ↔ holdL lf D) ∨ (∃ b P', H a = some (.tup [.str "not", .ref b]) ∧ QAt n H b P' ∧ ∀ D, P D ↔ ¬ P' D) ∨
    (∃ (l : Addr) (qs : List (Addr × (Wd → Prop))), H a = some (.tup [.str "both", .ref l]) ∧ H l = some (.lst (qs.map fun x => V.ref x.1)) ∧ qs.length ≤ 60 ∧ (∀ x ∈ qs, QAt n H x.1 x.2) ∧ ∀ D, P D ↔ ∀ x ∈ qs, x.2 D) ∨
    ∃ (l : Addr) (qs : List (Addr × (Wd → Prop))), H a = some (.tup [.str "one", .ref l]) ∧ H l = some (.lst (qs.map fun x => V.ref x.1)) ∧ qs.length ≤ 60 ∧ (∀ x ∈ qs, QAt n H x.1 x.2) ∧ ∀ D, P D ↔ ∃ x ∈ qs, x.2 D
theorem QAt.mono : ∀ {n : Nat} {H H2 : Hp} {a : Addr} {P : Wd → Prop}, QAt n H a P → Ex H H2 → QAt n H2 a P
  | 0, _, _, _, _, h, _ => h
  | n + 1, _, _, _, _, h, e => by
    rcases h with ⟨lf, h1, h2⟩ | ⟨b, P', h1, h2, h3⟩ | ⟨l, qs, h1, h2, h3, h4, h5⟩ | ⟨l, qs, h1, h2, h3, h4, h5⟩
    · exact .inl ⟨lf, ⟨h1.1.mono e, h1.2⟩, h2⟩
    · exact .inr (.inl ⟨b, P', e _ _ h1, h2.mono e, h3⟩)
    · exact .inr (.inr (.inl ⟨l, qs, e _ _ h1, e _ _ h2, h3, fun x hx => (h4 x hx).mono e, h5⟩))
    · exact .inr (.inr (.inr ⟨l, qs, e _ _ h1, e _ _ h2, h3, fun x hx => (h4 x hx).mono e, h5⟩))
noncomputable def ansL (dd : Nat → Option Wd) (P : Wd → Prop) : List Nat := upto 60 fun n => pB (∃ D, dd n = some D ∧ P D)
theorem ans_mem {dd : Nat → Option Wd} (hlt : ∀ n D, dd n = some D → n < 60) {P : Wd → Prop} {n : Nat} : n ∈ ansL dd P ↔ ∃ D, dd n = some D ∧ P D := by
  unfold ansL
  rw [upto_mem, pB_true]
  exact ⟨fun h => h.2, fun ⟨D, h1, h2⟩ => ⟨hlt n D h1, D, h1, h2⟩⟩
theorem ans_lt (dd : Nat → Option Wd) (P : Wd → Prop) : (ansL dd P).Pairwise (· < ·) := upto_lt _ _
theorem ans_len (dd : Nat → Option Wd) (P : Wd → Prop) : (ansL dd P).length ≤ 60 := upto_len _ _
theorem LfAt.head {H : Hp} {a : Addr} {lf : Lf} (h : LfAt H a lf) : ∃ x xs, H a = some (.tup (.str x :: .str lf.field :: xs)) ∧ isLf x = true ∧ x ≠ "not" ∧ x ≠ "both" := by
  cases lf with
  | word f w => exact ⟨_, _, h.1, by decide, by decide, by decide⟩
  | like f p => exact ⟨_, _, h.1, by decide, by decide, by decide⟩
  | row f ws =>
    obtain ⟨_, l, h2, _⟩ := h
    exact ⟨_, _, h2, by decide, by decide, by decide⟩
  | near f n ws =>
    obtain ⟨_, l, h2, _⟩ := h
    exact ⟨_, _, h2, by decide, by decide, by decide⟩
  | chain f n ws =>
    obtain ⟨_, l, h2, _⟩ := h
    exact ⟨_, _, h2, by decide, by decide, by decide⟩
theorem leaf_ne {lf : Lf} {H : Hp} {a : Addr} (h : LfAt H a lf) {ws : List Str} (hl : leafP lf ws) : ws ≠ [] := by
  rintro rfl
  cases lf with
  | word f w => exact absurd hl List.not_mem_nil
  | like f p =>
    obtain ⟨w, hw, _⟩ := hl
    exact absurd hw List.not_mem_nil
  | row f ns =>
    obtain ⟨w, hw⟩ := List.exists_mem_of_ne_nil _ h.1.1
    exact absurd (leaf_all (lf := .row f ns) rfl h.1.1 hl w hw) List.not_mem_nil
  | near f n ns =>
    obtain ⟨w, hw⟩ := List.exists_mem_of_ne_nil _ h.1.1
    exact absurd (leaf_all (lf := .near f n ns) rfl h.1.1 hl w hw) List.not_mem_nil
  | chain f n ns =>
    obtain ⟨w, hw⟩ := List.exists_mem_of_ne_nil _ h.1.1
    exact absurd (leaf_all (lf := .chain f n ns) rfl h.1.1 hl w hw) List.not_mem_nil
theorem s_extQ {K : PySem.W.Frag} {σ : L2.St} {H : Hp} {ta te : TE} {l : Addr} {xs : List V} {D : Ends} {P : List V → Hp → Prop} (hl : H l = some (.lst xs)) (ha : Ev ta σ H (.ref l)) (hh : ∀ H1, Ex H H1 → ∀ Q : VK, (∀ b ys H2, Ex H1 H2 → H2 b = some (.lst ys) → P ys H2 → Q (.ref b) H2) → te σ H1 Q) (hz : ∀ ys H2, P ys H2 → xs.length + ys.length ≤ 100000)
    (k : ∀ ys H1, Ex H H1 → P ys H1 → D.nx σ (upd H1 l (.lst (xs ++ ys)))) : tDrop (tBM K "list" rExtend ta (tCons te tNil)) D σ H := ha H (Ex.refl H) _ fun H1 e1 =>
  ⟨Or.inl ⟨rfl, xs, sq_of (e1 l _ hl)⟩, hh H1 e1 _ fun b ys H2 e2 h2 p => ⟨l, b, xs, ys, rfl, rfl, e2 l _ (e1 l _ hl), h2, sz_of (hz _ _ p), k ys H2 (e1.trans e2) p⟩⟩
theorem ans_ext {dd : Nat → Option Wd} (hlt : ∀ n D, dd n = some D → n < 60) {P : Wd → Prop} {ns : List Nat} (h1 : ns.Pairwise (· < ·)) (h2 : ∀ n, n ∈ ns ↔ ∃ D, dd n = some D ∧ P D) : ns = ansL dd P := lt_ext h1 (ans_lt dd P) fun n => (h2 n).trans (ans_mem hlt).symm
def sp_answers_of (K : PySem.W.Frag) (n : Nat) : Sp := fun vs H Q _ => ∃ (L : List Str) (C : Hp) (s q : Addr) (dd : Nat → Option Wd) (T : Tab) (nums : List Nat) (P : Wd → Prop), vs = [.ref s, .ref q] ∧ SdAt K L C s dd T nums ∧ Ex C H ∧ QAt n H q P ∧ RetL (nats (ansL dd P)) H Q
theorem sc_answers_of : FnScope ["stand", "question", "found", "one", "field"] ["stand", "question"] (defScope s_answers_of) := ⟨rfl, rfl, rfl, by decide +kernel, rfl, by decide +kernel, by decide +kernel⟩
theorem okr_answers_of {P : Program} {w : World} {K : PySem.W.Frag} {mg : Str → Option Value} {base : Heap} (k n : Nat) (hk : 6 ≤ k) (G : Gd K mg "answers_of" s_answers_of) (T : Tx K mg) (O_less_of : OkF P w K mg base 1 "less_of" ["ones", "others"] sp_less_of) (O_Stand_documents : OkM P w K mg base 1 (adStand K) "documents" ["self"] (sp_Stand_documents K)) (O_both_of : OkF P w K mg base 1 "both_of" ["ones", "others"] sp_both_of) (O_has_words : OkF P w K mg base 1 "has_words" ["question"] sp_has_words) (O_fields_named : OkF P w K mg base 1 "fields_named" ["fields", "field"] sp_fields_named) (O_Stand_fields : OkM P w K mg base 1 (adStand K) "fields" ["self"] (sp_Stand_fields K)) (O_found_in : OkF P w K mg base 6 "found_in" ["stand", "field", "question"] (sp_found_in K)) (O_answers_of : OkF P w K mg base k "answers_of" ["stand", "question"] (sp_answers_of K n)) : OkF P w K mg base (k + 1) "answers_of" ["stand", "question"] (sp_answers_of K (n + 1)) := by
  refine G.ok (k := k) sc_answers_of (fun _ _ _ _ _ _ us hl => match us, hl with | [_, _], _ => rfl) (fun vs H Q E h => ?_) (fun f cdv A outer s H vs Q E hr h => ?_)
  · unfold sp_answers_of at h
    repeat (first | (obtain ⟨rfl, h⟩ := h; rfl) | (obtain ⟨_, h⟩ := h))
  have hu := hu_of hr
  refine ⟨_, (pss_cons (ps_if (pt_cmpR op_eq (pe_ix (ixtK K) (pv 1) pe_int (fun _ _ => rfl)) pe_str (nomark _)) (pss_one (ps_ret (pe_fn O_less_of (hr.mono (by omega)) (pa_cons (pe_mt0 O_Stand_documents (hr.mono (by omega)) T.cStand (pv 0)) (pa_cons (pe_fn O_answers_of (hr.mono (by omega)) (pa_cons (pv 0) (pa_cons (pe_ix (ixtK K) (pv 1) pe_int (fun _ _ => rfl)) pa_nil))) pa_nil))))) pss_nil)
      (pss_cons (ps_if (pt_cmpR op_eq (pe_ix (ixtK K) (pv 1) pe_int (fun _ _ => rfl)) pe_str (nomark _)) (pss_cons (psv 2 sc_answers_of.nd (pe_mt0 O_Stand_documents (hr.mono (by omega)) T.cStand (pv 0)))
        (pss_cons (ps_for PassesOwn.never rfl (pi_list (pe_ix (ixtK K) (pv 1) pe_int (fun _ _ => rfl))) (pgv 3 sc_answers_of.nd)
          (pss_one (psv 2 sc_answers_of.nd (pe_fn O_both_of (hr.mono (by omega)) (pa_cons (pv 2) (pa_cons (pe_fn O_answers_of (hr.mono (by omega)) (pa_cons (pv 0) (pa_cons (pv 3) pa_nil))) pa_nil))))))
        (pss_one (ps_ret (pv 2))))) pss_nil)
      (pss_cons (psv 2 sc_answers_of.nd (pe_lst pa_nil))
      (pss_cons (ps_if (pt_val (pe_fn O_has_words (hr.mono (by omega)) (pa_cons (pv 1) pa_nil))) (pss_one (ps_for PassesOwn.never rfl (pi_list (pe_fn O_fields_named (hr.mono (by omega)) (pa_cons (pe_mt0 O_Stand_fields (hr.mono (by omega)) T.cStand (pv 0)) (pa_cons (pe_ix (ixtK K) (pv 1) pe_int (fun _ _ => rfl)) pa_nil)))) (pgv 4 sc_answers_of.nd)
          (pss_one (ps_expr (pe_bm PySem.F.plainAttrs_list PySem.F.slot_list_extend PySem.F.type_list_extend mt_extend (pv 2) (pa_cons (pe_fn O_found_in (hr.mono (by omega)) (pa_cons (pv 0) (pa_cons (pv 4) (pa_cons (pv 1) pa_nil)))) pa_nil)))))) (pss_one (ps_for PassesOwn.never rfl (pi_list (pe_ix (ixtK K) (pv 1) pe_int (fun _ _ => rfl))) (pgv 3 sc_answers_of.nd)
          (pss_one (ps_expr (pe_bm PySem.F.plainAttrs_list PySem.F.slot_list_extend PySem.F.type_list_extend mt_extend (pv 2) (pa_cons (pe_fn O_answers_of (hr.mono (by omega)) (pa_cons (pv 0) (pa_cons (pv 3) pa_nil))) pa_nil)))))))
      (pss_one (ps_ret (pe_callB (id := "sorted") (cr_sortedSet rfl) rfl T.n_sorted (by decide +kernel) (pa_cons (pe_callTy (T := "set") (cr_setI rfl) rfl T.n_set (by decide +kernel) (pa_cons (pv 2) pa_nil)) pa_nil)))))))), ?_⟩
  obtain ⟨L, C, sA, q, dd, T9, nums, P9, rfl, hS, eC, hq, k9⟩ := h
  obtain ⟨dx, tx, tb, lg, hs⟩ := hS.at_.ins
  have hlt : ∀ n D, dd n = some D → n < 60 := fun n D h => (hS.of_.lt n D h).1
  have kind : ∀ {H1 : Hp} {x y : Str} {xs : List V} {y2 y3 y4 : Option V}, H1 q = some (.tup (.str x :: xs)) → Ev (tOp rEq (tOp (rIxT K) (tVar 1) (tC (.int 0))) (tC (.str y))) [some (.ref sA), some (.ref q), y2, y3, y4] H1 (.bl (decide (x = y))) := fun {H1 x y xs y2 y3 y4} hx =>
    ev_is (ev_op (ev_op (ev_var rfl) ev_c (rv_ixT (st_of hx) (v := .str x) (i := 0) (atI_nat (j := 0) rfl))) ev_c (rv_eq rfl)) (by simp)
  have docs : ∀ {H1 : Hp} {y2 y3 y4 : Option V}, Ex H H1 → EvL (tMeth (adStand K) "documents" (sp_Stand_documents K) [] E0 (tVar 0) tNil) [some (.ref sA), some (.ref q), y2, y3, y4] H1 (nats (ansL dd fun _ => True)) := fun {H1 y2 y3 y4} e1 => by
    have e9 : upto 60 (fun n => decide (n ∈ nums)) = ansL dd fun _ => True := ans_ext hlt (upto_lt _ _) fun n => by
      rw [upto_mem, decide_eq_true_iff, hS.num n]
      exact ⟨fun ⟨_, D, h⟩ => ⟨D, h, trivial⟩, fun ⟨D, h, _⟩ => ⟨hlt n D h, D, h⟩⟩
    rw [← e9]
    exact el_meth (ev_var rfl) ((eC.trans e1) _ _ hs) rfl ea_nil fun H2 e2 Q2 q2 E2 => ⟨L, C, sA, nums, T9, rfl, hS.at_, eC.trans (e1.trans e2), q2⟩
  rcases hq with ⟨lf, ⟨hlf, _⟩, hP⟩ | ⟨b, P', h1, hq2, hP⟩ | ⟨l, qs, h1, h2, hql, hqs, hP⟩ | ⟨l, qs, h1, h2, hql, hqs, hP⟩
  · -- a leaf
    obtain ⟨x, xs, hx, hxl, hx1, hx2⟩ := hlf.head
    refine q_when (b := false) (et_is (et_test (kind hx)) (decide_eq_false hx1)) (fun z => nomatch z) fun _ H1 e1 => ?_
    refine q_when (b := false) (et_is (et_test (kind (e1 _ _ hx))) (decide_eq_false hx2)) (fun z => nomatch z) fun _ H2 e2 => ?_
    have e12 := e1.trans e2
    refine q_asgL (el_lst ea_nil (Nat.zero_le _)) fun fp H3 hfp e3 h3 => ?_
    have e13 := e12.trans e3
    have hfpH : H fp = none := fresh_back e12 hfp
    refine q_if (b := true) (et_B (ev_is (ev_call (ea_cons (ev_var rfl) ea_nil) fun H4 e4 Q4 q4 E4 => ⟨q, x, _, rfl, (e13.trans e4) _ _ hx, q4⟩) (by rw [hxl]))) (fun _ H4 e4 => ?_) (fun z => nomatch z)
    have e14 := e13.trans e4
    refine s_forQ (P := fun v H5 => ∃ (p : Addr) (fs ks : List Str), v = .ref p ∧ H4 p = none ∧ Ex H4 H5 ∧ H5 p = some (.lst (ks.map V.str)) ∧ ks = (if lf.field = Z [42] then fs else [lf.field]) ∧ fs.length ≤ 60 ∧ ∀ f, (∃ w, T9 f w ≠ []) → f ∈ fs) (fun Q5 q5 => ?_) fun v H5 ⟨p, fs, ks, hv, hp, e5, h5, hks, hfl, hfs⟩ => ?_
    · refine call_2 (P := NamesAt L (fun f => ∃ w, T9 f w ≠ []) H4) (P2 := fun v H5 H6 => v = .str lf.field ∧ Ex H5 H6) (fun Q6 q6 => eq_meth (P := NamesAt L (fun f => ∃ w, T9 f w ≠ []) H4) (ev_var rfl) ((eC.trans e14) _ _ hs) rfl ea_nil (fun H5 e5 Q7 q7 => ⟨L, C, sA, nums, T9, rfl, hS.few, hS.at_, eC.trans (e14.trans e5), fun v H6 ⟨p, ks, z1, z2, z3, z4⟩ => q7 v H6 ⟨p, ks, z1, fresh_back e5 z2, e5.trans z3, z4⟩⟩) q6) (fun v H5 ⟨p, ks, z1, z2, z3, z4⟩ Q6 q6 => ?_) fun v u H5 H6 ⟨p, ks, z1, z2, z3, z4, z5, z6, z7, z8⟩ ⟨hu, e6⟩ => ?_
      · exact (ev_op (σ := [some (.ref sA), some (.ref q), some (.ref fp), none, none]) (ev_var rfl) ev_c (rv_ixT (K := K) (st_of ((e14.trans z3) _ _ hx)) (v := .str lf.field) (i := 1) (atI_nat (j := 1) rfl))) H5 (Ex.refl _) _ fun H6 e6 => q6 _ _ ⟨rfl, e6⟩
      · subst z1 hu
        exact ⟨p, ks, lf.field, rfl, e6 _ _ z4, z6, fun r H7 hr e7 h7 => q5 _ _ ⟨r, ks, _, rfl, fresh_back (z3.trans e6) hr, (z3.trans e6).trans e7, h7, rfl, z6, z8⟩⟩
    · have hkl : ks.length ≤ 60 := by
        rw [hks]
        split
        · exact hfl
        · simp
      have hpf : p ≠ fp := (own_ne (e4 _ _ h3) hp).symm
      refine ⟨p, ks.map V.str, hv, h5, fun i σ H6 => ∃ (y3 y4 : Option V) (ms : List Nat), σ = [some (.ref sA), some (.ref q), some (.ref fp), y3, y4] ∧ Ex (del H5 fp) H6 ∧ H6 fp = some (.lst (nats ms)) ∧ ms.length ≤ 60 * i ∧ ∀ n, n ∈ ms ↔ ∃ f ∈ ks.take i, ∃ D, dd n = some D ∧ leafP lf (D f), ?_, ?_, ?_, ?_⟩
      · exact ⟨_, _, [], rfl, del_ex, e5 _ _ (e4 _ _ h3), Nat.zero_le _, fun n => ⟨fun z => absurd z List.not_mem_nil, fun ⟨f, hf, _⟩ => absurd hf (by simp)⟩⟩
      · rintro i σ H6 _ ⟨_, _, _, _, e6, _⟩
        exact e6 _ _ (by rw [del_ne hpf]; exact h5)
      · rintro i x6 σ H6 hi ⟨y3, y4, ms, rfl, e6, h6, hml, hm⟩
        obtain ⟨f6, hf6, rfl⟩ := map_at hi
        have hil : i < ks.length := (List.getElem?_eq_some_iff.mp hf6).1
        have eH6 : Ex H H6 := fun b o hb => e6 _ _ (by rw [del_ne (own_ne hb hfpH)]; exact (e14.trans e5) _ _ hb)
        show tDrop _ _ [some (.ref sA), some (.ref q), some (.ref fp), y3, some (.str f6)] H6
        refine s_extQ (P := fun ys H7 => ∃ ns : List Nat, ys = nats ns ∧ ns.length ≤ 60 ∧ ∀ n, n ∈ ns ↔ ∃ D, dd n = some D ∧ leafP lf (D f6)) h6 (ev_var rfl) (fun H7 e7 Q7 q7 => ⟨_, rfl, _, rfl, _, rfl, L, C, sA, q, dd, T9, nums, f6, lf, rfl, hS, eC.trans (eH6.trans e7), hlf.mono (eH6.trans e7), fun r H8 ns hr e8 h8 hl hn => q7 r _ H8 e8 h8 ⟨ns, rfl, hl, hn⟩⟩) (fun ys H7 ⟨ns, hy, hl, _⟩ => ?_) fun ys H7 e7 ⟨ns, hy, hl, hn⟩ => ?_
        · rw [hy, List.length_map, List.length_map]
          omega
        · subst hy
          refine ⟨_, _, ms ++ ns, rfl, (e6.trans e7).mut del_at, by rw [upd_same, nats_app], by rw [List.length_append]; omega, fun n => ?_⟩
          have htk : ks.take (i + 1) = ks.take i ++ [f6] := by
            rw [List.take_succ, hf6, Option.toList_some]
          rw [List.mem_append, hm n, hn n, htk]
          constructor
          · rintro (⟨f, hf, g⟩ | g)
            · exact ⟨f, List.mem_append_left _ hf, g⟩
            · exact ⟨f6, List.mem_append_right _ (List.mem_singleton.mpr rfl), g⟩
          · rintro ⟨f, hf, g⟩
            rcases List.mem_append.mp hf with z | z
            · exact .inl ⟨f, z, g⟩
            · rw [List.mem_singleton.mp z] at g
              exact .inr g
      · rintro σ H6 ⟨y3, y4, ms, rfl, e6, h6, hml, hm⟩
        rw [List.length_map] at hml
        rw [List.length_map, List.take_length] at hm
        have eH6 : Ex H H6 := fun b o hb => e6 _ _ (by rw [del_ne (own_ne hb hfpH)]; exact (e14.trans e5) _ _ hb)
        have hans : upto 60 (fun n => decide (n ∈ ms)) = ansL dd P9 := ans_ext hlt (upto_lt _ _) fun n => by
          rw [upto_mem, decide_eq_true_iff, hm n]
          constructor
          · rintro ⟨_, f, hf, D, hD, hl⟩
            refine ⟨D, hD, (hP D).mpr ?_⟩
            unfold holdL
            rw [hks] at hf
            split at hf
            · rename_i c
              rw [if_pos c]
              exact ⟨f, hl⟩
            · rename_i c
              rw [if_neg c, ← List.mem_singleton.mp hf]
              exact hl
          · rintro ⟨D, hD, hp9⟩
            have h9 := (hP D).mp hp9
            unfold holdL at h9
            refine ⟨hlt n D hD, ?_⟩
            rw [hks]
            split at h9
            · rename_i c
              obtain ⟨f, hf⟩ := h9
              rw [if_pos c]
              refine ⟨f, hfs f ?_, D, hD, hf⟩
              obtain ⟨w, hw⟩ := List.exists_mem_of_ne_nil _ (leaf_ne hlf hf)
              refine ⟨w, fun z => ?_⟩
              have := (hS.of_.mem f w n _).mpr ⟨D, hD, hw, rfl⟩
              rw [z] at this
              exact absurd this List.not_mem_nil
            · rename_i c
              rw [if_neg c]
              exact ⟨lf.field, List.mem_singleton.mpr rfl, D, hD, h9⟩
        refine s_retL (el_sset 60 (by omega) (ev_var rfl) (sq_of h6) (by omega) fun n hn => ?_) fun r H7 hr e7 h7 => k9 r H7 (fresh_back eH6 hr) (eH6.trans e7) (by rw [← hans]; exact h7)
        obtain ⟨f, _, D, hD, _⟩ := (hm n).mp hn
        exact hlt n D hD
  · -- not
    refine q_when (b := true) (et_test (kind h1)) (fun _ H1 e1 => ?_) (fun z => nomatch z)
    have e9 : (ansL dd fun _ => True).filter (fun x => !decide (x ∈ ansL dd P')) = ansL dd P9 := ans_ext hlt ((ans_lt _ _).filter _) fun n => by
      rw [List.mem_filter, ans_mem hlt, Bool.not_eq_true', decide_eq_false_iff_not, ans_mem hlt]
      constructor
      · rintro ⟨⟨D, hD, _⟩, hn⟩
        exact ⟨D, hD, (hP D).mpr fun z => hn ⟨D, hD, z⟩⟩
      · rintro ⟨D, hD, hp⟩
        refine ⟨⟨D, hD, trivial⟩, ?_⟩
        rintro ⟨D2, hD2, hp2⟩
        rw [hD] at hD2
        cases hD2
        exact (hP D).mp hp hp2
    have hdocs := docs (H1 := H1) (y2 := none) (y3 := none) (y4 := none) e1
    refine s_retQ (C := fun v H2 => ∃ p, v = .ref p ∧ H1 p = none ∧ Ex H1 H2 ∧ H2 p = some (.lst (nats (ansL dd P9)))) (fun Q2 q2 => ?_) fun v H2 ⟨p, hv, hp, e2, h2⟩ => by
      subst hv
      exact k9 p H2 (fresh_back e1 hp) (e1.trans e2) h2
    refine call_2 (P := fun v H2 => ∃ p, v = .ref p ∧ Ex H1 H2 ∧ H2 p = some (.lst (nats (ansL dd fun _ => True)))) (P2 := fun v H2 H3 => ∃ p, v = .ref p ∧ Ex H2 H3 ∧ H3 p = some (.lst (nats (ansL dd P')))) (fun Q3 q3 => hdocs H1 (Ex.refl _) Q3 fun p H2 _ e2 h2 => q3 _ _ ⟨p, rfl, e2, h2⟩) (fun v H2 ⟨p, hv, e2, h2⟩ Q3 q3 => ?_) fun v u H2 H3 ⟨p, hv, e2, h2⟩ ⟨p2, hv2, e3, h3⟩ => ?_
    · refine ⟨_, rfl, (ev_op (σ := start ["stand", "question", "found", "one", "field"] [.ref sA, .ref q]) (ev_var rfl) ev_c (rv_ixT (K := K) (st_of ((e1.trans e2) _ _ h1)) (v := .ref b) (i := 1) (atI_nat (j := 1) rfl))) H2 (Ex.refl _) _ fun H3 e3 => ⟨L, C, sA, b, dd, T9, nums, P', rfl, hS, eC.trans ((e1.trans e2).trans e3), hq2.mono ((e1.trans e2).trans e3), fun p H4 hp e4 h4 => q3 _ _ ⟨p, rfl, e3.trans e4, h4⟩⟩⟩
    · subst hv hv2
      refine ⟨p, p2, _, _, rfl, e3 _ _ h2, h3, by have := ans_len dd (fun _ => True); omega, by have := ans_len dd P'; omega, ans_lt _ _, ans_lt _ _, fun r H4 hr e4 h4 => q2 _ _ ⟨r, rfl, fresh_back (e2.trans e3) hr, (e2.trans e3).trans e4, ?_⟩⟩
      rw [← e9]
      exact h4
  · -- both
    refine q_when (b := false) (et_is (et_test (kind h1)) (by decide)) (fun z => nomatch z) fun _ H1 e1 => ?_
    refine q_when (b := true) (et_test (kind (e1 _ _ h1))) (fun _ H2 e2 => ?_) (fun z => nomatch z)
    have e12 := e1.trans e2
    refine q_asgL (docs e12) fun p H3 hp e3 h3 => ?_
    have e13 := e12.trans e3
    refine q_forX (H := H3) (ex_list (es := qs) (F := fun x => V.ref x.1) (ev_op (ev_var rfl) ev_c (rv_ixT (K := K) (st_of (e13 _ _ h1)) (v := .ref l) (i := 1) (atI_nat (j := 1) rfl))) (sq_of (e13 _ _ h2))) (Ex.refl _) (fun Hg i σ H4 => ∃ (p : Addr) (y3 y4 : Option V), σ = [some (.ref sA), some (.ref q), some (.ref p), y3, y4] ∧ Ex H3 H4 ∧ Ex Hg H4 ∧ H p = none ∧ H4 p = some (.lst (nats (ansL dd fun D => ∀ x ∈ qs.take i, x.2 D)))) (fun Hg H4 e4 eg => ⟨p, _, _, rfl, e4, eg, fresh_back e12 hp, ?_⟩) (fun Hg i σ H2 ⟨_, _, _, _, _, e, _⟩ => e) ?_ ?_
    · have e9 : (ansL dd fun _ => True) = ansL dd fun D => ∀ x ∈ qs.take 0, x.2 D := by
        congr 1
        funext D
        simp
      rw [← e9]
      exact e4 _ _ h3
    · rintro Hg eg _ i x σ H4 hi ⟨p4, y3, y4, rfl, e4, e4g, hp4, h4⟩ H5 e5
      have hx := hqs x (List.mem_of_getElem? hi)
      have e9 : (ansL dd fun D => ∀ x ∈ qs.take i, x.2 D).filter (fun n => decide (n ∈ ansL dd x.2)) = ansL dd fun D => ∀ x ∈ qs.take (i + 1), x.2 D := ans_ext hlt ((ans_lt _ _).filter _) fun n => by
        rw [List.mem_filter, ans_mem hlt, decide_eq_true_iff, ans_mem hlt]
        have htk : qs.take (i + 1) = qs.take i ++ [x] := by
          rw [List.take_succ, hi, Option.toList_some]
        rw [htk]
        constructor
        · rintro ⟨⟨D, hD, g1⟩, D2, hD2, g2⟩
          rw [hD] at hD2
          cases hD2
          refine ⟨D, hD, fun y hy => ?_⟩
          rcases List.mem_append.mp hy with z | z
          · exact g1 y z
          · rw [List.mem_singleton.mp z]
            exact g2
        · rintro ⟨D, hD, g⟩
          exact ⟨⟨D, hD, fun y hy => g y (List.mem_append_left _ hy)⟩, D, hD, g x (List.mem_append_right _ (List.mem_singleton.mpr rfl))⟩
      have e05 := (e13.trans e4).trans e5
      refine q9_asgL (C := fun v H6 => ∃ p, v = .ref p ∧ H5 p = none ∧ Ex H5 H6 ∧ H6 p = some (.lst (nats (ansL dd fun D => ∀ x ∈ qs.take (i + 1), x.2 D)))) (fun Q6 q6 => ?_) fun v H6 ⟨p6, hv, hp6, e6, h6⟩ => ?_
      · refine call_2 (P := fun v H6 => v = .ref p4 ∧ Ex H5 H6) (P2 := fun v H6 H7 => ∃ p, v = .ref p ∧ Ex H6 H7 ∧ H7 p = some (.lst (nats (ansL dd x.2)))) (fun Q3 q3 => ⟨_, rfl, q3 _ _ ⟨rfl, Ex.refl _⟩⟩) (fun v H6 ⟨hv, e6⟩ Q3 q3 => ⟨_, rfl, _, rfl, L, C, sA, x.1, dd, T9, nums, x.2, rfl, hS, eC.trans (e05.trans e6), hx.mono (e05.trans e6), fun p H7 hp e7 h7 => q3 _ _ ⟨p, rfl, e7, h7⟩⟩) fun v u H6 H7 ⟨hv, e6⟩ ⟨p7, hv7, e7, h7⟩ => ?_
        subst hv hv7
        refine ⟨p4, p7, _, _, rfl, (e5.trans (e6.trans e7)) _ _ h4, h7, by have := ans_len dd (fun D => ∀ x ∈ qs.take i, x.2 D); omega, by have := ans_len dd x.2; omega, ans_lt _ _, ans_lt _ _, fun r H8 hr e8 h8 => q6 _ _ ⟨r, rfl, fresh_back (e6.trans e7) hr, (e6.trans e7).trans e8, ?_⟩⟩
        rw [← e9]
        exact h8
      · subst hv
        exact ⟨p6, _, _, rfl, (e4.trans e5).trans e6, (e4g.trans e5).trans e6, fresh_back e05 hp6, h6⟩
    · rintro Hg eg σ H4 ⟨p4, y3, y4, rfl, e4, e4g, hp4, h4⟩
      have e9 : (fun D => ∀ x ∈ qs, x.2 D) = P9 := by
        funext D
        exact propext (hP D).symm
      rw [List.take_length, e9] at h4
      exact s_ret (ev_var rfl) fun H5 e5 => k9 p4 H5 hp4 ((e13.trans e4).trans e5) (e5 _ _ h4)
  · -- one
    refine q_when (b := false) (et_is (et_test (kind h1)) (by decide)) (fun z => nomatch z) fun _ H1 e1 => ?_
    refine q_when (b := false) (et_is (et_test (kind (e1 _ _ h1))) (by decide)) (fun z => nomatch z) fun _ H2 e2 => ?_
    have e12 := e1.trans e2
    refine q_asgL (el_lst ea_nil (Nat.zero_le _)) fun fp H3 hfp e3 h3 => ?_
    have e13 := e12.trans e3
    refine q_if (b := false) (et_B (ev_is (ev_call (ea_cons (ev_var rfl) ea_nil) fun H4 e4 Q4 q4 E4 => ⟨q, "one", _, rfl, (e13.trans e4) _ _ h1, q4⟩) (by decide))) (fun z => nomatch z) fun _ H4 e4 => ?_
    refine s_forX (H := H2) (ex_list (es := qs) (F := fun x => V.ref x.1) (ev_op (ev_var rfl) ev_c (rv_ixT (K := K) (st_of (e12 _ _ h1)) (v := .ref l) (i := 1) (atI_nat (j := 1) rfl))) (sq_of (e12 _ _ h2))) (e3.trans e4) (fun Hg i σ H5 => ∃ (y3 y4 : Option V) (ms : List Nat), σ = [some (.ref sA), some (.ref q), some (.ref fp), y3, y4] ∧ Ex H2 H5 ∧ Ex Hg H5 ∧ H5 fp = some (.lst (nats ms)) ∧ ms.length ≤ 60 * i ∧ ∀ n, n ∈ ms ↔ ∃ x ∈ qs.take i, ∃ D, dd n = some D ∧ x.2 D) (fun Hg H5 e5 eg => ⟨_, _, [], rfl, (e3.trans e4).trans e5, eg, (e4.trans e5) _ _ h3, Nat.zero_le _, fun n => ⟨fun z => absurd z List.not_mem_nil, fun ⟨f, hf, _⟩ => absurd hf (by simp)⟩⟩) (fun Hg i σ H2 ⟨_, _, _, _, _, e, _⟩ => e) ?_ ?_
    · rintro Hg eg hgn i x σ H5 hi ⟨y3, y4, ms, rfl, e5, e5g, h5, hml, hm⟩ H6 e6
      have hx := hqs x (List.mem_of_getElem? hi)
      have hil : i < qs.length := (List.getElem?_eq_some_iff.mp hi).1
      have e06 := (e12.trans e5).trans e6
      show tDrop _ _ [some (.ref sA), some (.ref q), some (.ref fp), some (.ref x.1), y4] H6
      refine s_extN (ys := nats (ansL dd x.2)) (e6 _ _ h5) (ev_var rfl) (el_call (ea_cons (ev_var rfl) (ea_cons (ev_var rfl) ea_nil)) fun H7 e7 Q7 q7 E7 => ⟨L, C, sA, x.1, dd, T9, nums, x.2, rfl, hS, eC.trans (e06.trans e7), hx.mono (e06.trans e7), q7⟩) ?_ fun H7 e7 => ?_
      · have := ans_len dd x.2
        rw [List.length_map, List.length_map]
        omega
      · refine ⟨_, _, ms ++ ansL dd x.2, rfl, ((e5.trans e6).trans e7).mut hfp, ((e5g.trans e6).trans e7).mut (hgn fp (ns (e4 _ _ h3)) hfp), by rw [upd_same, nats_app], by have := ans_len dd x.2; rw [List.length_append]; omega, fun n => ?_⟩
        have htk : qs.take (i + 1) = qs.take i ++ [x] := by
          rw [List.take_succ, hi, Option.toList_some]
        rw [List.mem_append, hm n, ans_mem hlt, htk]
        constructor
        · rintro (⟨f, hf, g⟩ | g)
          · exact ⟨f, List.mem_append_left _ hf, g⟩
          · exact ⟨x, List.mem_append_right _ (List.mem_singleton.mpr rfl), g⟩
        · rintro ⟨f, hf, g⟩
          rcases List.mem_append.mp hf with z | z
          · exact .inl ⟨f, z, g⟩
          · rw [List.mem_singleton.mp z] at g
            exact .inr g
    · rintro Hg eg σ H5 ⟨y3, y4, ms, rfl, e5, e5g, h5, hml, hm⟩
      rw [List.take_length] at hm
      have e05 := e12.trans e5
      have hans : upto 60 (fun n => decide (n ∈ ms)) = ansL dd P9 := ans_ext hlt (upto_lt _ _) fun n => by
        rw [upto_mem, decide_eq_true_iff, hm n]
        constructor
        · rintro ⟨_, x, hx, D, hD, g⟩
          exact ⟨D, hD, (hP D).mpr ⟨x, hx, g⟩⟩
        · rintro ⟨D, hD, hp9⟩
          obtain ⟨x, hx, g⟩ := (hP D).mp hp9
          exact ⟨hlt n D hD, x, hx, D, hD, g⟩
      refine s_retL (el_sset 60 (by omega) (ev_var rfl) (sq_of h5) (by omega) fun n hn => ?_) fun r H7 hr e7 h7 => k9 r H7 (fresh_back e05 hr) (e05.trans e7) (by rw [← hans]; exact h7)
      obtain ⟨f, _, D, hD, _⟩ := (hm n).mp hn
      exact hlt n D hD
end Fc
/-! Answers of a question two deep; what came and went. -/
namespace Fc
open PySem PySem.Spec PyProof.Rows L2 Evl
theorem ok_ans0 {P : Program} {w : World} {K : PySem.W.Frag} {mg : Str → Option Value} {base : Heap} (k : Nat) (G : Gd K mg "answers_of" s_answers_of ) : OkF P w K mg base (k+1) "answers_of" ["stand", "question"] (sp_answers_of K 0) := by
  refine G.ok (k := k) sc_answers_of (fun _ _ _ _ _ _ us hl => match us, hl with | [_, _], _ => rfl) (fun vs H Q E h => ?_) (fun f cdv A outer s H vs Q E hr h => ?_)
  · obtain ⟨L, C, s, q, dd, T, nums, P, h1, h2, h3, h4, h5⟩ := h
    exact h4.elim
  · obtain ⟨L, C, s, q, dd, T, nums, P, h1, h2, h3, h4, h5⟩ := h
    exact h4.elim
def sp_changed (K : PySem.W.Frag) : Sp := fun vs H Q _ => ∃ (La Lb : List Str) (C : Hp) (s1 s2 q : Addr) (d1 d2 : Nat → Option Wd) (T1 T2 : Tab) (n1 n2 : List Nat) (P : Wd → Prop), vs = [.ref s1, .ref s2, .ref q] ∧ SdAt K La C s1 d1 T1 n1 ∧ SdAt K Lb C s2 d2 T2 n2 ∧ Ex C H ∧ QAt 3 H q P ∧
  ∀ t l1 l2 H', H l1 = none → Ex H H' → H' t = some (.tup [.ref l1, .ref l2]) → H' l1 = some (.lst (nats ((ansL d2 P).filter fun n => !decide (n ∈ ansL d1 P)))) → H' l2 = some (.lst (nats ((ansL d1 P).filter fun n => !decide (n ∈ ansL d2 P)))) → Q (.ref t) H'
theorem sc_changed : FnScope ["older", "newer", "question", "before", "behind", "came", "document"] ["older", "newer", "question"] (defScope s_changed) := ⟨rfl, rfl, rfl, by decide +kernel, rfl, by decide +kernel, by decide +kernel⟩
theorem ok_changed {P : Program} {w : World} {K : PySem.W.Frag} {mg : Str → Option Value} {base : Heap} (G : Gd K mg "changed" s_changed) (T : Tx K mg) (O_answers_of : OkF P w K mg base 10 "answers_of" ["stand", "question"] (sp_answers_of K 3)) : OkF P w K mg base 11 "changed" ["older", "newer", "question"] (sp_changed K) := by
  refine G.ok (k := 10) sc_changed (fun _ _ _ _ _ _ us hl => match us, hl with | [_, _, _], _ => rfl) (fun vs H Q E h => ?_) (fun f cdv A outer s H vs Q E hr h => ?_)
  · unfold sp_changed at h
    repeat (first | (obtain ⟨rfl, h⟩ := h; rfl) | (obtain ⟨_, h⟩ := h))
  have hu := hu_of hr
  refine ⟨_, (pss_cons (psv 3 sc_changed.nd (pe_fn O_answers_of (hr.mono (by decide)) (pa_cons (pv 0) (pa_cons (pv 2) pa_nil))))
      (pss_cons (psv 4 sc_changed.nd (pe_fn O_answers_of (hr.mono (by decide)) (pa_cons (pv 1) (pa_cons (pv 2) pa_nil))))
      (pss_cons (ps_setLc (i := 5) (own := [("document", 6)]) (g := gName 6) rfl sc_changed.nd rfl rfl (sw_true rfl rfl rfl (by decide +kernel)) (pi_list (pv 4)) (blkOk_by (own := [("document", 6)]) (N := ["older", "newer", "question", "before", "behind", "came", "document"]) (sc := defScope s_changed) (by decide +kernel)) (fun _ _ _ _ _ => (pgv 6 sc_changed.nd)) (fun _ _ _ _ _ => (pts_one (pt_cmpR (opNotInK K) (pv 6) (pv 3) (by with_unfolding_all rfl)))) (fun _ _ _ _ _ => (pv 6)))
      (pss_one (ps_ret (pe_tup (pa_cons (pv 5) (pa_cons (pe_lc (own := [("document", 6)]) (g := gName 6) rfl sc_changed.nd (pi_list (pv 3)) (blkOk_by (own := [("document", 6)]) (N := ["older", "newer", "question", "before", "behind", "came", "document"]) (sc := defScope s_changed) (by decide +kernel)) (fun _ _ _ _ _ => (pgv 6 sc_changed.nd)) (fun _ _ _ _ _ => (pts_one (pt_cmpR (opNotInK K) (pv 6) (pv 4) (by with_unfolding_all rfl)))) (fun _ _ _ _ _ => (pv 6))) pa_nil)))))))), ?_⟩
  obtain ⟨La, Lb, C, s1, s2, q, d1, d2, T1, T2, n1, n2, P9, rfl, hS1, hS2, eC, hq, k⟩ := h
  refine q_asgL (el_call (ea_cons (ev_var rfl) (ea_cons (ev_var rfl) ea_nil)) fun H1 e1 Q1 q1 E1 => ⟨La, C, s1, q, d1, T1, n1, P9, rfl, hS1, eC.trans e1, hq.mono e1, q1⟩) fun a H1 ha e1 h1 => ?_
  refine q_asgL (el_call (ea_cons (ev_var rfl) (ea_cons (ev_var rfl) ea_nil)) fun H2 e2 Q2 q2 E2 => ⟨Lb, C, s2, q, d2, T2, n2, P9, rfl, hS2, eC.trans (e1.trans e2), hq.mono (e1.trans e2), q2⟩) fun b H2 hb e2 h2 => ?_
  have e12 := e1.trans e2
  have lc : ∀ {H3 : Hp} {σ : L2.St} {x y : Addr} {xs ys : List Nat} {i j : Nat}, H3 x = some (.lst (nats xs)) → H3 y = some (.lst (nats ys)) → xs.length ≤ 60 → σ[i]? = some (some (.ref x)) → (∀ v, ((wipe σ [6]).set 6 (some v))[j]? = some (some (.ref y))) → (∀ v, wipe ((wipe σ [6]).set 6 (some v)) [6] = wipe σ [6]) → (∀ v, ((wipe σ [6]).set 6 (some v))[6]? = some (some v)) → EvL (tLc (iList K (tVar i)) (gName 6) (tTest (tOp (rIn K true) (tVar 6) (tVar j))) (tVar 6) [6]) σ H3 (nats (xs.filter fun n => !decide (n ∈ ys))) := fun {H3 σ x y xs ys i j} hx hy hl si sj hw s6 =>
    el_lcX (es := xs) (st := fun n σ0 => σ0.set 6 (some (.int (n : Int)))) (fun n => !decide (n ∈ ys)) (fun n : Nat => V.int (n : Int)) (ex_list (F := fun n : Nat => V.int (n : Int)) (ev_var si) (sq_of hx)) (by omega) (fun n => hw _) (fun n _ H4 e4 => et_test (ev_op (ev_var (s6 _)) (ev_var (sj _)) (by rw [← inV_nat]; exact rv_niL (sq_of (e4 _ _ hy)) rfl (flat_nats ys)))) (fun n _ H4 e4 _ => ev_var (s6 _))
  refine q_asgL (lc h2 (e2 _ _ h1) (ans_len d2 P9) rfl (fun _ => rfl) (fun _ => rfl) (fun _ => rfl)) fun l1 H3 hl1 e3 h3 => ?_
  have h := lc (H3 := H3) (σ := [some (.ref s1), some (.ref s2), some (.ref q), some (.ref a), some (.ref b), some (.ref l1), none]) (i := 3) (j := 4) ((e2.trans e3) _ _ h1) (e3 _ _ h2) (ans_len d1 P9) rfl (fun _ => rfl) (fun _ => rfl) (fun _ => rfl)
  refine s_retQ (C := fun v H4 => ∃ t l2, v = .ref t ∧ Ex H3 H4 ∧ H4 t = some (.tup [.ref l1, .ref l2]) ∧ H4 l2 = some (.lst (nats ((ansL d1 P9).filter fun n => !decide (n ∈ ansL d2 P9))))) (fun Q4 q4 => ⟨_, rfl, h H3 (Ex.refl _) _ fun l2 H4 hl2 e4 h4 => ⟨sizeLine_of (by simp), fun t ht => q4 _ _ ⟨t, l2, rfl, e4.trans (Ex.new ht), upd_same, (Ex.new ht) _ _ h4⟩⟩⟩) fun v H4 ⟨t, l2, hv, e4, h4, h5⟩ => by
    subst hv
    exact k t l1 l2 H4 (fresh_back e12 hl1) ((e12.trans e3).trans e4) h4 (e4 _ _ h3) h5
end Fc
/-! The law's draws. -/
namespace Fc
open PySem PySem.Spec PyProof.Rows L2 Evl
/-! ### lists against the empty one -/
theorem nats_lay (ns : List Nat) : SeqAt.shaped (.list (ns.map fun n : Nat => PyData.int (n : Int))) = true := by
  have h1 := lay_map (F := fun n : Nat => PyData.int (n : Int)) (es := ns) fun n _ => by simp [PyData.canLay0]
  have h2 := dep_map (F := fun n : Nat => PyData.int (n : Int)) (k := 1) (fun n => by simp [PyData.depth]) ns
  unfold SeqAt.shaped
  have h3 : PyData.depth (.list (ns.map fun n : Nat => PyData.int (n : Int))) ≤ 64 := by
    simp only [PyData.depth]
    omega
  rw [decide_eq_true h3]
  simp [PyData.canLay0, h1]
theorem dp_nats {K : PySem.W.Frag} {H : Hp} : ∀ ns : List Nat, DpAll K H (nats ns) (ns.map fun n : Nat => PyData.int (n : Int))
  | [] => .nil
  | n :: r => .cons (.int _) (dp_nats r)
theorem strs_lay {ws : List Str} (h : ∀ w ∈ ws, ∀ c ∈ w.cps.toList, c < 1114112) : SeqAt.shaped (.list (ws.map PyData.str)) = true := by
  have h1 := lay_map (F := PyData.str) (es := ws) fun w hw => by simp [PyData.canLay0, strOk_of (h w hw)]
  have h2 := dep_map (F := PyData.str) (k := 1) (fun n => by simp [PyData.depth]) ws
  unfold SeqAt.shaped
  have h3 : PyData.depth (.list (ws.map PyData.str)) ≤ 64 := by
    simp only [PyData.depth]
    omega
  rw [decide_eq_true h3]
  simp [PyData.canLay0, h1]
theorem dp_strs {K : PySem.W.Frag} {H : Hp} : ∀ ws : List Str, DpAll K H (ws.map V.str) (ws.map PyData.str)
  | [] => .nil
  | n :: r => .cons (.str _) (dp_strs r)
theorem nil_eq {α : Type} (F : α → PyData) (es : List α) : PyData.eqv (.list (es.map F)) (.list []) = decide (es = []) := by
  cases es with
  | nil => rfl
  | cons e r => simp [PyData.eqv, PyData.eqvAll]
theorem nil_shaped : SeqAt.shaped (.list []) = true := by decide
section
variable {K : PySem.W.Frag} {σ : L2.St} {H : Hp} {ta : TE}
theorem ev_natsNil {a : Addr} {ns : List Nat} (ha : Ev ta σ H (.ref a)) (h : SqL K H a (nats ns)) : Ev (tOp (rEqD K) ta (tLst tNil)) σ H (.bl (decide (ns = []))) :=
  ev_opL ha (el_lst ea_nil (Nat.zero_le _)) fun p H1 hp1 e1 H2 e2 Q2 q2 => ⟨_, _, .lst (ex_l (e1.trans e2) h) (dp_nats ns), .lst (sq_of (e2 _ _ hp1)) .nil, nats_lay ns, nil_shaped, by rw [nil_eq]; exact q2 H2 (Ex.refl _)⟩
end
/-! ### numbers -/
def sp_law_mix : Sp := fun vs H Q _ => ∃ (c : Int) (k : Nat), vs = [.int c, .int (k : Int)] ∧ k ≤ 1000 ∧ ∀ (r : Nat) H2, r < 2147483648 → Ex H H2 → Q (.int (r : Int)) H2
theorem sc_law_mix : FnScope ["_law_cell", "_law_turn", "_law_number"] ["_law_cell", "_law_turn"] (defScope s_law_mix) := ⟨rfl, rfl, rfl, by decide +kernel, rfl, by decide +kernel, by decide +kernel⟩
theorem ok_law_mix {P : Program} {w : World} {K : PySem.W.Frag} {mg : Str → Option Value} {base : Heap} (G : Gd K mg "_law_mix" s_law_mix) (T : Tx K mg) : OkF P w K mg base 1 "_law_mix" ["_law_cell", "_law_turn"] sp_law_mix := by
  refine G.ok (k := 0) sc_law_mix (fun _ _ _ _ _ _ us hl => match us, hl with | [_, _], _ => rfl) (fun vs H Q E h => ?_) (fun f cdv A outer s H vs Q E hr h => ?_)
  · unfold sp_law_mix at h
    repeat (first | (obtain ⟨rfl, h⟩ := h; rfl) | (obtain ⟨_, h⟩ := h))
  have hu := hu_of hr
  refine ⟨_, (pss_cons (psv 2 sc_law_mix.nd (pe_op op_mod (pe_op op_mul (pe_op op_add (pe_op op_add (pe_op op_mod (pv 0) pe_int) (pe_op op_mul (pe_op op_mul (pv 1) (pv 1)) pe_int)) pe_int) pe_int) pe_int))
      (pss_one (ps_ret (pe_op op_mod (pe_op op_add (pe_op op_mul (pv 2) (pv 2)) (pe_op op_mul pe_int (pv 1))) pe_int)))), ?_⟩
  obtain ⟨c, n, rfl, hn, k⟩ := h
  have hnn : (n : Int) * (n : Int) ≤ 1000000 := by
    have := Nat.mul_le_mul hn hn
    have e : (n : Int) * (n : Int) = ((n * n : Nat) : Int) := by simp
    omega
  have hnp : 0 ≤ (n : Int) * (n : Int) := Int.mul_nonneg (by omega) (by omega)
  have hm1 : 0 ≤ c % 2147483647 := Int.emod_nonneg _ (by decide)
  have hm2 : c % 2147483647 < 2147483647 := Int.emod_lt_of_pos _ (by decide)
  generalize hv : (c % 2147483647 + (n : Int) * (n : Int) * 7919 + 104729) * 48271 % 2147483647 = v
  have hv1 : 0 ≤ v := by
    rw [← hv]
    exact Int.emod_nonneg _ (by decide)
  have hv2 : v < 2147483647 := by
    rw [← hv]
    exact Int.emod_lt_of_pos _ (by decide)
  refine q_asg (v := .int v) ?_ fun H1 e1 => ?_
  · refine ev_is (ev_op (ev_op (ev_op (ev_op (ev_op (ev_var rfl) ev_c (rv_I (by decide))) (ev_op (ev_op (ev_var rfl) (ev_var rfl) (rv_I (.inr ⟨by omega, by omega⟩))) ev_c (rv_I (.inr (by decide)))) rv_I0) ev_c rv_I0) ev_c (rv_I (.inr (by decide)))) ev_c (rv_I (by decide))) ?_
    rw [← hv]
  · refine s_ret (v := .int ((v * v + 69621 * (n : Int)) % 2147483629)) (ev_op (ev_op (ev_op (ev_var rfl) (ev_var rfl) (rv_I (.inr ⟨by omega, by omega⟩))) (ev_op ev_c (ev_var rfl) (rv_I (.inl (by decide)))) rv_I0) ev_c (rv_I (by decide))) fun H2 e2 => ?_
    have h1 : 0 ≤ (v * v + 69621 * (n : Int)) % 2147483629 := Int.emod_nonneg _ (by decide)
    have h2 : (v * v + 69621 * (n : Int)) % 2147483629 < 2147483629 := Int.emod_lt_of_pos _ (by decide)
    have h3 : (((v * v + 69621 * (n : Int)) % 2147483629).toNat : Int) = (v * v + 69621 * (n : Int)) % 2147483629 := Int.toNat_of_nonneg h1
    have q := k ((v * v + 69621 * (n : Int)) % 2147483629).toNat H2 (by omega) (e1.trans e2)
    rw [h3] at q
    exact q
def Sm (ds : List Nat) : Prop := ∀ x ∈ ds, x < 2147483648
/-- a list that is drawn from -/
def Dr (H : Hp) (d : Addr) : Prop := ∃ ds : List Nat, H d = some (.lst (nats ds)) ∧ Sm ds
theorem Dr.ex {H H2 : Hp} {d : Addr} (h : Dr H d) (e : Ex H H2) : Dr H2 d := by
  obtain ⟨ds, h1, h2⟩ := h
  exact ⟨ds, e _ _ h1, h2⟩
/-- what a function that draws leaves: v with what N tells of it -/
def Drew (H : Hp) (d : Addr) (N : V → Hp → Prop) (Q : VK) : Prop := ∀ v H', Ex (del H d) H' → Dr H' d → N v H' → Q v H'
def sp_law_pop : Sp := fun vs H Q _ => ∃ d : Addr, vs = [.ref d] ∧ Dr H d ∧ Drew H d (fun v _ => ∃ n : Nat, v = .int (n : Int) ∧ n < 2147483648) Q
theorem sc_law_pop : FnScope ["_law_draws_here"] ["_law_draws_here"] (defScope s_law_pop) := ⟨rfl, rfl, rfl, by decide +kernel, rfl, by decide +kernel, by decide +kernel⟩
theorem ok_law_pop {P : Program} {w : World} {K : PySem.W.Frag} {mg : Str → Option Value} {base : Heap} (G : Gd K mg "_law_pop" s_law_pop) (T : Tx K mg) : OkF P w K mg base 1 "_law_pop" ["_law_draws_here"] sp_law_pop := by
  refine G.ok (k := 0) sc_law_pop (fun _ _ _ _ _ _ us hl => match us, hl with | [_], _ => rfl) (fun vs H Q E h => ?_) (fun f cdv A outer s H vs Q E hr h => ?_)
  · unfold sp_law_pop at h
    repeat (first | (obtain ⟨rfl, h⟩ := h; rfl) | (obtain ⟨_, h⟩ := h))
  have hu := hu_of hr
  refine ⟨_, (pss_cons (ps_if (pt_cmpR (eqDK K hr.units) (pv 0) (pe_lst pa_nil) (nomark _)) (pss_one (ps_ret pe_int)) pss_nil)
      (pss_one (ps_ret (pe_bm0 PySem.F.plainAttrs_list PySem.F.slot_list_pop PySem.F.type_list_pop mt_pop (pv 0))))), ?_⟩
  obtain ⟨d, rfl, ⟨ds, hd, hs⟩, k⟩ := h
  refine q_when (et_test (ev_natsNil (ev_var rfl) (sq_of hd))) (fun hb H1 e1 => ?_) fun hb H1 e1 => ?_
  · exact s_ret ev_c fun H2 e2 => k _ H2 (del_ex.trans (e1.trans e2)) ⟨ds, (e1.trans e2) _ _ hd, hs⟩ ⟨0, rfl, by decide⟩
  · have hne : ds ≠ [] := of_decide_eq_false hb
    have hd1 := e1 _ _ hd
    have hlen : 0 < ds.length := List.length_pos_iff.mpr hne
    refine ⟨_, rfl, .inl ⟨rfl, _, sq_of hd1⟩, d, nats ds, .int ((ds[ds.length - 1]'(by omega) : Nat) : Int), rfl, rfl, hd1, ?_, ?_⟩
    · rw [List.length_map, List.getElem?_map, List.getElem?_eq_getElem (by omega)]
      rfl
    · have e9 : (nats ds).dropLast = nats ds.dropLast := (List.map_dropLast ..).symm
      rw [e9]
      refine k _ _ (fun b o hb2 => ?_) ⟨ds.dropLast, upd_same, fun x hx => hs x ((List.dropLast_sublist ds).subset hx)⟩ ⟨_, rfl, hs _ (List.getElem_mem _)⟩
      have hbd : b ≠ d := fun z => by
        rw [z, del_at] at hb2
        cases hb2
      rw [upd_ne hbd]
      exact e1 _ _ (del_ex _ _ hb2)
theorem cut_nats (ds : List Nat) (lo hi : Option Int) : ∃ ds2 : List Nat, cutV (nats ds) lo hi = nats ds2 ∧ ∀ x ∈ ds2, x ∈ ds := by
  unfold cutV
  refine ⟨(ds.drop (HT.sIx (nats ds).length 0 lo)).take (HT.sIx (nats ds).length (nats ds).length hi - HT.sIx (nats ds).length 0 lo), ?_, fun x hx => List.mem_of_mem_drop (List.mem_of_mem_take hx)⟩
  show List.take _ (List.drop _ (List.map _ ds)) = List.map _ _
  rw [List.map_take, List.map_drop]
def sp_law_draws (K : PySem.W.Frag) : Sp := fun vs H Q _ => ∃ (l : Addr) (ns : List Int) (t m : Nat), vs = [.ref l, .int (t : Int), .int (m : Int)] ∧ SqL K H l (ns.map V.int) ∧ t + m ≤ 1000 ∧ ∀ p H2, H p = none → Ex H H2 → Dr H2 p → Q (.ref p) H2
theorem sc_law_draws : FnScope ["_law_script", "_law_turn", "_law_many", "_law_cells", "_law_lefts", "_law_cell", "_law_found", "_law_k", "_law_at", "_law_number"] ["_law_script", "_law_turn", "_law_many"] (defScope s_law_draws) := ⟨rfl, rfl, rfl, by decide +kernel, rfl, by decide +kernel, by decide +kernel⟩
theorem ok_law_draws {P : Program} {w : World} {K : PySem.W.Frag} {mg : Str → Option Value} {base : Heap} (G : Gd K mg "_law_draws" s_law_draws) (T : Tx K mg) (O_law_mix : OkF P w K mg base 1 "_law_mix" ["_law_cell", "_law_turn"] sp_law_mix) : OkF P w K mg base 2 "_law_draws" ["_law_script", "_law_turn", "_law_many"] (sp_law_draws K) := by
  refine G.ok (k := 1) sc_law_draws (fun _ _ _ _ _ _ us hl => match us, hl with | [_, _, _], _ => rfl) (fun vs H Q E h => ?_) (fun f cdv A outer s H vs Q E hr h => ?_)
  · unfold sp_law_draws at h
    repeat (first | (obtain ⟨rfl, h⟩ := h; rfl) | (obtain ⟨_, h⟩ := h))
  have hu := hu_of hr
  refine ⟨_, (pss_cons (psv 3 sc_law_draws.nd (pe_op op_cat (pe_slice (slLK K) (pv 0) po_none (po_some pe_int)) (pe_lst (pa_cons (pv 1) pa_nil))))
      (pss_cons (ps_setLc (i := 4) (own := [("_law_cell", 5)]) (g := gName 5) rfl sc_law_draws.nd rfl rfl (sw_true rfl rfl rfl (by decide +kernel)) (pi_list (pv 3)) (blkOk_by (own := [("_law_cell", 5)]) (N := ["_law_script", "_law_turn", "_law_many", "_law_cells", "_law_lefts", "_law_cell", "_law_found", "_law_k", "_law_at", "_law_number"]) (sc := defScope s_law_draws) (by decide +kernel)) (fun _ _ _ _ _ => (pgv 5 sc_law_draws.nd)) (fun _ _ _ _ _ => pts_nil) (fun _ _ _ _ _ => (pe_op op_fdiv (pv 5) pe_int)))
      (pss_cons (psv 6 sc_law_draws.nd (pe_lst pa_nil))
      (pss_cons (ps_for PassesOwn.never rfl (pi_range1 rfl T.n_range (pa_cons (pe_op op_add (pv 1) (pv 2)) pa_nil)) (pgv 7 sc_law_draws.nd)
        (pss_cons (psv 8 sc_law_draws.nd (pe_op op_mod (pv 7) (pe_callB (id := "len") (lenK K) rfl T.n_len PySem.boot_len (pa_cons (pv 3) pa_nil))))
        (pss_cons (psv 9 sc_law_draws.nd (pe_fn O_law_mix (hr.mono (by decide)) (pa_cons (pe_ix (ixlK K) (pv 3) (pv 8) (fun _ _ => rfl)) (pa_cons (pv 7) pa_nil))))
        (pss_cons (psv 9 sc_law_draws.nd (pe_op op_mod (pe_op op_add (pe_op op_mul (pv 9) (pv 9)) (pe_op op_mul pe_int (pv 7))) pe_int))
        (pss_cons (ps_if (PW.pt (pw_and (pt_cmpR op_ge (pe_ix (ixlK K) (pv 3) (pv 8) (fun _ _ => rfl)) (pe_op op_pow pe_int pe_int) (nomark _)) (pw_and1 (pt_cmpR op_gt (pe_ix (ixlK K) (pv 4) (pv 8) (fun _ _ => rfl)) pe_int (nomark _))))) (pss_cons (psv 9 sc_law_draws.nd (pe_op op_mod (pe_ix (ixlK K) (pv 4) (pv 8) (fun _ _ => rfl)) pe_int))
          (pss_one (ps_asg (pe_op op_fdivW (pe_ix (ixlK K) (pv 4) (pv 8) (fun _ _ => rfl)) pe_int) (pg_sub (pv 4) (pv 8) set_list)))) pss_nil)
        (pss_one (ps_expr (pe_bm PySem.F.plainAttrs_list PySem.F.slot_list_append PySem.F.type_list_append mt_append (pv 6) (pa_cons (pv 9) pa_nil)))))))))
      (pss_one (ps_ret (pe_slice (slLK K) (pv 6) (po_some (pv 1)) po_none))))))), ?_⟩
  obtain ⟨l, nsc, t, m, rfl, hl, htm, k⟩ := h
  -- cells
  have hcut : cutV (nsc.map V.int) none (some 63) = (nsc.take 63).map V.int := by
    unfold cutV
    rw [HT.sIx_none]
    have e := HT.sIx_nat (nsc.map V.int).length (nsc.map V.int).length 63
    rw [show ((63 : Nat) : Int) = (63 : Int) from rfl] at e
    rw [e, List.drop_zero, Nat.sub_zero, List.map_take]
    by_cases c : 63 ≤ (nsc.map V.int).length
    · rw [Nat.min_eq_left c]
    · rw [Nat.min_eq_right (by omega), List.take_of_length_le (Nat.le_refl _), List.take_of_length_le (by omega)]
  generalize hcs : nsc.take 63 ++ [(t : Int)] = cs
  have hcl : 0 < cs.length ∧ cs.length ≤ 64 := by
    rw [← hcs, List.length_append, List.length_singleton, List.length_take]
    omega
  refine q_asgQ (C := fun v H1 => ∃ a, v = .ref a ∧ H a = none ∧ Ex H H1 ∧ H1 a = some (.lst (cs.map V.int))) (fun Q1 q1 => ?_) fun v H1 ⟨a, hv, ha, e1, h1⟩ => ?_
  · have hsl := el_sl (K := K) (te := tVar 0) (tl := tNoPart) (th := tPart (tC (.int 63))) (σ := start ["_law_script", "_law_turn", "_law_many", "_law_cells", "_law_lefts", "_law_cell", "_law_found", "_law_k", "_law_at", "_law_number"] [.ref l, .int (t : Int), .int (m : Int)]) (H := H) (a := l) (ev_var rfl) eo_none (eo_some ev_c) hl
    rw [hcut] at hsl
    refine hsl H (Ex.refl _) _ fun p H2 hp e2 h2 => ⟨_, rfl, sizeLine_of (by simp), fun b hb => ⟨p, b, _, _, rfl, rfl, (Ex.new hb) _ _ h2, upd_same, sizeLine_of (by simp; omega), fun r hr => q1 _ _ ⟨r, rfl, fresh_back (e2.trans (Ex.new hb)) hr, (e2.trans (Ex.new hb)).trans (Ex.new hr), ?_⟩⟩⟩
    rw [upd_same, ← hcs, List.map_append]
    rfl
  subst hv
  -- lefts
  refine q_asgL (xs := (cs.map fun c => c / 100000).map V.int) ?_ fun b H2 hb e2 h2 => ?_
  · have q := el_lcX (ti := iList K (tVar 3)) (g := gName 5) (vs := [5]) (t := tYes) (te := tOp (rI CDiv fun i j => .int (i / j)) (tVar 5) (tC (.int 100000))) (es := cs) (σ := [some (.ref l), some (.int (t : Int)), some (.int (m : Int)), some (.ref a), none, none, none, none, none, none]) (H := H1) (st := fun (c : Int) σ0 => σ0.set 5 (some (.int c))) (fun _ => true) (fun c => V.int (c / 100000)) (ex_list (F := V.int) (ev_var rfl) (sq_of h1)) (by omega) (fun x => rfl) (fun _ _ H3 _ H4 _ Q4 q4 => q4 H4 (Ex.refl _)) fun x hx H3 e3 _ => ev_op (ev_var rfl) ev_c (rv_I ⟨by decide, by decide⟩)
    rw [List.filter_eq_self.mpr (fun _ _ => rfl)] at q
    rw [List.map_map]
    exact q
  have e12 := e1.trans e2
  have h1b := e2 _ _ h1
  -- found
  refine q_asgL (el_lst ea_nil (Nat.zero_le _)) fun p H3 hp e3 h3 => ?_
  have e13 := e12.trans e3
  have hab : a ≠ b := own_ne h1 hb
  have hap : a ≠ p := own_ne h1b hp
  have hbp : b ≠ p := own_ne h2 hp
  have hpH : H p = none := fresh_back e12 hp
  have hbH : H b = none := fresh_back e1 hb
  refine q_forR1 (n := (t : Int) + (m : Int)) (ea_cons (ev_op (ev_var rfl) (ev_var rfl) rv_I0) ea_nil) (by omega) (fun i σ H4 => ∃ (y5 y7 y8 y9 : Option V) (ls : List Int) (ds : List Nat), σ = [some (.ref l), some (.int (t : Int)), some (.int (m : Int)), some (.ref a), some (.ref b), y5, some (.ref p), y7, y8, y9] ∧ Ex H H4 ∧ H4 a = some (.lst (cs.map V.int)) ∧ H4 b = some (.lst (ls.map V.int)) ∧ ls.length = cs.length ∧ H4 p = some (.lst (nats ds)) ∧ Sm ds ∧ ds.length = i) (fun H4 e4 => ⟨none, none, none, none, _, [], rfl, e13.trans e4, (e3.trans e4) _ _ h1b, (e3.trans e4) _ _ h2, by rw [List.length_map], e4 _ _ h3, (fun _ h => absurd h List.not_mem_nil), rfl⟩) ?_ ?_
  · rintro i σ H4 hi ⟨y5, y7, y8, y9, ls, ds, rfl, e4, a4, b4, hll, p4, hsm, hdl⟩
    have hmod : (i % cs.length : Nat) < cs.length := Nat.mod_lt _ hcl.1
    have hlenE : ∀ (σ9 : L2.St) H9, σ9[3]? = some (some (.ref a)) → H9 a = some (.lst (cs.map V.int)) → Ev (tCB (rLenQ K) (tCons (tVar 3) tNil)) σ9 H9 (.int (cs.length : Int)) := fun σ9 H9 s3 h9 => by
      have q := ev_lenL (K := K) (ta := tVar 3) (σ := σ9) (ev_var s3) (sq_of h9)
      rw [List.length_map] at q
      exact q
    refine q_asg (v := .int ((i % cs.length : Nat) : Int)) (ev_is (ev_op (ev_var rfl) (hlenE _ _ rfl a4) (rv_I (by omega))) (by simp)) fun H5 e5 => ?_
    have a5 := e5 _ _ a4
    have hcat := List.getElem?_eq_getElem hmod
    generalize cs[i % cs.length] = c0 at hcat
    have cellE : ∀ (σ9 : L2.St) H9, σ9[3]? = some (some (.ref a)) → σ9[8]? = some (some (.int ((i % cs.length : Nat) : Int))) → H9 a = some (.lst (cs.map V.int)) → Ev (tOp (rIxL K) (tVar 3) (tVar 8)) σ9 H9 (.int c0) := fun σ9 H9 s3 s8 h9 => ev_op (ev_var s3) (ev_var s8) (rv_ixL (sq_of h9) (atI_nat (by rw [List.getElem?_map, hcat]; rfl)))
    refine q_asgQ (C := fun v H6 => ∃ r : Nat, v = .int (r : Int) ∧ r < 2147483648 ∧ Ex H5 H6) (fun Q6 q6 => ?_) fun v H6 ⟨r, hv, hr6, e6⟩ => ?_
    · refine (ea_cons (cellE _ H5 rfl rfl a5) (ea_cons (ev_var rfl) ea_nil)) H5 (Ex.refl _) _ fun H6 e6 => ⟨c0, i, rfl, by omega, fun r H7 hr e7 => q6 _ _ ⟨r, rfl, hr, e6.trans e7⟩⟩
    subst hv
    have a6 := e6 _ _ a5
    have hw1 : 0 ≤ ((r : Int) * (r : Int) + 7 * (i : Int)) % 2147483587 := Int.emod_nonneg _ (by decide)
    have hw2 : ((r : Int) * (r : Int) + 7 * (i : Int)) % 2147483587 < 2147483587 := Int.emod_lt_of_pos _ (by decide)
    generalize hw : ((r : Int) * (r : Int) + 7 * (i : Int)) % 2147483587 = w9 at hw1 hw2
    obtain ⟨w, rfl⟩ : ∃ w : Nat, w9 = (w : Int) := ⟨w9.toNat, (Int.toNat_of_nonneg hw1).symm⟩
    refine q_asg (v := .int (w : Int)) (ev_is (ev_op (ev_op (ev_op (ev_var rfl) (ev_var rfl) (rv_I (.inr ⟨by omega, by omega⟩))) (ev_op ev_c (ev_var rfl) (rv_I (.inl (by decide)))) rv_I0) ev_c (rv_I (by decide))) (by rw [← hw])) fun H7 e7 => ?_
    have a7 := e7 _ _ a6
    have e47 := (e5.trans e6).trans e7
    have b7 := e47 _ _ b4
    have p7 := e47 _ _ p4
    have hlat := List.getElem?_eq_getElem (l := ls) (i := i % cs.length) (by rw [hll]; exact hmod)
    generalize ls[i % cs.length]'(by rw [hll]; exact hmod) = l0 at hlat
    have leftE : ∀ (σ9 : L2.St) H9, σ9[4]? = some (some (.ref b)) → σ9[8]? = some (some (.int ((i % cs.length : Nat) : Int))) → H9 b = some (.lst (ls.map V.int)) → Ev (tOp (rIxL K) (tVar 4) (tVar 8)) σ9 H9 (.int l0) := fun σ9 H9 s4 s8 h9 => ev_op (ev_var s4) (ev_var s8) (rv_ixL (sq_of h9) (atI_nat (by rw [List.getElem?_map, hlat]; rfl)))
    have done : ∀ (w : Nat) (ls2 : List Int) (H8 : Hp), w < 2147483648 → Ex H H8 → H8 a = some (.lst (cs.map V.int)) → H8 b = some (.lst (ls2.map V.int)) → ls2.length = cs.length → H8 p = some (.lst (nats ds)) →
        tDrop (tBM K "list" rAppend (tVar 6) (tCons (tVar 9) tNil)) { nx := fun σ H4 => ∃ (y5 y7 y8 y9 : Option V) (ls : List Int) (ds : List Nat), σ = [some (.ref l), some (.int (t : Int)), some (.int (m : Int)), some (.ref a), some (.ref b), y5, some (.ref p), y7, y8, y9] ∧ Ex H H4 ∧ H4 a = some (.lst (cs.map V.int)) ∧ H4 b = some (.lst (ls.map V.int)) ∧ ls.length = cs.length ∧ H4 p = some (.lst (nats ds)) ∧ Sm ds ∧ ds.length = i + 1, rt := Q } [some (.ref l), some (.int (t : Int)), some (.int (m : Int)), some (.ref a), some (.ref b), y5, some (.ref p), some (.int (i : Int)), some (.int ((i % cs.length : Nat) : Int)), some (.int (w : Int))] H8 := fun w ls2 H8 hw8 e8 a8 b8 hl8 p8 =>
      s_app p8 (ev_var rfl) (ev_var rfl) (by rw [List.length_map]; omega) fun H9 e9 => ⟨y5, _, _, _, ls2, ds ++ [w], rfl, (e8.trans e9).mut hpH, by rw [upd_ne hap]; exact e9 _ _ a8, by rw [upd_ne hbp]; exact e9 _ _ b8, hl8, by rw [upd_same, ← nats_app]; rfl, fun x hx => (List.mem_append.mp hx).elim (hsm x) fun z => by rw [List.mem_singleton.mp z]; exact hw8, by rw [List.length_append, hdl]; rfl⟩
    refine q_when (b := decide ((10 : Int) ^ 18 ≤ c0) && decide (0 < l0)) (et_and (et_test (ev_op (cellE _ _ rfl rfl a7) (ev_op ev_c ev_c (rv_I ⟨by decide, by decide, by decide⟩)) rv_I0)) fun _ => et_test (ev_op (leftE _ _ rfl rfl b7) ev_c rv_I0)) (fun hb8 H8 e8 => ?_) fun hb8 H8 e8 => ?_
    · have hl0 : 0 < l0 := of_decide_eq_true (Bool.and_eq_true_iff.mp hb8).2
      have hz1 : 0 ≤ l0 % 2147483587 := Int.emod_nonneg _ (by decide)
      have hz2 : l0 % 2147483587 < 2147483587 := Int.emod_lt_of_pos _ (by decide)
      generalize hz : l0 % 2147483587 = z9 at hz1 hz2
      obtain ⟨z, rfl⟩ : ∃ z : Nat, z9 = (z : Int) := ⟨z9.toNat, (Int.toNat_of_nonneg hz1).symm⟩
      refine q_asg (v := .int (z : Int)) (ev_is (ev_op (leftE _ _ rfl rfl (e8 _ _ b7)) ev_c (rv_I (by decide))) (by rw [← hz])) fun H9 e9 => ?_
      have e89 := e8.trans e9
      have b9 := e89 _ _ b7
      have hdv : Ev (tOp (rI CDivW fun i j => .int (i / j)) (tOp (rIxL K) (tVar 4) (tVar 8)) (tC (.int 2147483587))) [some (.ref l), some (.int (t : Int)), some (.int (m : Int)), some (.ref a), some (.ref b), y5, some (.ref p), some (.int (i : Int)), some (.int ((i % cs.length : Nat) : Int)), some (.int (z : Int))] H9 (.int (l0 / 2147483587)) := ev_op (leftE _ _ rfl rfl b9) ev_c (rv_I ⟨by decide, by decide⟩)
      refine hdv H9 (Ex.refl _) _ fun H10 e10 => ⟨_, rfl, _, rfl, b, ls.map V.int, _, i % cs.length, rfl, rfl, e10 _ _ b9, ?_, ?_⟩
      · rw [List.length_map, hll]
        exact ixN_nat hmod
      · have e710 := e89.trans e10
        have hset : (ls.map V.int).set (i % cs.length) (.int (l0 / 2147483587)) = (ls.set (i % cs.length) (l0 / 2147483587)).map V.int := List.map_set.symm
        rw [hset]
        exact done z _ _ (by omega) (((e4.trans e47).trans e710).mut hbH) (by rw [upd_ne hab]; exact e710 _ _ a7) upd_same (by rw [List.length_set]; exact hll) (by rw [upd_ne (fun q => hbp q.symm)]; exact e710 _ _ p7)
    · exact done w ls H8 (by omega) ((e4.trans e47).trans e8) (e8 _ _ a7) (e8 _ _ b7) hll (e8 _ _ p7)
  · rintro σ H4 ⟨y5, y7, y8, y9, ls, ds, rfl, e4, a4, b4, hll, p4, hsm, hdl⟩
    obtain ⟨ds2, hd2, hin⟩ := cut_nats ds (some (t : Int)) none
    have hsl := el_sl (K := K) (te := tVar 6) (tl := tPart (tVar 1)) (th := tNoPart) (σ := [some (.ref l), some (.int (t : Int)), some (.int (m : Int)), some (.ref a), some (.ref b), y5, some (.ref p), y7, y8, y9]) (H := H4) (a := p) (ev_var rfl) (eo_some (ev_var rfl)) eo_none (sq_of p4)
    rw [hd2] at hsl
    exact s_retL hsl fun r H5 hr e5 h5 => k r H5 (fresh_back e4 hr) (e4.trans e5) ⟨ds2, h5, fun x hx => hsm x (hin x hx)⟩
end Fc
/-! The law's words, texts. -/
namespace Fc
open PySem PySem.Spec PyProof.Rows L2 Evl
section
variable {K : PySem.W.Frag} {σ : L2.St} {H : Hp} {te ta : TE} {tl th : TO} {z : Str} {lo hi : Option Int} {D : Ends} {tu : TS} {j : Nat}
theorem ev_slS (h : Ev te σ H (.str z)) (h1 : EvO tl σ H lo) (h2 : EvO th σ H hi) (hz : z.length ≤ 100000) : Ev (tSl rSlS te tl th) σ H (.str (cutS z lo hi)) := fun H1 e Q q =>
  h H1 e _ fun H2 e2 => h1 H2 (e.trans e2) _ fun H3 e3 => h2 H3 ((e.trans e2).trans e3) _ fun H4 e4 => ⟨z, rfl, sz_of hz, q H4 ((e2.trans e3).trans e4)⟩
def PopP (H : Hp) (d : Addr) (v : V) (H1 : Hp) : Prop := ∃ n : Nat, v = .int (n : Int) ∧ n < 2147483648 ∧ Ex (del H d) H1 ∧ Dr H1 d
theorem rd_pop {i : Nat} {d : Addr} (s : σ[i]? = some (some (.ref d))) (h : Dr H d) (Q : VK) (q : ∀ v H1, PopP H d v H1 → Q v H1) : tCall sp_law_pop [] E0 (tCons (tVar i) tNil) σ H Q :=
  ⟨_, s, d, rfl, h, fun v H' e h' ⟨n, hv, hn⟩ => q _ _ ⟨n, hv, hn, e, h'⟩⟩
theorem s_forRQ {P : V → Hp → Prop} (h : ∀ Q : VK, (∀ v H1, P v H1 → Q v H1) → te σ H Q) (k : ∀ v H1, P v H1 → ∃ n : Nat, v = .int (n : Int) ∧ n ≤ 1000 ∧ ∃ Pv : Nat → L2.St → Hp → Prop, Pv 0 σ H1 ∧ (∀ (i : Nat) σ' H', i < n → Pv i σ' H' → tu { D with nx := Pv (i + 1), ct := Pv (i + 1), bk := D.nx } (σ'.set j (some (.int (i : Int)))) H') ∧ ∀ σ' H', Pv n σ' H' → D.nx σ' H') :
    tFor (iRng1 (tCons te tNil)) (gName j) tu D σ H := h _ fun v H1 p => by
  obtain ⟨n, rfl, hn, Pv, h0, hs, hd⟩ := k v H1 p
  refine ⟨n, rfl, by omega, by omega, for_range (lo := 0) (n := (n : Int).toNat) Pv h0 (fun i σ' H' hi p => ?_) (fun σ' H' p => hd σ' H' (by simpa using p))⟩
  have e0 : (0 : Int) + (i : Int) = (i : Int) := Int.zero_add _
  show tu { D with nx := Pv (i + 1), ct := Pv (i + 1), bk := D.nx } (σ'.set j (some (.int ((0 : Int) + (i : Int))))) H'
  rw [e0]
  exact hs i σ' H' (by omega) p
/-- [..][j] of a list told out -/
theorem ev_pick {α : Type} {F : α → V} {es : List α} {jx : Nat} {x : α} (hl : EvL ta σ H (es.map F)) (hj : ∀ H1, Ex H H1 → Ev te σ H1 (.int (jx : Int))) (hx : es[jx]? = some x) : Ev (tOp (rIxL K) ta te) σ H (F x) :=
  ev_opL1 hl hj fun p H1 h1 e1 => rv_ixL (sq_of h1) (atI_nat (by rw [List.getElem?_map, hx]; rfl))
end
theorem cutS_mem {z : Str} {lo hi : Option Int} {c : Nat} (h : c ∈ (cutS z lo hi).cps.toList) : c ∈ z.cps.toList := by
  unfold cutS at h
  exact List.mem_of_mem_drop (List.mem_of_mem_take (by simpa using h))
theorem cutS_len (z : Str) (k : Nat) : (cutS z none (some (k : Int))).length ≤ k := by
  rw [len_of]
  unfold cutS
  rw [HT.sIx_nat, HT.sIx_none]
  simp
  omega
def wdC (c : Nat) : Prop := (97 ≤ c ∧ c ≤ 122) ∨ (48 ≤ c ∧ c ≤ 57)
/-- a word -/
def WdOk (w : Str) : Prop := 1 ≤ w.length ∧ w.length ≤ 38 ∧ ∀ c ∈ w.cps.toList, wdC c
theorem str_app_len (x y : Str) : (x ++ y).length = x.length + y.length := by
  rw [len_of, len_of, len_of, app_codes, List.length_append]
theorem WdOk.app {x y : Str} {a b : Nat} (hx : x.length ≤ a) (hy : y.length ≤ b) (h1 : 1 ≤ x.length + y.length) (hab : a + b ≤ 38) (cx : ∀ c ∈ x.cps.toList, wdC c) (cy : ∀ c ∈ y.cps.toList, wdC c) : WdOk (x ++ y) := by
  refine ⟨by rw [str_app_len]; exact h1, by rw [str_app_len]; omega, fun c hc => ?_⟩
  rw [app_codes] at hc
  rcases List.mem_append.mp hc with z | z
  · exact cx c z
  · exact cy c z
theorem wdC_lt {c : Nat} (h : wdC c) : c < 1114112 := by
  unfold wdC at h
  omega
def PoolOk (ws : List Str) : Prop := ws.length = 6 ∧ ∀ w ∈ ws, WdOk w
instance (c : Nat) : Decidable (wdC c) := by
  unfold wdC
  infer_instance
def sp_law_field : Sp := fun vs H Q _ => ∃ d : Addr, vs = [.ref d] ∧ Dr H d ∧ Drew H d (fun v _ => ∃ f : Str, v = .str f) Q
theorem sc_law_field : FnScope ["_law_draws_here"] ["_law_draws_here"] (defScope s_law_field) := ⟨rfl, rfl, rfl, by decide +kernel, rfl, by decide +kernel, by decide +kernel⟩
theorem ok_law_field {P : Program} {w : World} {K : PySem.W.Frag} {mg : Str → Option Value} {base : Heap} (G : Gd K mg "_law_field" s_law_field) (T : Tx K mg) (O_law_pop : OkF P w K mg base 1 "_law_pop" ["_law_draws_here"] sp_law_pop) : OkF P w K mg base 2 "_law_field" ["_law_draws_here"] sp_law_field := by
  refine G.ok (k := 1) sc_law_field (fun _ _ _ _ _ _ us hl => match us, hl with | [_], _ => rfl) (fun vs H Q E h => ?_) (fun f cdv A outer s H vs Q E hr h => ?_)
  · unfold sp_law_field at h
    repeat (first | (obtain ⟨rfl, h⟩ := h; rfl) | (obtain ⟨_, h⟩ := h))
  have hu := hu_of hr
  refine ⟨_, (pss_one (ps_ret (pe_ix (ixlK K) (pe_lst (pa_cons pe_str (pa_cons pe_str (pa_cons pe_str (pa_cons pe_str (pa_cons pe_str (pa_cons pe_str pa_nil))))))) (pe_op op_mod (pe_fn O_law_pop (hr.mono (by decide)) (pa_cons (pv 0) pa_nil)) pe_int) (fun _ _ => rfl)))), ?_⟩
  obtain ⟨d, rfl, hd, k⟩ := h
  refine s_retQ (C := fun v H' => ∃ f : Str, v = .str f ∧ Ex (del H d) H' ∧ Dr H' d) (fun Q2 q2 => ?_) fun v H' ⟨f, hv, e, h'⟩ => k v H' e h' ⟨f, hv⟩
  have hl : EvL (tLst (tCons (tC (.str "title")) (tCons (tC (.str "body")) (tCons (tC (.str "h")) (tCons (tC (.str "*")) (tCons (tC (.str "*")) (tCons (tC (.str "zz")) tNil))))))) (start ["_law_draws_here"] [.ref d]) H ([("title" : Str), "body", "h", "*", "*", "zz"].map V.str) := el_lst (ea_cons ev_c (ea_cons ev_c (ea_cons ev_c (ea_cons ev_c (ea_cons ev_c (ea_cons ev_c ea_nil)))))) (by simp)
  refine hl H (Ex.refl _) _ fun p H1 hp e1 h1 => ?_
  refine op_q (P := PopP H1 d) (rd_pop rfl (hd.ex e1)) fun v H2 ⟨n, hv, hn, e2, d2⟩ => ?_
  subst hv
  have hpd : p ≠ d := by
    obtain ⟨ds, hds, _⟩ := hd
    exact (own_ne hds hp).symm
  have h2 : H2 p = some (.lst ([("title" : Str), "body", "h", "*", "*", "zz"].map V.str)) := e2 _ _ (by rw [del_ne hpd]; exact h1)
  have hj : n % 6 < ([("title" : Str), "body", "h", "*", "*", "zz"]).length := Nat.mod_lt _ (by decide)
  refine ⟨_, _, rfl, rfl, (by show (0 : Int) < 6; decide), p, _, _, _, rfl, rfl, sq_of h2, ?_, q2 _ _ ⟨([("title" : Str), "body", "h", "*", "*", "zz"])[n % 6], rfl, fun b o hb => e2 _ _ (del_mono e1 _ _ hb), d2⟩⟩
  have e9 : (n : Int) % 6 = ((n % 6 : Nat) : Int) := by omega
  rw [e9]
  exact atI_nat (by rw [List.getElem?_map, List.getElem?_eq_getElem hj]; rfl)
theorem el_cat {σ : L2.St} {H : Hp} {ta tb : TE} {xs ys : List V} (ha : EvL ta σ H xs) (hb : EvL tb σ H ys) (hz : xs.length + ys.length ≤ 1000) : EvL (tOp rCat ta tb) σ H (xs ++ ys) := fun H1 e Q q =>
  ha H1 e _ fun p H2 hp e2 h2 => hb H2 (e.trans e2) _ fun b H3 hb e3 h3 => ⟨p, b, xs, ys, rfl, rfl, e3 _ _ h2, h3, sizeLine_of (by omega), fun r hr => q r _ (fresh_back (e2.trans e3) hr) ((e2.trans e3).trans (Ex.new hr)) upd_same⟩
/-- a list that a name holds, and another -/
theorem el_catV {σ : L2.St} {H : Hp} {tb : TE} {a : Addr} {i : Nat} {xs ys : List V} (s : σ[i]? = some (some (.ref a))) (h : H a = some (.lst xs)) (hb : EvL tb σ H ys) (hz : xs.length + ys.length ≤ 1000) : EvL (tOp rCat (tVar i) tb) σ H (xs ++ ys) := fun H1 e Q q =>
  ⟨_, s, hb H1 e _ fun b H3 hb e3 h3 => ⟨a, b, xs, ys, rfl, rfl, e3 _ _ (e _ _ h), h3, sizeLine_of (by omega), fun r hr => q r _ (fresh_back e3 hr) (e3.trans (Ex.new hr)) upd_same⟩⟩
theorem rep_all : (([1, 2, 3, 12] : List Int).all fun k => decide ((Txt.mul "abc" k).length ≤ 36) && (Txt.mul "abc" k).cps.toList.all (fun c => decide (wdC c))) = true := by decide +kernel
theorem stem_all : (("abc1b2acb" : Str).cps.toList.all fun c => decide (wdC c)) = true := by decide +kernel
theorem lit_ok : WdOk "c0" := ⟨by decide, by decide, fun c hc => of_decide_eq_true (List.all_eq_true.mp (show (("c0" : Str).cps.toList.all fun c => decide (wdC c)) = true by decide +kernel) c hc)⟩
theorem lit_c {x : Str} (h : (x.cps.toList.all fun c => decide (wdC c)) = true) : ∀ c ∈ x.cps.toList, wdC c := fun c hc => of_decide_eq_true (List.all_eq_true.mp h c hc)
def sp_law_pool : Sp := fun vs H Q _ => ∃ d : Addr, vs = [.ref d] ∧ Dr H d ∧ Drew H d (fun v H' => ∃ p ws, v = .ref p ∧ PoolOk ws ∧ H p = none ∧ fr H H' p = some (.lst (ws.map V.str))) Q
theorem sc_law_pool : FnScope ["_law_draws_here", "_law_number", "_law_stem"] ["_law_draws_here"] (defScope s_law_pool) := ⟨rfl, rfl, rfl, by decide +kernel, rfl, by decide +kernel, by decide +kernel⟩
theorem ok_law_pool {P : Program} {w : World} {K : PySem.W.Frag} {mg : Str → Option Value} {base : Heap} (G : Gd K mg "_law_pool" s_law_pool) (T : Tx K mg) (O_law_pop : OkF P w K mg base 1 "_law_pop" ["_law_draws_here"] sp_law_pop) : OkF P w K mg base 2 "_law_pool" ["_law_draws_here"] sp_law_pool := by
  refine G.ok (k := 1) sc_law_pool (fun _ _ _ _ _ _ us hl => match us, hl with | [_], _ => rfl) (fun vs H Q E h => ?_) (fun f cdv A outer s H vs Q E hr h => ?_)
  · unfold sp_law_pool at h
    repeat (first | (obtain ⟨rfl, h⟩ := h; rfl) | (obtain ⟨_, h⟩ := h))
  have hu := hu_of hr
  refine ⟨_, (pss_cons (psv 1 sc_law_pool.nd (pe_fn O_law_pop (hr.mono (by decide)) (pa_cons (pv 0) pa_nil)))
      (pss_cons (psv 2 sc_law_pool.nd (pe_slice sl_str (pe_slice sl_str pe_str (po_some (pe_op op_mod (pv 1) pe_int)) po_none) po_none (po_some (pe_op op_mod (pe_op op_fdiv (pv 1) pe_int) pe_int))))
      (pss_one (ps_ret (pe_op op_cat (pe_lst (pa_cons (pe_op op_add_str (pv 2) pe_str) (pa_cons (pe_op op_add_str (pv 2) pe_str) (pa_cons (pe_op op_add_str (pv 2) pe_str) (pa_cons (pe_op op_add_str pe_str (pv 2)) (pa_cons pe_str pa_nil)))))) (pe_lst (pa_cons (pe_op op_add_str (pv 2) (pe_op op_srep pe_str (pe_ix (ixlK K) (pe_lst (pa_cons pe_int (pa_cons pe_int (pa_cons pe_int (pa_cons pe_int pa_nil))))) (pe_op op_mod (pe_op op_fdiv (pv 1) pe_int) pe_int) (fun _ _ => rfl)))) pa_nil))))))), ?_⟩
  obtain ⟨d, rfl, hd, k⟩ := h
  obtain ⟨ds0, hds0, _⟩ := id hd
  refine q_asgQ (C := PopP H d) (rd_pop rfl hd) fun v H1 ⟨n, hv, hn, e1, d1⟩ => ?_
  subst hv
  have hst : ∃ stem : Str, stem = cutS (cutS "abc1b2acb" (some ((n % 7 : Nat) : Int)) none) none (some ((n / 7 % 3 : Nat) : Int)) := ⟨_, rfl⟩
  obtain ⟨stem, hstem⟩ := hst
  have hs1 : stem.length ≤ 2 := by
    rw [hstem]
    have := cutS_len (cutS "abc1b2acb" (some ((n % 7 : Nat) : Int)) none) (n / 7 % 3)
    omega
  have hs2 : ∀ c ∈ stem.cps.toList, wdC c := fun c hc => by
    rw [hstem] at hc
    exact lit_c stem_all c (cutS_mem (cutS_mem hc))
  have m7 : (n : Int) % 7 = ((n % 7 : Nat) : Int) := by omega
  have m73 : (n : Int) / 7 % 3 = ((n / 7 % 3 : Nat) : Int) := by omega
  have m21 : (n : Int) / 21 % 4 = ((n / 21 % 4 : Nat) : Int) := by omega
  refine q_asg (v := .str stem) ?_ fun H2 e2 => ?_
  · rw [hstem]
    refine ev_slS (ev_slS ev_c (eo_some (ev_is (ev_op (ev_var rfl) ev_c (rv_I (by decide))) (congrArg V.int m7))) eo_none (by decide)) eo_none (eo_some (ev_is (ev_op (ev_op (ev_var rfl) ev_c (rv_I ⟨by decide, by decide⟩)) ev_c (rv_I (by decide))) (congrArg V.int m73))) ?_
    have h9 : (cutS "abc1b2acb" (some ((n % 7 : Nat) : Int)) none).cps.toList.length ≤ 9 := by
      have h8 : ("abc1b2acb" : Str).cps.size = 9 := by decide +kernel
      unfold cutS
      simp
      omega
    rw [len_of]
    omega
  · have hj : n / 21 % 4 < ([1, 2, 3, 12] : List Int).length := Nat.mod_lt _ (by decide)
    have hkm : ([1, 2, 3, 12] : List Int)[n / 21 % 4]? = some (([1, 2, 3, 12] : List Int)[n / 21 % 4]) := List.getElem?_eq_getElem hj
    have hin : ([1, 2, 3, 12] : List Int)[n / 21 % 4] ∈ ([1, 2, 3, 12] : List Int) := List.getElem_mem hj
    generalize ([1, 2, 3, 12] : List Int)[n / 21 % 4] = kk at hkm hin
    have hrep := List.all_eq_true.mp rep_all kk hin
    obtain ⟨hr1, hr2⟩ := Bool.and_eq_true_iff.mp hrep
    have hr1 : (Txt.mul "abc" kk).length ≤ 36 := of_decide_eq_true hr1
    have hk9 : 0 ≤ kk ∧ kk ≤ 1000 := by
      simp at hin
      omega
    have hrl : 1 ≤ (Txt.mul "abc" kk).length := by
      have : (([1, 2, 3, 12] : List Int).all fun k => decide (1 ≤ (Txt.mul "abc" k).length)) = true := by decide +kernel
      exact of_decide_eq_true (List.all_eq_true.mp this kk hin)
    have la : ("a" : Str).length = 1 := rfl
    have lb : ("b" : Str).length = 1 := rfl
    have lab : ("ab" : Str).length = 2 := rfl
    have hpool : PoolOk ([stem ++ "a", stem ++ "b", stem ++ "ab", "a" ++ stem, "c0"] ++ [stem ++ Txt.mul "abc" kk]) := by
      refine ⟨rfl, fun w hw => ?_⟩
      simp only [List.cons_append, List.nil_append, List.mem_cons, List.not_mem_nil, or_false] at hw
      rcases hw with rfl | rfl | rfl | rfl | rfl | rfl
      · exact .app (a := 2) (b := 1) hs1 (by omega) (by omega) (by omega) hs2 (lit_c (by decide +kernel))
      · exact .app (a := 2) (b := 1) hs1 (by omega) (by omega) (by omega) hs2 (lit_c (by decide +kernel))
      · exact .app (a := 2) (b := 2) hs1 (by omega) (by omega) (by omega) hs2 (lit_c (by decide +kernel))
      · exact .app (a := 1) (b := 2) (by omega) hs1 (by omega) (by omega) (lit_c (by decide +kernel)) hs2
      · exact lit_ok
      · exact .app (a := 2) (b := 36) hs1 hr1 (by omega) (by omega) hs2 (lit_c hr2)
    refine s_retL (xs := ([stem ++ "a", stem ++ "b", stem ++ "ab", "a" ++ stem, "c0"] ++ [stem ++ Txt.mul "abc" kk]).map V.str) ?_ fun p H3 hp e3 h3 => ?_
    · refine el_cat (el_lst (ea_cons (ev_op (ev_var rfl) ev_c (rv_addS (by omega))) (ea_cons (ev_op (ev_var rfl) ev_c (rv_addS (by omega))) (ea_cons (ev_op (ev_var rfl) ev_c (rv_addS (by omega))) (ea_cons (ev_op ev_c (ev_var rfl) (rv_addS (by omega))) (ea_cons ev_c ea_nil))))) (by simp)) (el_lst (ea_cons (ev_op (ev_var rfl) (ev_op ev_c (ev_pick (F := V.int) (es := [1, 2, 3, 12]) (el_lst (ea_cons ev_c (ea_cons ev_c (ea_cons ev_c (ea_cons ev_c ea_nil)))) (by simp)) (fun H3 e3 => ev_is (ev_op (ev_op (ev_var rfl) ev_c (rv_I ⟨by decide, by decide⟩)) ev_c (rv_I (by decide))) (congrArg V.int m21)) hkm) (fun H4 e4 Q4 q4 => ⟨_, _, rfl, rfl, by decide, hk9.1, hk9.2, q4 H4 (Ex.refl _)⟩)) (rv_addS (by omega))) ea_nil) (by simp)) (by simp)
    · have hpH : H p = none := by
        have h1p := fresh_back e2 hp
        cases hq : H p with
        | none => rfl
        | some u =>
          by_cases c : p = d
          · obtain ⟨ds, hds, _⟩ := d1
            rw [c, hds] at h1p
            cases h1p
          · rw [e1 _ _ (by rw [del_ne c]; exact hq)] at h1p
            cases h1p
      refine k _ H3 (fun b o hb => (e2.trans e3) _ _ (e1 _ _ hb)) (d1.ex (e2.trans e3)) ⟨p, _, rfl, hpool, hpH, ?_⟩
      rw [fr_at hpH]
      exact h3
end Fc
/-! Words drawn; a text of them. -/
namespace Fc
open PySem PySem.Spec PyProof.Rows L2 Evl
theorem op_q2 {σ : L2.St} {H : Hp} {ta tb : TE} {r : R2} {P : V → Hp → Prop} {Q : VK} (h : ∀ Q : VK, (∀ v H1, P v H1 → Q v H1) → ta σ H Q) (k : ∀ v H1, P v H1 → tb σ H1 fun y H2 => r v y H2 Q) : tOp r ta tb σ H Q := h _ fun v H1 p => k v H1 p
theorem moved {H H1 H2 : Hp} {d : Addr} (e : Ex (del H d) H1) (e2 : Ex (del H1 d) H2) : Ex (del H d) H2 := fun b o hb => e2 _ _ (by
  have hbd : b ≠ d := fun z => by
    rw [z, del_at] at hb
    cases hb
  rw [del_ne hbd]
  exact e _ _ hb)
theorem pool_ne {H : Hp} {d p : Addr} {ws : List Str} (hd : Dr H d) (hp : H p = some (.lst (ws.map V.str))) (hn : ws ≠ []) : p ≠ d := by
  rintro rfl
  obtain ⟨ds, h1, _⟩ := hd
  rw [hp] at h1
  have h2 := HO.lst.inj (Option.some.inj h1)
  cases ws with
  | nil => exact hn rfl
  | cons w r =>
    cases ds with
    | nil => cases h2
    | cons n r2 => cases h2
theorem PoolOk.ne {ws : List Str} (h : PoolOk ws) : ws ≠ [] := fun z => by
  rw [z] at h
  cases h.1
def sp_law_words : Sp := fun vs H Q _ => ∃ (d pa : Addr) (ws : List Str) (most : Nat), vs = [.ref d, .ref pa, .int (most : Int)] ∧ Dr H d ∧ H pa = some (.lst (ws.map V.str)) ∧ PoolOk ws ∧ most ≤ 100 ∧
  Drew H d (fun v H' => ∃ (p : Addr) (xs : List Str), v = .ref p ∧ H p = none ∧ fr H H' p = some (.lst (xs.map V.str)) ∧ xs.length ≤ most ∧ ∀ x ∈ xs, x ∈ ws) Q
theorem sc_law_words : FnScope ["_law_draws_here", "_law_pool_here", "_law_most", "_law_found", "_law_lean", "_law_k", "_law_number"] ["_law_draws_here", "_law_pool_here", "_law_most"] (defScope s_law_words) := ⟨rfl, rfl, rfl, by decide +kernel, rfl, by decide +kernel, by decide +kernel⟩
theorem ok_law_words {P : Program} {w : World} {K : PySem.W.Frag} {mg : Str → Option Value} {base : Heap} (G : Gd K mg "_law_words" s_law_words) (T : Tx K mg) (O_law_pop : OkF P w K mg base 1 "_law_pop" ["_law_draws_here"] sp_law_pop) : OkF P w K mg base 2 "_law_words" ["_law_draws_here", "_law_pool_here", "_law_most"] sp_law_words := by
  refine G.ok (k := 1) sc_law_words (fun _ _ _ _ _ _ us hl => match us, hl with | [_, _, _], _ => rfl) (fun vs H Q E h => ?_) (fun f cdv A outer s H vs Q E hr h => ?_)
  · unfold sp_law_words at h
    repeat (first | (obtain ⟨rfl, h⟩ := h; rfl) | (obtain ⟨_, h⟩ := h))
  have hu := hu_of hr
  refine ⟨_, (pss_cons (psv 3 sc_law_words.nd (pe_lst pa_nil))
      (pss_cons (psv 4 sc_law_words.nd (pe_op op_mod (pe_fn O_law_pop (hr.mono (by decide)) (pa_cons (pv 0) pa_nil)) pe_int))
      (pss_cons (ps_for PassesOwn.never rfl (pi_range1 rfl T.n_range (pa_cons (pe_op op_mod (pe_fn O_law_pop (hr.mono (by decide)) (pa_cons (pv 0) pa_nil)) (pe_op op_add (pv 2) pe_int)) pa_nil)) (pgv 5 sc_law_words.nd)
        (pss_cons (psv 6 sc_law_words.nd (pe_fn O_law_pop (hr.mono (by decide)) (pa_cons (pv 0) pa_nil)))
        (pss_one (ps_expr (pe_bm PySem.F.plainAttrs_list PySem.F.slot_list_append PySem.F.type_list_append mt_append (pv 3) (pa_cons (pe_ix (ixlK K) (pv 1) (pe_op op_mod (pv 6) (pe_ix (ixlK K) (pe_lst (pa_cons (pe_callB (id := "len") (lenK K) rfl T.n_len PySem.boot_len (pa_cons (pv 1) pa_nil)) (pa_cons pe_int (pa_cons pe_int pa_nil)))) (pv 4) (fun _ _ => rfl))) (fun _ _ => rfl)) pa_nil))))))
      (pss_one (ps_ret (pv 3)))))), ?_⟩
  obtain ⟨d, pa, ws, most, rfl, hd, hpa, hok, hmo, k⟩ := h
  have hpd := pool_ne hd hpa hok.ne
  obtain ⟨ds0, hds0, _⟩ := id hd
  refine q_asgL (el_lst ea_nil (Nat.zero_le _)) fun p H1 hp e1 h1 => ?_
  have hpdr : p ≠ d := (own_ne hds0 hp).symm
  refine q_asgQ (C := fun v H2 => ∃ le : Nat, v = .int (le : Int) ∧ le < 3 ∧ Ex (del H1 d) H2 ∧ Dr H2 d) (fun Q2 q2 => op_q (P := PopP H1 d) (rd_pop rfl (hd.ex e1)) fun v H2 ⟨n, hv, hn, e2, d2⟩ => ?_) fun v H2 ⟨le, hv, hle, e2, d2⟩ => ?_
  · subst hv
    refine ⟨_, _, rfl, rfl, (by show (0 : Int) < 3; decide), q2 _ _ ⟨n % 3, congrArg V.int (by omega), Nat.mod_lt _ (by decide), e2, d2⟩⟩
  subst hv
  have e02 : Ex (del H d) H2 := fun b o hb => e2 _ _ (del_mono e1 _ _ hb)
  have h2 : H2 p = some (.lst []) := e2 _ _ (by rw [del_ne hpdr]; exact h1)
  refine s_forRQ (D := { nx := _, rt := _ }) (P := fun v H3 => ∃ c : Nat, v = .int (c : Int) ∧ c ≤ most ∧ Ex (del H2 d) H3 ∧ Dr H3 d) (fun Q3 q3 => op_q2 (P := PopP H2 d) (rd_pop rfl d2) fun v H3 ⟨n, hv, hn, e3, d3⟩ => ?_) fun v H3 ⟨c, hv, hc, e3, d3⟩ => ?_
  · subst hv
    refine (ev_op (σ := [some (.ref d), some (.ref pa), some (.int (most : Int)), some (.ref p), some (.int (le : Int)), none, none]) (z := .int ((most : Int) + 1)) (r := rI0 fun i j => .int (i + j)) (ta := tVar 2) (tb := tC (.int 1)) (ev_var rfl) ev_c rv_I0) H3 (Ex.refl _) _ fun H4 e4 => ⟨_, _, rfl, rfl, (by show (0 : Int) < (most : Int) + 1; omega), q3 _ _ ⟨n % (most + 1), congrArg V.int (by simp), by have := Nat.mod_lt n (show 0 < most + 1 by omega); omega, fun b o hb => e4 _ _ (e3 _ _ hb), d3.ex e4⟩⟩
  · subst hv
    have e03 := moved e02 e3
    refine ⟨c, rfl, by omega, fun i σ H4 => ∃ (y5 y6 : Option V) (xs : List Str), σ = [some (.ref d), some (.ref pa), some (.int (most : Int)), some (.ref p), some (.int (le : Int)), y5, y6] ∧ Ex (del H d) H4 ∧ Dr H4 d ∧ H4 p = some (.lst (xs.map V.str)) ∧ xs.length = i ∧ ∀ x ∈ xs, x ∈ ws, ⟨none, none, [], rfl, e03, d3, e3 _ _ (by rw [del_ne hpdr]; exact h2), rfl, fun _ h => absurd h List.not_mem_nil⟩, ?_, ?_⟩
    · rintro i σ H4 hi ⟨y5, y6, xs, rfl, e4, d4, p4, hxl, hxs⟩
      refine q_asgQ (C := PopP H4 d) (rd_pop rfl d4) fun v H5 ⟨n, hv, hn, e5, d5⟩ => ?_
      subst hv
      have e05 := moved e4 e5
      have pa5 : H5 pa = some (.lst (ws.map V.str)) := e05 _ _ (by rw [del_ne hpd]; exact hpa)
      have hlj : le < ([6, 2, 4] : List Int).length := hle
      have hkm : ([6, 2, 4] : List Int)[le]? = some (([6, 2, 4] : List Int)[le]) := List.getElem?_eq_getElem hlj
      have hin : ([6, 2, 4] : List Int)[le] ∈ ([6, 2, 4] : List Int) := List.getElem_mem hlj
      generalize ([6, 2, 4] : List Int)[le] = dv at hkm hin
      obtain ⟨dn, rfl, hdn⟩ : ∃ dn : Nat, dv = (dn : Int) ∧ 0 < dn ∧ dn ≤ 6 := by
        simp at hin
        exact ⟨dv.toNat, by omega, by omega, by omega⟩
      have hix : n % dn < ws.length := by
        have := Nat.mod_lt n hdn.1
        have := hok.1
        omega
      have hwx := List.getElem?_eq_getElem hix
      have hwm := List.getElem_mem hix
      generalize ws[n % dn] = x at hwx hwm
      have hlen : Ev (tCB (rLenQ K) (tCons (tVar 1) tNil)) [some (.ref d), some (.ref pa), some (.int (most : Int)), some (.ref p), some (.int (le : Int)), some (.int (i : Int)), some (.int (n : Int))] H5 (.int 6) := by
        have q := ev_lenL (K := K) (ta := tVar 1) (σ := [some (.ref d), some (.ref pa), some (.int (most : Int)), some (.ref p), some (.int (le : Int)), some (.int (i : Int)), some (.int (n : Int))]) (ev_var rfl) (sq_of pa5)
        rw [List.length_map, hok.1] at q
        exact q
      refine s_app (v := .str x) (e5 _ _ (by rw [del_ne hpdr]; exact p4)) (ev_var rfl) (ev_op (ev_var rfl) (ev_is (ev_op (ev_var rfl) (ev_pick (F := V.int) (es := [6, 2, 4]) (el_lst (ea_cons hlen (ea_cons ev_c (ea_cons ev_c ea_nil))) (by simp)) (fun H6 e6 => ev_var rfl) hkm) (rv_I (by omega))) (show V.int ((n : Int) % (dn : Int)) = .int ((n % dn : Nat) : Int) by simp)) (rv_ixL (sq_of pa5) (atI_nat (by rw [List.getElem?_map, hwx]; rfl)))) (by rw [List.length_map]; omega) fun H6 e6 => ⟨_, _, xs ++ [x], rfl, ?_, ?_, ?_, by rw [List.length_append, hxl]; rfl, fun y hy => (List.mem_append.mp hy).elim (hxs y) fun z => by rw [List.mem_singleton.mp z]; exact hwm⟩
      · have hHp : H p = none := fresh_back (Ex.refl _) hp
        exact Ex.mut (fun b o hb => e6 _ _ (e05 _ _ hb)) (by rw [del_ne hpdr]; exact hHp)
      · obtain ⟨ds, g1, g2⟩ := d5
        exact ⟨ds, by rw [upd_ne (fun z => hpdr z.symm)]; exact e6 _ _ g1, g2⟩
      · rw [upd_same, List.map_append]
        rfl
    · rintro σ H4 ⟨y5, y6, xs, rfl, e4, d4, p4, hxl, hxs⟩
      refine s_ret (ev_var rfl) fun H5 e5 => k _ H5 (fun b o hb => e5 _ _ (e4 _ _ hb)) (d4.ex e5) ⟨p, xs, rfl, hp, ?_, by omega, hxs⟩
      rw [fr_at hp]
      exact e5 _ _ p4
/-! ### texts and their words -/
theorem foldl_word {fs : List Str} : ∀ {w u : List Nat} {cur : List Nat}, u.length = w.length → (∀ (i c e : Nat), u[i]? = some c → w[i]? = some e → low c = [e]) → u.foldl wstep (fs, cur) = (fs, cur ++ w)
  | [], [], cur, _, _ => by rw [List.append_nil]; rfl
  | [], _ :: _, _, h, _ => by cases h
  | _ :: _, [], _, h, _ => by cases h
  | e :: w, c :: u, cur, hl, h => by
    have h0 := h 0 c e rfl rfl
    rw [List.foldl_cons]
    have hs : wstep (fs, cur) c = (fs, cur ++ [e]) := by
      unfold wstep
      rw [h0, if_neg (fun z => by cases z.1)]
    rw [hs, foldl_word (w := w) (u := u) (by simpa using hl) fun i c2 e2 h1 h2 => h (i + 1) c2 e2 (by simpa using h1) (by simpa using h2), List.append_assoc]
    rfl
theorem foldl_gap {fs : List Str} : ∀ {g : List Nat}, (∀ c ∈ g, low c = []) → g.foldl wstep (fs, []) = (fs, [])
  | [], _ => rfl
  | c :: r, h => by
    rw [List.foldl_cons]
    have hs : wstep (fs, []) c = (fs, []) := by
      unfold wstep
      rw [if_neg (fun z => z.2 rfl), h c List.mem_cons_self]
      rfl
    rw [hs]
    exact foldl_gap fun c2 h2 => h c2 (List.mem_cons_of_mem _ h2)
theorem wfold_app (a b : List Nat) : wfold (a ++ b) = b.foldl wstep (wfold a) := by
  unfold wfold
  exact List.foldl_append
theorem wfold_step {l u g : List Nat} {fs : List Str} {w : Str} (h : wfold l = (fs, [])) (hw : w.cps.toList ≠ []) (hl : u.length = w.cps.toList.length) (hu : ∀ (i c e : Nat), u[i]? = some c → w.cps.toList[i]? = some e → low c = [e]) {c0 : Nat} (hg : g = c0 :: g.tail) (hgl : ∀ c ∈ g, low c = []) : wfold (l ++ u ++ g) = (fs ++ [w], []) := by
  rw [wfold_app, wfold_app, h, foldl_word hl hu, hg, List.foldl_cons, List.nil_append]
  have h0 : low c0 = [] := hgl c0 (by rw [hg]; exact List.mem_cons_self)
  have hs : wstep (fs, w.cps.toList) c0 = (fs ++ [Z w.cps.toList], []) := by
    unfold wstep
    exact if_pos ⟨h0, hw⟩
  rw [hs, Z_of]
  exact foldl_gap fun c hc => hgl c (by rw [hg]; exact List.mem_cons_of_mem _ hc)
theorem wordsOf_end {t : Str} {fs : List Str} (h : wfold t.cps.toList = (fs, [])) : wordsOf t = fs := by
  unfold wordsOf
  rw [wfold_snoc, h]
  unfold wstep
  rw [if_neg (fun z => z.2 rfl)]
theorem low_wd {c : Nat} (h : wdC c) : low c = [c] := by
  unfold wdC at h
  unfold low
  rw [if_neg (by omega), if_pos h]
theorem low_up {c : Nat} (h : wdC c) : low (up1 c) = [c] := by
  unfold wdC at h
  unfold up1
  by_cases c1 : 97 ≤ c ∧ c ≤ 122
  · rw [if_pos c1]
    unfold low
    rw [if_pos (by omega)]
    congr 1
    omega
  · rw [if_neg c1]
    exact low_wd h
end Fc
/-! A text drawn. -/
namespace Fc
open PySem PySem.Spec PyProof.Rows L2 Evl
def TextOk (t : Str) (xs : List Str) : Prop := wfold t.cps.toList = (xs, []) ∧ (∀ c ∈ t.cps.toList, c < 128) ∧ t.length ≤ 3 + 41 * xs.length
def gapB (g : Str) : Bool := decide (1 ≤ g.length) && decide (g.length ≤ 3) && g.cps.toList.all fun c => decide (low c = []) && decide (c < 128)
theorem gaps_all : (([" ", ", ", "-", "  ", "."] : List Str).all gapB) = true := by decide +kernel
theorem firsts_all : (([("" : Str), "(", " "] : List Str).all fun t => decide (wfold t.cps.toList = ([], [])) && t.cps.toList.all (fun c => decide (c < 128)) && decide (t.length ≤ 3)) = true := by decide +kernel
def sp_law_text : Sp := fun vs H Q _ => ∃ (d wa : Addr) (xs : List Str), vs = [.ref d, .ref wa] ∧ Dr H d ∧ wa ≠ d ∧ H wa = some (.lst (xs.map V.str)) ∧ xs.length ≤ 20 ∧ (∀ x ∈ xs, WdOk x) ∧
  Drew H d (fun v _ => ∃ t : Str, v = .str t ∧ TextOk t xs) Q
theorem sc_law_text : FnScope ["_law_draws_here", "_law_words_here", "_law_gaps", "_law_text_here", "_law_word", "_law_number"] ["_law_draws_here", "_law_words_here"] (defScope s_law_text) := ⟨rfl, rfl, rfl, by decide +kernel, rfl, by decide +kernel, by decide +kernel⟩
theorem ok_law_text {P : Program} {w : World} {K : PySem.W.Frag} {mg : Str → Option Value} {base : Heap} (G : Gd K mg "_law_text" s_law_text) (T : Tx K mg) (O_law_pop : OkF P w K mg base 1 "_law_pop" ["_law_draws_here"] sp_law_pop) : OkF P w K mg base 2 "_law_text" ["_law_draws_here", "_law_words_here"] sp_law_text := by
  refine G.ok (k := 1) sc_law_text (fun _ _ _ _ _ _ us hl => match us, hl with | [_, _], _ => rfl) (fun vs H Q E h => ?_) (fun f cdv A outer s H vs Q E hr h => ?_)
  · unfold sp_law_text at h
    repeat (first | (obtain ⟨rfl, h⟩ := h; rfl) | (obtain ⟨_, h⟩ := h))
  have hu := hu_of hr
  refine ⟨_, (pss_cons (psv 2 sc_law_text.nd (pe_lst (pa_cons pe_str (pa_cons pe_str (pa_cons pe_str (pa_cons pe_str (pa_cons pe_str (pa_cons pe_str pa_nil))))))))
      (pss_cons (psv 3 sc_law_text.nd (pe_ix (ixlK K) (pe_lst (pa_cons pe_str (pa_cons pe_str (pa_cons pe_str pa_nil)))) (pe_op op_mod (pe_fn O_law_pop (hr.mono (by decide)) (pa_cons (pv 0) pa_nil)) pe_int) (fun _ _ => rfl)))
      (pss_cons (ps_for PassesOwn.never rfl (pi_list (pv 1)) (pgv 4 sc_law_text.nd)
        (pss_cons (psv 5 sc_law_text.nd (pe_fn O_law_pop (hr.mono (by decide)) (pa_cons (pv 0) pa_nil)))
        (pss_cons (ps_if (pt_cmpR op_eq (pe_op op_mod (pv 5) pe_int) pe_int (nomark _)) (pss_one (psv 4 sc_law_text.nd (pe_upper (pv 4)))) pss_nil)
        (pss_one (psv 3 sc_law_text.nd (pe_op op_add_str (pe_op op_add_str (pv 3) (pv 4)) (pe_ix (ixlK K) (pe_lst (pa_cons pe_str (pa_cons (pe_ix (ixlK K) (pv 2) (pe_op op_mod (pe_op op_fdiv (pv 5) pe_int) pe_int) (fun _ _ => rfl)) pa_nil))) (pe_op op_mod (pe_op op_fdiv (pv 5) pe_int) pe_int) (fun _ _ => rfl))))))))
      (pss_one (ps_ret (pv 3)))))), ?_⟩
  obtain ⟨d, wa, xs, rfl, hd, hne, hwa, hxl, hxs, k⟩ := h
  obtain ⟨ds0, hds0, _⟩ := id hd
  refine q_asgL (xs := [(" " : Str), ", ", "-", "  ", ".", "'s "].map V.str) (el_lst (ea_cons ev_c (ea_cons ev_c (ea_cons ev_c (ea_cons ev_c (ea_cons ev_c (ea_cons ev_c ea_nil)))))) (by simp)) fun g H1 hg e1 h1 => ?_
  have hgd : g ≠ d := (own_ne hds0 hg).symm
  refine q_asgQ (C := fun v H2 => ∃ t : Str, v = .str t ∧ TextOk t [] ∧ Ex (del H1 d) H2 ∧ Dr H2 d) (fun Q2 q2 => ?_) fun v H2 ⟨t0, hv, ht0, e2, d2⟩ => ?_
  · have hl : EvL (tLst (tCons (tC (.str "")) (tCons (tC (.str "(")) (tCons (tC (.str " ")) tNil)))) [some (.ref d), some (.ref wa), some (.ref g), none, none, none] H1 ([("" : Str), "(", " "].map V.str) := el_lst (ea_cons ev_c (ea_cons ev_c (ea_cons ev_c ea_nil))) (by simp)
    refine hl H1 (Ex.refl _) _ fun p H2 hp e2 h2 => ?_
    have hd2 := (hd.ex e1).ex e2
    refine op_q (P := PopP H2 d) (rd_pop rfl hd2) fun v H3 ⟨n, hv, hn, e3, d3⟩ => ?_
    subst hv
    have hpd : p ≠ d := by
      obtain ⟨ds, hds, _⟩ := hd.ex e1
      exact (own_ne hds hp).symm
    have h3 : H3 p = some (.lst ([("" : Str), "(", " "].map V.str)) := e3 _ _ (by rw [del_ne hpd]; exact h2)
    have hj : n % 3 < ([("" : Str), "(", " "]).length := Nat.mod_lt _ (by decide)
    have hx := List.getElem?_eq_getElem hj
    have hin := List.getElem_mem hj
    generalize ([("" : Str), "(", " "])[n % 3] = t0 at hx hin
    have hf := List.all_eq_true.mp firsts_all t0 hin
    obtain ⟨hf12, hf3⟩ := Bool.and_eq_true_iff.mp hf
    obtain ⟨hf1, hf2⟩ := Bool.and_eq_true_iff.mp hf12
    have e9 : (n : Int) % 3 = ((n % 3 : Nat) : Int) := by omega
    refine ⟨_, _, rfl, rfl, (by show (0 : Int) < 3; decide), p, _, _, _, rfl, rfl, sq_of h3, by rw [e9]; exact atI_nat (by rw [List.getElem?_map, hx]; rfl), q2 _ _ ⟨t0, rfl, ⟨of_decide_eq_true hf1, fun c hc => of_decide_eq_true (List.all_eq_true.mp hf2 c hc), of_decide_eq_true hf3⟩, fun b o hb => e3 _ _ (del_mono e2 _ _ hb), d3⟩⟩
  subst hv
  have e02 : Ex (del H d) H2 := fun b o hb => e2 _ _ (del_mono e1 _ _ hb)
  have wa2 : H2 wa = some (.lst (xs.map V.str)) := e02 _ _ (by rw [del_ne hne]; exact hwa)
  have g2 : H2 g = some (.lst ([(" " : Str), ", ", "-", "  ", ".", "'s "].map V.str)) := e2 _ _ (by rw [del_ne hgd]; exact h1)
  refine q_forX (H := del H2 d) (ex_list (es := xs) (F := V.str) (ev_var rfl) (sq_of (by rw [del_ne hne]; exact wa2))) del_ex (fun Hg i σ H3 => ∃ (y4 y5 : Option V) (t : Str), σ = [some (.ref d), some (.ref wa), some (.ref g), some (.str t), y4, y5] ∧ Ex (del H2 d) H3 ∧ Ex Hg H3 ∧ Dr H3 d ∧ TextOk t (xs.take i)) (fun Hg H3 e3 eg => ⟨none, none, t0, rfl, del_ex.trans e3, eg, d2.ex e3, ht0⟩) (fun Hg i σ H3 ⟨_, _, _, _, _, e, _⟩ => e) ?_ ?_
  · rintro Hg eg hgn i x σ H3 hi ⟨y4, y5, t, rfl, e3, e3g, d3, ht⟩ H4 e4
    have hgd0 : Hg d = none := hgn d (by obtain ⟨ds, hds, _⟩ := d2; exact ns hds) del_at
    obtain ⟨hw1, hw2, hw3⟩ := hxs x (List.mem_of_getElem? hi)
    have hil : i < xs.length := (List.getElem?_eq_some_iff.mp hi).1
    refine q_asgQ (C := PopP H4 d) (rd_pop rfl (d3.ex e4)) fun v H5 ⟨n, hv, hn, e5, d5⟩ => ?_
    subst hv
    have e25 : Ex (del H2 d) H5 := fun b o hb => e5 _ _ (by
      have hbd : b ≠ d := fun z => by
        rw [z, del_at] at hb
        cases hb
      rw [del_ne hbd]
      exact e4 _ _ (e3 _ _ hb))
    have eg5 : Ex Hg H5 := fun b o hb => e5 _ _ (by rw [del_ne (own_ne hb hgd0)]; exact e4 _ _ (e3g _ _ hb))
    -- the text behind
    have rest : ∀ (w' : Str) (H6 : Hp), Ex H5 H6 → w'.length = x.length → (∀ (i c e : Nat), w'.cps.toList[i]? = some c → x.cps.toList[i]? = some e → low c = [e]) → (∀ c ∈ w'.cps.toList, c < 128) →
        tAsg (tOp (fun x y H Q => ∃ i j, x = V.str i ∧ y = V.str j ∧ i.length + j.length ≤ sizeLine ∧ Q (.str (i ++ j)) H) (tOp (fun x y H Q => ∃ i j, x = V.str i ∧ y = V.str j ∧ i.length + j.length ≤ sizeLine ∧ Q (.str (i ++ j)) H) (tVar 3) (tVar 4)) (tOp (rIxL K) (tLst (tCons (tC (.str " ")) (tCons (tOp (rIxL K) (tVar 2) (tOp (rI (fun _ j => 0 < j) fun i j => .int (i % j)) (tOp (rI CDiv fun i j => .int (i / j)) (tVar 5) (tC (.int 4))) (tC (.int 5)))) tNil))) (tOp (rI (fun _ j => 0 < j) fun i j => .int (i % j)) (tOp (rI CDiv fun i j => .int (i / j)) (tVar 5) (tC (.int 20))) (tC (.int 2))))) (gName 3)
          { nx := fun σ H3 => ∃ (y4 y5 : Option V) (t : Str), σ = [some (.ref d), some (.ref wa), some (.ref g), some (.str t), y4, y5] ∧ Ex (del H2 d) H3 ∧ Ex Hg H3 ∧ Dr H3 d ∧ TextOk t (xs.take (i + 1)), rt := Q } [some (.ref d), some (.ref wa), some (.ref g), some (.str t), some (.str w'), some (.int (n : Int))] H6 := by
      intro w' H6 e6 hl hlow h128
      have g6 : H6 g = some (.lst ([(" " : Str), ", ", "-", "  ", ".", "'s "].map V.str)) := e6 _ _ (e25 _ _ (by rw [del_ne hgd]; exact g2))
      have hj : n / 4 % 5 < 5 := Nat.mod_lt _ (by decide)
      have hgx : ∃ gp, ([(" " : Str), ", ", "-", "  ", ".", "'s "])[n / 4 % 5]? = some gp ∧ gapB gp = true := by
        have h5 : n / 4 % 5 < ([(" " : Str), ", ", "-", "  ", "."] : List Str).length := hj
        have q1 := List.getElem?_eq_getElem h5
        refine ⟨_, ?_, List.all_eq_true.mp gaps_all _ (List.getElem_mem h5)⟩
        rw [← q1]
        have e : ([(" " : Str), ", ", "-", "  ", ".", "'s "]) = ([(" " : Str), ", ", "-", "  ", "."] : List Str) ++ [("'s " : Str)] := rfl
        rw [e, List.getElem?_append_left h5]
      obtain ⟨gp, hgp, hgb⟩ := hgx
      have hj2 : n / 20 % 2 < ([(" " : Str), gp] : List Str).length := Nat.mod_lt _ (by decide)
      have hg2 := List.getElem?_eq_getElem hj2
      have hgin := List.getElem_mem hj2
      generalize ([(" " : Str), gp] : List Str)[n / 20 % 2] = gq at hg2 hgin
      have hgq : gapB gq = true := by
        simp only [List.mem_cons, List.not_mem_nil, or_false] at hgin
        rcases hgin with rfl | rfl
        · exact List.all_eq_true.mp gaps_all _ (by simp)
        · exact hgb
      unfold gapB at hgq
      obtain ⟨hgq1, hgq2⟩ := Bool.and_eq_true_iff.mp hgq
      obtain ⟨hgq3, hgq4⟩ := Bool.and_eq_true_iff.mp hgq1
      have hgl1 := of_decide_eq_true hgq3
      have hgl3 := of_decide_eq_true hgq4
      have hgc : ∀ c ∈ gq.cps.toList, low c = [] ∧ c < 128 := fun c hc => by
        have q := List.all_eq_true.mp hgq2 c hc
        obtain ⟨q1, q2⟩ := Bool.and_eq_true_iff.mp q
        exact ⟨of_decide_eq_true q1, of_decide_eq_true q2⟩
      obtain ⟨ht1, ht2, ht3⟩ := ht
      have htl : (xs.take i).length ≤ 20 := by
        rw [List.length_take]
        omega
      have m45 : (n : Int) / 4 % 5 = ((n / 4 % 5 : Nat) : Int) := by omega
      have m202 : (n : Int) / 20 % 2 = ((n / 20 % 2 : Nat) : Int) := by omega
      have hlst : EvL (tLst (tCons (tC (.str " ")) (tCons (tOp (rIxL K) (tVar 2) (tOp (rI (fun _ j => 0 < j) fun i j => .int (i % j)) (tOp (rI CDiv fun i j => .int (i / j)) (tVar 5) (tC (.int 4))) (tC (.int 5)))) tNil))) [some (.ref d), some (.ref wa), some (.ref g), some (.str t), some (.str w'), some (.int (n : Int))] H6 ([(" " : Str), gp].map V.str) :=
        el_lst (ea_cons ev_c (ea_cons (ev_op (ev_var rfl) (ev_is (ev_op (ev_op (ev_var rfl) ev_c (rv_I ⟨by decide, by decide⟩)) ev_c (rv_I (by decide))) (congrArg V.int m45)) (rv_ixL (sq_of g6) (atI_nat (by rw [List.getElem?_map, hgp]; rfl)))) ea_nil)) (by simp)
      refine s_asg (v := .str (t ++ w' ++ gq)) (ev_op (ev_op (ev_var rfl) (ev_var rfl) (rv_addS (by omega))) (ev_pick (F := V.str) (es := [(" " : Str), gp]) hlst (fun H7 e7 => ev_is (ev_op (ev_op (ev_var rfl) ev_c (rv_I ⟨by decide, by decide⟩)) ev_c (rv_I (by decide))) (congrArg V.int m202)) hg2) (rv_addS (by rw [str_app_len]; omega))) fun H7 e7 => ?_
      have e57 := e6.trans e7
      refine ⟨_, _, t ++ w' ++ gq, rfl, e25.trans e57, eg5.trans e57, d5.ex e57, ?_, ?_, ?_⟩
      · rw [app_codes, app_codes, List.take_succ, hi, Option.toList_some]
        have hgne : gq.cps.toList ≠ [] := fun z => by
          rw [len_of, z] at hgl1
          exact absurd hgl1 (by decide)
        obtain ⟨c0, r0, hc0⟩ : ∃ c0 r0, gq.cps.toList = c0 :: r0 := by
          cases hq : gq.cps.toList with
          | nil => exact absurd hq hgne
          | cons a b => exact ⟨a, b, rfl⟩
        refine wfold_step ht1 (fun z => ?_) ?_ hlow (c0 := c0) (by rw [hc0]; rfl) fun c hc => (hgc c hc).1
        · rw [len_of, z] at hw1
          exact absurd hw1 (by decide)
        · rw [← len_of, ← len_of]
          exact hl
      · intro c hc
        rw [app_codes, app_codes] at hc
        rcases List.mem_append.mp hc with z | z
        · rcases List.mem_append.mp z with z | z
          · exact ht2 c z
          · exact h128 c z
        · exact (hgc c z).2
      · rw [str_app_len, str_app_len, List.take_succ, hi, Option.toList_some, List.length_append, List.length_singleton]
        omega
    have m4 : (n : Int) % 4 = ((n % 4 : Nat) : Int) := by omega
    refine q_when (b := decide (n % 4 = 0)) (et_is (et_test (ev_op (ev_op (ev_var rfl) ev_c (rv_I (by decide))) ev_c (rv_eq rfl))) ?_) (fun hb H6 e6 => ?_) fun hb H6 e6 => ?_
    · refine decide_eq_decide.mpr ?_
      constructor
      · intro z
        have z2 := V.int.inj z
        omega
      · intro z
        have : (n : Int) % 4 = 0 := by omega
        exact congrArg V.int this
    · have hx128 : ∀ c ∈ x.cps.toList, c < 128 := fun c hc => by
        have := hw3 c hc
        unfold wdC at this
        omega
      have hup := PyProof.Rows.upper_ascii hx128
      have hupc : (Txt.upper x).cps.toList = x.cps.toList.map up1 := by
        rw [hup]
        simp
      refine ⟨_, rfl, ⟨x, rfl⟩, x, rfl, rfl, by omega, ?_⟩
      refine rest (Txt.upper x) H6 e6 ?_ (fun i c e h1 h2 => ?_) fun c hc => ?_
      · rw [len_of, hupc, List.length_map, ← len_of]
      · rw [hupc, List.getElem?_map, h2] at h1
        cases h1
        exact low_up (hw3 e (List.mem_of_getElem? h2))
      · rw [hupc] at hc
        obtain ⟨a, ha, rfl⟩ := List.mem_map.mp hc
        have := hx128 a ha
        unfold up1
        split
        · omega
        · exact this
    · refine rest x H6 e6 rfl (fun i c e h1 h2 => ?_) fun c hc => ?_
      · rw [h2] at h1
        cases h1
        exact low_wd (hw3 _ (List.mem_of_getElem? h2))
      · have := hw3 c hc
        unfold wdC at this
        omega
  · rintro Hg eg σ H3 ⟨y4, y5, t, rfl, e3, e3g, d3, ht⟩
    rw [List.take_length] at ht
    refine s_ret (ev_var rfl) fun H4 e4 => k _ H4 (fun b o hb => e4 _ _ (e3 _ _ ?_)) (d3.ex e4) ⟨t, rfl, ht⟩
    have hbd : b ≠ d := fun z => by
      rw [z, del_at] at hb
      cases hb
    rw [del_ne hbd]
    exact e02 _ _ hb
end Fc
/-! A document drawn. -/
namespace Fc
open PySem PySem.Spec PyProof.Rows L2 Evl
theorem rd_pick {K : PySem.W.Frag} {σ : L2.St} {H : Hp} {tl : TE} {α : Type} {F : α → V} {es : List α} {c i : Nat} {d : Addr} (hl : EvL tl σ H (es.map F)) (hc : es.length = c) (h0 : 0 < c) (s : σ[i]? = some (some (.ref d))) (hd : Dr H d) {Q : VK} (q : ∀ x H1, x ∈ es → Ex (del H d) H1 → Dr H1 d → Q (F x) H1) :
    tOp (rIxL K) tl (tOp (rI (fun _ j => 0 < j) fun i j => .int (i % j)) (tCall sp_law_pop [] E0 (tCons (tVar i) tNil)) (tC (.int (c : Int)))) σ H Q := by
  refine hl H (Ex.refl _) _ fun p H2 hp e2 h2 => ?_
  have hd2 := hd.ex e2
  refine op_q (P := PopP H2 d) (rd_pop s hd2) fun v H3 ⟨n, hv, hn, e3, d3⟩ => ?_
  subst hv
  have hpd : p ≠ d := by
    obtain ⟨ds, hds, _⟩ := hd
    exact (own_ne hds hp).symm
  have h3 : H3 p = some (.lst (es.map F)) := e3 _ _ (by rw [del_ne hpd]; exact h2)
  have hj : n % c < es.length := by
    rw [hc]
    exact Nat.mod_lt _ h0
  refine ⟨_, _, rfl, rfl, (by show (0 : Int) < (c : Int); omega), p, _, _, _, rfl, rfl, sq_of h3, ?_, q es[n % c] H3 (List.getElem_mem hj) (fun b o hb => e3 _ _ (del_mono e2 _ _ hb)) d3⟩
  have e9 : (n : Int) % (c : Int) = ((n % c : Nat) : Int) := by simp
  rw [e9]
  exact atI_nat (by rw [List.getElem?_map, List.getElem?_eq_getElem hj]; rfl)
theorem rd_two {σ : L2.St} {H : Hp} {ta tb tj : TE} {r : R2} {xs ys : List V} {Q : VK} (ha : EvL ta σ H xs) (hb : ∀ H1, EvL tb σ H1 ys) (k : ∀ p p1 p2 H', H p1 = none → H p2 = none → Ex H H' → H' p = some (.lst [.ref p1, .ref p2]) → H' p1 = some (.lst xs) → H' p2 = some (.lst ys) → tj σ H' fun y H3 => r (.ref p) y H3 Q) : tOp r (tLst (tCons ta (tCons tb tNil))) tj σ H Q :=
  ha H (Ex.refl _) _ fun p1 H4 hp1 e4 h4 => hb H4 H4 (Ex.refl _) _ fun p2 H5 hp2 e5 h5 => ⟨sizeLine_of (by simp), fun p hp => k p p1 p2 _ hp1 (fresh_back e4 hp2) ((e4.trans e5).trans (Ex.new hp)) upd_same ((Ex.new hp) _ _ (e5 _ _ h4)) ((Ex.new hp) _ _ h5)⟩
def FldIn (C : Hp) (es : List (Str × Addr)) (D : List (Str × List Str)) : Prop := Paired (fun e x => e.1 = x.1 ∧ C e.2 = some (.lst (x.2.map V.str))) es D
/-- fields and their words -/
def FldAt (G : Hp) (p : Addr) (D : List (Str × List Str)) : Prop := ∃ es : List (Str × Addr), G p = some (.dK (es.map fun e => (kS e.1, V.ref e.2))) ∧ FldIn G es D
theorem FldIn.mono {C C2 : Hp} {es : List (Str × Addr)} {D : List (Str × List Str)} (h : FldIn C es D) (e : Ex C C2) : FldIn C2 es D := Paired.mapP h fun _ _ ⟨a, b⟩ => ⟨a, e _ _ b⟩
theorem FldAt.mono {C C2 : Hp} {p : Addr} {D : List (Str × List Str)} (h : FldAt C p D) (e : Ex C C2) : FldAt C2 p D := by
  obtain ⟨es, h1, h2⟩ := h
  exact ⟨es, e _ _ h1, h2.mono e⟩
theorem FldIn.keys {C : Hp} {es : List (Str × Addr)} {D : List (Str × List Str)} (h : FldIn C es D) : es.map (·.1) = D.map (·.1) := by
  induction h with
  | nil => rfl
  | cons r _ ih => rw [List.map_cons, List.map_cons, r.1, ih]
abbrev six : List Str := ["aa", "b", "body", "h", "t", "title"]
def DocF (ws : List Str) (D : List (Str × List Str)) : Prop := (D.map (·.1)).Nodup ∧ ∀ x ∈ D, x.1 ∈ six ∧ x.2.length ≤ 14 ∧ ∀ w ∈ x.2, w ∈ ws
def sp_law_document : Sp := fun vs H Q _ => ∃ (d pa : Addr) (ws : List Str), vs = [.ref d, .ref pa] ∧ Dr H d ∧ H pa = some (.lst (ws.map V.str)) ∧ PoolOk ws ∧ Drew H d (fun v H' => ∃ p D, v = .ref p ∧ H p = none ∧ FldAt (fr H H') p D ∧ DocF ws D) Q
theorem sc_law_document : FnScope ["_law_draws_here", "_law_pool_here", "_law_found", "_law_number", "_law_some", "_law_field_here"] ["_law_draws_here", "_law_pool_here"] (defScope s_law_document) := ⟨rfl, rfl, rfl, by decide +kernel, rfl, by decide +kernel, by decide +kernel⟩
theorem ok_law_document {P : Program} {w : World} {K : PySem.W.Frag} {mg : Str → Option Value} {base : Heap} (G : Gd K mg "_law_document" s_law_document) (T : Tx K mg) (O_law_pop : OkF P w K mg base 1 "_law_pop" ["_law_draws_here"] sp_law_pop) (O_law_words : OkF P w K mg base 2 "_law_words" ["_law_draws_here", "_law_pool_here", "_law_most"] sp_law_words) : OkF P w K mg base 3 "_law_document" ["_law_draws_here", "_law_pool_here"] sp_law_document := by
  refine G.ok (k := 2) sc_law_document (fun _ _ _ _ _ _ us hl => match us, hl with | [_, _], _ => rfl) (fun vs H Q E h => ?_) (fun f cdv A outer s H vs Q E hr h => ?_)
  · unfold sp_law_document at h
    repeat (first | (obtain ⟨rfl, h⟩ := h; rfl) | (obtain ⟨_, h⟩ := h))
  have hu := hu_of hr
  refine ⟨_, (pss_cons (psv 2 sc_law_document.nd pe_dnewK)
      (pss_cons (psv 3 sc_law_document.nd (pe_fn O_law_pop (hr.mono (by decide)) (pa_cons (pv 0) pa_nil)))
      (pss_cons (psv 4 sc_law_document.nd (pe_ix (ixlK K) (pe_lst (pa_cons (pe_lst (pa_cons pe_str (pa_cons pe_str (pa_cons pe_str pa_nil)))) (pa_cons (pe_lst (pa_cons pe_str (pa_cons pe_str (pa_cons pe_str (pa_cons pe_str (pa_cons pe_str (pa_cons pe_str pa_nil))))))) pa_nil))) (pe_callTy (T := "int") call_int1 rfl T.n_int (by decide +kernel) (pa_cons (pe_cmpR op_eq (pe_op op_mod (pv 3) pe_int) pe_int (nomark _)) pa_nil)) (fun _ _ => rfl)))
      (pss_cons (ps_for PassesOwn.never rfl (pi_list (pe_slice (slLK K) (pv 4) (po_some (pe_op op_mod (pe_op op_fdiv (pv 3) pe_int) pe_int)) po_none)) (pgv 5 sc_law_document.nd)
        (pss_one (ps_if (pt_cmpR op_gt (pe_op op_mod (pe_fn O_law_pop (hr.mono (by decide)) (pa_cons (pv 0) pa_nil)) pe_int) pe_int (nomark _)) (pss_one (ps_dput hu (pv 2) (pv 5) (pe_fn O_law_words (hr.mono (by decide)) (pa_cons (pv 0) (pa_cons (pv 1) (pa_cons (pe_ix (ixlK K) (pe_lst (pa_cons pe_int (pa_cons pe_int (pa_cons pe_int pa_nil)))) (pe_op op_mod (pe_fn O_law_pop (hr.mono (by decide)) (pa_cons (pv 0) pa_nil)) pe_int) (fun _ _ => rfl)) pa_nil)))) rfl)) pss_nil)))
      (pss_one (ps_ret (pv 2))))))), ?_⟩
  obtain ⟨d, pa, ws, rfl, hd, hpa, hok, k⟩ := h
  have hpd := pool_ne hd hpa hok.ne
  obtain ⟨ds0, hds0, _⟩ := id hd
  refine fun fd hfd => ?_
  have e1 : Ex H (upd H fd (.dK [])) := Ex.new hfd
  have hfdd : fd ≠ d := (own_ne hds0 hfd).symm
  have f1 : upd H fd (.dK []) fd = some (.dK []) := upd_same
  generalize upd H fd (.dK []) = H1 at e1 f1
  refine q_asgQ (C := PopP H1 d) (rd_pop rfl (hd.ex e1)) fun v H2 ⟨n, hv, hn, e2, d2⟩ => ?_
  subst hv
  have e02 : Ex (del H d) H2 := fun b o hb => e2 _ _ (del_mono e1 _ _ hb)
  have f2 : H2 fd = some (.dK []) := e2 _ _ (by rw [del_ne hfdd]; exact f1)
  -- the fields
  refine q_asgQ (C := fun v H3 => ∃ (a : Addr) (fs : List Str), v = .ref a ∧ H2 a = none ∧ Ex H2 H3 ∧ H3 a = some (.lst (fs.map V.str)) ∧ fs.Nodup ∧ (∀ f ∈ fs, f ∈ six) ∧ fs.length ≤ 6) (fun Q3 q3 => ?_) fun v H3 ⟨a, fs, hv, ha, e3, h3, hfn, hf6, hfl⟩ => ?_
  · have hA : ∀ H4, EvL (tLst (tCons (tC (.str "body")) (tCons (tC (.str "h")) (tCons (tC (.str "title")) tNil)))) [some (.ref d), some (.ref pa), some (.ref fd), some (.int (n : Int)), none, none] H4 ([("body" : Str), "h", "title"].map V.str) := fun H4 => el_lst (ea_cons ev_c (ea_cons ev_c (ea_cons ev_c ea_nil))) (by simp)
    have hB : ∀ H4, EvL (tLst (tCons (tC (.str "aa")) (tCons (tC (.str "b")) (tCons (tC (.str "body")) (tCons (tC (.str "h")) (tCons (tC (.str "t")) (tCons (tC (.str "title")) tNil))))))) [some (.ref d), some (.ref pa), some (.ref fd), some (.int (n : Int)), none, none] H4 (six.map V.str) := fun H4 => el_lst (ea_cons ev_c (ea_cons ev_c (ea_cons ev_c (ea_cons ev_c (ea_cons ev_c (ea_cons ev_c ea_nil)))))) (by simp)
    refine rd_two (hA H2) hB fun p p1 p2 H6 hp1 hp2H e46 hp' h1' h2' => ?_
    have hc : Ev (tOp rEq (tOp (rI (fun _ j => 0 < j) fun i j => .int (i % j)) (tVar 3) (tC (.int 8))) (tC (.int 1))) [some (.ref d), some (.ref pa), some (.ref fd), some (.int (n : Int)), none, none] H6 (.bl (decide (V.int ((n : Int) % 8) = .int 1))) := ev_op (ev_op (ev_var rfl) ev_c (rv_I (by decide))) ev_c (rv_eq rfl)
    refine hc H6 (Ex.refl _) _ fun H7 e7 => .inr ⟨_, rfl, ?_⟩
    cases hb : decide (V.int ((n : Int) % 8) = V.int 1) with
    | true => exact ⟨p, _, _, _, rfl, rfl, sq_of (e7 _ _ hp'), atI_nat (j := 1) rfl, q3 _ _ ⟨p2, six, rfl, hp2H, e46.trans e7, e7 _ _ h2', by decide, fun _ h => h, by decide⟩⟩
    | false => exact ⟨p, _, _, _, rfl, rfl, sq_of (e7 _ _ hp'), atI_nat (j := 0) rfl, q3 _ _ ⟨p1, ["body", "h", "title"], rfl, hp1, e46.trans e7, e7 _ _ h1', by decide, by decide, by decide⟩⟩
  subst hv
  have e03 : Ex (del H d) H3 := fun b o hb => e3 _ _ (e02 _ _ hb)
  have d3 := d2.ex e3
  have f3 := e3 _ _ f2
  have had : a ≠ d := by
    obtain ⟨ds, hds, _⟩ := d2
    exact (own_ne hds ha).symm
  have haf : a ≠ fd := (own_ne f2 ha).symm
  have hdH : H d ≠ none := ns hds0
  -- the walk's own list
  have hcut : ∃ gs : List Str, cutV (fs.map V.str) (some ((n / 8 % 2 : Nat) : Int)) none = gs.map V.str ∧ gs.Nodup ∧ (∀ f ∈ gs, f ∈ six) ∧ gs.length ≤ 6 := by
    unfold cutV
    refine ⟨(fs.drop (HT.sIx (fs.map V.str).length 0 (some ((n / 8 % 2 : Nat) : Int)))).take (HT.sIx (fs.map V.str).length (fs.map V.str).length none - HT.sIx (fs.map V.str).length 0 (some ((n / 8 % 2 : Nat) : Int))), by rw [List.map_take, List.map_drop], ?_, fun f hf => hf6 f (List.mem_of_mem_drop (List.mem_of_mem_take hf)), ?_⟩
    · exact List.Sublist.nodup ((List.take_sublist _ _).trans (List.drop_sublist _ _)) hfn
    · rw [List.length_take, List.length_drop]
      omega
  obtain ⟨gs, hgs, hgn, hg6, hgl⟩ := hcut
  have m82 : (n : Int) / 8 % 2 = ((n / 8 % 2 : Nat) : Int) := by omega
  have hsl : EvL (tSl (rSlL K) (tVar 4) (tPart (tOp (rI (fun _ j => 0 < j) fun i j => .int (i % j)) (tOp (rI CDiv fun i j => .int (i / j)) (tVar 3) (tC (.int 8))) (tC (.int 2)))) tNoPart) [some (.ref d), some (.ref pa), some (.ref fd), some (.int (n : Int)), some (.ref a), none] H3 (gs.map V.str) := by
    rw [← hgs]
    exact el_sl (ev_var rfl) (eo_some (ev_is (ev_op (ev_op (ev_var rfl) ev_c (rv_I ⟨by decide, by decide⟩)) ev_c (rv_I (by decide))) (congrArg V.int m82))) eo_none (sq_of h3)
  refine s_forQ (D := { nx := _, rt := _ }) (P := fun v H4 => ∃ p, v = .ref p ∧ H3 p = none ∧ Ex H3 H4 ∧ H4 p = some (.lst (gs.map V.str))) (fun Q4 q4 => hsl H3 (Ex.refl _) Q4 fun p H4 hp e4 h4 => q4 _ _ ⟨p, rfl, hp, e4, h4⟩) fun v H4 ⟨p, hv, hp, e4, h4⟩ => ?_
  have hpdr : p ≠ d := by
    obtain ⟨ds, hds, _⟩ := d3
    exact (own_ne hds hp).symm
  have hpf : p ≠ fd := (own_ne f3 hp).symm
  have hpH : H p = none := by
    cases hq : H p with
    | none => rfl
    | some u =>
      rw [e03 _ _ (by rw [del_ne hpdr]; exact hq)] at hp
      cases hp
  refine ⟨p, gs.map V.str, hv, h4, fun i σ H5 => ∃ (y5 : Option V) (C : Hp) (es : List (Str × Addr)) (D : List (Str × List Str)), σ = [some (.ref d), some (.ref pa), some (.ref fd), some (.int (n : Int)), some (.ref a), y5] ∧ Ex (del H d) H5 ∧ Dr H5 d ∧ H5 fd = some (.dK (es.map fun e => (kS e.1, V.ref e.2))) ∧ Ex C (fr H H5) ∧ C fd = none ∧ C p = some (.lst (gs.map V.str)) ∧ FldIn C es D ∧ (D.map (·.1)).Sublist (gs.take i) ∧ ∀ x ∈ D, x.2.length ≤ 14 ∧ ∀ w ∈ x.2, w ∈ ws, ?_, ?_, ?_, ?_⟩
  · refine ⟨none, del (fr H H4) fd, [], [], rfl, fun b o hb => e4 _ _ (e03 _ _ hb), d3.ex e4, e4 _ _ f3, del_ex, del_at, ?_, .nil, List.nil_sublist _, fun _ h => absurd h List.not_mem_nil⟩
    rw [del_ne hpf, fr_at hpH]
    exact h4
  · rintro i σ H5 _ ⟨_, C, _, _, _, _, _, _, eC, _, hCp, _⟩
    exact (eC.trans fr_ex) _ _ hCp
  · rintro i x σ H5 hi ⟨y5, C, es, D, rfl, e5, d5, f5, eC, hCf, hCp, hF, hsub, hD⟩
    obtain ⟨f9, hf9, rfl⟩ := map_at hi
    have hf96 := hg6 f9 (List.mem_of_getElem? hf9)
    have hfnew := nodup_take hgn hf9
    have htk : gs.take (i + 1) = gs.take i ++ [f9] := by
      rw [List.take_succ, hf9, Option.toList_some]
    show tIfS _ _ _ _ [some (.ref d), some (.ref pa), some (.ref fd), some (.int (n : Int)), some (.ref a), some (.str f9)] H5
    have keepFr : ∀ {H6 : Hp}, Ex (del H5 d) H6 → Ex (fr H H5) (fr H H6) := fun {H6} e6 b o hb => by
      have hbn := fr_none hb
      rw [fr_at hbn] at hb ⊢
      exact e6 _ _ (by rw [del_ne (fun z => hdH (by rw [← z]; exact hbn))]; exact hb)
    refine s_ifQ (P := fun b H6 => Ex (del H5 d) H6 ∧ Dr H6 d) (fun Q6 q6 => ?_) (fun H6 ⟨e6, d6⟩ => ?_) (fun H6 ⟨e6, d6⟩ => ?_)
    · refine et_opQ (P := fun v H6 => ∃ m : Int, v = .int m ∧ Ex (del H5 d) H6 ∧ Dr H6 d) (fun Q7 q7 => op_q (P := PopP H5 d) (rd_pop rfl d5) fun v H6 ⟨m, hv, hm, e6, d6⟩ => ?_) fun v H6 ⟨m, hv, e6, d6⟩ => ?_
      · subst hv
        exact ⟨_, _, rfl, rfl, (by show (0 : Int) < 5; decide), q7 _ _ ⟨_, rfl, e6, d6⟩⟩
      · subst hv
        exact ⟨_, _, rfl, rfl, _, rfl, q6 _ _ ⟨e6, d6⟩⟩
    · have e06 := moved e5 e6
      have f6 : H6 fd = some (.dK (es.map fun e => (kS e.1, V.ref e.2))) := e6 _ _ (by rw [del_ne hfdd]; exact f5)
      have pa6 : H6 pa = some (.lst (ws.map V.str)) := e06 _ _ (by rw [del_ne hpd]; exact hpa)
      refine s_dputQ (P := fun v H7 => ∃ (q : Addr) (xs : List Str), v = .ref q ∧ H6 q = none ∧ Ex (del H6 d) H7 ∧ Dr H7 d ∧ H7 q = some (.lst (xs.map V.str)) ∧ xs.length ≤ 14 ∧ ∀ x ∈ xs, x ∈ ws) (fun Q7 q7 => ?_) fun v H7 ⟨q, xs, hv, hq, e7, d7, h7, hxl, hxs⟩ => ?_
      · refine ⟨_, rfl, _, rfl, rd_pick (F := V.int) (es := [9, 4, 14]) (c := 3) (el_lst (ea_cons ev_c (ea_cons ev_c (ea_cons ev_c ea_nil))) (by simp)) rfl (by decide) rfl d6 fun m H7 hm e7 d7 => ?_⟩
        obtain ⟨mn, rfl, hmn⟩ : ∃ mn : Nat, m = (mn : Int) ∧ mn ≤ 14 := by
          simp at hm
          exact ⟨m.toNat, by omega, by omega⟩
        refine ⟨d, pa, ws, mn, rfl, d7, e7 _ _ (by rw [del_ne hpd]; exact pa6), hok, by omega, fun v H8 e8 d8 ⟨q, xs, hv, hq, h8, hxl, hxs⟩ => ?_⟩
        have hq6 : H6 q = none := by
          cases hq2 : H6 q with
          | none => rfl
          | some u =>
            by_cases c : q = d
            · obtain ⟨ds, hds, _⟩ := d7
              rw [c, hds] at hq
              cases hq
            · rw [e7 _ _ (by rw [del_ne c]; exact hq2)] at hq
              cases hq
        exact q7 _ _ ⟨q, xs, hv, hq6, moved e7 e8, d8, fr_ex _ _ h8, by omega, hxs⟩
      · subst hv
        have e57 := moved e6 e7
        have f7 : H7 fd = some (.dK (es.map fun e => (kS e.1, V.ref e.2))) := e7 _ _ (by rw [del_ne hfdd]; exact f6)
        have hqf : q ≠ fd := (own_ne f6 hq).symm
        have hqd : q ≠ d := by
          obtain ⟨ds, hds, _⟩ := d6
          exact (own_ne hds hq).symm
        have hqH : H q = none := by
          cases hq2 : H q with
          | none => rfl
          | some u =>
            rw [e06 _ _ (by rw [del_ne hqd]; exact hq2)] at hq
            cases hq
        have hkeys := hF.keys
        have hnk : valV (es.map fun e => (kS e.1, V.ref e.2)) (kS f9) = none := by
          cases hc : valV (es.map fun e => (kS e.1, V.ref e.2)) (kS f9) with
          | none => rfl
          | some u =>
            obtain ⟨e, he, hek⟩ := List.mem_map.mp (valV_some hc)
            have hen : e.1 = f9 := Sum.inr.inj (Prod.mk.inj hek).1
            have : f9 ∈ es.map (·.1) := List.mem_map.mpr ⟨e, he, hen⟩
            rw [hkeys] at this
            exact absurd (hsub.subset this) hfnew
        have hel : es.length ≤ 6 := by
          have a1 := congrArg List.length hkeys
          have a2 := hsub.length_le
          rw [List.length_map] at a1
          rw [List.length_take] at a2
          omega
        refine ⟨_, rfl, _, rfl, fd, _, rfl, .inl ⟨_, kS f9, f7, rfl, sizeLine_lt (by rw [List.length_map]; omega), rfl⟩, ?_⟩
        rw [putK_new _ hnk]
        have hgr : Ex (fr H H5) (fr H H7) := keepFr e57
        have e9 : Ex C (del (fr H H7) fd) := fun b o hb => by
          rw [del_ne (own_ne hb hCf)]
          exact hgr _ _ (eC _ _ hb)
        refine ⟨_, del (fr H H7) fd, es ++ [(f9, q)], D ++ [(f9, xs)], rfl, (moved e5 e57).mut (by rw [del_ne hfdd]; exact hfd), ?_, by rw [upd_same, List.map_append]; rfl, ?_, del_at, e9 _ _ hCp, ?_, ?_, fun x hx => ?_⟩
        · obtain ⟨ds, g1, g2⟩ := d7
          exact ⟨ds, by rw [upd_ne (fun z => hfdd z.symm)]; exact g1, g2⟩
        · rw [fr_upd hfd]
          exact del_ex.mut del_at
        · refine (hF.mono e9).snoc ⟨rfl, ?_⟩
          rw [del_ne hqf, fr_at hqH]
          exact h7
        · rw [List.map_append, htk]
          exact hsub.append (List.Sublist.refl _)
        · rcases List.mem_append.mp hx with z | z
          · exact hD x z
          · rw [List.mem_singleton.mp z]
            exact ⟨hxl, hxs⟩
    · exact ⟨_, C, es, D, rfl, moved e5 e6, d6, e6 _ _ (by rw [del_ne hfdd]; exact f5), eC.trans (keepFr e6), hCf, hCp, hF, hsub.trans (by rw [htk]; exact List.sublist_append_left _ _), hD⟩
  · rintro σ H5 ⟨y5, C, es, D, rfl, e5, d5, f5, eC, hCf, hCp, hF, hsub, hD⟩
    rw [List.length_map, List.take_length] at hsub
    refine s_ret (ev_var rfl) fun H6 e6 => k _ H6 (fun b o hb => e6 _ _ (e5 _ _ hb)) (d5.ex e6) ⟨fd, D, rfl, hfd, ⟨es, ?_, hF.mono (eC.trans (fr_to e6))⟩, hsub.nodup hgn, fun x hx => ⟨hg6 _ (hsub.subset (List.mem_map.mpr ⟨x, hx, rfl⟩)), hD x hx⟩⟩
    rw [fr_at hfd]
    exact e6 _ _ f5
end Fc
/-! A document filed. -/
namespace Fc
open PySem PySem.Spec PyProof.Rows L2 Evl
def fldW (D : List (Str × List Str)) (f : Str) : List Str := match D.find? (fun x => decide (x.1 = f)) with
  | some x => x.2
  | none => []
theorem fldW_at {D : List (Str × List Str)} (hn : (D.map (·.1)).Nodup) {x : Str × List Str} (hx : x ∈ D) : fldW D x.1 = x.2 := by
  unfold fldW
  induction D with
  | nil => exact absurd hx List.not_mem_nil
  | cons y r ih =>
    rw [List.map_cons, List.nodup_cons] at hn
    rw [List.find?_cons]
    rcases List.mem_cons.mp hx with z | z
    · rw [← z, decide_eq_true rfl]
    · have hne : ¬ y.1 = x.1 := fun e => hn.1 (by rw [e]; exact List.mem_map.mpr ⟨x, z, rfl⟩)
      rw [decide_eq_false hne]
      exact ih hn.2 z
theorem six_lt : (six.all fun x => six.all fun y => ltCps x.cps.toList y.cps.toList || decide (x = y) || decide (y.cps.toList < x.cps.toList)) = true := by decide +kernel
theorem six_nm : (six.all fun x => decide (0 < x.length) && decide (x.length ≤ 12) && x.cps.toList.all fun c => decide (c ∈ tLET.cps.toList)) = true := by decide +kernel
theorem nm_six {f : Str} (h : f ∈ six) : Nm f := by
  have q := List.all_eq_true.mp six_nm f h
  obtain ⟨q12, q3⟩ := Bool.and_eq_true_iff.mp q
  obtain ⟨q1, q2⟩ := Bool.and_eq_true_iff.mp q12
  exact ⟨of_decide_eq_true q1, of_decide_eq_true q2, fun c hc => of_decide_eq_true (List.all_eq_true.mp q3 c hc)⟩
theorem rising_lt : ∀ {ks : List Str} {p : Str}, risingS p ks = true → p ∉ ks → ks.Nodup → p ∈ six → (∀ f ∈ ks, f ∈ six) → (p :: ks).Pairwise (fun a b => a.cps.toList < b.cps.toList)
  | [], p, _, _, _, _, _ => List.pairwise_singleton _ _
  | x :: r, p, h, hp, hn, hp6, h6 => by
    have h2 : (!ltCps x.cps.toList p.cps.toList && risingS x r) = true := h
    obtain ⟨h3, h4⟩ := Bool.and_eq_true_iff.mp h2
    rw [List.nodup_cons] at hn
    have hx6 := h6 x List.mem_cons_self
    have ih := rising_lt h4 hn.1 hn.2 hx6 fun f hf => h6 f (List.mem_cons_of_mem _ hf)
    have hne : x ≠ p := fun z => hp (by rw [z]; exact List.mem_cons_self)
    have hpx : p.cps.toList < x.cps.toList := by
      have q := List.all_eq_true.mp (List.all_eq_true.mp six_lt x hx6) p hp6
      have h5 : ltCps x.cps.toList p.cps.toList = false := by simpa using h3
      rw [h5, decide_eq_false hne] at q
      simpa using q
    refine List.pairwise_cons.mpr ⟨fun y hy => ?_, ih⟩
    rcases List.mem_cons.mp hy with z | z
    · rw [z]
      exact hpx
    · exact List.lt_trans hpx ((List.pairwise_cons.mp ih).1 y z)
theorem sorted_lt {ks : List Str} (h : sortedS ks = true) (hn : ks.Nodup) (h6 : ∀ f ∈ ks, f ∈ six) : ks.Pairwise (fun a b => a.cps.toList < b.cps.toList) := by
  cases ks with
  | nil => exact .nil
  | cons x r =>
    rw [List.nodup_cons] at hn
    exact rising_lt h hn.1 hn.2 (h6 x List.mem_cons_self) fun f hf => h6 f (List.mem_cons_of_mem _ hf)
/-- what is filed: a document whose words are D's -/
structure Filed (ws : List Str) (D : List (Str × List Str)) (ds : Doc) : Prop where
  ok : DocOk ds
  inn : ∀ L : List Str, (∀ f ∈ six, f ∈ L) → (∀ w ∈ ws, w ∈ L) → DocIn L ds
  fw : ∀ f, fw ds f = fldW D f
theorem FldIn.at {C : Hp} {es : List (Str × Addr)} {D : List (Str × List Str)} (h : FldIn C es D) (hn : (D.map (·.1)).Nodup) {f : Str} (hf : f ∈ D.map (·.1)) : ∃ a, valV (es.map fun e => (kS e.1, V.ref e.2)) (kS f) = some (.ref a) ∧ C a = some (.lst ((fldW D f).map V.str)) := by
  unfold fldW
  induction h with
  | nil => exact absurd hf List.not_mem_nil
  | @cons e x es D r _ ih =>
    rw [List.map_cons, List.nodup_cons] at hn
    rw [List.map_cons, List.find?_cons]
    by_cases c : x.1 = f
    · rw [decide_eq_true c]
      exact ⟨e.2, valV_pos (by show kS e.1 = kS f; rw [r.1, c]), r.2⟩
    · rw [decide_eq_false c, valV_neg (fun z => c (by rw [← r.1]; exact Sum.inr.inj z))]
      rw [List.map_cons] at hf
      exact ih hn.2 ((List.mem_cons.mp hf).resolve_left fun z => c z.symm)
theorem FldIn.no {C : Hp} {es : List (Str × Addr)} {D : List (Str × List Str)} (h : FldIn C es D) {f : Str} (hf : f ∉ D.map (·.1)) : valV (es.map fun e => (kS e.1, V.ref e.2)) (kS f) = none ∧ fldW D f = [] := by
  unfold fldW
  induction h with
  | nil => exact ⟨rfl, rfl⟩
  | @cons e x es D r _ ih =>
    rw [List.map_cons] at hf
    have hne : ¬ x.1 = f := fun z => hf (by rw [z]; exact List.mem_cons_self)
    obtain ⟨h1, h2⟩ := ih fun z => hf (List.mem_cons_of_mem _ z)
    rw [List.map_cons, List.find?_cons, decide_eq_false hne, valV_neg (fun z => hne (by rw [← r.1]; exact Sum.inr.inj z))]
    exact ⟨h1, h2⟩
def TxtOf (D : List (Str × List Str)) (q : Str × Str) (f : Str) : Prop := q.1 = f ∧ TextOk q.2 (fldW D f)
theorem filed_of {ws : List Str} {D : List (Str × List Str)} (hw : ∀ w ∈ ws, WdOk w) (hD : DocF ws D) {ys : List Str} {ds : Doc} (hys : ys.Perm (D.map (·.1))) (hs : sortedS ys = true) (hp : Paired (TxtOf D) ds ys) : Filed ws D ds := by
  have hyn : ys.Nodup := hys.nodup_iff.mpr hD.1
  have hy6 : ∀ f ∈ ys, f ∈ six := fun f hf => by
    obtain ⟨x, hx, rfl⟩ := List.mem_map.mp (hys.mem_iff.mp hf)
    exact (hD.2 x hx).1
  have hlt := sorted_lt hs hyn hy6
  have hnames : ds.map (·.1) = ys := by
    clear hlt hy6 hyn hs hys
    induction hp with
    | nil => rfl
    | cons r _ ih => rw [List.map_cons, r.1, ih]
  have hmem : ∀ q ∈ ds, q.1 ∈ ys ∧ TextOk q.2 (fldW D q.1) := fun q hq => by
    obtain ⟨i, hi⟩ := List.getElem?_of_mem hq
    obtain ⟨f, hf, r1, r2⟩ := pd_getL hp hi
    rw [r1]
    exact ⟨List.mem_of_getElem? hf, r2⟩
  have hfw : ∀ f ∈ ys, ∃ x ∈ D, x.1 = f ∧ fldW D f = x.2 := fun f hf => by
    obtain ⟨x, hx, rfl⟩ := List.mem_map.mp (hys.mem_iff.mp hf)
    exact ⟨x, hx, rfl, fldW_at hD.1 hx⟩
  refine ⟨⟨fun q hq => nm_six (hy6 _ (hmem q hq).1), ?_, ?_, fun q hq c hc => ?_⟩, fun L h1 h2 q hq => ?_, fun f => ?_⟩
  · have h9 : (ds.map (·.1)).Pairwise (fun a b => a.cps.toList < b.cps.toList) := by
      rw [hnames]
      exact hlt
    exact (List.pairwise_map (f := fun q : Str × Str => q.1) (R := fun a b : Str => a.cps.toList < b.cps.toList)).mp h9
  · have a1 := hp.length
    have a2 := nodup_le (b := six) hyn hy6
    have a3 : six.length = 6 := rfl
    omega
  · have := (hmem q hq).2.2.1 c hc
    omega
  · obtain ⟨g1, g2, g3, g4⟩ := hmem q hq
    obtain ⟨x, hx, _, hxw⟩ := hfw _ g1
    have hx14 := (hD.2 x hx).2.1
    have hwo := wordsOf_end g2
    rw [hxw] at hwo g4
    rw [hwo]
    exact ⟨h1 _ (hy6 _ g1), by omega, by omega, fun w hw2 => h2 w ((hD.2 x hx).2.2 w hw2)⟩
  · by_cases c : f ∈ ys
    · rw [← hnames] at c
      obtain ⟨q, hq, hqf⟩ := List.mem_map.mp c
      unfold Fc.fw
      cases hc : ds.find? (fun p => decide (p.1 = f)) with
      | none =>
        have := List.find?_eq_none.mp hc q hq
        exact absurd (decide_eq_true hqf) this
      | some p =>
        have hpm := List.mem_of_find?_eq_some hc
        have hpf : p.1 = f := by simpa using List.find?_some (p := fun p : Str × Str => decide (p.1 = f)) hc
        obtain ⟨_, g2, _⟩ := hmem p hpm
        rw [← hpf]
        exact wordsOf_end g2
    · rw [fw_none fun q hq z => c (by rw [← z]; exact (hmem q hq).1)]
      unfold fldW
      have : D.find? (fun x => decide (x.1 = f)) = none := List.find?_eq_none.mpr fun x hx => by
        have h9 : x.1 ≠ f := fun z => c (hys.mem_iff.mpr (List.mem_map.mpr ⟨x, hx, z⟩))
        simpa using h9
      rw [this]
theorem if_tt {P Q : Prop} (h : P) : if true = true then P else Q := by
  rw [if_pos rfl]
  exact h
def sp_law_filed : Sp := fun vs H Q _ => ∃ (d fa : Addr) (ws : List Str) (D : List (Str × List Str)), vs = [.ref d, .ref fa] ∧ Dr H d ∧ FldAt (del H d) fa D ∧ DocF ws D ∧ (∀ w ∈ ws, WdOk w) ∧
  Drew H d (fun v H' => ∃ (p : Addr) (ds : Doc), v = .ref p ∧ H p = none ∧ DocAt (fr H H') p ds ∧ Filed ws D ds) Q
theorem sc_law_filed : FnScope ["_law_draws_here", "_law_fields", "_law_field_here"] ["_law_draws_here", "_law_fields"] (defScope s_law_filed) := ⟨rfl, rfl, rfl, by decide +kernel, rfl, by decide +kernel, by decide +kernel⟩
theorem ok_law_filed {P : Program} {w : World} {K : PySem.W.Frag} {mg : Str → Option Value} {base : Heap} (G : Gd K mg "_law_filed" s_law_filed) (T : Tx K mg) (O_law_text : OkF P w K mg base 2 "_law_text" ["_law_draws_here", "_law_words_here"] sp_law_text) : OkF P w K mg base 3 "_law_filed" ["_law_draws_here", "_law_fields"] sp_law_filed := by
  refine G.ok (k := 2) sc_law_filed (fun _ _ _ _ _ _ us hl => match us, hl with | [_, _], _ => rfl) (fun vs H Q E h => ?_) (fun f cdv A outer s H vs Q E hr h => ?_)
  · unfold sp_law_filed at h
    repeat (first | (obtain ⟨rfl, h⟩ := h; rfl) | (obtain ⟨_, h⟩ := h))
  have hu := hu_of hr
  refine ⟨_, (pss_one (ps_ret (pe_lc (own := [("_law_field_here", 2)]) (g := gName 2) rfl sc_law_filed.nd (pi_list (pe_callB (id := "sorted") (call_sortedD rfl) rfl T.n_sorted (by decide +kernel) (pa_cons (pv 1) pa_nil))) (blkOk_by (own := [("_law_field_here", 2)]) (N := ["_law_draws_here", "_law_fields", "_law_field_here"]) (sc := defScope s_law_filed) (by decide +kernel)) (fun _ _ _ _ _ => (pgv 2 sc_law_filed.nd)) (fun _ _ _ _ _ => pts_nil) (fun _ _ _ _ _ => (pe_tup (pa_cons (pv 2) (pa_cons (pe_fn O_law_text (hr.mono (by decide)) (pa_cons (pv 0) (pa_cons (pe_dget hu (pv 1) (pv 2) (fun _ _ => rfl)) pa_nil))) pa_nil))))))), ?_⟩
  obtain ⟨d, fa, ws, D, rfl, hd, ⟨es, hfa, hF⟩, hD, hwo, k⟩ := h
  obtain ⟨ds0, hds0, _⟩ := id hd
  have hkeys := hF.keys
  have hdH : H d ≠ none := ns hds0
  have hD6 : (D.map (·.1)).length ≤ 6 := by
    have q := nodup_le (b := six) hD.1 fun f hf => by
      obtain ⟨x, hx, rfl⟩ := List.mem_map.mp hf
      exact (hD.2 x hx).1
    exact q
  refine s_retQ (C := fun v H' => ∃ (p : Addr) (ds : Doc), v = .ref p ∧ H p = none ∧ Ex (del H d) H' ∧ Dr H' d ∧ DocAt (fr H H') p ds ∧ Filed ws D ds) (fun Q2 q2 => ?_) fun v H' ⟨p, ds, hv, hp, e, d', hda, hfi⟩ => k v H' e d' ⟨p, ds, hv, hp, hda, hfi⟩
  refine ⟨_, rfl, fa, _, D.map (·.1), rfl, .inl (del_ex _ _ hfa), ?_, by omega, fun ys p pm hst hp => ?_⟩
  · rw [List.map_map, ← hkeys, List.map_map]
    rfl
  have hyl : ys.length ≤ 6 := by rw [pm.length_eq]; exact hD6
  have e1 : Ex H (upd H p (.lst (ys.map V.str))) := Ex.new hp
  have p1 : upd H p (.lst (ys.map V.str)) p = some (.lst (ys.map V.str)) := upd_same
  generalize upd H p (.lst (ys.map V.str)) = H1 at e1 p1 ⊢
  have hpd : p ≠ d := (own_ne hds0 hp).symm
  refine ⟨p, rfl, ⟨_, sq_of p1⟩, fun Dl hDl => ?_⟩
  have hDlH : H Dl = none := fresh_back e1 hDl
  have hDld : Dl ≠ d := (own_ne hds0 hDlH).symm
  have hDlp : Dl ≠ p := (own_ne p1 hDl).symm
  refine lc_it (walk_list (xs := ys.map V.str)) (fun i H' => ∃ (C : Hp) (xs : List V) (ds : Doc), Ex (del H d) H' ∧ Dr H' d ∧ H' Dl = some (.lst xs) ∧ Ex C (fr H H') ∧ C Dl = none ∧ C p = some (.lst (ys.map V.str)) ∧ Paired (fun v (q : Str × Str) => ∃ t, v = V.ref t ∧ C t = some (.tup [.str q.1, .str q.2])) xs ds ∧ Paired (TxtOf D) ds (ys.take i)) ?_ ?_ ?_ ?_
  · refine ⟨del (fr H (upd H1 Dl (.lst []))) Dl, [], [], ?_, ?_, upd_same, del_ex, del_at, ?_, .nil, .nil⟩
    · exact (del_ex.trans e1).trans (Ex.new hDl)
    · exact (hd.ex e1).ex (Ex.new hDl)
    · rw [del_ne (fun z => hDlp z.symm), fr_at hp, upd_ne (fun z => hDlp z.symm)]
      exact p1
  · rintro i H' _ ⟨C, _, _, _, _, _, eC, _, hCp, _⟩
    exact sq_of ((eC.trans fr_ex) _ _ hCp)
  · rintro i x H2 H3 hi ⟨C, xs, ds, e2, d2, h2, eC, hCD, hCp, hxs, hds⟩ ⟨rfl, hx⟩
    obtain ⟨f, hf, rfl⟩ := map_at hx
    have hfD : f ∈ D.map (·.1) := pm.mem_iff.mp (List.mem_of_getElem? hf)
    obtain ⟨wa, hwa, hwl⟩ := hF.at hD.1 hfD
    have hwad : wa ≠ d := own_ne hwl del_at
    have hwl3 : H3 wa = some (.lst ((fldW D f).map V.str)) := e2 _ _ hwl
    obtain ⟨x0, hx0, hx1⟩ := List.mem_map.mp hfD
    have hfx : fldW D f = x0.2 := by rw [← hx1]; exact fldW_at hD.1 hx0
    have hx14 := (hD.2 x0 hx0).2
    refine ⟨rfl, ?_⟩
    refine ⟨_, rfl, _, rfl, ⟨_, rfl, _, rfl, fa, .ref wa, rfl, .inl ⟨_, kS f, .inl (e2 _ _ hfa), rfl, hwa.symm⟩, d, wa, fldW D f, rfl, d2, hwad, hwl3, by rw [hfx]; omega, fun y hy => hwo y (hx14.2 y (by rw [← hfx]; exact hy)), fun v H4 e4 d4 ⟨t, hv, ht⟩ => ⟨sizeLine_of (by simp), fun tp htp => ?_⟩⟩⟩
    subst hv
    have e24 := moved e2 e4
    have h4 : H4 Dl = some (.lst xs) := e4 _ _ (by rw [del_ne hDld]; exact h2)
    have e5 : Ex H4 (upd H4 tp (.tup [.str f, .str t])) := Ex.new htp
    have htpD : tp ≠ Dl := (own_ne h4 htp).symm
    have htpd : tp ≠ d := by
      obtain ⟨dd9, g1, _⟩ := d4
      exact (own_ne g1 htp).symm
    have htpH : H tp = none := by
      cases hq : H tp with
      | none => rfl
      | some u =>
        rw [e24 _ _ (by rw [del_ne htpd]; exact hq)] at htp
        cases htp
    have hxl : xs.length ≤ 6 := by
      have a1 := hxs.length
      have a2 := hds.length
      rw [List.length_take] at a2
      omega
    have hgr : Ex (fr H H3) (fr H (upd H4 tp (.tup [.str f, .str t]))) := fun b o hb => by
      have hbn := fr_none hb
      rw [fr_at hbn] at hb ⊢
      exact e5 _ _ (e4 _ _ (by rw [del_ne (fun z => hdH (by rw [← z]; exact hbn))]; exact hb))
    have hCg : Ex C (del (fr H (upd H4 tp (.tup [.str f, .str t]))) Dl) := fun b o hb => by
      rw [del_ne (own_ne hb hCD)]
      exact hgr _ _ (eC _ _ hb)
    refine ⟨xs, e5 _ _ h4, sizeLine_lt (by omega), del (fr H (upd H4 tp (.tup [.str f, .str t]))) Dl, xs ++ [.ref tp], ds ++ [(f, t)], (e24.trans e5).mut (by rw [del_ne hDld]; exact hDlH), ?_, upd_same, ?_, del_at, hCg _ _ hCp, ?_, ?_⟩
    · obtain ⟨dd9, g1, g2⟩ := d4.ex e5
      exact ⟨dd9, by rw [upd_ne (fun z => hDld z.symm)]; exact g1, g2⟩
    · rw [fr_upd hDlH]
      exact del_ex.mut del_at
    · refine Paired.snoc (Paired.mapP hxs fun _ _ ⟨q, g1, g2⟩ => ⟨q, g1, hCg _ _ g2⟩) ⟨tp, rfl, ?_⟩
      rw [del_ne htpD, fr_at htpH]
      exact upd_same
    · rw [List.take_succ, hf, Option.toList_some]
      exact hds.snoc ⟨rfl, ht⟩
  · rintro H2 ⟨C, xs, ds, e2, d2, h2, eC, hCD, hCp, hxs, hds⟩
    rw [List.length_map, List.take_length] at hds
    have hback : ∀ {vs : List V} {ds : Doc}, Paired (fun v (q : Str × Str) => ∃ t, v = V.ref t ∧ C t = some (.tup [.str q.1, .str q.2])) vs ds → ∃ ts : List Addr, vs = ts.map V.ref ∧ Paired (fun t (q : Str × Str) => fr H H2 t = some (.tup [.str q.1, .str q.2])) ts ds := by
      intro vs ds p
      induction p with
      | nil => exact ⟨[], rfl, .nil⟩
      | cons r _ ih =>
        obtain ⟨t, g1, g2⟩ := r
        obtain ⟨ts, e, p⟩ := ih
        subst g1 e
        exact ⟨t :: ts, rfl, .cons (eC _ _ g2) p⟩
    obtain ⟨ts, rfl, hts⟩ := hback hxs
    exact q2 _ _ ⟨Dl, ds, rfl, hDlH, e2, d2, ⟨ts, by rw [fr_at hDlH]; exact h2, hts⟩, filed_of hwo hD pm hst hds⟩
end Fc
/-! A pattern drawn. -/
namespace Fc
open PySem PySem.Spec PyProof.Rows L2 Evl
theorem patC_wd {c : Nat} (h : wdC c) : patC c = true := by
  unfold patC
  unfold wdC at h
  rcases h with z | z
  · rw [decide_eq_true (mem_let.mpr z)]
    rfl
  · rw [decide_eq_true (mem_fig.mpr z)]
    simp
theorem pat_lit {x : Str} (h : (x.cps.toList.all patC) = true) : ∀ c ∈ x.cps.toList, patC c = true := fun c hc => List.all_eq_true.mp h c hc
theorem pat_app {x y : Str} {a b : Nat} (hx : x.length ≤ a) (hy : y.length ≤ b) (cx : ∀ c ∈ x.cps.toList, patC c = true) (cy : ∀ c ∈ y.cps.toList, patC c = true) : (x ++ y).length ≤ a + b ∧ ∀ c ∈ (x ++ y).cps.toList, patC c = true := by
  refine ⟨by rw [str_app_len]; omega, fun c hc => ?_⟩
  rw [app_codes] at hc
  rcases List.mem_append.mp hc with z | z
  · exact cx c z
  · exact cy c z
theorem marks_all : ((List.range 39).all fun k => decide ((Txt.mul "?" ((1 : Int) + (k : Int))).length = 1 + k) && (Txt.mul "?" ((1 : Int) + (k : Int))).cps.toList.all patC) = true := by decide +kernel
theorem cutS_len2 (z : Str) (lo : Option Int) : (cutS z lo none).length ≤ z.length := by
  rw [len_of, len_of]
  unfold cutS
  simp
  omega
theorem zz_ok : WdOk "zz" := ⟨by decide, by decide, lit_c (by decide +kernel)⟩
def sp_law_pattern : Sp := fun vs H Q _ => ∃ (d pa : Addr) (ws : List Str), vs = [.ref d, .ref pa] ∧ Dr H d ∧ H pa = some (.lst (ws.map V.str)) ∧ PoolOk ws ∧ Drew H d (fun v _ => ∃ p : Str, v = .str p ∧ PatOk p) Q
theorem sc_law_pattern : FnScope ["_law_draws_here", "_law_pool_here", "_law_number", "_law_word", "_law_at", "_law_some"] ["_law_draws_here", "_law_pool_here"] (defScope s_law_pattern) := ⟨rfl, rfl, rfl, by decide +kernel, rfl, by decide +kernel, by decide +kernel⟩
theorem ok_law_pattern {P : Program} {w : World} {K : PySem.W.Frag} {mg : Str → Option Value} {base : Heap} (G : Gd K mg "_law_pattern" s_law_pattern) (T : Tx K mg) (O_law_pop : OkF P w K mg base 1 "_law_pop" ["_law_draws_here"] sp_law_pop) : OkF P w K mg base 2 "_law_pattern" ["_law_draws_here", "_law_pool_here"] sp_law_pattern := by
  refine G.ok (k := 1) sc_law_pattern (fun _ _ _ _ _ _ us hl => match us, hl with | [_, _], _ => rfl) (fun vs H Q E h => ?_) (fun f cdv A outer s H vs Q E hr h => ?_)
  · unfold sp_law_pattern at h
    repeat (first | (obtain ⟨rfl, h⟩ := h; rfl) | (obtain ⟨_, h⟩ := h))
  have hu := hu_of hr
  refine ⟨_, (pss_cons (psv 2 sc_law_pattern.nd (pe_fn O_law_pop (hr.mono (by decide)) (pa_cons (pv 0) pa_nil)))
      (pss_cons (psv 3 sc_law_pattern.nd (pe_ix (ixlK K) (pe_op op_cat (pv 1) (pe_lst (pa_cons pe_str pa_nil))) (pe_op op_mod (pv 2) (pe_op op_add (pe_callB (id := "len") (lenK K) rfl T.n_len PySem.boot_len (pa_cons (pv 1) pa_nil)) pe_int)) (fun _ _ => rfl)))
      (pss_cons (psv 4 sc_law_pattern.nd (pe_op op_mod (pe_op op_fdiv (pv 2) pe_int) (pe_callB (id := "len") call_len_str rfl T.n_len PySem.boot_len (pa_cons (pv 3) pa_nil))))
      (pss_cons (psv 5 sc_law_pattern.nd (pe_lst (pa_cons (pe_op op_add_str (pe_slice sl_str (pv 3) po_none (po_some (pv 4))) pe_str) (pa_cons (pe_op op_add_str pe_str (pe_slice sl_str (pv 3) (po_some (pv 4)) po_none)) (pa_cons (pe_op op_add_str (pe_op op_add_str (pe_slice sl_str (pv 3) po_none (po_some (pv 4))) pe_str) (pe_slice sl_str (pv 3) (po_some (pe_op op_add (pv 4) pe_int)) po_none)) (pa_cons (pv 3) (pa_cons pe_str (pa_cons (pe_op op_srep pe_str (pe_op op_add pe_int (pv 4))) pa_nil))))))))
      (pss_one (ps_ret (pe_ix (ixlK K) (pe_op op_cat (pv 5) (pe_lst (pa_cons (pe_op op_add_str (pe_op op_add_str (pe_slice sl_str (pv 3) po_none (po_some (pv 4))) pe_str) (pe_slice sl_str (pv 3) (po_some (pe_op op_add (pv 4) pe_int)) po_none)) (pa_cons (pe_op op_add_str (pe_op op_add_str pe_str (pe_ix ix_str (pv 3) (pv 4) (fun _ _ => rfl))) pe_str) pa_nil)))) (pe_op op_mod (pe_op op_fdiv (pv 2) pe_int) pe_int) (fun _ _ => rfl)))))))), ?_⟩
  obtain ⟨d, pa, ws, rfl, hd, hpa, hok, k⟩ := h
  have hpd := pool_ne hd hpa hok.ne
  refine q_asgQ (C := PopP H d) (rd_pop rfl hd) fun v H1 ⟨n, hv, hn, e1, d1⟩ => ?_
  subst hv
  have pa1 : H1 pa = some (.lst (ws.map V.str)) := e1 _ _ (by rw [del_ne hpd]; exact hpa)
  have hj : n % 7 < (ws ++ [("zz" : Str)]).length := by
    rw [List.length_append, hok.1]
    exact Nat.mod_lt _ (by decide)
  have hx := List.getElem?_eq_getElem hj
  have hin := List.getElem_mem hj
  generalize (ws ++ [("zz" : Str)])[n % 7] = x at hx hin
  have hxo : WdOk x := by
    rcases List.mem_append.mp hin with z | z
    · exact hok.2 x z
    · rw [List.mem_singleton.mp z]
      exact zz_ok
  obtain ⟨hx1, hx2, hx3⟩ := id hxo
  have hxp : ∀ c ∈ x.cps.toList, patC c = true := fun c hc => patC_wd (hx3 c hc)
  have hlen : ∀ {H2 : Hp} {y3 y4 y5 : Option V}, Ex H1 H2 → Ev (tCB (rLenQ K) (tCons (tVar 1) tNil)) [some (.ref d), some (.ref pa), some (.int (n : Int)), y3, y4, y5] H2 (.int 6) := fun {H2 y3 y4 y5} e2 => by
    have q := ev_lenL (K := K) (ta := tVar 1) (σ := [some (.ref d), some (.ref pa), some (.int (n : Int)), y3, y4, y5]) (ev_var rfl) (sq_of (e2 _ _ pa1))
    rw [List.length_map, hok.1] at q
    exact q
  have m7 : (n : Int) % (6 + 1) = ((n % 7 : Nat) : Int) := by omega
  refine q_asg (v := .str x) ?_ fun H2 e2 => ?_
  · have hcat : EvL (tOp rCat (tVar 1) (tLst (tCons (tC (.str "zz")) tNil))) [some (.ref d), some (.ref pa), some (.int (n : Int)), none, none, none] H1 ((ws ++ [("zz" : Str)]).map V.str) := by
      rw [List.map_append]
      exact el_catV rfl pa1 (el_lst (ea_cons ev_c ea_nil) (by simp)) (by simp [hok.1])
    exact ev_pick (F := V.str) (es := ws ++ [("zz" : Str)]) hcat (fun H3 e3 => ev_is (ev_op (ev_var rfl) (ev_op (hlen e3) ev_c rv_I0) (rv_I (by decide))) (congrArg V.int m7)) hx
  have hat : n / 16 % x.length < x.length := Nat.mod_lt _ (by omega)
  generalize hatn : n / 16 % x.length = at9 at hat
  have mat : (n : Int) / 16 % (x.length : Int) = (at9 : Int) := by
    rw [← hatn]
    simp
  refine q_asg (v := .int (at9 : Int)) (ev_is (ev_op (ev_op (ev_var rfl) ev_c (rv_I ⟨by decide, by decide⟩)) (ev_lenS (ev_var rfl) (by omega)) (rv_I (by omega))) (congrArg V.int mat)) fun H3 e3 => ?_
  have e13 := e2.trans e3
  have hcode := List.getElem?_eq_getElem (l := x.cps.toList) (i := at9) (by rw [← len_of]; exact hat)
  have hcm := List.getElem_mem (l := x.cps.toList) (n := at9) (by rw [← len_of]; exact hat)
  generalize x.cps.toList[at9]'(by rw [← len_of]; exact hat) = c0 at hcode hcm
  have c1 := cutS_len x at9
  have c2 := cutS_len2 x (some (at9 : Int))
  have c3 := cutS_len2 x (some ((at9 : Int) + 1))
  have k1 : ∀ c ∈ (cutS x none (some (at9 : Int))).cps.toList, patC c = true := fun c hc => hxp c (cutS_mem hc)
  have k2 : ∀ c ∈ (cutS x (some (at9 : Int)) none).cps.toList, patC c = true := fun c hc => hxp c (cutS_mem hc)
  have k3 : ∀ c ∈ (cutS x (some ((at9 : Int) + 1)) none).cps.toList, patC c = true := fun c hc => hxp c (cutS_mem hc)
  have c4 : (cutS x (some ((at9 : Int) + 1)) none).length ≤ x.length - (at9 + 1) := by
    have e9 : ((at9 : Int) + 1) = ((at9 + 1 : Nat) : Int) := by omega
    rw [e9, len_of]
    unfold cutS
    rw [HT.sIx_nat, HT.sIx_none]
    simp
    rw [len_of] at hat ⊢
    simp at hat ⊢
    omega
  have lS : ("*" : Str).length = 1 := rfl
  have lQ : ("?" : Str).length = 1 := rfl
  have pS : ∀ c ∈ ("*" : Str).cps.toList, patC c = true := pat_lit (by decide +kernel)
  have pQ : ∀ c ∈ ("?" : Str).cps.toList, patC c = true := pat_lit (by decide +kernel)
  have hmk := List.all_eq_true.mp marks_all at9 (List.mem_range.mpr (by omega))
  obtain ⟨hm1, hm2⟩ := Bool.and_eq_true_iff.mp hmk
  have hm1 := of_decide_eq_true hm1
  have b1 : ∀ {σ : L2.St} {H4 : Hp}, σ[3]? = some (some (.str x)) → σ[4]? = some (some (.int (at9 : Int))) → Ev (tSl rSlS (tVar 3) tNoPart (tPart (tVar 4))) σ H4 (.str (cutS x none (some (at9 : Int)))) := fun s3 s4 => ev_slS (ev_var s3) eo_none (eo_some (ev_var s4)) (by omega)
  have b2 : ∀ {σ : L2.St} {H4 : Hp}, σ[3]? = some (some (.str x)) → σ[4]? = some (some (.int (at9 : Int))) → Ev (tSl rSlS (tVar 3) (tPart (tVar 4)) tNoPart) σ H4 (.str (cutS x (some (at9 : Int)) none)) := fun s3 s4 => ev_slS (ev_var s3) (eo_some (ev_var s4)) eo_none (by omega)
  have b3 : ∀ {σ : L2.St} {H4 : Hp}, σ[3]? = some (some (.str x)) → σ[4]? = some (some (.int (at9 : Int))) → Ev (tSl rSlS (tVar 3) (tPart (tOp (rI0 fun i j => .int (i + j)) (tVar 4) (tC (.int 1)))) tNoPart) σ H4 (.str (cutS x (some ((at9 : Int) + 1)) none)) := fun s3 s4 => ev_slS (ev_var s3) (eo_some (ev_op (ev_var s4) ev_c rv_I0)) eo_none (by omega)
  refine q_asgL (xs := [cutS x none (some (at9 : Int)) ++ "*", "*" ++ cutS x (some (at9 : Int)) none, cutS x none (some (at9 : Int)) ++ "?" ++ cutS x (some ((at9 : Int) + 1)) none, x, "*", Txt.mul "?" (1 + (at9 : Int))].map V.str) (el_lst (ea_cons (ev_op (b1 rfl rfl) ev_c (rv_addS (by omega))) (ea_cons (ev_op ev_c (b2 rfl rfl) (rv_addS (by omega))) (ea_cons (ev_op (ev_op (b1 rfl rfl) ev_c (rv_addS (by omega))) (b3 rfl rfl) (rv_addS (by rw [str_app_len]; omega))) (ea_cons (ev_var rfl) (ea_cons ev_c (ea_cons (ev_op ev_c (ev_op ev_c (ev_var rfl) rv_I0) (fun H5 e5 Q5 q5 => ⟨_, _, rfl, rfl, by decide, by omega, by omega, q5 H5 (Ex.refl _)⟩)) ea_nil)))))) (by simp)) fun sA H4 hsA e4 h4 => ?_
  have hj8 : n / 256 % 8 < ([cutS x none (some (at9 : Int)) ++ "*", "*" ++ cutS x (some (at9 : Int)) none, cutS x none (some (at9 : Int)) ++ "?" ++ cutS x (some ((at9 : Int) + 1)) none, x, "*", Txt.mul "?" (1 + (at9 : Int))] ++ [cutS x none (some (at9 : Int)) ++ "*" ++ cutS x (some ((at9 : Int) + 1)) none, "*" ++ ⟨#[c0]⟩ ++ "*"] : List Str).length := Nat.mod_lt _ (by decide)
  have hp8 := List.getElem?_eq_getElem hj8
  have hi8 := List.getElem_mem hj8
  generalize ([cutS x none (some (at9 : Int)) ++ "*", "*" ++ cutS x (some (at9 : Int)) none, cutS x none (some (at9 : Int)) ++ "?" ++ cutS x (some ((at9 : Int) + 1)) none, x, "*", Txt.mul "?" (1 + (at9 : Int))] ++ [cutS x none (some (at9 : Int)) ++ "*" ++ cutS x (some ((at9 : Int) + 1)) none, "*" ++ ⟨#[c0]⟩ ++ "*"] : List Str)[n / 256 % 8] = p9 at hp8 hi8
  have hpo : PatOk p9 := by
    have one : ∀ {y : Str} {a : Nat}, 1 ≤ y.length → (y.length ≤ a ∧ ∀ c ∈ y.cps.toList, patC c = true) → a ≤ 40 → PatOk y := fun h1 h2 h3 => ⟨h1, by have := h2.1; omega, h2.2⟩
    have pc : ∀ c ∈ (⟨#[c0]⟩ : Str).cps.toList, patC c = true := fun c hc => by
      have : c = c0 := by simpa using hc
      rw [this]
      exact hxp c0 hcm
    have lc : (⟨#[c0]⟩ : Str).length = 1 := rfl
    simp only [List.cons_append, List.nil_append, List.mem_cons, List.not_mem_nil, or_false] at hi8
    rcases hi8 with rfl | rfl | rfl | rfl | rfl | rfl | rfl | rfl
    · exact one (by rw [str_app_len]; omega) (pat_app (a := 38) (b := 1) (by omega) (by omega) k1 pS) (by omega)
    · exact one (by rw [str_app_len]; omega) (pat_app (a := 1) (b := 38) (by omega) (by omega) pS k2) (by omega)
    · have q := pat_app (a := at9) (b := 1) (x := cutS x none (some (at9 : Int))) (y := "?") (by omega) (by omega) k1 pQ
      exact one (by rw [str_app_len, str_app_len]; omega) (pat_app (a := at9 + 1) (b := x.length - (at9 + 1)) q.1 (by omega) q.2 k3) (by omega)
    · exact ⟨hx1, by omega, hxp⟩
    · exact ⟨by decide, by decide, pS⟩
    · refine ⟨by rw [hm1]; omega, by rw [hm1]; omega, pat_lit hm2⟩
    · have q := pat_app (a := at9) (b := 1) (x := cutS x none (some (at9 : Int))) (y := "*") (by omega) (by omega) k1 pS
      exact one (by rw [str_app_len, str_app_len]; omega) (pat_app (a := at9 + 1) (b := x.length - (at9 + 1)) q.1 (by omega) q.2 k3) (by omega)
    · have q := pat_app (a := 1) (b := 1) (x := ("*" : Str)) (y := ⟨#[c0]⟩) (by omega) (by omega) pS pc
      exact one (by rw [str_app_len, str_app_len]; omega) (pat_app (a := 2) (b := 1) q.1 (by omega) q.2 pS) (by omega)
  have lc0 : (⟨#[c0]⟩ : Str).length = 1 := rfl
  have m256 : (n : Int) / 256 % 8 = ((n / 256 % 8 : Nat) : Int) := by omega
  have hcat2 : EvL (tOp rCat (tVar 5) (tLst (tCons (tOp (fun x y H Q => ∃ i j, x = V.str i ∧ y = V.str j ∧ i.length + j.length ≤ sizeLine ∧ Q (.str (i ++ j)) H) (tOp (fun x y H Q => ∃ i j, x = V.str i ∧ y = V.str j ∧ i.length + j.length ≤ sizeLine ∧ Q (.str (i ++ j)) H) (tSl rSlS (tVar 3) tNoPart (tPart (tVar 4))) (tC (.str "*"))) (tSl rSlS (tVar 3) (tPart (tOp (rI0 fun i j => .int (i + j)) (tVar 4) (tC (.int 1)))) tNoPart)) (tCons (tOp (fun x y H Q => ∃ i j, x = V.str i ∧ y = V.str j ∧ i.length + j.length ≤ sizeLine ∧ Q (.str (i ++ j)) H) (tOp (fun x y H Q => ∃ i j, x = V.str i ∧ y = V.str j ∧ i.length + j.length ≤ sizeLine ∧ Q (.str (i ++ j)) H) (tC (.str "*")) (tOp rIxS (tVar 3) (tVar 4))) (tC (.str "*"))) tNil)))) [some (.ref d), some (.ref pa), some (.int (n : Int)), some (.str x), some (.int (at9 : Int)), some (.ref sA)] H4 (([cutS x none (some (at9 : Int)) ++ "*", "*" ++ cutS x (some (at9 : Int)) none, cutS x none (some (at9 : Int)) ++ "?" ++ cutS x (some ((at9 : Int) + 1)) none, x, "*", Txt.mul "?" (1 + (at9 : Int))] ++ [cutS x none (some (at9 : Int)) ++ "*" ++ cutS x (some ((at9 : Int) + 1)) none, "*" ++ ⟨#[c0]⟩ ++ "*"]).map V.str) := by
    rw [List.map_append]
    refine el_catV rfl h4 (el_lst (ea_cons (ev_op (ev_op (b1 rfl rfl) ev_c (rv_addS (by omega))) (b3 rfl rfl) (rv_addS (by rw [str_app_len]; omega))) (ea_cons (ev_op (ev_op ev_c (ev_op (ev_var rfl) (ev_var rfl) (rv_ixS (by omega) (codes_at hcode))) (rv_addS (by omega))) ev_c (rv_addS (by rw [str_app_len]; omega))) ea_nil)) (by simp)) (by simp)
  refine s_ret (ev_pick (F := V.str) hcat2 (fun H5 e5 => ev_is (ev_op (ev_op (ev_var rfl) ev_c (rv_I ⟨by decide, by decide⟩)) ev_c (rv_I (by decide))) (congrArg V.int m256)) hp8) fun H5 e5 => k _ H5 (fun b o hb => ((e13.trans e4).trans e5) _ _ (e1 _ _ hb)) (d1.ex ((e13.trans e4).trans e5)) ⟨p9, rfl, hpo⟩
end Fc
/-! Whether a pattern fits, by the law. -/
namespace Fc
open PySem PySem.Spec PyProof.Rows L2 Evl
def fitL : List Nat → List Nat → Bool
  | [], w => decide (w = [])
  | d :: p, [] => if d = 42 then fitL p [] else false
  | d :: p, c :: w => if d = 42 then fitL p (c :: w) || fitL (d :: p) w else (decide (d = 63) || decide (d = c)) && fitL p w
termination_by p w => p.length + w.length
theorem cutS_tail (x : Str) : (cutS x (some 1) none).cps.toList = x.cps.toList.tail := by
  have e := HT.sIx_nat x.length 0 1
  rw [show ((1 : Nat) : Int) = (1 : Int) from rfl] at e
  unfold cutS
  rw [e, HT.sIx_none]
  have hl := len_of x
  cases hc : x.cps.toList with
  | nil =>
    simp
  | cons c r =>
    rw [hc, List.length_cons] at hl
    rw [hl, Nat.min_eq_left (by omega)]
    simp
def sp_law_fits (n : Nat) : Sp := fun vs H Q _ => ∃ x y : Str, vs = [.str x, .str y] ∧ x.length + y.length < n ∧ x.length + y.length ≤ 1000 ∧ RetV (.bl (fitL x.cps.toList y.cps.toList)) H Q
theorem sc_law_fits : FnScope ["_law_pattern_here", "_law_word"] ["_law_pattern_here", "_law_word"] (defScope s_law_fits) := ⟨rfl, rfl, rfl, by decide +kernel, rfl, by decide +kernel, by decide +kernel⟩
theorem okr_law_fits {P : Program} {w : World} {K : PySem.W.Frag} {mg : Str → Option Value} {base : Heap} (k n : Nat) (hk : 1 ≤ k) (G : Gd K mg "_law_fits" s_law_fits) (T : Tx K mg) (O_law_fits : OkF P w K mg base k "_law_fits" ["_law_pattern_here", "_law_word"] (sp_law_fits n)) : OkF P w K mg base (k + 1) "_law_fits" ["_law_pattern_here", "_law_word"] (sp_law_fits (n + 1)) := by
  refine G.ok (k := k) sc_law_fits (fun _ _ _ _ _ _ us hl => match us, hl with | [_, _], _ => rfl) (fun vs H Q E h => ?_) (fun f cdv A outer s H vs Q E hr h => ?_)
  · unfold sp_law_fits at h
    repeat (first | (obtain ⟨rfl, h⟩ := h; rfl) | (obtain ⟨_, h⟩ := h))
  have hu := hu_of hr
  refine ⟨_, (pss_cons (ps_if (pt_cmpR op_eq (pv 0) pe_str (nomark _)) (pss_one (ps_ret (pe_cmpR op_eq (pv 1) pe_str (nomark _)))) pss_nil)
      (pss_cons (ps_if (pt_cmpR op_eq (pe_ix ix_str (pv 0) pe_int (fun _ _ => rfl)) pe_str (nomark _)) (pss_one (ps_ret (pe_or (pe_fn O_law_fits (hr.mono (by omega)) (pa_cons (pe_slice sl_str (pv 0) (po_some pe_int) po_none) (pa_cons (pv 1) pa_nil))) (pe_one (pe_and (pe_cmpR op_ne (pv 1) pe_str (nomark _)) (pe_one (pe_fn O_law_fits (hr.mono (by omega)) (pa_cons (pv 0) (pa_cons (pe_slice sl_str (pv 1) (po_some pe_int) po_none) pa_nil))))))))) pss_nil)
      (pss_one (ps_ret (pe_and (pe_cmpR op_ne (pv 1) pe_str (nomark _)) (pe_and (pe_cmpR (opInK K) (pe_ix ix_str (pv 0) pe_int (fun _ _ => rfl)) (pe_lst (pa_cons pe_str (pa_cons (pe_ix ix_str (pv 1) pe_int (fun _ _ => rfl)) pa_nil))) (by with_unfolding_all rfl)) (pe_one (pe_fn O_law_fits (hr.mono (by omega)) (pa_cons (pe_slice sl_str (pv 0) (po_some pe_int) po_none) (pa_cons (pe_slice sl_str (pv 1) (po_some pe_int) po_none) pa_nil)))))))))), ?_⟩
  obtain ⟨x, y, rfl, hn, hz, k9⟩ := h
  have hlx := len_of x
  have hly := len_of y
  have call : ∀ {σ : L2.St} {H1 : Hp} {ta tb : TE} {x2 y2 : Str}, Ev ta σ H1 (.str x2) → Ev tb σ H1 (.str y2) → x2.length + y2.length < x.length + y.length → Ev (tCall (sp_law_fits n) [] E0 (tCons ta (tCons tb tNil))) σ H1 (.bl (fitL x2.cps.toList y2.cps.toList)) := fun ha hb hl =>
    ev_call (ea_cons ha (ea_cons hb ea_nil)) fun H2 e2 Q2 q2 E2 => ⟨_, _, rfl, by omega, by omega, q2⟩
  have tl : ∀ {σ : L2.St} {H1 : Hp} {i : Nat} {z : Str}, σ[i]? = some (some (.str z)) → z.length ≤ 1000 → Ev (tSl rSlS (tVar i) (tPart (tC (.int 1))) tNoPart) σ H1 (.str (cutS z (some 1) none)) := fun s hz => ev_slS (ev_var s) (eo_some ev_c) eo_none (by omega)
  have tlen : ∀ {z : Str}, z.cps.toList ≠ [] → (cutS z (some 1) none).length + 1 = z.length := fun {z} hz => by
    rw [len_of, len_of, cutS_tail]
    cases hc : z.cps.toList with
    | nil => exact absurd hc hz
    | cons a b => rfl
  have emp : ∀ z : Str, decide ((V.str z) = V.str "") = decide (z.cps.toList = []) := fun z => by
    refine decide_eq_decide.mpr ?_
    constructor
    · intro h
      rw [V.str.inj h]
      rfl
    · intro h
      rw [← Z_of z, h]
      rfl
  refine q_when (b := decide (x.cps.toList = [])) (et_is (et_test (ev_op (ev_var rfl) ev_c (rv_eq rfl))) (emp x)) (fun hb H1 e1 => ?_) fun hb H1 e1 => ?_
  · refine s_ret (ev_is (ev_op (ev_var rfl) ev_c (rv_eq rfl)) ?_) fun H2 e2 => k9 H2 (e1.trans e2)
    rw [emp y, of_decide_eq_true hb]
    congr 1
    unfold fitL
    rfl
  · obtain ⟨d, p, hx⟩ : ∃ d p, x.cps.toList = d :: p := by
      cases hc : x.cps.toList with
      | nil => exact absurd hc (of_decide_eq_false hb)
      | cons a b => exact ⟨a, b, rfl⟩
    have hxt := tlen (z := x) (by rw [hx]; exact List.cons_ne_nil _ _)
    have hcx : (cutS x (some 1) none).cps.toList = p := by rw [cutS_tail, hx]; rfl
    have h0 : ∀ {H2 : Hp}, Ev (tOp rIxS (tVar 0) (tC (.int 0))) (start ["_law_pattern_here", "_law_word"] [.str x, .str y]) H2 (.str ⟨#[d]⟩) := fun {H2} => ev_op (ev_var rfl) ev_c (rv_ixS (by omega) (by rw [hx]; exact atI_nat (j := 0) rfl))
    have e42 : decide (V.str (⟨#[d]⟩ : Str) = V.str "*") = decide (d = 42) := by
      have e9 : ("*" : Str) = ⟨#[42]⟩ := rfl
      rw [e9]
      simp
    have ney : ∀ {H2 : Hp}, Ev (tOp rNe (tVar 1) (tC (.str ""))) (start ["_law_pattern_here", "_law_word"] [.str x, .str y]) H2 (.bl (!decide (y.cps.toList = []))) := fun {H2} => ev_is (ev_op (ev_var rfl) ev_c (rv_ne rfl)) (by rw [emp y])
    rw [hx] at k9
    refine q_when (b := decide (d = 42)) (et_is (et_test (ev_op h0 ev_c (rv_eq rfl))) e42) (fun hd H2 e2 => ?_) fun hd H2 e2 => ?_
    · have hd2 : d = 42 := of_decide_eq_true hd
      refine s_ret (ev_is (ev_orV (call (tl rfl (by omega)) (ev_var rfl) (by omega)) fun _ => ev_andV ney fun hy => call (ev_var rfl) (tl rfl (by omega)) ?_) ?_) fun H3 e3 => k9 H3 ((e1.trans e2).trans e3)
      · have := tlen (z := y) (by simpa using hy)
        omega
      · rw [hcx, cutS_tail, hx]
        congr 1
        cases hy : y.cps.toList with
        | nil =>
          simp [fitL, hd2]
        | cons c w =>
          simp [fitL, hd2]
    · have hd2 : ¬ d = 42 := of_decide_eq_false hd
      cases hy : y.cps.toList with
      | nil =>
        refine s_ret (ev_is (ev_andV (b := false) ney fun hy2 => ?_) ?_) fun H3 e3 => k9 H3 ((e1.trans e2).trans e3)
        · rw [hy] at hy2
          cases hy2
        · rw [hy]
          simp [fitL, hd2]
      | cons c w =>
        have hyt := tlen (z := y) (by rw [hy]; exact List.cons_ne_nil _ _)
        have hy0 : ∀ {H3 : Hp}, Ev (tOp rIxS (tVar 1) (tC (.int 0))) (start ["_law_pattern_here", "_law_word"] [.str x, .str y]) H3 (.str ⟨#[c]⟩) := fun {H3} => ev_op (ev_var rfl) ev_c (rv_ixS (by omega) (by rw [hy]; exact atI_nat (j := 0) rfl))
        have hin : Ev (tOp (rIn K false) (tOp rIxS (tVar 0) (tC (.int 0))) (tLst (tCons (tC (.str "?")) (tCons (tOp rIxS (tVar 1) (tC (.int 0))) tNil)))) (start ["_law_pattern_here", "_law_word"] [.str x, .str y]) H2 (.bl (decide (d = 63) || decide (d = c))) := by
          refine ev_is (ev_opL h0 (el_lst (vs := ([("?" : Str), ⟨#[c]⟩] : List Str).map V.str) (ea_cons ev_c (ea_cons hy0 ea_nil)) (by simp)) fun p H4 h4 e4 => rv_inS (ns := [("?" : Str), ⟨#[c]⟩]) (sq_of h4)) ?_
          congr 1
          have e9 : ("?" : Str) = ⟨#[63]⟩ := rfl
          rw [e9]
          simp
        refine s_ret (ev_is (ev_andV ney fun _ => ev_andV hin fun _ => call (tl rfl (by omega)) (tl rfl (by omega)) (by omega)) ?_) fun H3 e3 => k9 H3 ((e1.trans e2).trans e3)
        rw [hcx, cutS_tail, hy]
        simp [fitL, hd2]
end Fc
/-! Near and chained, by the law. -/
namespace Fc
open PySem PySem.Spec PyProof.Rows L2 Evl
def Asc (ws : List Str) : Prop := ∀ w ∈ ws, ∀ c ∈ w.cps.toList, c < 1114112
section
variable {K : PySem.W.Frag} {σ : L2.St} {H : Hp} {ta te : TE}
theorem ev_strsNil {xs : List Str} (h : EvL ta σ H (xs.map V.str)) (ok : Asc xs) : Ev (tOp (rEqD K) ta (tLst tNil)) σ H (.bl (decide (xs = []))) :=
  ev_opLL h (el_lst ea_nil (Nat.zero_le _)) fun p q H1 hp hq e1 H2 e2 Q2 q2 => ⟨_, _, .lst (sq_of (e2 _ _ hp)) (dp_strs xs), .lst (sq_of (e2 _ _ hq)) .nil, strs_lay ok, nil_shaped, by rw [nil_eq]; exact q2 H2 (Ex.refl _)⟩
theorem ev_strsNn {xs : List Str} (h : EvL ta σ H (xs.map V.str)) (ok : Asc xs) : Ev (tOp (rNeD K) ta (tLst tNil)) σ H (.bl (!decide (xs = []))) :=
  ev_opLL h (el_lst ea_nil (Nat.zero_le _)) fun p q H1 hp hq e1 H2 e2 Q2 q2 => ⟨_, _, .lst (sq_of (e2 _ _ hp)) (dp_strs xs), .lst (sq_of (e2 _ _ hq)) .nil, strs_lay ok, nil_shaped, by rw [nil_eq]; exact q2 H2 (Ex.refl _)⟩
theorem ev_natsNilN {xs : List Nat} (h : EvL ta σ H (nats xs)) : Ev (tOp (rEqD K) ta (tLst tNil)) σ H (.bl (decide (xs = []))) :=
  ev_opLL h (el_lst ea_nil (Nat.zero_le _)) fun p q H1 hp hq e1 H2 e2 Q2 q2 => ⟨_, _, .lst (sq_of (e2 _ _ hp)) (dp_nats xs), .lst (sq_of (e2 _ _ hq)) .nil, nats_lay xs, nil_shaped, by rw [nil_eq]; exact q2 H2 (Ex.refl _)⟩
theorem ev_cnt {a : Addr} {ws : List Str} {w : Str} (ha : Ev ta σ H (.ref a)) (h : H a = some (.lst (ws.map V.str))) (hw : Ev te σ H (.str w)) : Ev (tBM K "list" (rCntS K) ta (tCons te tNil)) σ H (.int (ws.count w : Nat)) := fun H1 e Q q =>
  ha H1 e _ fun H2 e2 => ⟨.inl ⟨rfl, _, sq_of ((e.trans e2) _ _ h)⟩, hw H2 (e.trans e2) _ fun H3 e3 => ⟨a, ws, w, rfl, rfl, sq_of (((e.trans e2).trans e3) _ _ h), q H3 (e2.trans e3)⟩⟩
end
def nearL (ws ns : List Str) : Bool := ns.all fun w => !decide (ws.count w < ns.count w)
def sp_law_near : Sp := fun vs H Q _ => ∃ (a b : Addr) (ws ns : List Str), vs = [.ref a, .ref b] ∧ H a = some (.lst (ws.map V.str)) ∧ H b = some (.lst (ns.map V.str)) ∧ ns.length ≤ 1000 ∧ Asc ns ∧ RetV (.bl (nearL ws ns)) H Q
theorem sc_law_near : FnScope ["_law_words_here", "_law_names", "_law_name"] ["_law_words_here", "_law_names"] (defScope s_law_near) := ⟨rfl, rfl, rfl, by decide +kernel, rfl, by decide +kernel, by decide +kernel⟩
theorem ok_law_near {P : Program} {w : World} {K : PySem.W.Frag} {mg : Str → Option Value} {base : Heap} (G : Gd K mg "_law_near" s_law_near) (T : Tx K mg) : OkF P w K mg base 1 "_law_near" ["_law_words_here", "_law_names"] sp_law_near := by
  refine G.ok (k := 0) sc_law_near (fun _ _ _ _ _ _ us hl => match us, hl with | [_, _], _ => rfl) (fun vs H Q E h => ?_) (fun f cdv A outer s H vs Q E hr h => ?_)
  · unfold sp_law_near at h
    repeat (first | (obtain ⟨rfl, h⟩ := h; rfl) | (obtain ⟨_, h⟩ := h))
  have hu := hu_of hr
  refine ⟨_, (pss_one (ps_ret (pe_cmpR (eqDK K hr.units) (pe_lc (own := [("_law_name", 2)]) (g := gName 2) rfl sc_law_near.nd (pi_list (pv 1)) (blkOk_by (own := [("_law_name", 2)]) (N := ["_law_words_here", "_law_names", "_law_name"]) (sc := defScope s_law_near) (by decide +kernel)) (fun _ _ _ _ _ => (pgv 2 sc_law_near.nd)) (fun _ _ _ _ _ => (pts_one (pt_cmpR op_lt (pe_bmK K PySem.F.plainAttrs_list PySem.F.slot_list_count PySem.F.type_list_count (cntK K) (pv 0) (pa_cons (pv 2) pa_nil)) (pe_bmK K PySem.F.plainAttrs_list PySem.F.slot_list_count PySem.F.type_list_count (cntK K) (pv 1) (pa_cons (pv 2) pa_nil)) (nomark _)))) (fun _ _ _ _ _ => (pv 2))) (pe_lst pa_nil) (nomark _)))), ?_⟩
  obtain ⟨a, b, ws, ns, rfl, ha, hb, hl, hA, k⟩ := h
  have q := el_lcX (ti := iList K (tVar 1)) (g := gName 2) (vs := [2]) (t := tTest (tOp (rI0 fun i j => .bl (decide (i < j))) (tBM K "list" (rCntS K) (tVar 0) (tCons (tVar 2) tNil)) (tBM K "list" (rCntS K) (tVar 1) (tCons (tVar 2) tNil)))) (te := tVar 2) (es := ns) (σ := start ["_law_words_here", "_law_names", "_law_name"] [.ref a, .ref b]) (H := H) (st := fun (x : Str) σ0 => σ0.set 2 (some (.str x))) (fun w => decide (ws.count w < ns.count w)) (fun x => V.str x)
    (ex_list (F := V.str) (ev_var rfl) (sq_of hb)) (by omega) (fun x => rfl) (fun w _ H1 e1 => et_is (et_test (ev_op (ev_cnt (ev_var rfl) (e1 _ _ ha) (ev_var rfl)) (ev_cnt (ev_var rfl) (e1 _ _ hb) (ev_var rfl)) rv_I0)) (decide_eq_decide.mpr (by omega))) (fun w _ H1 e1 _ => ev_var rfl)
  refine s_ret (ev_is (ev_strsNil (K := K) (xs := ns.filter fun w => decide (ws.count w < ns.count w)) q fun w hw => hA w (List.mem_filter.mp hw).1) ?_) k
  congr 1
  unfold nearL
  have e9 : (ns.filter fun w => decide (ws.count w < ns.count w)) = [] ↔ ns.all (fun w => !decide (ws.count w < ns.count w)) = true := by
    rw [List.filter_eq_nil_iff, List.all_eq_true]
    refine forall_congr' fun w => forall_congr' fun _ => ?_
    simp
  cases hc : ns.all (fun w => !decide (ws.count w < ns.count w)) with
  | true => exact decide_eq_true (e9.mpr hc)
  | false => exact decide_eq_false fun z => by rw [e9.mp z] at hc; cases hc
/-- later places of a word -/
def chainL (ws : List Str) (most : Nat) : List Str → Nat → Bool
  | [], _ => true
  | n :: r, last => match (posOf ws n).filter (fun o => decide (last < o) && decide (o < most)) with
    | [] => false
    | k :: _ => chainL ws most r k
end Fc
/-! Chained, by the law. -/
namespace Fc
open PySem PySem.Spec PyProof.Rows L2 Evl
theorem ex_range2 {ta : TA} {σ : L2.St} {H : Hp} {j lo : Nat} {hi : Int} (h : EvA ta σ H [.int (lo : Int), .int hi]) (h1 : lo ≤ 10000 ∧ -10000 ≤ hi ∧ hi ≤ 10000) : EvX (iRng2 ta) (gName j) σ H ((List.range (hi - lo).toNat).map (lo + ·)) (fun (k : Nat) σ0 => σ0.set j (some (.int (k : Int)))) := fun Hs e R k =>
  h Hs e _ fun H1 e1 => ⟨lo, hi, rfl, ⟨by omega, by omega, by omega, by omega⟩, k _ H1 H _ (fun _ => True) _ (walk_range (lo := (lo : Int))) (by rw [List.length_map, List.length_range]) e1 (Ex.refl _) (e.trans e1) (fun _ _ z => z) (fun _ _ => trivial) fun i x v H2 H3 hi2 e2 y σ0 S q => by
    obtain ⟨rfl, rfl⟩ := y
    rw [List.getElem?_map] at hi2
    obtain ⟨z, hz, rfl⟩ := Option.map_eq_some_iff.mp hi2
    obtain ⟨g1, g2⟩ := List.getElem?_eq_some_iff.mp hz
    rw [List.getElem_range] at g2
    subst g2
    have e0 : (lo : Int) + (i : Int) = ((lo + i : Nat) : Int) := by omega
    show S (σ0.set j (some (.int ((lo : Int) + (i : Int))))) H3
    rw [e0]
    exact q H3 (Ex.refl _)⟩
theorem later_eq (ws : List Str) (n : Str) (last most : Nat) : (((List.range (((min most ws.length : Nat) : Int) - ((last + 1 : Nat) : Int)).toNat).map ((last + 1) + ·)).filter fun k => decide (ws[k]? = some n)) = (posOf ws n).filter (fun o => decide (last < o) && decide (o < most)) := by
  refine lt_ext ?_ ?_ fun k => ?_
  · refine List.Pairwise.filter _ ?_
    rw [List.pairwise_map]
    exact List.pairwise_lt_range.imp fun h => by omega
  · unfold posOf
    exact (List.pairwise_lt_range.filter _).filter _
  · rw [List.mem_filter, List.mem_filter, List.mem_map, pos_mem, decide_eq_true_iff, Bool.and_eq_true, decide_eq_true_iff, decide_eq_true_iff]
    constructor
    · rintro ⟨⟨i, hi, rfl⟩, h⟩
      have := List.mem_range.mp hi
      refine ⟨h, by omega, by omega⟩
    · rintro ⟨h, h1, h2⟩
      have := (List.getElem?_eq_some_iff.mp h).1
      exact ⟨⟨k - (last + 1), List.mem_range.mpr (by omega), by omega⟩, h⟩
def sp_law_chained : Sp := fun vs H Q _ => ∃ (a b : Addr) (ws ns : List Str) (n0 : Str) (last most : Nat), vs = [.ref a, .ref b, .int (last : Int), .int (most : Int)] ∧ H a = some (.lst (ws.map V.str)) ∧ H b = some (.lst ((n0 :: ns).map V.str)) ∧ ns.length ≤ 100 ∧ ws.length ≤ 1000 ∧ last ≤ 1000 ∧ most ≤ 9000 ∧ RetV (.bl (chainL ws most ns last)) H Q
theorem sc_law_chained : FnScope ["_law_words_here", "_law_names", "_law_at", "_law_most", "_law_name", "_law_later", "_law_k"] ["_law_words_here", "_law_names", "_law_at", "_law_most"] (defScope s_law_chained) := ⟨rfl, rfl, rfl, by decide +kernel, rfl, by decide +kernel, by decide +kernel⟩
theorem ok_law_chained {P : Program} {w : World} {K : PySem.W.Frag} {mg : Str → Option Value} {base : Heap} (G : Gd K mg "_law_chained" s_law_chained) (T : Tx K mg) : OkF P w K mg base 1 "_law_chained" ["_law_words_here", "_law_names", "_law_at", "_law_most"] sp_law_chained := by
  refine G.ok (k := 0) sc_law_chained (fun _ _ _ _ _ _ us hl => match us, hl with | [_, _, _, _], _ => rfl) (fun vs H Q E h => ?_) (fun f cdv A outer s H vs Q E hr h => ?_)
  · unfold sp_law_chained at h
    repeat (first | (obtain ⟨rfl, h⟩ := h; rfl) | (obtain ⟨_, h⟩ := h))
  have hu := hu_of hr
  refine ⟨_, (pss_cons (ps_for PassesOwn.never rfl (pi_list (pe_slice (slLK K) (pv 1) (po_some pe_int) po_none)) (pgv 4 sc_law_chained.nd)
        (pss_cons (ps_setLc (i := 5) (own := [("_law_k", 6)]) (g := gName 6) rfl sc_law_chained.nd rfl rfl (sw_true rfl rfl rfl (by decide +kernel)) (pi_range2 rfl T.n_range (pa_cons (pe_op op_add (pv 2) pe_int) (pa_cons (pe_callB (id := "min") (call_min2 rfl) rfl T.n_min (by decide +kernel) (pa_cons (pv 3) (pa_cons (pe_callB (id := "len") (lenK K) rfl T.n_len PySem.boot_len (pa_cons (pv 0) pa_nil)) pa_nil))) pa_nil))) (blkOk_by (own := [("_law_k", 6)]) (N := ["_law_words_here", "_law_names", "_law_at", "_law_most", "_law_name", "_law_later", "_law_k"]) (sc := defScope s_law_chained) (by decide +kernel)) (fun _ _ _ _ _ => (pgv 6 sc_law_chained.nd)) (fun _ _ _ _ _ => (pts_one (pt_cmpR op_eq (pe_ix (ixlK K) (pv 0) (pv 6) (fun _ _ => rfl)) (pv 4) (nomark _)))) (fun _ _ _ _ _ => (pv 6)))
        (pss_cons (ps_if (pt_cmpR (eqDK K hr.units) (pv 5) (pe_lst pa_nil) (nomark _)) (pss_one (ps_ret pe_bl)) pss_nil)
        (pss_one (psv 2 sc_law_chained.nd (pe_ix (ixlK K) (pv 5) pe_int (fun _ _ => rfl)))))))
      (pss_one (ps_ret pe_bl))), ?_⟩
  obtain ⟨a, b, ws, ns, n0, last, most, rfl, ha, hb, hnl, hwl, hlast, hmost, k⟩ := h
  have hsl : EvL (tSl (rSlL K) (tVar 1) (tPart (tC (.int 1))) tNoPart) (start ["_law_words_here", "_law_names", "_law_at", "_law_most", "_law_name", "_law_later", "_law_k"] [.ref a, .ref b, .int (last : Int), .int (most : Int)]) H (ns.map V.str) := by
    have q := el_sl (K := K) (te := tVar 1) (tl := tPart (tC (.int 1))) (th := tNoPart) (σ := start ["_law_words_here", "_law_names", "_law_at", "_law_most", "_law_name", "_law_later", "_law_k"] [.ref a, .ref b, .int (last : Int), .int (most : Int)]) (H := H) (a := b) (ev_var rfl) (eo_some ev_c) eo_none (sq_of hb)
    rw [List.map_cons, cut_tail] at q
    exact q
  refine q_forX (H := H) (ex_listN (es := ns) (F := V.str) hsl) (Ex.refl _) (fun Hg i σ H1 => ∃ (l2 : Nat) (y4 y5 y6 : Option V), σ = [some (.ref a), some (.ref b), some (.int (l2 : Int)), some (.int (most : Int)), y4, y5, y6] ∧ Ex H H1 ∧ Ex Hg H1 ∧ l2 ≤ 1000 ∧ chainL ws most ns last = chainL ws most (ns.drop i) l2) (fun Hg H1 e1 eg => ⟨last, _, _, _, rfl, e1, eg, hlast, rfl⟩) (fun Hg i σ H1 ⟨_, _, _, _, _, _, e, _⟩ => e) ?_ ?_
  · rintro Hg eg _ i n σ H1 hi ⟨l2, y4, y5, y6, rfl, e1, e1g, hl2, hch⟩ H2 e2
    obtain ⟨hlt, hn2⟩ := List.getElem?_eq_some_iff.mp hi
    have hdr : ns.drop i = n :: ns.drop (i + 1) := by
      rw [List.drop_eq_getElem_cons hlt, hn2]
    have e12 := e1.trans e2
    have a2 := e12 _ _ ha
    have hmin : Ev (tCB (fun xs H Q => ∃ i j, xs = [V.int i, V.int j] ∧ Q (.int (if j < i then j else i)) H) (tCons (tVar 3) (tCons (tCB (rLenQ K) (tCons (tVar 0) tNil)) tNil))) [some (.ref a), some (.ref b), some (.int (l2 : Int)), some (.int (most : Int)), some (.str n), y5, y6] H2 (.int ((min most ws.length : Nat) : Int)) := by
      have hlen := ev_lenL (K := K) (ta := tVar 0) (σ := [some (.ref a), some (.ref b), some (.int (l2 : Int)), some (.int (most : Int)), some (.str n), y5, y6]) (ev_var rfl) (sq_of a2)
      rw [List.length_map] at hlen
      refine ev_is (ev_cb (ea_cons (ev_var rfl) (ea_cons hlen ea_nil)) fun H3 e3 Q3 q3 => ⟨_, _, rfl, q3 H3 (Ex.refl _)⟩) ?_
      congr 1
      split <;> omega
    have hlc := el_lcX (ti := iRng2 (tCons (tOp (rI0 fun i j => .int (i + j)) (tVar 2) (tC (.int 1))) (tCons (tCB (fun xs H Q => ∃ i j, xs = [V.int i, V.int j] ∧ Q (.int (if j < i then j else i)) H) (tCons (tVar 3) (tCons (tCB (rLenQ K) (tCons (tVar 0) tNil)) tNil))) tNil))) (g := gName 6) (vs := [6]) (t := tTest (tOp rEq (tOp (rIxL K) (tVar 0) (tVar 6)) (tVar 4))) (te := tVar 6) (es := (List.range (((min most ws.length : Nat) : Int) - ((l2 + 1 : Nat) : Int)).toNat).map ((l2 + 1) + ·)) (σ := [some (.ref a), some (.ref b), some (.int (l2 : Int)), some (.int (most : Int)), some (.str n), y5, y6]) (H := H2) (st := fun (k : Nat) σ0 => σ0.set 6 (some (.int (k : Int)))) (fun k => decide (ws[k]? = some n)) (fun k : Nat => V.int (k : Int))
      (ex_range2 (lo := l2 + 1) (ea_cons (ev_is (ev_op (ev_var rfl) ev_c rv_I0) (congrArg V.int (by omega))) (ea_cons hmin ea_nil)) (by omega)) (by rw [List.length_map, List.length_range]; omega) (fun x => rfl) (fun x hx H3 e3 => ?_) (fun x hx H3 e3 _ => ev_var rfl)
    · rw [later_eq] at hlc
      refine q_asgL hlc fun q H4 hq e4 h4 => ?_
      have hch2 : chainL ws most (n :: ns.drop (i + 1)) l2 = (match (posOf ws n).filter (fun o => decide (l2 < o) && decide (o < most)) with
        | [] => false
        | k :: _ => chainL ws most (ns.drop (i + 1)) k) := rfl
      cases hc : (posOf ws n).filter (fun o => decide (l2 < o) && decide (o < most)) with
      | nil =>
        rw [hc] at h4 hch2
        refine q_when (b := true) (et_is (et_test (ev_natsNil (ns := []) (ev_var rfl) (sq_of h4))) rfl) (fun _ H5 e5 => s_ret ev_c fun H6 e6 => ?_) fun z => nomatch z
        have q9 := k H6 ((e12.trans e4).trans (e5.trans e6))
        rw [hch, hdr, hch2] at q9
        exact q9
      | cons o os =>
        rw [hc] at h4 hch2
        have hom : o ∈ posOf ws n := (List.mem_filter.mp (by rw [hc]; exact List.mem_cons_self : o ∈ (posOf ws n).filter (fun o => decide (l2 < o) && decide (o < most)))).1
        have hol := pos_lt hom
        refine q_when (b := false) (et_is (et_test (ev_natsNil (ns := o :: os) (ev_var rfl) (sq_of h4))) rfl) (fun z => nomatch z) fun _ H5 e5 => ?_
        refine s_asg (v := .int (o : Int)) (ev_op (ev_var rfl) ev_c (rv_ixL (sq_of (e5 _ _ h4)) (i := 0) (atI_nat (j := 0) rfl))) fun H6 e6 => ⟨o, _, _, _, rfl, (e12.trans e4).trans (e5.trans e6), (e1g.trans e2).trans (e4.trans (e5.trans e6)), by omega, ?_⟩
        rw [hch, hdr, hch2]
    · obtain ⟨i3, hi3, rfl⟩ := List.mem_map.mp hx
      have := List.mem_range.mp hi3
      have hxl : l2 + 1 + i3 < ws.length := by omega
      have hat := List.getElem?_eq_getElem hxl
      refine et_is (et_test (ev_op (ev_op (ev_var rfl) (ev_var rfl) (rv_ixL (sq_of (e3 _ _ a2)) (atI_nat (v := .str ws[l2 + 1 + i3]) (by rw [List.getElem?_map, hat]; rfl)))) (ev_var rfl) (rv_eq rfl))) ?_
      rw [hat]
      refine decide_eq_decide.mpr ?_
      constructor
      · intro z
        rw [V.str.inj z]
      · intro z
        rw [Option.some.inj z]
  · rintro Hg eg σ H1 ⟨l2, y4, y5, y6, rfl, e1, e1g, hl2, hch⟩
    rw [List.drop_length] at hch
    refine s_ret ev_c fun H2 e2 => ?_
    have q9 := k H2 (e1.trans e2)
    rw [hch] at q9
    exact q9
end Fc
/-! A leaf in a field's words, by the law. -/
namespace Fc
open PySem PySem.Spec PyProof.Rows L2 Evl
theorem cut_win (xs : List V) (at9 n : Nat) (h : at9 ≤ xs.length) : cutV xs (some (at9 : Int)) (some ((at9 + n : Nat) : Int)) = (xs.drop at9).take n := by
  unfold cutV
  rw [HT.sIx_nat, HT.sIx_nat, Nat.min_eq_left h]
  by_cases c : at9 + n ≤ xs.length
  · rw [Nat.min_eq_left c, Nat.add_sub_cancel_left]
  · rw [Nat.min_eq_right (by omega), List.take_of_length_le (by simp), List.take_of_length_le (by simp; omega)]
theorem eqv_strs : ∀ xs ys : List Str, PyData.eqvAll (xs.map PyData.str) (ys.map PyData.str) = decide (xs = ys)
  | [], [] => by simp [PyData.eqvAll]
  | [], y :: ys => by simp [PyData.eqvAll]
  | x :: xs, [] => by simp [PyData.eqvAll]
  | x :: xs, y :: ys => by
    simp only [List.map_cons, PyData.eqvAll, PyData.eqv, eqv_strs xs ys, List.cons.injEq]
    by_cases h : x = y
    · simp [h]
    · simp [h]
theorem eqv_listS (xs ys : List Str) : PyData.eqv (.list (xs.map PyData.str)) (.list (ys.map PyData.str)) = decide (xs = ys) := by
  rw [← eqv_strs]
  simp [PyData.eqv]
def standsB (lf : Lf) (ws : List Str) : Bool := match lf with
  | .word _ w => decide (w ∈ ws)
  | .like _ p => ws.any fun w => fitL p.cps.toList w.cps.toList
  | .row _ ns => (List.range ws.length).any fun at9 => decide ((ws.drop at9).take ns.length = ns)
  | .near _ n ns => (List.range ws.length).any fun at9 => nearL ((ws.drop at9).take n) ns
  | .chain _ n ns => (List.range ws.length).any fun at9 => decide (ws[at9]? = ns[0]?) && chainL ws (at9 + n) ns.tail at9
def sp_law_stands : Sp := fun vs H Q _ => ∃ (a q : Addr) (ws : List Str) (lf : Lf), vs = [.ref a, .ref q] ∧ H a = some (.lst (ws.map V.str)) ∧ LfAt H q lf ∧ LfSm lf ∧ ws.length ≤ 60 ∧ (∀ w ∈ ws, w.length ≤ 38) ∧ Asc ws ∧ RetV (.bl (standsB lf ws)) H Q
theorem any_take {α : Type} {l : List α} {f : α → Bool} {i : Nat} {x : α} (h : (l.take i).any f = false) (hx : l[i]? = some x) (hf : f x = false) : (l.take (i + 1)).any f = false := by
  rw [List.take_succ, hx, Option.toList_some, List.any_append, h]
  simp [hf]
theorem any_yes {α : Type} {l : List α} {f : α → Bool} {i : Nat} {x : α} (hx : l[i]? = some x) (hf : f x = true) : l.any f = true := List.any_eq_true.mpr ⟨x, List.mem_of_getElem? hx, hf⟩
theorem sc_law_stands : FnScope ["_law_words_here", "_law_question_here", "_law_names", "_law_word", "_law_at"] ["_law_words_here", "_law_question_here"] (defScope s_law_stands) := ⟨rfl, rfl, rfl, by decide +kernel, rfl, by decide +kernel, by decide +kernel⟩
theorem ok_law_stands {P : Program} {w : World} {K : PySem.W.Frag} {mg : Str → Option Value} {base : Heap} (G : Gd K mg "_law_stands" s_law_stands) (T : Tx K mg) (O_law_fits : OkF P w K mg base 91 "_law_fits" ["_law_pattern_here", "_law_word"] (sp_law_fits 90)) (O_law_near : OkF P w K mg base 1 "_law_near" ["_law_words_here", "_law_names"] sp_law_near) (O_law_chained : OkF P w K mg base 1 "_law_chained" ["_law_words_here", "_law_names", "_law_at", "_law_most"] sp_law_chained) : OkF P w K mg base 92 "_law_stands" ["_law_words_here", "_law_question_here"] sp_law_stands := by
  refine G.ok (k := 91) sc_law_stands (fun _ _ _ _ _ _ us hl => match us, hl with | [_, _], _ => rfl) (fun vs H Q E h => ?_) (fun f cdv A outer s H vs Q E hr h => ?_)
  · unfold sp_law_stands at h
    repeat (first | (obtain ⟨rfl, h⟩ := h; rfl) | (obtain ⟨_, h⟩ := h))
  have hu := hu_of hr
  refine ⟨_, (pss_cons (psv 2 sc_law_stands.nd (pe_ix (ixtK K) (pv 1) (pe_un un_neg pe_int) (fun _ _ => rfl)))
      (pss_cons (ps_if (pt_cmpR op_eq (pe_ix (ixtK K) (pv 1) pe_int (fun _ _ => rfl)) pe_str (nomark _)) (pss_one (ps_ret (pe_cmpR (opInK K) (pv 2) (pv 0) (by with_unfolding_all rfl)))) pss_nil)
      (pss_cons (ps_if (pt_cmpR op_eq (pe_ix (ixtK K) (pv 1) pe_int (fun _ _ => rfl)) pe_str (nomark _)) (pss_one (ps_ret (pe_cmpR (neDK K hr.units) (pe_lc (own := [("_law_word", 3)]) (g := gName 3) rfl sc_law_stands.nd (pi_list (pv 0)) (blkOk_by (own := [("_law_word", 3)]) (N := ["_law_words_here", "_law_question_here", "_law_names", "_law_word", "_law_at"]) (sc := defScope s_law_stands) (by decide +kernel)) (fun _ _ _ _ _ => (pgv 3 sc_law_stands.nd)) (fun _ _ _ _ _ => (pts_one (pt_val (pe_fn O_law_fits (hr.mono (by decide)) (pa_cons (pv 2) (pa_cons (pv 3) pa_nil)))))) (fun _ _ _ _ _ => (pv 3))) (pe_lst pa_nil) (nomark _)))) pss_nil)
      (pss_cons (ps_for PassesOwn.never rfl (pi_range1 rfl T.n_range (pa_cons (pe_callB (id := "len") (lenK K) rfl T.n_len PySem.boot_len (pa_cons (pv 0) pa_nil)) pa_nil)) (pgv 4 sc_law_stands.nd)
        (pss_cons (ps_if (PW.pt (pw_and (pt_cmpR op_eq (pe_ix (ixtK K) (pv 1) pe_int (fun _ _ => rfl)) pe_str (nomark _)) (pw_and1 (pt_cmpR (eqDK K hr.units) (pe_slice (slLK K) (pv 0) (po_some (pv 4)) (po_some (pe_op op_add (pv 4) (pe_callB (id := "len") (lenK K) rfl T.n_len PySem.boot_len (pa_cons (pv 2) pa_nil))))) (pv 2) (nomark _))))) (pss_one (ps_ret pe_bl)) pss_nil)
        (pss_cons (ps_if (PW.pt (pw_and (pt_cmpR op_eq (pe_ix (ixtK K) (pv 1) pe_int (fun _ _ => rfl)) pe_str (nomark _)) (pw_and1 (pt_val (pe_fn O_law_near (hr.mono (by decide)) (pa_cons (pe_slice (slLK K) (pv 0) (po_some (pv 4)) (po_some (pe_op op_add (pv 4) (pe_ix (ixtK K) (pv 1) pe_int (fun _ _ => rfl))))) (pa_cons (pv 2) pa_nil))))))) (pss_one (ps_ret pe_bl)) pss_nil)
        (pss_one (ps_if (PW.pt (pw_and (pt_cmpR op_eq (pe_ix (ixtK K) (pv 1) pe_int (fun _ _ => rfl)) pe_str (nomark _)) (pw_and (pt_cmpR op_eq (pe_ix (ixlK K) (pv 0) (pv 4) (fun _ _ => rfl)) (pe_ix (ixlK K) (pv 2) pe_int (fun _ _ => rfl)) (nomark _)) (pw_and1 (pt_val (pe_fn O_law_chained (hr.mono (by decide)) (pa_cons (pv 0) (pa_cons (pv 2) (pa_cons (pv 4) (pa_cons (pe_op op_add (pv 4) (pe_ix (ixtK K) (pv 1) pe_int (fun _ _ => rfl))) pa_nil)))))))))) (pss_one (ps_ret pe_bl)) pss_nil)))))
      (pss_one (ps_ret pe_bl)))))), ?_⟩
  obtain ⟨a, q, ws, lf, rfl, ha, hq, hsm, hwl, hw38, hA, k⟩ := h
  have kind : ∀ {H1 : Hp} {x y : Str} {xs : List V} {y2 y3 y4 : Option V}, H1 q = some (.tup (.str x :: xs)) → Ev (tOp rEq (tOp (rIxT K) (tVar 1) (tC (.int 0))) (tC (.str y))) [some (.ref a), some (.ref q), y2, y3, y4] H1 (.bl (decide (x = y))) := fun {H1 x y xs y2 y3 y4} hx =>
    ev_is (ev_op (ev_op (ev_var rfl) ev_c (rv_ixT (st_of hx) (v := .str x) (i := 0) (atI_nat (j := 0) rfl))) ev_c (rv_eq rfl)) (by simp)
  have hlen : ∀ {H1 : Hp} {y2 y3 y4 : Option V}, Ex H H1 → Ev (tCB (rLenQ K) (tCons (tVar 0) tNil)) [some (.ref a), some (.ref q), y2, y3, y4] H1 (.int (ws.length : Int)) := fun {H1 y2 y3 y4} e1 => by
    have q9 := ev_lenL (K := K) (ta := tVar 0) (σ := [some (.ref a), some (.ref q), y2, y3, y4]) (ev_var rfl) (sq_of (e1 _ _ ha))
    rw [List.length_map] at q9
    exact q9
  have win : ∀ {H1 : Hp} {σ : L2.St} {th : TO} {at9 m : Nat}, Ex H H1 → σ[0]? = some (some (.ref a)) → σ[4]? = some (some (.int (at9 : Int))) → EvO th σ H1 (some (((at9 + m : Nat)) : Int)) → at9 ≤ ws.length → EvL (tSl (rSlL K) (tVar 0) (tPart (tVar 4)) th) σ H1 (((ws.drop at9).take m).map V.str) := fun {H1 σ th at9 m} e1 s0 s4 ho hle => by
    have q9 := el_sl (K := K) (te := tVar 0) (tl := tPart (tVar 4)) (th := th) (σ := σ) (H := H1) (a := a) (lo := some (at9 : Int)) (hi := some ((at9 + m : Nat) : Int)) (ev_var s0) (eo_some (ev_var s4)) ho (sq_of (e1 _ _ ha))
    rw [cut_win _ _ _ (by rw [List.length_map]; exact hle)] at q9
    rw [List.map_take, List.map_drop]
    exact q9
  have ascW : ∀ at9 m, Asc ((ws.drop at9).take m) := fun at9 m w hw => hA w (List.mem_of_mem_drop (List.mem_of_mem_take hw))
  cases lf with
  | word f w =>
    refine q_asg (v := .str w) (ev_op (ev_var rfl) (ev_un ev_c ru_neg) (rv_ixT (st_of hq.1) (atI_last [.str "word", .str f] _))) fun H1 e1 => ?_
    refine q_when (b := true) (et_test (kind (e1 _ _ hq.1))) (fun _ H2 e2 => ?_) (fun z => nomatch z)
    exact s_ret (ev_op (ev_var rfl) (ev_var rfl) (rv_inS (sq_of ((e1.trans e2) _ _ ha)))) fun H3 e3 => k H3 ((e1.trans e2).trans e3)
  | like f p =>
    refine q_asg (v := .str p) (ev_op (ev_var rfl) (ev_un ev_c ru_neg) (rv_ixT (st_of hq.1) (atI_last [.str "like", .str f] _))) fun H1 e1 => ?_
    refine q_when (b := false) (et_is (et_test (kind (e1 _ _ hq.1))) (by decide)) (fun z => nomatch z) fun _ H2 e2 => ?_
    have e12 := e1.trans e2
    refine q_when (b := true) (et_test (kind (e12 _ _ hq.1))) (fun _ H3 e3 => ?_) (fun z => nomatch z)
    have e13 := e12.trans e3
    have q9 := el_lcX (ti := iList K (tVar 0)) (g := gName 3) (vs := [3]) (t := tB (tCall (sp_law_fits 90) [] E0 (tCons (tVar 2) (tCons (tVar 3) tNil)))) (te := tVar 3) (es := ws) (σ := [some (.ref a), some (.ref q), some (.str p), none, none]) (H := H3) (st := fun (x : Str) σ0 => σ0.set 3 (some (.str x))) (fun w => fitL p.cps.toList w.cps.toList) (fun x => V.str x)
      (ex_list (F := V.str) (ev_var rfl) (sq_of (e13 _ _ ha))) (by omega) (fun x => rfl) (fun w hw H4 e4 => et_B (ev_call (ea_cons (ev_var rfl) (ea_cons (ev_var rfl) ea_nil)) fun H5 e5 Q5 q5 E5 => ⟨p, w, rfl, by have := hq.2.2.1; have := hw38 w hw; omega, by have := hq.2.2.1; have := hw38 w hw; omega, q5⟩)) (fun w _ H4 e4 _ => ev_var rfl)
    refine s_ret (ev_is (ev_strsNn (K := K) (xs := ws.filter fun w => fitL p.cps.toList w.cps.toList) q9 fun w hw => hA w (List.mem_filter.mp hw).1) ?_) fun H4 e4 => k H4 (e13.trans e4)
    congr 1
    show (!decide ((ws.filter fun w => fitL p.cps.toList w.cps.toList) = [])) = ws.any fun w => fitL p.cps.toList w.cps.toList
    have e9 : (ws.filter fun w => fitL p.cps.toList w.cps.toList) = [] ↔ ws.any (fun w => fitL p.cps.toList w.cps.toList) = false := by
      rw [List.filter_eq_nil_iff, List.any_eq_false]
    cases hc : ws.any (fun w => fitL p.cps.toList w.cps.toList) with
    | false => rw [decide_eq_true (e9.mpr hc)]; rfl
    | true => rw [decide_eq_false fun z => by rw [e9.mp z] at hc; cases hc]; rfl
  | row f ns =>
    obtain ⟨⟨hn1, hn2, hn3⟩, l, h1, h2⟩ := hq
    refine q_asg (v := .ref l) (ev_op (ev_var rfl) (ev_un ev_c ru_neg) (rv_ixT (st_of h1) (atI_last [.str "row", .str f] _))) fun H1 e1 => ?_
    refine q_when (b := false) (et_is (et_test (kind (e1 _ _ h1))) (by decide)) (fun z => nomatch z) fun _ H2 e2 => ?_
    refine q_when (b := false) (et_is (et_test (kind ((e1.trans e2) _ _ h1))) (by decide)) (fun z => nomatch z) fun _ H3 e3 => ?_
    have e13 := (e1.trans e2).trans e3
    refine q_forX (H := H3) (ex_range1 (n := ws.length) (ea_cons (hlen e13) ea_nil) (by omega)) (Ex.refl _) (fun Hg i σ H4 => ∃ y3 y4, σ = [some (.ref a), some (.ref q), some (.ref l), y3, y4] ∧ Ex H H4 ∧ Ex Hg H4 ∧ ((List.range ws.length).take i).any (fun at9 => decide ((ws.drop at9).take ns.length = ns)) = false) (fun Hg H4 e4 eg => ⟨_, _, rfl, e13.trans e4, eg, rfl⟩) (fun Hg i σ H4 ⟨_, _, _, _, e, _⟩ => e) ?_ ?_
    · rintro Hg eg _ i at9 σ H4 hi ⟨y3, y4, rfl, e4, e4g, hno⟩ H5 e5
      have hat : at9 < ws.length := List.mem_range.mp (List.mem_of_getElem? hi)
      have e05 := e4.trans e5
      have hlenN : Ev (tCB (rLenQ K) (tCons (tVar 2) tNil)) [some (.ref a), some (.ref q), some (.ref l), y3, some (.int (at9 : Int))] H5 (.int (ns.length : Int)) := by
        have q9 := ev_lenL (K := K) (ta := tVar 2) (σ := [some (.ref a), some (.ref q), some (.ref l), y3, some (.int (at9 : Int))]) (ev_var rfl) (sq_of (e05 _ _ h2))
        rw [List.length_map] at q9
        exact q9
      have hwn := win (m := ns.length) (th := tPart (tOp (rI0 fun i j => .int (i + j)) (tVar 4) (tCB (rLenQ K) (tCons (tVar 2) tNil)))) (σ := [some (.ref a), some (.ref q), some (.ref l), y3, some (.int (at9 : Int))]) (at9 := at9) e05 rfl rfl (eo_some (ev_is (ev_op (ev_var rfl) hlenN rv_I0) (congrArg V.int (by omega)))) (by omega)
      refine q_when (b := decide ((ws.drop at9).take ns.length = ns)) (et_is (et_and (a := true) (b := decide ((ws.drop at9).take ns.length = ns)) (et_test (kind (e05 _ _ h1))) fun _ => et_test (ev_opL1 hwn (fun H6 e6 => ev_var (v := .ref l) rfl) fun p H6 h6 e6 H7 e7 Q7 q7 => ⟨_, _, .lst (sq_of (e7 _ _ h6)) (dp_strs _), .lst (sq_of ((e05.trans (e6.trans e7)) _ _ h2)) (dp_strs ns), strs_lay (ascW _ _), strs_lay fun w hw => (hn3 w hw).2, by rw [eqv_listS]; exact q7 H7 (Ex.refl _)⟩)) (by simp)) (fun hb H6 e6 => s_ret ev_c fun H7 e7 => ?_) fun hb H6 e6 => ?_
      · have q9 := k H7 ((e05.trans e6).trans e7)
        have e9 : standsB (.row f ns) ws = true := any_yes hi hb
        rw [e9] at q9
        exact q9
      · have e06 := e05.trans e6
        refine q_when (b := false) (et_is (et_and (a := false) (b := false) (et_is (et_test (kind (e06 _ _ h1))) (by decide)) fun z => nomatch z) rfl) (fun z => nomatch z) fun _ H7 e7 => ?_
        exact s_when (b := false) (et_is (et_and (a := false) (b := false) (et_is (et_test (kind ((e06.trans e7) _ _ h1))) (by decide)) fun z => nomatch z) rfl) (fun z => nomatch z) fun _ H8 e8 => ⟨_, _, rfl, (e06.trans e7).trans e8, ((e4g.trans e5).trans e6).trans (e7.trans e8), any_take hno hi hb⟩
    · rintro Hg eg σ H4 ⟨y3, y4, rfl, e4, e4g, hno⟩
      rw [List.take_of_length_le (by simp)] at hno
      refine s_ret ev_c fun H5 e5 => ?_
      have q9 := k H5 (e4.trans e5)
      have e9 : standsB (.row f ns) ws = false := hno
      rw [e9] at q9
      exact q9
  | near f n ns =>
    obtain ⟨⟨hn1, hn2, hn3⟩, l, h1, h2⟩ := hq
    have hn : n ≤ 1000 := hsm
    refine q_asg (v := .ref l) (ev_op (ev_var rfl) (ev_un ev_c ru_neg) (rv_ixT (st_of h1) (atI_last [.str "near", .str f, .int (n : Nat)] _))) fun H1 e1 => ?_
    refine q_when (b := false) (et_is (et_test (kind (e1 _ _ h1))) (by decide)) (fun z => nomatch z) fun _ H2 e2 => ?_
    refine q_when (b := false) (et_is (et_test (kind ((e1.trans e2) _ _ h1))) (by decide)) (fun z => nomatch z) fun _ H3 e3 => ?_
    have e13 := (e1.trans e2).trans e3
    refine q_forX (H := H3) (ex_range1 (n := ws.length) (ea_cons (hlen e13) ea_nil) (by omega)) (Ex.refl _) (fun Hg i σ H4 => ∃ y3 y4, σ = [some (.ref a), some (.ref q), some (.ref l), y3, y4] ∧ Ex H H4 ∧ Ex Hg H4 ∧ ((List.range ws.length).take i).any (fun at9 => nearL ((ws.drop at9).take n) ns) = false) (fun Hg H4 e4 eg => ⟨_, _, rfl, e13.trans e4, eg, rfl⟩) (fun Hg i σ H4 ⟨_, _, _, _, e, _⟩ => e) ?_ ?_
    · rintro Hg eg _ i at9 σ H4 hi ⟨y3, y4, rfl, e4, e4g, hno⟩ H5 e5
      have hat : at9 < ws.length := List.mem_range.mp (List.mem_of_getElem? hi)
      have e05 := e4.trans e5
      refine q_when (b := false) (et_is (et_and (a := false) (b := false) (et_is (et_test (kind (e05 _ _ h1))) (by decide)) fun z => nomatch z) rfl) (fun z => nomatch z) fun _ H6 e6 => ?_
      have e06 := e05.trans e6
      have hwn := win (m := n) (th := tPart (tOp (rI0 fun i j => .int (i + j)) (tVar 4) (tOp (rIxT K) (tVar 1) (tC (.int 2))))) (σ := [some (.ref a), some (.ref q), some (.ref l), y3, some (.int (at9 : Int))]) (at9 := at9) e06 rfl rfl (eo_some (ev_is (ev_op (ev_var rfl) (ev_op (ev_var rfl) ev_c (rv_ixT (K := K) (st_of (e06 _ _ h1)) (v := .int (n : Nat)) (i := 2) (atI_nat (j := 2) rfl))) rv_I0) (congrArg V.int (by omega)))) (by omega)
      have hcall : Ev (tCall sp_law_near [] E0 (tCons (tSl (rSlL K) (tVar 0) (tPart (tVar 4)) (tPart (tOp (rI0 fun i j => .int (i + j)) (tVar 4) (tOp (rIxT K) (tVar 1) (tC (.int 2)))))) (tCons (tVar 2) tNil))) [some (.ref a), some (.ref q), some (.ref l), y3, some (.int (at9 : Int))] H6 (.bl (nearL ((ws.drop at9).take n) ns)) := fun H7 e7 Q7 q7 =>
        hwn H7 e7 _ fun p H8 hp e8 h8 => ⟨_, rfl, p, l, _, ns, rfl, h8, ((e06.trans e7).trans e8) _ _ h2, by omega, fun w hw => (hn3 w hw).2, fun H9 e9 => q7 H9 (e8.trans e9)⟩
      refine q_when (b := nearL ((ws.drop at9).take n) ns) (et_is (et_and (et_test (kind (e06 _ _ h1))) fun _ => et_B hcall) (by simp)) (fun hb H7 e7 => s_ret ev_c fun H8 e8 => ?_) fun hb H7 e7 => ?_
      · have q9 := k H8 ((e06.trans e7).trans e8)
        have e9 : standsB (.near f n ns) ws = true := any_yes hi hb
        rw [e9] at q9
        exact q9
      · exact s_when (b := false) (et_is (et_and (a := false) (b := false) (et_is (et_test (kind ((e06.trans e7) _ _ h1))) (by decide)) fun z => nomatch z) rfl) (fun z => nomatch z) fun _ H8 e8 => ⟨_, _, rfl, (e06.trans e7).trans e8, ((e4g.trans e5).trans e6).trans (e7.trans e8), any_take hno hi hb⟩
    · rintro Hg eg σ H4 ⟨y3, y4, rfl, e4, e4g, hno⟩
      rw [List.take_of_length_le (by simp)] at hno
      refine s_ret ev_c fun H5 e5 => ?_
      have q9 := k H5 (e4.trans e5)
      have e9 : standsB (.near f n ns) ws = false := hno
      rw [e9] at q9
      exact q9
  | chain f n ns =>
    obtain ⟨⟨hn1, hn2, hn3⟩, l, h1, h2⟩ := hq
    have hn : n ≤ 1000 := hsm
    obtain ⟨n0, nr, rfl⟩ : ∃ n0 nr, ns = n0 :: nr := by
      cases ns with
      | nil => exact absurd rfl hn1
      | cons x y => exact ⟨x, y, rfl⟩
    refine q_asg (v := .ref l) (ev_op (ev_var rfl) (ev_un ev_c ru_neg) (rv_ixT (st_of h1) (atI_last [.str "chain", .str f, .int (n : Nat)] _))) fun H1 e1 => ?_
    refine q_when (b := false) (et_is (et_test (kind (e1 _ _ h1))) (by decide)) (fun z => nomatch z) fun _ H2 e2 => ?_
    refine q_when (b := false) (et_is (et_test (kind ((e1.trans e2) _ _ h1))) (by decide)) (fun z => nomatch z) fun _ H3 e3 => ?_
    have e13 := (e1.trans e2).trans e3
    refine q_forX (H := H3) (ex_range1 (n := ws.length) (ea_cons (hlen e13) ea_nil) (by omega)) (Ex.refl _) (fun Hg i σ H4 => ∃ y3 y4, σ = [some (.ref a), some (.ref q), some (.ref l), y3, y4] ∧ Ex H H4 ∧ Ex Hg H4 ∧ ((List.range ws.length).take i).any (fun at9 => decide (ws[at9]? = (n0 :: nr)[0]?) && chainL ws (at9 + n) (n0 :: nr).tail at9) = false) (fun Hg H4 e4 eg => ⟨_, _, rfl, e13.trans e4, eg, rfl⟩) (fun Hg i σ H4 ⟨_, _, _, _, e, _⟩ => e) ?_ ?_
    · rintro Hg eg _ i at9 σ H4 hi ⟨y3, y4, rfl, e4, e4g, hno⟩ H5 e5
      have hat : at9 < ws.length := List.mem_range.mp (List.mem_of_getElem? hi)
      have e05 := e4.trans e5
      refine q_when (b := false) (et_is (et_and (a := false) (b := false) (et_is (et_test (kind (e05 _ _ h1))) (by decide)) fun z => nomatch z) rfl) (fun z => nomatch z) fun _ H6 e6 => ?_
      have e06 := e05.trans e6
      refine q_when (b := false) (et_is (et_and (a := false) (b := false) (et_is (et_test (kind (e06 _ _ h1))) (by decide)) fun z => nomatch z) rfl) (fun z => nomatch z) fun _ H7 e7 => ?_
      have e07 := e06.trans e7
      have hwat := List.getElem?_eq_getElem hat
      refine s_when (b := decide (ws[at9]? = (n0 :: nr)[0]?) && chainL ws (at9 + n) (n0 :: nr).tail at9) (et_is (et_and (et_test (kind (e07 _ _ h1))) fun _ => et_and (et_is (et_test (ev_op (ev_op (ev_var rfl) (ev_var rfl) (rv_ixL (sq_of (e07 _ _ ha)) (atI_nat (v := .str ws[at9]) (by rw [List.getElem?_map, hwat]; rfl)))) (ev_op (ev_var rfl) ev_c (rv_ixL (sq_of (e07 _ _ h2)) (v := .str n0) (i := 0) (atI_nat (j := 0) rfl))) (rv_eq rfl))) (b := decide (ws[at9]? = (n0 :: nr)[0]?)) ?_) fun _ => et_B (ev_call (ea_cons (ev_var rfl) (ea_cons (ev_var rfl) (ea_cons (ev_var rfl) (ea_cons (ev_op (ev_var rfl) (ev_op (ev_var rfl) ev_c (rv_ixT (K := K) (st_of (e07 _ _ h1)) (v := .int (n : Nat)) (i := 2) (atI_nat (j := 2) rfl))) rv_I0) ea_nil)))) fun H8 e8 Q8 q8 E8 => ⟨a, l, ws, nr, n0, at9, at9 + n, rfl, (e07.trans e8) _ _ ha, (e07.trans e8) _ _ h2, by rw [List.length_cons] at hn2; omega, by omega, by omega, by omega, q8⟩)) (by simp)) (fun hb H8 e8 => s_ret ev_c fun H9 e9 => ?_) fun hb H8 e8 => ?_
      · rw [hwat]
        refine decide_eq_decide.mpr ?_
        constructor
        · intro z
          rw [V.str.inj z]
          rfl
        · intro z
          rw [Option.some.inj z]
      · have q9 := k H9 ((e07.trans e8).trans e9)
        have e10 : standsB (.chain f n (n0 :: nr)) ws = true := any_yes hi hb
        rw [e10] at q9
        exact q9
      · exact ⟨_, _, rfl, e07.trans e8, ((e4g.trans e5).trans e6).trans (e7.trans e8), any_take hno hi hb⟩
    · rintro Hg eg σ H4 ⟨y3, y4, rfl, e4, e4g, hno⟩
      rw [List.take_of_length_le (by simp)] at hno
      refine s_ret ev_c fun H5 e5 => ?_
      have q9 := k H5 (e4.trans e5)
      have e9 : standsB (.chain f n (n0 :: nr)) ws = false := hno
      rw [e9] at q9
      exact q9
end Fc
/-! The law's looking through the words answers as the leaf does. -/
namespace Fc
open PySem PySem.Spec PyProof.Rows L2 Evl
/-! ### patterns -/
theorem sprB_iff {pat es : List Nat} : ∀ {k : Nat}, sprB pat es k = true ↔ ∃ e ∈ es, e ≤ k ∧ ∀ j, e ≤ j → j < k → pat[j]? = some 42
  | 0 => by
    unfold sprB
    rw [decide_eq_true_iff]
    constructor
    · exact fun h => ⟨0, h, Nat.le_refl _, fun j _ hj => absurd hj (Nat.not_lt_zero _)⟩
    · rintro ⟨e, he, hle, _⟩
      have : e = 0 := by omega
      rwa [this] at he
  | k + 1 => by
    unfold sprB
    rw [Bool.or_eq_true, decide_eq_true_iff, Bool.and_eq_true, decide_eq_true_iff, sprB_iff (k := k)]
    constructor
    · rintro (h | ⟨h1, e, he, hle, hj⟩)
      · exact ⟨k + 1, h, Nat.le_refl _, fun j h1 h2 => by omega⟩
      · refine ⟨e, he, by omega, fun j g1 g2 => ?_⟩
        by_cases c : j = k
        · rw [c]
          exact h1
        · exact hj j g1 (by omega)
    · rintro ⟨e, he, hle, hj⟩
      by_cases c : e = k + 1
      · exact .inl (by rw [← c]; exact he)
      · exact .inr ⟨hj k (by omega) (by omega), e, he, by omega, fun j g1 g2 => hj j g1 (by omega)⟩
theorem spr_mem {pat es : List Nat} {k : Nat} : k ∈ spr pat es ↔ k ≤ pat.length ∧ ∃ e ∈ es, e ≤ k ∧ ∀ j, e ≤ j → j < k → pat[j]? = some 42 := by
  unfold spr
  rw [List.mem_filter, List.mem_range, sprB_iff]
  constructor
  · exact fun ⟨h1, h2⟩ => ⟨by omega, h2⟩
  · exact fun ⟨h1, h2⟩ => ⟨by omega, h2⟩
theorem drop_at {pat : List Nat} {e d : Nat} (h : pat[e]? = some d) : pat.drop e = d :: pat.drop (e + 1) := by
  obtain ⟨h1, h2⟩ := List.getElem?_eq_some_iff.mp h
  rw [List.drop_eq_getElem_cons h1, h2]
theorem fitL_nil_nil : fitL [] [] = true := by simp [fitL]
theorem fitL_nil_cons {c : Nat} {w : List Nat} : fitL [] (c :: w) = false := by simp [fitL]
theorem fitL_cons_nil {d : Nat} {p : List Nat} : fitL (d :: p) [] = (decide (d = 42) && fitL p []) := by
  by_cases h : d = 42
  · simp [fitL, h]
  · simp [fitL, h]
theorem fitL_cons_cons {d c : Nat} {p w : List Nat} : fitL (d :: p) (c :: w) = if d = 42 then fitL p (c :: w) || fitL (d :: p) w else (decide (d = 63) || decide (d = c)) && fitL p w := by
  rw [fitL]
theorem fit_end {pat : List Nat} : ∀ (m e : Nat), pat.length - e = m → e ≤ pat.length → (fitL (pat.drop e) [] = true ↔ ∀ j, e ≤ j → j < pat.length → pat[j]? = some 42)
  | 0, e, hm, he => by
    have : e = pat.length := by omega
    rw [this, List.drop_length, fitL_nil_nil]
    exact ⟨fun _ j h1 h2 => by omega, fun _ => rfl⟩
  | m + 1, e, hm, he => by
    have hlt : e < pat.length := by omega
    have hat := List.getElem?_eq_getElem hlt
    generalize pat[e] = d at hat
    rw [drop_at hat, fitL_cons_nil, Bool.and_eq_true, decide_eq_true_iff, fit_end m (e + 1) (by omega) (by omega)]
    constructor
    · rintro ⟨rfl, h⟩ j h1 h2
      by_cases c : j = e
      · rw [c]
        exact hat
      · exact h j (by omega) h2
    · intro h
      have := h e (Nat.le_refl _) hlt
      rw [hat] at this
      exact ⟨Option.some.inj this, fun j h1 h2 => h j (by omega) h2⟩
theorem fit_step {pat : List Nat} {c : Nat} {w : List Nat} : ∀ (m e : Nat), pat.length - e = m → e ≤ pat.length → (fitL (pat.drop e) (c :: w) = true ↔ ∃ k, e ≤ k ∧ k ≤ pat.length ∧ (∀ j, e ≤ j → j < k → pat[j]? = some 42) ∧ ∃ e2 ∈ stpF pat c k, fitL (pat.drop e2) w = true)
  | 0, e, hm, he => by
    have he2 : e = pat.length := by omega
    rw [he2, List.drop_length, fitL_nil_cons]
    constructor
    · exact fun h => nomatch h
    · rintro ⟨k, h1, h2, _, e2, h3, _⟩
      have : k = pat.length := by omega
      unfold stpF at h3
      rw [this, List.getElem?_eq_none (Nat.le_refl _)] at h3
      exact absurd h3 List.not_mem_nil
  | m + 1, e, hm, he => by
    have hlt : e < pat.length := by omega
    have hat := List.getElem?_eq_getElem hlt
    generalize pat[e] = d at hat
    have ih := fit_step (pat := pat) (c := c) (w := w) m (e + 1) (by omega) (by omega)
    have hst : stpF pat c e = if d = 42 then [e] else if d = 63 ∨ d = c then [e + 1] else [] := by
      unfold stpF
      rw [hat]
    rw [drop_at hat, fitL_cons_cons]
    by_cases hd : d = 42
    · rw [if_pos hd] at hst ⊢
      rw [Bool.or_eq_true, ih]
      constructor
      · rintro (⟨k, h1, h2, h3, h4⟩ | h)
        · refine ⟨k, by omega, h2, fun j g1 g2 => ?_, h4⟩
          by_cases c2 : j = e
          · rw [c2, hat, hd]
          · exact h3 j (by omega) g2
        · refine ⟨e, Nat.le_refl _, he, fun j g1 g2 => by omega, e, by rw [hst]; exact List.mem_singleton.mpr rfl, ?_⟩
          rw [drop_at hat]
          exact h
      · rintro ⟨k, h1, h2, h3, e2, h4, h5⟩
        by_cases c2 : k = e
        · rw [c2, hst, List.mem_singleton] at h4
          rw [h4, drop_at hat] at h5
          exact .inr h5
        · exact .inl ⟨k, by omega, h2, fun j g1 g2 => h3 j (by omega) g2, e2, h4, h5⟩
    · rw [if_neg hd] at hst ⊢
      rw [Bool.and_eq_true, Bool.or_eq_true, decide_eq_true_iff, decide_eq_true_iff]
      constructor
      · rintro ⟨h1, h2⟩
        rw [if_pos h1] at hst
        exact ⟨e, Nat.le_refl _, he, fun j g1 g2 => by omega, e + 1, by rw [hst]; exact List.mem_singleton.mpr rfl, h2⟩
      · rintro ⟨k, h1, h2, h3, e2, h4, h5⟩
        have hk : k = e := by
          refine Decidable.byContradiction fun z => ?_
          have := h3 e (Nat.le_refl _) (by omega)
          rw [hat] at this
          exact hd (Option.some.inj this)
        rw [hk, hst] at h4
        by_cases c2 : d = 63 ∨ d = c
        · rw [if_pos c2, List.mem_singleton] at h4
          rw [h4] at h5
          exact ⟨c2, h5⟩
        · rw [if_neg c2] at h4
          exact absurd h4 List.not_mem_nil
theorem stpF_le {pat : List Nat} {c k e : Nat} (h : e ∈ stpF pat c k) : e ≤ pat.length := by
  unfold stpF at h
  cases hk : pat[k]? with
  | none =>
    rw [hk] at h
    exact absurd h List.not_mem_nil
  | some d =>
    have := (List.getElem?_eq_some_iff.mp hk).1
    rw [hk] at h
    dsimp only at h
    split at h
    · rw [List.mem_singleton.mp h]
      omega
    · split at h
      · rw [List.mem_singleton.mp h]
        omega
      · exact absurd h List.not_mem_nil
theorem fit_fold {pat : List Nat} : ∀ (w es : List Nat), pat.length ∈ w.foldl (stp pat) (spr pat es) ↔ ∃ e ∈ es, e ≤ pat.length ∧ fitL (pat.drop e) w = true
  | [], es => by
    rw [List.foldl_nil, spr_mem]
    constructor
    · rintro ⟨_, e, he, hle, h⟩
      exact ⟨e, he, hle, (fit_end _ e rfl hle).mpr h⟩
    · rintro ⟨e, he, hle, h⟩
      exact ⟨Nat.le_refl _, e, he, hle, (fit_end _ e rfl hle).mp h⟩
  | c :: w, es => by
    rw [List.foldl_cons]
    show pat.length ∈ w.foldl (stp pat) (spr pat ((spr pat es).flatMap (stpF pat c))) ↔ _
    rw [fit_fold w]
    constructor
    · rintro ⟨e2, h1, h2, h3⟩
      obtain ⟨k, hk, hk2⟩ := List.mem_flatMap.mp h1
      obtain ⟨hk3, e, he, hle, hj⟩ := spr_mem.mp hk
      exact ⟨e, he, by omega, (fit_step _ e rfl (by omega)).mpr ⟨k, hle, hk3, hj, e2, hk2, h3⟩⟩
    · rintro ⟨e, he, hle, h⟩
      obtain ⟨k, h1, h2, h3, e2, h4, h5⟩ := (fit_step _ e rfl hle).mp h
      exact ⟨e2, List.mem_flatMap.mpr ⟨k, spr_mem.mpr ⟨h2, e, he, h1, h3⟩, h4⟩, stpF_le h4, h5⟩
theorem fit_eq (pat w : List Nat) : fitL pat w = fitB pat w := by
  have h := fit_fold (pat := pat) w [0]
  unfold fitB fitE
  cases hb : fitL pat w with
  | true => exact (decide_eq_true (h.mpr ⟨0, List.mem_singleton.mpr rfl, Nat.zero_le _, hb⟩)).symm
  | false =>
    refine (decide_eq_false fun z => ?_).symm
    obtain ⟨e, he, _, h2⟩ := h.mp z
    rw [List.mem_singleton.mp he, List.drop_zero, hb] at h2
    cases h2
/-! ### rows of words -/
theorem rowB_iff {ws ns : List Str} {pl : Nat} : rowB (ns.map (posOf ws)) pl = true ↔ ∀ k n, ns[k]? = some n → ws[pl + k]? = some n := by
  unfold rowB
  rw [List.all_eq_true]
  constructor
  · intro h k n hk
    have hl := (List.getElem?_eq_some_iff.mp hk).1
    have q := of_decide_eq_true (h k (List.mem_range.mpr (by rw [List.length_map]; exact hl)))
    rw [List.getD_eq_getElem?_getD, List.getElem?_map, hk] at q
    exact pos_mem.mp q
  · intro h k hk
    have hl : k < ns.length := by
      have := List.mem_range.mp hk
      rwa [List.length_map] at this
    have hat := List.getElem?_eq_getElem hl
    refine decide_eq_true ?_
    rw [List.getD_eq_getElem?_getD, List.getElem?_map, hat]
    exact pos_mem.mpr (h k _ hat)
theorem win_at {ws : List Str} {at9 m k : Nat} (hk : k < m) : ((ws.drop at9).take m)[k]? = ws[at9 + k]? := by
  rw [List.getElem?_take, if_pos hk, List.getElem?_drop]
theorem win_eq {ws ns : List Str} {pl : Nat} : (ws.drop pl).take ns.length = ns ↔ ∀ k n, ns[k]? = some n → ws[pl + k]? = some n := by
  constructor
  · intro h k n hk
    have hl := (List.getElem?_eq_some_iff.mp hk).1
    rw [← win_at (m := ns.length) hl, h]
    exact hk
  · intro h
    apply List.ext_getElem?
    intro k
    by_cases c : k < ns.length
    · rw [win_at c]
      have hat := List.getElem?_eq_getElem c
      rw [hat]
      exact h k _ hat
    · rw [List.getElem?_eq_none (by rw [List.length_take]; omega), List.getElem?_eq_none (by omega)]
theorem row_eq {ws ns : List Str} (hn : ns ≠ []) : ((List.range ws.length).any fun at9 => decide ((ws.drop at9).take ns.length = ns)) = true ↔ (rowFrom (ns.map (posOf ws))).isSome = true := by
  obtain ⟨n0, nr, rfl⟩ : ∃ n0 nr, ns = n0 :: nr := by
    cases ns with
    | nil => exact absurd rfl hn
    | cons x y => exact ⟨x, y, rfl⟩
  unfold rowFrom
  rw [← any_find, List.any_eq_true, List.any_eq_true]
  show _ ↔ ∃ x, x ∈ posOf ws n0 ∧ _
  constructor
  · rintro ⟨pl, _, h⟩
    have h2 := win_eq.mp (of_decide_eq_true h)
    exact ⟨pl, pos_mem.mpr (h2 0 n0 rfl), rowB_iff.mpr h2⟩
  · rintro ⟨pl, h1, h2⟩
    exact ⟨pl, List.mem_range.mpr (pos_lt h1), decide_eq_true (win_eq.mpr (rowB_iff.mp h2))⟩
/-! ### nearness -/
theorem cnt_range {ws : List Str} {w : Str} : ws.count w = ((List.range ws.length).filter fun i => decide (ws[i]? = some w)).length := by
  induction ws using list_rev_ind with
  | nil => rfl
  | snoc l v ih =>
    have h := pos_snoc l v w
    unfold posOf at h
    rw [h, List.length_append, ← ih, List.count_append, List.count_singleton]
    congr 1
    by_cases c : v = w
    · simp [c]
    · simp [c]
theorem win_cnt {ws : List Str} {w : Str} {pl n : Nat} : ((ws.drop pl).take n).count w = ((posOf ws w).filter (inW pl n)).length := by
  rw [cnt_range]
  have e : ((posOf ws w).filter (inW pl n)) = ((List.range ((ws.drop pl).take n).length).filter fun i => decide (((ws.drop pl).take n)[i]? = some w)).map (pl + ·) := by
    refine lt_ext ((List.pairwise_lt_range.filter _).filter _) ?_ fun k => ?_
    · rw [List.pairwise_map]
      exact (List.pairwise_lt_range.filter _).imp fun h => by omega
    · rw [List.mem_filter, pos_mem, List.mem_map]
      unfold inW
      rw [Bool.and_eq_true, decide_eq_true_iff, decide_eq_true_iff]
      constructor
      · rintro ⟨h1, h2, h3⟩
        have hl := (List.getElem?_eq_some_iff.mp h1).1
        refine ⟨k - pl, List.mem_filter.mpr ⟨List.mem_range.mpr (by rw [List.length_take, List.length_drop]; omega), decide_eq_true ?_⟩, by omega⟩
        rw [win_at (by omega)]
        rw [show pl + (k - pl) = k by omega]
        exact h1
      · rintro ⟨i, hi, rfl⟩
        obtain ⟨h1, h2⟩ := List.mem_filter.mp hi
        have h3 := List.mem_range.mp h1
        rw [List.length_take] at h3
        have h4 := of_decide_eq_true h2
        rw [win_at (by omega)] at h4
        exact ⟨h4, by omega, by omega⟩
  rw [e, List.length_map]
theorem thin_none {ws ns : List Str} {pl n : Nat} : thinF ns (ns.map (posOf ws)) pl n = none ↔ nearL ((ws.drop pl).take n) ns = true := by
  unfold thinF nearL
  rw [List.find?_eq_none, List.all_eq_true]
  have key : ∀ (k : Nat) (w : Str), ns[k]? = some w → (thinB ns (ns.map (posOf ws)) pl n k = true ↔ ((ws.drop pl).take n).count w < ns.count w) := fun k w hk => by
    unfold thinB
    rw [decide_eq_true_iff, List.getD_eq_getElem?_getD, List.getElem?_map, hk, List.getD_eq_getElem?_getD, hk, win_cnt]
    rfl
  constructor
  · intro h w hw
    obtain ⟨k, hk⟩ := List.getElem?_of_mem hw
    have hl := (List.getElem?_eq_some_iff.mp hk).1
    have q := h k (List.mem_range.mpr hl)
    rw [key k w hk] at q
    rw [decide_eq_false q]
    rfl
  · intro h k hk
    have hl := List.mem_range.mp hk
    have hat := List.getElem?_eq_getElem hl
    rw [key k _ hat]
    have q := h _ (List.getElem_mem hl)
    simpa using q
theorem near_eq {ws ns : List Str} {n : Nat} (hn : ns ≠ []) : ((List.range ws.length).any fun at9 => nearL ((ws.drop at9).take n) ns) = true ↔ NearP ns (ns.map (posOf ws)) n := by
  rw [List.any_eq_true]
  unfold NearP
  constructor
  · rintro ⟨at9, hat, h⟩
    have hall : ∀ w ∈ ns, ns.count w ≤ ((posOf ws w).filter (inW at9 n)).length := fun w hw => by
      have q := List.all_eq_true.mp h w hw
      rw [← win_cnt]
      simpa using q
    -- the first place of any of the words from there on
    cases hf : (List.range ws.length).find? (fun i => decide (at9 ≤ i) && ns.any fun w => decide (ws[i]? = some w)) with
    | none =>
      obtain ⟨w0, hw0⟩ := List.exists_mem_of_ne_nil _ hn
      have h1 := hall w0 hw0
      have h2 : 0 < ns.count w0 := List.count_pos_iff.mpr hw0
      obtain ⟨k, hk⟩ := List.exists_mem_of_ne_nil ((posOf ws w0).filter (inW at9 n)) (fun z => by rw [z] at h1; simp at h1; omega)
      obtain ⟨hk1, hk2⟩ := List.mem_filter.mp hk
      unfold inW at hk2
      have hk3 := (Bool.and_eq_true_iff.mp hk2).1
      have q := List.find?_eq_none.mp hf k (List.mem_range.mpr (pos_lt hk1))
      rw [hk3, Bool.true_and] at q
      exact absurd (List.any_eq_true.mpr ⟨w0, hw0, decide_eq_true (pos_mem.mp hk1)⟩) q
    | some pl =>
      obtain ⟨g1, g2, g3⟩ := List.find?_range_eq_some.mp hf
      obtain ⟨g4, g5⟩ := Bool.and_eq_true_iff.mp g1
      obtain ⟨w1, hw1, g6⟩ := List.any_eq_true.mp g5
      refine ⟨pl, ⟨posOf ws w1, List.mem_map.mpr ⟨w1, hw1, rfl⟩, pos_mem.mpr (of_decide_eq_true g6)⟩, thin_none.mpr ?_⟩
      unfold nearL
      refine List.all_eq_true.mpr fun w hw => ?_
      have h1 := hall w hw
      have h2 : ((posOf ws w).filter (inW at9 n)).length ≤ ((posOf ws w).filter (inW pl n)).length := by
        have e : (posOf ws w).filter (inW at9 n) = ((posOf ws w).filter (inW pl n)).filter (inW at9 n) := by
          rw [List.filter_filter]
          refine List.filter_congr fun k hk => ?_
          cases hc : inW at9 n k with
          | false => rfl
          | true =>
            rw [Bool.true_and]
            unfold inW at hc ⊢
            obtain ⟨c1, c2⟩ := Bool.and_eq_true_iff.mp hc
            have c3 := of_decide_eq_true c1
            have c4 := of_decide_eq_true c2
            have c5 := of_decide_eq_true g4
            have c6 : pl ≤ k := by
              refine Decidable.byContradiction fun z => ?_
              have q := g3 k (by omega)
              have q2 : (decide (at9 ≤ k) && ns.any fun w => decide (ws[k]? = some w)) = true := by
                rw [decide_eq_true c3, Bool.true_and]
                exact List.any_eq_true.mpr ⟨w, hw, decide_eq_true (pos_mem.mp hk)⟩
              rw [q2] at q
              cases q
            rw [decide_eq_true c6, decide_eq_true (by omega : k < pl + n)]
            rfl
        rw [e]
        exact List.length_filter_le _ _
      rw [decide_eq_false (by rw [win_cnt]; omega)]
      rfl
  · rintro ⟨pl, ⟨r, hr, hpl⟩, h⟩
    obtain ⟨w, hw, rfl⟩ := List.mem_map.mp hr
    exact ⟨pl, List.mem_range.mpr (pos_lt hpl), thin_none.mp h⟩
/-! ### chains -/
theorem chain_le {most : Nat} : ∀ (rs : List (List Nat)) (last : Nat), (chainR most rs last).length ≤ rs.length
  | [], _ => Nat.le_refl _
  | r :: rs, last => by
    unfold chainR
    split
    · exact Nat.zero_le _
    · rw [List.length_cons, List.length_cons]
      exact Nat.succ_le_succ (chain_le rs _)
theorem chainL_iff {ws : List Str} {most : Nat} : ∀ (ns : List Str) (last : Nat), chainL ws most ns last = true ↔ (chainR most (ns.map (posOf ws)) last).length = ns.length
  | [], _ => by
    unfold chainL
    simp [chainR]
  | n :: r, last => by
    rw [List.map_cons]
    unfold chainL chainR
    cases hc : (posOf ws n).filter (fun o => decide (last < o) && decide (o < most)) with
    | nil => simp
    | cons k ks =>
      dsimp only
      rw [chainL_iff r k, List.length_cons, List.length_cons]
      omega
theorem chain_eq {ws ns : List Str} {n : Nat} (hn : ns ≠ []) : ((List.range ws.length).any fun at9 => decide (ws[at9]? = ns[0]?) && chainL ws (at9 + n) ns.tail at9) = true ↔ ((ns.map (posOf ws)).headD []).any (chainB (ns.map (posOf ws)) n) = true := by
  obtain ⟨n0, nr, rfl⟩ : ∃ n0 nr, ns = n0 :: nr := by
    cases ns with
    | nil => exact absurd rfl hn
    | cons x y => exact ⟨x, y, rfl⟩
  rw [List.any_eq_true, List.any_eq_true]
  show _ ↔ ∃ x, x ∈ posOf ws n0 ∧ _
  have key : ∀ pl, chainB ((n0 :: nr).map (posOf ws)) n pl = true ↔ chainL ws (pl + n) nr pl = true := fun pl => by
    unfold chainB
    rw [decide_eq_true_iff, chainL_iff, List.map_cons, List.tail_cons, List.length_cons, List.length_cons, List.length_map]
    omega
  constructor
  · rintro ⟨pl, _, h⟩
    obtain ⟨h1, h2⟩ := Bool.and_eq_true_iff.mp h
    exact ⟨pl, pos_mem.mpr (of_decide_eq_true h1), (key pl).mpr h2⟩
  · rintro ⟨pl, h1, h2⟩
    exact ⟨pl, List.mem_range.mpr (pos_lt h1), Bool.and_eq_true_iff.mpr ⟨decide_eq_true (pos_mem.mp h1), (key pl).mp h2⟩⟩
theorem stands_eq {lf : Lf} {H : Hp} {a : Addr} (h : LfAt H a lf) {ws : List Str} : standsB lf ws = true ↔ leafP lf ws := by
  cases lf with
  | word f w => exact decide_eq_true_iff
  | like f p =>
    show (ws.any fun w => fitL p.cps.toList w.cps.toList) = true ↔ ∃ w ∈ ws, fitB p.cps.toList w.cps.toList = true
    rw [List.any_eq_true]
    constructor
    · rintro ⟨w, h1, h2⟩
      exact ⟨w, h1, by rw [← fit_eq]; exact h2⟩
    · rintro ⟨w, h1, h2⟩
      exact ⟨w, h1, by rw [fit_eq]; exact h2⟩
  | row f ns => exact row_eq h.1.1
  | near f n ns => exact near_eq h.1.1
  | chain f n ns => exact chain_eq h.1.1
end Fc
/-! A question drawn. -/
namespace Fc
open PySem PySem.Spec PyProof.Rows L2 Evl
theorem fresh_moved {H H1 : Hp} {d p : Addr} (e : Ex (del H d) H1) (hd : Dr H1 d) (hp : H1 p = none) : H p = none := by
  cases hq : H p with
  | none => rfl
  | some u =>
    by_cases c : p = d
    · obtain ⟨ds, g1, _⟩ := hd
      rw [c, g1] at hp
      cases hp
    · rw [e _ _ (by rw [del_ne c]; exact hq)] at hp
      cases hp
theorem fr_moved {H H3 H4 : Hp} {d : Addr} (e : Ex (del H d) H3) (hd : Dr H3 d) : Ex (fr H3 H4) (fr H H4) := fun b o hb => by
  have h1 := fr_none hb
  rw [fr_at h1] at hb
  rw [fr_at (fresh_moved e hd h1)]
  exact hb
theorem fr_keep {H H3 H4 : Hp} {d : Addr} (hd : H d ≠ none) (e : Ex (del H3 d) H4) : Ex (fr H H3) (fr H H4) := fun b o hb => by
  have hbn := fr_none hb
  rw [fr_at hbn] at hb ⊢
  exact e _ _ (by rw [del_ne (fun z => hd (by rw [← z]; exact hbn))]; exact hb)
theorem Dr.ne {H : Hp} {d p : Addr} (h : Dr H d) (hp : H p = none) : p ≠ d := by
  obtain ⟨ds, h1, _⟩ := h
  exact (own_ne h1 hp).symm
theorem Dr.upd {H : Hp} {d p : Addr} {o : HO} (h : Dr H d) (hp : p ≠ d) : Dr (upd H p o) d := by
  obtain ⟨ds, h1, h2⟩ := h
  exact ⟨ds, by rw [upd_ne (fun z => hp z.symm)]; exact h1, h2⟩
theorem ev_oneOf {K : PySem.W.Frag} {σ : L2.St} {i n : Nat} {a b x y : Int} (s : σ[i]? = some (some (.int (n : Int)))) (ca : CDiv (n : Int) a) (cb : CDiv (n : Int) b) (hx : 0 < x ∧ x ≤ 20) (hy : 0 < y ∧ y ≤ 20) : ∃ m : Nat, 1 ≤ m ∧ m ≤ 20 ∧
    ∀ H1 : Hp, Ev (tOp (rI0 fun i j => .int (i + j)) (tC (.int 1)) (tOp (rI (fun _ j => 0 < j) fun i j => .int (i % j)) (tOp (rI CDiv fun i j => .int (i / j)) (tVar i) (tC (.int a))) (tOp (rIxL K) (tLst (tCons (tC (.int x)) (tCons (tC (.int y)) tNil))) (tOp (rI (fun _ j => 0 < j) fun i j => .int (i % j)) (tOp (rI CDiv fun i j => .int (i / j)) (tVar i) (tC (.int b))) (tC (.int 2)))))) σ H1 (.int (m : Int)) := by
  obtain ⟨j, hj, hj2⟩ : ∃ j : Nat, (n : Int) / b % 2 = (j : Int) ∧ j < 2 := ⟨((n : Int) / b % 2).toNat, by omega, by omega⟩
  have hjl : j < ([x, y] : List Int).length := hj2
  have hz := List.getElem?_eq_getElem hjl
  have hm := List.getElem_mem hjl
  generalize ([x, y] : List Int)[j] = z at hz hm
  have hz2 : 0 < z ∧ z ≤ 20 := by
    simp only [List.mem_cons, List.not_mem_nil, or_false] at hm
    rcases hm with rfl | rfl
    · exact hx
    · exact hy
  have h1 : 0 ≤ (n : Int) / a % z := Int.emod_nonneg _ (by omega)
  have h2 : (n : Int) / a % z < z := Int.emod_lt_of_pos _ hz2.1
  refine ⟨(1 + (n : Int) / a % z).toNat, by omega, by omega, fun H1 => ?_⟩
  refine ev_is (ev_op ev_c (ev_op (ev_op (ev_var s) ev_c (rv_I ca)) (ev_pick (F := V.int) (es := [x, y]) (el_lst (ea_cons ev_c (ea_cons ev_c ea_nil)) (by simp)) (fun H2 e2 => ev_is (ev_op (ev_op (ev_var s) ev_c (rv_I cb)) ev_c (rv_I (by decide))) (congrArg V.int hj)) hz) (rv_I hz2.1)) rv_I0) (congrArg V.int (by omega))
def sp_law_question (n : Nat) : Sp := fun vs H Q _ => ∃ (d pa : Addr) (ws : List Str) (deep : Nat), vs = [.ref d, .ref pa, .int (deep : Int)] ∧ deep < n ∧ deep ≤ 2 ∧ Dr H d ∧ H pa = some (.lst (ws.map V.str)) ∧ PoolOk ws ∧
  Drew H d (fun v H' => ∃ q P, v = .ref q ∧ H q = none ∧ QAt (deep + 1) (fr H H') q P) Q
theorem sc_law_question : FnScope ["_law_draws_here", "_law_pool_here", "_law_deep", "_law_number", "_law_kind", "_law_field_here", "_law_many", "_law_words_here", "_law_k", "_law_ones"] ["_law_draws_here", "_law_pool_here", "_law_deep"] (defScope s_law_question) := ⟨rfl, rfl, rfl, by decide +kernel, rfl, by decide +kernel, by decide +kernel⟩
theorem okr_law_question {P : Program} {w : World} {K : PySem.W.Frag} {mg : Str → Option Value} {base : Heap} (k n : Nat) (hk : 2 ≤ k) (G : Gd K mg "_law_question" s_law_question) (T : Tx K mg) (O_law_pop : OkF P w K mg base 1 "_law_pop" ["_law_draws_here"] sp_law_pop) (O_law_field : OkF P w K mg base 2 "_law_field" ["_law_draws_here"] sp_law_field) (O_law_pattern : OkF P w K mg base 2 "_law_pattern" ["_law_draws_here", "_law_pool_here"] sp_law_pattern) (O_law_question : OkF P w K mg base k "_law_question" ["_law_draws_here", "_law_pool_here", "_law_deep"] (sp_law_question n)) : OkF P w K mg base (k + 1) "_law_question" ["_law_draws_here", "_law_pool_here", "_law_deep"] (sp_law_question (n + 1)) := by
  refine G.ok (k := k) sc_law_question (fun _ _ _ _ _ _ us hl => match us, hl with | [_, _, _], _ => rfl) (fun vs H Q E h => ?_) (fun f cdv A outer s H vs Q E hr h => ?_)
  · unfold sp_law_question at h
    repeat (first | (obtain ⟨rfl, h⟩ := h; rfl) | (obtain ⟨_, h⟩ := h))
  have hu := hu_of hr
  refine ⟨_, (pss_cons (psv 3 sc_law_question.nd (pe_fn O_law_pop (hr.mono (by omega)) (pa_cons (pv 0) pa_nil)))
      (pss_cons (psv 4 sc_law_question.nd (pe_op op_mod (pv 3) pe_int))
      (pss_cons (ps_if (pt_cmpR op_eq (pv 2) pe_int (nomark _)) (pss_one (psv 4 sc_law_question.nd (pe_op op_mod (pv 4) pe_int))) pss_nil)
      (pss_cons (ps_if (pt_cmpR op_lt (pv 4) pe_int (nomark _)) (pss_one (psv 5 sc_law_question.nd (pe_fn O_law_field (hr.mono (by omega)) (pa_cons (pv 0) pa_nil)))) pss_nil)
      (pss_cons (ps_if (pt_cmpR op_eq (pv 4) pe_int (nomark _)) (pss_one (ps_ret (pe_tup (pa_cons pe_str (pa_cons (pv 5) (pa_cons (pe_ix (ixlK K) (pe_op op_cat (pv 1) (pe_lst (pa_cons pe_str pa_nil))) (pe_op op_mod (pe_op op_fdiv (pv 3) pe_int) (pe_op op_add (pe_callB (id := "len") (lenK K) rfl T.n_len PySem.boot_len (pa_cons (pv 1) pa_nil)) pe_int)) (fun _ _ => rfl)) pa_nil)))))) pss_nil)
      (pss_cons (ps_if (pt_cmpR op_eq (pv 4) pe_int (nomark _)) (pss_one (ps_ret (pe_tup (pa_cons pe_str (pa_cons (pv 5) (pa_cons (pe_fn O_law_pattern (hr.mono (by omega)) (pa_cons (pv 0) (pa_cons (pv 1) pa_nil))) pa_nil)))))) pss_nil)
      (pss_cons (ps_if (pt_cmpR op_lt (pv 4) pe_int (nomark _)) (pss_cons (psv 6 sc_law_question.nd (pe_op op_add pe_int (pe_op op_mod (pe_op op_fdiv (pv 3) pe_int) (pe_ix (ixlK K) (pe_lst (pa_cons pe_int (pa_cons pe_int pa_nil))) (pe_op op_mod (pe_op op_fdiv (pv 3) pe_int) pe_int) (fun _ _ => rfl)))))
        (pss_cons (ps_setLc (i := 7) (own := [("_law_k", 8)]) (g := gName 8) rfl sc_law_question.nd rfl rfl (sw_true rfl rfl rfl (by decide +kernel)) (pi_range1 rfl T.n_range (pa_cons (pv 6) pa_nil)) (blkOk_by (own := [("_law_k", 8)]) (N := ["_law_draws_here", "_law_pool_here", "_law_deep", "_law_number", "_law_kind", "_law_field_here", "_law_many", "_law_words_here", "_law_k", "_law_ones"]) (sc := defScope s_law_question) (by decide +kernel)) (fun _ _ _ _ _ => (pgv 8 sc_law_question.nd)) (fun _ _ _ _ _ => pts_nil) (fun _ _ _ _ _ => (pe_ix (ixlK K) (pv 1) (pe_op op_mod (pe_fn O_law_pop (hr.mono (by omega)) (pa_cons (pv 0) pa_nil)) (pe_ix (ixlK K) (pe_lst (pa_cons pe_int (pa_cons (pe_callB (id := "len") (lenK K) rfl T.n_len PySem.boot_len (pa_cons (pv 1) pa_nil)) pa_nil))) (pe_op op_mod (pe_op op_fdiv (pv 3) pe_int) pe_int) (fun _ _ => rfl))) (fun _ _ => rfl))))
        (pss_cons (ps_if (pt_cmpR op_eq (pv 4) pe_int (nomark _)) (pss_one (ps_ret (pe_tup (pa_cons pe_str (pa_cons (pv 5) (pa_cons (pv 7) pa_nil)))))) pss_nil)
        (pss_one (ps_ret (pe_tup (pa_cons (pe_ix (ixlK K) (pe_lst (pa_cons pe_str (pa_cons pe_str pa_nil))) (pe_op op_sub (pv 4) pe_int) (fun _ _ => rfl)) (pa_cons (pv 5) (pa_cons (pe_op op_add pe_int (pe_op op_mod (pe_op op_fdiv (pv 3) pe_int) (pe_ix (ixlK K) (pe_lst (pa_cons pe_int (pa_cons pe_int pa_nil))) (pe_op op_mod (pe_op op_fdiv (pv 3) pe_int) pe_int) (fun _ _ => rfl)))) (pa_cons (pv 7) pa_nil)))))))))) pss_nil)
      (pss_cons (ps_if (pt_cmpR op_eq (pv 4) pe_int (nomark _)) (pss_one (ps_ret (pe_tup (pa_cons pe_str (pa_cons (pe_fn O_law_question (hr.mono (by omega)) (pa_cons (pv 0) (pa_cons (pv 1) (pa_cons (pe_op op_sub (pv 2) pe_int) pa_nil)))) pa_nil))))) pss_nil)
      (pss_cons (ps_setLc (i := 9) (own := [("_law_k", 8)]) (g := gName 8) rfl sc_law_question.nd rfl rfl (sw_true rfl rfl rfl (by decide +kernel)) (pi_range1 rfl T.n_range (pa_cons (pe_op op_mod (pe_op op_fdiv (pv 3) pe_int) (pe_ix (ixlK K) (pe_lst (pa_cons pe_int (pa_cons pe_int (pa_cons pe_int (pa_cons pe_int pa_nil))))) (pv 2) (fun _ _ => rfl))) pa_nil)) (blkOk_by (own := [("_law_k", 8)]) (N := ["_law_draws_here", "_law_pool_here", "_law_deep", "_law_number", "_law_kind", "_law_field_here", "_law_many", "_law_words_here", "_law_k", "_law_ones"]) (sc := defScope s_law_question) (by decide +kernel)) (fun _ _ _ _ _ => (pgv 8 sc_law_question.nd)) (fun _ _ _ _ _ => pts_nil) (fun _ _ _ _ _ => (pe_fn O_law_question (hr.mono (by omega)) (pa_cons (pv 0) (pa_cons (pv 1) (pa_cons (pe_op op_sub (pv 2) pe_int) pa_nil))))))
      (pss_one (ps_ret (pe_tup (pa_cons (pe_ix (ixlK K) (pe_lst (pa_cons pe_str (pa_cons pe_str pa_nil))) (pe_op op_mod (pv 4) pe_int) (fun _ _ => rfl)) (pa_cons (pv 9) pa_nil)))))))))))))), ?_⟩
  obtain ⟨d, pa, ws, deep, rfl, hdn, hd2, hd, hpa, hok, k⟩ := h
  have hpd := pool_ne hd hpa hok.ne
  obtain ⟨ds0, hds0, _⟩ := id hd
  have hdH : H d ≠ none := ns hds0
  have fin : ∀ (p : Addr) (H5 H6 : Hp) (lf : Lf), Ex (del H d) H5 → Dr H5 d → H5 p = none → Ex H5 H6 → LfAt (fr H H6) p lf → LfSm lf → Q (.ref p) H6 := fun p H5 H6 lf e5 d5 hp e6 hl hs => k _ H6 (fun b o hb => e6 _ _ (e5 _ _ hb)) (d5.ex e6) ⟨p, _, rfl, fresh_moved e5 d5 hp, .inl ⟨lf, ⟨hl, hs⟩, fun D => Iff.rfl⟩⟩
  have hlen6 : ∀ {σ : L2.St} {H1 : Hp}, σ[1]? = some (some (.ref pa)) → H1 pa = some (.lst (ws.map V.str)) → Ev (tCB (rLenQ K) (tCons (tVar 1) tNil)) σ H1 (.int 6) := fun {σ H1} s h1 => by
    have q := ev_lenL (K := K) (ta := tVar 1) (σ := σ) (ev_var s) (sq_of h1)
    rw [List.length_map, hok.1] at q
    exact q
  refine q_asgQ (C := PopP H d) (rd_pop rfl hd) fun v H1 ⟨n9, hv, hn, e1, d1⟩ => ?_
  subst hv
  refine q_asg (v := .int ((n9 % 9 : Nat) : Int)) (ev_is (ev_op (ev_var rfl) ev_c (rv_I (by decide))) (congrArg V.int (by omega))) fun H2 e2 => ?_
  obtain ⟨kd, hkd⟩ : ∃ kd : Nat, kd = if deep = 0 then n9 % 9 % 5 else n9 % 9 := ⟨_, rfl⟩
  have hk8 : kd ≤ 8 := by
    rw [hkd]
    split <;> omega
  have hk5 : deep = 0 → kd < 5 := fun z => by
    rw [hkd, if_pos z]
    omega
  refine q_ifAsg (v := .int (kd : Int)) (b := decide (deep = 0)) (et_is (et_test (ev_op (ev_var rfl) ev_c (rv_eq rfl))) (decide_eq_decide.mpr ⟨fun z => by have := V.int.inj z; omega, fun z => by rw [z]; rfl⟩)) (fun hb => ?_) (fun hb => ?_) fun H3 e3 => ?_
  · refine ev_is (ev_op (ev_var rfl) ev_c (rv_I (by decide))) (congrArg V.int ?_)
    rw [hkd, if_pos (of_decide_eq_true hb)]
    omega
  · rw [hkd, if_neg (of_decide_eq_false hb)]
    rfl
  have e03 : Ex (del H d) H3 := fun b o hb => (e2.trans e3) _ _ (e1 _ _ hb)
  have d3 := d1.ex (e2.trans e3)
  have isk : ∀ {σ : L2.St} {H1 : Hp} {j : Nat}, σ[4]? = some (some (.int (kd : Int))) → EvT (tTest (tOp rEq (tVar 4) (tC (.int (j : Int))))) σ H1 (decide (kd = j)) := fun {σ H1 j} s => et_is (et_test (ev_op (ev_var s) ev_c (rv_eq rfl))) (decide_eq_decide.mpr ⟨fun z => by have := V.int.inj z; omega, fun z => by rw [z]⟩)
  have isl : ∀ {σ : L2.St} {H1 : Hp}, σ[4]? = some (some (.int (kd : Int))) → EvT (tTest (tOp (rI0 fun i j => .bl (decide (i < j))) (tVar 4) (tC (.int 5)))) σ H1 (decide (kd < 5)) := fun {σ H1} s => et_is (et_test (ev_op (ev_var s) ev_c rv_I0)) (decide_eq_decide.mpr (by omega))
  refine q_when (isl rfl) (fun hb H4 e4 => ?_) fun hb H4 e4 => ?_
  · have hb5 := of_decide_eq_true hb
    refine ⟨_, rfl, d, rfl, d3.ex e4, fun v H5 e5 d5 ⟨f, hv⟩ => ?_⟩
    subst hv
    have e05 : Ex (del H d) H5 := moved (fun b o hb => e4 _ _ (e03 _ _ hb)) e5
    have pa5 : H5 pa = some (.lst (ws.map V.str)) := e05 _ _ (by rw [del_ne hpd]; exact hpa)
    refine q_when (isk (j := 0) rfl) (fun hb0 H6 e6 => ?_) fun hb0 H6 e6 => ?_
    · have e06 : Ex (del H d) H6 := fun b o hb => e6 _ _ (e05 _ _ hb)
      have hj : n9 / 9 % 7 < (ws ++ [("zz" : Str)]).length := by
        rw [List.length_append, hok.1]
        exact Nat.mod_lt _ (by decide)
      have hx := List.getElem?_eq_getElem hj
      have hin := List.getElem_mem hj
      generalize (ws ++ [("zz" : Str)])[n9 / 9 % 7] = x at hx hin
      have hxo : WdOk x := by
        rcases List.mem_append.mp hin with z | z
        · exact hok.2 x z
        · rw [List.mem_singleton.mp z]
          exact zz_ok
      have hcat : EvL (tOp rCat (tVar 1) (tLst (tCons (tC (.str "zz")) tNil))) [some (.ref d), some (.ref pa), some (.int (deep : Int)), some (.int (n9 : Int)), some (.int (kd : Int)), some (.str f), none, none, none, none] H6 ((ws ++ [("zz" : Str)]).map V.str) := by
        rw [List.map_append]
        exact el_catV rfl (e6 _ _ pa5) (el_lst (ea_cons ev_c ea_nil) (by simp)) (by simp [hok.1])
      refine s_retU (xs := [.str "word", .str f, .str x]) (eu_tup (ea_cons ev_c (ea_cons (ev_var rfl) (ea_cons (ev_pick (F := V.str) (es := ws ++ [("zz" : Str)]) hcat (fun H7 e7 => ev_is (ev_op (ev_op (ev_var rfl) ev_c (rv_I ⟨by decide, by decide⟩)) (ev_op (hlen6 rfl (e7 _ _ (e6 _ _ pa5))) ev_c rv_I0) (rv_I (by decide))) (congrArg V.int (by omega))) hx) ea_nil))) (by simp)) fun p H7 hp e7 h7 => ?_
      exact fin p H6 H7 (.word f x) e06 (d5.ex e6) hp e7 ⟨by rw [fr_at (fresh_moved e06 (d5.ex e6) hp)]; exact h7, by have := hxo.2.1; omega⟩ trivial
    refine q_when (isk (j := 1) rfl) (fun hb1 H7 e7 => ?_) fun hb1 H7 e7 => ?_
    · have e57 := e6.trans e7
      have e07 : Ex (del H d) H7 := fun b o hb => e57 _ _ (e05 _ _ hb)
      refine ⟨_, rfl, _, rfl, _, rfl, d, pa, ws, rfl, d5.ex e57, e57 _ _ pa5, hok, fun v H8 e8 d8 ⟨p, hv, hpat⟩ => ⟨sizeLine_of (by simp), fun t ht => ?_⟩⟩
      subst hv
      have e08 := moved e07 e8
      exact fin t H8 _ (.like f p) e08 d8 ht (Ex.new ht) ⟨by rw [fr_at (fresh_moved e08 d8 ht)]; exact upd_same, hpat⟩ trivial
    have e57 := e6.trans e7
    refine q_when (b := true) (et_is (isl rfl) (decide_eq_true hb5)) (fun _ H8 e8 => ?_) fun z => nomatch z
    have e58 := e57.trans e8
    obtain ⟨m, hm1, hm2, hmE⟩ := ev_oneOf (K := K) (σ := [some (.ref d), some (.ref pa), some (.int (deep : Int)), some (.int (n9 : Int)), some (.int (kd : Int)), some (.str f), none, none, none, none]) (i := 3) (n := n9) (a := 18) (b := 2000) (x := 4) (y := 6) rfl ⟨by decide, by decide⟩ ⟨by decide, by decide⟩ (by decide) (by decide)
    refine q_asg (v := .int (m : Int)) (hmE _) fun H9 e9 => ?_
    have e59 := e58.trans e9
    have e09 : Ex (del H d) H9 := fun b o hb => e59 _ _ (e05 _ _ hb)
    have d9 := d5.ex e59
    refine q_asgQ (C := fun v H10 => ∃ (p : Addr) (xs : List Str), v = .ref p ∧ H9 p = none ∧ Ex (del H9 d) H10 ∧ Dr H10 d ∧ H10 p = some (.lst (xs.map V.str)) ∧ xs.length = m ∧ ∀ x ∈ xs, x ∈ ws) (fun Q10 q10 => ?_) fun v H10 ⟨p, xs, hv, hp, e10, d10, h10, hxl, hxs⟩ => ?_
    · refine ⟨_, rfl, (m : Int), rfl, by omega, by omega, fun Dl hDl => ?_⟩
      have hDd := d9.ne hDl
      refine lc_it (walk_range (lo := 0)) (fun i H' => ∃ xs : List Str, Ex (del H9 d) H' ∧ Dr H' d ∧ H' Dl = some (.lst (xs.map V.str)) ∧ xs.length = i ∧ ∀ x ∈ xs, x ∈ ws) ⟨[], del_ex.trans (Ex.new hDl), d9.ex (Ex.new hDl), upd_same, rfl, fun _ h => absurd h List.not_mem_nil⟩ (fun _ _ _ _ => trivial) ?_ ?_
      · rintro i x H11 H12 hi ⟨xs, e11, d11, h11, hxl, hxs⟩ ⟨rfl, rfl⟩
        refine ⟨rfl, ?_⟩
        refine ⟨_, rfl, op_q2 (P := PopP H12 d) (rd_pop rfl d11) fun v H13 ⟨n, hv, hn, e13, d13⟩ => ?_⟩
        subst hv
        have pa12 : H12 pa = some (.lst (ws.map V.str)) := e11 _ _ (by rw [del_ne hpd]; exact e59 _ _ pa5)
        have pa13 : H13 pa = some (.lst (ws.map V.str)) := e13 _ _ (by rw [del_ne hpd]; exact pa12)
        have hjl : n9 / 9 % 2 < ([2, 6] : List Int).length := Nat.mod_lt _ (by decide)
        have hz := List.getElem?_eq_getElem hjl
        have hzm := List.getElem_mem hjl
        generalize ([2, 6] : List Int)[n9 / 9 % 2] = z at hz hzm
        obtain ⟨dn, rfl, hdn0, hdn6⟩ : ∃ dn : Nat, z = (dn : Int) ∧ 0 < dn ∧ dn ≤ 6 := by
          simp at hzm
          exact ⟨z.toNat, by omega, by omega, by omega⟩
        have hix : n % dn < ws.length := by
          have := Nat.mod_lt n hdn0
          have := hok.1
          omega
        have hwx := List.getElem?_eq_getElem hix
        have hwm := List.getElem_mem hix
        generalize ws[n % dn] = x at hwx hwm
        have hpick : Ev (tOp (rIxL K) (tLst (tCons (tC (.int 2)) (tCons (tCB (rLenQ K) (tCons (tVar 1) tNil)) tNil))) (tOp (rI (fun _ j => 0 < j) fun i j => .int (i % j)) (tOp (rI CDiv fun i j => .int (i / j)) (tVar 3) (tC (.int 9))) (tC (.int 2)))) [some (.ref d), some (.ref pa), some (.int (deep : Int)), some (.int (n9 : Int)), some (.int (kd : Int)), some (.str f), some (.int (m : Int)), none, some (.int ((0 : Int) + (i : Int))), none] H13 (.int (dn : Int)) :=
          ev_pick (F := V.int) (es := [2, 6]) (el_lst (ea_cons ev_c (ea_cons (hlen6 rfl pa13) ea_nil)) (by simp)) (fun H14 e14 => ev_is (ev_op (ev_op (ev_var rfl) ev_c (rv_I ⟨by decide, by decide⟩)) ev_c (rv_I (by decide))) (congrArg V.int (by omega))) hz
        refine hpick H13 (Ex.refl _) _ fun H14 e14 => ⟨_, _, rfl, rfl, (by show (0 : Int) < (dn : Int); omega), pa, _, _, .str x, rfl, rfl, sq_of (e14 _ _ pa13), ?_, ?_⟩
        · have e9 : (n : Int) % (dn : Int) = ((n % dn : Nat) : Int) := by simp
          rw [e9]
          exact atI_nat (by rw [List.getElem?_map, hwx]; rfl)
        · have h13 : H13 Dl = some (.lst (xs.map V.str)) := e13 _ _ (by rw [del_ne hDd]; exact h11)
          refine ⟨_, e14 _ _ h13, sizeLine_lt (by rw [List.length_map]; omega), xs ++ [x], Ex.mut (fun b o hb => e14 _ _ (moved e11 e13 _ _ hb)) (by rw [del_ne hDd]; exact hDl), (d13.ex e14).upd hDd, by rw [upd_same, List.map_append]; rfl, by rw [List.length_append, hxl]; rfl, fun y hy => (List.mem_append.mp hy).elim (hxs y) fun z => by rw [List.mem_singleton.mp z]; exact hwm⟩
      · rintro H11 ⟨xs, e11, d11, h11, hxl, hxs⟩
        exact q10 _ _ ⟨Dl, xs, rfl, hDl, e11, d11, h11, by omega, hxs⟩
    · subst hv
      have e010 := moved e09 e10
      have hpH := fresh_moved e09 d9 hp
      have hnm : NamesOk xs := ⟨fun z => by rw [z] at hxl; simp at hxl; omega, by omega, fun w hw => ⟨by have := (hok.2 w (hxs w hw)).2.1; omega, fun c hc => wdC_lt ((hok.2 w (hxs w hw)).2.2 c hc)⟩⟩
      refine q_when (isk (j := 2) rfl) (fun hb2 H11 e11 => ?_) fun hb2 H11 e11 => ?_
      · have e011 : Ex (del H d) H11 := fun b o hb => e11 _ _ (e010 _ _ hb)
        refine s_retU (xs := [.str "row", .str f, .ref p]) (eu_tup (ea_cons ev_c (ea_cons (ev_var rfl) (ea_cons (ev_var rfl) ea_nil))) (by simp)) fun t H12 ht e12 h12 => ?_
        exact fin t H11 H12 (.row f xs) e011 (d10.ex e11) ht e12 ⟨hnm, p, by rw [fr_at (fresh_moved e011 (d10.ex e11) ht)]; exact h12, by rw [fr_at hpH]; exact (e11.trans e12) _ _ h10⟩ trivial
      · have e011 : Ex (del H d) H11 := fun b o hb => e11 _ _ (e010 _ _ hb)
        have hb02 := of_decide_eq_false hb0
        have hb12 := of_decide_eq_false hb1
        have hb22 := of_decide_eq_false hb2
        obtain ⟨m2, hm21, hm22, hmE2⟩ := ev_oneOf (K := K) (σ := [some (.ref d), some (.ref pa), some (.int (deep : Int)), some (.int (n9 : Int)), some (.int (kd : Int)), some (.str f), some (.int (m : Int)), some (.ref p), none, none]) (i := 3) (n := n9) (a := 72) (b := 4000) (x := 9) (y := 20) rfl ⟨by decide, by decide⟩ ⟨by decide, by decide⟩ (by decide) (by decide)
        have hjl : kd - 3 < ([("near" : Str), "chain"]).length := by
          show kd - 3 < 2
          omega
        have hz := List.getElem?_eq_getElem hjl
        have hpk : Ev (tOp (rIxL K) (tLst (tCons (tC (.str "near")) (tCons (tC (.str "chain")) tNil))) (tOp (rI0 fun i j => .int (i - j)) (tVar 4) (tC (.int 3)))) [some (.ref d), some (.ref pa), some (.int (deep : Int)), some (.int (n9 : Int)), some (.int (kd : Int)), some (.str f), some (.int (m : Int)), some (.ref p), none, none] H11 (.str (([("near" : Str), "chain"])[kd - 3])) :=
          ev_pick (F := V.str) (es := [("near" : Str), "chain"]) (el_lst (ea_cons ev_c (ea_cons ev_c ea_nil)) (by simp)) (fun H14 e14 => ev_is (ev_op (ev_var rfl) ev_c rv_I0) (congrArg V.int (by omega))) hz
        refine s_retU (xs := [.str (([("near" : Str), "chain"])[kd - 3]), .str f, .int (m2 : Int), .ref p]) (eu_tup (ea_cons hpk (ea_cons (ev_var rfl) (ea_cons (hmE2 _) (ea_cons (ev_var rfl) ea_nil)))) (by simp)) fun t H12 ht e12 h12 => ?_
        have htH := fresh_moved e011 (d10.ex e11) ht
        have h12' : fr H H12 t = some (.tup [.str (([("near" : Str), "chain"])[kd - 3]), .str f, .int (m2 : Int), .ref p]) := by rw [fr_at htH]; exact h12
        have hpp : fr H H12 p = some (.lst (xs.map V.str)) := by rw [fr_at hpH]; exact (e11.trans e12) _ _ h10
        obtain rfl | rfl : kd = 3 ∨ kd = 4 := by omega
        · exact fin t H11 H12 (.near f m2 xs) e011 (d10.ex e11) ht e12 ⟨hnm, p, h12', hpp⟩ (by show m2 ≤ 1000; omega)
        · exact fin t H11 H12 (.chain f m2 xs) e011 (d10.ex e11) ht e12 ⟨hnm, p, h12', hpp⟩ (by show m2 ≤ 1000; omega)
  · have hb5 := of_decide_eq_false hb
    have hdp : 1 ≤ deep := by
      refine Decidable.byContradiction fun z => ?_
      exact hb5 (hk5 (by omega))
    have hdd : deep - 1 + 1 = deep := by omega
    have hdi : ((deep - 1 : Nat) : Int) = (deep : Int) - 1 := by omega
    refine q_when (b := false) (et_is (isk (j := 0) rfl) (decide_eq_false (by omega))) (fun z => nomatch z) fun _ H5 e5 => ?_
    refine q_when (b := false) (et_is (isk (j := 1) rfl) (decide_eq_false (by omega))) (fun z => nomatch z) fun _ H6 e6 => ?_
    refine q_when (b := false) (et_is (isl rfl) hb) (fun z => nomatch z) fun _ H7 e7 => ?_
    have e37 := (e4.trans e5).trans (e6.trans e7)
    refine q_when (isk (j := 5) rfl) (fun hb6 H8 e8 => ?_) fun hb6 H8 e8 => ?_
    · have e38 := e37.trans e8
      have e08 : Ex (del H d) H8 := fun b o hb => e38 _ _ (e03 _ _ hb)
      have d8 := d3.ex e38
      refine ⟨_, rfl, _, rfl, _, rfl, _, _, rfl, rfl, d, pa, ws, deep - 1, by rw [hdi]; rfl, by omega, by omega, d8, e08 _ _ (by rw [del_ne hpd]; exact hpa), hok, fun v H9 e9 d9 ⟨q, P9, hv, hq, hQ⟩ => ⟨sizeLine_of (by simp), fun t ht => ?_⟩⟩
      subst hv
      have e09 := moved e08 e9
      have htH := fresh_moved e09 d9 ht
      rw [hdd] at hQ
      refine k _ _ (fun b o hb => (Ex.new ht) _ _ (e09 _ _ hb)) (d9.ex (Ex.new ht)) ⟨t, fun D => ¬ P9 D, rfl, htH, .inr (.inl ⟨q, P9, by rw [fr_at htH]; exact upd_same, hQ.mono ((fr_moved e08 d8).trans (fr_to (Ex.new ht))), fun D => Iff.rfl⟩)⟩
    · have e38 := e37.trans e8
      have e08 : Ex (del H d) H8 := fun b o hb => e38 _ _ (e03 _ _ hb)
      have d8 := d3.ex e38
      have pa8 : H8 pa = some (.lst (ws.map V.str)) := e08 _ _ (by rw [del_ne hpd]; exact hpa)
      obtain ⟨m, hm, hcnt⟩ : ∃ m : Nat, m ≤ 4 ∧ Ev (tOp (rI (fun _ j => 0 < j) fun i j => .int (i % j)) (tOp (rI CDiv fun i j => .int (i / j)) (tVar 3) (tC (.int 9))) (tOp (rIxL K) (tLst (tCons (tC (.int 4)) (tCons (tC (.int 4)) (tCons (tC (.int 4)) (tCons (tC (.int 3)) tNil))))) (tVar 2))) [some (.ref d), some (.ref pa), some (.int (deep : Int)), some (.int (n9 : Int)), some (.int (kd : Int)), none, none, none, none, none] H8 (.int (m : Int)) := by
        have hjl : deep < ([4, 4, 4, 3] : List Int).length := by
          show deep < 4
          omega
        have hz := List.getElem?_eq_getElem hjl
        have hzm := List.getElem_mem hjl
        generalize ([4, 4, 4, 3] : List Int)[deep] = z at hz hzm
        have hz4 : 0 < z ∧ z ≤ 4 := by
          simp at hzm
          omega
        have g1 : 0 ≤ (n9 : Int) / 9 % z := Int.emod_nonneg _ (by omega)
        have g2 : (n9 : Int) / 9 % z < z := Int.emod_lt_of_pos _ hz4.1
        exact ⟨((n9 : Int) / 9 % z).toNat, by omega, ev_is (ev_op (ev_op (ev_var rfl) ev_c (rv_I ⟨by decide, by decide⟩)) (ev_pick (F := V.int) (es := [4, 4, 4, 3]) (el_lst (ea_cons ev_c (ea_cons ev_c (ea_cons ev_c (ea_cons ev_c ea_nil)))) (by simp)) (fun H9 e9 => ev_var rfl) hz) (rv_I hz4.1)) (congrArg V.int (by omega))⟩
      refine q_asgQ (C := fun v H10 => ∃ (p : Addr) (C : Hp) (qs : List (Addr × (Wd → Prop))), v = .ref p ∧ H p = none ∧ Ex (del H d) H10 ∧ Dr H10 d ∧ H10 p = some (.lst (qs.map fun x => V.ref x.1)) ∧ Ex C (fr H H10) ∧ qs.length ≤ 60 ∧ ∀ x ∈ qs, QAt deep C x.1 x.2) (fun Q10 q10 => ?_) fun v H10 ⟨p, C, qs, hv, hp, e10, d10, h10, eC, hql, hqs⟩ => ?_
      · refine hcnt H8 (Ex.refl _) _ fun H9 e9 => ⟨(m : Int), rfl, by omega, by omega, fun Dl hDl => ?_⟩
        have e09 : Ex (del H d) H9 := fun b o hb => e9 _ _ (e08 _ _ hb)
        have d9 := d8.ex e9
        have hDd := d9.ne hDl
        have hDH := fresh_moved e09 d9 hDl
        refine lc_it (walk_range (lo := 0)) (fun i H' => ∃ (C : Hp) (qs : List (Addr × (Wd → Prop))), Ex (del H d) H' ∧ Dr H' d ∧ H' Dl = some (.lst (qs.map fun x => V.ref x.1)) ∧ Ex C (fr H H') ∧ C Dl = none ∧ qs.length = i ∧ ∀ x ∈ qs, QAt deep C x.1 x.2) ⟨del (fr H (upd H9 Dl (.lst []))) Dl, [], fun b o hb => (Ex.new hDl) _ _ (e09 _ _ hb), d9.ex (Ex.new hDl), upd_same, del_ex, del_at, rfl, fun _ h => absurd h List.not_mem_nil⟩ (fun _ _ _ _ => trivial) ?_ ?_
        · rintro i x H11 H12 hi ⟨C, qs, e11, d11, h11, eC, hCD, hql, hqs⟩ ⟨rfl, rfl⟩
          refine ⟨rfl, ?_⟩
          refine ⟨_, rfl, _, rfl, _, rfl, _, _, rfl, rfl, d, pa, ws, deep - 1, by rw [hdi]; rfl, by omega, by omega, d11, e11 _ _ (by rw [del_ne hpd]; exact hpa), hok, fun v H13 e13 d13 ⟨q, P9, hv, hq, hQ⟩ => ?_⟩
          subst hv
          rw [hdd] at hQ
          have e013 := moved e11 e13
          have h13 : H13 Dl = some (.lst (qs.map fun x => V.ref x.1)) := e13 _ _ (by rw [del_ne hDd]; exact h11)
          have hfr : Ex (fr H H12) (fr H H13) := fr_keep hdH e13
          have eC2 : Ex C (del (fr H H13) Dl) := fun b o hb => by
            rw [del_ne (own_ne hb hCD)]
            exact hfr _ _ (eC _ _ hb)
          have eQ : Ex (fr H12 H13) (del (fr H H13) Dl) := fun b o hb => by
            have hbn := fr_none hb
            rw [del_ne (own_ne h11 hbn).symm]
            exact fr_moved e11 d11 _ _ hb
          refine ⟨_, h13, sizeLine_lt (by rw [List.length_map]; omega), del (fr H H13) Dl, qs ++ [(q, P9)], e013.mut (by rw [del_ne hDd]; exact hDH), d13.upd hDd, by rw [upd_same, List.map_append]; rfl, ?_, del_at, by rw [List.length_append, hql]; rfl, fun x hx => ?_⟩
          · rw [fr_upd hDH]
            exact del_ex.mut del_at
          · rcases List.mem_append.mp hx with z | z
            · exact (hqs x z).mono eC2
            · rw [List.mem_singleton.mp z]
              exact hQ.mono eQ
        · rintro H11 ⟨C, qs, e11, d11, h11, eC, hCD, hql, hqs⟩
          exact q10 _ _ ⟨Dl, C, qs, rfl, hDH, e11, d11, h11, eC, by omega, hqs⟩
      · subst hv
        have hjl : kd % 2 < ([("both" : Str), "one"]).length := Nat.mod_lt _ (by decide)
        have hz := List.getElem?_eq_getElem hjl
        have hpk : Ev (tOp (rIxL K) (tLst (tCons (tC (.str "both")) (tCons (tC (.str "one")) tNil))) (tOp (rI (fun _ j => 0 < j) fun i j => .int (i % j)) (tVar 4) (tC (.int 2)))) [some (.ref d), some (.ref pa), some (.int (deep : Int)), some (.int (n9 : Int)), some (.int (kd : Int)), none, none, none, none, some (.ref p)] H10 (.str (([("both" : Str), "one"])[kd % 2])) :=
          ev_pick (F := V.str) (es := [("both" : Str), "one"]) (el_lst (ea_cons ev_c (ea_cons ev_c ea_nil)) (by simp)) (fun H14 e14 => ev_is (ev_op (ev_var rfl) ev_c (rv_I (by decide))) (congrArg V.int (by omega))) hz
        refine s_retU (xs := [.str (([("both" : Str), "one"])[kd % 2]), .ref p]) (eu_tup (ea_cons hpk (ea_cons (ev_var rfl) ea_nil)) (by simp)) fun t H12 ht e12 h12 => ?_
        have htH := fresh_moved e10 d10 ht
        have h12' : fr H H12 t = some (.tup [.str (([("both" : Str), "one"])[kd % 2]), .ref p]) := by rw [fr_at htH]; exact h12
        have hpp : fr H H12 p = some (.lst (qs.map fun x => V.ref x.1)) := by rw [fr_at hp]; exact e12 _ _ h10
        have hqs' : ∀ x ∈ qs, QAt deep (fr H H12) x.1 x.2 := fun x hx => (hqs x hx).mono (eC.trans (fr_to e12))
        obtain hk | hk : kd % 2 = 0 ∨ kd % 2 = 1 := by omega
        · have hs : ([("both" : Str), "one"])[kd % 2] = "both" := by simp [hk]
          rw [hs] at h12'
          exact k _ H12 (fun b o hb => e12 _ _ (e10 _ _ hb)) (d10.ex e12) ⟨t, fun D => ∀ x ∈ qs, x.2 D, rfl, htH, .inr (.inr (.inl ⟨p, qs, h12', hpp, hql, hqs', fun D => Iff.rfl⟩))⟩
        · have hs : ([("both" : Str), "one"])[kd % 2] = "one" := by simp [hk]
          rw [hs] at h12'
          exact k _ H12 (fun b o hb => e12 _ _ (e10 _ _ hb)) (d10.ex e12) ⟨t, fun D => ∃ x ∈ qs, x.2 D, rfl, htH, .inr (.inr (.inr ⟨p, qs, h12', hpp, hql, hqs', fun D => Iff.rfl⟩))⟩
end Fc
/-! A question in a document, by the law. -/
namespace Fc
open PySem PySem.Spec PyProof.Rows L2 Evl
theorem pB_is {p : Prop} {b : Bool} (h : b = true ↔ p) : b = pB p := by
  cases hb : b with
  | true => exact (pB_yes (h.mp hb)).symm
  | false => exact (pB_no fun z => by rw [h.mpr z] at hb; cases hb).symm
theorem inV_bl (i : Bool) (ns : List Bool) : inV (.bl i) (ns.map V.bl) = decide (i ∈ ns) := by
  induction ns with
  | nil => rfl
  | cons n r ih =>
    unfold inV at ih ⊢
    rw [List.map_cons, List.any_cons, ih]
    cases n <;> cases i <;> simp [eqV]
theorem flat_bls (ns : List Bool) : (ns.map V.bl).all flatV = true := by simp [flatV]
theorem fldW_in {ws : List Str} {D : List (Str × List Str)} (hD : DocF ws D) (f : Str) : (fldW D f).length ≤ 14 ∧ (∀ w ∈ fldW D f, w ∈ ws) ∧ (fldW D f ≠ [] → f ∈ D.map (·.1)) := by
  unfold fldW
  cases hc : D.find? (fun x => decide (x.1 = f)) with
  | none => exact ⟨Nat.zero_le _, fun _ h => absurd h List.not_mem_nil, fun z => absurd rfl z⟩
  | some x =>
    have hm := List.mem_of_find?_eq_some hc
    have hx : x.1 = f := by simpa using List.find?_some (p := fun x : Str × List Str => decide (x.1 = f)) hc
    exact ⟨(hD.2 x hm).2.1, (hD.2 x hm).2.2, fun _ => List.mem_map.mpr ⟨x, hm, hx⟩⟩
theorem six_asc : (six.all fun x => x.cps.toList.all fun c => decide (c < 1114112)) = true := by decide +kernel
theorem DocF.asc {ws : List Str} {D : List (Str × List Str)} (hD : DocF ws D) {f : Str} (h : f ∈ D.map (·.1)) : ∀ c ∈ f.cps.toList, c < 1114112 := fun c hc => by
  obtain ⟨x, hx, rfl⟩ := List.mem_map.mp h
  exact of_decide_eq_true (List.all_eq_true.mp (List.all_eq_true.mp six_asc _ (hD.2 x hx).1) c hc)
theorem DocF.len {ws : List Str} {D : List (Str × List Str)} (hD : DocF ws D) : (D.map (·.1)).length ≤ 6 := by
  have q := nodup_le (b := six) hD.1 fun f hf => by
    obtain ⟨x, hx, rfl⟩ := List.mem_map.mp hf
    exact (hD.2 x hx).1
  exact q
def sp_law_holds (n : Nat) : Sp := fun vs H Q _ => ∃ (fa q : Addr) (ws : List Str) (D : List (Str × List Str)) (P : Wd → Prop), vs = [.ref fa, .ref q] ∧ FldAt H fa D ∧ DocF ws D ∧ (∀ w ∈ ws, WdOk w) ∧ QAt n H q P ∧ RetV (.bl (pB (P (fldW D)))) H Q
theorem sc_law_holds : FnScope ["_law_fields", "_law_question_here", "_law_told", "_law_one", "_law_some", "_law_field_here"] ["_law_fields", "_law_question_here"] (defScope s_law_holds) := ⟨rfl, rfl, rfl, by decide +kernel, rfl, by decide +kernel, by decide +kernel⟩
theorem okr_law_holds {P : Program} {w : World} {K : PySem.W.Frag} {mg : Str → Option Value} {base : Heap} (k n : Nat) (hk : 92 ≤ k) (G : Gd K mg "_law_holds" s_law_holds) (T : Tx K mg) (O_law_stands : OkF P w K mg base 92 "_law_stands" ["_law_words_here", "_law_question_here"] sp_law_stands) (O_law_holds : OkF P w K mg base k "_law_holds" ["_law_fields", "_law_question_here"] (sp_law_holds n)) : OkF P w K mg base (k + 1) "_law_holds" ["_law_fields", "_law_question_here"] (sp_law_holds (n + 1)) := by
  refine G.ok (k := k) sc_law_holds (fun _ _ _ _ _ _ us hl => match us, hl with | [_, _], _ => rfl) (fun vs H Q E h => ?_) (fun f cdv A outer s H vs Q E hr h => ?_)
  · unfold sp_law_holds at h
    repeat (first | (obtain ⟨rfl, h⟩ := h; rfl) | (obtain ⟨_, h⟩ := h))
  have hu := hu_of hr
  refine ⟨_, (pss_cons (ps_if (pt_cmpR op_eq (pe_ix (ixtK K) (pv 1) pe_int (fun _ _ => rfl)) pe_str (nomark _)) (pss_one (ps_ret (pe_not (pe_fn O_law_holds (hr.mono (by omega)) (pa_cons (pv 0) (pa_cons (pe_ix (ixtK K) (pv 1) pe_int (fun _ _ => rfl)) pa_nil)))))) pss_nil)
      (pss_cons (ps_if (PW.pt (pw_or (pt_cmpR op_eq (pe_ix (ixtK K) (pv 1) pe_int (fun _ _ => rfl)) pe_str (nomark _)) (pw_or1 (pt_cmpR op_eq (pe_ix (ixtK K) (pv 1) pe_int (fun _ _ => rfl)) pe_str (nomark _))))) (pss_cons (ps_setLc (i := 2) (own := [("_law_one", 3)]) (g := gName 3) rfl sc_law_holds.nd rfl rfl (sw_true rfl rfl rfl (by decide +kernel)) (pi_list (pe_ix (ixtK K) (pv 1) pe_int (fun _ _ => rfl))) (blkOk_by (own := [("_law_one", 3)]) (N := ["_law_fields", "_law_question_here", "_law_told", "_law_one", "_law_some", "_law_field_here"]) (sc := defScope s_law_holds) (by decide +kernel)) (fun _ _ _ _ _ => (pgv 3 sc_law_holds.nd)) (fun _ _ _ _ _ => pts_nil) (fun _ _ _ _ _ => (pe_fn O_law_holds (hr.mono (by omega)) (pa_cons (pv 0) (pa_cons (pv 3) pa_nil)))))
        (pss_cons (ps_if (pt_cmpR op_eq (pe_ix (ixtK K) (pv 1) pe_int (fun _ _ => rfl)) pe_str (nomark _)) (pss_one (ps_ret (pe_cmpR (opNotInK K) pe_bl (pv 2) (by with_unfolding_all rfl)))) pss_nil)
        (pss_one (ps_ret (pe_cmpR (opInK K) pe_bl (pv 2) (by with_unfolding_all rfl)))))) pss_nil)
      (pss_cons (psv 4 sc_law_holds.nd (pe_lst (pa_cons (pe_ix (ixtK K) (pv 1) pe_int (fun _ _ => rfl)) pa_nil)))
      (pss_cons (ps_if (pt_cmpR op_eq (pe_ix (ixtK K) (pv 1) pe_int (fun _ _ => rfl)) pe_str (nomark _)) (pss_one (psv 4 sc_law_holds.nd (pe_callB (id := "sorted") (call_sortedD rfl) rfl T.n_sorted (by decide +kernel) (pa_cons (pv 0) pa_nil)))) pss_nil)
      (pss_one (ps_ret (pe_cmpR (neDK K hr.units) (pe_lc (own := [("_law_field_here", 5)]) (g := gName 5) rfl sc_law_holds.nd (pi_list (pv 4)) (blkOk_by (own := [("_law_field_here", 5)]) (N := ["_law_fields", "_law_question_here", "_law_told", "_law_one", "_law_some", "_law_field_here"]) (sc := defScope s_law_holds) (by decide +kernel)) (fun _ _ _ _ _ => (pgv 5 sc_law_holds.nd)) (fun _ _ _ _ _ => (pts_one (pt_val (pe_fn O_law_stands (hr.mono (by omega)) (pa_cons (pe_dget2 hu (pv 0) (pv 5) (pe_lst pa_nil) (M2.of rfl)) (pa_cons (pv 1) pa_nil)))))) (fun _ _ _ _ _ => (pv 5))) (pe_lst pa_nil) (nomark _)))))))), ?_⟩
  obtain ⟨fa, q, ws, D, P9, rfl, hF, hD, hwo, hq, k⟩ := h
  have kind : ∀ {H1 : Hp} {x y : Str} {xs : List V} {y2 y3 y4 y5 : Option V}, H1 q = some (.tup (.str x :: xs)) → Ev (tOp rEq (tOp (rIxT K) (tVar 1) (tC (.int 0))) (tC (.str y))) [some (.ref fa), some (.ref q), y2, y3, y4, y5] H1 (.bl (decide (x = y))) := fun {H1 x y xs y2 y3 y4 y5} hx =>
    ev_is (ev_op (ev_op (ev_var rfl) ev_c (rv_ixT (st_of hx) (v := .str x) (i := 0) (atI_nat (j := 0) rfl))) ev_c (rv_eq rfl)) (by simp)
  have two : ∀ {H1 : Hp} {x : Str} {l : Addr} {qs : List (Addr × (Wd → Prop))} {y4 y5 : Option V}, Ex H H1 → H q = some (.tup [.str x, .ref l]) → H l = some (.lst (qs.map fun x => V.ref x.1)) → qs.length ≤ 60 → (∀ x ∈ qs, QAt n H x.1 x.2) →
      EvL (tLc (iList K (tOp (rIxT K) (tVar 1) (tC (.int 1)))) (gName 3) tYes (tCall (sp_law_holds n) [] E0 (tCons (tVar 0) (tCons (tVar 3) tNil))) [3]) [some (.ref fa), some (.ref q), none, none, y4, y5] H1 ((qs.map fun x => pB (x.2 (fldW D))).map V.bl) := fun {H1 x l qs y4 y5} e1 h1 h2 hl hqs => by
    have q9 := el_lcX (ti := iList K (tOp (rIxT K) (tVar 1) (tC (.int 1)))) (g := gName 3) (vs := [3]) (t := tYes) (te := tCall (sp_law_holds n) [] E0 (tCons (tVar 0) (tCons (tVar 3) tNil))) (es := qs) (σ := [some (.ref fa), some (.ref q), none, none, y4, y5]) (H := H1) (st := fun (x : Addr × (Wd → Prop)) σ0 => σ0.set 3 (some (.ref x.1))) (fun _ => true) (fun x => V.bl (pB (x.2 (fldW D))))
      (ex_list (F := fun x : Addr × (Wd → Prop) => V.ref x.1) (ev_op (ev_var rfl) ev_c (rv_ixT (K := K) (st_of (e1 _ _ h1)) (v := .ref l) (i := 1) (atI_nat (j := 1) rfl))) (sq_of (e1 _ _ h2))) (by omega) (fun x => rfl) (fun _ _ H3 _ H4 _ Q4 q4 => q4 H4 (Ex.refl _)) (fun x hx H3 e3 _ => ev_call (ea_cons (ev_var rfl) (ea_cons (ev_var rfl) ea_nil)) fun H4 e4 Q4 q4 E4 => ⟨fa, x.1, ws, D, x.2, rfl, hF.mono ((e1.trans e3).trans e4), hD, hwo, (hqs x hx).mono ((e1.trans e3).trans e4), q4⟩)
    rw [List.filter_eq_self.mpr (fun _ _ => rfl)] at q9
    rw [List.map_map]
    exact q9
  rcases hq with ⟨lf, ⟨hlf, hsm⟩, hP⟩ | ⟨b, P', h1, hq2, hP⟩ | ⟨l, qs, h1, h2, hql, hqs, hP⟩ | ⟨l, qs, h1, h2, hql, hqs, hP⟩
  · obtain ⟨x, xs, hx, hxl, hx1, hx2⟩ := hlf.head
    have hx3 : x ≠ "one" := fun z => by
      rw [z] at hxl
      exact absurd hxl (by decide)
    refine q_when (b := false) (et_is (et_test (kind hx)) (decide_eq_false hx1)) (fun z => nomatch z) fun _ H1 e1 => ?_
    refine q_when (b := false) (et_is (et_or (a := false) (b := false) (et_is (et_test (kind (e1 _ _ hx))) (decide_eq_false hx2)) fun _ => et_is (et_test (kind (e1 _ _ hx))) (decide_eq_false hx3)) rfl) (fun z => nomatch z) fun _ H2 e2 => ?_
    have e12 := e1.trans e2
    have fldE : ∀ {H3 : Hp} {y2 y3 y4 y5 : Option V}, Ex H H3 → Ev (tOp (rIxT K) (tVar 1) (tC (.int 1))) [some (.ref fa), some (.ref q), y2, y3, y4, y5] H3 (.str lf.field) := fun {H3 y2 y3 y4 y5} e3 => ev_op (ev_var rfl) ev_c (rv_ixT (K := K) (st_of (e3 _ _ hx)) (v := .str lf.field) (i := 1) (atI_nat (j := 1) rfl))
    have hlc : ∀ {H3 : Hp} {a : Addr} {fs : List Str}, Ex H H3 → H3 a = some (.lst (fs.map V.str)) → fs.length ≤ 60 → EvL (tLc (iList K (tVar 4)) (gName 5) (tB (tCall sp_law_stands [] E0 (tCons (tDGet2 (tVar 0) (tVar 5) (tLst tNil)) (tCons (tVar 1) tNil)))) (tVar 5) [5]) [some (.ref fa), some (.ref q), none, none, some (.ref a), none] H3 ((fs.filter fun f => standsB lf (fldW D f)).map V.str) := fun {H3 a fs} e3 ha hl =>
      el_lcX (ti := iList K (tVar 4)) (g := gName 5) (vs := [5]) (t := tB (tCall sp_law_stands [] E0 (tCons (tDGet2 (tVar 0) (tVar 5) (tLst tNil)) (tCons (tVar 1) tNil)))) (te := tVar 5) (es := fs) (σ := [some (.ref fa), some (.ref q), none, none, some (.ref a), none]) (H := H3) (st := fun (x : Str) σ0 => σ0.set 5 (some (.str x))) (fun f => standsB lf (fldW D f)) (fun x => V.str x)
        (ex_list (F := V.str) (ev_var rfl) (sq_of ha)) (by omega) (fun x => rfl) (fun f hf H4 e4 H5 e5 Q5 q5 => by
          obtain ⟨es, hfa, hFI⟩ := (hF.mono ((e3.trans e4).trans e5))
          obtain ⟨g1, g2, g3⟩ := fldW_in hD f
          have go : ∀ (r : Addr) (H6 : Hp), Ex H5 H6 → H6 r = some (.lst ((fldW D f).map V.str)) → sp_law_stands ([.ref r, .ref q] ++ []) H6 (fun v H7 => ∃ b, v = .bl b ∧ Q5 b H7) E0 := fun r H6 e6 hr => ⟨r, q, fldW D f, lf, rfl, hr, hlf.mono (((e3.trans e4).trans e5).trans e6), hsm, by omega, fun w hw => (hwo w (g2 w hw)).2.1, fun w hw c hc => wdC_lt ((hwo w (g2 w hw)).2.2 c hc), fun H7 e7 => ⟨_, rfl, q5 H7 (e6.trans e7)⟩⟩
          refine ⟨_, rfl, fa, rfl, .inl ⟨_, .inl hfa⟩, _, rfl, sizeLine_of (by simp), fun r hr => ?_⟩
          have er : Ex H5 (upd H5 r (.lst [])) := Ex.new hr
          by_cases c : f ∈ D.map (·.1)
          · obtain ⟨wa, hwa, hwl⟩ := hFI.at hD.1 c
            refine ⟨_, .inl ⟨_, kS f, .inl (er _ _ hfa), rfl, hwa.symm⟩, _, rfl, go wa _ er (er _ _ hwl)⟩
          · obtain ⟨hno, hnil⟩ := hFI.no c
            refine ⟨_, .inl ⟨_, kS f, .inl (er _ _ hfa), rfl, hno.symm⟩, _, rfl, go r _ er (by rw [hnil]; exact upd_same)⟩) (fun f hf H4 e4 _ => ev_var rfl)
    have stn : ∀ {H3 : Hp}, Ex H H3 → ∀ f, standsB lf (fldW D f) = true ↔ leafP lf (fldW D f) := fun {H3} e3 f => stands_eq hlf
    have asc : ∀ fs : List Str, Asc (fs.filter fun f => standsB lf (fldW D f)) := fun fs f hf => hD.asc ((fldW_in hD f).2.2 (leaf_ne hlf ((stands_eq hlf).mp (List.mem_filter.mp hf).2)))
    have ne : ∀ fs : List Str, (!decide ((fs.filter fun f => standsB lf (fldW D f)) = [])) = fs.any fun f => standsB lf (fldW D f) := fun fs => by
      have e9 : (fs.filter fun f => standsB lf (fldW D f)) = [] ↔ fs.any (fun f => standsB lf (fldW D f)) = false := by
        rw [List.filter_eq_nil_iff, List.any_eq_false]
      cases hc : fs.any (fun f => standsB lf (fldW D f)) with
      | false => rw [decide_eq_true (e9.mpr hc)]; rfl
      | true => rw [decide_eq_false fun z => by rw [e9.mp z] at hc; cases hc]; rfl
    refine q_asgL (xs := [.str lf.field]) (el_lst (ea_cons (fldE e12) ea_nil) (by simp)) fun a H3 ha e3 h3 => ?_
    have e13 := e12.trans e3
    have hst : ("*" : Str) = Z [42] := rfl
    refine q_when (b := decide (lf.field = Z [42])) (et_is (et_test (ev_op (fldE e13) ev_c (rv_eq rfl))) (by rw [hst]; simp)) (fun hb H4 e4 => ?_) fun hb H4 e4 => ?_
    · have hb := of_decide_eq_true hb
      have e14 := e13.trans e4
      obtain ⟨es, hfa, hFI⟩ := hF.mono e14
      refine ⟨_, rfl, fa, _, D.map (·.1), rfl, .inl hfa, ?_, by have := hD.len; omega, fun ys p pm hys hp => ?_⟩
      · rw [List.map_map, ← hFI.keys, List.map_map]
        rfl
      have ep : Ex H4 (upd H4 p (.lst (ys.map V.str))) := Ex.new hp
      have hpl : upd H4 p (.lst (ys.map V.str)) p = some (.lst (ys.map V.str)) := upd_same
      generalize upd H4 p (.lst (ys.map V.str)) = H5 at ep hpl ⊢
      have e15 := e14.trans ep
      refine s_ret (ev_is (ev_strsNn (K := K) (hlc e15 hpl (by rw [pm.length_eq]; have := hD.len; omega)) (asc ys)) ?_) fun H6 e6 => k H6 (e15.trans e6)
      rw [ne ys]
      refine congrArg V.bl (pB_is ?_)
      rw [hP, List.any_eq_true]
      unfold holdL
      rw [if_pos hb]
      constructor
      · rintro ⟨f, _, hf⟩
        exact ⟨f, (stands_eq hlf).mp hf⟩
      · rintro ⟨f, hf⟩
        exact ⟨f, pm.mem_iff.mpr ((fldW_in hD f).2.2 (leaf_ne hlf hf)), (stands_eq hlf).mpr hf⟩
    · have hb := of_decide_eq_false hb
      have e14 := e13.trans e4
      refine s_ret (ev_is (ev_strsNn (K := K) (hlc (fs := [lf.field]) e14 (e4 _ _ h3) (by simp)) (asc _)) ?_) fun H6 e6 => k H6 (e14.trans e6)
      rw [ne]
      refine congrArg V.bl (pB_is ?_)
      rw [hP, List.any_eq_true]
      unfold holdL
      rw [if_neg hb]
      constructor
      · rintro ⟨f, hf1, hf⟩
        rw [List.mem_singleton.mp hf1] at hf
        exact (stands_eq hlf).mp hf
      · intro hf
        exact ⟨_, List.mem_singleton.mpr rfl, (stands_eq hlf).mpr hf⟩
  · refine q_when (b := true) (et_test (kind h1)) (fun _ H1 e1 => ?_) (fun z => nomatch z)
    refine s_ret (ev_is (ev_notV (ev_call (ea_cons (ev_var rfl) (ea_cons (ev_op (ev_var rfl) ev_c (rv_ixT (K := K) (st_of (e1 _ _ h1)) (v := .ref b) (i := 1) (atI_nat (j := 1) rfl))) ea_nil)) fun H2 e2 Q2 q2 E2 => ⟨fa, b, ws, D, P', rfl, hF.mono (e1.trans e2), hD, hwo, hq2.mono (e1.trans e2), q2⟩)) ?_) fun H2 e2 => k H2 (e1.trans e2)
    refine congrArg V.bl (pB_is ?_)
    rw [hP]
    cases hc : pB (P' (fldW D)) with
    | true => exact ⟨(fun z => nomatch z), fun z => absurd (pB_true.mp hc) z⟩
    | false => exact ⟨fun _ z => (by rw [pB_yes z] at hc; cases hc), fun _ => rfl⟩
  · refine q_when (b := false) (et_is (et_test (kind h1)) (by decide)) (fun z => nomatch z) fun _ H1 e1 => ?_
    refine q_when (b := true) (et_is (et_or (a := true) (b := true) (et_test (kind (e1 _ _ h1))) fun z => nomatch z) rfl) (fun _ H2 e2 => ?_) (fun z => nomatch z)
    have e12 := e1.trans e2
    refine q_asgL (two e12 h1 h2 hql hqs) fun t H3 ht e3 h3 => ?_
    have e13 := e12.trans e3
    refine q_when (b := true) (et_test (kind (e13 _ _ h1))) (fun _ H4 e4 => ?_) (fun z => nomatch z)
    refine s_ret (ev_is (ev_op ev_c (ev_var rfl) (rv_niL (sq_of (e4 _ _ h3)) rfl (flat_bls _))) ?_) fun H5 e5 => k H5 ((e13.trans e4).trans e5)
    rw [inV_bl]
    refine congrArg V.bl (pB_is ?_)
    rw [hP, Bool.not_eq_true', decide_eq_false_iff_not, List.mem_map]
    constructor
    · intro z x hx
      refine Classical.byContradiction fun c => z ⟨x, hx, pB_no c⟩
    · rintro z ⟨x, hx, c⟩
      rw [pB_yes (z x hx)] at c
      cases c
  · refine q_when (b := false) (et_is (et_test (kind h1)) (by decide)) (fun z => nomatch z) fun _ H1 e1 => ?_
    refine q_when (b := true) (et_is (et_or (a := false) (b := true) (et_is (et_test (kind (e1 _ _ h1))) (by decide)) fun _ => et_test (kind (e1 _ _ h1))) rfl) (fun _ H2 e2 => ?_) (fun z => nomatch z)
    have e12 := e1.trans e2
    refine q_asgL (two e12 h1 h2 hql hqs) fun t H3 ht e3 h3 => ?_
    have e13 := e12.trans e3
    refine q_when (b := false) (et_is (et_test (kind (e13 _ _ h1))) (by decide)) (fun z => nomatch z) fun _ H4 e4 => ?_
    refine s_ret (ev_is (ev_op ev_c (ev_var rfl) (rv_isL (sq_of (e4 _ _ h3)) rfl (flat_bls _))) ?_) fun H5 e5 => k H5 ((e13.trans e4).trans e5)
    rw [inV_bl]
    refine congrArg V.bl (pB_is ?_)
    rw [hP, decide_eq_true_iff, List.mem_map]
    constructor
    · rintro ⟨x, hx, c⟩
      exact ⟨x, hx, pB_true.mp c⟩
    · rintro ⟨x, hx, c⟩
      exact ⟨x, hx, pB_yes c⟩
end Fc
/-! The house and what the law knows of its documents. -/
namespace Fc
open PySem PySem.Spec PyProof.Rows L2 Evl
/-- a document by its number: its make, where its fields lie, its words -/
structure Ent where
  n : Nat
  m : Nat
  a : Addr
  D : List (Str × List Str)
abbrev LW (ws : List Str) : List Str := six ++ ws
abbrev kvE (es : List Ent) : List (Key × V) := es.map fun e => (kN e.n, V.ref e.a)
def esPut (es : List Ent) (x : Ent) : List Ent := if es.any (fun e => decide (e.n = x.n)) = true then es.map (fun e => if e.n = x.n then x else e) else es ++ [x]
theorem es_al (es : List Ent) (x : Ent) : alPut (es.map fun e => (e.n, e.m)) x.n x.m = (esPut es x).map fun e => (e.n, e.m) := by
  unfold alPut esPut
  have e : ((es.map fun e => (e.n, e.m)).any fun y => decide (y.1 = x.n)) = es.any fun e => decide (e.n = x.n) := by
    rw [List.any_map]
    rfl
  rw [e]
  split
  · rw [List.map_map, List.map_map]
    refine List.map_congr_left fun y _ => ?_
    show (if y.n = x.n then (y.n, x.m) else (y.n, y.m)) = _
    by_cases c : y.n = x.n
    · rw [if_pos c]
      show _ = ((if y.n = x.n then x else y).n, (if y.n = x.n then x else y).m)
      rw [if_pos c, c]
    · rw [if_neg c]
      show _ = ((if y.n = x.n then x else y).n, (if y.n = x.n then x else y).m)
      rw [if_neg c]
  · rw [List.map_append]
    rfl
theorem es_kv (es : List Ent) (x : Ent) : putK (kvE es) (kN x.n) (.ref x.a) = kvE (esPut es x) := by
  unfold putK esPut
  have e : ((kvE es).any fun kv => decide (kv.1 = kN x.n)) = es.any (fun e => decide (e.n = x.n)) := by
    rw [List.any_map]
    congr 1
    funext y
    refine decide_eq_decide.mpr ⟨fun z => kN_inj z, fun z => ?_⟩
    show kN y.n = kN x.n
    rw [z]
  rw [e]
  split
  · show List.map _ (List.map _ es) = List.map _ (List.map _ es)
    rw [List.map_map, List.map_map]
    refine List.map_congr_left fun y _ => ?_
    show (if kN y.n = kN x.n then (kN y.n, V.ref x.a) else (kN y.n, V.ref y.a)) = (kN (if y.n = x.n then x else y).n, V.ref (if y.n = x.n then x else y).a)
    by_cases c : y.n = x.n
    · rw [if_pos c, if_pos (by rw [c]), c]
    · rw [if_neg c, if_neg (fun z => c (kN_inj z))]
  · show _ = List.map _ (es ++ [x])
    rw [List.map_append]
    rfl
theorem es_drop (es : List Ent) (n : Nat) : dropK (kvE es) (kN n) = kvE (es.filter fun e => decide (e.n ≠ n)) := by
  unfold dropK
  show List.filter _ (List.map _ es) = List.map _ (List.filter _ es)
  rw [List.filter_map]
  congr 1
  refine List.filter_congr fun x _ => decide_eq_decide.mpr ⟨fun h z => h ?_, fun h z => h (kN_inj z)⟩
  show kN x.n = kN n
  rw [z]
theorem es_mem {es : List Ent} {x y : Ent} (h : y ∈ esPut es x) : y = x ∨ (y ∈ es ∧ y.n ≠ x.n) := by
  unfold esPut at h
  split at h
  · obtain ⟨e, he, hy⟩ := List.mem_map.mp h
    by_cases c : e.n = x.n
    · rw [if_pos c] at hy
      exact .inl hy.symm
    · rw [if_neg c] at hy
      rw [← hy]
      exact .inr ⟨he, c⟩
  · rename_i hc
    rcases List.mem_append.mp h with z | z
    · exact .inr ⟨z, fun c => hc (List.any_eq_true.mpr ⟨y, z, decide_eq_true c⟩)⟩
    · exact .inl (List.mem_singleton.mp z)
theorem es_nd {es : List Ent} {x : Ent} (h : es.Pairwise fun a b => a.n ≠ b.n ∧ a.m ≠ b.m) (hm : ∀ e ∈ es, e.m ≠ x.m) : (esPut es x).Pairwise fun a b => a.n ≠ b.n ∧ a.m ≠ b.m := by
  unfold esPut
  split
  · rw [List.pairwise_map]
    refine h.imp_of_mem fun {a b} ha hb hab => ?_
    by_cases c1 : a.n = x.n
    · by_cases c2 : b.n = x.n
      · exact absurd (c1.trans c2.symm) hab.1
      · rw [if_pos c1, if_neg c2]
        exact ⟨fun z => c2 z.symm, fun z => hm b hb z.symm⟩
    · by_cases c2 : b.n = x.n
      · rw [if_neg c1, if_pos c2]
        exact ⟨c1, hm a ha⟩
      · rw [if_neg c1, if_neg c2]
        exact hab
  · rename_i hc
    refine List.pairwise_append.mpr ⟨h, List.pairwise_singleton _ _, fun a ha b hb => ?_⟩
    rw [List.mem_singleton.mp hb]
    exact ⟨fun c => hc (List.any_eq_true.mpr ⟨a, ha, decide_eq_true c⟩), hm a ha⟩
/-- the makes and the documents -/
structure Rel (ws : List Str) (C : Hp) (S : HSt) (es : List Ent) (b c : Nat) : Prop where
  ok : HOk (LW ws) S
  few : (allM S).length ≤ b
  ev : S.ever ≤ b
  pcs : S.pcs.length ≤ c
  al : S.al = es.map fun e => (e.n, e.m)
  ents : ∀ e ∈ es, FldAt C e.a e.D ∧ DocF ws e.D ∧ ∃ ds, (allM S)[e.m]? = some (e.m, ds) ∧ Filed ws e.D ds
theorem Rel.C {ws : List Str} {C C2 : Hp} {S : HSt} {es : List Ent} {b c : Nat} (h : Rel ws C S es b c) (e : Ex C C2) : Rel ws C2 S es b c := ⟨h.ok, h.few, h.ev, h.pcs, h.al, fun x hx => ⟨(h.ents x hx).1.mono e, (h.ents x hx).2⟩⟩
theorem Rel.up {ws : List Str} {C : Hp} {S : HSt} {es : List Ent} {b c b2 c2 : Nat} (h : Rel ws C S es b c) (hb : b ≤ b2) (hc : c ≤ c2) : Rel ws C S es b2 c2 := ⟨h.ok, Nat.le_trans h.few hb, Nat.le_trans h.ev hb, Nat.le_trans h.pcs hc, h.al, h.ents⟩
theorem Rel.nd {ws : List Str} {C : Hp} {S : HSt} {es : List Ent} {b c : Nat} (h : Rel ws C S es b c) : es.Pairwise fun a b => a.n ≠ b.n ∧ a.m ≠ b.m := by
  have h1 := h.ok.al1
  have h2 := h.ok.al2
  rw [h.al, List.map_map] at h1 h2
  exact (List.pairwise_map.mp h1).and (List.pairwise_map.mp h2)
theorem Rel.lt {ws : List Str} {C : Hp} {S : HSt} {es : List Ent} {b c : Nat} (h : Rel ws C S es b c) {e : Ent} (he : e ∈ es) : e.n < S.ever ∧ e.m < (allM S).length := h.ok.alb (e.n, e.m) (by rw [h.al]; exact List.mem_map.mpr ⟨e, he, rfl⟩)
theorem Rel.zero (ws : List Str) (C : Hp) : Rel ws C S0 [] 0 0 := ⟨⟨rfl, by decide, fun _ h => absurd h List.not_mem_nil, by decide, .nil, .nil, fun _ h => absurd h List.not_mem_nil, by decide⟩, Nat.le_refl _, Nat.le_refl _, Nat.le_refl _, rfl, fun _ h => absurd h List.not_mem_nil⟩
theorem Rel.len {ws : List Str} {C : Hp} {S : HSt} {es : List Ent} {b c : Nat} (h : Rel ws C S es b c) : es.length ≤ 40 := by
  have q := nodup_le (b := List.range 40) (a := es.map fun e => e.n) (by
    have h1 := h.ok.al1
    rw [h.al, List.map_map] at h1
    exact h1) fun n hn => by
    obtain ⟨e, he, rfl⟩ := List.mem_map.mp hn
    have := (h.lt he).1
    have := h.ok.ever
    exact List.mem_range.mpr (by omega)
  rwa [List.length_map, List.length_range] at q
theorem Rel.alen {ws : List Str} {C : Hp} {S : HSt} {es : List Ent} {b c : Nat} (h : Rel ws C S es b c) : S.al.length ≤ 1000 := by
  rw [h.al, List.length_map]
  have := h.len
  omega
theorem Rel.add {ws : List Str} {C : Hp} {S : HSt} {es : List Ent} {b c : Nat} (h : Rel ws C S es b c) (hb : b ≤ 30) {n ev : Nat} {a d1 d2 : Addr} {D : List (Str × List Str)} {ds : Doc} (hF : FldAt C a D) (hD : DocF ws D) (hf : Filed ws D ds) (h1 : S.ever ≤ ev) (h2 : ev ≤ b + 1) (h3 : n < ev) :
    Rel ws C (addS { S with ever := ev } n d1 d2 ds) (esPut es ⟨n, (allM S).length, a, D⟩) (b + 1) c := by
  have hA : allM (addS { S with ever := ev } n d1 d2 ds) = allM S ++ [((allM S).length, ds)] := allM_add { S with ever := ev } n d1 d2 ds
  have hL : (allM (addS { S with ever := ev } n d1 d2 ds)).length = (allM S).length + 1 := by rw [hA, List.length_append]; rfl
  have hal : (addS { S with ever := ev } n d1 d2 ds).al = (esPut es ⟨n, (allM S).length, a, D⟩).map fun e => (e.n, e.m) := by
    show alPut S.al n (allM S).length = _
    rw [h.al]
    exact es_al es ⟨n, (allM S).length, a, D⟩
  have hnd : (esPut es ⟨n, (allM S).length, a, D⟩).Pairwise fun a b => a.n ≠ b.n ∧ a.m ≠ b.m := es_nd h.nd fun e he => by
    have := (h.lt he).2
    exact Nat.ne_of_lt this
  have hfew := h.few
  refine ⟨⟨?_, by rw [hL]; omega, fun m hm => ?_, h.ok.pcs, ?_, ?_, fun x hx => ?_, ?_⟩, by rw [hL]; omega, h2, h.pcs, hal, fun e he => ?_⟩
  · rw [hL, hA, List.map_append, h.ok.all, List.range_succ]
    rfl
  · rw [hA] at hm
    rcases List.mem_append.mp hm with z | z
    · exact h.ok.docs m z
    · rw [List.mem_singleton.mp z]
      exact ⟨hf.ok, hf.inn _ (fun f hf => List.mem_append_left _ hf) fun w hw => List.mem_append_right _ hw⟩
  · rw [hal, List.map_map]
    exact List.pairwise_map.mpr (hnd.imp fun z => z.1)
  · rw [hal, List.map_map]
    exact List.pairwise_map.mpr (hnd.imp fun z => z.2)
  · rw [hal] at hx
    obtain ⟨e, he, rfl⟩ := List.mem_map.mp hx
    rw [hL]
    show e.n < ev ∧ e.m < _
    rcases es_mem he with z | z
    · rw [z]
      exact ⟨h3, Nat.lt_succ_self _⟩
    · have := h.lt z.1
      omega
  · show ev ≤ 40
    omega
  · rw [hA]
    rcases es_mem he with z | z
    · rw [z]
      refine ⟨hF, hD, ds, ?_, hf⟩
      rw [List.getElem?_append_right (Nat.le_refl _), Nat.sub_self]
      rfl
    · obtain ⟨g1, g2, ds2, g3, g4⟩ := h.ents e z.1
      refine ⟨g1, g2, ds2, ?_, g4⟩
      rw [List.getElem?_append_left (h.lt z.1).2]
      exact g3
theorem Rel.take {ws : List Str} {C : Hp} {S : HSt} {es : List Ent} {b c : Nat} (h : Rel ws C S es b c) (n : Nat) : Rel ws C { S with al := S.al.filter fun x => decide (x.1 ≠ n) } (es.filter fun e => decide (e.n ≠ n)) b c := by
  have hal : (S.al.filter fun x => decide (x.1 ≠ n)) = (es.filter fun e => decide (e.n ≠ n)).map fun e => (e.n, e.m) := by
    rw [h.al, List.filter_map]
    rfl
  have hnd := List.Pairwise.filter (fun e : Ent => decide (e.n ≠ n)) h.nd
  refine ⟨⟨h.ok.all, h.ok.few, h.ok.docs, h.ok.pcs, ?_, ?_, fun x hx => h.ok.alb x (List.mem_filter.mp hx).1, h.ok.ever⟩, h.few, h.ev, h.pcs, hal, fun e he => h.ents e (List.mem_filter.mp he).1⟩
  · show ((S.al.filter fun x => decide (x.1 ≠ n)).map (·.1)).Nodup
    rw [hal, List.map_map]
    exact List.pairwise_map.mpr (hnd.imp fun z => z.1)
  · show ((S.al.filter fun x => decide (x.1 ≠ n)).map (·.2)).Nodup
    rw [hal, List.map_map]
    exact List.pairwise_map.mpr (hnd.imp fun z => z.2)
theorem Rel.seal {ws : List Str} {C : Hp} {S : HSt} {es : List Ent} {b c : Nat} (h : Rel ws C S es b c) (hc : c ≤ 18) (p : Addr) : Rel ws C (sealS S p) es b (c + 1) := by
  have hA := allM_seal S p
  have hal : (sealS S p).al = S.al := by
    unfold sealS
    split <;> rfl
  have hev : (sealS S p).ever = S.ever := by
    unfold sealS
    split <;> rfl
  have hpc : (sealS S p).pcs.length ≤ S.pcs.length + 1 := by
    unfold sealS
    split
    · omega
    · show (S.pcs ++ [_]).length ≤ _
      rw [List.length_append]
      exact Nat.le_refl _
  have hpcs := h.pcs
  refine ⟨⟨by rw [hA]; exact h.ok.all, by rw [hA]; exact h.ok.few, by rw [hA]; exact h.ok.docs, by omega, by rw [hal]; exact h.ok.al1, by rw [hal]; exact h.ok.al2, by rw [hal, hA, hev]; exact h.ok.alb, by rw [hev]; exact h.ok.ever⟩, by rw [hA]; exact h.few, by rw [hev]; exact h.ev, by omega, by rw [hal]; exact h.al, by rw [hA]; exact h.ents⟩
/-- the house, the dict of its documents, the draws, the pool -/
structure Bs (K : PySem.W.Frag) (ws : List Str) (H0 : Hp) (M0 : List Addr) (C H : Hp) (d hp th pa : Addr) (M : List Addr) (S : HSt) (kvs : List (Key × V)) : Prop where
  ex : Ex C H
  dr : Dr H d
  Cd : C d = none
  dM : d ∉ M
  house : HouseAt K (LW ws) C H hp M S
  hth : H th = some (.dK kvs)
  Cth : C th = none
  thM : th ∉ M
  pool : C pa = some (.lst (ws.map V.str))
  kp : Keep (d :: M0) H0 H
  nM : ∀ a ∈ M, a ∈ M0 ∨ H0 a = none
  nth : H0 th = none
section
variable {K : PySem.W.Frag} {ws : List Str} {H0 : Hp} {M0 : List Addr} {C H H' : Hp} {d hp th pa : Addr} {M : List Addr} {S : HSt} {kvs : List (Key × V)}
theorem HouseAt.on {L : List Str} (h : HouseAt K L C H hp M S) (k : ∀ a ∈ M, ∀ o, H a = some o → H' a = some o) : HouseAt K L C H' hp M S := by
  obtain ⟨dx, al, mdl, op, sl, kp, t, to, ts, rfl, hi⟩ := h
  exact ⟨dx, al, mdl, op, sl, kp, t, to, ts, rfl, k _ (by simp) _ hi.house, k _ (by simp) _ hi.alive, k _ (by simp) _ hi.made, k _ (by simp) _ hi.opn, k _ (by simp) _ hi.sld, hi.nd, hi.out, hi.ops, hi.opd, hi.pcs, hi.pcd, hi.mds⟩
theorem Bs.thd (h : Bs K ws H0 M0 C H d hp th pa M S kvs) : th ≠ d := by
  obtain ⟨ds, g1, _⟩ := h.dr
  rintro rfl
  rw [h.hth] at g1
  cases g1
theorem Bs.grow (h : Bs K ws H0 M0 C H d hp th pa M S kvs) (e : Ex H H') : Bs K ws H0 M0 C H' d hp th pa M S kvs :=
  ⟨h.ex.trans e, h.dr.ex e, h.Cd, h.dM, h.house.ex e, e _ _ h.hth, h.Cth, h.thM, h.pool, h.kp.ex e, h.nM, h.nth⟩
theorem Bs.gr {C2 : Hp} (h : Bs K ws H0 M0 C H d hp th pa M S kvs) (e : Ex C C2) (e2 : Ex C2 H) (n : ∀ a, C2 a ≠ C a → a ∉ d :: th :: M) : Bs K ws H0 M0 C2 H d hp th pa M S kvs := by
  have hn : ∀ a ∈ d :: th :: M, C2 a = C a := fun a ha => Classical.byContradiction fun z => n a z ha
  refine ⟨e2, h.dr, by rw [hn d (by simp)]; exact h.Cd, h.dM, ?_, h.hth, by rw [hn th (by simp)]; exact h.Cth, h.thM, e _ _ h.pool, h.kp, h.nM, h.nth⟩
  obtain ⟨dx, al, mdl, op, sl, kp, t, to, ts, rfl, hi⟩ := h.house
  exact ⟨dx, al, mdl, op, sl, kp, t, to, ts, rfl, hi.house, hi.alive, hi.made, hi.opn, hi.sld, hi.nd, fun a ha => by rw [hn a (List.mem_cons_of_mem _ (List.mem_cons_of_mem _ ha))]; exact hi.out a ha, Paired.mapP hi.ops fun _ _ q => e _ _ q, fun m hm => (hi.opd m hm).mono e, Paired.mapP hi.pcs fun _ _ ⟨q, z⟩ => ⟨q, e _ _ z⟩, fun x hx => (hi.pcd x hx).mono e, Paired.mapP hi.mds fun _ _ q => q.mono e⟩
/-- something drawn: what is new is C's as well -/
theorem Bs.draw (h : Bs K ws H0 M0 C H d hp th pa M S kvs) (e : Ex (del H d) H') (d' : Dr H' d) : Bs K ws H0 M0 (jn C H H') H' d hp th pa M S kvs := by
  have eC : Ex C H' := ex_del h.ex h.Cd e
  obtain ⟨ds, hds, _⟩ := id h.dr
  have hH : HouseAt K (LW ws) C H' hp M S := h.house.on fun a ha o ho => e _ _ (by rw [del_ne (fun z => h.dM (by rw [← z]; exact ha))]; exact ho)
  refine ⟨jn_to eC, d', by rw [jn_old (ns hds)]; exact h.Cd, h.dM, ?_, e _ _ (by rw [del_ne h.thd]; exact h.hth), by rw [jn_old (ns h.hth)]; exact h.Cth, h.thM, jn_ex h.ex _ _ h.pool, fun a o ha ho => e _ _ (by rw [del_ne (fun z => ha (by rw [z]; exact List.mem_cons_self))]; exact h.kp a o ha ho), h.nM, h.nth⟩
  obtain ⟨dx, al, mdl, op, sl, kp, t, to, ts, rfl, hi⟩ := hH
  have e2 : Ex C (jn C H H') := jn_ex h.ex
  exact ⟨dx, al, mdl, op, sl, kp, t, to, ts, rfl, hi.house, hi.alive, hi.made, hi.opn, hi.sld, hi.nd, fun a ha => by rw [jn_old (h.house.none a ha).2]; exact hi.out a ha, Paired.mapP hi.ops fun _ _ q => e2 _ _ q, fun m hm => (hi.opd m hm).mono e2, Paired.mapP hi.pcs fun _ _ ⟨q, z⟩ => ⟨q, e2 _ _ z⟩, fun x hx => (hi.pcd x hx).mono e2, Paired.mapP hi.mds fun _ _ q => q.mono e2⟩
/-- a deed -/
theorem Bs.did {C' : Hp} {M' : List Addr} {S' : HSt} (h : Bs K ws H0 M0 C H d hp th pa M S kvs) (eC : Ex C C') (eC' : Ex C' H') (hn : ∀ a, H a ≠ none → C' a = C a) (hK : Keep M H H') (hM : ∀ a ∈ M', a ∈ M ∨ H a = none) (hH : HouseAt K (LW ws) C' H' hp M' S') : Bs K ws H0 M0 C' H' d hp th pa M' S' kvs := by
  obtain ⟨ds, hds, hds2⟩ := id h.dr
  refine ⟨eC', ⟨ds, hK _ _ h.dM hds, hds2⟩, by rw [hn d (ns hds)]; exact h.Cd, fun z => ?_, hH, hK _ _ h.thM h.hth, by rw [hn th (ns h.hth)]; exact h.Cth, fun z => ?_, eC _ _ h.pool, fun a o ha ho => hK a o (fun z => ?_) (h.kp a o ha ho), fun a ha => ?_, h.nth⟩
  · rcases hM d z with y | y
    · exact h.dM y
    · exact ns hds y
  · rcases hM th z with y | y
    · exact h.thM y
    · exact ns h.hth y
  · rcases h.nM a z with y | y
    · exact ha (List.mem_cons_of_mem _ y)
    · rw [ho] at y
      cases y
  · rcases hM a ha with y | y
    · exact h.nM a y
    · by_cases c : a ∈ M0
      · exact .inl c
      · refine .inr ?_
        cases hq : H0 a with
        | none => rfl
        | some u =>
          by_cases c2 : a = d
          · rw [c2, hds] at y
            cases y
          · rw [h.kp a u (fun z => (List.mem_cons.mp z).elim c2 c) hq] at y
            cases y
/-- the dict written -/
theorem Bs.dput {kvs' : List (Key × V)} (h : Bs K ws H0 M0 C H d hp th pa M S kvs) : Bs K ws H0 M0 C (upd H th (.dK kvs')) d hp th pa M S kvs' := by
  refine ⟨h.ex.mut h.Cth, h.dr.upd h.thd, h.Cd, h.dM, h.house.on fun a ha o ho => by rw [upd_ne (fun z => h.thM (by rw [← z]; exact ha))]; exact ho, upd_same, h.Cth, h.thM, h.pool, fun a o ha ho => ?_, h.nM, h.nth⟩
  rw [upd_ne]
  · exact h.kp a o ha ho
  · rintro rfl
    rw [h.nth] at ho
    cases ho
theorem Bs.mono {kvs' : List (Key × V)} (h : Bs K ws H0 M0 C H d hp th pa M S kvs) (e : kvs = kvs') : Bs K ws H0 M0 C H d hp th pa M S kvs' := by rw [← e]; exact h
end
/-! ### documents by numbers, of a stand -/
def ddE (es : List Ent) (n : Nat) : Option Wd := (es.find? fun e => decide (e.n = n)).map fun e => fldW e.D
theorem dd_mem {es : List Ent} (hn : es.Pairwise fun a b => a.n ≠ b.n ∧ a.m ≠ b.m) {n : Nat} {W : Wd} : ddE es n = some W ↔ ∃ e ∈ es, e.n = n ∧ W = fldW e.D := by
  unfold ddE
  constructor
  · intro h
    obtain ⟨e, he, hW⟩ := Option.map_eq_some_iff.mp h
    exact ⟨e, List.mem_of_find?_eq_some he, by simpa using List.find?_some (p := fun e : Ent => decide (e.n = n)) he, hW.symm⟩
  · rintro ⟨e, he, hen, rfl⟩
    induction es with
    | nil => exact absurd he List.not_mem_nil
    | cons x r ih =>
      obtain ⟨h1, h2⟩ := List.pairwise_cons.mp hn
      rw [List.find?_cons]
      rcases List.mem_cons.mp he with z | z
      · rw [← z, hen, decide_eq_true rfl]
        rfl
      · have hx : ¬ x.n = n := fun c => (h1 e z).1 (c.trans hen.symm)
        rw [decide_eq_false hx]
        exact ih h2 z
theorem now_sd {K : PySem.W.Frag} {ws : List Str} {C G : Hp} {S : HSt} {es : List Ent} {b c : Nat} (h : Rel ws C S es b c) (pok : PoolOk ws) {s : Addr} {T : Tab} (hS : StandAt K (LW ws) G s (S.al.map (·.1)) T) (hp : ∀ f w, (T f w).Perm (conv (numOf S.al) (tabOf (allM S) f w))) : SdAt K (LW ws) G s (ddE es) T (S.al.map (·.1)) := by
  have hall := h.ok.all
  have hnd := h.nd
  have inj : ∀ m m2 n, numOf S.al m = some n → numOf S.al m2 = some n → m = m2 := fun m m2 n g1 g2 => by
    have q1 := (numOf_mem h.ok.al2).mp g1
    have q2 := (numOf_mem h.ok.al2).mp g2
    obtain ⟨i, hi1⟩ := List.getElem?_of_mem q1
    obtain ⟨j, hj1⟩ := List.getElem?_of_mem q2
    have hij : i = j := nd_at h.ok.al1 (x := n) (by rw [List.getElem?_map, hi1]; rfl) (by rw [List.getElem?_map, hj1]; rfl)
    subst hij
    rw [hi1] at hj1
    cases hj1
    rfl
  have at_m : ∀ m ds, (m, ds) ∈ allM S → (allM S)[m]? = some (m, ds) := fun m ds hm => by
    obtain ⟨i, hi⟩ := List.getElem?_of_mem hm
    have h1 : ((allM S).map (·.1))[i]? = some m := by rw [List.getElem?_map, hi]; rfl
    rw [hall] at h1
    obtain ⟨g1, g2⟩ := List.getElem?_eq_some_iff.mp h1
    rw [List.getElem_range] at g2
    rw [← g2]
    rw [← g2] at hi
    exact hi
  refine ⟨hS, ⟨fun f w => ?_, fun f w n ps => ?_, fun n W hW => ?_⟩, fun n => ?_, ?_, fun w hw => ?_⟩
  · exact ((hp f w).map (·.1)).nodup_iff.mpr (conv_nd inj (by rw [hall]; exact List.nodup_range) f w)
  · rw [(hp f w).mem_iff]
    unfold conv tabOf
    constructor
    · intro hx
      obtain ⟨y, hy, hy2⟩ := List.mem_filterMap.mp hx
      obtain ⟨n2, hn2, hn3⟩ := Option.map_eq_some_iff.mp hy2
      obtain ⟨z, hz, hz2⟩ := List.mem_filterMap.mp hy
      split at hz2
      · rename_i hw
        cases hz2
        cases hn3
        have q := (numOf_mem h.ok.al2).mp hn2
        rw [h.al] at q
        obtain ⟨e, he, hee⟩ := List.mem_map.mp q
        obtain ⟨_, _, ds, g3, g4⟩ := h.ents e he
        have hem : e.m = z.1 := (Prod.mk.inj hee).2
        have hen : e.n = n := (Prod.mk.inj hee).1
        have hz3 := at_m z.1 z.2 hz
        rw [hem, hz3] at g3
        cases g3
        rw [g4.fw f] at hw ⊢
        exact ⟨fldW e.D, (dd_mem hnd).mpr ⟨e, he, hen, rfl⟩, hw, rfl⟩
      · cases hz2
    · rintro ⟨W, hW, hw, rfl⟩
      obtain ⟨e, he, hen, rfl⟩ := (dd_mem hnd).mp hW
      obtain ⟨_, _, ds, g3, g4⟩ := h.ents e he
      refine List.mem_filterMap.mpr ⟨(e.m, posOf (fw ds f) w), List.mem_filterMap.mpr ⟨(e.m, ds), List.mem_of_getElem? g3, ?_⟩, ?_⟩
      · rw [if_pos (by rw [g4.fw f]; exact hw)]
      · have q : numOf S.al e.m = some n := (numOf_mem h.ok.al2).mpr (by rw [h.al, ← hen]; exact List.mem_map.mpr ⟨e, he, rfl⟩)
        rw [q, g4.fw f]
        rfl
  · obtain ⟨e, he, hen, rfl⟩ := (dd_mem hnd).mp hW
    have := (h.lt he).1
    have := h.ok.ever
    refine ⟨by omega, fun f => ?_⟩
    have := (fldW_in (h.ents e he).2.1 f).1
    omega
  · rw [h.al, List.map_map, List.mem_map]
    constructor
    · rintro ⟨e, he, hen⟩
      exact ⟨_, (dd_mem hnd).mpr ⟨e, he, hen, rfl⟩⟩
    · rintro ⟨W, hW⟩
      obtain ⟨e, he, hen, _⟩ := (dd_mem hnd).mp hW
      exact ⟨e, he, hen⟩
  · rw [List.length_append, pok.1]
    decide
  · rcases List.mem_append.mp hw with z | z
    · have := (nm_six z).2.1
      omega
    · have := (pok.2 w z).2.1
      omega
end Fc
/-! What the law does with the house: in short forms. -/
namespace Fc
open PySem PySem.Spec PyProof.Rows L2 Evl
theorem q_any {t tz : TS} {D : Ends} {σ : L2.St} {H : Hp} (P : L2.St → Hp → Prop) (rest : ∀ σ' H', P σ' H' → tz D σ' H') (k : (∀ σ' H', P σ' H' → tz D σ' H') → t { D with nx := tz D } σ H) : tSeq t tz D σ H := k rest
theorem es_len (es : List Ent) : (kvE es).length = es.length := List.length_map _
theorem es_at {es : List Ent} (hn : es.Pairwise fun a b => a.n ≠ b.n ∧ a.m ≠ b.m) {e : Ent} (he : e ∈ es) : valV (kvE es) (kN e.n) = some (.ref e.a) := by
  refine valV_mem ?_ (List.mem_map.mpr ⟨e, he, rfl⟩)
  rw [List.map_map]
  exact List.pairwise_map.mpr (hn.imp fun z y => z.1 (kN_inj y))
theorem es_in {es : List Ent} {x : Ent} : x ∈ esPut es x := by
  unfold esPut
  split
  · rename_i h
    obtain ⟨e, he, hx⟩ := List.any_eq_true.mp h
    exact List.mem_map.mpr ⟨e, he, if_pos (of_decide_eq_true hx)⟩
  · exact List.mem_append_right _ (List.mem_singleton.mpr rfl)
section
variable {K : PySem.W.Frag} {ws : List Str} {H0 : Hp} {M0 : List Addr} {C H : Hp} {d hp th pa : Addr} {M : List Addr} {S : HSt} {kvs : List (Key × V)} {es : List Ent} {b c : Nat} {σ : L2.St} {D : Ends} {tz : TS}
theorem et_neD {i : Nat} {a : Addr} {kvs : List (Key × V)} (s : σ[i]? = some (some (.ref a))) (h : H a = some (.dK kvs)) : EvT (tTest (tOp rNeDn (tVar i) tDNewK)) σ H (!kvs.isEmpty) := et_test fun H1 e Q q => ⟨_, s, fun p hp => ⟨a, p, kvs, rfl, rfl, (Ex.new hp) _ _ (e _ _ h), upd_same, q _ (Ex.new hp)⟩⟩
theorem et_eqD {i : Nat} {a : Addr} {kvs : List (Key × V)} (s : σ[i]? = some (some (.ref a))) (h : H a = some (.dK kvs)) : EvT (tTest (tOp rEqDn (tVar i) tDNewK)) σ H kvs.isEmpty := et_test fun H1 e Q q => ⟨_, s, fun p hp => ⟨a, p, kvs, rfl, rfl, (Ex.new hp) _ _ (e _ _ h), upd_same, q _ (Ex.new hp)⟩⟩
theorem rd_popB {i : Nat} (hb : Bs K ws H0 M0 C H d hp th pa M S kvs) (s : σ[i]? = some (some (.ref d))) (Q : VK) (q : ∀ (n : Nat) H' C', Bs K ws H0 M0 C' H' d hp th pa M S kvs → Ex C C' → Q (.int (n : Int)) H') : tCall sp_law_pop [] E0 (tCons (tVar i) tNil) σ H Q :=
  rd_pop s hb.dr Q fun v H' ⟨n, hv, _, e, d'⟩ => by
    subst hv
    exact q n H' _ (hb.draw e d') (jn_ex hb.ex)
theorem rd_doc {i j : Nat} (hb : Bs K ws H0 M0 C H d hp th pa M S kvs) (pok : PoolOk ws) (s : σ[i]? = some (some (.ref d))) (s2 : σ[j]? = some (some (.ref pa))) (Q : VK) (q : ∀ (p : Addr) (Dd : List (Str × List Str)) H' C', Bs K ws H0 M0 C' H' d hp th pa M S kvs → Ex C C' → FldAt C' p Dd → DocF ws Dd → Q (.ref p) H') :
    tCall sp_law_document [] E0 (tCons (tVar i) (tCons (tVar j) tNil)) σ H Q :=
  ⟨_, s, _, s2, d, pa, ws, rfl, hb.dr, hb.ex _ _ hb.pool, pok, fun v H' e d' ⟨p, Dd, hv, hp, hf, hD⟩ => by
    subst hv
    exact q p Dd H' _ (hb.draw e d') (jn_ex hb.ex) (hf.mono fr_jn) hD⟩
theorem rd_filed {i : Nat} {tf : TE} {p : Addr} {Dd : List (Str × List Str)} (hb : Bs K ws H0 M0 C H d hp th pa M S kvs) (pok : PoolOk ws) (s : σ[i]? = some (some (.ref d))) (hf : Ev tf σ H (.ref p)) (hF : FldAt C p Dd) (hD : DocF ws Dd) (Q : VK) (q : ∀ (l : Addr) (ds : Doc) H' C', Bs K ws H0 M0 C' H' d hp th pa M S kvs → Ex C C' → DocAt C' l ds → Filed ws Dd ds → Q (.ref l) H') :
    tCall sp_law_filed [] E0 (tCons (tVar i) (tCons tf tNil)) σ H Q :=
  ⟨_, s, hf H (Ex.refl _) _ fun H1 e1 => by
    have hb1 := hb.grow e1
    refine ⟨d, p, ws, Dd, rfl, hb1.dr, hF.mono (fun a o ho => ?_), hD, pok.2, fun v H' e d' ⟨l, ds, hv, hl, hdoc, hfi⟩ => ?_⟩
    · rw [del_ne (own_ne ho hb1.Cd)]
      exact hb1.ex _ _ ho
    · subst hv
      exact q l ds H' _ (hb1.draw e d') (jn_ex hb1.ex) (hdoc.mono fr_jn) hfi⟩
theorem s_put {i j k2 f : Nat} {p : Addr} {Dd : List (Str × List Str)} (hb : Bs K ws H0 M0 C H d hp th pa M S (kvE es)) (hr : Rel ws C S es b c) (pok : PoolOk ws) (hbb : b ≤ 30) (s0 : σ[i]? = some (some (.ref d))) (s1 : σ[j]? = some (some (.ref hp))) (s2 : σ[k2]? = some (some (.ref th))) (s3 : σ[f]? = some (some (.ref p))) (hF : FldAt C p Dd) (hD : DocF ws Dd)
    (k : ∀ H' C' M' S' es', Bs K ws H0 M0 C' H' d hp th pa M' S' (kvE es') → Rel ws C' S' es' (b + 1) c → Ex C C' → D.nx σ H') :
    sDPut (tVar k2) (tMeth (adHouse K) "put" (sp_House_put K) [] E0 (tVar j) (tCons (tCall sp_law_filed [] E0 (tCons (tVar i) (tCons (tVar f) tNil))) tNil)) (tVar f) D σ H := by
  obtain ⟨dx, al, mdl, op, sl, kp, t, to, ts, hM, hi⟩ := id hb.house
  refine ⟨_, s3, _, s2, _, s1, hp, dx, _, rfl, hi.house, rfl, rd_filed hb pok s0 (ev_var s3) hF hD _ fun l ds H1 C1 hb1 e1 hdoc hfi => ?_⟩
  have hr1 := hr.C e1
  have hfew := hr.few
  have hev := hr.ev
  refine ⟨LW ws, C1, hp, l, M, S, ds, rfl, hb1.ex, hb1.house, by omega, hr.alen, hdoc, hfi.ok, fun H2 C2 M2 S2 eC eC2 hn hK hM2 hH ⟨d1, d2, hS⟩ => ?_⟩
  have hb2 := hb1.did eC eC2 hn hK hM2 hH
  refine ⟨th, _, rfl, DPut.k (k := kN S.ever) hb2.hth (sizeLine_lt (by rw [es_len]; have := hr.len; omega)), ?_⟩
  have e9 : putK (kvE es) (kN S.ever) (.ref p) = kvE (esPut es ⟨S.ever, (allM S).length, p, Dd⟩) := es_kv es ⟨S.ever, (allM S).length, p, Dd⟩
  rw [e9]
  refine k _ _ _ _ _ hb2.dput ?_ (e1.trans eC)
  rw [hS]
  exact (hr1.C eC).add hbb (hF.mono (e1.trans eC)) hD hfi (Nat.le_succ _) (by omega) (Nat.lt_succ_self _)
theorem q_put {i j k2 f : Nat} {p : Addr} {Dd : List (Str × List Str)} (hb : Bs K ws H0 M0 C H d hp th pa M S (kvE es)) (hr : Rel ws C S es b c) (pok : PoolOk ws) (hbb : b ≤ 30) (s0 : σ[i]? = some (some (.ref d))) (s1 : σ[j]? = some (some (.ref hp))) (s2 : σ[k2]? = some (some (.ref th))) (s3 : σ[f]? = some (some (.ref p))) (hF : FldAt C p Dd) (hD : DocF ws Dd)
    (k : ∀ H' C' M' S' es', Bs K ws H0 M0 C' H' d hp th pa M' S' (kvE es') → Rel ws C' S' es' (b + 1) c → Ex C C' → tz D σ H') :
    tSeq (sDPut (tVar k2) (tMeth (adHouse K) "put" (sp_House_put K) [] E0 (tVar j) (tCons (tCall sp_law_filed [] E0 (tCons (tVar i) (tCons (tVar f) tNil))) tNil)) (tVar f)) tz D σ H :=
  s_put (D := { D with nx := tz D }) hb hr pok hbb s0 s1 s2 s3 hF hD k
theorem s_seal {j : Nat} (hb : Bs K ws H0 M0 C H d hp th pa M S kvs) (hr : Rel ws C S es b c) (pok : PoolOk ws) (hc : c ≤ 18) (s1 : σ[j]? = some (some (.ref hp))) (k : ∀ H' C' M' S', Bs K ws H0 M0 C' H' d hp th pa M' S' kvs → Rel ws C' S' es b (c + 1) → Ex C C' → D.nx σ H') :
    tDrop (tMeth (adHouse K) "seal" (sp_House_seal K) [] E0 (tVar j) tNil) D σ H := by
  obtain ⟨dx, al, mdl, op, sl, kp, t, to, ts, hM, hi⟩ := id hb.house
  refine ⟨_, s1, hp, dx, _, rfl, hi.house, rfl, LW ws, C, hp, M, S, rfl, by rw [List.length_append, pok.1]; decide, hb.ex, hb.house, hr.ok, fun H2 C2 M2 S2 eC eC2 hn hK hM2 hH ⟨p, hS⟩ => ?_⟩
  refine k _ _ _ _ (hb.did eC eC2 hn hK hM2 hH) ?_ eC
  rw [hS]
  exact (hr.C eC).seal hc p
theorem s_take {j k2 f : Nat} {e : Ent} (hb : Bs K ws H0 M0 C H d hp th pa M S (kvE es)) (hr : Rel ws C S es b c) (s1 : σ[j]? = some (some (.ref hp))) (s2 : σ[k2]? = some (some (.ref th))) (s3 : σ[f]? = some (some (.int (e.n : Int)))) (he : e ∈ es) (k : ∀ H' C' M' S' es', Bs K ws H0 M0 C' H' d hp th pa M' S' (kvE es') → Rel ws C' S' es' b c → Ex C C' → D.nx σ H') :
    tSeq (tDrop (tMeth (adHouse K) "take" (sp_House_take K) [] E0 (tVar j) (tCons (tVar f) tNil))) (tDrop (tDPop1 (tVar k2) (tVar f))) D σ H := by
  obtain ⟨dx, al, mdl, op, sl, kp, t, to, ts, hM, hi⟩ := id hb.house
  refine ⟨_, s1, hp, dx, _, rfl, hi.house, rfl, _, s3, LW ws, C, hp, M, S, e.n, e.m, rfl, hb.ex, hb.house, by rw [hr.al]; exact List.mem_map.mpr ⟨e, he, rfl⟩, fun H2 C2 M2 S2 eC eC2 hn hK hM2 hH hS => ?_⟩
  have hb2 := hb.did eC eC2 hn hK hM2 hH
  refine ⟨_, s2, th, rfl, .inl ⟨_, .inl hb2.hth⟩, _, s3, kvE es, kN e.n, .ref e.a, hb2.hth, rfl, es_at hr.nd he, ?_⟩
  rw [es_drop]
  refine k _ _ _ _ _ hb2.dput ?_ eC
  rw [hS]
  exact (hr.C eC).take e.n
theorem s_change {i j f : Nat} {e : Ent} {tf : TE} {p : Addr} {Dd : List (Str × List Str)} (hb : Bs K ws H0 M0 C H d hp th pa M S kvs) (hr : Rel ws C S es b c) (pok : PoolOk ws) (hbb : b ≤ 30) (s0 : σ[i]? = some (some (.ref d))) (s1 : σ[j]? = some (some (.ref hp))) (s3 : σ[f]? = some (some (.int (e.n : Int)))) (he : e ∈ es) (hf : Ev tf σ H (.ref p)) (hF : FldAt C p Dd) (hD : DocF ws Dd)
    (k : ∀ H' C' M' S', Bs K ws H0 M0 C' H' d hp th pa M' S' kvs → Rel ws C' S' (esPut es ⟨e.n, (allM S).length, p, Dd⟩) (b + 1) c → Ex C C' → D.nx σ H') :
    tDrop (tMeth (adHouse K) "change" (sp_House_change K) [] E0 (tVar j) (tCons (tVar f) (tCons (tCall sp_law_filed [] E0 (tCons (tVar i) (tCons tf tNil))) tNil))) D σ H := by
  obtain ⟨dx, al, mdl, op, sl, kp, t, to, ts, hM, hi⟩ := id hb.house
  refine ⟨_, s1, hp, dx, _, rfl, hi.house, rfl, _, s3, rd_filed hb pok s0 hf hF hD _ fun l ds H1 C1 hb1 e1 hdoc hfi => ?_⟩
  have hr1 := hr.C e1
  have hfew := hr.few
  have hev := hr.ev
  refine ⟨LW ws, C1, hp, l, M, S, ds, e.n, e.m, rfl, hb1.ex, hb1.house, by omega, hr.alen, hdoc, hfi.ok, by rw [hr.al]; exact List.mem_map.mpr ⟨e, he, rfl⟩, fun H2 C2 M2 S2 eC eC2 hn hK hM2 hH ⟨d1, d2, hS⟩ => ?_⟩
  refine k _ _ _ _ (hb1.did eC eC2 hn hK hM2 hH) ?_ (e1.trans eC)
  rw [hS]
  exact (hr1.C eC).add (ev := S.ever) hbb (hF.mono (e1.trans eC)) hD hfi (Nat.le_refl _) (by omega) (hr.lt he).1
theorem q_change {i j f : Nat} {e : Ent} {tf : TE} {p : Addr} {Dd : List (Str × List Str)} (hb : Bs K ws H0 M0 C H d hp th pa M S kvs) (hr : Rel ws C S es b c) (pok : PoolOk ws) (hbb : b ≤ 30) (s0 : σ[i]? = some (some (.ref d))) (s1 : σ[j]? = some (some (.ref hp))) (s3 : σ[f]? = some (some (.int (e.n : Int)))) (he : e ∈ es) (hf : Ev tf σ H (.ref p)) (hF : FldAt C p Dd) (hD : DocF ws Dd)
    (k : ∀ H' C' M' S', Bs K ws H0 M0 C' H' d hp th pa M' S' kvs → Rel ws C' S' (esPut es ⟨e.n, (allM S).length, p, Dd⟩) (b + 1) c → Ex C C' → tz D σ H') :
    tSeq (tDrop (tMeth (adHouse K) "change" (sp_House_change K) [] E0 (tVar j) (tCons (tVar f) (tCons (tCall sp_law_filed [] E0 (tCons (tVar i) (tCons tf tNil))) tNil)))) tz D σ H :=
  s_change (D := { D with nx := tz D }) hb hr pok hbb s0 s1 s3 he hf hF hD k
/-- one of the numbers of a dict -/
theorem rd_key {a : Addr} {i j n : Nat} {q : Int} {r : List V → Hp → VK → Prop} (s : σ[i]? = some (some (.ref a))) (sj : σ[j]? = some (some (.int (n : Int)))) (h : H a = some (.dK (kvE es))) (hne : es ≠ []) (cq : CDiv (n : Int) q)
    (hr : ∀ H1, Ex H H1 → ∀ Q : VK, (∀ (ys : List Int) p, ys.Perm (es.map fun e => (e.n : Int)) → H1 p = none → Q (.ref p) (upd H1 p (.lst (ys.map V.int)))) → r [.ref a] H1 Q) (Q : VK) (k : ∀ e H1, e ∈ es → Ex H H1 → Q (.int (e.n : Int)) H1) :
    tOp (rIxL K) (tCB r (tCons (tVar i) tNil)) (tOp (rI (fun _ j => 0 < j) fun i j => .int (i % j)) (tOp (rI CDiv fun i j => .int (i / j)) (tVar j) (tC (.int q))) (tCB (fun xs H Q => ∃ a kvs, xs = [V.ref a] ∧ H a = some (.dK kvs) ∧ Q (.int kvs.length) H) (tCons (tVar i) tNil))) σ H Q := by
  refine ⟨_, s, hr H (Ex.refl _) _ fun ys p pm hp => ?_⟩
  have e1 : Ex H (upd H p (.lst (ys.map V.int))) := Ex.new hp
  have hl : upd H p (.lst (ys.map V.int)) p = some (.lst (ys.map V.int)) := upd_same
  generalize upd H p (.lst (ys.map V.int)) = H1 at e1 hl ⊢
  have hpos : 0 < es.length := List.length_pos_iff.mpr hne
  have hyl : ys.length = es.length := by rw [pm.length_eq, List.length_map]
  obtain ⟨x, hx, hx2⟩ : ∃ x : Nat, (n : Int) / q % (es.length : Int) = (x : Int) ∧ x < es.length := by
    have h1 : 0 ≤ (n : Int) / q % (es.length : Int) := Int.emod_nonneg _ (by omega)
    have h2 : (n : Int) / q % (es.length : Int) < (es.length : Int) := Int.emod_lt_of_pos _ (by omega)
    exact ⟨((n : Int) / q % (es.length : Int)).toNat, by omega, by omega⟩
  have hat := List.getElem?_eq_getElem (l := ys) (i := x) (by omega)
  have hmem := List.getElem_mem (l := ys) (n := x) (by omega)
  generalize ys[x]'(by omega) = y at hat hmem
  obtain ⟨e, he, rfl⟩ := List.mem_map.mp (pm.mem_iff.mp hmem)
  have hlen : Ev (tCB (fun xs H Q => ∃ a kvs, xs = [V.ref a] ∧ H a = some (.dK kvs) ∧ Q (.int kvs.length) H) (tCons (tVar i) tNil)) σ H1 (.int (es.length : Int)) := by
    have q9 := ev_lenD (ta := tVar i) (σ := σ) (ev_var s) (e1 _ _ h)
    rw [es_len] at q9
    exact q9
  have hix := ev_op (r := rI (fun _ j => 0 < j) fun i j => V.int (i % j)) (ev_op (r := rI CDiv fun i j => V.int (i / j)) (ev_var sj) (ev_c (v := .int q)) (rv_I cq)) hlen (rv_I (by omega))
  rw [hx] at hix
  refine hix H1 (Ex.refl _) _ fun H2 e2 => ⟨p, _, _, _, rfl, rfl, sq_of (e2 _ _ hl), atI_nat (by rw [List.getElem?_map, hat]; rfl), k e H2 he (e1.trans e2)⟩
end
end Fc
/-! The law's house. -/
namespace Fc
open PySem PySem.Spec PyProof.Rows L2 Evl
def sp_law_house (K : PySem.W.Frag) : Sp := fun vs H Q _ => ∃ (d : Addr) (most : Nat), vs = [.ref d, .int (most : Int)] ∧ Dr H d ∧ most ≤ 10 ∧
  ∀ (t : Addr) (H' C : Hp) (ws : List Str) (hp th pa : Addr) (M : List Addr) (S : HSt) (es : List Ent), H' t = some (.tup [.ref hp, .ref th, .ref pa]) → Bs K ws H [] C H' d hp th pa M S (kvE es) → PoolOk ws → Rel ws C S es (most + 1) most → Q (.ref t) H'
theorem sc_law_house : FnScope ["_law_draws_here", "_law_most", "_law_pool_here", "_law_house_here", "_law_there", "_law_k", "_law_fields", "_law_number", "_law_gone", "_law_one"] ["_law_draws_here", "_law_most"] (defScope s_law_house) := ⟨rfl, rfl, rfl, by decide +kernel, rfl, by decide +kernel, by decide +kernel⟩
theorem ok_law_house {P : Program} {w : World} {K : PySem.W.Frag} {mg : Str → Option Value} {base : Heap} (G : Gd K mg "_law_house" s_law_house) (T : Tx K mg) (O_law_pool : OkF P w K mg base 2 "_law_pool" ["_law_draws_here"] sp_law_pool) (O_House_init : OkC P w K mg base 1 (adHouse K) "House" ["self"] (sp_House_init K)) (O_law_pop : OkF P w K mg base 1 "_law_pop" ["_law_draws_here"] sp_law_pop) (O_law_document : OkF P w K mg base 3 "_law_document" ["_law_draws_here", "_law_pool_here"] sp_law_document) (O_House_put : OkM P w K mg base 3 (adHouse K) "put" ["self", "document"] (sp_House_put K)) (O_law_filed : OkF P w K mg base 3 "_law_filed" ["_law_draws_here", "_law_fields"] sp_law_filed) (O_House_seal : OkM P w K mg base 6 (adHouse K) "seal" ["self"] (sp_House_seal K)) (O_House_take : OkM P w K mg base 2 (adHouse K) "take" ["self", "number"] (sp_House_take K)) (O_House_change : OkM P w K mg base 3 (adHouse K) "change" ["self", "number", "document"] (sp_House_change K)) : OkF P w K mg base 7 "_law_house" ["_law_draws_here", "_law_most"] (sp_law_house K) := by
  refine G.ok (k := 6) sc_law_house (fun _ _ _ _ _ _ us hl => match us, hl with | [_, _], _ => rfl) (fun vs H Q E h => ?_) (fun f cdv A outer s H vs Q E hr h => ?_)
  · unfold sp_law_house at h
    repeat (first | (obtain ⟨rfl, h⟩ := h; rfl) | (obtain ⟨_, h⟩ := h))
  have hu := hu_of hr
  refine ⟨_, (pss_cons (psv 2 sc_law_house.nd (pe_fn O_law_pool (hr.mono (by decide)) (pa_cons (pv 0) pa_nil)))
      (pss_cons (psv 3 sc_law_house.nd (pe_mk0 O_House_init (hr.mono (by decide))))
      (pss_cons (psv 4 sc_law_house.nd pe_dnewK)
      (pss_cons (ps_for PassesOwn.never rfl (pi_range1 rfl T.n_range (pa_cons (pe_op op_mod (pe_fn O_law_pop (hr.mono (by decide)) (pa_cons (pv 0) pa_nil)) (pe_op op_add (pv 1) pe_int)) pa_nil)) (pgv 5 sc_law_house.nd)
        (pss_cons (psv 6 sc_law_house.nd (pe_fn O_law_document (hr.mono (by decide)) (pa_cons (pv 0) (pa_cons (pv 2) pa_nil))))
        (pss_cons (ps_dput hu (pv 4) (pe_mt O_House_put (hr.mono (by decide)) T.cHouse (pv 3) (pa_cons (pe_fn O_law_filed (hr.mono (by decide)) (pa_cons (pv 0) (pa_cons (pv 6) pa_nil))) pa_nil)) (pv 6) rfl)
        (pss_one (ps_if (pt_cmpR op_eq (pe_op op_mod (pe_fn O_law_pop (hr.mono (by decide)) (pa_cons (pv 0) pa_nil)) pe_int) pe_int (nomark _)) (pss_one (ps_expr (pe_mt0 O_House_seal (hr.mono (by decide)) T.cHouse (pv 3)))) pss_nil)))))
      (pss_cons (psv 7 sc_law_house.nd (pe_fn O_law_pop (hr.mono (by decide)) (pa_cons (pv 0) pa_nil)))
      (pss_cons (ps_if (PW.pt (pw_and (pt_cmpR op_eq (pe_op op_mod (pv 7) pe_int) pe_int (nomark _)) (pw_and1 (pt_cmpR (op_neDn hr.units0) (pv 4) pe_dnewK (nomark _))))) (pss_cons (psv 8 sc_law_house.nd (pe_ix (ixlK K) (pe_callB (id := "sorted") (call_sortedDI rfl) rfl T.n_sorted (by decide +kernel) (pa_cons (pv 4) pa_nil)) (pe_op op_mod (pe_op op_fdiv (pv 7) pe_int) (pe_callB (id := "len") call_lenD rfl T.n_len PySem.boot_len (pa_cons (pv 4) pa_nil))) (fun _ _ => rfl)))
        (pss_cons (ps_expr (pe_mt O_House_take (hr.mono (by decide)) T.cHouse (pv 3) (pa_cons (pv 8) pa_nil)))
        (pss_one (ps_expr (pe_dpop1 (pv 4) (pv 8) (M1.of rfl)))))) pss_nil)
      (pss_cons (psv 7 sc_law_house.nd (pe_fn O_law_pop (hr.mono (by decide)) (pa_cons (pv 0) pa_nil)))
      (pss_cons (ps_if (PW.pt (pw_and (pt_cmpR op_eq (pe_op op_mod (pv 7) pe_int) pe_int (nomark _)) (pw_and1 (pt_cmpR (op_neDn hr.units0) (pv 4) pe_dnewK (nomark _))))) (pss_cons (psv 9 sc_law_house.nd (pe_ix (ixlK K) (pe_callB (id := "sorted") (call_sortedDI rfl) rfl T.n_sorted (by decide +kernel) (pa_cons (pv 4) pa_nil)) (pe_op op_mod (pe_op op_fdiv (pv 7) pe_int) (pe_callB (id := "len") call_lenD rfl T.n_len PySem.boot_len (pa_cons (pv 4) pa_nil))) (fun _ _ => rfl)))
        (pss_cons (ps_dput hu (pv 4) (pv 9) (pe_fn O_law_document (hr.mono (by decide)) (pa_cons (pv 0) (pa_cons (pv 2) pa_nil))) rfl)
        (pss_one (ps_expr (pe_mt O_House_change (hr.mono (by decide)) T.cHouse (pv 3) (pa_cons (pv 9) (pa_cons (pe_fn O_law_filed (hr.mono (by decide)) (pa_cons (pv 0) (pa_cons (pe_dget hu (pv 4) (pv 9) (fun _ _ => rfl)) pa_nil))) pa_nil))))))) pss_nil)
      (pss_one (ps_ret (pe_tup (pa_cons (pv 3) (pa_cons (pv 4) (pa_cons (pv 2) pa_nil)))))))))))))), ?_⟩
  obtain ⟨d, most, rfl, hd, hmo, k⟩ := h
  obtain ⟨ds0, hds0, _⟩ := id hd
  refine q_asgQ (C := fun v H1 => ∃ p ws, v = .ref p ∧ PoolOk ws ∧ H p = none ∧ fr H H1 p = some (.lst (ws.map V.str)) ∧ Ex (del H d) H1 ∧ Dr H1 d) (fun Q1 q1 => ⟨_, rfl, d, rfl, hd, fun v H1 e1 d1 ⟨p, ws, hv, hok, hp, hf⟩ => q1 _ _ ⟨p, ws, hv, hok, hp, hf, e1, d1⟩⟩) fun v H1 ⟨pa, ws, hv, pok, hpa, hpl, e1, d1⟩ => ?_
  subst hv
  refine q_asgQ (C := fun v H2 => ∃ hp M, v = .ref hp ∧ Ex H1 H2 ∧ (∀ a ∈ M, H1 a = none) ∧ ∀ L C, Ex C H1 → HouseAt K L C H2 hp M S0) (fun Q2 q2 => fun x xd hx hxd hne => ⟨H1, x, xd, rfl, (Ex.new hxd).trans (Ex.new (by rw [upd_ne hne.symm]; exact hx)), hx, upd_same, fun H2 M e2 hM hH => ⟨rfl, q2 _ _ ⟨x, M, rfl, e2, hM, hH⟩⟩⟩) fun v H2 ⟨hp, M0, hv, e2, hM, hH⟩ => ?_
  subst hv
  refine fun th hth => ?_
  have en : Ex H2 (upd H2 th (.dK [])) := Ex.new hth
  have hfd : fr H H1 d = none := by
    unfold fr
    rw [hds0]
  have b0 : Bs K ws H [] (fr H H1) (upd H2 th (.dK [])) d hp th pa M0 S0 (kvE []) :=
    ⟨(fr_ex.trans e2).trans en, d1.ex (e2.trans en), hfd, fun z => (by obtain ⟨ds, g1, _⟩ := d1; rw [hM d z] at g1; cases g1), (hH (LW ws) _ fr_ex).ex en, upd_same, fresh_back (fr_ex.trans e2) hth, fun z => ((hH (LW ws) (fr H H1) fr_ex).none th z).2 hth, hpl,
      fun a o ha ho => (e2.trans en) _ _ (e1 _ _ (by rw [del_ne (fun z => ha (by rw [z]; exact List.mem_cons_self))]; exact ho)), fun a ha => .inr (fresh_moved e1 d1 (hM a ha)), fresh_moved e1 d1 (fresh_back e2 hth)⟩
  generalize upd H2 th (.dK []) = H3 at b0 ⊢
  refine s_forRQ (D := { nx := _, rt := _ }) (P := fun v H4 => ∃ (c : Nat) (C : Hp), v = .int (c : Int) ∧ c ≤ most ∧ Bs K ws H [] C H4 d hp th pa M0 S0 (kvE [])) (fun Q4 q4 => op_q2 (P := fun v H4 => ∃ (n : Nat) (C : Hp), v = .int (n : Int) ∧ Bs K ws H [] C H4 d hp th pa M0 S0 (kvE [])) (fun Q5 q5 => rd_popB b0 rfl _ fun n H4 C4 b4 _ => q5 _ _ ⟨n, C4, rfl, b4⟩) fun v H4 ⟨n, C4, hv, b4⟩ => ?inner) fun v H4 ⟨c, C4, hv, hc, b4⟩ => ?main
  case inner =>
    subst hv
    refine (ev_op (σ := [some (.ref d), some (.int (most : Int)), some (.ref pa), some (.ref hp), some (.ref th), none, none, none, none, none]) (z := .int ((most : Int) + 1)) (r := rI0 fun i j => .int (i + j)) (ta := tVar 1) (tb := tC (.int 1)) (ev_var rfl) ev_c rv_I0) H4 (Ex.refl _) _ fun H5 e5 => ⟨_, _, rfl, rfl, (by show (0 : Int) < (most : Int) + 1; omega), q4 _ _ ⟨n % (most + 1), C4, congrArg V.int (by simp), by have := Nat.mod_lt n (show 0 < most + 1 by omega); omega, b4.grow e5⟩⟩
  subst hv
  refine ⟨c, rfl, by omega, fun i σ H' => ∃ (y5 y6 : Option V) (C : Hp) (M : List Addr) (S : HSt) (es : List Ent), σ = [some (.ref d), some (.int (most : Int)), some (.ref pa), some (.ref hp), some (.ref th), y5, y6, none, none, none] ∧ Bs K ws H [] C H' d hp th pa M S (kvE es) ∧ Rel ws C S es i i, ⟨_, _, _, _, _, [], rfl, b4, Rel.zero ws _⟩, ?_, ?_⟩
  · rintro i σ H5 hi ⟨y5, y6, C5, M5, S5, es5, rfl, b5, r5⟩
    refine q_asgQ (C := fun v H6 => ∃ (p : Addr) (Dd : List (Str × List Str)) (C6 : Hp), v = .ref p ∧ Bs K ws H [] C6 H6 d hp th pa M5 S5 (kvE es5) ∧ Ex C5 C6 ∧ FldAt C6 p Dd ∧ DocF ws Dd) (fun Q6 q6 => rd_doc b5 pok rfl rfl _ fun p Dd H6 C6 b6 e6 hF hD => q6 _ _ ⟨p, Dd, C6, rfl, b6, e6, hF, hD⟩) fun v H6 ⟨p, Dd, C6, hv, b6, e6, hF, hD⟩ => ?_
    subst hv
    refine q_put b6 (r5.C e6) pok (by omega) rfl rfl rfl rfl hF hD fun H7 C7 M7 S7 es7 b7 r7 _ => ?_
    refine s_ifQ (P := fun _ H8 => ∃ C8, Bs K ws H [] C8 H8 d hp th pa M7 S7 (kvE es7) ∧ Ex C7 C8) (fun Q8 q8 => ?_) (fun H8 ⟨C8, b8, e8⟩ => ?_) (fun H8 ⟨C8, b8, e8⟩ => ?_)
    · refine et_opQ (P := fun v H8 => ∃ (m : Int) (C8 : Hp), v = .int m ∧ Bs K ws H [] C8 H8 d hp th pa M7 S7 (kvE es7) ∧ Ex C7 C8) (fun Q9 q9 => op_q (P := fun v H8 => ∃ (n : Nat) (C8 : Hp), v = .int (n : Int) ∧ Bs K ws H [] C8 H8 d hp th pa M7 S7 (kvE es7) ∧ Ex C7 C8) (fun Q5 q5 => rd_popB b7 rfl _ fun n H8 C8 b8 e8 => q5 _ _ ⟨n, C8, rfl, b8, e8⟩) fun v H8 ⟨n, C8, hv, b8, e8⟩ => ?_) fun v H8 ⟨m, C8, hv, b8, e8⟩ => ?_
      · subst hv
        exact ⟨_, _, rfl, rfl, (by show (0 : Int) < 4; decide), q9 _ _ ⟨_, C8, rfl, b8, e8⟩⟩
      · subst hv
        exact ⟨rfl, _, rfl, q8 _ _ ⟨C8, b8, e8⟩⟩
    · refine s_seal b8 (r7.C e8) pok (by omega) rfl fun H9 C9 M9 S9 b9 r9 _ => ⟨_, _, _, _, _, _, rfl, b9, r9⟩
    · exact ⟨_, _, _, _, _, _, rfl, b8, (r7.C e8).up (Nat.le_refl _) (Nat.le_succ _)⟩
  · rintro σ H5 ⟨y5, y6, C5, M5, S5, es5, rfl, b5, r5⟩
    have r5 := r5.up hc hc
    -- one taken
    refine q_asgQ (C := fun v H6 => ∃ (n : Nat) (C6 : Hp), v = .int (n : Int) ∧ Bs K ws H [] C6 H6 d hp th pa M5 S5 (kvE es5) ∧ Ex C5 C6) (fun Q6 q6 => rd_popB b5 rfl _ fun n H6 C6 b6 e6 => q6 _ _ ⟨n, C6, rfl, b6, e6⟩) fun v H6 ⟨n, C6, hv, b6, e6⟩ => ?_
    subst hv
    have r6 := r5.C e6
    refine q_any (P := fun σ' H' => ∃ (y7 y8 : Option V) (C : Hp) (M : List Addr) (S : HSt) (es : List Ent), σ' = [some (.ref d), some (.int (most : Int)), some (.ref pa), some (.ref hp), some (.ref th), y5, y6, y7, y8, none] ∧ Bs K ws H [] C H' d hp th pa M S (kvE es) ∧ Rel ws C S es most most) ?_ fun rest => ?_
    · rintro σ H7 ⟨y7, y8, C7, M7, S7, es7, rfl, b7, r7⟩
      -- one changed
      refine q_asgQ (C := fun v H8 => ∃ (n : Nat) (C8 : Hp), v = .int (n : Int) ∧ Bs K ws H [] C8 H8 d hp th pa M7 S7 (kvE es7) ∧ Ex C7 C8) (fun Q8 q8 => rd_popB b7 rfl _ fun n H8 C8 b8 e8 => q8 _ _ ⟨n, C8, rfl, b8, e8⟩) fun v H8 ⟨n8, C8, hv, b8, e8⟩ => ?_
      subst hv
      have r8 := r7.C e8
      refine q_any (P := fun σ' H' => ∃ (y7 y9 : Option V) (C : Hp) (M : List Addr) (S : HSt) (es : List Ent), σ' = [some (.ref d), some (.int (most : Int)), some (.ref pa), some (.ref hp), some (.ref th), y5, y6, y7, y8, y9] ∧ Bs K ws H [] C H' d hp th pa M S (kvE es) ∧ Rel ws C S es (most + 1) most) ?_ fun rest2 => ?_
      · rintro σ H9 ⟨y7, y9, C9, M9, S9, es9, rfl, b9, r9⟩
        exact s_retU (xs := [.ref hp, .ref th, .ref pa]) (eu_tup (ea_cons (ev_var rfl) (ea_cons (ev_var rfl) (ea_cons (ev_var rfl) ea_nil))) (by simp)) fun t H10 ht e10 h10 => k t H10 C9 ws hp th pa M9 S9 es9 h10 (b9.grow e10) pok r9
      · refine s_if (b := decide (V.int ((n8 : Int) % 3) = .int 0) && !(kvE es7).isEmpty) (et_and (et_test (ev_op (ev_op (ev_var rfl) ev_c (rv_I (by decide))) ev_c (rv_eq rfl))) fun _ => et_neD rfl b8.hth) (fun hb H9 e9 => ?_) fun hb H9 e9 => ?_
        · have hne : es7 ≠ [] := fun z => by
            rw [z] at hb
            simp at hb
          have b9 := b8.grow e9
          refine q_asgQ (C := fun v H10 => ∃ e ∈ es7, v = .int (e.n : Int) ∧ Ex H9 H10) (fun Q10 q10 => rd_key rfl rfl b9.hth hne ⟨by decide, by decide⟩ (fun H1 e1 Q1 q1 => ⟨th, _, es7.map fun e => (e.n : Int), rfl, .inl (e1 _ _ b9.hth), by rw [List.map_map, List.map_map]; rfl, by rw [List.length_map]; have := r8.len; omega, fun ys p pm _ hp => q1 ys p pm hp⟩) _ fun e H1 he e1 => q10 _ _ ⟨e, he, rfl, e1⟩) fun v H10 ⟨e, he, hv, e10⟩ => ?_
          subst hv
          have b10 := b9.grow e10
          refine s_dputQ (P := fun v H11 => ∃ (p : Addr) (Dd : List (Str × List Str)) (C11 : Hp), v = .ref p ∧ Bs K ws H [] C11 H11 d hp th pa M7 S7 (kvE es7) ∧ Ex C8 C11 ∧ FldAt C11 p Dd ∧ DocF ws Dd) (fun Q11 q11 => rd_doc b10 pok rfl rfl _ fun p Dd H11 C11 b11 e11 hF hD => q11 _ _ ⟨p, Dd, C11, rfl, b11, e11, hF, hD⟩) fun v H11 ⟨p, Dd, C11, hv, b11, e11, hF, hD⟩ => ?_
          subst hv
          have r11 := r8.C e11
          have hk : putK (kvE es7) (kN e.n) (.ref p) = kvE (esPut es7 ⟨e.n, (allM S7).length, p, Dd⟩) := es_kv es7 ⟨e.n, (allM S7).length, p, Dd⟩
          refine ⟨_, rfl, _, rfl, th, _, rfl, DPut.k (k := kN e.n) b11.hth (sizeLine_lt (by rw [es_len]; have := r8.len; omega)), ?_⟩
          rw [hk]
          have b12 := b11.dput (kvs' := kvE (esPut es7 ⟨e.n, (allM S7).length, p, Dd⟩))
          have hnd : (esPut es7 ⟨e.n, (allM S7).length, p, Dd⟩).Pairwise fun a b => a.n ≠ b.n ∧ a.m ≠ b.m := es_nd r8.nd fun e2 he2 => Nat.ne_of_lt (r8.lt he2).2
          have hval := es_at hnd (es_in (es := es7) (x := ⟨e.n, (allM S7).length, p, Dd⟩))
          refine s_change b12 r11 pok (by omega) rfl rfl rfl he (ev_dget (a := th) (ev_var rfl) (ev_var rfl) (.inl ⟨_, kN e.n, .inl b12.hth, rfl, hval.symm⟩)) hF hD fun H13 C13 M13 S13 b13 r13 _ => rest2 _ _ ⟨_, _, _, _, _, _, rfl, b13, r13⟩
        · exact rest2 _ _ ⟨_, _, _, _, _, _, rfl, b8.grow e9, r8.up (Nat.le_succ _) (Nat.le_refl _)⟩
    · refine s_if (b := decide (V.int ((n : Int) % 3) = .int 0) && !(kvE es5).isEmpty) (et_and (et_test (ev_op (ev_op (ev_var rfl) ev_c (rv_I (by decide))) ev_c (rv_eq rfl))) fun _ => et_neD rfl b6.hth) (fun hb H7 e7 => ?_) fun hb H7 e7 => ?_
      · have hne : es5 ≠ [] := fun z => by
          rw [z] at hb
          simp at hb
        have b7 := b6.grow e7
        refine q_asgQ (C := fun v H10 => ∃ e ∈ es5, v = .int (e.n : Int) ∧ Ex H7 H10) (fun Q10 q10 => rd_key rfl rfl b7.hth hne ⟨by decide, by decide⟩ (fun H1 e1 Q1 q1 => ⟨th, _, es5.map fun e => (e.n : Int), rfl, .inl (e1 _ _ b7.hth), by rw [List.map_map, List.map_map]; rfl, by rw [List.length_map]; have := r6.len; omega, fun ys p pm _ hp => q1 ys p pm hp⟩) _ fun e H1 he e1 => q10 _ _ ⟨e, he, rfl, e1⟩) fun v H10 ⟨e, he, hv, e10⟩ => ?_
        subst hv
        exact s_take (b7.grow e10) r6 rfl rfl rfl he fun H11 C11 M11 S11 es11 b11 r11 _ => rest _ _ ⟨_, _, _, _, _, _, rfl, b11, r11⟩
      · exact rest _ _ ⟨_, _, _, _, _, _, rfl, b6.grow e7, r6⟩
end Fc
/-! The law's house goes on. -/
namespace Fc
open PySem PySem.Spec PyProof.Rows L2 Evl
def sp_law_goes_on (K : PySem.W.Frag) : Sp := fun vs H Q _ => ∃ (ws : List Str) (C : Hp) (d hp th pa : Addr) (M : List Addr) (S : HSt) (es : List Ent) (b c : Nat), vs = [.ref hp, .ref th, .ref d, .ref pa] ∧ Ex C H ∧ Dr H d ∧ C d = none ∧ d ∉ M ∧ HouseAt K (LW ws) C H hp M S ∧ C th = some (.dK (kvE es)) ∧ C pa = some (.lst (ws.map V.str)) ∧ PoolOk ws ∧ Rel ws C S es b c ∧ b ≤ 20 ∧ c ≤ 13 ∧
  ∀ (lt : Addr) (H' C' : Hp) (M' : List Addr) (S' : HSt) (es' : List Ent), Bs K ws H M C' H' d hp lt pa M' S' (kvE es') → Rel ws C' S' es' (b + 5) (c + 5) → Ex C C' → Q (.ref lt) H'
theorem sc_law_goes_on : FnScope ["_law_house_here", "_law_there", "_law_draws_here", "_law_pool_here", "_law_later", "_law_number", "_law_k", "_law_fields", "_law_one"] ["_law_house_here", "_law_there", "_law_draws_here", "_law_pool_here"] (defScope s_law_goes_on) := ⟨rfl, rfl, rfl, by decide +kernel, rfl, by decide +kernel, by decide +kernel⟩
theorem ok_law_goes_on {P : Program} {w : World} {K : PySem.W.Frag} {mg : Str → Option Value} {base : Heap} (G : Gd K mg "_law_goes_on" s_law_goes_on) (T : Tx K mg) (O_law_pop : OkF P w K mg base 1 "_law_pop" ["_law_draws_here"] sp_law_pop) (O_law_document : OkF P w K mg base 3 "_law_document" ["_law_draws_here", "_law_pool_here"] sp_law_document) (O_House_put : OkM P w K mg base 3 (adHouse K) "put" ["self", "document"] (sp_House_put K)) (O_law_filed : OkF P w K mg base 3 "_law_filed" ["_law_draws_here", "_law_fields"] sp_law_filed) (O_House_take : OkM P w K mg base 2 (adHouse K) "take" ["self", "number"] (sp_House_take K)) (O_House_change : OkM P w K mg base 3 (adHouse K) "change" ["self", "number", "document"] (sp_House_change K)) (O_House_seal : OkM P w K mg base 6 (adHouse K) "seal" ["self"] (sp_House_seal K)) : OkF P w K mg base 7 "_law_goes_on" ["_law_house_here", "_law_there", "_law_draws_here", "_law_pool_here"] (sp_law_goes_on K) := by
  refine G.ok (k := 6) sc_law_goes_on (fun _ _ _ _ _ _ us hl => match us, hl with | [_, _, _, _], _ => rfl) (fun vs H Q E h => ?_) (fun f cdv A outer s H vs Q E hr h => ?_)
  · unfold sp_law_goes_on at h
    repeat (first | (obtain ⟨rfl, h⟩ := h; rfl) | (obtain ⟨_, h⟩ := h))
  have hu := hu_of hr
  refine ⟨_, (pss_cons (psv 4 sc_law_goes_on.nd pe_dnewK)
      (pss_cons (ps_lock (ps_for PassesOwn.never rfl (pi_keys (pv 1)) (pgv 5 sc_law_goes_on.nd)
        (pss_one (ps_dput hu (pv 4) (pv 5) (pe_dget hu (pv 1) (pv 5) (fun _ _ => rfl)) rfl))))
      (pss_cons (ps_for PassesOwn.never rfl (pi_range1 rfl T.n_range (pa_cons (pe_op op_mod (pe_fn O_law_pop (hr.mono (by decide)) (pa_cons (pv 2) pa_nil)) pe_int) pa_nil)) (pgv 6 sc_law_goes_on.nd)
        (pss_cons (psv 5 sc_law_goes_on.nd (pe_fn O_law_pop (hr.mono (by decide)) (pa_cons (pv 2) pa_nil)))
        (pss_cons (psv 7 sc_law_goes_on.nd (pe_fn O_law_document (hr.mono (by decide)) (pa_cons (pv 2) (pa_cons (pv 3) pa_nil))))
        (pss_cons (ps_if (PW.pt (pw_or (pt_cmpR op_eq (pe_op op_mod (pv 5) pe_int) pe_int (nomark _)) (pw_or1 (pt_cmpR (op_eqDn hr.units0) (pv 4) pe_dnewK (nomark _))))) (pss_one (ps_dput hu (pv 4) (pe_mt O_House_put (hr.mono (by decide)) T.cHouse (pv 0) (pa_cons (pe_fn O_law_filed (hr.mono (by decide)) (pa_cons (pv 2) (pa_cons (pv 7) pa_nil))) pa_nil)) (pv 7) rfl)) (pss_cons (psv 8 sc_law_goes_on.nd (pe_ix (ixlK K) (pe_callB (id := "sorted") (call_sortedDI rfl) rfl T.n_sorted (by decide +kernel) (pa_cons (pv 4) pa_nil)) (pe_op op_mod (pe_op op_fdiv (pv 5) pe_int) (pe_callB (id := "len") call_lenD rfl T.n_len PySem.boot_len (pa_cons (pv 4) pa_nil))) (fun _ _ => rfl)))
          (pss_one (ps_if (pt_cmpR op_eq (pe_op op_mod (pv 5) pe_int) pe_int (nomark _)) (pss_cons (ps_expr (pe_mt O_House_take (hr.mono (by decide)) T.cHouse (pv 0) (pa_cons (pv 8) pa_nil)))
            (pss_one (ps_expr (pe_dpop1 (pv 4) (pv 8) (M1.of rfl))))) (pss_cons (ps_expr (pe_mt O_House_change (hr.mono (by decide)) T.cHouse (pv 0) (pa_cons (pv 8) (pa_cons (pe_fn O_law_filed (hr.mono (by decide)) (pa_cons (pv 2) (pa_cons (pv 7) pa_nil))) pa_nil))))
            (pss_one (ps_dput hu (pv 4) (pv 8) (pv 7) rfl)))))))
        (pss_one (ps_if (pt_cmpR op_eq (pe_op op_mod (pe_op op_fdiv (pv 5) pe_int) pe_int) pe_int (nomark _)) (pss_one (ps_expr (pe_mt0 O_House_seal (hr.mono (by decide)) T.cHouse (pv 0)))) pss_nil))))))
      (pss_one (ps_ret (pv 4)))))), ?_⟩
  obtain ⟨ws, C0, d, hp, th, pa, M0, S0, es0, b, c, rfl, eC, hd, hCd, hdM, hH, hCth, hCpa, pok, hr0, hb20, hc13, k⟩ := h
  have hth := eC _ _ hCth
  refine fun lt hlt => ?_
  have e1 : Ex H (upd H lt (.dK [])) := Ex.new hlt
  have hl1 : upd H lt (.dK []) lt = some (.dK []) := upd_same
  generalize upd H lt (.dK []) = H1 at e1 hl1
  have hth1 := e1 _ _ hth
  have hlth : lt ≠ th := (own_ne hth hlt).symm
  refine ⟨th, _, hth1, trivial, fun od => ⟨_, rfl, th, od, rfl, .inl ⟨kvE es0, upd_same, ?_⟩⟩⟩
  have hf1 : upd H1 th (.frz od (.dK (kvE es0))) lt = some (.dK []) := by
    rw [upd_ne hlth]
    exact hl1
  have hfth : upd H1 th (.frz od (.dK (kvE es0))) th = some (.frz od (.dK (kvE es0))) := upd_same
  refine for_it walk_keys (fun i σ H' => ∃ y5, σ = [some (.ref hp), some (.ref th), some (.ref d), some (.ref pa), some (.ref lt), y5, none, none, none] ∧ Ex (del (upd H1 th (.frz od (.dK (kvE es0)))) lt) H' ∧ H' lt = some (.dK (kvE (es0.take i)))) ⟨none, rfl, del_ex, hf1⟩ ?_ ?_ ?_
  · rintro i σ H2 _ ⟨y5, rfl, e2, h2⟩
    exact e2 _ _ (by rw [del_ne hlth.symm]; exact hfth)
  · rintro i x σ H2 H3 hi ⟨y5, rfl, e2, h2⟩ ⟨rfl, kk, vv, hkv, rfl⟩
    rw [List.getElem?_map] at hkv
    obtain ⟨e, he, hee⟩ := Option.map_eq_some_iff.mp hkv
    cases hee
    have hil : i < es0.length := (List.getElem?_eq_some_iff.mp he).1
    have hem := List.mem_of_getElem? he
    have h2th : H3 th = some (.frz od (.dK (kvE es0))) := e2 _ _ (by rw [del_ne hlth.symm]; exact hfth)
    have htk : es0.take (i + 1) = es0.take i ++ [e] := by
      rw [List.take_succ, he, Option.toList_some]
    have hno : valV (kvE (es0.take i)) (kN e.n) = none := by
      cases hc : valV (kvE (es0.take i)) (kN e.n) with
      | none => rfl
      | some u =>
        obtain ⟨x, hx, hxe⟩ := List.mem_map.mp (valV_some hc)
        have hn1 : x.n = e.n := kN_inj (Prod.mk.inj hxe).1
        have hnd : (es0.map fun e => e.n).Nodup := List.pairwise_map.mpr (hr0.nd.imp fun z => z.1)
        exact absurd (List.mem_map.mpr ⟨x, hx, hn1⟩) (by
          have q := nodup_take hnd (j := i) (w := e.n) (by rw [List.getElem?_map, he]; rfl)
          rw [← List.map_take] at q
          exact q)
    refine ⟨_, rfl, _, rfl, th, .ref e.a, rfl, .inl ⟨_, kN e.n, .inr ⟨od, h2th⟩, rfl, (es_at hr0.nd hem).symm⟩, _, rfl, _, rfl, lt, _, rfl, DPut.k (k := kN e.n) h2 (sizeLine_lt (by rw [es_len, List.length_take]; have := hr0.len; omega)), _, rfl, e2.mut del_at, ?_⟩
    rw [upd_same, putK_new _ hno, htk]
    show _ = some (HO.dK (List.map _ (_ ++ _)))
    rw [List.map_append]
    rfl
  · rintro σ H2 ⟨y5, rfl, e2, h2⟩
    rw [List.length_map, List.take_length] at h2
    refine ⟨e2 _ _ (by rw [del_ne hlth.symm]; exact hfth), ?_⟩
    have eH : Ex H (upd H2 th (.dK (kvE es0))) := fun a o ha => by
      by_cases c : a = th
      · rw [c, upd_same, ← hth, c.symm, ha]
      · rw [upd_ne c]
        exact e2 _ _ (by rw [del_ne (own_ne ha hlt), upd_ne c]; exact e1 _ _ ha)
    have hl2 : upd H2 th (.dK (kvE es0)) lt = some (.dK (kvE es0)) := by rw [upd_ne hlth]; exact h2
    generalize upd H2 th (.dK (kvE es0)) = H3 at eH hl2 ⊢
    have b3 : Bs K ws H M0 C0 H3 d hp lt pa M0 S0 (kvE es0) := ⟨eC.trans eH, hd.ex eH, hCd, hdM, hH.ex eH, hl2, fresh_back eC hlt, fun z => (hH.none lt z).2 hlt, hCpa, fun a o _ ha => eH _ _ ha, fun a ha => .inl ha, hlt⟩
    refine s_forRQ (D := { nx := _, rt := _ }) (P := fun v H4 => ∃ (m : Nat) (C : Hp), v = .int (m : Int) ∧ m ≤ 5 ∧ Bs K ws H M0 C H4 d hp lt pa M0 S0 (kvE es0) ∧ Ex C0 C) (fun Q4 q4 => op_q (P := fun v H4 => ∃ (n : Nat) (C : Hp), v = .int (n : Int) ∧ Bs K ws H M0 C H4 d hp lt pa M0 S0 (kvE es0) ∧ Ex C0 C) (fun Q5 q5 => rd_popB b3 rfl _ fun n H4 C4 b4 e4 => q5 _ _ ⟨n, C4, rfl, b4, e4⟩) fun v H4 ⟨n, C4, hv, b4, e4⟩ => ?inner) fun v H4 ⟨m, C4, hv, hm, b4, e4⟩ => ?main
    case inner =>
      subst hv
      exact ⟨_, _, rfl, rfl, (by show (0 : Int) < 6; decide), q4 _ _ ⟨n % 6, C4, congrArg V.int (by simp), by omega, b4, e4⟩⟩
    subst hv
    refine ⟨m, rfl, by omega, fun i σ H' => ∃ (y5 y6 y7 y8 : Option V) (C : Hp) (M : List Addr) (S : HSt) (es : List Ent), σ = [some (.ref hp), some (.ref th), some (.ref d), some (.ref pa), some (.ref lt), y5, y6, y7, y8] ∧ Bs K ws H M0 C H' d hp lt pa M S (kvE es) ∧ Rel ws C S es (b + i) (c + i) ∧ Ex C0 C, ⟨_, _, _, _, _, _, _, _, rfl, b4, hr0.C e4, e4⟩, ?_, ?_⟩
    · rintro i σ H5 hi ⟨y5, y6, y7, y8, C5, M5, S5, es5, rfl, b5, r5, e5⟩
      refine q_asgQ (C := fun v H6 => ∃ (n : Nat) (C6 : Hp), v = .int (n : Int) ∧ Bs K ws H M0 C6 H6 d hp lt pa M5 S5 (kvE es5) ∧ Ex C5 C6) (fun Q6 q6 => rd_popB b5 rfl _ fun n H6 C6 b6 e6 => q6 _ _ ⟨n, C6, rfl, b6, e6⟩) fun v H6 ⟨n, C6, hv, b6, e6⟩ => ?_
      subst hv
      refine q_asgQ (C := fun v H7 => ∃ (p : Addr) (Dd : List (Str × List Str)) (C7 : Hp), v = .ref p ∧ Bs K ws H M0 C7 H7 d hp lt pa M5 S5 (kvE es5) ∧ Ex C6 C7 ∧ FldAt C7 p Dd ∧ DocF ws Dd) (fun Q7 q7 => rd_doc b6 pok rfl rfl _ fun p Dd H7 C7 b7 e7 hF hD => q7 _ _ ⟨p, Dd, C7, rfl, b7, e7, hF, hD⟩) fun v H7 ⟨p, Dd, C7, hv, b7, e7, hF, hD⟩ => ?_
      subst hv
      have r7 := r5.C (e6.trans e7)
      have e07 := e5.trans (e6.trans e7)
      refine q_any (P := fun σ' H' => ∃ (y8 : Option V) (C : Hp) (M : List Addr) (S : HSt) (es : List Ent), σ' = [some (.ref hp), some (.ref th), some (.ref d), some (.ref pa), some (.ref lt), some (.int (n : Int)), some (.int (i : Int)), some (.ref p), y8] ∧ Bs K ws H M0 C H' d hp lt pa M S (kvE es) ∧ Rel ws C S es (b + i + 1) (c + i) ∧ Ex C0 C) ?_ fun rest => ?_
      · rintro σ H8 ⟨y8, C8, M8, S8, es8, rfl, b8, r8, e8⟩
        refine s_when (b := decide (V.int ((n : Int) / 64 % 3) = .int 0)) (et_test (ev_op (ev_op (ev_op (ev_var rfl) ev_c (rv_I ⟨by decide, by decide⟩)) ev_c (rv_I (by decide))) ev_c (rv_eq rfl))) (fun _ H9 e9 => ?_) fun _ H9 e9 => ?_
        · exact s_seal (b8.grow e9) r8 pok (by omega) rfl fun H10 C10 M10 S10 b10 r10 e10 => ⟨_, _, _, _, _, _, _, _, rfl, b10, r10, e8.trans e10⟩
        · exact ⟨_, _, _, _, _, _, _, _, rfl, b8.grow e9, r8.up (Nat.le_refl _) (Nat.le_succ _), e8⟩
      · refine s_if (b := decide (V.int ((n : Int) % 4) = .int 0) || (kvE es5).isEmpty) (et_or (et_test (ev_op (ev_op (ev_var rfl) ev_c (rv_I (by decide))) ev_c (rv_eq rfl))) fun _ => et_eqD rfl b7.hth) (fun hb H8 e8 => ?_) fun hb H8 e8 => ?_
        · exact s_put (b7.grow e8) r7 pok (by omega) rfl rfl rfl rfl hF hD fun H9 C9 M9 S9 es9 b9 r9 e9 => rest _ _ ⟨_, _, _, _, _, rfl, b9, r9, e07.trans e9⟩
        · have b8 := b7.grow e8
          have hne : es5 ≠ [] := fun z => by
            rw [z] at hb
            simp at hb
          refine q_asgQ (C := fun v H10 => ∃ e ∈ es5, v = .int (e.n : Int) ∧ Ex H8 H10) (fun Q10 q10 => rd_key rfl rfl b8.hth hne ⟨by decide, by decide⟩ (fun H1 e1 Q1 q1 => ⟨lt, _, es5.map fun e => (e.n : Int), rfl, .inl (e1 _ _ b8.hth), by rw [List.map_map, List.map_map]; rfl, by rw [List.length_map]; have := r7.len; omega, fun ys p pm _ hp => q1 ys p pm hp⟩) _ fun e H1 he e1 => q10 _ _ ⟨e, he, rfl, e1⟩) fun v H10 ⟨e, he, hv, e10⟩ => ?_
          subst hv
          have b10 := b8.grow e10
          refine s_if (b := decide (V.int ((n : Int) % 4) = .int 1)) (et_test (ev_op (ev_op (ev_var rfl) ev_c (rv_I (by decide))) ev_c (rv_eq rfl))) (fun _ H11 e11 => ?_) fun _ H11 e11 => ?_
          · exact s_take (b10.grow e11) r7 rfl rfl rfl he fun H12 C12 M12 S12 es12 b12 r12 e12 => rest _ _ ⟨_, _, _, _, _, rfl, b12, r12.up (Nat.le_succ _) (Nat.le_refl _), e07.trans e12⟩
          · refine q_change (b10.grow e11) r7 pok (by omega) rfl rfl rfl he (ev_var rfl) hF hD fun H12 C12 M12 S12 b12 r12 e12 => ?_
            have hk : putK (kvE es5) (kN e.n) (.ref p) = kvE (esPut es5 ⟨e.n, (allM S5).length, p, Dd⟩) := es_kv es5 ⟨e.n, (allM S5).length, p, Dd⟩
            refine ⟨_, rfl, _, rfl, _, rfl, lt, _, rfl, DPut.k (k := kN e.n) b12.hth (sizeLine_lt (by rw [es_len]; have := r7.len; omega)), ?_⟩
            rw [hk]
            exact rest _ _ ⟨_, _, _, _, _, rfl, b12.dput, r12, e07.trans e12⟩
    · rintro σ H5 ⟨y5, y6, y7, y8, C5, M5, S5, es5, rfl, b5, r5, e5⟩
      exact s_ret (ev_var rfl) fun H6 e6 => k lt H6 C5 M5 S5 es5 (b5.grow e6) (r5.up (by omega) (by omega)) e5
end Fc
/-! The law. -/
namespace Fc
open PySem PySem.Spec PyProof.Rows L2 Evl
theorem q_asgG {te : TE} {g : TG} {tz : TS} {D : Ends} {σ : L2.St} {H : Hp} (h : te σ H fun x H1 => g x σ H1 (tz D)) : tSeq (tAsg te g) tz D σ H := h
theorem house_cc {K : PySem.W.Frag} {L : List Str} {C C2 H : Hp} {hp : Addr} {M : List Addr} {S : HSt} (h : HouseAt K L C H hp M S) (e : Ex C C2) (n : ∀ a ∈ M, C2 a = none) : HouseAt K L C2 H hp M S := by
  obtain ⟨dx, al, mdl, op, sl, kp, t, to, ts, rfl, hi⟩ := h
  exact ⟨dx, al, mdl, op, sl, kp, t, to, ts, rfl, hi.house, hi.alive, hi.made, hi.opn, hi.sld, hi.nd, n, Paired.mapP hi.ops fun _ _ q => e _ _ q, fun m hm => (hi.opd m hm).mono e, Paired.mapP hi.pcs fun _ _ ⟨q, z⟩ => ⟨q, e _ _ z⟩, fun x hx => (hi.pcd x hx).mono e, Paired.mapP hi.mds fun _ _ q => q.mono e⟩
/-! ### lists of numbers against one another -/
theorem eqv_nats : ∀ ns : List Nat, PyData.eqvAll (ns.map fun n : Nat => PyData.int (n : Int)) (ns.map fun n : Nat => PyData.int (n : Int)) = true
  | [] => by simp [PyData.eqvAll]
  | n :: r => by simp [PyData.eqvAll, PyData.eqv, eqv_nats r]
abbrev dN (ns : List Nat) : PyData := .list (ns.map fun n : Nat => PyData.int (n : Int))
theorem eqv_dN (ns : List Nat) : PyData.eqv (dN ns) (dN ns) = true := by
  simp [PyData.eqv, eqv_nats]
theorem eqv_two (xs ys : List Nat) : PyData.eqv (.tuple [dN xs, dN ys]) (.tuple [dN xs, dN ys]) = true := by
  simp [PyData.eqv, PyData.eqvAll, eqv_nats]
theorem two_shaped (xs ys : List Nat) : SeqAt.shaped (.tuple [dN xs, dN ys]) = true := by
  have h1 := SeqAt.canLay_of_shaped (nats_lay xs)
  have h2 := SeqAt.canLay_of_shaped (nats_lay ys)
  have h3 := dep_map (F := fun n : Nat => PyData.int (n : Int)) (k := 1) (fun n => by simp [PyData.depth]) xs
  have h4 := dep_map (F := fun n : Nat => PyData.int (n : Int)) (k := 1) (fun n => by simp [PyData.depth]) ys
  unfold SeqAt.shaped
  have h5 : PyData.depth (.tuple [dN xs, dN ys]) ≤ 64 := by
    simp only [PyData.depth, PyData.depthAll]
    omega
  rw [decide_eq_true h5]
  simp only [PyData.canLay0] at h1 h2
  simp [PyData.canLay0, PyData.canLayAll0, h1, h2]
theorem two_dp {K : PySem.W.Frag} {H : Hp} {t a b : Addr} {xs ys : List Nat} (ht : H t = some (.tup [.ref a, .ref b])) (ha : H a = some (.lst (nats xs))) (hb : H b = some (.lst (nats ys))) : Dp K H (.ref t) (.tuple [dN xs, dN ys]) :=
  .tup (st_of ht) (.cons (.lst (sq_of ha) (dp_nats xs)) (.cons (.lst (sq_of hb) (dp_nats ys)) .nil))
/-- sorted(d) of numbers -/
theorem ints_up {ys : List Int} {ns : List Nat} (pm : ys.Perm (ns.map fun n : Nat => (n : Int))) (hs : ys.Pairwise (· ≤ ·)) (hn : ns.Nodup) (h60 : ∀ n ∈ ns, n < 60) : ys.map V.int = nats (upto 60 fun n => decide (n ∈ ns)) := by
  have hnn : ∀ k ∈ ys, ∃ n : Nat, n ∈ ns ∧ k = (n : Int) := fun k hk => by
    obtain ⟨n, h1, h2⟩ := List.mem_map.mp (pm.mem_iff.mp hk)
    exact ⟨n, h1, h2.symm⟩
  have hnd : ys.Nodup := pm.nodup_iff.mpr (List.Pairwise.map (R := (· ≠ ·)) (S := (· ≠ ·)) (fun n : Nat => (n : Int)) (fun a b hab z => hab (by omega)) hn)
  have e3 : ys = (ys.map Int.toNat).map fun n : Nat => (n : Int) := by
    rw [List.map_map]
    apply List.ext_getElem (by simp)
    intro i h1 h2
    obtain ⟨n, _, hn⟩ := hnn ys[i] (List.getElem_mem h1)
    simp [hn]
  have hw2 : (ys.map Int.toNat).Pairwise (· < ·) := by
    rw [List.pairwise_map]
    refine List.Pairwise.imp_of_mem ?_ (hs.and hnd)
    intro x y hx hy hxy
    obtain ⟨n, _, rfl⟩ := hnn x hx
    obtain ⟨m, _, rfl⟩ := hnn y hy
    have := hxy.1
    have := hxy.2
    simp
    omega
  have e4 : ys.map Int.toNat = upto 60 fun n => decide (n ∈ ns) := lt_ext hw2 (upto_lt _ _) fun k => by
    rw [upto_mem, decide_eq_true_iff, List.mem_map]
    constructor
    · rintro ⟨x, hx, rfl⟩
      obtain ⟨n, hn, rfl⟩ := hnn x hx
      simp
      exact ⟨h60 n hn, hn⟩
    · rintro ⟨_, hk⟩
      exact ⟨(k : Int), pm.mem_iff.mpr (List.mem_map.mpr ⟨k, hk, rfl⟩), by simp⟩
  rw [← e4]
  have e5 := congrArg (List.map V.int) e3
  rw [List.map_map] at e5
  exact e5
section
variable {K : PySem.W.Frag} {σ : L2.St} {H : Hp}
theorem el_srt {ws : List Str} {C : Hp} {S : HSt} {es : List Ent} {b c i : Nat} {a : Addr} {r : List V → Hp → VK → Prop} (hr : Rel ws C S es b c) (s : σ[i]? = some (some (.ref a)))
    (hq : ∀ H1, Ex H H1 → ∀ Q : VK, (∀ (ys : List Int) p, ys.Perm (es.map fun e => (e.n : Int)) → ys.Pairwise (· ≤ ·) → H1 p = none → Q (.ref p) (upd H1 p (.lst (ys.map V.int)))) → r [.ref a] H1 Q) :
    EvL (tCB r (tCons (tVar i) tNil)) σ H (nats (upto 60 fun n => decide (n ∈ es.map fun e => e.n))) := fun H1 e Q q => ⟨_, s, hq H1 e _ fun ys p pm hs hp => by
  have e9 := ints_up (ns := es.map fun e => e.n) (ys := ys) (by rw [List.map_map]; exact pm) hs (List.pairwise_map.mpr (hr.nd.imp fun z => z.1)) fun n hn => by
    obtain ⟨e, he, rfl⟩ := List.mem_map.mp hn
    have := (hr.lt he).1
    have := hr.ok.ever
    omega
  exact q p _ hp (Ex.new hp) (by rw [upd_same, e9])⟩
/-- the documents in which the question holds, by the law -/
theorem el_ans {ws : List Str} {C : Hp} {S : HSt} {es : List Ent} {b c i j : Nat} {a q : Addr} {P : Wd → Prop} {r : List V → Hp → VK → Prop} (hr : Rel ws C S es b c) (eC : Ex C H) (pok : PoolOk ws) (ha : H a = some (.dK (kvE es))) (hQ : QAt 3 H q P) (s : σ[i]? = some (some (.ref a)))
    (si : ∀ v, ((wipe σ [9]).set 9 (some v))[i]? = some (some (.ref a))) (sj : ∀ v, ((wipe σ [9]).set 9 (some v))[j]? = some (some (.ref q))) (s9 : ∀ v, ((wipe σ [9]).set 9 (some v))[9]? = some (some v)) (hw : ∀ v, wipe ((wipe σ [9]).set 9 (some v)) [9] = wipe σ [9])
    (hq : ∀ H1, Ex H H1 → ∀ Q : VK, (∀ (ys : List Int) p, ys.Perm (es.map fun e => (e.n : Int)) → ys.Pairwise (· ≤ ·) → H1 p = none → Q (.ref p) (upd H1 p (.lst (ys.map V.int)))) → r [.ref a] H1 Q) :
    EvL (tLc (iList K (tCB r (tCons (tVar i) tNil))) (gName 9) (tB (tCall (sp_law_holds 3) [] E0 (tCons (tDGet (tVar i) (tVar 9)) (tCons (tVar j) tNil)))) (tVar 9) [9]) σ H (nats (ansL (ddE es) P)) := by
  have q9 := el_lcX (ti := iList K (tCB r (tCons (tVar i) tNil))) (g := gName 9) (vs := [9]) (t := tB (tCall (sp_law_holds 3) [] E0 (tCons (tDGet (tVar i) (tVar 9)) (tCons (tVar j) tNil)))) (te := tVar 9) (es := upto 60 fun n => decide (n ∈ es.map fun e => e.n)) (σ := σ) (H := H) (st := fun (n : Nat) σ0 => σ0.set 9 (some (.int (n : Int)))) (fun n => pB (∃ D, ddE es n = some D ∧ P D)) (fun n : Nat => V.int (n : Int))
    (ex_listN (F := fun n : Nat => V.int (n : Int)) (el_srt hr s hq)) (by have := upto_len 60 fun n => decide (n ∈ es.map fun e => e.n); omega) (fun n => hw _) (fun n hn H1 e1 => ?_) (fun n _ H1 e1 _ => ev_var (s9 _))
  · have e9 : (upto 60 fun n => decide (n ∈ es.map fun e => e.n)).filter (fun n => pB (∃ D, ddE es n = some D ∧ P D)) = ansL (ddE es) P := by
      unfold ansL upto
      rw [List.filter_filter]
      refine List.filter_congr fun n _ => ?_
      cases hc : pB (∃ D, ddE es n = some D ∧ P D) with
      | false => rfl
      | true =>
        obtain ⟨D, h1, _⟩ := pB_true.mp hc
        obtain ⟨e, he, hen, _⟩ := (dd_mem hr.nd).mp h1
        rw [Bool.true_and]
        exact decide_eq_true (List.mem_map.mpr ⟨e, he, hen⟩)
    rw [e9] at q9
    exact q9
  · have hn2 := of_decide_eq_true (upto_mem.mp hn).2
    obtain ⟨e, he, rfl⟩ := List.mem_map.mp hn2
    obtain ⟨g1, g2, _⟩ := hr.ents e he
    have hb : pB (P (fldW e.D)) = pB (∃ D, ddE es e.n = some D ∧ P D) := by
      refine pB_is ?_
      rw [pB_true]
      constructor
      · intro h
        exact ⟨_, (dd_mem hr.nd).mpr ⟨e, he, rfl, rfl⟩, h⟩
      · rintro ⟨D, h1, h2⟩
        have h3 := (dd_mem hr.nd).mpr ⟨e, he, rfl, rfl⟩
        rw [h1] at h3
        rw [← Option.some.inj h3]
        exact h2
    rw [← hb]
    exact et_B (ev_call (ea_cons (ev_dget (a := a) (ev_var (si _)) (ev_var (s9 _)) (.inl ⟨_, kN e.n, .inl (e1 _ _ ha), rfl, (es_at hr.nd he).symm⟩)) (ea_cons (ev_var (sj _)) ea_nil)) fun H2 e2 Q2 q2 E2 => ⟨e.a, q, ws, e.D, P, rfl, g1.mono (eC.trans (e1.trans e2)), g2, pok.2, hQ.mono (e1.trans e2), q2⟩)
end
end Fc
/-! The law itself. -/
namespace Fc
open PySem PySem.Spec PyProof.Rows L2 Evl
section
variable {K : PySem.W.Frag} {σ : L2.St} {H : Hp}
theorem el_less {x y : Addr} {xs ys : List Nat} {i j : Nat} (hx : H x = some (.lst (nats xs))) (hy : H y = some (.lst (nats ys))) (hl : xs.length ≤ 60) (si : σ[i]? = some (some (.ref x))) (sj : ∀ v, ((wipe σ [9]).set 9 (some v))[j]? = some (some (.ref y))) (hw : ∀ v, wipe ((wipe σ [9]).set 9 (some v)) [9] = wipe σ [9]) (s9 : ∀ v, ((wipe σ [9]).set 9 (some v))[9]? = some (some v)) :
    EvL (tLc (iList K (tVar i)) (gName 9) (tTest (tOp (rIn K true) (tVar 9) (tVar j))) (tVar 9) [9]) σ H (nats (xs.filter fun n => !decide (n ∈ ys))) :=
  el_lcX (es := xs) (st := fun n σ0 => σ0.set 9 (some (.int (n : Int)))) (fun n => !decide (n ∈ ys)) (fun n : Nat => V.int (n : Int)) (ex_list (F := fun n : Nat => V.int (n : Int)) (ev_var si) (sq_of hx)) (by omega) (fun n => hw _) (fun n _ H4 e4 => et_test (ev_op (ev_var (s9 _)) (ev_var (sj _)) (by rw [← inV_nat]; exact rv_niL (sq_of (e4 _ _ hy)) rfl (flat_nats ys)))) (fun n _ H4 e4 _ => ev_var (s9 _))
theorem ev_chg {La Lb : List Str} {C : Hp} {sa sb q a b : Addr} {d1 d2 : Nat → Option Wd} {T1 T2 : Tab} {n1 n2 : List Nat} {P : Wd → Prop} {i j m x y : Nat} {r : R2} {z : V} (si : σ[i]? = some (some (.ref sa))) (sj : σ[j]? = some (some (.ref sb))) (sm : σ[m]? = some (some (.ref q))) (sx : σ[x]? = some (some (.ref a))) (sy : σ[y]? = some (some (.ref b)))
    (hS1 : SdAt K La C sa d1 T1 n1) (hS2 : SdAt K Lb C sb d2 T2 n2) (eC : Ex C H) (hq : QAt 3 H q P) (ha : H a = some (.lst (nats ((ansL d2 P).filter fun n => !decide (n ∈ ansL d1 P))))) (hb : H b = some (.lst (nats ((ansL d1 P).filter fun n => !decide (n ∈ ansL d2 P)))))
    (hr : ∀ (u v : V) (D : PyData) H1 (Q : VK), Dp K H1 u D → Dp K H1 v D → SeqAt.shaped D = true → PyData.eqv D D = true → Q z H1 → r u v H1 Q) :
    Ev (tOp r (tCall (sp_changed K) [] E0 (tCons (tVar i) (tCons (tVar j) (tCons (tVar m) tNil)))) (tTup (tCons (tVar x) (tCons (tVar y) tNil)))) σ H z := fun H1 e1 Q k =>
  ⟨_, si, _, sj, _, sm, La, Lb, C, sa, sb, q, d1, d2, T1, T2, n1, n2, P, rfl, hS1, hS2, eC.trans e1, hq.mono e1, fun t l1 l2 H2 hl1 e2 ht h1 h2 => ⟨_, sx, _, sy, sizeLine_of (by simp), fun p hp =>
    hr _ _ _ _ Q (two_dp ((Ex.new hp) _ _ ht) ((Ex.new hp) _ _ h1) ((Ex.new hp) _ _ h2)) (two_dp upd_same ((e1.trans (e2.trans (Ex.new hp))) _ _ ha) ((e1.trans (e2.trans (Ex.new hp))) _ _ hb)) (two_shaped _ _) (eqv_two _ _) (k _ (e2.trans (Ex.new hp)))⟩⟩
end
def sp_law (K : PySem.W.Frag) : Sp := fun vs H Q _ => ∃ (l : Addr) (ns : List Int), vs = [.ref l] ∧ SqL K H l (ns.map V.int) ∧ ∀ H', Q (.bl true) H'
theorem sc_law : FnScope ["_law_script", "_law_house_here", "_law_there", "_law_pool_here", "_law_older", "_law_later", "_law_newer", "_law_question_here", "_law_before", "_law_number", "_law_behind", "_law_came", "_law_went", "_law_found"] ["_law_script"] (defScope s_law) := ⟨rfl, rfl, rfl, by decide +kernel, rfl, by decide +kernel, by decide +kernel⟩
theorem okd_law {P : Program} {w : World} {K : PySem.W.Frag} {mg : Str → Option Value} {base : Heap} {fL : Addr} {fdL : FuncData} (F : FunD K "law" "law" (defArgs s_law) (defBody s_law) (defScope s_law) [] [] fL fdL) (T : Tx K mg) (O_law_house : OkF P w K mg base 7 "_law_house" ["_law_draws_here", "_law_most"] (sp_law_house K)) (O_law_draws : OkF P w K mg base 2 "_law_draws" ["_law_script", "_law_turn", "_law_many"] (sp_law_draws K)) (O_House_now : OkM P w K mg base 8 (adHouse K) "now" ["self"] (sp_House_now K)) (O_law_goes_on : OkF P w K mg base 7 "_law_goes_on" ["_law_house_here", "_law_there", "_law_draws_here", "_law_pool_here"] (sp_law_goes_on K)) (O_law_question : OkF P w K mg base 6 "_law_question" ["_law_draws_here", "_law_pool_here", "_law_deep"] (sp_law_question 3)) (O_law_holds : OkF P w K mg base 96 "_law_holds" ["_law_fields", "_law_question_here"] (sp_law_holds 3)) (O_changed : OkF P w K mg base 11 "changed" ["older", "newer", "question"] (sp_changed K)) (O_answers_of : OkF P w K mg base 10 "answers_of" ["stand", "question"] (sp_answers_of K 3)) : FnOk P w K mg base CX0 97 fL fdL ["_law_script"] (sp_law K) := by
  refine fnD_ok (k := 96) F sc_law (fun vs H Q E h => ?_) (fun f cdv A outer s H vs Q E hr h => ?_)
  · unfold sp_law at h
    repeat (first | (obtain ⟨rfl, h⟩ := h; rfl) | (obtain ⟨_, h⟩ := h))
  have hu := hu_of hr
  refine ⟨_, (pss_cons (ps_asg (pe_fn O_law_house (hr.mono (by decide)) (pa_cons (pe_fn O_law_draws (hr.mono (by decide)) (pa_cons (pv 0) (pa_cons pe_int (pa_cons pe_int pa_nil)))) (pa_cons pe_int pa_nil))) (pg_tup rfl (pgs_cons (pgv 1 sc_law.nd) (pgs_cons (pgv 2 sc_law.nd) (pgs_cons (pgv 3 sc_law.nd) pgs_nil)))))
      (pss_cons (psv 4 sc_law.nd (pe_mt0 O_House_now (hr.mono (by decide)) T.cHouse (pv 1)))
      (pss_cons (psv 5 sc_law.nd (pe_fn O_law_goes_on (hr.mono (by decide)) (pa_cons (pv 1) (pa_cons (pv 2) (pa_cons (pe_fn O_law_draws (hr.mono (by decide)) (pa_cons (pv 0) (pa_cons pe_int (pa_cons pe_int pa_nil)))) (pa_cons (pv 3) pa_nil))))))
      (pss_cons (psv 6 sc_law.nd (pe_mt0 O_House_now (hr.mono (by decide)) T.cHouse (pv 1)))
      (pss_cons (psv 7 sc_law.nd (pe_fn O_law_question (hr.mono (by decide)) (pa_cons (pe_fn O_law_draws (hr.mono (by decide)) (pa_cons (pv 0) (pa_cons pe_int (pa_cons pe_int pa_nil)))) (pa_cons (pv 3) (pa_cons pe_int pa_nil)))))
      (pss_cons (psv 8 sc_law.nd (pe_lc (own := [("_law_number", 9)]) (g := gName 9) rfl sc_law.nd (pi_list (pe_callB (id := "sorted") (call_sortedDI rfl) rfl T.n_sorted (by decide +kernel) (pa_cons (pv 2) pa_nil))) (blkOk_by (own := [("_law_number", 9)]) (N := ["_law_script", "_law_house_here", "_law_there", "_law_pool_here", "_law_older", "_law_later", "_law_newer", "_law_question_here", "_law_before", "_law_number", "_law_behind", "_law_came", "_law_went", "_law_found"]) (sc := defScope s_law) (by decide +kernel)) (fun _ _ _ _ _ => (pgv 9 sc_law.nd)) (fun _ _ _ _ _ => (pts_one (pt_val (pe_fn O_law_holds (hr.mono (by decide)) (pa_cons (pe_dget hu (pv 2) (pv 9) (fun _ _ => rfl)) (pa_cons (pv 7) pa_nil)))))) (fun _ _ _ _ _ => (pv 9))))
      (pss_cons (psv 10 sc_law.nd (pe_lc (own := [("_law_number", 9)]) (g := gName 9) rfl sc_law.nd (pi_list (pe_callB (id := "sorted") (call_sortedDI rfl) rfl T.n_sorted (by decide +kernel) (pa_cons (pv 5) pa_nil))) (blkOk_by (own := [("_law_number", 9)]) (N := ["_law_script", "_law_house_here", "_law_there", "_law_pool_here", "_law_older", "_law_later", "_law_newer", "_law_question_here", "_law_before", "_law_number", "_law_behind", "_law_came", "_law_went", "_law_found"]) (sc := defScope s_law) (by decide +kernel)) (fun _ _ _ _ _ => (pgv 9 sc_law.nd)) (fun _ _ _ _ _ => (pts_one (pt_val (pe_fn O_law_holds (hr.mono (by decide)) (pa_cons (pe_dget hu (pv 5) (pv 9) (fun _ _ => rfl)) (pa_cons (pv 7) pa_nil)))))) (fun _ _ _ _ _ => (pv 9))))
      (pss_cons (ps_setLc (i := 11) (own := [("_law_number", 9)]) (g := gName 9) rfl sc_law.nd rfl rfl (sw_true rfl rfl rfl (by decide +kernel)) (pi_list (pv 10)) (blkOk_by (own := [("_law_number", 9)]) (N := ["_law_script", "_law_house_here", "_law_there", "_law_pool_here", "_law_older", "_law_later", "_law_newer", "_law_question_here", "_law_before", "_law_number", "_law_behind", "_law_came", "_law_went", "_law_found"]) (sc := defScope s_law) (by decide +kernel)) (fun _ _ _ _ _ => (pgv 9 sc_law.nd)) (fun _ _ _ _ _ => (pts_one (pt_cmpR (opNotInK K) (pv 9) (pv 8) (by with_unfolding_all rfl)))) (fun _ _ _ _ _ => (pv 9)))
      (pss_cons (ps_setLc (i := 12) (own := [("_law_number", 9)]) (g := gName 9) rfl sc_law.nd rfl rfl (sw_true rfl rfl rfl (by decide +kernel)) (pi_list (pv 8)) (blkOk_by (own := [("_law_number", 9)]) (N := ["_law_script", "_law_house_here", "_law_there", "_law_pool_here", "_law_older", "_law_later", "_law_newer", "_law_question_here", "_law_before", "_law_number", "_law_behind", "_law_came", "_law_went", "_law_found"]) (sc := defScope s_law) (by decide +kernel)) (fun _ _ _ _ _ => (pgv 9 sc_law.nd)) (fun _ _ _ _ _ => (pts_one (pt_cmpR (opNotInK K) (pv 9) (pv 10) (by with_unfolding_all rfl)))) (fun _ _ _ _ _ => (pv 9)))
      (pss_cons (psv 13 sc_law.nd (pe_fn O_changed (hr.mono (by decide)) (pa_cons (pv 4) (pa_cons (pv 6) (pa_cons (pv 7) pa_nil)))))
      (pss_cons (ps_if (PW.pt (pw_or (pt_not (pt_val (pe_callB (id := "isinstance") RZ.call_isTy rfl T.n_isinstance (by decide +kernel) (pa_cons (pv 13) (pa_cons (pe_bltn (v := .ty "tuple") (u := .type "tuple") rfl T.n_tuple (by decide +kernel) rfl) pa_nil))))) (pw_or (pt_cmpR (neDK K hr.units) (pv 13) (pe_tup (pa_cons (pv 11) (pa_cons (pv 12) pa_nil))) (nomark _)) (pw_or1 (pt_cmpR (neDK K hr.units) (pe_fn O_changed (hr.mono (by decide)) (pa_cons (pv 6) (pa_cons (pv 4) (pa_cons (pv 7) pa_nil)))) (pe_tup (pa_cons (pv 12) (pa_cons (pv 11) pa_nil))) (nomark _)))))) (pss_one (ps_ret pe_bl)) pss_nil)
      (pss_cons (ps_expr (pe_bm PySem.F.plainAttrs_list PySem.F.slot_list_append PySem.F.type_list_append mt_append (pe_ix (ixtK K) (pv 13) pe_int (fun _ _ => rfl)) (pa_cons pe_int pa_nil)))
      (pss_one (ps_ret (pe_and (pe_cmpR (eqDK K hr.units) (pe_fn O_changed (hr.mono (by decide)) (pa_cons (pv 4) (pa_cons (pv 6) (pa_cons (pv 7) pa_nil)))) (pe_tup (pa_cons (pv 11) (pa_cons (pv 12) pa_nil))) (nomark _)) (pe_one (pe_cmpR (eqDK K hr.units) (pe_fn O_answers_of (hr.mono (by decide)) (pa_cons (pv 4) (pa_cons (pv 7) pa_nil))) (pv 8) (nomark _)))))))))))))))))), ?_⟩
  obtain ⟨l, ns0, rfl, hl, k⟩ := h
  refine q_asgG ?_
  refine ⟨_, rfl, l, ns0, 1, 260, rfl, hl, by omega, fun d H1 hd e1 d1 => ⟨d, 6, rfl, d1, by omega, fun t H2 C ws hp th pa M S es ht b2 pok r2 => ⟨t, _, rfl, st_of ht, rfl, _, _, rfl, _, _, rfl, _, _, rfl, rfl, ?_⟩⟩⟩
  have eH2 : Ex H H2 := fun a o ha => b2.kp a o (fun z => by rw [List.mem_singleton.mp z, hd] at ha; cases ha) (e1 _ _ ha)
  have hLW : (LW ws).length ≤ 60 := by
    rw [List.length_append, pok.1]
    decide
  -- the stand of ahead
  obtain ⟨dx, al, mdl, op, sl, kp, t9, to, ts, hM, hi⟩ := id b2.house
  refine q_asgQ (C := NowAt K (LW ws) S H2) (fun Q3 q3 => ⟨_, rfl, hp, dx, _, rfl, hi.house, rfl, LW ws, C, hp, M, S, rfl, hLW, b2.ex, b2.house, r2.ok, q3⟩) fun v H3 ⟨s1, T1, hv, hs1, e3, hst1, hpm1⟩ => ?_
  subst hv
  obtain ⟨C3, hC3⟩ : ∃ C3, C3 = upd (jn C H2 H3) th (.dK (kvE es)) := ⟨_, rfl⟩
  have eC3 : Ex C3 H3 := by
    rw [hC3]
    exact ex_upd (jn_to (b2.ex.trans e3)) (e3 _ _ b2.hth)
  have eCC3 : Ex C C3 := by
    rw [hC3]
    exact (jn_ex b2.ex).mut b2.Cth
  have hC3th : C3 th = some (.dK (kvE es)) := by
    rw [hC3]
    exact upd_same
  have hC3M : ∀ a ∈ M, C3 a = none := fun a ha => by
    rw [hC3, upd_ne (fun z => b2.thM (by rw [← z]; exact ha)), jn_old (b2.house.none a ha).2]
    exact (b2.house.none a ha).1
  have h3 : HouseAt K (LW ws) C3 H3 hp M S := house_cc (b2.house.ex e3) eCC3 hC3M
  have hfr3 : Ex (fr H2 H3) C3 := by
    rw [hC3]
    refine fr_jn.mut ?_
    unfold fr
    rw [b2.hth]
  have sd1 := (now_sd r2 pok hst1 hpm1).mono hfr3
  have hl3 := ex_l (eH2.trans e3) hl
  -- it goes on
  refine q_asgQ (C := fun v H5 => ∃ (lt d2 : Addr) (H4 C5 : Hp) (M5 : List Addr) (S5 : HSt) (es5 : List Ent), v = .ref lt ∧ Ex H3 H4 ∧ H3 d2 = none ∧ Bs K ws H4 M C5 H5 d2 hp lt pa M5 S5 (kvE es5) ∧ Rel ws C5 S5 es5 12 11 ∧ Ex C3 C5) (fun Q5 q5 => ?_) fun v H5 ⟨lt, d2, H4, C5, M5, S5, es5, hv, e4, hd2, b5, r5, e5⟩ => ?_
  · exact ⟨_, rfl, _, rfl, _, rfl, l, ns0, 500, 160, rfl, hl3, by omega, fun d2 H4 hd2 e4 d4 => ⟨_, rfl, ws, C3, d2, hp, th, pa, M, S, es, 7, 6, rfl, eC3.trans e4, d4, fresh_back eC3 hd2, fun z => (h3.none d2 z).2 hd2, h3.ex e4, hC3th, eCC3 _ _ b2.pool, pok, r2.C eCC3, by omega, by omega, fun lt H5 C5 M5 S5 es5 b5 r5 e5 => q5 _ _ ⟨lt, d2, H4, C5, M5, S5, es5, rfl, e4, hd2, b5, r5, e5⟩⟩⟩
  subst hv
  have eH5 : Ex H H5 := fun a o ha => b5.kp a o (fun z => by
    rcases List.mem_cons.mp z with y | y
    · have q := (eH2.trans e3) _ _ ha
      rw [y, hd2] at q
      cases q
    · rcases b2.nM a y with x | x
      · exact absurd x List.not_mem_nil
      · rw [e1 _ _ ha] at x
        cases x) ((eH2.trans (e3.trans e4)) _ _ ha)
  -- the stand of now
  obtain ⟨dx5, al5, mdl5, op5, sl5, kp5, t5, to5, ts5, hM5, hi5⟩ := id b5.house
  refine q_asgQ (C := NowAt K (LW ws) S5 H5) (fun Q6 q6 => ⟨_, rfl, hp, dx5, _, rfl, hi5.house, rfl, LW ws, C5, hp, M5, S5, rfl, hLW, b5.ex, b5.house, r5.ok, q6⟩) fun v H6 ⟨s2, T2, hv, hs2, e6, hst2, hpm2⟩ => ?_
  subst hv
  obtain ⟨C6, hC6⟩ : ∃ C6, C6 = upd (jn C5 H5 H6) lt (.dK (kvE es5)) := ⟨_, rfl⟩
  have eC6 : Ex C6 H6 := by
    rw [hC6]
    exact ex_upd (jn_to (b5.ex.trans e6)) (e6 _ _ b5.hth)
  have eCC6 : Ex C5 C6 := by
    rw [hC6]
    exact (jn_ex b5.ex).mut b5.Cth
  have hC6lt : C6 lt = some (.dK (kvE es5)) := by
    rw [hC6]
    exact upd_same
  have hfr6 : Ex (fr H5 H6) C6 := by
    rw [hC6]
    refine fr_jn.mut ?_
    unfold fr
    rw [b5.hth]
  have sd2 := (now_sd r5 pok hst2 hpm2).mono hfr6
  have hl6 := ex_l (eH5.trans e6) hl
  have hpa6 : H6 pa = some (.lst (ws.map V.str)) := eC6 _ _ (eCC6 _ _ b5.pool)
  -- the question
  refine q_asgQ (C := fun v H8 => ∃ (q : Addr) (P : Wd → Prop) (C8 : Hp), v = .ref q ∧ Ex C6 C8 ∧ Ex C8 H8 ∧ QAt 3 C8 q P) (fun Q8 q8 => ?_) fun v H8 ⟨q, P9, C8, hv, e68, e8, hq⟩ => ?_
  · refine ⟨_, rfl, l, ns0, 400, 40, rfl, hl6, by omega, fun d3 H7 hd3 e7 d7 => ⟨_, rfl, d3, pa, ws, 2, rfl, by omega, by omega, d7, e7 _ _ hpa6, pok, fun v H8 e8 d8 ⟨q, P9, hv, hqn, hQ⟩ => ?_⟩⟩
    have e67 := eC6.trans e7
    exact q8 _ _ ⟨q, P9, jn C6 H7 H8, hv, jn_ex e67, jn_to (ex_del e67 (fresh_back eC6 hd3) e8), hQ.mono fr_jn⟩
  subst hv
  have e38 : Ex C3 C8 := e5.trans (eCC6.trans e68)
  have ra := r2.C (eCC3.trans e38)
  have rb := r5.C (eCC6.trans e68)
  have s1' := sd1.mono e38
  have s2' := sd2.mono e68
  have h8th := e8 _ _ (e38 _ _ hC3th)
  have h8lt := e8 _ _ (e68 _ _ hC6lt)
  -- ahead, behind
  refine q_asgL (el_ans ra e8 pok h8th (hq.mono e8) rfl (fun _ => rfl) (fun _ => rfl) (fun _ => rfl) (fun _ => rfl) (fun H1 e1 Q1 q1 => ⟨th, _, es.map fun e => (e.n : Int), rfl, .inl (e1 _ _ h8th), by rw [List.map_map, List.map_map]; rfl, by rw [List.length_map]; have := r2.len; omega, fun ys p pm hs hp => q1 ys p pm hs hp⟩)) fun p8 H9 hp8 e9 h9 => ?_
  have h9lt := e9 _ _ h8lt
  refine q_asgL (el_ans rb (e8.trans e9) pok h9lt (hq.mono (e8.trans e9)) rfl (fun _ => rfl) (fun _ => rfl) (fun _ => rfl) (fun _ => rfl) (fun H1 e1 Q1 q1 => ⟨lt, _, es5.map fun e => (e.n : Int), rfl, .inl (e1 _ _ h9lt), by rw [List.map_map, List.map_map]; rfl, by rw [List.length_map]; have := r5.len; omega, fun ys p pm hs hp => q1 ys p pm hs hp⟩)) fun p10 H10 hp10 e10 h10 => ?_
  refine q_asgL (el_less h10 (e10 _ _ h9) (ans_len _ _) rfl (fun _ => rfl) (fun _ => rfl) (fun _ => rfl)) fun p11 H11 hp11 e11 h11 => ?_
  refine q_asgL (el_less ((e10.trans e11) _ _ h9) (e11 _ _ h10) (ans_len _ _) rfl (fun _ => rfl) (fun _ => rfl) (fun _ => rfl)) fun p12 H12 hp12 e12 h12 => ?_
  have e8c : Ex C8 H12 := e8.trans (e9.trans (e10.trans (e11.trans e12)))
  have h12b := (e10.trans (e11.trans e12)) _ _ h9
  have h12c := e12 _ _ h11
  -- changed
  refine q_asgQ (C := fun v H14 => ∃ (t l1 l2 : Addr), v = .ref t ∧ H12 l1 = none ∧ Ex H12 H14 ∧ H14 t = some (.tup [.ref l1, .ref l2]) ∧ H14 l1 = some (.lst (nats ((ansL (ddE es5) P9).filter fun n => !decide (n ∈ ansL (ddE es) P9)))) ∧ H14 l2 = some (.lst (nats ((ansL (ddE es) P9).filter fun n => !decide (n ∈ ansL (ddE es5) P9))))) (fun Q14 q14 => ⟨_, rfl, _, rfl, _, rfl, _, _, C8, s1, s2, q, _, _, _, _, _, _, P9, rfl, s1', s2', e8c, hq.mono e8c, fun t l1 l2 H14 hl1 e14 ht h1 h2 => q14 _ _ ⟨t, l1, l2, rfl, hl1, e14, ht, h1, h2⟩⟩) fun v H14 ⟨ft, l1, l2, hv, hl1, e14, hft, hf1, hf2⟩ => ?_
  subst hv
  have e8d := e8c.trans e14
  have h14c := e14 _ _ h12c
  have h14d := e14 _ _ h12
  refine q_when (b := false) (et_is (et_or (a := false) (b := false) (et_is (et_not (et_B (b := true) (ev_cb (ea_cons (ev_var rfl) (ea_cons ev_c ea_nil)) fun H1 e1 Q1 q1 => ⟨.ref ft, "tuple", rfl, .tup (e1 _ _ hft), q1 H1 (Ex.refl _)⟩))) rfl) fun _ => et_is (et_or (a := false) (b := false)
    (et_test (ev_opU (ev_var rfl) (eu_tup (ea_cons (ev_var rfl) (ea_cons (ev_var rfl) ea_nil)) (by simp)) fun p H1 hp e1 H2 e2 Q2 q2 => ⟨_, _, two_dp ((e1.trans e2) _ _ hft) ((e1.trans e2) _ _ hf1) ((e1.trans e2) _ _ hf2), two_dp (e2 _ _ hp) ((e1.trans e2) _ _ h14c) ((e1.trans e2) _ _ h14d), two_shaped _ _, two_shaped _ _, by rw [eqv_two]; exact q2 H2 (Ex.refl _)⟩))
    fun _ => et_test (ev_chg rfl rfl rfl rfl rfl s2' s1' e8d (hq.mono e8d) h14d h14c fun u v D H1 Q1 g1 g2 g3 g4 g5 => ⟨D, D, g1, g2, g3, g3, by rw [g4]; exact g5⟩)) rfl) rfl) (fun z => nomatch z) fun _ H15 e15 => ?_
  have e8e := e8d.trans e15
  refine q_app (l := l1) (e15 _ _ hf1) (ev_op (ev_var rfl) ev_c (rv_ixT (K := K) (st_of (e15 _ _ hft)) (v := .ref l1) (i := 0) (atI_nat (j := 0) rfl))) ev_c (by rw [List.length_map]; have := List.length_filter_le (fun n => !decide (n ∈ ansL (ddE es) P9)) (ansL (ddE es5) P9); have := ans_len (ddE es5) P9; omega) fun H16 e16 => ?_
  have e8f : Ex C8 (upd H16 l1 (.lst (nats ((ansL (ddE es5) P9).filter fun n => !decide (n ∈ ansL (ddE es) P9)) ++ [.int 7]))) := (e8e.trans e16).mut (fresh_back e8c hl1)
  have keep : ∀ {a : Addr} {o : HO}, H12 a = some o → upd H16 l1 (.lst (nats ((ansL (ddE es5) P9).filter fun n => !decide (n ∈ ansL (ddE es) P9)) ++ [.int 7])) a = some o := fun {a o} ha => by
    rw [upd_ne (own_ne ha hl1)]
    exact (e14.trans (e15.trans e16)) _ _ ha
  generalize upd H16 l1 (.lst (nats ((ansL (ddE es5) P9).filter fun n => !decide (n ∈ ansL (ddE es) P9)) ++ [.int 7])) = H17 at e8f keep ⊢
  refine s_ret (ev_is (ev_andV (a := true) (b := true) (ev_chg rfl rfl rfl rfl rfl s1' s2' e8f (hq.mono e8f) (keep h12c) (keep h12) fun u v D H1 Q1 g1 g2 g3 g4 g5 => ⟨D, D, g1, g2, g3, g3, by rw [g4]; exact g5⟩) fun _ => ev_opL1 (el_call (ea_cons (ev_var rfl) (ea_cons (ev_var rfl) ea_nil)) fun H1 e1 Q1 q1 E1 => ⟨_, C8, s1, q, _, _, _, P9, rfl, s1', e8f.trans e1, hq.mono (e8f.trans e1), q1⟩) (fun H1 e1 => ev_var rfl) fun p H1 hp e1 H2 e2 Q2 q2 => ⟨dN _, dN _, .lst (sq_of (e2 _ _ hp)) (dp_nats _), .lst (sq_of ((e1.trans e2) _ _ (keep h12b))) (dp_nats _), nats_lay _, nats_lay _, by rw [eqv_dN]; exact q2 H2 (Ex.refl _)⟩) rfl) fun H18 e18 => k H18
end Fc
set_option maxHeartbeats 0
/-! All joined; the end. -/
namespace Fc
open PySem PySem.Spec PyProof.Rows L2
section
variable {P : Program} {w : World} {K : PySem.W.Frag} {mg : Str → Option Value} {base h : Heap}
theorem tx (X : K.In h) (N : h.Ns mainGlobals mg) (c : He.SaysD fa fn K) : Tx K mg := ⟨He.str_ok X N (c.fact 64 (f := .str "LETTERS" "abcdefghijklmnopqrstuvwxyz") rfl),
  He.str_ok X N (c.fact 65 (f := .str "GREAT" "ABCDEFGHIJKLMNOPQRSTUVWXYZ") rfl),
  He.str_ok X N (c.fact 66 (f := .str "FIGURES" "0123456789") rfl),
  He.free_ok X N (c.fact 52 (f := .free "len") rfl),
  He.free_ok X N (c.fact 53 (f := .free "range") rfl),
  He.free_ok X N (c.fact 54 (f := .free "list") rfl),
  He.free_ok X N (c.fact 55 (f := .free "dict") rfl),
  He.free_ok X N (c.fact 56 (f := .free "sorted") rfl),
  He.free_ok X N (c.fact 57 (f := .free "set") rfl),
  He.free_ok X N (c.fact 58 (f := .free "all") rfl),
  He.free_ok X N (c.fact 59 (f := .free "enumerate") rfl),
  He.free_ok X N (c.fact 60 (f := .free "int") rfl),
  He.free_ok X N (c.fact 61 (f := .free "min") rfl),
  He.free_ok X N (c.fact 62 (f := .free "isinstance") rfl),
  He.free_ok X N (c.fact 63 (f := .free "tuple") rfl),
  He.cls_ok (c.fact 67 (f := .cls "Piece") rfl),
  He.noat_ok (c.fact 69 (f := .noat "Piece" "held_makes") rfl),
  He.noat_ok (c.fact 70 (f := .noat "Piece" "lengths") rfl),
  He.noat_ok (c.fact 71 (f := .noat "Piece" "table") rfl),
  He.cls_ok (c.fact 72 (f := .cls "Stand") rfl),
  He.noat_ok (c.fact 74 (f := .noat "Stand" "texts") rfl),
  He.noat_ok (c.fact 75 (f := .noat "Stand" "table") rfl),
  He.noat_ok (c.fact 76 (f := .noat "Stand" "lengths") rfl),
  He.cls_ok (c.fact 77 (f := .cls "House") rfl),
  He.noat_ok (c.fact 79 (f := .noat "House" "time") rfl),
  He.noat_ok (c.fact 80 (f := .noat "House" "ever") rfl),
  He.noat_ok (c.fact 81 (f := .noat "House" "alive") rfl),
  He.noat_ok (c.fact 82 (f := .noat "House" "made") rfl),
  He.noat_ok (c.fact 83 (f := .noat "House" "open_makes") rfl),
  He.noat_ok (c.fact 84 (f := .noat "House" "sealed") rfl),
  He.noat_ok (c.fact 85 (f := .noat "House" "kept") rfl)⟩
theorem g_is_name (X : K.In h) (N : h.Ns mainGlobals mg) (c : He.SaysD fa fn K) : Gd K mg "is_name" s_is_name := ⟨by
  obtain ⟨fd, F⟩ := c.def_ 0 (d := d_is_name) rfl
  exact ⟨_, fd, F, He.glo_ok X N (c.fact 0 (f := .glo "is_name") rfl)⟩⟩
theorem g_look_at_document (X : K.In h) (N : h.Ns mainGlobals mg) (c : He.SaysD fa fn K) : Gd K mg "look_at_document" s_look_at_document := ⟨by
  obtain ⟨fd, F⟩ := c.def_ 1 (d := d_look_at_document) rfl
  exact ⟨_, fd, F, He.glo_ok X N (c.fact 1 (f := .glo "look_at_document") rfl)⟩⟩
theorem g_lowered (X : K.In h) (N : h.Ns mainGlobals mg) (c : He.SaysD fa fn K) : Gd K mg "lowered" s_lowered := ⟨by
  obtain ⟨fd, F⟩ := c.def_ 2 (d := d_lowered) rfl
  exact ⟨_, fd, F, He.glo_ok X N (c.fact 2 (f := .glo "lowered") rfl)⟩⟩
theorem g_words_of (X : K.In h) (N : h.Ns mainGlobals mg) (c : He.SaysD fa fn K) : Gd K mg "words_of" s_words_of := ⟨by
  obtain ⟨fd, F⟩ := c.def_ 3 (d := d_words_of) rfl
  exact ⟨_, fd, F, He.glo_ok X N (c.fact 3 (f := .glo "words_of") rfl)⟩⟩
theorem g_look_at_pattern (X : K.In h) (N : h.Ns mainGlobals mg) (c : He.SaysD fa fn K) : Gd K mg "look_at_pattern" s_look_at_pattern := ⟨by
  obtain ⟨fd, F⟩ := c.def_ 4 (d := d_look_at_pattern) rfl
  exact ⟨_, fd, F, He.glo_ok X N (c.fact 4 (f := .glo "look_at_pattern") rfl)⟩⟩
theorem g_spread (X : K.In h) (N : h.Ns mainGlobals mg) (c : He.SaysD fa fn K) : Gd K mg "spread" s_spread := ⟨by
  obtain ⟨fd, F⟩ := c.def_ 5 (d := d_spread) rfl
  exact ⟨_, fd, F, He.glo_ok X N (c.fact 5 (f := .glo "spread") rfl)⟩⟩
theorem g_stepped (X : K.In h) (N : h.Ns mainGlobals mg) (c : He.SaysD fa fn K) : Gd K mg "stepped" s_stepped := ⟨by
  obtain ⟨fd, F⟩ := c.def_ 6 (d := d_stepped) rfl
  exact ⟨_, fd, F, He.glo_ok X N (c.fact 6 (f := .glo "stepped") rfl)⟩⟩
theorem g_is_fit (X : K.In h) (N : h.Ns mainGlobals mg) (c : He.SaysD fa fn K) : Gd K mg "is_fit" s_is_fit := ⟨by
  obtain ⟨fd, F⟩ := c.def_ 7 (d := d_is_fit) rfl
  exact ⟨_, fd, F, He.glo_ok X N (c.fact 7 (f := .glo "is_fit") rfl)⟩⟩
theorem g_words_like (X : K.In h) (N : h.Ns mainGlobals mg) (c : He.SaysD fa fn K) : Gd K mg "words_like" s_words_like := ⟨by
  obtain ⟨fd, F⟩ := c.def_ 8 (d := d_words_like) rfl
  exact ⟨_, fd, F, He.glo_ok X N (c.fact 8 (f := .glo "words_like") rfl)⟩⟩
theorem g_fields_named (X : K.In h) (N : h.Ns mainGlobals mg) (c : He.SaysD fa fn K) : Gd K mg "fields_named" s_fields_named := ⟨by
  obtain ⟨fd, F⟩ := c.def_ 9 (d := d_fields_named) rfl
  exact ⟨_, fd, F, He.glo_ok X N (c.fact 9 (f := .glo "fields_named") rfl)⟩⟩
theorem g_words_named (X : K.In h) (N : h.Ns mainGlobals mg) (c : He.SaysD fa fn K) : Gd K mg "words_named" s_words_named := ⟨by
  obtain ⟨fd, F⟩ := c.def_ 10 (d := d_words_named) rfl
  exact ⟨_, fd, F, He.glo_ok X N (c.fact 10 (f := .glo "words_named") rfl)⟩⟩
theorem g_has_words (X : K.In h) (N : h.Ns mainGlobals mg) (c : He.SaysD fa fn K) : Gd K mg "has_words" s_has_words := ⟨by
  obtain ⟨fd, F⟩ := c.def_ 11 (d := d_has_words) rfl
  exact ⟨_, fd, F, He.glo_ok X N (c.fact 11 (f := .glo "has_words") rfl)⟩⟩
theorem g_row_from (X : K.In h) (N : h.Ns mainGlobals mg) (c : He.SaysD fa fn K) : Gd K mg "row_from" s_row_from := ⟨by
  obtain ⟨fd, F⟩ := c.def_ 12 (d := d_row_from) rfl
  exact ⟨_, fd, F, He.glo_ok X N (c.fact 12 (f := .glo "row_from") rfl)⟩⟩
theorem g_within (X : K.In h) (N : h.Ns mainGlobals mg) (c : He.SaysD fa fn K) : Gd K mg "within" s_within := ⟨by
  obtain ⟨fd, F⟩ := c.def_ 13 (d := d_within) rfl
  exact ⟨_, fd, F, He.glo_ok X N (c.fact 13 (f := .glo "within") rfl)⟩⟩
theorem g_thin_word (X : K.In h) (N : h.Ns mainGlobals mg) (c : He.SaysD fa fn K) : Gd K mg "thin_word" s_thin_word := ⟨by
  obtain ⟨fd, F⟩ := c.def_ 14 (d := d_thin_word) rfl
  exact ⟨_, fd, F, He.glo_ok X N (c.fact 14 (f := .glo "thin_word") rfl)⟩⟩
theorem g_all_places (X : K.In h) (N : h.Ns mainGlobals mg) (c : He.SaysD fa fn K) : Gd K mg "all_places" s_all_places := ⟨by
  obtain ⟨fd, F⟩ := c.def_ 15 (d := d_all_places) rfl
  exact ⟨_, fd, F, He.glo_ok X N (c.fact 15 (f := .glo "all_places") rfl)⟩⟩
theorem g_near_places (X : K.In h) (N : h.Ns mainGlobals mg) (c : He.SaysD fa fn K) : Gd K mg "near_places" s_near_places := ⟨by
  obtain ⟨fd, F⟩ := c.def_ 16 (d := d_near_places) rfl
  exact ⟨_, fd, F, He.glo_ok X N (c.fact 16 (f := .glo "near_places") rfl)⟩⟩
theorem g_chain_from (X : K.In h) (N : h.Ns mainGlobals mg) (c : He.SaysD fa fn K) : Gd K mg "chain_from" s_chain_from := ⟨by
  obtain ⟨fd, F⟩ := c.def_ 17 (d := d_chain_from) rfl
  exact ⟨_, fd, F, He.glo_ok X N (c.fact 17 (f := .glo "chain_from") rfl)⟩⟩
theorem g_chain_places (X : K.In h) (N : h.Ns mainGlobals mg) (c : He.SaysD fa fn K) : Gd K mg "chain_places" s_chain_places := ⟨by
  obtain ⟨fd, F⟩ := c.def_ 18 (d := d_chain_places) rfl
  exact ⟨_, fd, F, He.glo_ok X N (c.fact 18 (f := .glo "chain_places") rfl)⟩⟩
theorem g_any_of (X : K.In h) (N : h.Ns mainGlobals mg) (c : He.SaysD fa fn K) : Gd K mg "any_of" s_any_of := ⟨by
  obtain ⟨fd, F⟩ := c.def_ 19 (d := d_any_of) rfl
  exact ⟨_, fd, F, He.glo_ok X N (c.fact 19 (f := .glo "any_of") rfl)⟩⟩
theorem g_rows_of (X : K.In h) (N : h.Ns mainGlobals mg) (c : He.SaysD fa fn K) : Gd K mg "rows_of" s_rows_of := ⟨by
  obtain ⟨fd, F⟩ := c.def_ 20 (d := d_rows_of) rfl
  exact ⟨_, fd, F, He.glo_ok X N (c.fact 20 (f := .glo "rows_of") rfl)⟩⟩
theorem g_placed (X : K.In h) (N : h.Ns mainGlobals mg) (c : He.SaysD fa fn K) : Gd K mg "placed" s_placed := ⟨by
  obtain ⟨fd, F⟩ := c.def_ 21 (d := d_placed) rfl
  exact ⟨_, fd, F, He.glo_ok X N (c.fact 21 (f := .glo "placed") rfl)⟩⟩
theorem g_found_in (X : K.In h) (N : h.Ns mainGlobals mg) (c : He.SaysD fa fn K) : Gd K mg "found_in" s_found_in := ⟨by
  obtain ⟨fd, F⟩ := c.def_ 22 (d := d_found_in) rfl
  exact ⟨_, fd, F, He.glo_ok X N (c.fact 22 (f := .glo "found_in") rfl)⟩⟩
theorem g_both_of (X : K.In h) (N : h.Ns mainGlobals mg) (c : He.SaysD fa fn K) : Gd K mg "both_of" s_both_of := ⟨by
  obtain ⟨fd, F⟩ := c.def_ 23 (d := d_both_of) rfl
  exact ⟨_, fd, F, He.glo_ok X N (c.fact 23 (f := .glo "both_of") rfl)⟩⟩
theorem g_less_of (X : K.In h) (N : h.Ns mainGlobals mg) (c : He.SaysD fa fn K) : Gd K mg "less_of" s_less_of := ⟨by
  obtain ⟨fd, F⟩ := c.def_ 24 (d := d_less_of) rfl
  exact ⟨_, fd, F, He.glo_ok X N (c.fact 24 (f := .glo "less_of") rfl)⟩⟩
theorem g_answers_of (X : K.In h) (N : h.Ns mainGlobals mg) (c : He.SaysD fa fn K) : Gd K mg "answers_of" s_answers_of := ⟨by
  obtain ⟨fd, F⟩ := c.def_ 25 (d := d_answers_of) rfl
  exact ⟨_, fd, F, He.glo_ok X N (c.fact 25 (f := .glo "answers_of") rfl)⟩⟩
theorem g_changed (X : K.In h) (N : h.Ns mainGlobals mg) (c : He.SaysD fa fn K) : Gd K mg "changed" s_changed := ⟨by
  obtain ⟨fd, F⟩ := c.def_ 26 (d := d_changed) rfl
  exact ⟨_, fd, F, He.glo_ok X N (c.fact 26 (f := .glo "changed") rfl)⟩⟩
theorem g_look_at_makes (X : K.In h) (N : h.Ns mainGlobals mg) (c : He.SaysD fa fn K) : Gd K mg "look_at_makes" s_look_at_makes := ⟨by
  obtain ⟨fd, F⟩ := c.def_ 27 (d := d_look_at_makes) rfl
  exact ⟨_, fd, F, He.glo_ok X N (c.fact 27 (f := .glo "look_at_makes") rfl)⟩⟩
theorem g_counted (X : K.In h) (N : h.Ns mainGlobals mg) (c : He.SaysD fa fn K) : Gd K mg "counted" s_counted := ⟨by
  obtain ⟨fd, F⟩ := c.def_ 28 (d := d_counted) rfl
  exact ⟨_, fd, F, He.glo_ok X N (c.fact 28 (f := .glo "counted") rfl)⟩⟩
theorem g_copied_postings (X : K.In h) (N : h.Ns mainGlobals mg) (c : He.SaysD fa fn K) : Gd K mg "copied_postings" s_copied_postings := ⟨by
  obtain ⟨fd, F⟩ := c.def_ 29 (d := d_copied_postings) rfl
  exact ⟨_, fd, F, He.glo_ok X N (c.fact 29 (f := .glo "copied_postings") rfl)⟩⟩
theorem g_Piece_init (X : K.In h) (N : h.Ns mainGlobals mg) (c : He.SaysD fa fn K) : Gc K mg (adPiece K) "Piece" "Piece.__init__" s_Piece_init := ⟨by
  obtain ⟨fd, F⟩ := c.def_ 30 (d := d_Piece_init) rfl
  exact ⟨_, fd, F, He.mkr_ok (c.fact 68 (f := .mkr "Piece") rfl), He.glo_ok X N (c.fact 49 (f := .glo "Piece") rfl)⟩⟩
theorem g_Piece_take_in (X : K.In h) (N : h.Ns mainGlobals mg) (c : He.SaysD fa fn K) : Gm K (adPiece K) "take_in" "Piece.take_in" s_Piece_take_in := ⟨by
  obtain ⟨fd, F⟩ := c.def_ 31 (d := d_Piece_take_in) rfl
  exact ⟨_, fd, F, He.meth_ok (c.fact 86 (f := .meth "Piece" "take_in") rfl)⟩⟩
theorem g_Piece_makes (X : K.In h) (N : h.Ns mainGlobals mg) (c : He.SaysD fa fn K) : Gm K (adPiece K) "makes" "Piece.makes" s_Piece_makes := ⟨by
  obtain ⟨fd, F⟩ := c.def_ 32 (d := d_Piece_makes) rfl
  exact ⟨_, fd, F, He.meth_ok (c.fact 87 (f := .meth "Piece" "makes") rfl)⟩⟩
theorem g_Piece_fields (X : K.In h) (N : h.Ns mainGlobals mg) (c : He.SaysD fa fn K) : Gm K (adPiece K) "fields" "Piece.fields" s_Piece_fields := ⟨by
  obtain ⟨fd, F⟩ := c.def_ 33 (d := d_Piece_fields) rfl
  exact ⟨_, fd, F, He.meth_ok (c.fact 88 (f := .meth "Piece" "fields") rfl)⟩⟩
theorem g_Piece_words (X : K.In h) (N : h.Ns mainGlobals mg) (c : He.SaysD fa fn K) : Gm K (adPiece K) "words" "Piece.words" s_Piece_words := ⟨by
  obtain ⟨fd, F⟩ := c.def_ 34 (d := d_Piece_words) rfl
  exact ⟨_, fd, F, He.meth_ok (c.fact 89 (f := .meth "Piece" "words") rfl)⟩⟩
theorem g_Piece_postings (X : K.In h) (N : h.Ns mainGlobals mg) (c : He.SaysD fa fn K) : Gm K (adPiece K) "postings" "Piece.postings" s_Piece_postings := ⟨by
  obtain ⟨fd, F⟩ := c.def_ 35 (d := d_Piece_postings) rfl
  exact ⟨_, fd, F, He.meth_ok (c.fact 90 (f := .meth "Piece" "postings") rfl)⟩⟩
theorem g_Piece_length (X : K.In h) (N : h.Ns mainGlobals mg) (c : He.SaysD fa fn K) : Gm K (adPiece K) "length" "Piece.length" s_Piece_length := ⟨by
  obtain ⟨fd, F⟩ := c.def_ 36 (d := d_Piece_length) rfl
  exact ⟨_, fd, F, He.meth_ok (c.fact 91 (f := .meth "Piece" "length") rfl)⟩⟩
theorem g_Stand_init (X : K.In h) (N : h.Ns mainGlobals mg) (c : He.SaysD fa fn K) : Gc K mg (adStand K) "Stand" "Stand.__init__" s_Stand_init := ⟨by
  obtain ⟨fd, F⟩ := c.def_ 37 (d := d_Stand_init) rfl
  exact ⟨_, fd, F, He.mkr_ok (c.fact 73 (f := .mkr "Stand") rfl), He.glo_ok X N (c.fact 50 (f := .glo "Stand") rfl)⟩⟩
theorem g_Stand_gather (X : K.In h) (N : h.Ns mainGlobals mg) (c : He.SaysD fa fn K) : Gm K (adStand K) "gather" "Stand.gather" s_Stand_gather := ⟨by
  obtain ⟨fd, F⟩ := c.def_ 38 (d := d_Stand_gather) rfl
  exact ⟨_, fd, F, He.meth_ok (c.fact 92 (f := .meth "Stand" "gather") rfl)⟩⟩
theorem g_Stand_documents (X : K.In h) (N : h.Ns mainGlobals mg) (c : He.SaysD fa fn K) : Gm K (adStand K) "documents" "Stand.documents" s_Stand_documents := ⟨by
  obtain ⟨fd, F⟩ := c.def_ 39 (d := d_Stand_documents) rfl
  exact ⟨_, fd, F, He.meth_ok (c.fact 93 (f := .meth "Stand" "documents") rfl)⟩⟩
theorem g_Stand_fields (X : K.In h) (N : h.Ns mainGlobals mg) (c : He.SaysD fa fn K) : Gm K (adStand K) "fields" "Stand.fields" s_Stand_fields := ⟨by
  obtain ⟨fd, F⟩ := c.def_ 40 (d := d_Stand_fields) rfl
  exact ⟨_, fd, F, He.meth_ok (c.fact 94 (f := .meth "Stand" "fields") rfl)⟩⟩
theorem g_Stand_words (X : K.In h) (N : h.Ns mainGlobals mg) (c : He.SaysD fa fn K) : Gm K (adStand K) "words" "Stand.words" s_Stand_words := ⟨by
  obtain ⟨fd, F⟩ := c.def_ 41 (d := d_Stand_words) rfl
  exact ⟨_, fd, F, He.meth_ok (c.fact 95 (f := .meth "Stand" "words") rfl)⟩⟩
theorem g_Stand_postings (X : K.In h) (N : h.Ns mainGlobals mg) (c : He.SaysD fa fn K) : Gm K (adStand K) "postings" "Stand.postings" s_Stand_postings := ⟨by
  obtain ⟨fd, F⟩ := c.def_ 42 (d := d_Stand_postings) rfl
  exact ⟨_, fd, F, He.meth_ok (c.fact 96 (f := .meth "Stand" "postings") rfl)⟩⟩
theorem g_House_init (X : K.In h) (N : h.Ns mainGlobals mg) (c : He.SaysD fa fn K) : Gc K mg (adHouse K) "House" "House.__init__" s_House_init := ⟨by
  obtain ⟨fd, F⟩ := c.def_ 43 (d := d_House_init) rfl
  exact ⟨_, fd, F, He.mkr_ok (c.fact 78 (f := .mkr "House") rfl), He.glo_ok X N (c.fact 51 (f := .glo "House") rfl)⟩⟩
theorem g_House_look_for (X : K.In h) (N : h.Ns mainGlobals mg) (c : He.SaysD fa fn K) : Gm K (adHouse K) "look_for" "House.look_for" s_House_look_for := ⟨by
  obtain ⟨fd, F⟩ := c.def_ 44 (d := d_House_look_for) rfl
  exact ⟨_, fd, F, He.meth_ok (c.fact 97 (f := .meth "House" "look_for") rfl)⟩⟩
theorem g_House_add_make (X : K.In h) (N : h.Ns mainGlobals mg) (c : He.SaysD fa fn K) : Gm K (adHouse K) "add_make" "House.add_make" s_House_add_make := ⟨by
  obtain ⟨fd, F⟩ := c.def_ 45 (d := d_House_add_make) rfl
  exact ⟨_, fd, F, He.meth_ok (c.fact 98 (f := .meth "House" "add_make") rfl)⟩⟩
theorem g_House_put (X : K.In h) (N : h.Ns mainGlobals mg) (c : He.SaysD fa fn K) : Gm K (adHouse K) "put" "House.put" s_House_put := ⟨by
  obtain ⟨fd, F⟩ := c.def_ 46 (d := d_House_put) rfl
  exact ⟨_, fd, F, He.meth_ok (c.fact 99 (f := .meth "House" "put") rfl)⟩⟩
theorem g_House_change (X : K.In h) (N : h.Ns mainGlobals mg) (c : He.SaysD fa fn K) : Gm K (adHouse K) "change" "House.change" s_House_change := ⟨by
  obtain ⟨fd, F⟩ := c.def_ 47 (d := d_House_change) rfl
  exact ⟨_, fd, F, He.meth_ok (c.fact 100 (f := .meth "House" "change") rfl)⟩⟩
theorem g_House_take (X : K.In h) (N : h.Ns mainGlobals mg) (c : He.SaysD fa fn K) : Gm K (adHouse K) "take" "House.take" s_House_take := ⟨by
  obtain ⟨fd, F⟩ := c.def_ 48 (d := d_House_take) rfl
  exact ⟨_, fd, F, He.meth_ok (c.fact 101 (f := .meth "House" "take") rfl)⟩⟩
theorem g_House_seal (X : K.In h) (N : h.Ns mainGlobals mg) (c : He.SaysD fa fn K) : Gm K (adHouse K) "seal" "House.seal" s_House_seal := ⟨by
  obtain ⟨fd, F⟩ := c.def_ 49 (d := d_House_seal) rfl
  exact ⟨_, fd, F, He.meth_ok (c.fact 102 (f := .meth "House" "seal") rfl)⟩⟩
theorem g_House_piece_at (X : K.In h) (N : h.Ns mainGlobals mg) (c : He.SaysD fa fn K) : Gm K (adHouse K) "piece_at" "House.piece_at" s_House_piece_at := ⟨by
  obtain ⟨fd, F⟩ := c.def_ 50 (d := d_House_piece_at) rfl
  exact ⟨_, fd, F, He.meth_ok (c.fact 103 (f := .meth "House" "piece_at") rfl)⟩⟩
theorem g_House_all_pieces (X : K.In h) (N : h.Ns mainGlobals mg) (c : He.SaysD fa fn K) : Gm K (adHouse K) "all_pieces" "House.all_pieces" s_House_all_pieces := ⟨by
  obtain ⟨fd, F⟩ := c.def_ 51 (d := d_House_all_pieces) rfl
  exact ⟨_, fd, F, He.meth_ok (c.fact 104 (f := .meth "House" "all_pieces") rfl)⟩⟩
theorem g_House_stand_of (X : K.In h) (N : h.Ns mainGlobals mg) (c : He.SaysD fa fn K) : Gm K (adHouse K) "stand_of" "House.stand_of" s_House_stand_of := ⟨by
  obtain ⟨fd, F⟩ := c.def_ 52 (d := d_House_stand_of) rfl
  exact ⟨_, fd, F, He.meth_ok (c.fact 105 (f := .meth "House" "stand_of") rfl)⟩⟩
theorem g_House_now (X : K.In h) (N : h.Ns mainGlobals mg) (c : He.SaysD fa fn K) : Gm K (adHouse K) "now" "House.now" s_House_now := ⟨by
  obtain ⟨fd, F⟩ := c.def_ 53 (d := d_House_now) rfl
  exact ⟨_, fd, F, He.meth_ok (c.fact 106 (f := .meth "House" "now") rfl)⟩⟩
theorem g_law_mix (X : K.In h) (N : h.Ns mainGlobals mg) (c : He.SaysD fa fn K) : Gd K mg "_law_mix" s_law_mix := ⟨by
  obtain ⟨fd, F⟩ := c.def_ 54 (d := d_law_mix) rfl
  exact ⟨_, fd, F, He.glo_ok X N (c.fact 30 (f := .glo "_law_mix") rfl)⟩⟩
theorem g_law_draws (X : K.In h) (N : h.Ns mainGlobals mg) (c : He.SaysD fa fn K) : Gd K mg "_law_draws" s_law_draws := ⟨by
  obtain ⟨fd, F⟩ := c.def_ 55 (d := d_law_draws) rfl
  exact ⟨_, fd, F, He.glo_ok X N (c.fact 31 (f := .glo "_law_draws") rfl)⟩⟩
theorem g_law_pop (X : K.In h) (N : h.Ns mainGlobals mg) (c : He.SaysD fa fn K) : Gd K mg "_law_pop" s_law_pop := ⟨by
  obtain ⟨fd, F⟩ := c.def_ 56 (d := d_law_pop) rfl
  exact ⟨_, fd, F, He.glo_ok X N (c.fact 32 (f := .glo "_law_pop") rfl)⟩⟩
theorem g_law_pool (X : K.In h) (N : h.Ns mainGlobals mg) (c : He.SaysD fa fn K) : Gd K mg "_law_pool" s_law_pool := ⟨by
  obtain ⟨fd, F⟩ := c.def_ 57 (d := d_law_pool) rfl
  exact ⟨_, fd, F, He.glo_ok X N (c.fact 33 (f := .glo "_law_pool") rfl)⟩⟩
theorem g_law_words (X : K.In h) (N : h.Ns mainGlobals mg) (c : He.SaysD fa fn K) : Gd K mg "_law_words" s_law_words := ⟨by
  obtain ⟨fd, F⟩ := c.def_ 58 (d := d_law_words) rfl
  exact ⟨_, fd, F, He.glo_ok X N (c.fact 34 (f := .glo "_law_words") rfl)⟩⟩
theorem g_law_text (X : K.In h) (N : h.Ns mainGlobals mg) (c : He.SaysD fa fn K) : Gd K mg "_law_text" s_law_text := ⟨by
  obtain ⟨fd, F⟩ := c.def_ 59 (d := d_law_text) rfl
  exact ⟨_, fd, F, He.glo_ok X N (c.fact 35 (f := .glo "_law_text") rfl)⟩⟩
theorem g_law_document (X : K.In h) (N : h.Ns mainGlobals mg) (c : He.SaysD fa fn K) : Gd K mg "_law_document" s_law_document := ⟨by
  obtain ⟨fd, F⟩ := c.def_ 60 (d := d_law_document) rfl
  exact ⟨_, fd, F, He.glo_ok X N (c.fact 36 (f := .glo "_law_document") rfl)⟩⟩
theorem g_law_filed (X : K.In h) (N : h.Ns mainGlobals mg) (c : He.SaysD fa fn K) : Gd K mg "_law_filed" s_law_filed := ⟨by
  obtain ⟨fd, F⟩ := c.def_ 61 (d := d_law_filed) rfl
  exact ⟨_, fd, F, He.glo_ok X N (c.fact 37 (f := .glo "_law_filed") rfl)⟩⟩
theorem g_law_house (X : K.In h) (N : h.Ns mainGlobals mg) (c : He.SaysD fa fn K) : Gd K mg "_law_house" s_law_house := ⟨by
  obtain ⟨fd, F⟩ := c.def_ 62 (d := d_law_house) rfl
  exact ⟨_, fd, F, He.glo_ok X N (c.fact 38 (f := .glo "_law_house") rfl)⟩⟩
theorem g_law_field (X : K.In h) (N : h.Ns mainGlobals mg) (c : He.SaysD fa fn K) : Gd K mg "_law_field" s_law_field := ⟨by
  obtain ⟨fd, F⟩ := c.def_ 63 (d := d_law_field) rfl
  exact ⟨_, fd, F, He.glo_ok X N (c.fact 39 (f := .glo "_law_field") rfl)⟩⟩
theorem g_law_pattern (X : K.In h) (N : h.Ns mainGlobals mg) (c : He.SaysD fa fn K) : Gd K mg "_law_pattern" s_law_pattern := ⟨by
  obtain ⟨fd, F⟩ := c.def_ 64 (d := d_law_pattern) rfl
  exact ⟨_, fd, F, He.glo_ok X N (c.fact 40 (f := .glo "_law_pattern") rfl)⟩⟩
theorem g_law_question (X : K.In h) (N : h.Ns mainGlobals mg) (c : He.SaysD fa fn K) : Gd K mg "_law_question" s_law_question := ⟨by
  obtain ⟨fd, F⟩ := c.def_ 65 (d := d_law_question) rfl
  exact ⟨_, fd, F, He.glo_ok X N (c.fact 41 (f := .glo "_law_question") rfl)⟩⟩
theorem g_law_fits (X : K.In h) (N : h.Ns mainGlobals mg) (c : He.SaysD fa fn K) : Gd K mg "_law_fits" s_law_fits := ⟨by
  obtain ⟨fd, F⟩ := c.def_ 66 (d := d_law_fits) rfl
  exact ⟨_, fd, F, He.glo_ok X N (c.fact 42 (f := .glo "_law_fits") rfl)⟩⟩
theorem g_law_chained (X : K.In h) (N : h.Ns mainGlobals mg) (c : He.SaysD fa fn K) : Gd K mg "_law_chained" s_law_chained := ⟨by
  obtain ⟨fd, F⟩ := c.def_ 67 (d := d_law_chained) rfl
  exact ⟨_, fd, F, He.glo_ok X N (c.fact 43 (f := .glo "_law_chained") rfl)⟩⟩
theorem g_law_near (X : K.In h) (N : h.Ns mainGlobals mg) (c : He.SaysD fa fn K) : Gd K mg "_law_near" s_law_near := ⟨by
  obtain ⟨fd, F⟩ := c.def_ 68 (d := d_law_near) rfl
  exact ⟨_, fd, F, He.glo_ok X N (c.fact 44 (f := .glo "_law_near") rfl)⟩⟩
theorem g_law_stands (X : K.In h) (N : h.Ns mainGlobals mg) (c : He.SaysD fa fn K) : Gd K mg "_law_stands" s_law_stands := ⟨by
  obtain ⟨fd, F⟩ := c.def_ 69 (d := d_law_stands) rfl
  exact ⟨_, fd, F, He.glo_ok X N (c.fact 45 (f := .glo "_law_stands") rfl)⟩⟩
theorem g_law_holds (X : K.In h) (N : h.Ns mainGlobals mg) (c : He.SaysD fa fn K) : Gd K mg "_law_holds" s_law_holds := ⟨by
  obtain ⟨fd, F⟩ := c.def_ 70 (d := d_law_holds) rfl
  exact ⟨_, fd, F, He.glo_ok X N (c.fact 46 (f := .glo "_law_holds") rfl)⟩⟩
theorem g_law_goes_on (X : K.In h) (N : h.Ns mainGlobals mg) (c : He.SaysD fa fn K) : Gd K mg "_law_goes_on" s_law_goes_on := ⟨by
  obtain ⟨fd, F⟩ := c.def_ 71 (d := d_law_goes_on) rfl
  exact ⟨_, fd, F, He.glo_ok X N (c.fact 47 (f := .glo "_law_goes_on") rfl)⟩⟩
theorem ok0_law_question (k : Nat) (G : Gd K mg "_law_question" s_law_question) : OkF P w K mg base (k + 1) "_law_question" ["_law_draws_here", "_law_pool_here", "_law_deep"] (sp_law_question 0) := by
  refine G.ok (k := k) sc_law_question (fun _ _ _ _ _ _ us hl => match us, hl with | [_, _, _], _ => rfl) (fun vs H Q E h => ?_) (fun f cdv A outer s H vs Q E hr h => ?_)
  · obtain ⟨_, _, _, _, _, h2, _⟩ := h; exact absurd h2 (Nat.not_lt_zero _)
  · obtain ⟨_, _, _, _, _, h2, _⟩ := h; exact absurd h2 (Nat.not_lt_zero _)
theorem ok0_law_holds (k : Nat) (G : Gd K mg "_law_holds" s_law_holds) : OkF P w K mg base (k + 1) "_law_holds" ["_law_fields", "_law_question_here"] (sp_law_holds 0) := by
  refine G.ok (k := k) sc_law_holds (fun _ _ _ _ _ _ us hl => match us, hl with | [_, _], _ => rfl) (fun vs H Q E h => ?_) (fun f cdv A outer s H vs Q E hr h => ?_)
  · obtain ⟨_, _, _, _, _, _, _, _, _, h2, _⟩ := h; exact h2.elim
  · obtain ⟨_, _, _, _, _, _, _, _, _, h2, _⟩ := h; exact h2.elim
theorem ok0_law_fits (k : Nat) (G : Gd K mg "_law_fits" s_law_fits) : OkF P w K mg base (k + 1) "_law_fits" ["_law_pattern_here", "_law_word"] (sp_law_fits 0) := by
  refine G.ok (k := k) sc_law_fits (fun _ _ _ _ _ _ us hl => match us, hl with | [_, _], _ => rfl) (fun vs H Q E h => ?_) (fun f cdv A outer s H vs Q E hr h => ?_)
  · obtain ⟨_, _, _, h2, _⟩ := h; exact absurd h2 (Nat.not_lt_zero _)
  · obtain ⟨_, _, _, h2, _⟩ := h; exact absurd h2 (Nat.not_lt_zero _)
theorem joined (X : K.In h) (N : h.Ns mainGlobals mg) (c : He.SaysD fa fn K) {fL : Addr} {fdL : FuncData} (F : FunD K "law" "law" (defArgs s_law) (defBody s_law) (defScope s_law) [] [] fL fdL) : FnOk P w K mg base CX0 97 fL fdL ["_law_script"] (sp_law K) := by
  have T := tx X N c
  have O_law_pop : OkF P w K mg base 1 "_law_pop" ["_law_draws_here"] sp_law_pop := ok_law_pop (g_law_pop X N c) T 
  have O_law_pool : OkF P w K mg base 2 "_law_pool" ["_law_draws_here"] sp_law_pool := ok_law_pool (g_law_pool X N c) T O_law_pop
  have O_House_init : OkC P w K mg base 1 (adHouse K) "House" ["self"] (sp_House_init K) := ok_House_init (g_House_init X N c) T 
  have O_law_words : OkF P w K mg base 2 "_law_words" ["_law_draws_here", "_law_pool_here", "_law_most"] sp_law_words := ok_law_words (g_law_words X N c) T O_law_pop
  have O_law_document : OkF P w K mg base 3 "_law_document" ["_law_draws_here", "_law_pool_here"] sp_law_document := ok_law_document (g_law_document X N c) T O_law_pop O_law_words
  have O_is_name : OkF P w K mg base 1 "is_name" ["text"] sp_is_name := ok_is_name (g_is_name X N c) T 
  have O_look_at_document : OkF P w K mg base 2 "look_at_document" ["document"] sp_look_at_document := ok_look_at_document (g_look_at_document X N c) T O_is_name
  have O_House_add_make : OkM P w K mg base 1 (adHouse K) "add_make" ["self", "number", "document"] (sp_House_add_make K) := ok_House_add_make (g_House_add_make X N c) T 
  have O_House_put : OkM P w K mg base 3 (adHouse K) "put" ["self", "document"] (sp_House_put K) := ok_House_put (g_House_put X N c) T O_look_at_document O_House_add_make
  have O_law_text : OkF P w K mg base 2 "_law_text" ["_law_draws_here", "_law_words_here"] sp_law_text := ok_law_text (g_law_text X N c) T O_law_pop
  have O_law_filed : OkF P w K mg base 3 "_law_filed" ["_law_draws_here", "_law_fields"] sp_law_filed := ok_law_filed (g_law_filed X N c) T O_law_text
  have O_look_at_makes : OkF P w K mg base 3 "look_at_makes" ["makes"] sp_look_at_makes := ok_look_at_makes (g_look_at_makes X N c) T O_look_at_document
  have O_lowered : OkF P w K mg base 1 "lowered" ["sign"] sp_lowered := ok_lowered (g_lowered X N c) T 
  have O_words_of : OkF P w K mg base 2 "words_of" ["text"] sp_words_of := ok_words_of (g_words_of X N c) T O_lowered
  have O_counted : OkF P w K mg base 3 "counted" ["document"] sp_counted := ok_counted (g_counted X N c) T O_words_of
  have O_Piece_take_in : OkM P w K mg base 1 (adPiece K) "take_in" ["self", "field", "make", "places"] (sp_Piece_take_in K) := ok_Piece_take_in (g_Piece_take_in X N c) T 
  have O_Piece_init : OkC P w K mg base 4 (adPiece K) "Piece" ["self", "makes"] (sp_Piece_init K) := ok_Piece_init (g_Piece_init X N c) T O_look_at_makes O_counted O_Piece_take_in
  have O_Piece_makes : OkM P w K mg base 1 (adPiece K) "makes" ["self"] (sp_Piece_makes K) := ok_Piece_makes (g_Piece_makes X N c) T 
  have O_House_seal : OkM P w K mg base 6 (adHouse K) "seal" ["self"] (sp_House_seal K) := ok_House_seal (g_House_seal X N c) T O_Piece_init O_Piece_makes
  have O_House_look_for : OkM P w K mg base 1 (adHouse K) "look_for" ["self", "number"] (sp_House_look_for K) := ok_House_look_for (g_House_look_for X N c) T 
  have O_House_take : OkM P w K mg base 2 (adHouse K) "take" ["self", "number"] (sp_House_take K) := ok_House_take (g_House_take X N c) T O_House_look_for
  have O_House_change : OkM P w K mg base 3 (adHouse K) "change" ["self", "number", "document"] (sp_House_change K) := ok_House_change (g_House_change X N c) T O_House_look_for O_look_at_document O_House_add_make
  have O_law_house : OkF P w K mg base 7 "_law_house" ["_law_draws_here", "_law_most"] (sp_law_house K) := ok_law_house (g_law_house X N c) T O_law_pool O_House_init O_law_pop O_law_document O_House_put O_law_filed O_House_seal O_House_take O_House_change
  have O_law_mix : OkF P w K mg base 1 "_law_mix" ["_law_cell", "_law_turn"] sp_law_mix := ok_law_mix (g_law_mix X N c) T 
  have O_law_draws : OkF P w K mg base 2 "_law_draws" ["_law_script", "_law_turn", "_law_many"] (sp_law_draws K) := ok_law_draws (g_law_draws X N c) T O_law_mix
  have O_Piece_fields : OkM P w K mg base 1 (adPiece K) "fields" ["self"] (sp_Piece_fields K) := ok_Piece_fields (g_Piece_fields X N c) T 
  have O_Piece_length : OkM P w K mg base 1 (adPiece K) "length" ["self", "make", "field"] (sp_Piece_length K) := ok_Piece_length (g_Piece_length X N c) T 
  have O_Piece_words : OkM P w K mg base 1 (adPiece K) "words" ["self", "field"] (sp_Piece_words K) := ok_Piece_words (g_Piece_words X N c) T 
  have O_copied_postings : OkF P w K mg base 1 "copied_postings" ["postings"] sp_copied_postings := ok_copied_postings (g_copied_postings X N c) T 
  have O_Piece_postings : OkM P w K mg base 2 (adPiece K) "postings" ["self", "field", "word"] (sp_Piece_postings K) := ok_Piece_postings (g_Piece_postings X N c) T O_copied_postings
  have O_Stand_gather : OkM P w K mg base 3 (adStand K) "gather" ["self", "piece", "field", "makes"] (sp_Stand_gather K) := ok_Stand_gather (g_Stand_gather X N c) T O_Piece_makes O_Piece_length O_Piece_words O_Piece_postings
  have O_Stand_init : OkC P w K mg base 4 (adStand K) "Stand" ["self", "pieces", "makes", "texts"] (sp_Stand_init K) := ok_Stand_init (g_Stand_init X N c) T O_Piece_fields O_Stand_gather
  have O_House_piece_at : OkM P w K mg base 1 (adHouse K) "piece_at" ["self", "at"] (sp_House_piece_at K) := ok_House_piece_at (g_House_piece_at X N c) T 
  have O_House_all_pieces : OkM P w K mg base 6 (adHouse K) "all_pieces" ["self"] (sp_House_all_pieces K) := ok_House_all_pieces (g_House_all_pieces X N c) T O_House_piece_at O_Piece_init
  have O_House_stand_of : OkM P w K mg base 7 (adHouse K) "stand_of" ["self", "alive"] (sp_House_stand_of K) := ok_House_stand_of (g_House_stand_of X N c) T O_Stand_init O_House_all_pieces
  have O_House_now : OkM P w K mg base 8 (adHouse K) "now" ["self"] (sp_House_now K) := ok_House_now (g_House_now X N c) T O_House_stand_of
  have O_law_goes_on : OkF P w K mg base 7 "_law_goes_on" ["_law_house_here", "_law_there", "_law_draws_here", "_law_pool_here"] (sp_law_goes_on K) := ok_law_goes_on (g_law_goes_on X N c) T O_law_pop O_law_document O_House_put O_law_filed O_House_take O_House_change O_House_seal
  have O_law_field : OkF P w K mg base 2 "_law_field" ["_law_draws_here"] sp_law_field := ok_law_field (g_law_field X N c) T O_law_pop
  have O_law_pattern : OkF P w K mg base 2 "_law_pattern" ["_law_draws_here", "_law_pool_here"] sp_law_pattern := ok_law_pattern (g_law_pattern X N c) T O_law_pop
  have R_law_question : ∀ n : Nat, OkF P w K mg base (2 + 1 + n) "_law_question" ["_law_draws_here", "_law_pool_here", "_law_deep"] (sp_law_question n) := fun n => by
    induction n with
    | zero => exact ok0_law_question 2 (g_law_question X N c)
    | succ n ih => exact okr_law_question (2 + 1 + n) n (by omega) (g_law_question X N c) T O_law_pop O_law_field O_law_pattern ih
  have O_law_question : OkF P w K mg base 6 "_law_question" ["_law_draws_here", "_law_pool_here", "_law_deep"] (sp_law_question 3) := R_law_question 3
  have R_law_fits : ∀ n : Nat, OkF P w K mg base (0 + 1 + n) "_law_fits" ["_law_pattern_here", "_law_word"] (sp_law_fits n) := fun n => by
    induction n with
    | zero => exact ok0_law_fits 0 (g_law_fits X N c)
    | succ n ih => exact okr_law_fits (0 + 1 + n) n (by omega) (g_law_fits X N c) T  ih
  have O_law_fits : OkF P w K mg base 91 "_law_fits" ["_law_pattern_here", "_law_word"] (sp_law_fits 90) := R_law_fits 90
  have O_law_near : OkF P w K mg base 1 "_law_near" ["_law_words_here", "_law_names"] sp_law_near := ok_law_near (g_law_near X N c) T 
  have O_law_chained : OkF P w K mg base 1 "_law_chained" ["_law_words_here", "_law_names", "_law_at", "_law_most"] sp_law_chained := ok_law_chained (g_law_chained X N c) T 
  have O_law_stands : OkF P w K mg base 92 "_law_stands" ["_law_words_here", "_law_question_here"] sp_law_stands := ok_law_stands (g_law_stands X N c) T O_law_fits O_law_near O_law_chained
  have R_law_holds : ∀ n : Nat, OkF P w K mg base (92 + 1 + n) "_law_holds" ["_law_fields", "_law_question_here"] (sp_law_holds n) := fun n => by
    induction n with
    | zero => exact ok0_law_holds 92 (g_law_holds X N c)
    | succ n ih => exact okr_law_holds (92 + 1 + n) n (by omega) (g_law_holds X N c) T O_law_stands ih
  have O_law_holds : OkF P w K mg base 96 "_law_holds" ["_law_fields", "_law_question_here"] (sp_law_holds 3) := R_law_holds 3
  have O_less_of : OkF P w K mg base 1 "less_of" ["ones", "others"] sp_less_of := ok_less_of (g_less_of X N c) T 
  have O_Stand_documents : OkM P w K mg base 1 (adStand K) "documents" ["self"] (sp_Stand_documents K) := ok_Stand_documents (g_Stand_documents X N c) T 
  have O_both_of : OkF P w K mg base 1 "both_of" ["ones", "others"] sp_both_of := ok_both_of (g_both_of X N c) T 
  have O_has_words : OkF P w K mg base 1 "has_words" ["question"] sp_has_words := ok_has_words (g_has_words X N c) T 
  have O_fields_named : OkF P w K mg base 1 "fields_named" ["fields", "field"] sp_fields_named := ok_fields_named (g_fields_named X N c) T 
  have O_Stand_fields : OkM P w K mg base 1 (adStand K) "fields" ["self"] (sp_Stand_fields K) := ok_Stand_fields (g_Stand_fields X N c) T 
  have O_look_at_pattern : OkF P w K mg base 1 "look_at_pattern" ["pattern"] sp_look_at_pattern := ok_look_at_pattern (g_look_at_pattern X N c) T 
  have O_Stand_words : OkM P w K mg base 1 (adStand K) "words" ["self", "field"] (sp_Stand_words K) := ok_Stand_words (g_Stand_words X N c) T 
  have O_spread : OkF P w K mg base 1 "spread" ["pattern", "ends"] sp_spread := ok_spread (g_spread X N c) T 
  have O_stepped : OkF P w K mg base 2 "stepped" ["pattern", "ends", "sign"] sp_stepped := ok_stepped (g_stepped X N c) T O_spread
  have O_is_fit : OkF P w K mg base 3 "is_fit" ["pattern", "word"] sp_is_fit := ok_is_fit (g_is_fit X N c) T O_spread O_stepped
  have O_words_like : OkF P w K mg base 4 "words_like" ["stand", "field", "pattern"] (sp_words_like K) := ok_words_like (g_words_like X N c) T O_look_at_pattern O_Stand_words O_is_fit
  have O_words_named : OkF P w K mg base 5 "words_named" ["stand", "field", "question"] (sp_words_named K) := ok_words_named (g_words_named X N c) T O_words_like
  have O_Stand_postings : OkM P w K mg base 2 (adStand K) "postings" ["self", "field", "word"] (sp_Stand_postings K) := ok_Stand_postings (g_Stand_postings X N c) T O_copied_postings
  have O_any_of : OkF P w K mg base 3 "any_of" ["stand", "field", "words"] (sp_any_of K) := ok_any_of (g_any_of X N c) T O_Stand_postings
  have O_rows_of : OkF P w K mg base 3 "rows_of" ["stand", "field", "words"] (sp_rows_of K) := ok_rows_of (g_rows_of X N c) T O_Stand_postings
  have O_row_from : OkF P w K mg base 1 "row_from" ["places"] sp_row_from := ok_row_from (g_row_from X N c) T 
  have O_all_places : OkF P w K mg base 1 "all_places" ["places"] sp_all_places := ok_all_places (g_all_places X N c) T 
  have O_within : OkF P w K mg base 1 "within" ["places", "place", "width"] sp_within := ok_within (g_within X N c) T 
  have O_thin_word : OkF P w K mg base 2 "thin_word" ["words", "places", "place", "width"] sp_thin_word := ok_thin_word (g_thin_word X N c) T O_within
  have O_near_places : OkF P w K mg base 3 "near_places" ["words", "places", "width"] sp_near_places := ok_near_places (g_near_places X N c) T O_all_places O_thin_word O_within
  have O_chain_from : OkF P w K mg base 1 "chain_from" ["places", "place", "width"] sp_chain_from := ok_chain_from (g_chain_from X N c) T 
  have O_chain_places : OkF P w K mg base 2 "chain_places" ["places", "width"] sp_chain_places := ok_chain_places (g_chain_places X N c) T O_chain_from
  have O_placed : OkF P w K mg base 4 "placed" ["question", "places"] sp_placed := ok_placed (g_placed X N c) T O_row_from O_near_places O_chain_places
  have O_found_in : OkF P w K mg base 6 "found_in" ["stand", "field", "question"] (sp_found_in K) := ok_found_in (g_found_in X N c) T O_words_named O_any_of O_rows_of O_placed
  have R_answers_of : ∀ n : Nat, OkF P w K mg base (6 + 1 + n) "answers_of" ["stand", "question"] (sp_answers_of K n) := fun n => by
    induction n with
    | zero => exact ok_ans0 6 (g_answers_of X N c)
    | succ n ih => exact okr_answers_of (6 + 1 + n) n (by omega) (g_answers_of X N c) T O_less_of O_Stand_documents O_both_of O_has_words O_fields_named O_Stand_fields O_found_in ih
  have O_answers_of : OkF P w K mg base 10 "answers_of" ["stand", "question"] (sp_answers_of K 3) := R_answers_of 3
  have O_changed : OkF P w K mg base 11 "changed" ["older", "newer", "question"] (sp_changed K) := ok_changed (g_changed X N c) T O_answers_of
  exact okd_law F T O_law_house O_law_draws O_House_now O_law_goes_on O_law_question O_law_holds O_changed O_answers_of
theorem facts (X : K.In h) (N : h.Ns mainGlobals mg) {f : Addr} (hfa : mg ("law" : Str) = some (.ref f)) (c : He.SaysD fa fn K) :
    ∃ fd : FuncData, (∀ (s : Shared) (v : Value), BindsTo s fd ⟨[v], []⟩ [("_law_script", v)]) ∧ ∀ base : Heap, K.In base → base.Ns mainGlobals mg → FnOk P w K mg base CX0 97 f fd ["_law_script"] (sp_law K) := by
  obtain ⟨fd, F⟩ := c.def_ 72 (d := d_law) rfl
  have e := hfa.symm.trans (He.glo_ok X N (c.fact 48 (f := .glo "law") rfl))
  cases e
  have b := FunD.bindsA (ps := ["_law_script"]) F fun _ _ _ _ _ _ us hl => match us, hl with | [_], _ => rfl
  exact ⟨fd, fun s v => b s [v] rfl, fun base _ _ => joined X N c F⟩
end
end Fc
open PySem PySem.W PySem.Calls PyProof.Rows
theorem PySem.Challenge.cw_findcourt_k90_whole_came_and_went_holds : PySem.Challenge.rw_findcourt_k90_whole_came_and_went.Holds := by
  w_on; o_law
  refine HandSHeadRun.head_any (r := OpenLaw.row PySem.Challenge.rw_findcourt_k90_whole_came_and_went) (q := view (OpenLaw.row PySem.Challenge.rw_findcourt_k90_whole_came_and_went).prog [79]) (H := Fc.hk) (ob := Fc.ob) (M := 20000) (loose := Fc.loose) (d := HandSHeadRun.topDef (OpenLaw.row PySem.Challenge.rw_findcourt_k90_whole_came_and_went).prog 79) (kwd := []) Fc.ob_eq
    (by kernel_rfl) (fun s => by kernel_rfl) Fc.run (by kernel_rfl) (by kernel_rfl) (by kernel_rfl) (by rfl) (by first | assumption | decide +kernel) (by decide +kernel) ⟨rfl, rfl, rfl, rfl, rfl, by decide +kernel⟩ ?hw ?hc
  case hw => w_witness2
  case hc =>
    refine L2.walk_ofE (l := PySem.Challenge.rw_findcourt_k90_whole_came_and_went) (n := 63) (k := 97) (x := "_law_script") (CX := L2.CX0) rfl (by decide) (by kernel_rfl) ⟨rfl, by decide, by decide⟩ ?F (fun _ _ _ _ z => z)
    intro w mg fa h Y N hmg0
    obtain ⟨K, KX, c⟩ := Y
    have hmg : mg ("law" : PySem.Str) = some (.ref fa) := by
      have e : (HandSHeadRun.topDef (OpenLaw.row PySem.Challenge.rw_findcourt_k90_whole_came_and_went).prog 79).name = ("law" : PySem.Str) := by kernel_rfl
      rw [← e]
      exact hmg0
    obtain ⟨fd, hb, hF⟩ := Fc.facts (P := (PySem.Challenge.rw_findcourt_k90_whole_came_and_went).prog) (w := w) KX N hmg c
    exact ⟨K, fd, Fc.sp_law K, KX, hb, fun H a ns hl _ hS => ⟨a, ns, rfl, hS, fun _ => rfl⟩, hF⟩
