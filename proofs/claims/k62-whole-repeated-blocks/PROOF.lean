import PyProof.Rows.All
import Wide.All
import OpenK.AllK
import Wide.FinOn
import KE.KStateDown
import HandS.ForMost
import HandS.Defaults
import HandS.IsInst
import HandS.Zip
import HandS.DictComp
import HandS.SetFor
import HandS.Wide
import HandS.WideBits
import HandS.Walk
import HandS.NoneIn
import HandS.Conv
import HandS.Codes
import HandS.EndBits
import HandS.Head0
import HandS.Head1
import HandS.Head2
import HandS.HeadEnd
import HandS.HeadHook1
import HandS.HeadHook2
import PyProof.LongRange
import PyProof.InstEq
import PyProof.SeqIndex
import PyProof.Draws
import PySem.Challenge.RW_howfarback_k62_whole_repeated_blocks
import KE.KDictZip
set_option Elab.async false
set_option linter.all false
set_option maxRecDepth 100000
set_option maxHeartbeats 0
namespace HB
open PySem PySem.Spec PyProof.Rows L2
def top (i : Nat) : Stmt := PySem.Challenge.pw_howfarback_k62_whole_repeated_blocks.main.body.getD i (.Pass ⟨0, 0, 0, 0⟩)
abbrev s_is_integer : Stmt := top 11
abbrev s_is_sequence : Stmt := top 12
abbrev s_is_distances : Stmt := top 13
abbrev s_checked : Stmt := top 14
abbrev s_ids_of : Stmt := top 15
abbrev s_distances_by : Stmt := top 16
abbrev s_symbol_count : Stmt := top 17
abbrev s_check_position : Stmt := top 19
abbrev s_is_pair : Stmt := top 20
abbrev s_is_mapping : Stmt := top 21
abbrev s_concatenate : Stmt := top 22
abbrev s_is_block : Stmt := top 29
abbrev s_is_compressed : Stmt := top 30
abbrev s_block_init : Stmt := inClass (top 31) 0
abbrev s_block_extended : Stmt := inClass (top 31) 1
abbrev s_block_locate : Stmt := inClass (top 31) 2
abbrev s_block_distance_of : Stmt := inClass (top 31) 3
abbrev s_block_zeros_before : Stmt := inClass (top 31) 4
abbrev s_block_nth_zero : Stmt := inClass (top 31) 5
abbrev s_blocks_of : Stmt := top 32
abbrev s_check_number : Stmt := top 33
abbrev s_block_at : Stmt := top 34
abbrev s_window_in : Stmt := top 35
abbrev s_total_length : Stmt := top 36
abbrev s_distance_at : Stmt := top 37
abbrev s_window_at : Stmt := top 38
abbrev s_new_before : Stmt := top 39
abbrev s_nth_new : Stmt := top 40
abbrev s_checked_pattern : Stmt := top 43
abbrev s_matches_inside : Stmt := top 44
abbrev s_search_init : Stmt := inClass (top 45) 0
abbrev s_search_inside_before : Stmt := inClass (top 45) 1
abbrev s_search_number_before : Stmt := inClass (top 45) 2
abbrev s_count_matches : Stmt := top 46
abbrev s_stretches_of : Stmt := top 47
abbrev s_difference_in : Stmt := top 48
abbrev s_first_difference : Stmt := top 49
abbrev s_chain_from : Stmt := top 51
abbrev s_inverse : Stmt := top 52
abbrev s_origin_of : Stmt := top 53
abbrev s_run_init : Stmt := inClass (top 54) 0
abbrev s_run_reaches_end : Stmt := inClass (top 54) 1
abbrev s_run_last_symbol : Stmt := inClass (top 54) 2
abbrev s_run_occurrences_in : Stmt := inClass (top 54) 3
abbrev s_run_position_of : Stmt := inClass (top 54) 4
abbrev s_runs_from : Stmt := top 55
abbrev s_occurrences_init : Stmt := inClass (top 56) 0
abbrev s_occurrences_number_in_all : Stmt := inClass (top 56) 1
abbrev s_occurrences_number_before : Stmt := inClass (top 56) 2
abbrev s_occurrences_nth_position : Stmt := inClass (top 56) 3
abbrev s_same_symbol : Stmt := top 57
abbrev s_count_before : Stmt := top 58
abbrev s_count_total : Stmt := top 59
abbrev s_nth_occurrence : Stmt := top 60
abbrev s_law_stream : Stmt := top 62
abbrev s_law_draw : Stmt := top 63
abbrev s_law_distances : Stmt := top 64
abbrev s_law_symbols : Stmt := top 65
abbrev s_law_ids : Stmt := top 66
abbrev s_law_mapping : Stmt := top 67
abbrev s_law_symbol_count : Stmt := top 68
abbrev s_law_sequence : Stmt := top 69
abbrev s_law_double_block : Stmt := top 70
abbrev s_law_with_double_block : Stmt := top 71
abbrev s_law_with_split_block : Stmt := top 72
abbrev s_law_position_holds : Stmt := top 73
abbrev s_law_equivalent : Stmt := top 74
abbrev s_law_holds : Stmt := top 75
abbrev s_law : Stmt := top 76
def d_is_integer : He.DefD := ⟨("is_integer", none), "is_integer", "is_integer", defArgs s_is_integer, defBody s_is_integer, defScope s_is_integer, [.non], []⟩
def d_is_sequence : He.DefD := ⟨("is_sequence", none), "is_sequence", "is_sequence", defArgs s_is_sequence, defBody s_is_sequence, defScope s_is_sequence, [], []⟩
def d_is_distances : He.DefD := ⟨("is_distances", none), "is_distances", "is_distances", defArgs s_is_distances, defBody s_is_distances, defScope s_is_distances, [], []⟩
def d_checked : He.DefD := ⟨("checked", none), "checked", "checked", defArgs s_checked, defBody s_checked, defScope s_checked, [], []⟩
def d_ids_of : He.DefD := ⟨("ids_of", none), "ids_of", "ids_of", defArgs s_ids_of, defBody s_ids_of, defScope s_ids_of, [], []⟩
def d_distances_by : He.DefD := ⟨("distances_by", none), "distances_by", "distances_by", defArgs s_distances_by, defBody s_distances_by, defScope s_distances_by, [], []⟩
def d_symbol_count : He.DefD := ⟨("symbol_count", none), "symbol_count", "symbol_count", defArgs s_symbol_count, defBody s_symbol_count, defScope s_symbol_count, [], []⟩
def d_check_position : He.DefD := ⟨("check_position", none), "check_position", "check_position", defArgs s_check_position, defBody s_check_position, defScope s_check_position, [], []⟩
def d_is_pair : He.DefD := ⟨("is_pair", none), "is_pair", "is_pair", defArgs s_is_pair, defBody s_is_pair, defScope s_is_pair, [], []⟩
def d_is_mapping : He.DefD := ⟨("is_mapping", none), "is_mapping", "is_mapping", defArgs s_is_mapping, defBody s_is_mapping, defScope s_is_mapping, [], []⟩
def d_concatenate : He.DefD := ⟨("concatenate", none), "concatenate", "concatenate", defArgs s_concatenate, defBody s_concatenate, defScope s_concatenate, [], []⟩
def d_is_block : He.DefD := ⟨("is_block", none), "is_block", "is_block", defArgs s_is_block, defBody s_is_block, defScope s_is_block, [], []⟩
def d_is_compressed : He.DefD := ⟨("is_compressed", none), "is_compressed", "is_compressed", defArgs s_is_compressed, defBody s_is_compressed, defScope s_is_compressed, [], []⟩
def d_block_init : He.DefD := ⟨("Block", some "__init__"), "__init__", "Block.__init__", defArgs s_block_init, defBody s_block_init, defScope s_block_init, [], []⟩
def d_block_extended : He.DefD := ⟨("Block", some "extended"), "extended", "Block.extended", defArgs s_block_extended, defBody s_block_extended, defScope s_block_extended, [], []⟩
def d_block_locate : He.DefD := ⟨("Block", some "locate"), "locate", "Block.locate", defArgs s_block_locate, defBody s_block_locate, defScope s_block_locate, [], []⟩
def d_block_distance_of : He.DefD := ⟨("Block", some "distance_of"), "distance_of", "Block.distance_of", defArgs s_block_distance_of, defBody s_block_distance_of, defScope s_block_distance_of, [], []⟩
def d_block_zeros_before : He.DefD := ⟨("Block", some "zeros_before"), "zeros_before", "Block.zeros_before", defArgs s_block_zeros_before, defBody s_block_zeros_before, defScope s_block_zeros_before, [], []⟩
def d_block_nth_zero : He.DefD := ⟨("Block", some "nth_zero"), "nth_zero", "Block.nth_zero", defArgs s_block_nth_zero, defBody s_block_nth_zero, defScope s_block_nth_zero, [], []⟩
def d_blocks_of : He.DefD := ⟨("blocks_of", none), "blocks_of", "blocks_of", defArgs s_blocks_of, defBody s_blocks_of, defScope s_blocks_of, [], []⟩
def d_check_number : He.DefD := ⟨("check_number", none), "check_number", "check_number", defArgs s_check_number, defBody s_check_number, defScope s_check_number, [], []⟩
def d_block_at : He.DefD := ⟨("block_at", none), "block_at", "block_at", defArgs s_block_at, defBody s_block_at, defScope s_block_at, [], []⟩
def d_window_in : He.DefD := ⟨("window_in", none), "window_in", "window_in", defArgs s_window_in, defBody s_window_in, defScope s_window_in, [], []⟩
def d_total_length : He.DefD := ⟨("total_length", none), "total_length", "total_length", defArgs s_total_length, defBody s_total_length, defScope s_total_length, [], []⟩
def d_distance_at : He.DefD := ⟨("distance_at", none), "distance_at", "distance_at", defArgs s_distance_at, defBody s_distance_at, defScope s_distance_at, [], []⟩
def d_window_at : He.DefD := ⟨("window_at", none), "window_at", "window_at", defArgs s_window_at, defBody s_window_at, defScope s_window_at, [], []⟩
def d_new_before : He.DefD := ⟨("new_before", none), "new_before", "new_before", defArgs s_new_before, defBody s_new_before, defScope s_new_before, [], []⟩
def d_nth_new : He.DefD := ⟨("nth_new", none), "nth_new", "nth_new", defArgs s_nth_new, defBody s_nth_new, defScope s_nth_new, [], []⟩
def d_checked_pattern : He.DefD := ⟨("checked_pattern", none), "checked_pattern", "checked_pattern", defArgs s_checked_pattern, defBody s_checked_pattern, defScope s_checked_pattern, [], []⟩
def d_matches_inside : He.DefD := ⟨("matches_inside", none), "matches_inside", "matches_inside", defArgs s_matches_inside, defBody s_matches_inside, defScope s_matches_inside, [], []⟩
def d_search_init : He.DefD := ⟨("Search", some "__init__"), "__init__", "Search.__init__", defArgs s_search_init, defBody s_search_init, defScope s_search_init, [], []⟩
def d_search_inside_before : He.DefD := ⟨("Search", some "inside_before"), "inside_before", "Search.inside_before", defArgs s_search_inside_before, defBody s_search_inside_before, defScope s_search_inside_before, [], []⟩
def d_search_number_before : He.DefD := ⟨("Search", some "number_before"), "number_before", "Search.number_before", defArgs s_search_number_before, defBody s_search_number_before, defScope s_search_number_before, [], []⟩
def d_count_matches : He.DefD := ⟨("count_matches", none), "count_matches", "count_matches", defArgs s_count_matches, defBody s_count_matches, defScope s_count_matches, [], []⟩
def d_stretches_of : He.DefD := ⟨("stretches_of", none), "stretches_of", "stretches_of", defArgs s_stretches_of, defBody s_stretches_of, defScope s_stretches_of, [], []⟩
def d_difference_in : He.DefD := ⟨("difference_in", none), "difference_in", "difference_in", defArgs s_difference_in, defBody s_difference_in, defScope s_difference_in, [], []⟩
def d_first_difference : He.DefD := ⟨("first_difference", none), "first_difference", "first_difference", defArgs s_first_difference, defBody s_first_difference, defScope s_first_difference, [], []⟩
def d_chain_from : He.DefD := ⟨("chain_from", none), "chain_from", "chain_from", defArgs s_chain_from, defBody s_chain_from, defScope s_chain_from, [], []⟩
def d_inverse : He.DefD := ⟨("inverse", none), "inverse", "inverse", defArgs s_inverse, defBody s_inverse, defScope s_inverse, [], []⟩
def d_origin_of : He.DefD := ⟨("origin_of", none), "origin_of", "origin_of", defArgs s_origin_of, defBody s_origin_of, defScope s_origin_of, [], []⟩
def d_run_init : He.DefD := ⟨("Run", some "__init__"), "__init__", "Run.__init__", defArgs s_run_init, defBody s_run_init, defScope s_run_init, [], []⟩
def d_run_reaches_end : He.DefD := ⟨("Run", some "reaches_end"), "reaches_end", "Run.reaches_end", defArgs s_run_reaches_end, defBody s_run_reaches_end, defScope s_run_reaches_end, [], []⟩
def d_run_last_symbol : He.DefD := ⟨("Run", some "last_symbol"), "last_symbol", "Run.last_symbol", defArgs s_run_last_symbol, defBody s_run_last_symbol, defScope s_run_last_symbol, [], []⟩
def d_run_occurrences_in : He.DefD := ⟨("Run", some "occurrences_in"), "occurrences_in", "Run.occurrences_in", defArgs s_run_occurrences_in, defBody s_run_occurrences_in, defScope s_run_occurrences_in, [], []⟩
def d_run_position_of : He.DefD := ⟨("Run", some "position_of"), "position_of", "Run.position_of", defArgs s_run_position_of, defBody s_run_position_of, defScope s_run_position_of, [], []⟩
def d_runs_from : He.DefD := ⟨("runs_from", none), "runs_from", "runs_from", defArgs s_runs_from, defBody s_runs_from, defScope s_runs_from, [], []⟩
def d_occurrences_init : He.DefD := ⟨("Occurrences", some "__init__"), "__init__", "Occurrences.__init__", defArgs s_occurrences_init, defBody s_occurrences_init, defScope s_occurrences_init, [], []⟩
def d_occurrences_number_in_all : He.DefD := ⟨("Occurrences", some "number_in_all"), "number_in_all", "Occurrences.number_in_all", defArgs s_occurrences_number_in_all, defBody s_occurrences_number_in_all, defScope s_occurrences_number_in_all, [], []⟩
def d_occurrences_number_before : He.DefD := ⟨("Occurrences", some "number_before"), "number_before", "Occurrences.number_before", defArgs s_occurrences_number_before, defBody s_occurrences_number_before, defScope s_occurrences_number_before, [], []⟩
def d_occurrences_nth_position : He.DefD := ⟨("Occurrences", some "nth_position"), "nth_position", "Occurrences.nth_position", defArgs s_occurrences_nth_position, defBody s_occurrences_nth_position, defScope s_occurrences_nth_position, [], []⟩
def d_same_symbol : He.DefD := ⟨("same_symbol", none), "same_symbol", "same_symbol", defArgs s_same_symbol, defBody s_same_symbol, defScope s_same_symbol, [], []⟩
def d_count_before : He.DefD := ⟨("count_before", none), "count_before", "count_before", defArgs s_count_before, defBody s_count_before, defScope s_count_before, [], []⟩
def d_count_total : He.DefD := ⟨("count_total", none), "count_total", "count_total", defArgs s_count_total, defBody s_count_total, defScope s_count_total, [], []⟩
def d_nth_occurrence : He.DefD := ⟨("nth_occurrence", none), "nth_occurrence", "nth_occurrence", defArgs s_nth_occurrence, defBody s_nth_occurrence, defScope s_nth_occurrence, [], []⟩
def d_law_stream : He.DefD := ⟨("_law_stream", none), "_law_stream", "_law_stream", defArgs s_law_stream, defBody s_law_stream, defScope s_law_stream, [], []⟩
def d_law_draw : He.DefD := ⟨("_law_draw", none), "_law_draw", "_law_draw", defArgs s_law_draw, defBody s_law_draw, defScope s_law_draw, [], []⟩
def d_law_distances : He.DefD := ⟨("_law_distances", none), "_law_distances", "_law_distances", defArgs s_law_distances, defBody s_law_distances, defScope s_law_distances, [], []⟩
def d_law_symbols : He.DefD := ⟨("_law_symbols", none), "_law_symbols", "_law_symbols", defArgs s_law_symbols, defBody s_law_symbols, defScope s_law_symbols, [], []⟩
def d_law_ids : He.DefD := ⟨("_law_ids", none), "_law_ids", "_law_ids", defArgs s_law_ids, defBody s_law_ids, defScope s_law_ids, [], []⟩
def d_law_mapping : He.DefD := ⟨("_law_mapping", none), "_law_mapping", "_law_mapping", defArgs s_law_mapping, defBody s_law_mapping, defScope s_law_mapping, [], []⟩
def d_law_symbol_count : He.DefD := ⟨("_law_symbol_count", none), "_law_symbol_count", "_law_symbol_count", defArgs s_law_symbol_count, defBody s_law_symbol_count, defScope s_law_symbol_count, [], []⟩
def d_law_sequence : He.DefD := ⟨("_law_sequence", none), "_law_sequence", "_law_sequence", defArgs s_law_sequence, defBody s_law_sequence, defScope s_law_sequence, [], []⟩
def d_law_double_block : He.DefD := ⟨("_law_double_block", none), "_law_double_block", "_law_double_block", defArgs s_law_double_block, defBody s_law_double_block, defScope s_law_double_block, [], []⟩
def d_law_with_double_block : He.DefD := ⟨("_law_with_double_block", none), "_law_with_double_block", "_law_with_double_block", defArgs s_law_with_double_block, defBody s_law_with_double_block, defScope s_law_with_double_block, [], []⟩
def d_law_with_split_block : He.DefD := ⟨("_law_with_split_block", none), "_law_with_split_block", "_law_with_split_block", defArgs s_law_with_split_block, defBody s_law_with_split_block, defScope s_law_with_split_block, [], []⟩
def d_law_position_holds : He.DefD := ⟨("_law_position_holds", none), "_law_position_holds", "_law_position_holds", defArgs s_law_position_holds, defBody s_law_position_holds, defScope s_law_position_holds, [], []⟩
def d_law_equivalent : He.DefD := ⟨("_law_equivalent", none), "_law_equivalent", "_law_equivalent", defArgs s_law_equivalent, defBody s_law_equivalent, defScope s_law_equivalent, [], []⟩
def d_law_holds : He.DefD := ⟨("_law_holds", none), "_law_holds", "_law_holds", defArgs s_law_holds, defBody s_law_holds, defScope s_law_holds, [], []⟩
def d_law : He.DefD := ⟨("law", none), "law", "law", defArgs s_law, defBody s_law, defScope s_law, [], []⟩
def fn0 : List He.DefD := [d_is_integer, d_is_sequence, d_is_distances, d_checked, d_ids_of, d_distances_by, d_symbol_count, d_check_position, d_is_pair, d_is_mapping, d_concatenate, d_is_block, d_is_compressed, d_block_init, d_block_extended, d_block_locate, d_block_distance_of, d_block_zeros_before, d_block_nth_zero, d_blocks_of]
def fn1 : List He.DefD := [d_check_number, d_block_at, d_window_in, d_total_length, d_distance_at, d_window_at, d_new_before, d_nth_new, d_checked_pattern, d_matches_inside, d_search_init, d_search_inside_before, d_search_number_before, d_count_matches, d_stretches_of, d_difference_in, d_first_difference, d_chain_from, d_inverse, d_origin_of]
def fn2 : List He.DefD := [d_run_init, d_run_reaches_end, d_run_last_symbol, d_run_occurrences_in, d_run_position_of, d_runs_from, d_occurrences_init, d_occurrences_number_in_all, d_occurrences_number_before, d_occurrences_nth_position, d_same_symbol, d_count_before, d_count_total, d_nth_occurrence, d_law_stream, d_law_draw, d_law_distances, d_law_symbols, d_law_ids, d_law_mapping]
def fn3 : List He.DefD := [d_law_symbol_count, d_law_sequence, d_law_double_block, d_law_with_double_block, d_law_with_split_block, d_law_position_holds, d_law_equivalent, d_law_holds, d_law]
def fn : List He.DefD := fn0 ++ (fn1 ++ (fn2 ++ (fn3)))
def fa0 : List He.Fa := [.glo "is_integer", .glo "is_sequence", .glo "is_distances", .glo "checked", .glo "ids_of", .glo "distances_by", .glo "symbol_count", .glo "check_position", .glo "is_pair", .glo "is_mapping", .glo "concatenate", .glo "is_block", .glo "is_compressed", .glo "blocks_of", .glo "check_number", .glo "block_at", .glo "window_in", .glo "total_length", .glo "distance_at", .glo "window_at", .glo "new_before", .glo "nth_new", .glo "checked_pattern", .glo "matches_inside", .glo "count_matches", .glo "stretches_of", .glo "difference_in", .glo "first_difference", .glo "chain_from", .glo "inverse"]
def fa1 : List He.Fa := [.glo "origin_of", .glo "runs_from", .glo "same_symbol", .glo "count_before", .glo "count_total", .glo "nth_occurrence", .glo "_law_stream", .glo "_law_draw", .glo "_law_distances", .glo "_law_symbols", .glo "_law_ids", .glo "_law_mapping", .glo "_law_symbol_count", .glo "_law_sequence", .glo "_law_double_block", .glo "_law_with_double_block", .glo "_law_with_split_block", .glo "_law_position_holds", .glo "_law_equivalent", .glo "_law_holds", .glo "law", .glo "Block", .glo "Search", .glo "Run", .glo "Occurrences", .free "isinstance", .free "int", .free "bool", .free "list", .free "tuple"]
def fa2 : List He.Fa := [.free "len", .free "all", .free "enumerate", .free "set", .free "zip", .free "divmod", .free "min", .free "max", .free "sum", .free "range", .free "abs", .int "MAX_POSITIONS" 400, .int "MOST_BLOCKS" 8, .int "MOST_BLOCK_LENGTH" 40, .int "MOST_REPETITIONS" 1000000000000000000000000000000, .int "MOST_WINDOW" 400, .int "BLOCK_FIELDS" 4, .int "MOST_PATTERN" 100, .cls "Block", .mkr "Block", .noat "Block" "base", .noat "Block" "ids", .noat "Block" "size", .noat "Block" "repetitions", .noat "Block" "begin", .noat "Block" "end", .noat "Block" "linked", .noat "Block" "turned", .noat "Block" "last_offset", .noat "Block" "later"]
def fa3 : List He.Fa := [.noat "Block" "first", .cls "Search", .mkr "Search", .noat "Search" "blocks", .noat "Search" "size", .noat "Search" "inside", .noat "Search" "across", .cls "Run", .mkr "Run", .noat "Run" "block", .noat "Run" "start", .noat "Run" "chain", .noat "Run" "count", .noat "Run" "offsets", .cls "Occurrences", .mkr "Occurrences", .noat "Occurrences" "position", .noat "Occurrences" "origin", .noat "Occurrences" "runs", .meth "Block" "extended", .meth "Block" "locate", .meth "Block" "distance_of", .meth "Block" "zeros_before", .meth "Block" "nth_zero", .meth "Search" "inside_before", .meth "Search" "number_before", .meth "Run" "reaches_end", .meth "Run" "last_symbol", .meth "Run" "occurrences_in", .meth "Run" "position_of"]
def fa4 : List He.Fa := [.meth "Occurrences" "number_in_all", .meth "Occurrences" "number_before", .meth "Occurrences" "nth_position"]
def fa : List He.Fa := fa0 ++ (fa1 ++ (fa2 ++ (fa3 ++ (fa4))))
/-- what the text's top has left, by names -/
structure Tx (K : PySem.W.Frag) (mg : Str → Option Value) : Prop where
  says : He.SaysD fa fn K
  at_ : ∃ hp : Heap, K.In hp ∧ hp.Ns mainGlobals mg
  hbc : PySem.W.findIn K (.ref (He.ga K "Block")) "__eq__" = some (some (.builtin "object.__eq__")) ∧ PySem.W.mroIn K (He.ga K "Block") (.type "object") = some true
section
variable {K : PySem.W.Frag} {mg : Str → Option Value}
theorem Tx.glo_is_integer (t : Tx K mg) : mg "is_integer" = some (.ref (He.ga K "is_integer")) := let ⟨_, X, G⟩ := t.at_; He.glo_ok X G (t.says.fact 0 (f := .glo "is_integer") rfl)
theorem Tx.glo_is_sequence (t : Tx K mg) : mg "is_sequence" = some (.ref (He.ga K "is_sequence")) := let ⟨_, X, G⟩ := t.at_; He.glo_ok X G (t.says.fact 1 (f := .glo "is_sequence") rfl)
theorem Tx.glo_is_distances (t : Tx K mg) : mg "is_distances" = some (.ref (He.ga K "is_distances")) := let ⟨_, X, G⟩ := t.at_; He.glo_ok X G (t.says.fact 2 (f := .glo "is_distances") rfl)
theorem Tx.glo_checked (t : Tx K mg) : mg "checked" = some (.ref (He.ga K "checked")) := let ⟨_, X, G⟩ := t.at_; He.glo_ok X G (t.says.fact 3 (f := .glo "checked") rfl)
theorem Tx.glo_ids_of (t : Tx K mg) : mg "ids_of" = some (.ref (He.ga K "ids_of")) := let ⟨_, X, G⟩ := t.at_; He.glo_ok X G (t.says.fact 4 (f := .glo "ids_of") rfl)
theorem Tx.glo_distances_by (t : Tx K mg) : mg "distances_by" = some (.ref (He.ga K "distances_by")) := let ⟨_, X, G⟩ := t.at_; He.glo_ok X G (t.says.fact 5 (f := .glo "distances_by") rfl)
theorem Tx.glo_symbol_count (t : Tx K mg) : mg "symbol_count" = some (.ref (He.ga K "symbol_count")) := let ⟨_, X, G⟩ := t.at_; He.glo_ok X G (t.says.fact 6 (f := .glo "symbol_count") rfl)
theorem Tx.glo_check_position (t : Tx K mg) : mg "check_position" = some (.ref (He.ga K "check_position")) := let ⟨_, X, G⟩ := t.at_; He.glo_ok X G (t.says.fact 7 (f := .glo "check_position") rfl)
theorem Tx.glo_is_pair (t : Tx K mg) : mg "is_pair" = some (.ref (He.ga K "is_pair")) := let ⟨_, X, G⟩ := t.at_; He.glo_ok X G (t.says.fact 8 (f := .glo "is_pair") rfl)
theorem Tx.glo_is_mapping (t : Tx K mg) : mg "is_mapping" = some (.ref (He.ga K "is_mapping")) := let ⟨_, X, G⟩ := t.at_; He.glo_ok X G (t.says.fact 9 (f := .glo "is_mapping") rfl)
theorem Tx.glo_concatenate (t : Tx K mg) : mg "concatenate" = some (.ref (He.ga K "concatenate")) := let ⟨_, X, G⟩ := t.at_; He.glo_ok X G (t.says.fact 10 (f := .glo "concatenate") rfl)
theorem Tx.glo_is_block (t : Tx K mg) : mg "is_block" = some (.ref (He.ga K "is_block")) := let ⟨_, X, G⟩ := t.at_; He.glo_ok X G (t.says.fact 11 (f := .glo "is_block") rfl)
theorem Tx.glo_is_compressed (t : Tx K mg) : mg "is_compressed" = some (.ref (He.ga K "is_compressed")) := let ⟨_, X, G⟩ := t.at_; He.glo_ok X G (t.says.fact 12 (f := .glo "is_compressed") rfl)
theorem Tx.glo_blocks_of (t : Tx K mg) : mg "blocks_of" = some (.ref (He.ga K "blocks_of")) := let ⟨_, X, G⟩ := t.at_; He.glo_ok X G (t.says.fact 13 (f := .glo "blocks_of") rfl)
theorem Tx.glo_check_number (t : Tx K mg) : mg "check_number" = some (.ref (He.ga K "check_number")) := let ⟨_, X, G⟩ := t.at_; He.glo_ok X G (t.says.fact 14 (f := .glo "check_number") rfl)
theorem Tx.glo_block_at (t : Tx K mg) : mg "block_at" = some (.ref (He.ga K "block_at")) := let ⟨_, X, G⟩ := t.at_; He.glo_ok X G (t.says.fact 15 (f := .glo "block_at") rfl)
theorem Tx.glo_window_in (t : Tx K mg) : mg "window_in" = some (.ref (He.ga K "window_in")) := let ⟨_, X, G⟩ := t.at_; He.glo_ok X G (t.says.fact 16 (f := .glo "window_in") rfl)
theorem Tx.glo_total_length (t : Tx K mg) : mg "total_length" = some (.ref (He.ga K "total_length")) := let ⟨_, X, G⟩ := t.at_; He.glo_ok X G (t.says.fact 17 (f := .glo "total_length") rfl)
theorem Tx.glo_distance_at (t : Tx K mg) : mg "distance_at" = some (.ref (He.ga K "distance_at")) := let ⟨_, X, G⟩ := t.at_; He.glo_ok X G (t.says.fact 18 (f := .glo "distance_at") rfl)
theorem Tx.glo_window_at (t : Tx K mg) : mg "window_at" = some (.ref (He.ga K "window_at")) := let ⟨_, X, G⟩ := t.at_; He.glo_ok X G (t.says.fact 19 (f := .glo "window_at") rfl)
theorem Tx.glo_new_before (t : Tx K mg) : mg "new_before" = some (.ref (He.ga K "new_before")) := let ⟨_, X, G⟩ := t.at_; He.glo_ok X G (t.says.fact 20 (f := .glo "new_before") rfl)
theorem Tx.glo_nth_new (t : Tx K mg) : mg "nth_new" = some (.ref (He.ga K "nth_new")) := let ⟨_, X, G⟩ := t.at_; He.glo_ok X G (t.says.fact 21 (f := .glo "nth_new") rfl)
theorem Tx.glo_checked_pattern (t : Tx K mg) : mg "checked_pattern" = some (.ref (He.ga K "checked_pattern")) := let ⟨_, X, G⟩ := t.at_; He.glo_ok X G (t.says.fact 22 (f := .glo "checked_pattern") rfl)
theorem Tx.glo_matches_inside (t : Tx K mg) : mg "matches_inside" = some (.ref (He.ga K "matches_inside")) := let ⟨_, X, G⟩ := t.at_; He.glo_ok X G (t.says.fact 23 (f := .glo "matches_inside") rfl)
theorem Tx.glo_count_matches (t : Tx K mg) : mg "count_matches" = some (.ref (He.ga K "count_matches")) := let ⟨_, X, G⟩ := t.at_; He.glo_ok X G (t.says.fact 24 (f := .glo "count_matches") rfl)
theorem Tx.glo_stretches_of (t : Tx K mg) : mg "stretches_of" = some (.ref (He.ga K "stretches_of")) := let ⟨_, X, G⟩ := t.at_; He.glo_ok X G (t.says.fact 25 (f := .glo "stretches_of") rfl)
theorem Tx.glo_difference_in (t : Tx K mg) : mg "difference_in" = some (.ref (He.ga K "difference_in")) := let ⟨_, X, G⟩ := t.at_; He.glo_ok X G (t.says.fact 26 (f := .glo "difference_in") rfl)
theorem Tx.glo_first_difference (t : Tx K mg) : mg "first_difference" = some (.ref (He.ga K "first_difference")) := let ⟨_, X, G⟩ := t.at_; He.glo_ok X G (t.says.fact 27 (f := .glo "first_difference") rfl)
theorem Tx.glo_chain_from (t : Tx K mg) : mg "chain_from" = some (.ref (He.ga K "chain_from")) := let ⟨_, X, G⟩ := t.at_; He.glo_ok X G (t.says.fact 28 (f := .glo "chain_from") rfl)
theorem Tx.glo_inverse (t : Tx K mg) : mg "inverse" = some (.ref (He.ga K "inverse")) := let ⟨_, X, G⟩ := t.at_; He.glo_ok X G (t.says.fact 29 (f := .glo "inverse") rfl)
theorem Tx.glo_origin_of (t : Tx K mg) : mg "origin_of" = some (.ref (He.ga K "origin_of")) := let ⟨_, X, G⟩ := t.at_; He.glo_ok X G (t.says.fact 30 (f := .glo "origin_of") rfl)
theorem Tx.glo_runs_from (t : Tx K mg) : mg "runs_from" = some (.ref (He.ga K "runs_from")) := let ⟨_, X, G⟩ := t.at_; He.glo_ok X G (t.says.fact 31 (f := .glo "runs_from") rfl)
theorem Tx.glo_same_symbol (t : Tx K mg) : mg "same_symbol" = some (.ref (He.ga K "same_symbol")) := let ⟨_, X, G⟩ := t.at_; He.glo_ok X G (t.says.fact 32 (f := .glo "same_symbol") rfl)
theorem Tx.glo_count_before (t : Tx K mg) : mg "count_before" = some (.ref (He.ga K "count_before")) := let ⟨_, X, G⟩ := t.at_; He.glo_ok X G (t.says.fact 33 (f := .glo "count_before") rfl)
theorem Tx.glo_count_total (t : Tx K mg) : mg "count_total" = some (.ref (He.ga K "count_total")) := let ⟨_, X, G⟩ := t.at_; He.glo_ok X G (t.says.fact 34 (f := .glo "count_total") rfl)
theorem Tx.glo_nth_occurrence (t : Tx K mg) : mg "nth_occurrence" = some (.ref (He.ga K "nth_occurrence")) := let ⟨_, X, G⟩ := t.at_; He.glo_ok X G (t.says.fact 35 (f := .glo "nth_occurrence") rfl)
theorem Tx.glo_law_stream (t : Tx K mg) : mg "_law_stream" = some (.ref (He.ga K "_law_stream")) := let ⟨_, X, G⟩ := t.at_; He.glo_ok X G (t.says.fact 36 (f := .glo "_law_stream") rfl)
theorem Tx.glo_law_draw (t : Tx K mg) : mg "_law_draw" = some (.ref (He.ga K "_law_draw")) := let ⟨_, X, G⟩ := t.at_; He.glo_ok X G (t.says.fact 37 (f := .glo "_law_draw") rfl)
theorem Tx.glo_law_distances (t : Tx K mg) : mg "_law_distances" = some (.ref (He.ga K "_law_distances")) := let ⟨_, X, G⟩ := t.at_; He.glo_ok X G (t.says.fact 38 (f := .glo "_law_distances") rfl)
theorem Tx.glo_law_symbols (t : Tx K mg) : mg "_law_symbols" = some (.ref (He.ga K "_law_symbols")) := let ⟨_, X, G⟩ := t.at_; He.glo_ok X G (t.says.fact 39 (f := .glo "_law_symbols") rfl)
theorem Tx.glo_law_ids (t : Tx K mg) : mg "_law_ids" = some (.ref (He.ga K "_law_ids")) := let ⟨_, X, G⟩ := t.at_; He.glo_ok X G (t.says.fact 40 (f := .glo "_law_ids") rfl)
theorem Tx.glo_law_mapping (t : Tx K mg) : mg "_law_mapping" = some (.ref (He.ga K "_law_mapping")) := let ⟨_, X, G⟩ := t.at_; He.glo_ok X G (t.says.fact 41 (f := .glo "_law_mapping") rfl)
theorem Tx.glo_law_symbol_count (t : Tx K mg) : mg "_law_symbol_count" = some (.ref (He.ga K "_law_symbol_count")) := let ⟨_, X, G⟩ := t.at_; He.glo_ok X G (t.says.fact 42 (f := .glo "_law_symbol_count") rfl)
theorem Tx.glo_law_sequence (t : Tx K mg) : mg "_law_sequence" = some (.ref (He.ga K "_law_sequence")) := let ⟨_, X, G⟩ := t.at_; He.glo_ok X G (t.says.fact 43 (f := .glo "_law_sequence") rfl)
theorem Tx.glo_law_double_block (t : Tx K mg) : mg "_law_double_block" = some (.ref (He.ga K "_law_double_block")) := let ⟨_, X, G⟩ := t.at_; He.glo_ok X G (t.says.fact 44 (f := .glo "_law_double_block") rfl)
theorem Tx.glo_law_with_double_block (t : Tx K mg) : mg "_law_with_double_block" = some (.ref (He.ga K "_law_with_double_block")) := let ⟨_, X, G⟩ := t.at_; He.glo_ok X G (t.says.fact 45 (f := .glo "_law_with_double_block") rfl)
theorem Tx.glo_law_with_split_block (t : Tx K mg) : mg "_law_with_split_block" = some (.ref (He.ga K "_law_with_split_block")) := let ⟨_, X, G⟩ := t.at_; He.glo_ok X G (t.says.fact 46 (f := .glo "_law_with_split_block") rfl)
theorem Tx.glo_law_position_holds (t : Tx K mg) : mg "_law_position_holds" = some (.ref (He.ga K "_law_position_holds")) := let ⟨_, X, G⟩ := t.at_; He.glo_ok X G (t.says.fact 47 (f := .glo "_law_position_holds") rfl)
theorem Tx.glo_law_equivalent (t : Tx K mg) : mg "_law_equivalent" = some (.ref (He.ga K "_law_equivalent")) := let ⟨_, X, G⟩ := t.at_; He.glo_ok X G (t.says.fact 48 (f := .glo "_law_equivalent") rfl)
theorem Tx.glo_law_holds (t : Tx K mg) : mg "_law_holds" = some (.ref (He.ga K "_law_holds")) := let ⟨_, X, G⟩ := t.at_; He.glo_ok X G (t.says.fact 49 (f := .glo "_law_holds") rfl)
theorem Tx.glo_law (t : Tx K mg) : mg "law" = some (.ref (He.ga K "law")) := let ⟨_, X, G⟩ := t.at_; He.glo_ok X G (t.says.fact 50 (f := .glo "law") rfl)
theorem Tx.glo_Block (t : Tx K mg) : mg "Block" = some (.ref (He.ga K "Block")) := let ⟨_, X, G⟩ := t.at_; He.glo_ok X G (t.says.fact 51 (f := .glo "Block") rfl)
theorem Tx.glo_Search (t : Tx K mg) : mg "Search" = some (.ref (He.ga K "Search")) := let ⟨_, X, G⟩ := t.at_; He.glo_ok X G (t.says.fact 52 (f := .glo "Search") rfl)
theorem Tx.glo_Run (t : Tx K mg) : mg "Run" = some (.ref (He.ga K "Run")) := let ⟨_, X, G⟩ := t.at_; He.glo_ok X G (t.says.fact 53 (f := .glo "Run") rfl)
theorem Tx.glo_Occurrences (t : Tx K mg) : mg "Occurrences" = some (.ref (He.ga K "Occurrences")) := let ⟨_, X, G⟩ := t.at_; He.glo_ok X G (t.says.fact 54 (f := .glo "Occurrences") rfl)
theorem Tx.free_isinstance (t : Tx K mg) : mg "isinstance" = none := let ⟨_, X, G⟩ := t.at_; He.free_ok X G (t.says.fact 55 (f := .free "isinstance") rfl)
theorem Tx.free_int (t : Tx K mg) : mg "int" = none := let ⟨_, X, G⟩ := t.at_; He.free_ok X G (t.says.fact 56 (f := .free "int") rfl)
theorem Tx.free_bool (t : Tx K mg) : mg "bool" = none := let ⟨_, X, G⟩ := t.at_; He.free_ok X G (t.says.fact 57 (f := .free "bool") rfl)
theorem Tx.free_list (t : Tx K mg) : mg "list" = none := let ⟨_, X, G⟩ := t.at_; He.free_ok X G (t.says.fact 58 (f := .free "list") rfl)
theorem Tx.free_tuple (t : Tx K mg) : mg "tuple" = none := let ⟨_, X, G⟩ := t.at_; He.free_ok X G (t.says.fact 59 (f := .free "tuple") rfl)
theorem Tx.free_len (t : Tx K mg) : mg "len" = none := let ⟨_, X, G⟩ := t.at_; He.free_ok X G (t.says.fact 60 (f := .free "len") rfl)
theorem Tx.free_all (t : Tx K mg) : mg "all" = none := let ⟨_, X, G⟩ := t.at_; He.free_ok X G (t.says.fact 61 (f := .free "all") rfl)
theorem Tx.free_enumerate (t : Tx K mg) : mg "enumerate" = none := let ⟨_, X, G⟩ := t.at_; He.free_ok X G (t.says.fact 62 (f := .free "enumerate") rfl)
theorem Tx.free_set (t : Tx K mg) : mg "set" = none := let ⟨_, X, G⟩ := t.at_; He.free_ok X G (t.says.fact 63 (f := .free "set") rfl)
theorem Tx.free_zip (t : Tx K mg) : mg "zip" = none := let ⟨_, X, G⟩ := t.at_; He.free_ok X G (t.says.fact 64 (f := .free "zip") rfl)
theorem Tx.free_divmod (t : Tx K mg) : mg "divmod" = none := let ⟨_, X, G⟩ := t.at_; He.free_ok X G (t.says.fact 65 (f := .free "divmod") rfl)
theorem Tx.free_min (t : Tx K mg) : mg "min" = none := let ⟨_, X, G⟩ := t.at_; He.free_ok X G (t.says.fact 66 (f := .free "min") rfl)
theorem Tx.free_max (t : Tx K mg) : mg "max" = none := let ⟨_, X, G⟩ := t.at_; He.free_ok X G (t.says.fact 67 (f := .free "max") rfl)
theorem Tx.free_sum (t : Tx K mg) : mg "sum" = none := let ⟨_, X, G⟩ := t.at_; He.free_ok X G (t.says.fact 68 (f := .free "sum") rfl)
theorem Tx.free_range (t : Tx K mg) : mg "range" = none := let ⟨_, X, G⟩ := t.at_; He.free_ok X G (t.says.fact 69 (f := .free "range") rfl)
theorem Tx.free_abs (t : Tx K mg) : mg "abs" = none := let ⟨_, X, G⟩ := t.at_; He.free_ok X G (t.says.fact 70 (f := .free "abs") rfl)
theorem Tx.k_MAX_POSITIONS (t : Tx K mg) : ∃ u, mg "MAX_POSITIONS" = some u ∧ RelV (.int 400) u := let ⟨_, X, G⟩ := t.at_; let ⟨x, e⟩ := He.int_ok X G (t.says.fact 71 (f := .int "MAX_POSITIONS" 400) rfl); ⟨_, e, x, rfl⟩
theorem Tx.k_MOST_BLOCKS (t : Tx K mg) : ∃ u, mg "MOST_BLOCKS" = some u ∧ RelV (.int 8) u := let ⟨_, X, G⟩ := t.at_; let ⟨x, e⟩ := He.int_ok X G (t.says.fact 72 (f := .int "MOST_BLOCKS" 8) rfl); ⟨_, e, x, rfl⟩
theorem Tx.k_MOST_BLOCK_LENGTH (t : Tx K mg) : ∃ u, mg "MOST_BLOCK_LENGTH" = some u ∧ RelV (.int 40) u := let ⟨_, X, G⟩ := t.at_; let ⟨x, e⟩ := He.int_ok X G (t.says.fact 73 (f := .int "MOST_BLOCK_LENGTH" 40) rfl); ⟨_, e, x, rfl⟩
theorem Tx.k_MOST_REPETITIONS (t : Tx K mg) : ∃ u, mg "MOST_REPETITIONS" = some u ∧ RelV (.int 1000000000000000000000000000000) u := let ⟨_, X, G⟩ := t.at_; let ⟨x, e⟩ := He.int_ok X G (t.says.fact 74 (f := .int "MOST_REPETITIONS" 1000000000000000000000000000000) rfl); ⟨_, e, x, rfl⟩
theorem Tx.k_MOST_WINDOW (t : Tx K mg) : ∃ u, mg "MOST_WINDOW" = some u ∧ RelV (.int 400) u := let ⟨_, X, G⟩ := t.at_; let ⟨x, e⟩ := He.int_ok X G (t.says.fact 75 (f := .int "MOST_WINDOW" 400) rfl); ⟨_, e, x, rfl⟩
theorem Tx.k_BLOCK_FIELDS (t : Tx K mg) : ∃ u, mg "BLOCK_FIELDS" = some u ∧ RelV (.int 4) u := let ⟨_, X, G⟩ := t.at_; let ⟨x, e⟩ := He.int_ok X G (t.says.fact 76 (f := .int "BLOCK_FIELDS" 4) rfl); ⟨_, e, x, rfl⟩
theorem Tx.k_MOST_PATTERN (t : Tx K mg) : ∃ u, mg "MOST_PATTERN" = some u ∧ RelV (.int 100) u := let ⟨_, X, G⟩ := t.at_; let ⟨x, e⟩ := He.int_ok X G (t.says.fact 77 (f := .int "MOST_PATTERN" 100) rfl); ⟨_, e, x, rfl⟩
theorem Tx.cls_Block (t : Tx K mg) : Cls K (He.ga K "Block") := He.cls_ok (t.says.fact 78 (f := .cls "Block") rfl)
theorem Tx.mkr_Block (t : Tx K mg) : Mk K (He.ga K "Block") (He.ma K (He.ga K "Block") "__init__") := He.mkr_ok (t.says.fact 79 (f := .mkr "Block") rfl)
theorem Tx.noat_Block_base (t : Tx K mg) : NoAttr K (He.ga K "Block") "base" := He.noat_ok (t.says.fact 80 (f := .noat "Block" "base") rfl)
theorem Tx.noat_Block_ids (t : Tx K mg) : NoAttr K (He.ga K "Block") "ids" := He.noat_ok (t.says.fact 81 (f := .noat "Block" "ids") rfl)
theorem Tx.noat_Block_size (t : Tx K mg) : NoAttr K (He.ga K "Block") "size" := He.noat_ok (t.says.fact 82 (f := .noat "Block" "size") rfl)
theorem Tx.noat_Block_repetitions (t : Tx K mg) : NoAttr K (He.ga K "Block") "repetitions" := He.noat_ok (t.says.fact 83 (f := .noat "Block" "repetitions") rfl)
theorem Tx.noat_Block_begin (t : Tx K mg) : NoAttr K (He.ga K "Block") "begin" := He.noat_ok (t.says.fact 84 (f := .noat "Block" "begin") rfl)
theorem Tx.noat_Block_end (t : Tx K mg) : NoAttr K (He.ga K "Block") "end" := He.noat_ok (t.says.fact 85 (f := .noat "Block" "end") rfl)
theorem Tx.noat_Block_linked (t : Tx K mg) : NoAttr K (He.ga K "Block") "linked" := He.noat_ok (t.says.fact 86 (f := .noat "Block" "linked") rfl)
theorem Tx.noat_Block_turned (t : Tx K mg) : NoAttr K (He.ga K "Block") "turned" := He.noat_ok (t.says.fact 87 (f := .noat "Block" "turned") rfl)
theorem Tx.noat_Block_last_offset (t : Tx K mg) : NoAttr K (He.ga K "Block") "last_offset" := He.noat_ok (t.says.fact 88 (f := .noat "Block" "last_offset") rfl)
theorem Tx.noat_Block_later (t : Tx K mg) : NoAttr K (He.ga K "Block") "later" := He.noat_ok (t.says.fact 89 (f := .noat "Block" "later") rfl)
theorem Tx.noat_Block_first (t : Tx K mg) : NoAttr K (He.ga K "Block") "first" := He.noat_ok (t.says.fact 90 (f := .noat "Block" "first") rfl)
theorem Tx.cls_Search (t : Tx K mg) : Cls K (He.ga K "Search") := He.cls_ok (t.says.fact 91 (f := .cls "Search") rfl)
theorem Tx.mkr_Search (t : Tx K mg) : Mk K (He.ga K "Search") (He.ma K (He.ga K "Search") "__init__") := He.mkr_ok (t.says.fact 92 (f := .mkr "Search") rfl)
theorem Tx.noat_Search_blocks (t : Tx K mg) : NoAttr K (He.ga K "Search") "blocks" := He.noat_ok (t.says.fact 93 (f := .noat "Search" "blocks") rfl)
theorem Tx.noat_Search_size (t : Tx K mg) : NoAttr K (He.ga K "Search") "size" := He.noat_ok (t.says.fact 94 (f := .noat "Search" "size") rfl)
theorem Tx.noat_Search_inside (t : Tx K mg) : NoAttr K (He.ga K "Search") "inside" := He.noat_ok (t.says.fact 95 (f := .noat "Search" "inside") rfl)
theorem Tx.noat_Search_across (t : Tx K mg) : NoAttr K (He.ga K "Search") "across" := He.noat_ok (t.says.fact 96 (f := .noat "Search" "across") rfl)
theorem Tx.cls_Run (t : Tx K mg) : Cls K (He.ga K "Run") := He.cls_ok (t.says.fact 97 (f := .cls "Run") rfl)
theorem Tx.mkr_Run (t : Tx K mg) : Mk K (He.ga K "Run") (He.ma K (He.ga K "Run") "__init__") := He.mkr_ok (t.says.fact 98 (f := .mkr "Run") rfl)
theorem Tx.noat_Run_block (t : Tx K mg) : NoAttr K (He.ga K "Run") "block" := He.noat_ok (t.says.fact 99 (f := .noat "Run" "block") rfl)
theorem Tx.noat_Run_start (t : Tx K mg) : NoAttr K (He.ga K "Run") "start" := He.noat_ok (t.says.fact 100 (f := .noat "Run" "start") rfl)
theorem Tx.noat_Run_chain (t : Tx K mg) : NoAttr K (He.ga K "Run") "chain" := He.noat_ok (t.says.fact 101 (f := .noat "Run" "chain") rfl)
theorem Tx.noat_Run_count (t : Tx K mg) : NoAttr K (He.ga K "Run") "count" := He.noat_ok (t.says.fact 102 (f := .noat "Run" "count") rfl)
theorem Tx.noat_Run_offsets (t : Tx K mg) : NoAttr K (He.ga K "Run") "offsets" := He.noat_ok (t.says.fact 103 (f := .noat "Run" "offsets") rfl)
theorem Tx.cls_Occurrences (t : Tx K mg) : Cls K (He.ga K "Occurrences") := He.cls_ok (t.says.fact 104 (f := .cls "Occurrences") rfl)
theorem Tx.mkr_Occurrences (t : Tx K mg) : Mk K (He.ga K "Occurrences") (He.ma K (He.ga K "Occurrences") "__init__") := He.mkr_ok (t.says.fact 105 (f := .mkr "Occurrences") rfl)
theorem Tx.noat_Occurrences_position (t : Tx K mg) : NoAttr K (He.ga K "Occurrences") "position" := He.noat_ok (t.says.fact 106 (f := .noat "Occurrences" "position") rfl)
theorem Tx.noat_Occurrences_origin (t : Tx K mg) : NoAttr K (He.ga K "Occurrences") "origin" := He.noat_ok (t.says.fact 107 (f := .noat "Occurrences" "origin") rfl)
theorem Tx.noat_Occurrences_runs (t : Tx K mg) : NoAttr K (He.ga K "Occurrences") "runs" := He.noat_ok (t.says.fact 108 (f := .noat "Occurrences" "runs") rfl)
theorem Tx.meth_block_extended (t : Tx K mg) : Meth K (He.ga K "Block") "extended" (He.ma K (He.ga K "Block") "extended") := He.meth_ok (t.says.fact 109 (f := .meth "Block" "extended") rfl)
theorem Tx.meth_block_locate (t : Tx K mg) : Meth K (He.ga K "Block") "locate" (He.ma K (He.ga K "Block") "locate") := He.meth_ok (t.says.fact 110 (f := .meth "Block" "locate") rfl)
theorem Tx.meth_block_distance_of (t : Tx K mg) : Meth K (He.ga K "Block") "distance_of" (He.ma K (He.ga K "Block") "distance_of") := He.meth_ok (t.says.fact 111 (f := .meth "Block" "distance_of") rfl)
theorem Tx.meth_block_zeros_before (t : Tx K mg) : Meth K (He.ga K "Block") "zeros_before" (He.ma K (He.ga K "Block") "zeros_before") := He.meth_ok (t.says.fact 112 (f := .meth "Block" "zeros_before") rfl)
theorem Tx.meth_block_nth_zero (t : Tx K mg) : Meth K (He.ga K "Block") "nth_zero" (He.ma K (He.ga K "Block") "nth_zero") := He.meth_ok (t.says.fact 113 (f := .meth "Block" "nth_zero") rfl)
theorem Tx.meth_search_inside_before (t : Tx K mg) : Meth K (He.ga K "Search") "inside_before" (He.ma K (He.ga K "Search") "inside_before") := He.meth_ok (t.says.fact 114 (f := .meth "Search" "inside_before") rfl)
theorem Tx.meth_search_number_before (t : Tx K mg) : Meth K (He.ga K "Search") "number_before" (He.ma K (He.ga K "Search") "number_before") := He.meth_ok (t.says.fact 115 (f := .meth "Search" "number_before") rfl)
theorem Tx.meth_run_reaches_end (t : Tx K mg) : Meth K (He.ga K "Run") "reaches_end" (He.ma K (He.ga K "Run") "reaches_end") := He.meth_ok (t.says.fact 116 (f := .meth "Run" "reaches_end") rfl)
theorem Tx.meth_run_last_symbol (t : Tx K mg) : Meth K (He.ga K "Run") "last_symbol" (He.ma K (He.ga K "Run") "last_symbol") := He.meth_ok (t.says.fact 117 (f := .meth "Run" "last_symbol") rfl)
theorem Tx.meth_run_occurrences_in (t : Tx K mg) : Meth K (He.ga K "Run") "occurrences_in" (He.ma K (He.ga K "Run") "occurrences_in") := He.meth_ok (t.says.fact 118 (f := .meth "Run" "occurrences_in") rfl)
theorem Tx.meth_run_position_of (t : Tx K mg) : Meth K (He.ga K "Run") "position_of" (He.ma K (He.ga K "Run") "position_of") := He.meth_ok (t.says.fact 119 (f := .meth "Run" "position_of") rfl)
theorem Tx.meth_occurrences_number_in_all (t : Tx K mg) : Meth K (He.ga K "Occurrences") "number_in_all" (He.ma K (He.ga K "Occurrences") "number_in_all") := He.meth_ok (t.says.fact 120 (f := .meth "Occurrences" "number_in_all") rfl)
theorem Tx.meth_occurrences_number_before (t : Tx K mg) : Meth K (He.ga K "Occurrences") "number_before" (He.ma K (He.ga K "Occurrences") "number_before") := He.meth_ok (t.says.fact 121 (f := .meth "Occurrences" "number_before") rfl)
theorem Tx.meth_occurrences_nth_position (t : Tx K mg) : Meth K (He.ga K "Occurrences") "nth_position" (He.ma K (He.ga K "Occurrences") "nth_position") := He.meth_ok (t.says.fact 122 (f := .meth "Occurrences" "nth_position") rfl)
theorem Tx.f_is_integer (t : Tx K mg) : ∃ fd, FunD K d_is_integer.name d_is_integer.qual d_is_integer.params d_is_integer.body d_is_integer.scope (d_is_integer.dvs K) (d_is_integer.kws K) (He.fAd K d_is_integer.at_) fd := t.says.def_ 0 (d := d_is_integer) rfl
theorem Tx.f_is_sequence (t : Tx K mg) : ∃ fd, FunD K d_is_sequence.name d_is_sequence.qual d_is_sequence.params d_is_sequence.body d_is_sequence.scope (d_is_sequence.dvs K) (d_is_sequence.kws K) (He.fAd K d_is_sequence.at_) fd := t.says.def_ 1 (d := d_is_sequence) rfl
theorem Tx.f_is_distances (t : Tx K mg) : ∃ fd, FunD K d_is_distances.name d_is_distances.qual d_is_distances.params d_is_distances.body d_is_distances.scope (d_is_distances.dvs K) (d_is_distances.kws K) (He.fAd K d_is_distances.at_) fd := t.says.def_ 2 (d := d_is_distances) rfl
theorem Tx.f_checked (t : Tx K mg) : ∃ fd, FunD K d_checked.name d_checked.qual d_checked.params d_checked.body d_checked.scope (d_checked.dvs K) (d_checked.kws K) (He.fAd K d_checked.at_) fd := t.says.def_ 3 (d := d_checked) rfl
theorem Tx.f_ids_of (t : Tx K mg) : ∃ fd, FunD K d_ids_of.name d_ids_of.qual d_ids_of.params d_ids_of.body d_ids_of.scope (d_ids_of.dvs K) (d_ids_of.kws K) (He.fAd K d_ids_of.at_) fd := t.says.def_ 4 (d := d_ids_of) rfl
theorem Tx.f_distances_by (t : Tx K mg) : ∃ fd, FunD K d_distances_by.name d_distances_by.qual d_distances_by.params d_distances_by.body d_distances_by.scope (d_distances_by.dvs K) (d_distances_by.kws K) (He.fAd K d_distances_by.at_) fd := t.says.def_ 5 (d := d_distances_by) rfl
theorem Tx.f_symbol_count (t : Tx K mg) : ∃ fd, FunD K d_symbol_count.name d_symbol_count.qual d_symbol_count.params d_symbol_count.body d_symbol_count.scope (d_symbol_count.dvs K) (d_symbol_count.kws K) (He.fAd K d_symbol_count.at_) fd := t.says.def_ 6 (d := d_symbol_count) rfl
theorem Tx.f_check_position (t : Tx K mg) : ∃ fd, FunD K d_check_position.name d_check_position.qual d_check_position.params d_check_position.body d_check_position.scope (d_check_position.dvs K) (d_check_position.kws K) (He.fAd K d_check_position.at_) fd := t.says.def_ 7 (d := d_check_position) rfl
theorem Tx.f_is_pair (t : Tx K mg) : ∃ fd, FunD K d_is_pair.name d_is_pair.qual d_is_pair.params d_is_pair.body d_is_pair.scope (d_is_pair.dvs K) (d_is_pair.kws K) (He.fAd K d_is_pair.at_) fd := t.says.def_ 8 (d := d_is_pair) rfl
theorem Tx.f_is_mapping (t : Tx K mg) : ∃ fd, FunD K d_is_mapping.name d_is_mapping.qual d_is_mapping.params d_is_mapping.body d_is_mapping.scope (d_is_mapping.dvs K) (d_is_mapping.kws K) (He.fAd K d_is_mapping.at_) fd := t.says.def_ 9 (d := d_is_mapping) rfl
theorem Tx.f_concatenate (t : Tx K mg) : ∃ fd, FunD K d_concatenate.name d_concatenate.qual d_concatenate.params d_concatenate.body d_concatenate.scope (d_concatenate.dvs K) (d_concatenate.kws K) (He.fAd K d_concatenate.at_) fd := t.says.def_ 10 (d := d_concatenate) rfl
theorem Tx.f_is_block (t : Tx K mg) : ∃ fd, FunD K d_is_block.name d_is_block.qual d_is_block.params d_is_block.body d_is_block.scope (d_is_block.dvs K) (d_is_block.kws K) (He.fAd K d_is_block.at_) fd := t.says.def_ 11 (d := d_is_block) rfl
theorem Tx.f_is_compressed (t : Tx K mg) : ∃ fd, FunD K d_is_compressed.name d_is_compressed.qual d_is_compressed.params d_is_compressed.body d_is_compressed.scope (d_is_compressed.dvs K) (d_is_compressed.kws K) (He.fAd K d_is_compressed.at_) fd := t.says.def_ 12 (d := d_is_compressed) rfl
theorem Tx.f_block_init (t : Tx K mg) : ∃ fd, FunD K d_block_init.name d_block_init.qual d_block_init.params d_block_init.body d_block_init.scope (d_block_init.dvs K) (d_block_init.kws K) (He.fAd K d_block_init.at_) fd := t.says.def_ 13 (d := d_block_init) rfl
theorem Tx.f_block_extended (t : Tx K mg) : ∃ fd, FunD K d_block_extended.name d_block_extended.qual d_block_extended.params d_block_extended.body d_block_extended.scope (d_block_extended.dvs K) (d_block_extended.kws K) (He.fAd K d_block_extended.at_) fd := t.says.def_ 14 (d := d_block_extended) rfl
theorem Tx.f_block_locate (t : Tx K mg) : ∃ fd, FunD K d_block_locate.name d_block_locate.qual d_block_locate.params d_block_locate.body d_block_locate.scope (d_block_locate.dvs K) (d_block_locate.kws K) (He.fAd K d_block_locate.at_) fd := t.says.def_ 15 (d := d_block_locate) rfl
theorem Tx.f_block_distance_of (t : Tx K mg) : ∃ fd, FunD K d_block_distance_of.name d_block_distance_of.qual d_block_distance_of.params d_block_distance_of.body d_block_distance_of.scope (d_block_distance_of.dvs K) (d_block_distance_of.kws K) (He.fAd K d_block_distance_of.at_) fd := t.says.def_ 16 (d := d_block_distance_of) rfl
theorem Tx.f_block_zeros_before (t : Tx K mg) : ∃ fd, FunD K d_block_zeros_before.name d_block_zeros_before.qual d_block_zeros_before.params d_block_zeros_before.body d_block_zeros_before.scope (d_block_zeros_before.dvs K) (d_block_zeros_before.kws K) (He.fAd K d_block_zeros_before.at_) fd := t.says.def_ 17 (d := d_block_zeros_before) rfl
theorem Tx.f_block_nth_zero (t : Tx K mg) : ∃ fd, FunD K d_block_nth_zero.name d_block_nth_zero.qual d_block_nth_zero.params d_block_nth_zero.body d_block_nth_zero.scope (d_block_nth_zero.dvs K) (d_block_nth_zero.kws K) (He.fAd K d_block_nth_zero.at_) fd := t.says.def_ 18 (d := d_block_nth_zero) rfl
theorem Tx.f_blocks_of (t : Tx K mg) : ∃ fd, FunD K d_blocks_of.name d_blocks_of.qual d_blocks_of.params d_blocks_of.body d_blocks_of.scope (d_blocks_of.dvs K) (d_blocks_of.kws K) (He.fAd K d_blocks_of.at_) fd := t.says.def_ 19 (d := d_blocks_of) rfl
theorem Tx.f_check_number (t : Tx K mg) : ∃ fd, FunD K d_check_number.name d_check_number.qual d_check_number.params d_check_number.body d_check_number.scope (d_check_number.dvs K) (d_check_number.kws K) (He.fAd K d_check_number.at_) fd := t.says.def_ 20 (d := d_check_number) rfl
theorem Tx.f_block_at (t : Tx K mg) : ∃ fd, FunD K d_block_at.name d_block_at.qual d_block_at.params d_block_at.body d_block_at.scope (d_block_at.dvs K) (d_block_at.kws K) (He.fAd K d_block_at.at_) fd := t.says.def_ 21 (d := d_block_at) rfl
theorem Tx.f_window_in (t : Tx K mg) : ∃ fd, FunD K d_window_in.name d_window_in.qual d_window_in.params d_window_in.body d_window_in.scope (d_window_in.dvs K) (d_window_in.kws K) (He.fAd K d_window_in.at_) fd := t.says.def_ 22 (d := d_window_in) rfl
theorem Tx.f_total_length (t : Tx K mg) : ∃ fd, FunD K d_total_length.name d_total_length.qual d_total_length.params d_total_length.body d_total_length.scope (d_total_length.dvs K) (d_total_length.kws K) (He.fAd K d_total_length.at_) fd := t.says.def_ 23 (d := d_total_length) rfl
theorem Tx.f_distance_at (t : Tx K mg) : ∃ fd, FunD K d_distance_at.name d_distance_at.qual d_distance_at.params d_distance_at.body d_distance_at.scope (d_distance_at.dvs K) (d_distance_at.kws K) (He.fAd K d_distance_at.at_) fd := t.says.def_ 24 (d := d_distance_at) rfl
theorem Tx.f_window_at (t : Tx K mg) : ∃ fd, FunD K d_window_at.name d_window_at.qual d_window_at.params d_window_at.body d_window_at.scope (d_window_at.dvs K) (d_window_at.kws K) (He.fAd K d_window_at.at_) fd := t.says.def_ 25 (d := d_window_at) rfl
theorem Tx.f_new_before (t : Tx K mg) : ∃ fd, FunD K d_new_before.name d_new_before.qual d_new_before.params d_new_before.body d_new_before.scope (d_new_before.dvs K) (d_new_before.kws K) (He.fAd K d_new_before.at_) fd := t.says.def_ 26 (d := d_new_before) rfl
theorem Tx.f_nth_new (t : Tx K mg) : ∃ fd, FunD K d_nth_new.name d_nth_new.qual d_nth_new.params d_nth_new.body d_nth_new.scope (d_nth_new.dvs K) (d_nth_new.kws K) (He.fAd K d_nth_new.at_) fd := t.says.def_ 27 (d := d_nth_new) rfl
theorem Tx.f_checked_pattern (t : Tx K mg) : ∃ fd, FunD K d_checked_pattern.name d_checked_pattern.qual d_checked_pattern.params d_checked_pattern.body d_checked_pattern.scope (d_checked_pattern.dvs K) (d_checked_pattern.kws K) (He.fAd K d_checked_pattern.at_) fd := t.says.def_ 28 (d := d_checked_pattern) rfl
theorem Tx.f_matches_inside (t : Tx K mg) : ∃ fd, FunD K d_matches_inside.name d_matches_inside.qual d_matches_inside.params d_matches_inside.body d_matches_inside.scope (d_matches_inside.dvs K) (d_matches_inside.kws K) (He.fAd K d_matches_inside.at_) fd := t.says.def_ 29 (d := d_matches_inside) rfl
theorem Tx.f_search_init (t : Tx K mg) : ∃ fd, FunD K d_search_init.name d_search_init.qual d_search_init.params d_search_init.body d_search_init.scope (d_search_init.dvs K) (d_search_init.kws K) (He.fAd K d_search_init.at_) fd := t.says.def_ 30 (d := d_search_init) rfl
theorem Tx.f_search_inside_before (t : Tx K mg) : ∃ fd, FunD K d_search_inside_before.name d_search_inside_before.qual d_search_inside_before.params d_search_inside_before.body d_search_inside_before.scope (d_search_inside_before.dvs K) (d_search_inside_before.kws K) (He.fAd K d_search_inside_before.at_) fd := t.says.def_ 31 (d := d_search_inside_before) rfl
theorem Tx.f_search_number_before (t : Tx K mg) : ∃ fd, FunD K d_search_number_before.name d_search_number_before.qual d_search_number_before.params d_search_number_before.body d_search_number_before.scope (d_search_number_before.dvs K) (d_search_number_before.kws K) (He.fAd K d_search_number_before.at_) fd := t.says.def_ 32 (d := d_search_number_before) rfl
theorem Tx.f_count_matches (t : Tx K mg) : ∃ fd, FunD K d_count_matches.name d_count_matches.qual d_count_matches.params d_count_matches.body d_count_matches.scope (d_count_matches.dvs K) (d_count_matches.kws K) (He.fAd K d_count_matches.at_) fd := t.says.def_ 33 (d := d_count_matches) rfl
theorem Tx.f_stretches_of (t : Tx K mg) : ∃ fd, FunD K d_stretches_of.name d_stretches_of.qual d_stretches_of.params d_stretches_of.body d_stretches_of.scope (d_stretches_of.dvs K) (d_stretches_of.kws K) (He.fAd K d_stretches_of.at_) fd := t.says.def_ 34 (d := d_stretches_of) rfl
theorem Tx.f_difference_in (t : Tx K mg) : ∃ fd, FunD K d_difference_in.name d_difference_in.qual d_difference_in.params d_difference_in.body d_difference_in.scope (d_difference_in.dvs K) (d_difference_in.kws K) (He.fAd K d_difference_in.at_) fd := t.says.def_ 35 (d := d_difference_in) rfl
theorem Tx.f_first_difference (t : Tx K mg) : ∃ fd, FunD K d_first_difference.name d_first_difference.qual d_first_difference.params d_first_difference.body d_first_difference.scope (d_first_difference.dvs K) (d_first_difference.kws K) (He.fAd K d_first_difference.at_) fd := t.says.def_ 36 (d := d_first_difference) rfl
theorem Tx.f_chain_from (t : Tx K mg) : ∃ fd, FunD K d_chain_from.name d_chain_from.qual d_chain_from.params d_chain_from.body d_chain_from.scope (d_chain_from.dvs K) (d_chain_from.kws K) (He.fAd K d_chain_from.at_) fd := t.says.def_ 37 (d := d_chain_from) rfl
theorem Tx.f_inverse (t : Tx K mg) : ∃ fd, FunD K d_inverse.name d_inverse.qual d_inverse.params d_inverse.body d_inverse.scope (d_inverse.dvs K) (d_inverse.kws K) (He.fAd K d_inverse.at_) fd := t.says.def_ 38 (d := d_inverse) rfl
theorem Tx.f_origin_of (t : Tx K mg) : ∃ fd, FunD K d_origin_of.name d_origin_of.qual d_origin_of.params d_origin_of.body d_origin_of.scope (d_origin_of.dvs K) (d_origin_of.kws K) (He.fAd K d_origin_of.at_) fd := t.says.def_ 39 (d := d_origin_of) rfl
theorem Tx.f_run_init (t : Tx K mg) : ∃ fd, FunD K d_run_init.name d_run_init.qual d_run_init.params d_run_init.body d_run_init.scope (d_run_init.dvs K) (d_run_init.kws K) (He.fAd K d_run_init.at_) fd := t.says.def_ 40 (d := d_run_init) rfl
theorem Tx.f_run_reaches_end (t : Tx K mg) : ∃ fd, FunD K d_run_reaches_end.name d_run_reaches_end.qual d_run_reaches_end.params d_run_reaches_end.body d_run_reaches_end.scope (d_run_reaches_end.dvs K) (d_run_reaches_end.kws K) (He.fAd K d_run_reaches_end.at_) fd := t.says.def_ 41 (d := d_run_reaches_end) rfl
theorem Tx.f_run_last_symbol (t : Tx K mg) : ∃ fd, FunD K d_run_last_symbol.name d_run_last_symbol.qual d_run_last_symbol.params d_run_last_symbol.body d_run_last_symbol.scope (d_run_last_symbol.dvs K) (d_run_last_symbol.kws K) (He.fAd K d_run_last_symbol.at_) fd := t.says.def_ 42 (d := d_run_last_symbol) rfl
theorem Tx.f_run_occurrences_in (t : Tx K mg) : ∃ fd, FunD K d_run_occurrences_in.name d_run_occurrences_in.qual d_run_occurrences_in.params d_run_occurrences_in.body d_run_occurrences_in.scope (d_run_occurrences_in.dvs K) (d_run_occurrences_in.kws K) (He.fAd K d_run_occurrences_in.at_) fd := t.says.def_ 43 (d := d_run_occurrences_in) rfl
theorem Tx.f_run_position_of (t : Tx K mg) : ∃ fd, FunD K d_run_position_of.name d_run_position_of.qual d_run_position_of.params d_run_position_of.body d_run_position_of.scope (d_run_position_of.dvs K) (d_run_position_of.kws K) (He.fAd K d_run_position_of.at_) fd := t.says.def_ 44 (d := d_run_position_of) rfl
theorem Tx.f_runs_from (t : Tx K mg) : ∃ fd, FunD K d_runs_from.name d_runs_from.qual d_runs_from.params d_runs_from.body d_runs_from.scope (d_runs_from.dvs K) (d_runs_from.kws K) (He.fAd K d_runs_from.at_) fd := t.says.def_ 45 (d := d_runs_from) rfl
theorem Tx.f_occurrences_init (t : Tx K mg) : ∃ fd, FunD K d_occurrences_init.name d_occurrences_init.qual d_occurrences_init.params d_occurrences_init.body d_occurrences_init.scope (d_occurrences_init.dvs K) (d_occurrences_init.kws K) (He.fAd K d_occurrences_init.at_) fd := t.says.def_ 46 (d := d_occurrences_init) rfl
theorem Tx.f_occurrences_number_in_all (t : Tx K mg) : ∃ fd, FunD K d_occurrences_number_in_all.name d_occurrences_number_in_all.qual d_occurrences_number_in_all.params d_occurrences_number_in_all.body d_occurrences_number_in_all.scope (d_occurrences_number_in_all.dvs K) (d_occurrences_number_in_all.kws K) (He.fAd K d_occurrences_number_in_all.at_) fd := t.says.def_ 47 (d := d_occurrences_number_in_all) rfl
theorem Tx.f_occurrences_number_before (t : Tx K mg) : ∃ fd, FunD K d_occurrences_number_before.name d_occurrences_number_before.qual d_occurrences_number_before.params d_occurrences_number_before.body d_occurrences_number_before.scope (d_occurrences_number_before.dvs K) (d_occurrences_number_before.kws K) (He.fAd K d_occurrences_number_before.at_) fd := t.says.def_ 48 (d := d_occurrences_number_before) rfl
theorem Tx.f_occurrences_nth_position (t : Tx K mg) : ∃ fd, FunD K d_occurrences_nth_position.name d_occurrences_nth_position.qual d_occurrences_nth_position.params d_occurrences_nth_position.body d_occurrences_nth_position.scope (d_occurrences_nth_position.dvs K) (d_occurrences_nth_position.kws K) (He.fAd K d_occurrences_nth_position.at_) fd := t.says.def_ 49 (d := d_occurrences_nth_position) rfl
theorem Tx.f_same_symbol (t : Tx K mg) : ∃ fd, FunD K d_same_symbol.name d_same_symbol.qual d_same_symbol.params d_same_symbol.body d_same_symbol.scope (d_same_symbol.dvs K) (d_same_symbol.kws K) (He.fAd K d_same_symbol.at_) fd := t.says.def_ 50 (d := d_same_symbol) rfl
theorem Tx.f_count_before (t : Tx K mg) : ∃ fd, FunD K d_count_before.name d_count_before.qual d_count_before.params d_count_before.body d_count_before.scope (d_count_before.dvs K) (d_count_before.kws K) (He.fAd K d_count_before.at_) fd := t.says.def_ 51 (d := d_count_before) rfl
theorem Tx.f_count_total (t : Tx K mg) : ∃ fd, FunD K d_count_total.name d_count_total.qual d_count_total.params d_count_total.body d_count_total.scope (d_count_total.dvs K) (d_count_total.kws K) (He.fAd K d_count_total.at_) fd := t.says.def_ 52 (d := d_count_total) rfl
theorem Tx.f_nth_occurrence (t : Tx K mg) : ∃ fd, FunD K d_nth_occurrence.name d_nth_occurrence.qual d_nth_occurrence.params d_nth_occurrence.body d_nth_occurrence.scope (d_nth_occurrence.dvs K) (d_nth_occurrence.kws K) (He.fAd K d_nth_occurrence.at_) fd := t.says.def_ 53 (d := d_nth_occurrence) rfl
theorem Tx.f_law_stream (t : Tx K mg) : ∃ fd, FunD K d_law_stream.name d_law_stream.qual d_law_stream.params d_law_stream.body d_law_stream.scope (d_law_stream.dvs K) (d_law_stream.kws K) (He.fAd K d_law_stream.at_) fd := t.says.def_ 54 (d := d_law_stream) rfl
theorem Tx.f_law_draw (t : Tx K mg) : ∃ fd, FunD K d_law_draw.name d_law_draw.qual d_law_draw.params d_law_draw.body d_law_draw.scope (d_law_draw.dvs K) (d_law_draw.kws K) (He.fAd K d_law_draw.at_) fd := t.says.def_ 55 (d := d_law_draw) rfl
theorem Tx.f_law_distances (t : Tx K mg) : ∃ fd, FunD K d_law_distances.name d_law_distances.qual d_law_distances.params d_law_distances.body d_law_distances.scope (d_law_distances.dvs K) (d_law_distances.kws K) (He.fAd K d_law_distances.at_) fd := t.says.def_ 56 (d := d_law_distances) rfl
theorem Tx.f_law_symbols (t : Tx K mg) : ∃ fd, FunD K d_law_symbols.name d_law_symbols.qual d_law_symbols.params d_law_symbols.body d_law_symbols.scope (d_law_symbols.dvs K) (d_law_symbols.kws K) (He.fAd K d_law_symbols.at_) fd := t.says.def_ 57 (d := d_law_symbols) rfl
theorem Tx.f_law_ids (t : Tx K mg) : ∃ fd, FunD K d_law_ids.name d_law_ids.qual d_law_ids.params d_law_ids.body d_law_ids.scope (d_law_ids.dvs K) (d_law_ids.kws K) (He.fAd K d_law_ids.at_) fd := t.says.def_ 58 (d := d_law_ids) rfl
theorem Tx.f_law_mapping (t : Tx K mg) : ∃ fd, FunD K d_law_mapping.name d_law_mapping.qual d_law_mapping.params d_law_mapping.body d_law_mapping.scope (d_law_mapping.dvs K) (d_law_mapping.kws K) (He.fAd K d_law_mapping.at_) fd := t.says.def_ 59 (d := d_law_mapping) rfl
theorem Tx.f_law_symbol_count (t : Tx K mg) : ∃ fd, FunD K d_law_symbol_count.name d_law_symbol_count.qual d_law_symbol_count.params d_law_symbol_count.body d_law_symbol_count.scope (d_law_symbol_count.dvs K) (d_law_symbol_count.kws K) (He.fAd K d_law_symbol_count.at_) fd := t.says.def_ 60 (d := d_law_symbol_count) rfl
theorem Tx.f_law_sequence (t : Tx K mg) : ∃ fd, FunD K d_law_sequence.name d_law_sequence.qual d_law_sequence.params d_law_sequence.body d_law_sequence.scope (d_law_sequence.dvs K) (d_law_sequence.kws K) (He.fAd K d_law_sequence.at_) fd := t.says.def_ 61 (d := d_law_sequence) rfl
theorem Tx.f_law_double_block (t : Tx K mg) : ∃ fd, FunD K d_law_double_block.name d_law_double_block.qual d_law_double_block.params d_law_double_block.body d_law_double_block.scope (d_law_double_block.dvs K) (d_law_double_block.kws K) (He.fAd K d_law_double_block.at_) fd := t.says.def_ 62 (d := d_law_double_block) rfl
theorem Tx.f_law_with_double_block (t : Tx K mg) : ∃ fd, FunD K d_law_with_double_block.name d_law_with_double_block.qual d_law_with_double_block.params d_law_with_double_block.body d_law_with_double_block.scope (d_law_with_double_block.dvs K) (d_law_with_double_block.kws K) (He.fAd K d_law_with_double_block.at_) fd := t.says.def_ 63 (d := d_law_with_double_block) rfl
theorem Tx.f_law_with_split_block (t : Tx K mg) : ∃ fd, FunD K d_law_with_split_block.name d_law_with_split_block.qual d_law_with_split_block.params d_law_with_split_block.body d_law_with_split_block.scope (d_law_with_split_block.dvs K) (d_law_with_split_block.kws K) (He.fAd K d_law_with_split_block.at_) fd := t.says.def_ 64 (d := d_law_with_split_block) rfl
theorem Tx.f_law_position_holds (t : Tx K mg) : ∃ fd, FunD K d_law_position_holds.name d_law_position_holds.qual d_law_position_holds.params d_law_position_holds.body d_law_position_holds.scope (d_law_position_holds.dvs K) (d_law_position_holds.kws K) (He.fAd K d_law_position_holds.at_) fd := t.says.def_ 65 (d := d_law_position_holds) rfl
theorem Tx.f_law_equivalent (t : Tx K mg) : ∃ fd, FunD K d_law_equivalent.name d_law_equivalent.qual d_law_equivalent.params d_law_equivalent.body d_law_equivalent.scope (d_law_equivalent.dvs K) (d_law_equivalent.kws K) (He.fAd K d_law_equivalent.at_) fd := t.says.def_ 66 (d := d_law_equivalent) rfl
theorem Tx.f_law_holds (t : Tx K mg) : ∃ fd, FunD K d_law_holds.name d_law_holds.qual d_law_holds.params d_law_holds.body d_law_holds.scope (d_law_holds.dvs K) (d_law_holds.kws K) (He.fAd K d_law_holds.at_) fd := t.says.def_ 67 (d := d_law_holds) rfl
theorem Tx.f_law (t : Tx K mg) : ∃ fd, FunD K d_law.name d_law.qual d_law.params d_law.body d_law.scope (d_law.dvs K) (d_law.kws K) (He.fAd K d_law.at_) fd := t.says.def_ 68 (d := d_law) rfl
end
end HB
/-! the head -/
namespace HB
open PySem PySem.Spec PyProof.Rows L2
def loose0 : List PySem.Str := ["HowFarBackError", "InvalidDistances", "InvalidPosition", "InvalidNumber", "InvalidMapping", "TooLong", "InvalidSequence", "InvalidPattern", "MAX_POSITIONS", "is_integer", "is_sequence", "is_distances"]
def loose1 : List PySem.Str := ["checked", "ids_of", "distances_by", "symbol_count", "check_position", "is_pair", "is_mapping", "concatenate", "MOST_BLOCKS", "MOST_BLOCK_LENGTH", "MOST_REPETITIONS", "MOST_WINDOW"]
def loose2 : List PySem.Str := ["BLOCK_FIELDS", "is_block", "is_compressed", "Block", "blocks_of", "check_number", "block_at", "window_in", "total_length", "distance_at", "window_at", "new_before"]
def loose3 : List PySem.Str := ["nth_new", "MOST_PATTERN", "checked_pattern", "matches_inside", "Search", "count_matches", "stretches_of", "difference_in", "first_difference", "chain_from", "inverse", "origin_of"]
def loose4 : List PySem.Str := ["Run", "runs_from", "Occurrences", "same_symbol", "count_before", "count_total", "nth_occurrence", "_law_stream", "_law_draw", "_law_distances", "_law_symbols", "_law_ids"]
def loose5 : List PySem.Str := ["_law_mapping", "_law_symbol_count", "_law_sequence", "_law_double_block", "_law_with_double_block", "_law_with_split_block", "_law_position_holds", "_law_equivalent", "_law_holds"]
def loose : List PySem.Str := loose0 ++ loose1 ++ loose2 ++ loose3 ++ loose4 ++ loose5
abbrev R : PySem.W.OpenRow := PySem.W.OpenLaw.row PySem.Challenge.rw_howfarback_k62_whole_repeated_blocks
def bcB (K : PySem.W.Frag) : Bool := He.eqO (PySem.W.findIn K (.ref (He.ga K "Block")) "__eq__") (some (some (.builtin "object.__eq__"))) && decide (PySem.W.mroIn K (He.ga K "Block") (.type "object") = some true)
abbrev AlB : Type := Bool × He.AlD
def obsB (K : PySem.W.Frag) : AlB := (bcB K, He.obsD fa fn K)
def fragOf (g : Addr → Option Obj) : PySem.W.Frag := He.frG g (He.asD g 4)
/-- the facts by names, and that a Block has no == of its own -/
def hk : PySem.W.Hook where
  α := AlB
  obs := fun s => obsB (fragOf s.heap.get?)
  val := fun _ => (true, He.valD fn)
  says := fun _ h => ∃ K : PySem.W.Frag, K.In h ∧ He.SaysD fa fn K ∧ bcB K = true
  of := fun _ _ e => ⟨_, He.frG_in, congrArg (fun z : AlB => z.2) e, congrArg (fun z : AlB => z.1) e⟩
  keeps := fun _ _ _ ⟨K, hK, c⟩ k => ⟨K, PySem.W.Frag.In.keeps hK k, c⟩
def fragT (s : PySem.W.SharedT) : PySem.W.Frag := fragOf (HandSHeadRun.getT s)
def ob (s : PySem.W.SharedT) : AlB := obsB (fragT s)
theorem ob_eq (s : PySem.W.SharedT) : ob s = hk.obs s.abs := by
  have e : HandSHeadRun.getT s = s.abs.heap.get? := funext (HandSHeadRun.getT_eq s)
  show obsB (fragOf (HandSHeadRun.getT s)) = obsB (fragOf s.abs.heap.get?)
  rw [e]
/-! the run is computed four times, with one look each: less memory at once -/
noncomputable def topEnd (w : World) (os : OsState) : Option PySem.W.SharedT := HandSHeadRun.endF (HandSHeadRun.stepQ (HandSHeadRun.denQ HandSHeadRun.tabQ) R.prog w) 16000 R.prog w os
abbrev vw : Program := PySem.W.view R.prog [76]
abbrev XB (s : Shared) : Bool := PySem.W.xlAt vw [] s && PySem.W.recOk R.toRowW.records s
noncomputable abbrev look1 (w : World) (s : PySem.W.SharedT) : Bool := HandSHeadRun.looksF R.prog (PySem.W.boot_heap w.params) s.abs
noncomputable abbrev look2 (s : PySem.W.SharedT) := HandSHeadRun.seenQ vw loose (importedModules R.prog.main.body) XB s.abs
theorem run_a (w : World) (os : OsState) : (topEnd w os).map (fun s => (look1 w s, look2 s)) = some (true, PySem.W.openGood vw loose) := by
  kernel_rfl
theorem run_b (w : World) (os : OsState) : (topEnd w os).map (fun s => fa.all fun f => f.ok (fragT s)) = some true := by
  kernel_rfl
theorem run_c (w : World) (os : OsState) : (topEnd w os).map (fun s => bcB (fragT s) && fn.all fun d => d.ok (fragT s)) = some true := by
  kernel_rfl
theorem run_d (w : World) (os : OsState) : (topEnd w os).map (fun s => fn.map fun d => He.fnW (fragT s) d.at_) = some (fn.map He.DefD.val) := by
  kernel_rfl
theorem run (w : World) : HandSHeadRun.RunEq R vw hk ob 16000 loose w := by
  intro os
  have a := run_a w os
  have b := run_b w os
  have c := run_c w os
  have d := run_d w os
  show (topEnd w os).map (fun s => (look1 w s, look2 s, ob s)) = some (true, PySem.W.openGood vw loose, (true, He.valD fn))
  generalize topEnd w os = x at *
  cases x with
  | none => cases b
  | some s =>
    have a := Option.some.inj a
    have b : (fa.all fun f => f.ok (fragT s)) = true := Option.some.inj b
    have c : (bcB (fragT s) && fn.all fun d => d.ok (fragT s)) = true := Option.some.inj c
    have d : (fn.map fun d => He.fnW (fragT s) d.at_) = fn.map He.DefD.val := Option.some.inj d
    have a1 := congrArg Prod.fst a
    have a2 := congrArg Prod.snd a
    obtain ⟨c1, c2⟩ := He.ba c
    have e : ob s = (true, He.valD fn) := by
      show (bcB (fragT s), ((fa.all fun f => f.ok (fragT s)) && fn.all fun d => d.ok (fragT s)), fn.map fun d => He.fnW (fragT s) d.at_) = (true, true, fn.map He.DefD.val)
      rw [c1, b, c2, d, Bool.true_and]
    show some (look1 w s, look2 s, ob s) = _
    rw [e, show look1 w s = true from a1, show look2 s = PySem.W.openGood vw loose from a2]
end HB
/-! the plain side: distance lists, mappings, blocks -/
namespace HB
/-- the last place of s in l -/
def lastI : List Nat → Nat → Option Nat
  | [], _ => none
  | x :: l, s => match lastI l s with
    | some j => some (j + 1)
    | none => if x = s then some 0 else none
/-- the distance list of a list of symbols -/
def dists (l : List Nat) : List Nat := (List.range l.length).map fun i => match lastI (l.take i) (l.getD i 0) with
  | some j => i - j
  | none => 0
/-- a distance list -/
structure ValidD (xs : List Nat) : Prop where
  le : ∀ (i d : Nat), xs[i]? = some d → d ≤ i
  inj : ∀ (i j d e : Nat), xs[i]? = some d → xs[j]? = some e → 0 < d → 0 < e → i - d = j - e → i = j
def idsF (st : List Nat × Nat) (e : Nat) : List Nat × Nat := if e = 0 then (st.1 ++ [st.2], st.2 + 1) else (st.1 ++ [st.1.getD (st.1.length - e) 0], st.2)
def idsG (xs : List Nat) : List Nat × Nat := xs.foldl idsF ([], 0)
/-- the symbol ids -/
def ids (xs : List Nat) : List Nat := (idsG xs).1
/-- how many symbols -/
def nz (xs : List Nat) : Nat := xs.count 0
/-- a mapping's look-up -/
def lk (m : List (Nat × Nat)) (s : Nat) : Option Nat := (m.find? fun p => decide (p.1 = s)).map (·.2)
structure ValidM (m : List (Nat × Nat)) (a b : Nat) : Prop where
  lt : ∀ p ∈ m, p.1 < a ∧ p.2 < b
  asc : m.Pairwise fun p q => p.1 < q.1
  inj : (m.map (·.2)).Nodup
structure Blk where
  base : List Nat
  link : List (Nat × Nat)
  turn : List (Nat × Nat)
  cnt : Nat
structure ValidB (b : Blk) (prev : Nat) : Prop where
  base : ValidD b.base
  pos : 1 ≤ b.base.length
  most : b.base.length ≤ 40
  link : ValidM b.link (nz b.base) prev
  turn : ValidM b.turn (nz b.base) (nz b.base)
  one : 1 ≤ b.cnt
  many : b.cnt ≤ 10 ^ 30
def ValidS : List Blk → Nat → Prop
  | [], _ => True
  | b :: r, p => ValidB b p ∧ ValidS r (nz b.base)
/-- the distances of a repetition behind another one -/
def ext (base ids : List Nat) (m : List (Nat × Nat)) (psize : Nat) (pids : List Nat) : List Nat :=
  (List.range base.length).map fun o => if base.getD o 0 = 0 then (match lk m (ids.getD o 0) with
    | some t => o + psize - (lastI pids t).getD 0
    | none => 0) else base.getD o 0
structure BO where
  base : List Nat
  ids : List Nat
  size : Nat
  reps : Nat
  beg : Nat
  linked : List (Nat × Nat)
  turned : List (Nat × Nat)
  later : List Nat
  first : List Nat
def BO.fin (B : BO) : Nat := B.beg + B.size * B.reps
def mkBO (b : Blk) (beg : Nat) (prev : Option BO) : BO where
  base := b.base
  ids := HB.ids b.base
  size := b.base.length
  reps := b.cnt
  beg := beg
  linked := b.link
  turned := b.turn
  later := ext b.base (HB.ids b.base) b.turn b.base.length (HB.ids b.base)
  first := match prev with
    | none => b.base
    | some p => ext b.base (HB.ids b.base) b.link p.size p.ids
def mkBOs : List Blk → Nat → Option BO → List BO
  | [], _, _ => []
  | b :: r, beg, prev => mkBO b beg prev :: mkBOs r (mkBO b beg prev).fin (some (mkBO b beg prev))
def boS (s : List Blk) : List BO := mkBOs s 0 none
def BO.dist (B : BO) (p : Nat) : Nat := if (p - B.beg) / B.size = 0 then B.first.getD ((p - B.beg) % B.size) 0 else B.later.getD ((p - B.beg) % B.size) 0
/-- the distance at a position -/
def dAt : List BO → Nat → Nat
  | [], _ => 0
  | B :: r, p => if B.beg ≤ p ∧ p < B.fin then B.dist p else dAt r p
/-- how many positions there are -/
def tot : List BO → Nat
  | [] => 0
  | [B] => B.fin
  | _ :: B :: r => tot (B :: r)
/-- how many p < n keep P -/
def cnt (P : Nat → Bool) : Nat → Nat
  | 0 => 0
  | n + 1 => cnt P n + if P n then 1 else 0
/-- the i-th p < N that keeps P -/
def NthP (P : Nat → Bool) (N i : Nat) : Option Nat → Prop
  | none => cnt P N ≤ i
  | some p => p < N ∧ P p = true ∧ cnt P p = i
def win (d : Nat → Nat) (p n : Nat) : List Nat := (List.range n).map fun i => if d (p + i) ≤ i then d (p + i) else 0
/-- the first position of the symbol at p -/
def root (d : Nat → Nat) (p : Nat) : Nat := if h : 0 < d p ∧ d p ≤ p then root d (p - d p) else p
termination_by p
decreasing_by omega
end HB
/-! symbol ids and distance lists -/
namespace HB
theorem take_snoc {α : Type} {xs : List α} {i : Nat} {e : α} (h : xs[i]? = some e) : xs.take (i + 1) = xs.take i ++ [e] := by
  rw [List.take_succ, h]
  rfl
theorem idsG_snoc {xs : List Nat} {i e : Nat} (h : xs[i]? = some e) : idsG (xs.take (i + 1)) = idsF (idsG (xs.take i)) e := by
  unfold idsG
  rw [take_snoc h, List.foldl_append]
  rfl
theorem idsF_len (st : List Nat × Nat) (e : Nat) : (idsF st e).1.length = st.1.length + 1 := by
  unfold idsF
  split <;> simp
theorem idsG_app (xs : List Nat) (e : Nat) : idsG (xs ++ [e]) = idsF (idsG xs) e := by
  unfold idsG
  rw [List.foldl_append]
  rfl
theorem snoc_ind {α : Type} {P : List α → Prop} (h0 : P []) (h1 : ∀ xs x, P xs → P (xs ++ [x])) (xs : List α) : P xs := by
  have h : ∀ ys : List α, P ys.reverse := by
    intro ys
    induction ys with
    | nil => exact h0
    | cons y r ih =>
      rw [List.reverse_cons]
      exact h1 _ _ ih
  have := h xs.reverse
  rwa [List.reverse_reverse] at this
theorem idsG_len (xs : List Nat) : (idsG xs).1.length = xs.length := by
  induction xs using snoc_ind with
  | h0 => rfl
  | h1 xs x ih => rw [idsG_app, idsF_len, ih, List.length_append]; rfl
theorem ids_len (xs : List Nat) : (ids xs).length = xs.length := idsG_len xs
theorem idsG_nz (xs : List Nat) : (idsG xs).2 = nz xs := by
  induction xs using snoc_ind with
  | h0 => rfl
  | h1 xs x ih =>
    rw [idsG_app]
    unfold idsF nz at *
    rw [List.count_append]
    by_cases h : x = 0
    · rw [if_pos h, h]
      show (idsG xs).2 + 1 = _
      rw [ih]
      rfl
    · rw [if_neg h]
      show (idsG xs).2 = _
      rw [ih, List.count_singleton, if_neg (by simpa using h), Nat.add_zero]
theorem lastI_snoc (l : List Nat) (x s : Nat) : lastI (l ++ [x]) s = if x = s then some l.length else lastI l s := by
  induction l with
  | nil =>
    show (if x = s then some 0 else none) = if x = s then some 0 else none
    rfl
  | cons y r ih =>
    show (match lastI (r ++ [x]) s with
      | some j => some (j + 1)
      | none => if y = s then some 0 else none) = _
    rw [ih]
    by_cases e : x = s
    · rw [if_pos e, if_pos e]
      rfl
    · rw [if_neg e, if_neg e]
      rfl
theorem dists_snoc (l : List Nat) (x : Nat) : dists (l ++ [x]) = dists l ++ [match lastI l x with
    | some j => l.length - j
    | none => 0] := by
  unfold dists
  rw [List.length_append, List.length_singleton, List.range_succ, List.map_append]
  congr 1
  · refine List.map_congr_left fun i hi => ?_
    have h : i < l.length := List.mem_range.mp hi
    rw [List.take_append_of_le_length (by omega), List.getD_eq_getElem?_getD, List.getElem?_append_left h, ← List.getD_eq_getElem?_getD]
  · rw [List.map_singleton, List.take_left, List.getD_eq_getElem?_getD, List.getElem?_append_right (Nat.le_refl _), Nat.sub_self]
    rfl
theorem dists_take {xs : List Nat} {i x : Nat} (h : xs[i]? = some x) : dists (xs.take (i + 1)) = dists (xs.take i) ++ [match lastI (xs.take i) x with
    | some j => i - j
    | none => 0] := by
  rw [take_snoc h, dists_snoc, List.length_take]
  have := (List.getElem?_eq_some_iff.mp h).1
  rw [Nat.min_eq_left (by omega)]
theorem dists_len (l : List Nat) : (dists l).length = l.length := by
  unfold dists
  rw [List.length_map, List.length_range]
theorem lastI_lt {l : List Nat} {s j : Nat} (h : lastI l s = some j) : j < l.length ∧ l[j]? = some s := by
  induction l using snoc_ind with
  | h0 => cases h
  | h1 l x ih =>
    rw [lastI_snoc] at h
    by_cases e : x = s
    · rw [if_pos e] at h
      cases h
      rw [List.length_append]
      exact ⟨by simp, by rw [List.getElem?_append_right (Nat.le_refl _), Nat.sub_self, e]; rfl⟩
    · rw [if_neg e] at h
      obtain ⟨h1, h2⟩ := ih h
      rw [List.length_append, List.getElem?_append_left h1]
      exact ⟨by simp; omega, h2⟩
/-- where the positive entries lead -/
def tgs (xs : List Nat) (i : Nat) : Option Nat := if 0 < xs.getD i 0 then some (i - xs.getD i 0) else none
theorem tgs_nodup {xs : List Nat} (h : ValidD xs) : ∀ n, n ≤ xs.length → ((List.range n).filterMap (tgs xs)).Nodup
  | 0, _ => by simp
  | n + 1, hn => by
    rw [List.range_succ, List.filterMap_append, List.nodup_append]
    refine ⟨tgs_nodup h n (by omega), ?_, ?_⟩
    · cases e : tgs xs n <;> simp [e]
    · intro a ha b hb
      rw [List.mem_filterMap] at ha hb
      obtain ⟨i, hi, ei⟩ := ha
      obtain ⟨j, hj, ej⟩ := hb
      have hi := List.mem_range.mp hi
      have hj : j = n := by simpa using hj
      subst hj
      intro eab
      unfold tgs at ei ej
      split at ei
      · rename_i p1
        split at ej
        · rename_i p2
          have q1 := Option.some.inj ei
          have q2 := Option.some.inj ej
          have g : ∀ k, k < xs.length → xs[k]? = some (xs.getD k 0) := fun k hk => by
            rw [List.getD_eq_getElem?_getD, List.getElem?_eq_getElem hk]
            rfl
          have := h.inj i j _ _ (g i (by omega)) (g j (by omega)) p1 p2 (by omega)
          omega
        · cases ej
      · cases ei
theorem lastI_some {l : List Nat} {s : Nat} (h : s ∈ l) : ∃ j, lastI l s = some j := by
  induction l using snoc_ind with
  | h0 => cases h
  | h1 l x ih =>
    rw [lastI_snoc]
    by_cases e : x = s
    · exact ⟨_, if_pos e⟩
    · rw [if_neg e]
      refine ih ?_
      rcases List.mem_append.mp h with h | h
      · exact h
      · exact absurd (List.mem_singleton.mp h).symm e
theorem ids_has {xs : List Nat} {s : Nat} (h : s < nz xs) : s ∈ ids xs := by
  show s ∈ (idsG xs).1
  rw [← idsG_nz] at h
  induction xs using snoc_ind with
  | h0 => exact absurd h (Nat.not_lt_zero _)
  | h1 xs x ih =>
    rw [idsG_app] at h ⊢
    unfold idsF at h ⊢
    by_cases e : x = 0
    · rw [if_pos e] at h ⊢
      have h : s < (idsG xs).2 + 1 := h
      show s ∈ (idsG xs).1 ++ [(idsG xs).2]
      rcases Nat.lt_or_eq_of_le (Nat.lt_succ_iff.mp h) with h | h
      · exact List.mem_append_left _ (ih h)
      · rw [h]
        exact List.mem_append_right _ (List.mem_singleton.mpr rfl)
    · rw [if_neg e] at h ⊢
      exact List.mem_append_left _ (ih h)
theorem lk_mem {m : List (Nat × Nat)} {s t : Nat} (h : lk m s = some t) : (s, t) ∈ m := by
  unfold lk at h
  obtain ⟨p, hp, rfl⟩ := Option.map_eq_some_iff.mp h
  have h1 := List.mem_of_find?_eq_some hp
  have h2 : p.1 = s := by simpa using List.find?_some hp
  rw [← h2]
  exact h1
/-- what a turn's targets have -/
theorem turn_last {xs : List Nat} {m : List (Nat × Nat)} {a : Nat} (h : ValidM m a (nz xs)) (s t : Nat) (e : lk m s = some t) : ∃ j, lastI (ids xs) t = some j ∧ j ≤ xs.length := by
  obtain ⟨j, hj⟩ := lastI_some (ids_has (h.lt _ (lk_mem e)).2)
  have := (lastI_lt hj).1
  rw [ids_len] at this
  exact ⟨j, hj, by omega⟩
theorem asc_len : ∀ (l : List Nat) (b : Nat), l.Pairwise (· < ·) → (∀ x ∈ l, x < b) → l.length ≤ b := by
  intro l
  induction l using snoc_ind with
  | h0 => intro b _ _; exact Nat.zero_le _
  | h1 l x ih =>
    intro b h1 h2
    rw [List.pairwise_append] at h1
    have h3 := ih x h1.1 fun y hy => h1.2.2 y hy x (List.mem_singleton.mpr rfl)
    have h4 := h2 x (List.mem_append_right _ (List.mem_singleton.mpr rfl))
    rw [List.length_append, List.length_singleton]
    omega
theorem ValidM.len {m : List (Nat × Nat)} {a b : Nat} (h : ValidM m a b) : m.length ≤ a := by
  have := asc_len (m.map (·.1)) a (List.pairwise_map.mpr h.asc) fun x hx => by
    obtain ⟨p, hp, rfl⟩ := List.mem_map.mp hx
    exact (h.lt p hp).1
  rwa [List.length_map] at this
theorem nz_le (xs : List Nat) : nz xs ≤ xs.length := List.count_le_length
theorem ext_len {base is : List Nat} {m : List (Nat × Nat)} {ps : Nat} {pids : List Nat} : (ext base is m ps pids).length = base.length := by
  unfold ext
  rw [List.length_map, List.length_range]
end HB
/-! lists of block objects -/
namespace HB
structure OkB (B : BO) : Prop where
  pos : 0 < B.size
  most : B.size ≤ 40
  base : B.base.length = B.size
  ids : B.ids = HB.ids B.base
  la : B.later.length = B.size
  fi : B.first.length = B.size
  one : 1 ≤ B.reps
/-- blocks that lie one behind the other, from b on -/
def ChB : List BO → Nat → Prop
  | [], _ => True
  | B :: r, b => B.beg = b ∧ OkB B ∧ ChB r B.fin
theorem OkB.fin_gt {B : BO} (h : OkB B) : B.beg < B.fin := by
  unfold BO.fin
  have : 1 ≤ B.size * B.reps := Nat.mul_pos h.pos h.one
  omega
theorem mkBO_ok {b : Blk} {p beg : Nat} {prev : Option BO} (h : ValidB b p) : OkB (mkBO b beg prev) where
  pos := h.pos
  most := h.most
  base := rfl
  ids := rfl
  la := ext_len
  fi := by
    cases prev with
    | none => rfl
    | some P => exact ext_len
  one := h.one
theorem chB_of : ∀ (s : List Blk) (p beg : Nat) (prev : Option BO), ValidS s p → ChB (mkBOs s beg prev) beg
  | [], _, _, _, _ => True.intro
  | b :: r, p, beg, prev, h => ⟨rfl, mkBO_ok h.1, chB_of r _ _ _ h.2⟩
theorem chB_boS {s : List Blk} (h : ValidS s 0) : ChB (boS s) 0 := chB_of s 0 0 none h
theorem mkBOs_len : ∀ (s : List Blk) (beg : Nat) (prev : Option BO), (mkBOs s beg prev).length = s.length
  | [], _, _ => rfl
  | b :: r, beg, prev => by
    show (mkBOs r _ _).length + 1 = r.length + 1
    rw [mkBOs_len]
theorem boS_len (s : List Blk) : (boS s).length = s.length := mkBOs_len s 0 none
/-- behind the last -/
def nextB (bs : List BO) (beg : Nat) : Nat := match bs.getLast? with
  | some B => B.fin
  | none => beg
theorem getLast_cons {α : Type} (a : α) (r : List α) : (a :: r).getLast? = match r.getLast? with
    | some x => some x
    | none => some a := by
  cases r with
  | nil => rfl
  | cons b r =>
    rw [List.getLast?_cons_cons]
    cases h : (b :: r).getLast? with
    | none => simp at h
    | some x => rfl
theorem mkBOs_snoc : ∀ (s : List Blk) (b : Blk) (beg : Nat) (prev : Option BO), mkBOs (s ++ [b]) beg prev = mkBOs s beg prev ++ [mkBO b (nextB (mkBOs s beg prev) beg) (match (mkBOs s beg prev).getLast? with
    | some P => some P
    | none => prev)]
  | [], _, _, _ => rfl
  | c :: r, b, beg, prev => by
    show mkBO c beg prev :: mkBOs (r ++ [b]) _ _ = mkBO c beg prev :: mkBOs r _ _ ++ [_]
    rw [mkBOs_snoc r b, List.cons_append]
    congr 4
    · show _ = nextB (mkBO c beg prev :: mkBOs r _ _) beg
      unfold nextB
      rw [getLast_cons]
      cases (mkBOs r (mkBO c beg prev).fin (some (mkBO c beg prev))).getLast? <;> rfl
    · show _ = match (mkBO c beg prev :: mkBOs r _ _).getLast? with
        | some P => some P
        | none => prev
      rw [getLast_cons]
      cases (mkBOs r (mkBO c beg prev).fin (some (mkBO c beg prev))).getLast? <;> rfl
theorem boS_snoc (s : List Blk) (b : Blk) : boS (s ++ [b]) = boS s ++ [mkBO b (nextB (boS s) 0) (boS s).getLast?] := by
  unfold boS
  rw [mkBOs_snoc]
  congr 3
  cases (mkBOs s 0 none).getLast? <;> rfl
theorem boS_take {s : List Blk} {i : Nat} {b : Blk} (h : s[i]? = some b) : boS (s.take (i + 1)) = boS (s.take i) ++ [mkBO b (nextB (boS (s.take i)) 0) (boS (s.take i)).getLast?] := by
  rw [take_snoc h, boS_snoc]
theorem tot_next : ∀ bs : List BO, tot bs = nextB bs 0
  | [] => rfl
  | [B] => rfl
  | A :: B :: r => by
    show tot (B :: r) = nextB (A :: B :: r) 0
    rw [tot_next (B :: r)]
    unfold nextB
    rw [List.getLast?_cons_cons]
/-- how many symbols the block before has -/
def prevZ (s : List Blk) (p : Nat) : Nat := match s.getLast? with
  | some c => nz c.base
  | none => p
theorem validS_snoc : ∀ (s : List Blk) (b : Blk) (p : Nat), ValidS (s ++ [b]) p ↔ ValidS s p ∧ ValidB b (prevZ s p)
  | [], b, p => ⟨fun h => ⟨True.intro, h.1⟩, fun h => ⟨h.2, True.intro⟩⟩
  | c :: r, b, p => by
    show ValidB c p ∧ ValidS (r ++ [b]) (nz c.base) ↔ (ValidB c p ∧ ValidS r (nz c.base)) ∧ ValidB b (prevZ (c :: r) p)
    have e : prevZ (c :: r) p = prevZ r (nz c.base) := by
      unfold prevZ
      rw [getLast_cons]
      cases r.getLast? <;> rfl
    rw [validS_snoc r b, e, and_assoc]
theorem validS_take {s : List Blk} {p : Nat} (h : ValidS s p) {i : Nat} {b : Blk} (hi : s[i]? = some b) : ValidB b (prevZ (s.take i) p) := by
  have h1 : ValidS (s.take (i + 1)) p := by
    have key : ∀ (s : List Blk) (p n : Nat), ValidS s p → ValidS (s.take n) p := by
      intro s
      induction s with
      | nil => intro p n _; rw [List.take_nil]; exact True.intro
      | cons c r ih =>
        intro p n h
        cases n with
        | zero => exact True.intro
        | succ n => exact ⟨h.1, ih _ n h.2⟩
    exact key s p (i + 1) h
  rw [take_snoc hi, validS_snoc] at h1
  exact h1.2
/-- the block before, as block and as object -/
theorem last_boS (s : List Blk) : (boS s).getLast? = none ∧ s.getLast? = none ∨ ∃ B b, (boS s).getLast? = some B ∧ s.getLast? = some b ∧ B.base = b.base ∧ B.ids = ids b.base ∧ B.size = b.base.length := by
  induction s using snoc_ind with
  | h0 => exact .inl ⟨rfl, rfl⟩
  | h1 s b ih =>
    rw [boS_snoc, List.getLast?_concat, List.getLast?_concat]
    exact .inr ⟨_, _, rfl, rfl, rfl, rfl, rfl⟩
/-- the block where p lies -/
theorem at_chB : ∀ (bs : List BO) (b : Nat), ChB bs b → ∀ p, b ≤ p → p < nextB bs b → ∃ (i : Nat) (B : BO), bs[i]? = some B ∧ B.beg ≤ p ∧ p < B.fin ∧ dAt bs p = B.dist p ∧ ∀ (j : Nat) (B' : BO), bs[j]? = some B' → (B'.beg ≤ p ∧ p < B'.fin ↔ j = i)
  | [], b, _, p, h1, h2 => absurd h2 (by unfold nextB; simp; omega)
  | B :: r, b, ⟨hb, hB, hr⟩, p, h1, h2 => by
    have later : ∀ (r : List BO) (c : Nat), ChB r c → ∀ (j : Nat) B', r[j]? = some B' → c ≤ B'.beg := by
      intro r
      induction r with
      | nil => intro c _ j B' h; simp at h
      | cons A r ih =>
        intro c hc j B' h
        cases j with
        | zero =>
          cases h
          exact Nat.le_of_eq hc.1.symm
        | succ j =>
          have := ih _ hc.2.2 j B' h
          have g := hc.2.1.fin_gt
          have := hc.1
          omega
    by_cases hp : p < B.fin
    · refine ⟨0, B, rfl, by omega, hp, if_pos ⟨by omega, hp⟩, fun j B' hj => ?_⟩
      cases j with
      | zero =>
        cases hj
        exact ⟨fun _ => rfl, fun _ => ⟨by omega, hp⟩⟩
      | succ j =>
        have := later r _ hr j B' hj
        exact ⟨fun ⟨h, _⟩ => by omega, fun h => absurd h (by omega)⟩
    · have e : nextB (B :: r) b = nextB r B.fin := by
        unfold nextB
        rw [getLast_cons]
        cases r.getLast? <;> rfl
      obtain ⟨i, A, q1, q2, q3, q4, q5⟩ := at_chB r B.fin hr p (by omega) (by rw [← e]; exact h2)
      refine ⟨i + 1, A, q1, q2, q3, ?_, fun j B' hj => ?_⟩
      · show (if B.beg ≤ p ∧ p < B.fin then B.dist p else dAt r p) = _
        rw [if_neg (by omega)]
        exact q4
      · cases j with
        | zero =>
          cases hj
          exact ⟨fun h => absurd h.2 hp, fun h => absurd h (by omega)⟩
        | succ j =>
          rw [q5 j B' hj]
          omega
theorem chB_get : ∀ {bs : List BO} {b : Nat}, ChB bs b → ∀ {i : Nat} {B : BO}, bs[i]? = some B → OkB B
  | [], _, _, i, B, h => by simp at h
  | A :: r, _, ⟨_, hA, hr⟩, i, B, h => by
    cases i with
    | zero =>
      cases h
      exact hA
    | succ i => exact chB_get hr h
/-- the places of the noughts -/
def zs (xs : List Nat) : List Nat := (List.range xs.length).filterMap fun i => if xs.getD i 0 = 0 then some i else none
def BO.zb (B : BO) (p : Nat) : Nat :=
  if (min (max p B.beg) B.fin - B.beg) / B.size = 0 then (B.first.take ((min (max p B.beg) B.fin - B.beg) % B.size)).count 0
  else B.first.count 0 + ((min (max p B.beg) B.fin - B.beg) / B.size - 1) * B.later.count 0 + (B.later.take ((min (max p B.beg) B.fin - B.beg) % B.size)).count 0
def BO.nthZ (B : BO) (n : Nat) : Nat :=
  if n < (zs B.first).length then B.beg + (zs B.first).getD n 0
  else B.beg + ((n - (zs B.first).length) / (zs B.later).length + 1) * B.size + (zs B.later).getD ((n - (zs B.first).length) % (zs B.later).length) 0
theorem zs_len_le (xs : List Nat) : (zs xs).length ≤ xs.length := by
  have := List.length_filterMap_le (fun i => if xs.getD i 0 = 0 then some i else none) (List.range xs.length)
  rw [List.length_range] at this
  exact this
theorem int_max (i j : Nat) : (if (j : Int) > (i : Int) then (j : Int) else (i : Int)) = ((max i j : Nat) : Int) := by
  split <;> omega
theorem int_min (i j : Nat) : (if (j : Int) < (i : Int) then (j : Int) else (i : Int)) = ((min i j : Nat) : Int) := by
  split <;> omega
theorem count_int (xs : List Nat) (k : Nat) : (xs.map fun n : Nat => (n : Int)).count (k : Int) = xs.count k := by
  induction xs with
  | nil => rfl
  | cons x r ih =>
    rw [List.map_cons, List.count_cons, List.count_cons, ih]
    by_cases h : x = k
    · subst h
      simp
    · have h1 : ((x : Int) == (k : Int)) = false := by
        simp
        omega
      have h2 : (x == k) = false := by
        simp
        omega
      rw [h1, h2]
structure VS (s : List Blk) : Prop where
  valid : ValidS s 0
  one : 1 ≤ s.length
  few : s.length ≤ 8
theorem count_len {xs : List Nat} {n : Nat} (h : n ≤ xs.length) : ((List.range n).filterMap fun i => if xs.getD i 0 = 0 then some i else none).length = (xs.take n).count 0 := by
  induction n with
  | zero => rw [List.take_zero]; rfl
  | succ n ih =>
    have hn : n < xs.length := h
    have hg : xs[n]? = some xs[n] := List.getElem?_eq_getElem hn
    rw [List.range_succ, List.filterMap_append, List.length_append, ih (by omega), take_snoc hg, List.count_append]
    congr 1
    have e : xs.getD n 0 = xs[n] := by
      rw [List.getD_eq_getElem?_getD, hg]
      rfl
    rw [List.filterMap_cons, List.filterMap_nil]
    rw [e]
    by_cases z : xs[n] = 0
    · rw [if_pos z, z]
      rfl
    · rw [if_neg z, List.count_singleton, if_neg (by simpa using z)]
      rfl
theorem zs_len (xs : List Nat) : (zs xs).length = xs.count 0 := by
  unfold zs
  rw [count_len (Nat.le_refl _), List.take_length]
/-- all noughts of a block -/
theorem zb_fin {B : BO} (h : OkB B) : B.zb B.fin = B.first.count 0 + (B.reps - 1) * B.later.count 0 := by
  have hf := h.fin_gt
  have hp := h.pos
  have h1 := h.one
  unfold BO.zb
  rw [show min (max B.fin B.beg) B.fin = B.fin by omega]
  have e : B.fin - B.beg = B.size * B.reps := by
    unfold BO.fin
    omega
  rw [e, Nat.mul_div_cancel_left _ hp, Nat.mul_mod_right, if_neg (by omega), List.take_zero, List.count_nil, Nat.add_zero]
theorem nthZ_ok {B : BO} (h : OkB B) {n : Nat} (hn : n < B.zb B.fin) : n < (zs B.first).length ∨ 0 < (zs B.later).length := by
  rw [zb_fin h] at hn
  rw [zs_len, zs_len]
  by_cases z : B.later.count 0 = 0
  · rw [z, Nat.mul_zero] at hn
    exact .inl hn
  · exact .inr (Nat.pos_of_ne_zero z)
def nthNew : List BO → Nat → Option Nat
  | [], _ => none
  | B :: r, n => if n < B.zb B.fin then some (B.nthZ n) else nthNew r (n - B.zb B.fin)
theorem tot_last {bs : List BO} {B : BO} (h : bs.getLast? = some B) : tot bs = B.fin := by
  rw [tot_next]
  unfold nextB
  rw [h]
/-! ### matches -/
/-- what a window of n from offset o on of the endless repetition holds -/
def lwin (later : List Nat) (size o n : Nat) : List Nat := (List.range n).map fun st => if later.getD ((o + st) % size) 0 ≤ st then later.getD ((o + st) % size) 0 else 0
/-- where, within a repetition, a match begins -/
def insides (B : BO) (pat : List Nat) : List Nat := (List.range B.size).filterMap fun o => if pat = lwin B.later B.size o pat.length then some o else none
/-- the matches that begin in B and end behind it -/
def across (bs : List BO) (B : BO) (pat : List Nat) : List Nat :=
  (List.range (min B.fin (tot bs + 1 - pat.length) - max B.beg (B.fin + 1 - pat.length))).filterMap fun i =>
    if win (dAt bs) (max B.beg (B.fin + 1 - pat.length) + i) pat.length = pat then some (max B.beg (B.fin + 1 - pat.length) + i) else none
/-- how many offsets lie below r -/
def below (xs : List Nat) (r : Nat) : Nat := ((List.range xs.length).filterMap fun i => if xs.getD i 0 < r then some (xs.getD i 0) else none).length
def insB (B : BO) (pat : List Nat) (p : Nat) : Nat :=
  if min p (B.fin + 1 - pat.length) ≤ B.beg then 0
  else (min p (B.fin + 1 - pat.length) - B.beg) / B.size * (insides B pat).length + below (insides B pat) ((min p (B.fin + 1 - pat.length) - B.beg) % B.size)
def numB (bs : List BO) (pat : List Nat) (p : Nat) : Nat := (bs.map fun B => insB B pat p + below (across bs B pat) p).sum
theorem lwin_len {later : List Nat} {size o n : Nat} : (lwin later size o n).length = n := by
  unfold lwin
  rw [List.length_map, List.length_range]
theorem lwin_get {later : List Nat} {size o n i : Nat} (h : i < n) : (lwin later size o n)[i]? = some (if later.getD ((o + i) % size) 0 ≤ i then later.getD ((o + i) % size) 0 else 0) := by
  unfold lwin
  rw [List.getElem?_map, List.getElem?_range h]
  rfl
theorem win_len {d : Nat → Nat} {p n : Nat} : (win d p n).length = n := by
  unfold win
  rw [List.length_map, List.length_range]
theorem win_get {d : Nat → Nat} {p n i : Nat} (h : i < n) : (win d p n)[i]? = some (if d (p + i) ≤ i then d (p + i) else 0) := by
  unfold win
  rw [List.getElem?_map, List.getElem?_range h]
  rfl
theorem insides_len (B : BO) (pat : List Nat) : (insides B pat).length ≤ B.size := by
  have := List.length_filterMap_le (fun o => if pat = lwin B.later B.size o pat.length then some o else none) (List.range B.size)
  rw [List.length_range] at this
  exact this
/-! ### stretches -/
def strB (B : BO) : List (Nat × Nat × List Nat) := (B.beg, B.beg + B.size, B.first) :: if 1 < B.reps then [(B.beg + B.size, B.fin, B.later)] else []
def strch (bs : List BO) : List (Nat × Nat × List Nat) := bs.flatMap strB
theorem strch_snoc (bs : List BO) (B : BO) : strch (bs ++ [B]) = strch bs ++ strB B := by
  unfold strch
  rw [List.flatMap_append]
  show _ ++ (strB B ++ []) = _
  rw [List.append_nil]
/-- a stretch says what D says -/
def StrOk (d : Nat → Nat) (x : Nat × Nat × List Nat) : Prop := 0 < x.2.2.length ∧ x.2.2.length ≤ 40 ∧ ∀ p, x.1 ≤ p → p < x.2.1 → d p = x.2.2.getD ((p - x.1) % x.2.2.length) 0
theorem strch_len : ∀ bs : List BO, (strch bs).length ≤ 2 * bs.length
  | [] => Nat.zero_le _
  | B :: r => by
    have := strch_len r
    show (strB B ++ strch r).length ≤ 2 * (r.length + 1)
    rw [List.length_append]
    have h : (strB B).length ≤ 2 := by
      unfold strB
      split <;> simp
    omega
theorem strch_ok {bs : List BO} (hc : ChB bs 0) : ∀ x ∈ strch bs, StrOk (dAt bs) x ∧ x.2.1 ≤ tot bs := by
  intro x hx
  unfold strch at hx
  obtain ⟨B, hB, hx⟩ := List.mem_flatMap.mp hx
  obtain ⟨i, hi⟩ := List.getElem?_of_mem hB
  have hO := chB_get hc hi
  have hpos := hO.pos
  have hf := hO.fin_gt
  have h1 := hO.one
  have hfin : B.fin = B.beg + B.size * B.reps := rfl
  have ht : B.fin ≤ tot bs := by
    have key : ∀ (bs : List BO) (b : Nat), ChB bs b → ∀ B ∈ bs, B.fin ≤ nextB bs b := by
      intro bs
      induction bs with
      | nil => intro b _ B h; cases h
      | cons A r ih =>
        intro b hc B h
        have e : nextB (A :: r) b = nextB r A.fin := by
          unfold nextB
          rw [getLast_cons]
          cases r.getLast? <;> rfl
        rw [e]
        rcases List.mem_cons.mp h with h | h
        · subst h
          cases r with
          | nil => exact Nat.le_refl _
          | cons C r =>
            have := ih _ hc.2.2 C (List.mem_cons_self ..)
            have g := hc.2.2.2.1.fin_gt
            have b' := hc.2.2.1
            omega
        · exact ih _ hc.2.2 B h
    rw [tot_next]
    exact key bs 0 hc B hB
  have hd : ∀ p, B.beg ≤ p → p < B.fin → dAt bs p = B.dist p := fun p h1 h2 => by
    obtain ⟨j, A, q1, q2, q3, q4, q5⟩ := at_chB bs 0 hc p (Nat.zero_le _) (by rw [← tot_next]; omega)
    have := (q5 i B hi).mp ⟨h1, h2⟩
    subst this
    rw [hi] at q1
    cases q1
    exact q4
  have hs : B.size ≤ B.size * B.reps := Nat.le_mul_of_pos_right _ h1
  unfold strB at hx
  rcases List.mem_cons.mp hx with hx | hx
  · subst hx
    refine ⟨⟨by rw [hO.fi]; exact hpos, by rw [hO.fi]; exact hO.most, fun p h1 h2 => ?_⟩, by show B.beg + B.size ≤ _; omega⟩
    have h1 : B.beg ≤ p := h1
    have h2 : p < B.beg + B.size := h2
    rw [hd p h1 (by omega)]
    unfold BO.dist
    rw [if_pos (Nat.div_eq_of_lt (by omega)), hO.fi]
  · by_cases c : 1 < B.reps
    · rw [if_pos c] at hx
      have hx := List.mem_singleton.mp hx
      subst hx
      refine ⟨⟨by rw [hO.la]; exact hpos, by rw [hO.la]; exact hO.most, fun p h1 h2 => ?_⟩, ht⟩
      have h1 : B.beg + B.size ≤ p := h1
      have h2 : p < B.fin := h2
      rw [hd p (by omega) h2]
      unfold BO.dist
      have : ¬ (p - B.beg) / B.size = 0 := by
        have := Nat.div_pos (show B.size ≤ p - B.beg by omega) hpos
        omega
      rw [if_neg this, hO.la]
      show B.later.getD ((p - B.beg) % B.size) 0 = B.later.getD ((p - (B.beg + B.size)) % B.size) 0
      rw [show p - B.beg = (p - (B.beg + B.size)) + B.size by omega, Nat.add_mod_right]
    · rw [if_neg c] at hx
      cases hx
end HB
/-! chains, runs, origins: what the text computes -/
namespace HB
structure ChainOf (f : Nat → Option Nat) (s : Nat) (ch : List Nat) (cyc : Bool) : Prop where
  pos : 1 ≤ ch.length
  few : ch.length ≤ 40
  head : ch[0]? = some s
  step : ∀ (i a b : Nat), ch[i]? = some a → ch[i + 1]? = some b → f a = some b
  last : ∀ a, ch.getLast? = some a → f a = if cyc = true then some s else none
def InjF (f : Nat → Option Nat) : Prop := ∀ a b c, f a = some c → f b = some c → a = b
theorem nodup_drop {l : List Nat} (a : Nat) (h : l.Nodup) : l.length ≤ (l.filter fun x => decide (x ≠ a)).length + 1 := by
  induction l with
  | nil => exact Nat.zero_le _
  | cons x r ih =>
    rw [List.nodup_cons] at h
    by_cases e : x = a
    · subst e
      have : (r.filter fun y => decide (y ≠ x)) = r := by
        rw [List.filter_eq_self]
        intro y hy
        exact decide_eq_true fun z => h.1 (z ▸ hy)
      rw [List.filter_cons_of_neg (by simp), this]
      exact Nat.le_refl _
    · rw [List.filter_cons_of_pos (by simpa using e)]
      have := ih h.2
      simp only [List.length_cons]
      omega
theorem nodup_len : ∀ (Z : Nat) (l : List Nat), l.Nodup → (∀ x ∈ l, x < Z) → l.length ≤ Z
  | 0, l, _, h => by
    cases l with
    | nil => exact Nat.le_refl _
    | cons x r => exact absurd (h x (List.mem_cons_self ..)) (Nat.not_lt_zero _)
  | Z + 1, l, hn, h => by
    have h1 := nodup_drop Z hn
    have h2 := nodup_len Z (l.filter fun x => decide (x ≠ Z)) (hn.filter _) fun x hx => by
      obtain ⟨h3, h4⟩ := List.mem_filter.mp hx
      have := h x h3
      have : x ≠ Z := of_decide_eq_true h4
      omega
    omega
/-- a chain as it grows -/
structure ChG (f : Nat → Option Nat) (s Z : Nat) (ch : List Nat) : Prop where
  pos : 1 ≤ ch.length
  head : ch[0]? = some s
  step : ∀ (i a b : Nat), ch[i]? = some a → ch[i + 1]? = some b → f a = some b
  nd : ch.Nodup
  lt : ∀ x ∈ ch, x < Z
theorem ChG.len {f : Nat → Option Nat} {s Z : Nat} {ch : List Nat} (h : ChG f s Z ch) : ch.length ≤ Z := nodup_len Z ch h.nd h.lt
theorem ChG.one {f : Nat → Option Nat} {s Z : Nat} (h : s < Z) : ChG f s Z [s] where
  pos := Nat.le_refl _
  head := rfl
  step := fun i a b _ h => by simp at h
  nd := by simp
  lt := fun x hx => by
    rw [List.mem_singleton.mp hx]
    exact h
theorem ChG.snoc {f : Nat → Option Nat} {s Z : Nat} {ch : List Nat} {a d : Nat} (h : ChG f s Z ch) (inj : InjF f) (hZ : ∀ a c, f a = some c → c < Z) (ha : ch.getLast? = some a) (hd : f a = some d) (hs : d ≠ s) : ChG f s Z (ch ++ [d]) := by
  have la : ch[ch.length - 1]? = some a := by rw [← List.getLast?_eq_getElem?]; exact ha
  have hp := h.pos
  have fresh : d ∉ ch := fun hm => by
    obtain ⟨j, hj⟩ := List.getElem?_of_mem hm
    have hjl := (List.getElem?_eq_some_iff.mp hj).1
    cases j with
    | zero =>
      rw [h.head] at hj
      exact hs (Option.some.inj hj).symm
    | succ j =>
      have gj : ch[j]? = some (ch[j]'(by omega)) := List.getElem?_eq_getElem (by omega)
      have e := inj _ _ _ (h.step j _ _ gj hj) hd
      rw [e] at gj
      have := List.getElem?_inj (i := j) (j := ch.length - 1) (by omega) h.nd |>.mp (gj.trans la.symm)
      omega
  refine ⟨by rw [List.length_append]; omega, by rw [List.getElem?_append_left (by omega)]; exact h.head, fun i x y hx hy => ?_, ?_, fun x hx => ?_⟩
  · have hy' := (List.getElem?_eq_some_iff.mp hy).1
    rw [List.length_append, List.length_singleton] at hy'
    rw [List.getElem?_append_left (by omega)] at hx
    by_cases c : i + 1 < ch.length
    · rw [List.getElem?_append_left c] at hy
      exact h.step i x y hx hy
    · rw [List.getElem?_append_right (by omega), show i + 1 - ch.length = 0 by omega] at hy
      cases hy
      rw [show i = ch.length - 1 by omega, la] at hx
      cases hx
      exact hd
  · rw [List.nodup_append]
    exact ⟨h.nd, by simp, fun x hx y hy z => by
      rw [List.mem_singleton.mp hy] at z
      exact fresh (z ▸ hx)⟩
  · rcases List.mem_append.mp hx with hx | hx
    · exact h.lt x hx
    · rw [List.mem_singleton.mp hx]
      exact hZ _ _ hd
theorem ChG.done {f : Nat → Option Nat} {s Z : Nat} {ch : List Nat} {a : Nat} (h : ChG f s Z ch) (hZ : Z ≤ 40) (ha : ch.getLast? = some a) (hd : f a = none ∨ f a = some s) : ChainOf f s ch (f a).isSome where
  pos := h.pos
  few := Nat.le_trans h.len hZ
  head := h.head
  step := h.step
  last := fun b hb => by
    rw [ha] at hb
    cases hb
    rcases hd with e | e <;> rw [e] <;> rfl
/-- the mapping the other way round -/
def invM (m : List (Nat × Nat)) (t : Nat) : Option Nat := (m.find? fun p => decide (p.2 = t)).map (·.1)
theorem invM_snoc {ps : List (Nat × Nat)} {p : Nat × Nat} {t : Nat} : invM (ps ++ [p]) t = match invM ps t with
    | some s => some s
    | none => if p.2 = t then some p.1 else none := by
  unfold invM
  rw [List.find?_append]
  cases h : ps.find? fun q => decide (q.2 = t) with
  | some q => rfl
  | none =>
    show Option.map (·.1) ((none : Option (Nat × Nat)).or (List.find? _ [p])) = if p.2 = t then some p.1 else none
    rw [Option.none_or, List.find?_singleton]
    by_cases e : p.2 = t
    · rw [if_pos e, decide_eq_true e]
      rfl
    · rw [if_neg e, decide_eq_false e]
      rfl
theorem invM_fresh {ps : List (Nat × Nat)} {t : Nat} (h : ∀ q ∈ ps, q.2 ≠ t) : invM ps t = none := by
  unfold invM
  rw [List.find?_eq_none.mpr fun q hq => by simpa using h q hq]
  rfl
theorem invM_mem {m : List (Nat × Nat)} {s t : Nat} (h : invM m t = some s) : (s, t) ∈ m := by
  unfold invM at h
  obtain ⟨p, hp, rfl⟩ := Option.map_eq_some_iff.mp h
  have h1 := List.mem_of_find?_eq_some hp
  have h2 : p.2 = t := by simpa using List.find?_some hp
  rw [← h2]
  exact h1
theorem lk_of_mem {m : List (Nat × Nat)} {a b : Nat} (hv : ValidM m a b) {s t : Nat} (h : (s, t) ∈ m) : lk m s = some t := by
  have hn : (m.map (·.1)).Nodup := List.Pairwise.imp (fun h => Nat.ne_of_lt h) (List.pairwise_map.mpr hv.asc)
  unfold lk
  obtain ⟨i, hi⟩ := List.getElem?_of_mem h
  cases hf : m.find? fun p => decide (p.1 = s) with
  | none =>
    have := List.find?_eq_none.mp hf (s, t) h
    simp at this
  | some p =>
    have h1 := List.mem_of_find?_eq_some hf
    have h2 : p.1 = s := by simpa using List.find?_some hf
    obtain ⟨j, hj⟩ := List.getElem?_of_mem h1
    have hi1 : (m.map (·.1))[i]? = some s := by rw [List.getElem?_map, hi]; rfl
    have hj1 : (m.map (·.1))[j]? = some s := by rw [List.getElem?_map, hj]; exact congrArg some h2
    have := List.getElem?_inj (i := i) (j := j) (List.getElem?_eq_some_iff.mp hi1).1 hn |>.mp (hi1.trans hj1.symm)
    subst this
    rw [hi] at hj
    cases hj
    rfl
theorem invM_of_mem {m : List (Nat × Nat)} {a b : Nat} (hv : ValidM m a b) {s t : Nat} (h : (s, t) ∈ m) : invM m t = some s := by
  have hn := hv.inj
  unfold invM
  obtain ⟨i, hi⟩ := List.getElem?_of_mem h
  cases hf : m.find? fun p => decide (p.2 = t) with
  | none =>
    have := List.find?_eq_none.mp hf (s, t) h
    simp at this
  | some p =>
    have h1 := List.mem_of_find?_eq_some hf
    have h2 : p.2 = t := by simpa using List.find?_some hf
    obtain ⟨j, hj⟩ := List.getElem?_of_mem h1
    have hi1 : (m.map (·.2))[i]? = some t := by rw [List.getElem?_map, hi]; rfl
    have hj1 : (m.map (·.2))[j]? = some t := by rw [List.getElem?_map, hj]; exact congrArg some h2
    have := List.getElem?_inj (i := i) (j := j) (List.getElem?_eq_some_iff.mp hi1).1 hn |>.mp (hi1.trans hj1.symm)
    subst this
    rw [hi] at hj
    cases hj
    rfl
theorem invM_iff {m : List (Nat × Nat)} {a b : Nat} (hv : ValidM m a b) {s t : Nat} : invM m t = some s ↔ lk m s = some t :=
  ⟨fun h => lk_of_mem hv (invM_mem h), fun h => invM_of_mem hv (lk_mem h)⟩
theorem lk_inj {m : List (Nat × Nat)} {a b : Nat} (hv : ValidM m a b) : InjF (lk m) := fun s u t h1 h2 => by
  have := (invM_iff hv).mpr h1
  rw [(invM_iff hv).mpr h2] at this
  exact (Option.some.inj this).symm
theorem invM_inj {m : List (Nat × Nat)} {a b : Nat} (hv : ValidM m a b) : InjF (invM m) := fun s u t h1 h2 => by
  have := (invM_iff hv).mp h1
  rw [(invM_iff hv).mp h2] at this
  exact (Option.some.inj this).symm
structure RunP where
  B : BO
  start : Nat
  ch : List Nat
  cnt : Nat
def offs (ids : List Nat) (s : Nat) : List Nat := (List.range ids.length).filterMap fun i => if ids.getD i 0 = s then some i else none
def RunP.counts (R : RunP) : List Nat := R.ch.map fun s => (offs R.B.ids s).length
/-- how many occurrences the first n repetitions hold -/
def RunP.occ (R : RunP) (n : Nat) : Nat := n / R.ch.length * R.counts.sum + (R.counts.take (n % R.ch.length)).sum
/-- a run from repetition start of B with symbol s -/
structure RunOf (B : BO) (start s : Nat) (R : RunP) : Prop where
  blk : R.B = B
  st : R.start = start
  ch : ∃ cyc, ChainOf (invM B.turned) s R.ch cyc ∧ R.cnt = if cyc = true then B.reps - start else min (B.reps - start) R.ch.length
theorem offs_len (ids : List Nat) (s : Nat) : (offs ids s).length ≤ ids.length := by
  have := List.length_filterMap_le (fun i => if ids.getD i 0 = s then some i else none) (List.range ids.length)
  rw [List.length_range] at this
  exact this
theorem chain_next {f : Nat → Option Nat} {s : Nat} {ch : List Nat} {cyc : Bool} (h : ChainOf f s ch cyc) {j : Nat} (hj : cyc = true ∨ j + 1 < ch.length) : f (ch.getD (j % ch.length) 0) = some (ch.getD ((j + 1) % ch.length) 0) := by
  have hp := h.pos
  have hm : j % ch.length < ch.length := Nat.mod_lt _ hp
  have g : ∀ i, i < ch.length → ch[i]? = some (ch.getD i 0) := fun i hi => by
    rw [List.getD_eq_getElem?_getD, List.getElem?_eq_getElem hi]
    rfl
  by_cases c : j % ch.length + 1 < ch.length
  · have e : (j + 1) % ch.length = j % ch.length + 1 := by
      rw [Nat.add_mod, Nat.mod_eq_of_lt (show 1 < ch.length by omega), Nat.mod_eq_of_lt c]
    rw [e]
    exact h.step _ _ _ (g _ hm) (g _ c)
  · have hc : cyc = true := by
      rcases hj with hj | hj
      · exact hj
      · rw [Nat.mod_eq_of_lt (by omega)] at c
        omega
    have e : (j + 1) % ch.length = 0 := by
      have h1 : j % ch.length = ch.length - 1 := by omega
      have h2 := Nat.div_add_mod j ch.length
      have h3 : j + 1 = ch.length * (j / ch.length + 1) := by
        rw [Nat.mul_add]
        omega
      rw [h3, Nat.mul_mod_right]
    have hl : ch.getLast? = some (ch.getD (j % ch.length) 0) := by
      rw [List.getLast?_eq_getElem?, show ch.length - 1 = j % ch.length by omega]
      exact g _ hm
    rw [h.last _ hl, if_pos hc, e]
    have := h.head
    rw [g 0 (by omega)] at this
    exact this.symm
theorem chain_zero {f : Nat → Option Nat} {s : Nat} {ch : List Nat} {cyc : Bool} (h : ChainOf f s ch cyc) : ch.getD 0 0 = s := by
  rw [List.getD_eq_getElem?_getD, h.head]
  rfl
/-- a symbol in a repetition of a block, and the one before it -/
def par (bs : List BO) : Nat × Nat × Nat → Option (Nat × Nat × Nat)
  | (k, r + 1, s) => match bs[k]? with
    | some B => (lk B.turned s).map fun t => (k, r, t)
    | none => none
  | (k + 1, 0, s) => match bs[k + 1]?, bs[k]? with
    | some B, some A => (lk B.linked s).map fun t => (k, A.reps - 1, t)
    | _, _ => none
  | (0, 0, _) => none
inductive Up (bs : List BO) : Nat × Nat × Nat → Nat × Nat × Nat → Prop
  | refl (n) : Up bs n n
  | snoc {n m o} : Up bs n m → par bs m = some o → Up bs n o
/-- the mappings are valid -/
def ChM : List BO → Nat → Prop
  | [], _ => True
  | B :: r, p => ValidM B.turned (nz B.base) (nz B.base) ∧ ValidM B.linked (nz B.base) p ∧ nz B.base ≤ 40 ∧ B.reps ≤ 10 ^ 30 ∧ ChM r (nz B.base)
theorem chM_of : ∀ (s : List Blk) (p beg : Nat) (prev : Option BO), ValidS s p → ChM (mkBOs s beg prev) p
  | [], _, _, _, _ => True.intro
  | b :: r, p, beg, prev, h => ⟨h.1.turn, h.1.link, Nat.le_trans (nz_le _) h.1.most, h.1.many, chM_of r _ _ _ h.2⟩
theorem chM_boS {s : List Blk} (h : ValidS s 0) : ChM (boS s) 0 := chM_of s 0 0 none h
theorem chM_turn : ∀ {bs : List BO} {p : Nat}, ChM bs p → ∀ {k : Nat} {B : BO}, bs[k]? = some B → ValidM B.turned (nz B.base) (nz B.base) ∧ nz B.base ≤ 40 ∧ B.reps ≤ 10 ^ 30
  | [], _, _, k, B, h => by simp at h
  | A :: r, _, ⟨h1, _, h3, h4, hr⟩, k, B, h => by
    cases k with
    | zero =>
      cases h
      exact ⟨h1, h3, h4⟩
    | succ k => exact chM_turn hr h
theorem chM_link0 {bs : List BO} (h : ChM bs 0) {B : BO} (hB : bs[0]? = some B) (s : Nat) : lk B.linked s = none := by
  cases bs with
  | nil => simp at hB
  | cons A r =>
    cases hB
    cases hl : lk B.linked s with
    | none => rfl
    | some t => exact absurd (h.2.1.lt _ (lk_mem hl)).2 (Nat.not_lt_zero _)
theorem chM_link : ∀ {bs : List BO} {p : Nat}, ChM bs p → ∀ {k : Nat} {A B : BO}, bs[k]? = some A → bs[k + 1]? = some B → ValidM B.linked (nz B.base) (nz A.base)
  | [], _, _, k, A, B, h, _ => by simp at h
  | C :: r, _, ⟨_, _, _, _, hr⟩, k, A, B, h1, h2 => by
    cases k with
    | zero =>
      cases h1
      cases r with
      | nil => simp at h2
      | cons D r =>
        cases h2
        exact hr.2.1
    | succ k => exact chM_link hr h1 h2
structure NodeOk (bs : List BO) (k r s : Nat) : Prop where
  ex : ∃ B, bs[k]? = some B ∧ r < B.reps ∧ s < nz B.base
theorem up_chain {bs : List BO} {B : BO} {k r s : Nat} {ch : List Nat} {cyc : Bool} (hB : bs[k]? = some B) (h : ChainOf (lk B.turned) s ch cyc) : ∀ j, j ≤ r → (cyc = true ∨ j < ch.length) → Up bs (k, r, s) (k, r - j, ch.getD (j % ch.length) 0)
  | 0, _, _ => by
    rw [Nat.zero_mod, chain_zero h]
    exact .refl _
  | j + 1, h1, h2 => by
    refine .snoc (up_chain hB h j (by omega) (h2.imp id fun h => by omega)) ?_
    rw [show r - j = (r - (j + 1)) + 1 by omega]
    show (match bs[k]? with
      | some B => (lk B.turned _).map fun t => (k, r - (j + 1), t)
      | none => none) = _
    rw [hB]
    show (lk B.turned _).map _ = _
    rw [chain_next h (h2.imp id fun h => h)]
    rfl
theorem up_trans {bs : List BO} {n m o : Nat × Nat × Nat} (h1 : Up bs n m) (h2 : Up bs m o) : Up bs n o := by
  induction h2 with
  | refl => exact h1
  | snoc _ p ih => exact .snoc ih p
theorem par_ok {bs : List BO} (hm : ChM bs 0) (ho : ∀ (i : Nat) B, bs[i]? = some B → 1 ≤ B.reps) {k r s k' r' s' : Nat} (h : par bs (k, r, s) = some (k', r', s')) (hn : NodeOk bs k r s) : NodeOk bs k' r' s' := by
  obtain ⟨B, hB, hr, hs⟩ := hn
  cases r with
  | succ r =>
    have h : (match bs[k]? with
      | some B => (lk B.turned s).map fun t => (k, r, t)
      | none => none) = some (k', r', s') := h
    rw [hB] at h
    obtain ⟨t, ht, e⟩ := Option.map_eq_some_iff.mp h
    cases e
    exact ⟨B, hB, by omega, ((chM_turn hm hB).1.lt _ (lk_mem ht)).2⟩
  | zero =>
    cases k with
    | zero => cases h
    | succ k =>
      have h : (match bs[k + 1]?, bs[k]? with
        | some B, some A => (lk B.linked s).map fun t => (k, A.reps - 1, t)
        | _, _ => none) = some (k', r', s') := h
      have hk : k < bs.length := by
        have := (List.getElem?_eq_some_iff.mp hB).1
        omega
      have hA := List.getElem?_eq_getElem hk
      rw [hB, hA] at h
      obtain ⟨t, ht, e⟩ := Option.map_eq_some_iff.mp h
      cases e
      have := ho _ _ hA
      exact ⟨_, hA, by omega, ((chM_link hm hA hB).lt _ (lk_mem ht)).2⟩
theorem up_ok {bs : List BO} (hm : ChM bs 0) (ho : ∀ (i : Nat) B, bs[i]? = some B → 1 ≤ B.reps) {n m : Nat × Nat × Nat} (h : Up bs n m) : NodeOk bs n.1 n.2.1 n.2.2 → NodeOk bs m.1 m.2.1 m.2.2 := by
  induction h with
  | refl => exact id
  | snoc _ p ih => exact fun q => par_ok hm ho p (ih q)
structure RunFine (R : RunP) : Prop where
  ok : OkB R.B
  pos : 1 ≤ R.ch.length
  few : R.ch.length ≤ 40
  one : 1 ≤ R.cnt
theorem sum_small (b : Nat) : ∀ xs : List Nat, (∀ x ∈ xs, x ≤ b) → xs.sum ≤ xs.length * b
  | [], _ => Nat.zero_le _
  | x :: r, h => by
    have h1 := sum_small b r fun y hy => h y (List.mem_cons_of_mem _ hy)
    have h2 := h x (List.mem_cons_self ..)
    rw [List.sum_cons, List.length_cons, Nat.add_mul]
    omega
theorem OkB.idl {B : BO} (h : OkB B) : B.ids.length = B.size := by rw [h.ids, ids_len, h.base]
theorem RunFine.sum {R : RunP} (h : RunFine R) : R.counts.sum ≤ 1600 := by
  have h1 := sum_small 40 R.counts fun x hx => by
    obtain ⟨s, _, rfl⟩ := List.mem_map.mp hx
    have := offs_len R.B.ids s
    have := h.ok.idl
    have := h.ok.most
    omega
  have h2 : R.counts.length = R.ch.length := List.length_map ..
  have h3 := h.few
  rw [h2] at h1
  have := Nat.mul_le_mul_right 40 h3
  omega
def stp : List Nat → Nat → Nat × Nat
  | [], n => (0, n)
  | c :: r, n => if c ≤ n then ((stp r (n - c)).1 + 1, (stp r (n - c)).2) else (0, n)
/-- where the n-th occurrence of a run is -/
def RunP.posn (R : RunP) (n : Nat) : Nat :=
  R.B.beg + (R.start + n / R.counts.sum * R.ch.length + (stp R.counts (n % R.counts.sum)).1) * R.B.size + (offs R.B.ids (R.ch.getD (stp R.counts (n % R.counts.sum)).1 0)).getD (stp R.counts (n % R.counts.sum)).2 0
theorem occ_len {R : RunP} (h : RunFine R) : R.occ R.ch.length = R.counts.sum := by
  unfold RunP.occ
  rw [Nat.div_self h.pos, Nat.mod_self, List.take_zero, Nat.one_mul]
  rfl
theorem run_fine {B : BO} {st s : Nat} {R : RunP} (h : RunOf B st s R) (hO : OkB B) (hs : st < B.reps) : RunFine R := by
  obtain ⟨rfl, rfl, cyc, hC, hcnt⟩ := h
  refine ⟨hO, hC.pos, hC.few, ?_⟩
  rw [hcnt]
  have := hC.pos
  split <;> omega
end HB
/-! lists of runs -/
namespace HB
def RunP.lastS (R : RunP) : Nat := R.ch.getD ((R.cnt - 1) % R.ch.length) 0
/-- runs as they come, from a node on -/
structure RunsG (bs : List BO) (k0 r0 s0 : Nat) (rs : List RunP) : Prop where
  pos : 1 ≤ rs.length
  fit : k0 + rs.length ≤ bs.length
  first : ∃ B R, bs[k0]? = some B ∧ rs[0]? = some R ∧ RunOf B r0 s0 R
  next : ∀ (i : Nat) R R', rs[i]? = some R → rs[i + 1]? = some R' → R.start + R.cnt = R.B.reps ∧ ∃ B' s', bs[k0 + i + 1]? = some B' ∧ invM B'.linked R.lastS = some s' ∧ RunOf B' 0 s' R'
  fine : ∀ R ∈ rs, RunFine R
/-- .. and no further -/
structure Runs (bs : List BO) (k0 r0 s0 : Nat) (rs : List RunP) : Prop where
  g : RunsG bs k0 r0 s0 rs
  last : ∀ R, rs.getLast? = some R → R.start + R.cnt ≠ R.B.reps ∨ bs.length ≤ k0 + rs.length ∨ ∃ B', bs[k0 + rs.length]? = some B' ∧ invM B'.linked R.lastS = none
theorem RunsG.one {bs : List BO} {k r s : Nat} {B : BO} {R : RunP} (hB : bs[k]? = some B) (h : RunOf B r s R) (hf : RunFine R) : RunsG bs k r s [R] where
  pos := Nat.le_refl _
  fit := (List.getElem?_eq_some_iff.mp hB).1
  first := ⟨B, R, hB, rfl, h⟩
  next := fun i R R' _ h => by simp at h
  fine := fun R hR => by
    rw [List.mem_singleton.mp hR]
    exact hf
theorem RunsG.snoc {bs : List BO} {k r s s' : Nat} {B' : BO} {R R' : RunP} {rs : List RunP} (h : RunsG bs k r s rs) (hl : rs.getLast? = some R) (he : R.start + R.cnt = R.B.reps) (hB : bs[k + rs.length]? = some B') (hi : invM B'.linked R.lastS = some s') (hR : RunOf B' 0 s' R') (hf : RunFine R') : RunsG bs k r s (rs ++ [R']) := by
  have hp := h.pos
  have la : rs[rs.length - 1]? = some R := by rw [← List.getLast?_eq_getElem?]; exact hl
  refine ⟨by rw [List.length_append]; omega, ?_, ?_, fun i X X' hX hX' => ?_, fun X hX => ?_⟩
  · have := (List.getElem?_eq_some_iff.mp hB).1
    rw [List.length_append, List.length_singleton]
    omega
  · obtain ⟨B, R0, h1, h2, h3⟩ := h.first
    exact ⟨B, R0, h1, by rw [List.getElem?_append_left (by omega)]; exact h2, h3⟩
  · have hb := (List.getElem?_eq_some_iff.mp hX').1
    rw [List.length_append, List.length_singleton] at hb
    rw [List.getElem?_append_left (by omega)] at hX
    by_cases c : i + 1 < rs.length
    · rw [List.getElem?_append_left c] at hX'
      exact h.next i X X' hX hX'
    · rw [List.getElem?_append_right (by omega), show i + 1 - rs.length = 0 by omega] at hX'
      cases hX'
      rw [show i = rs.length - 1 by omega, la] at hX
      cases hX
      exact ⟨he, B', s', by rw [show k + i + 1 = k + rs.length by omega]; exact hB, hi, hR⟩
  · rcases List.mem_append.mp hX with hX | hX
    · exact h.fine X hX
    · rw [List.mem_singleton.mp hX]
      exact hf
/-- the node of a position -/
def NodeAt (bs : List BO) (p : Nat) (n : Nat × Nat × Nat) : Prop := ∃ B, bs[n.1]? = some B ∧ B.beg ≤ p ∧ p < B.fin ∧ n.2.1 = (p - B.beg) / B.size ∧ n.2.2 = B.ids.getD ((p - B.beg) % B.size) 0
def Orig (bs : List BO) (p : Nat) (o : Nat × Nat × Nat) : Prop := ∃ n, NodeAt bs p n ∧ Up bs n o ∧ par bs o = none ∧ NodeOk bs o.1 o.2.1 o.2.2
theorem ids_lt {xs : List Nat} (hv : ValidD xs) : ∀ s ∈ ids xs, s < nz xs := by
  intro s h
  have key : ∀ n, n ≤ xs.length → ∀ s ∈ (idsG (xs.take n)).1, s < (idsG (xs.take n)).2 := by
    intro n
    induction n with
    | zero => intro _ s h; rw [List.take_zero] at h; cases h
    | succ n ih =>
      intro hn s h
      have hg : xs[n]? = some xs[n] := List.getElem?_eq_getElem hn
      rw [idsG_snoc hg] at h ⊢
      have ih := ih (by omega)
      unfold idsF at h ⊢
      by_cases c : xs[n] = 0
      · rw [if_pos c] at h ⊢
        have h : s ∈ (idsG (xs.take n)).1 ++ [(idsG (xs.take n)).2] := h
        show s < (idsG (xs.take n)).2 + 1
        rcases List.mem_append.mp h with h | h
        · have := ih s h
          omega
        · rw [List.mem_singleton.mp h]
          omega
      · rw [if_neg c] at h ⊢
        have h : s ∈ (idsG (xs.take n)).1 ++ [(idsG (xs.take n)).1.getD ((idsG (xs.take n)).1.length - xs[n]) 0] := h
        show s < (idsG (xs.take n)).2
        rcases List.mem_append.mp h with h | h
        · exact ih s h
        · rw [List.mem_singleton.mp h]
          have hle := hv.le n _ hg
          have hl : (idsG (xs.take n)).1.length = n := by rw [idsG_len, List.length_take]; omega
          refine ih _ ?_
          rw [List.getD_eq_getElem?_getD, List.getElem?_eq_getElem (show (idsG (xs.take n)).1.length - xs[n] < _ by omega)]
          exact List.getElem_mem _
  have := key xs.length (Nat.le_refl _) s (by rw [List.take_length]; exact h)
  rw [List.take_length, idsG_nz] at this
  exact this
end HB
/-! the plain laws -/
namespace HB
/-- occurrences before p -/
def runBef (R : RunP) (p : Nat) : Nat :=
  if R.B.fin ≤ p then R.occ R.cnt
  else if R.B.beg ≤ p then R.occ ((p - R.B.beg) / R.B.size - R.start) + below (offs R.B.ids (R.ch.getD (((p - R.B.beg) / R.B.size - R.start) % R.ch.length) 0)) ((p - R.B.beg) % R.B.size)
  else 0
def nbf (rs : List RunP) (p : Nat) : Nat := (rs.map fun R => runBef R p).sum
def nall (rs : List RunP) : Nat := (rs.map fun R => R.occ R.cnt).sum
def nthR : List RunP → Nat → Option Nat
  | [], _ => none
  | R :: r, n => if n < R.occ R.cnt then some (R.posn n) else nthR r (n - R.occ R.cnt)
theorem take_sum_le : ∀ (xs : List Nat) (n : Nat), (xs.take n).sum ≤ xs.sum
  | [], n => by rw [List.take_nil]; exact Nat.le_refl _
  | x :: r, 0 => by rw [List.take_zero]; exact Nat.zero_le _
  | x :: r, n + 1 => by
    rw [List.take_succ_cons, List.sum_cons, List.sum_cons]
    have := take_sum_le r n
    omega
theorem occ_pos {R : RunP} {n m : Nat} (h : n < R.occ m) : 0 < R.counts.sum := by
  unfold RunP.occ at h
  have := take_sum_le R.counts (m % R.ch.length)
  rcases Nat.eq_zero_or_pos R.counts.sum with z | z
  · rw [z, Nat.mul_zero] at h
    omega
  · exact z
/-- the symbol of p: which positions hold it -/
def symP (d : Nat → Nat) (p : Nat) : Nat → Bool := fun q => decide (root d q = root d p)
theorem root_eq (d : Nat → Nat) (p : Nat) : root d p = if 0 < d p ∧ d p ≤ p then root d (p - d p) else p := by
  conv => lhs; rw [root]
  by_cases c : 0 < d p ∧ d p ≤ p
  · rw [dif_pos c, if_pos c]
  · rw [dif_neg c, if_neg c]
theorem chD_boS {s : List Blk} (h : ValidS s 0) : ∀ (i : Nat) B, (boS s)[i]? = some B → ValidD B.base := by
  have key : ∀ (s : List Blk) (p beg : Nat) (prev : Option BO), ValidS s p → ∀ B ∈ mkBOs s beg prev, ValidD B.base := by
    intro s
    induction s with
    | nil => intro p beg prev _ B h; cases h
    | cons b r ih =>
      intro p beg prev h B hB
      rcases List.mem_cons.mp hB with hB | hB
      · subst hB
        exact h.1.base
      · exact ih _ _ _ h.2 B hB
  exact fun i B hB => key s 0 0 none h B (List.mem_of_getElem? hB)
end HB
/-! the law's own plain side -/
namespace HB
theorem erase_perm : ∀ {l : List Nat} {i y : Nat}, l[i]? = some y → (y :: l.eraseIdx i).Perm l
  | [], i, y, h => by simp at h
  | x :: r, 0, y, h => by
    cases h
    exact List.Perm.refl _
  | x :: r, i + 1, y, h => by
    have := erase_perm (l := r) (i := i) (y := y) h
    exact (List.Perm.swap x y _).trans (this.cons x)
theorem erase_map {α β : Type} (f : α → β) : ∀ (l : List α) (i : Nat), (l.map f).eraseIdx i = (l.eraseIdx i).map f
  | [], _ => rfl
  | x :: r, 0 => rfl
  | x :: r, i + 1 => by
    show f x :: (r.map f).eraseIdx i = f x :: (r.eraseIdx i).map f
    rw [erase_map f r i]
theorem ahead_last (xs : List Nat) (x : Nat) : ∀ i, i ≤ xs.length → ((List.range i).filterMap fun j => if xs.getD j 0 = x then some j else none).getLast? = lastI (xs.take i) x
  | 0, _ => rfl
  | i + 1, h => by
    have hi : i < xs.length := h
    have hg : xs[i]? = some xs[i] := List.getElem?_eq_getElem hi
    have hd : xs.getD i 0 = xs[i] := by
      rw [List.getD_eq_getElem?_getD, hg]
      rfl
    rw [List.range_succ, List.filterMap_append, take_snoc hg, lastI_snoc, List.filterMap_cons, List.filterMap_nil, hd]
    by_cases e : xs[i] = x
    · rw [if_pos e, if_pos e, List.getLast?_concat, List.length_take, Nat.min_eq_left (by omega)]
    · rw [if_neg e, if_neg e, List.append_nil]
      exact ahead_last xs x i (by omega)
/-- concatenate's list -/
def concat (one two : List Nat) (m : List (Nat × Nat)) : List Nat := dists (ids one ++ (ids two).map fun s => (lk m s).getD (nz one + s))
/-- the law's sequences -/
structure VL (s : List Blk) : Prop where
  vs : VS s
  few : s.length ≤ 3
  len : ∀ b ∈ s, b.base.length ≤ 12
  cnt : ∀ b ∈ s, b.cnt ≤ 2 * 10 ^ 28 ∧ ∃ h, b.cnt = 2 * h ∧ 1 ≤ h
theorem dists_get {l : List Nat} {i x : Nat} (h : l[i]? = some x) : (dists l)[i]? = some (match lastI (l.take i) x with
    | some j => i - j
    | none => 0) := by
  have hi := (List.getElem?_eq_some_iff.mp h).1
  unfold dists
  rw [List.getElem?_map, List.getElem?_range hi]
  show some (match lastI (l.take i) (l.getD i 0) with
    | some j => i - j
    | none => 0) = _
  rw [List.getD_eq_getElem?_getD, h]
  rfl
theorem lastI_mem {l : List Nat} {i x : Nat} (h : l[i]? = some x) {n : Nat} (hn : i < n) : ∃ j, lastI (l.take n) x = some j ∧ i ≤ j := by
  induction n with
  | zero => omega
  | succ n ih =>
    rcases Nat.lt_or_ge n l.length with c | c
    · have hg : l[n]? = some l[n] := List.getElem?_eq_getElem c
      rw [take_snoc hg, lastI_snoc]
      by_cases e : l[n] = x
      · rw [if_pos e]
        exact ⟨_, rfl, by rw [List.length_take]; omega⟩
      · rw [if_neg e]
        rcases Nat.lt_or_ge i n with d | d
        · exact ih d
        · rw [show i = n by omega, hg] at h
          cases h
          exact absurd rfl e
    · have hi := (List.getElem?_eq_some_iff.mp h).1
      rw [List.take_of_length_le (by omega)]
      have := ih (by omega)
      rw [List.take_of_length_le (by omega)] at this
      exact this
theorem dists_valid (l : List Nat) : ValidD (dists l) where
  le := fun i d h => by
    have hi := (List.getElem?_eq_some_iff.mp h).1
    rw [dists_len] at hi
    rw [dists_get (List.getElem?_eq_getElem hi)] at h
    have h := Option.some.inj h
    rw [← h]
    split
    · exact Nat.sub_le _ _
    · exact Nat.zero_le _
  inj := fun i j d e hi hj hd he heq => by
    have li := (List.getElem?_eq_some_iff.mp hi).1
    have lj := (List.getElem?_eq_some_iff.mp hj).1
    rw [dists_len] at li lj
    have gi : l[i]? = some l[i] := List.getElem?_eq_getElem li
    have gj : l[j]? = some l[j] := List.getElem?_eq_getElem lj
    rw [dists_get gi] at hi
    rw [dists_get gj] at hj
    cases hli : lastI (l.take i) l[i] with
    | none =>
      rw [hli] at hi
      have hi : 0 = d := Option.some.inj hi
      omega
    | some a =>
      cases hlj : lastI (l.take j) l[j] with
      | none =>
        rw [hlj] at hj
        have hj : 0 = e := Option.some.inj hj
        omega
      | some b =>
        rw [hli] at hi
        rw [hlj] at hj
        have hi := Option.some.inj hi
        have hj := Option.some.inj hj
        obtain ⟨a1, a2⟩ := lastI_lt hli
        obtain ⟨b1, b2⟩ := lastI_lt hlj
        rw [List.length_take] at a1 b1
        have hab : a = b := by
          have hi : i - a = d := hi
          have hj : j - b = e := hj
          omega
        subst hab
        rw [List.getElem?_take_of_lt (by omega)] at a2 b2
        rw [a2] at b2
        have hx : l[i] = l[j] := Option.some.inj b2
        rcases Nat.lt_trichotomy i j with c | c | c
        · obtain ⟨z, hz1, hz2⟩ := lastI_mem gi c
          rw [hx, hlj] at hz1
          cases hz1
          omega
        · exact c
        · obtain ⟨z, hz1, hz2⟩ := lastI_mem gj c
          rw [← hx, hli] at hz1
          cases hz1
          omega
theorem concat_len (one two : List Nat) (m : List (Nat × Nat)) : (concat one two m).length = one.length + two.length := by
  unfold concat
  rw [dists_len, List.length_append, List.length_map, ids_len, ids_len]
/-! ### the derived sequences -/
def dblBase (b : Blk) : List Nat := concat b.base b.base b.turn
def laterF (b : Blk) (s : Nat) : Option Nat := (lastI (ids b.base) s).map fun j => (ids (dblBase b)).getD (b.base.length + j) 0
def mapL (b : Blk) (m : List (Nat × Nat)) : List (Nat × Nat) := m.map fun p => (p.1, (laterF b p.2).getD 0)
def dblB (b : Blk) : Blk := ⟨dblBase b, b.link, mapL b b.turn, b.cnt / 2⟩
def dblS (s : List Blk) (at_ : Nat) (b : Blk) : List Blk := match s[at_ + 1]? with
  | some c => (s.take at_ ++ [dblB b] ++ s.drop (at_ + 1)).set (at_ + 1) ⟨c.base, mapL b c.link, c.turn, c.cnt⟩
  | none => s.take at_ ++ [dblB b] ++ s.drop (at_ + 1)
def splS (s : List Blk) (at_ : Nat) (b : Blk) (f : Nat) : List Blk := s.take at_ ++ [⟨b.base, b.link, b.turn, f⟩, ⟨b.base, b.turn, b.turn, b.cnt - f⟩] ++ s.drop (at_ + 1)
/-- two sequences that say the same -/
structure Eqv (s u : List Blk) : Prop where
  v1 : VS s
  v2 : VS u
  n : tot (boS s) = tot (boS u)
  d : ∀ p, p < tot (boS s) → dAt (boS s) p = dAt (boS u) p
theorem later_some {b : Blk} {p : Nat} (hv : ValidB b p) {t : Nat} (ht : t < nz b.base) : ∃ z, laterF b t = some z := by
  obtain ⟨j, hj⟩ := lastI_some (ids_has ht)
  exact ⟨_, by unfold laterF; rw [hj]; rfl⟩
end HB
/-! counting -/
namespace HB
def sumTo (f : Nat → Nat) : Nat → Nat
  | 0 => 0
  | n + 1 => sumTo f n + f n
theorem cntq_congr {P Q : Nat → Bool} : ∀ {n : Nat}, (∀ q, q < n → P q = Q q) → cnt P n = cnt Q n
  | 0, _ => rfl
  | n + 1, h => by
    show cnt P n + _ = cnt Q n + _
    rw [cntq_congr fun q hq => h q (by omega), h n (by omega)]
theorem sumTo_congr {f g : Nat → Nat} : ∀ {n : Nat}, (∀ q, q < n → f q = g q) → sumTo f n = sumTo g n
  | 0, _ => rfl
  | n + 1, h => by
    show sumTo f n + _ = sumTo g n + _
    rw [sumTo_congr fun q hq => h q (by omega), h n (by omega)]
theorem cnt_add (P : Nat → Bool) (a : Nat) : ∀ n, cnt P (a + n) = cnt P a + cnt (fun i => P (a + i)) n
  | 0 => rfl
  | n + 1 => by
    show cnt P (a + n) + _ = _ + (cnt _ n + _)
    rw [cnt_add P a n, Nat.add_assoc]
    rfl
theorem sumTo_add (f : Nat → Nat) (a : Nat) : ∀ n, sumTo f (a + n) = sumTo f a + sumTo (fun i => f (a + i)) n
  | 0 => rfl
  | n + 1 => by
    show sumTo f (a + n) + _ = _ + (sumTo _ n + _)
    rw [sumTo_add f a n, Nat.add_assoc]
    rfl
theorem cnt_none {P : Nat → Bool} : ∀ {n : Nat}, (∀ q, q < n → P q = false) → cnt P n = 0
  | 0, _ => rfl
  | n + 1, h => by
    show cnt P n + _ = 0
    rw [cnt_none fun q hq => h q (by omega), h n (by omega)]
    rfl
theorem sumTo_zero {f : Nat → Nat} : ∀ {n : Nat}, (∀ q, q < n → f q = 0) → sumTo f n = 0
  | 0, _ => rfl
  | n + 1, h => by
    show sumTo f n + _ = 0
    rw [sumTo_zero fun q hq => h q (by omega), h n (by omega)]
theorem cntq_mono {P : Nat → Bool} {n m : Nat} (h : n ≤ m) : cnt P n ≤ cnt P m := by
  obtain ⟨k, rfl⟩ := Nat.le.dest h
  rw [cnt_add]
  omega
theorem sumTo_mono {f : Nat → Nat} {n m : Nat} (h : n ≤ m) : sumTo f n ≤ sumTo f m := by
  obtain ⟨k, rfl⟩ := Nat.le.dest h
  rw [sumTo_add]
  omega
/-- repetition by repetition -/
theorem cnt_reps {P : Nat → Bool} {G : Nat → Nat → Bool} {size : Nat} : ∀ (m : Nat), (∀ r o, r < m → o < size → P (r * size + o) = G r o) → cnt P (m * size) = sumTo (fun r => cnt (G r) size) m
  | 0, _ => by
    rw [Nat.zero_mul]
    rfl
  | m + 1, h => by
    rw [Nat.add_mul, Nat.one_mul, cnt_add, cnt_reps m fun r o hr ho => h r o (by omega) ho]
    show _ = sumTo _ m + cnt (G m) size
    rw [cntq_congr fun q hq => h m q (by omega) hq]
theorem cnt_blk {P : Nat → Bool} {G : Nat → Nat → Bool} {size m o : Nat} (h : ∀ r o', r < m → o' < size → P (r * size + o') = G r o') (h' : ∀ o', o' < o → P (m * size + o') = G m o') : cnt P (m * size + o) = sumTo (fun r => cnt (G r) size) m + cnt (G m) o := by
  rw [cnt_add, cnt_reps m h, cntq_congr h']
/-! ### the places where P holds -/
def plc (P : Nat → Bool) (n : Nat) : List Nat := (List.range n).filterMap fun i => if P i = true then some i else none
theorem plc_snoc (P : Nat → Bool) (n : Nat) : plc P (n + 1) = plc P n ++ if P n = true then [n] else [] := by
  unfold plc
  rw [List.range_succ, List.filterMap_append, List.filterMap_cons, List.filterMap_nil]
  by_cases h : P n = true
  · rw [if_pos h, if_pos h]
  · rw [if_neg h, if_neg h]
theorem plc_len (P : Nat → Bool) : ∀ n, (plc P n).length = cnt P n
  | 0 => rfl
  | n + 1 => by
    rw [plc_snoc, List.length_append, plc_len P n]
    show _ = cnt P n + if P n = true then 1 else 0
    by_cases h : P n = true
    · rw [if_pos h, if_pos h]
      rfl
    · rw [if_neg h, if_neg h]
      rfl
theorem plc_get (P : Nat → Bool) : ∀ (n x o : Nat), (plc P n)[x]? = some o → P o = true ∧ o < n ∧ cnt P o = x
  | 0, x, o, h => by simp [plc] at h
  | n + 1, x, o, h => by
    rw [plc_snoc] at h
    by_cases c : x < (plc P n).length
    · rw [List.getElem?_append_left c] at h
      obtain ⟨h1, h2, h3⟩ := plc_get P n x o h
      exact ⟨h1, by omega, h3⟩
    · rw [List.getElem?_append_right (by omega)] at h
      by_cases e : P n = true
      · rw [if_pos e] at h
        have hx : x - (plc P n).length = 0 := by
          have := (List.getElem?_eq_some_iff.mp h).1
          simp at this
          omega
        rw [hx] at h
        cases h
        rw [plc_len] at hx c
        exact ⟨e, Nat.lt_succ_self n, by omega⟩
      · rw [if_neg e] at h
        simp at h
theorem fmap_congr {α β : Type} {f g : α → Option β} : ∀ {l : List α}, (∀ i ∈ l, f i = g i) → l.filterMap f = l.filterMap g
  | [], _ => rfl
  | x :: r, h => by
    rw [List.filterMap_cons, List.filterMap_cons, h x (List.mem_cons_self ..), fmap_congr fun i hi => h i (List.mem_cons_of_mem _ hi)]
theorem plc_below (P : Nat → Bool) (r : Nat) : ∀ n, below (plc P n) r = cnt P (min r n)
  | 0 => by
    rw [Nat.min_zero]
    rfl
  | n + 1 => by
    have snoc : ∀ (xs : List Nat) (y : Nat), below (xs ++ [y]) r = below xs r + if y < r then 1 else 0 := by
      intro xs y
      unfold below
      rw [List.length_append, List.length_singleton, List.range_succ, List.filterMap_append, List.length_append]
      have e1 : ((List.range xs.length).filterMap fun i => if (xs ++ [y]).getD i 0 < r then some ((xs ++ [y]).getD i 0) else none) = (List.range xs.length).filterMap fun i => if xs.getD i 0 < r then some (xs.getD i 0) else none := fmap_congr fun i hi => by
        have hi := List.mem_range.mp hi
        rw [List.getD_eq_getElem?_getD, List.getElem?_append_left hi, ← List.getD_eq_getElem?_getD]
      have e2 : (xs ++ [y]).getD xs.length 0 = y := by
        rw [List.getD_eq_getElem?_getD, List.getElem?_append_right (Nat.le_refl _), Nat.sub_self]
        rfl
      rw [e1]
      congr 1
      · rw [List.filterMap_cons, List.filterMap_nil, e2]
        by_cases h : y < r
        · rw [if_pos h, if_pos h]
          rfl
        · rw [if_neg h, if_neg h]
          rfl
    rw [plc_snoc]
    by_cases h : P n = true
    · rw [if_pos h, snoc, plc_below P r n]
      by_cases c : n < r
      · rw [if_pos c, Nat.min_eq_right (by omega), Nat.min_eq_right (by omega)]
        show _ = cnt P n + if P n = true then 1 else 0
        rw [if_pos h]
      · rw [if_neg c, Nat.min_eq_left (by omega), Nat.min_eq_left (by omega)]
        rfl
    · rw [if_neg h, List.append_nil, plc_below P r n]
      by_cases c : n < r
      · rw [Nat.min_eq_right (by omega), Nat.min_eq_right (by omega)]
        show _ = cnt P n + if P n = true then 1 else 0
        rw [if_neg h]
        rfl
      · rw [Nat.min_eq_left (by omega), Nat.min_eq_left (by omega)]
/-! ### pieces one behind the other -/
section
variable {α : Type} (P : Nat → Bool) (lo hi c : α → Nat) (pos : α → Nat → Nat)
def Cont : List α → Nat → Prop
  | [], _ => True
  | a :: r, b => lo a = b ∧ lo a ≤ hi a ∧ cnt P (hi a) = cnt P (lo a) + c a ∧ Cont r (hi a)
def endC (xs : List α) (b : Nat) : Nat := match xs.getLast? with
  | some a => hi a
  | none => b
theorem endC_cons (a : α) (r : List α) (b : Nat) : endC hi (a :: r) b = endC hi r (hi a) := by
  unfold endC
  rw [getLast_cons]
  cases r.getLast? <;> rfl
theorem cont_le : ∀ (xs : List α) (b : Nat), Cont P lo hi c xs b → b ≤ endC hi xs b
  | [], b, _ => Nat.le_refl _
  | a :: r, b, h => by
    rw [endC_cons]
    have := cont_le r _ h.2.2.2
    have h1 := h.1
    have h2 := h.2.1
    omega
theorem cont_sum : ∀ (xs : List α) (b : Nat), Cont P lo hi c xs b → cnt P (endC hi xs b) = cnt P b + (xs.map c).sum
  | [], b, _ => rfl
  | a :: r, b, h => by
    rw [endC_cons, cont_sum r _ h.2.2.2, h.2.2.1, h.1, List.map_cons, List.sum_cons, Nat.add_assoc]
theorem cont_ge : ∀ (xs : List α) (b : Nat), Cont P lo hi c xs b → ∀ a ∈ xs, b ≤ lo a
  | [], b, _, a, h => by cases h
  | x :: r, b, hc, a, h => by
    rcases List.mem_cons.mp h with h | h
    · subst h
      exact Nat.le_of_eq hc.1.symm
    · have := cont_ge r _ hc.2.2.2 a h
      have h1 := hc.1
      have h2 := hc.2.1
      omega
theorem cont_part {g : α → Nat} {p : Nat} : ∀ (xs : List α) (b : Nat), Cont P lo hi c xs b → b ≤ p → p ≤ endC hi xs b →
    (∀ a ∈ xs, (hi a ≤ p → g a = c a) ∧ (p < lo a → g a = 0) ∧ (lo a ≤ p → p < hi a → cnt P p = cnt P (lo a) + g a)) → cnt P p = cnt P b + (xs.map g).sum
  | [], b, _, h1, h2, _ => by
    have : p = b := by
      have h2 : p ≤ b := h2
      omega
    rw [this]
    rfl
  | a :: r, b, hc, h1, h2, hg => by
    obtain ⟨g1, g2, g3⟩ := hg a (List.mem_cons_self ..)
    have hlo := hc.1
    rw [List.map_cons, List.sum_cons]
    rw [endC_cons] at h2
    by_cases q : p < hi a
    · have z : (r.map g).sum = 0 := by
        have : ∀ y ∈ r.map g, y = 0 := fun y hy => by
          obtain ⟨a', ha', rfl⟩ := List.mem_map.mp hy
          have := cont_ge P lo hi c r _ hc.2.2.2 a' ha'
          exact (hg a' (List.mem_cons_of_mem _ ha')).2.1 (by omega)
        have key : ∀ l : List Nat, (∀ y ∈ l, y = 0) → l.sum = 0 := by
          intro l
          induction l with
          | nil => intro _; rfl
          | cons y l ih =>
            intro h
            rw [List.sum_cons, h y (List.mem_cons_self ..), ih fun z hz => h z (List.mem_cons_of_mem _ hz)]
        exact key _ this
      rw [z, g3 (by omega) q, hlo]
      rfl
    · have := cont_part r _ hc.2.2.2 (by omega) h2 fun a' ha' => hg a' (List.mem_cons_of_mem _ ha')
      rw [this, g1 (by omega), hc.2.2.1, hlo, Nat.add_assoc]
def nthC : List α → Nat → Option Nat
  | [], _ => none
  | a :: r, n => if n < c a then some (pos a n) else nthC r (n - c a)
theorem cont_nth : ∀ (xs : List α) (b n : Nat), Cont P lo hi c xs b → (∀ a ∈ xs, ∀ n, n < c a → pos a n < hi a ∧ P (pos a n) = true ∧ cnt P (pos a n) = cnt P (lo a) + n) → match nthC c pos xs n with
    | none => cnt P (endC hi xs b) ≤ cnt P b + n
    | some p => p < endC hi xs b ∧ P p = true ∧ cnt P p = cnt P b + n
  | [], b, n, _, _ => Nat.le_add_right _ _
  | a :: r, b, n, hc, hp => by
    rw [show nthC c pos (a :: r) n = if n < c a then some (pos a n) else nthC c pos r (n - c a) from rfl]
    by_cases q : n < c a
    · rw [if_pos q]
      obtain ⟨h1, h2, h3⟩ := hp a (List.mem_cons_self ..) n q
      have := cont_le P lo hi c r _ hc.2.2.2
      rw [endC_cons]
      exact ⟨by omega, h2, by rw [h3, hc.1]⟩
    · rw [if_neg q, endC_cons]
      have ih := cont_nth r _ (n - c a) hc.2.2.2 fun a' ha' => hp a' (List.mem_cons_of_mem _ ha')
      have e : cnt P (hi a) + (n - c a) = cnt P b + n := by
        rw [hc.2.2.1, hc.1]
        omega
      rw [e] at ih
      exact ih
end
end HB
/-! the new symbols -/
namespace HB
theorem at_blk {bs : List BO} (hc : ChB bs 0) {k : Nat} {B : BO} (hB : bs[k]? = some B) : B.fin ≤ tot bs ∧ ∀ p, B.beg ≤ p → p < B.fin → dAt bs p = B.dist p := by
  have ht : B.fin ≤ tot bs := by
    have key : ∀ (bs : List BO) (b : Nat), ChB bs b → ∀ B ∈ bs, B.fin ≤ nextB bs b := by
      intro bs
      induction bs with
      | nil => intro b _ B h; cases h
      | cons A r ih =>
        intro b hc B h
        have e : nextB (A :: r) b = nextB r A.fin := by
          unfold nextB
          rw [getLast_cons]
          cases r.getLast? <;> rfl
        rw [e]
        rcases List.mem_cons.mp h with h | h
        · subst h
          cases r with
          | nil => exact Nat.le_refl _
          | cons C r =>
            have := ih _ hc.2.2 C (List.mem_cons_self ..)
            have g := hc.2.2.2.1.fin_gt
            have b' := hc.2.2.1
            omega
        · exact ih _ hc.2.2 B h
    rw [tot_next]
    exact key bs 0 hc B (List.mem_of_getElem? hB)
  refine ⟨ht, fun p h1 h2 => ?_⟩
  obtain ⟨j, A, q1, q2, q3, q4, q5⟩ := at_chB bs 0 hc p (Nat.zero_le _) (by rw [← tot_next]; omega)
  have := (q5 k B hB).mp ⟨h1, h2⟩
  subst this
  rw [hB] at q1
  cases q1
  exact q4
theorem pos_div {size r o : Nat} (h : o < size) : (r * size + o) / size = r ∧ (r * size + o) % size = o := by
  have hp : 0 < size := by omega
  refine ⟨?_, ?_⟩
  · rw [Nat.mul_comm, Nat.mul_add_div hp, Nat.div_eq_of_lt h, Nat.add_zero]
  · rw [Nat.mul_comm, Nat.mul_add_mod, Nat.mod_eq_of_lt h]
theorem in_blk {B : BO} {r o : Nat} (hr : r < B.reps) (ho : o < B.size) : B.beg + (r * B.size + o) < B.fin := by
  have h1 : (r + 1) * B.size ≤ B.reps * B.size := Nat.mul_le_mul_right _ hr
  have h2 : B.fin = B.beg + B.size * B.reps := rfl
  rw [Nat.mul_comm B.size B.reps] at h2
  rw [Nat.add_mul, Nat.one_mul] at h1
  omega
theorem dist_at {B : BO} {r o : Nat} (ho : o < B.size) : B.dist (B.beg + (r * B.size + o)) = (if r = 0 then B.first else B.later).getD o 0 := by
  obtain ⟨h1, h2⟩ := pos_div (r := r) ho
  unfold BO.dist
  rw [Nat.add_sub_cancel_left, h1, h2]
  by_cases h : r = 0
  · rw [if_pos h, if_pos h]
  · rw [if_neg h, if_neg h]
/-- what is counted within a block -/
theorem blk_cnt {B : BO} (hO : OkB B) {P : Nat → Bool} {G : Nat → Nat → Bool} (h : ∀ r o, r < B.reps → o < B.size → P (B.beg + (r * B.size + o)) = G r o) {x : Nat} (hx : x ≤ B.size * B.reps) :
    cnt P (B.beg + x) = cnt P B.beg + (sumTo (fun r => cnt (G r) B.size) (x / B.size) + cnt (G (x / B.size)) (x % B.size)) := by
  have hp := hO.pos
  have hm : x / B.size ≤ B.reps := by
    have := Nat.div_le_div_right (c := B.size) hx
    rwa [Nat.mul_div_cancel_left _ hp] at this
  have hlt := Nat.mod_lt x hp
  have he := Nat.div_add_mod x B.size
  rw [Nat.mul_comm] at he
  rw [cnt_add]
  congr 1
  conv => lhs; rw [← he]
  refine cnt_blk (fun r o' hr ho => h r o' (by omega) ho) fun o' ho => h _ o' ?_ (by omega)
  rcases Nat.lt_or_eq_of_le hm with g | g
  · exact g
  · rw [g, Nat.mul_comm B.reps] at he
    omega
theorem cnt_list (xs : List Nat) : ∀ n, n ≤ xs.length → cnt (fun o => decide (xs.getD o 0 = 0)) n = (xs.take n).count 0
  | 0, _ => by
    rw [List.take_zero]
    rfl
  | n + 1, h => by
    have hg : xs[n]? = some xs[n] := List.getElem?_eq_getElem h
    have hd : xs.getD n 0 = xs[n] := by
      rw [List.getD_eq_getElem?_getD, hg]
      rfl
    rw [take_snoc hg, List.count_append, ← cnt_list xs n (by omega)]
    show _ + (if decide (xs.getD n 0 = 0) = true then 1 else 0) = _
    rw [hd]
    by_cases z : xs[n] = 0
    · rw [z]
      rfl
    · have h0 : (xs[n] == 0) = false := by simpa using z
      rw [decide_eq_false z, List.count_singleton, h0]
theorem zs_plc (xs : List Nat) : zs xs = plc (fun o => decide (xs.getD o 0 = 0)) xs.length := by
  unfold zs plc
  refine fmap_congr fun i _ => ?_
  by_cases h : xs.getD i 0 = 0
  · rw [if_pos h, if_pos (decide_eq_true h)]
  · rw [if_neg h, if_neg (by simpa using h)]
def zG (B : BO) (r o : Nat) : Bool := decide ((if r = 0 then B.first else B.later).getD o 0 = 0)
theorem zG_sum {B : BO} (hO : OkB B) : ∀ m, sumTo (fun r => cnt (zG B r) B.size) (m + 1) = B.first.count 0 + m * B.later.count 0
  | 0 => by
    show 0 + cnt (fun o => decide (B.first.getD o 0 = 0)) B.size = _
    rw [Nat.zero_add, Nat.zero_mul, Nat.add_zero, ← hO.fi, cnt_list _ _ (Nat.le_refl _), List.take_length]
  | m + 1 => by
    show sumTo _ (m + 1) + cnt (fun o => decide (B.later.getD o 0 = 0)) B.size = _
    rw [zG_sum hO m, ← hO.la, cnt_list _ _ (Nat.le_refl _), List.take_length, Nat.add_mul, Nat.one_mul, Nat.add_assoc]
theorem zb_in {B : BO} (hO : OkB B) {x : Nat} (hx : x ≤ B.size * B.reps) : B.zb (B.beg + x) = sumTo (fun r => cnt (zG B r) B.size) (x / B.size) + cnt (zG B (x / B.size)) (x % B.size) := by
  have hp := hO.pos
  have hlt := Nat.mod_lt x hp
  unfold BO.zb
  have hf : B.fin = B.beg + B.size * B.reps := rfl
  rw [show min (max (B.beg + x) B.beg) B.fin - B.beg = x by omega]
  by_cases h : x / B.size = 0
  · rw [if_pos h, h]
    show _ = 0 + cnt (fun o => decide (B.first.getD o 0 = 0)) (x % B.size)
    rw [cnt_list _ _ (by rw [hO.fi]; omega), Nat.zero_add]
  · rw [if_neg h]
    obtain ⟨m, hm⟩ := Nat.exists_eq_succ_of_ne_zero h
    rw [hm, zG_sum hO m, Nat.succ_sub_one]
    show _ = _ + cnt (fun o => decide (B.later.getD o 0 = 0)) (x % B.size)
    rw [cnt_list _ _ (by rw [hO.la]; omega)]
theorem zb_low {B : BO} {p : Nat} (hO : OkB B) (h : p ≤ B.beg) : B.zb p = 0 := by
  have := hO.fin_gt
  have hp := hO.pos
  unfold BO.zb
  rw [show min (max p B.beg) B.fin - B.beg = 0 by omega, Nat.zero_div, if_pos rfl, Nat.zero_mod, List.take_zero]
  rfl
theorem zb_high {B : BO} {p : Nat} (hO : OkB B) (h : B.fin ≤ p) : B.zb p = B.zb B.fin := by
  have := hO.fin_gt
  unfold BO.zb
  rw [show min (max p B.beg) B.fin = min (max B.fin B.beg) B.fin by omega]
theorem cont_of {P : Nat → Bool} {c : BO → Nat} : ∀ (bs : List BO) (b : Nat), ChB bs b → (∀ B ∈ bs, cnt P B.fin = cnt P B.beg + c B) → Cont P BO.beg BO.fin c bs b
  | [], _, _, _ => True.intro
  | B :: r, b, hc, h => ⟨hc.1, Nat.le_of_lt hc.2.1.fin_gt, h B (List.mem_cons_self ..), cont_of r _ hc.2.2 fun A hA => h A (List.mem_cons_of_mem _ hA)⟩
theorem tot_endC (bs : List BO) : endC BO.fin bs 0 = tot bs := by
  rw [tot_next]
  unfold endC nextB
  cases bs.getLast? <;> rfl
theorem zP {bs : List BO} (hc : ChB bs 0) {B : BO} (hB : B ∈ bs) : ∀ r o, r < B.reps → o < B.size → (fun q => decide (dAt bs q = 0)) (B.beg + (r * B.size + o)) = zG B r o := fun r o hr ho => by
  obtain ⟨k, hk⟩ := List.getElem?_of_mem hB
  have h := (at_blk hc hk).2 (B.beg + (r * B.size + o)) (by omega) (in_blk hr ho)
  show decide (dAt bs _ = 0) = _
  rw [h, dist_at ho]
  rfl
theorem okB_mem {bs : List BO} (hc : ChB bs 0) {B : BO} (hB : B ∈ bs) : OkB B := by
  obtain ⟨k, hk⟩ := List.getElem?_of_mem hB
  exact chB_get hc hk
theorem z_cont {bs : List BO} (hc : ChB bs 0) : Cont (fun q => decide (dAt bs q = 0)) BO.beg BO.fin (fun B => B.zb B.fin) bs 0 := cont_of bs 0 hc fun B hB => by
  have hO := okB_mem hc hB
  have h := blk_cnt (P := fun q => decide (dAt bs q = 0)) (G := zG B) hO (zP hc hB) (Nat.le_refl _)
  rw [← zb_in hO (Nat.le_refl _)] at h
  exact h
theorem new_plain' {bs : List BO} (hc : ChB bs 0) {p : Nat} (hp : p ≤ tot bs) : (bs.map fun B => B.zb p).sum = cnt (fun q => decide (dAt bs q = 0)) p := by
  have h := cont_part (fun q => decide (dAt bs q = 0)) BO.beg BO.fin (fun B => B.zb B.fin) (g := fun B => B.zb p) (p := p) bs 0 (z_cont hc) (Nat.zero_le _) (by rw [tot_endC]; exact hp) fun B hB => by
    have hO := okB_mem hc hB
    refine ⟨fun h => zb_high hO h, fun h => zb_low hO (Nat.le_of_lt h), fun h1 h2 => ?_⟩
    have hf : B.fin = B.beg + B.size * B.reps := rfl
    have hx : p - B.beg ≤ B.size * B.reps := by omega
    have h := blk_cnt (P := fun q => decide (dAt bs q = 0)) (G := zG B) hO (zP hc hB) hx
    rw [← zb_in hO hx, show B.beg + (p - B.beg) = p by omega] at h
    exact h
  rw [h]
  show _ = 0 + _
  rw [Nat.zero_add]
theorem nthNew_C : ∀ (bs : List BO) (n : Nat), nthNew bs n = nthC (fun B => B.zb B.fin) BO.nthZ bs n
  | [], _ => rfl
  | B :: r, n => by
    show (if n < B.zb B.fin then some (B.nthZ n) else nthNew r (n - B.zb B.fin)) = if n < B.zb B.fin then some (B.nthZ n) else nthC _ _ r _
    rw [nthNew_C r]
theorem plc_at {P : Nat → Bool} {n x : Nat} (h : x < (plc P n).length) : P ((plc P n).getD x 0) = true ∧ (plc P n).getD x 0 < n ∧ cnt P ((plc P n).getD x 0) = x := by
  have hg : (plc P n)[x]? = some ((plc P n)[x]'h) := List.getElem?_eq_getElem h
  have hd : (plc P n).getD x 0 = (plc P n)[x]'h := by
    rw [List.getD_eq_getElem?_getD, hg]
    rfl
  rw [hd]
  exact plc_get P n x _ hg
theorem nthNew_plain' {bs : List BO} (hc : ChB bs 0) (n : Nat) : NthP (fun q => decide (dAt bs q = 0)) (tot bs) n (nthNew bs n) := by
  have h := cont_nth (fun q => decide (dAt bs q = 0)) BO.beg BO.fin (fun B => B.zb B.fin) BO.nthZ bs 0 n (z_cont hc) fun B hB n hn => by
    have hO := okB_mem hc hB
    have hp := hO.pos
    have hn0 := nthZ_ok hO hn
    have hz : n < B.zb B.fin := hn
    rw [zb_fin hO] at hz
    have l1 : (zs B.first).length = B.first.count 0 := zs_len _
    have l2 : (zs B.later).length = B.later.count 0 := zs_len _
    have key : ∀ r o, r < B.reps → o < B.size → zG B r o = true → sumTo (fun r => cnt (zG B r) B.size) r + cnt (zG B r) o = n → B.beg + (r * B.size + o) < B.fin ∧ (fun q => decide (dAt bs q = 0)) (B.beg + (r * B.size + o)) = true ∧ cnt (fun q => decide (dAt bs q = 0)) (B.beg + (r * B.size + o)) = cnt (fun q => decide (dAt bs q = 0)) B.beg + n := fun r o hr ho hg hs => by
      have hi := in_blk (B := B) hr ho
      refine ⟨hi, by rw [zP hc hB r o hr ho]; exact hg, ?_⟩
      have hf : B.fin = B.beg + B.size * B.reps := rfl
      have h := blk_cnt (P := fun q => decide (dAt bs q = 0)) (G := zG B) hO (zP hc hB) (x := r * B.size + o) (by omega)
      obtain ⟨d1, d2⟩ := pos_div (r := r) ho
      rw [d1, d2, hs] at h
      exact h
    unfold BO.nthZ
    by_cases c : n < (zs B.first).length
    · rw [if_pos c]
      have c' := c
      rw [zs_plc] at c'
      obtain ⟨g1, g2, g3⟩ := plc_at c'
      rw [← zs_plc] at g1 g2 g3
      rw [hO.fi] at g2
      have := key 0 _ (by have := hO.one; omega) g2 g1 (by
        show 0 + cnt (fun o => decide (B.first.getD o 0 = 0)) _ = n
        rw [Nat.zero_add]
        exact g3)
      rw [Nat.zero_mul, Nat.zero_add] at this
      exact this
    · rw [if_neg c]
      have hl2 : 0 < (zs B.later).length := hn0.resolve_left c
      have hm : (n - (zs B.first).length) % (zs B.later).length < (zs B.later).length := Nat.mod_lt _ hl2
      have hrep : (n - (zs B.first).length) / (zs B.later).length + 1 < B.reps := by
        have : (n - (zs B.first).length) / (zs B.later).length < B.reps - 1 := by
          rw [Nat.div_lt_iff_lt_mul hl2, l1, l2]
          omega
        exact Nat.add_lt_of_lt_sub this
      have hdm := Nat.div_add_mod (n - (zs B.first).length) (zs B.later).length
      generalize hr : (n - (zs B.first).length) / (zs B.later).length = rp at *
      generalize hx : (n - (zs B.first).length) % (zs B.later).length = x at *
      have hm' := hm
      rw [zs_plc] at hm'
      obtain ⟨g1, g2, g3⟩ := plc_at hm'
      rw [← zs_plc] at g1 g2 g3
      rw [hO.la] at g2
      have := key (rp + 1) _ hrep g2 g1 (by
        rw [zG_sum hO rp]
        show _ + cnt (fun o => decide (B.later.getD o 0 = 0)) _ = n
        rw [g3, ← l1, ← l2, Nat.mul_comm rp]
        omega)
      rw [← Nat.add_assoc] at this
      exact this
  rw [nthNew_C]
  rw [tot_endC] at h
  have z : ∀ P : Nat → Bool, cnt P 0 = 0 := fun _ => rfl
  rw [z, Nat.zero_add] at h
  cases hx : nthC (fun B : BO => B.zb B.fin) BO.nthZ bs n with
  | none =>
    rw [hx] at h
    exact h
  | some q =>
    rw [hx] at h
    exact h
end HB
/-! symbols and their nodes -/
namespace HB
/-- how the distances of a repetition come about -/
def ChX : List BO → Option BO → Prop
  | [], _ => True
  | B :: r, prev => B.later = ext B.base B.ids B.turned B.size B.ids ∧ (B.first = match prev with
    | none => B.base
    | some P => ext B.base B.ids B.linked P.size P.ids) ∧ ChX r (some B)
theorem chX_of : ∀ (s : List Blk) (beg : Nat) (prev : Option BO), ChX (mkBOs s beg prev) prev
  | [], _, _ => True.intro
  | b :: r, beg, prev => ⟨rfl, rfl, chX_of r _ _⟩
theorem chX_boS (s : List Blk) : ChX (boS s) none := chX_of s 0 none
theorem chX_later : ∀ {bs : List BO} {pr : Option BO}, ChX bs pr → ∀ {k : Nat} {B : BO}, bs[k]? = some B → B.later = ext B.base B.ids B.turned B.size B.ids
  | [], _, _, k, B, h => by simp at h
  | A :: r, _, ⟨h1, _, hr⟩, k, B, h => by
    cases k with
    | zero =>
      cases h
      exact h1
    | succ k => exact chX_later hr h
theorem chX_first0 {bs : List BO} (h : ChX bs none) {B : BO} (hB : bs[0]? = some B) : B.first = B.base := by
  cases bs with
  | nil => simp at hB
  | cons A r =>
    cases hB
    exact h.2.1
theorem chX_first : ∀ {bs : List BO} {pr : Option BO}, ChX bs pr → ∀ {k : Nat} {A B : BO}, bs[k]? = some A → bs[k + 1]? = some B → B.first = ext B.base B.ids B.linked A.size A.ids
  | [], _, _, k, A, B, h, _ => by simp at h
  | C :: r, _, ⟨_, _, hr⟩, k, A, B, h1, h2 => by
    cases k with
    | zero =>
      cases h1
      cases r with
      | nil => simp at h2
      | cons D r =>
        cases h2
        exact hr.2.1
    | succ k => exact chX_first hr h1 h2
theorem chB_next : ∀ {bs : List BO} {b : Nat}, ChB bs b → ∀ {k : Nat} {A B : BO}, bs[k]? = some A → bs[k + 1]? = some B → B.beg = A.fin
  | [], _, _, k, A, B, h, _ => by simp at h
  | C :: r, _, ⟨_, _, hr⟩, k, A, B, h1, h2 => by
    cases k with
    | zero =>
      cases h1
      cases r with
      | nil => simp at h2
      | cons D r =>
        cases h2
        exact hr.1
    | succ k => exact chB_next hr h1 h2
/-- what a list of blocks keeps -/
structure Good (bs : List BO) : Prop where
  b : ChB bs 0
  m : ChM bs 0
  x : ChX bs none
  d : ∀ (i : Nat) B, bs[i]? = some B → ValidD B.base
theorem good_boS {s : List Blk} (h : VS s) : Good (boS s) := ⟨chB_boS h.valid, chM_boS h.valid, chX_boS s, chD_boS h.valid⟩
theorem ext_get {base is : List Nat} {m : List (Nat × Nat)} {ps : Nat} {pids : List Nat} {o : Nat} (h : o < base.length) : (ext base is m ps pids).getD o 0 = if base.getD o 0 = 0 then (match lk m (is.getD o 0) with
    | some t => o + ps - (lastI pids t).getD 0
    | none => 0) else base.getD o 0 := by
  unfold ext
  rw [List.getD_eq_getElem?_getD, List.getElem?_map, List.getElem?_range h]
  rfl
/-- the ids by the distances -/
theorem ids_pos {xs : List Nat} (hv : ValidD xs) {o d : Nat} (h : xs[o]? = some d) (hd : 0 < d) : (ids xs).getD o 0 = (ids xs).getD (o - d) 0 := by
  have hle := hv.le o d h
  have pre : ∀ n, n ≤ xs.length → ∀ i, i < n → (idsG xs).1.getD i 0 = (idsG (xs.take n)).1.getD i 0 := by
    intro n hn i hi
    have key : ∀ m, n + m ≤ xs.length → (idsG (xs.take (n + m))).1.getD i 0 = (idsG (xs.take n)).1.getD i 0 := by
      intro m
      induction m with
      | zero => intro _; rfl
      | succ m ih =>
        intro hm
        have hg : xs[n + m]? = some (xs[n + m]'(by omega)) := List.getElem?_eq_getElem _
        rw [← ih (by omega), ← Nat.add_assoc, idsG_snoc hg]
        have hl : (idsG (xs.take (n + m))).1.length = n + m := by rw [idsG_len, List.length_take]; omega
        unfold idsF
        split
        · rw [List.getD_eq_getElem?_getD, List.getElem?_append_left (by omega), ← List.getD_eq_getElem?_getD]
        · rw [List.getD_eq_getElem?_getD, List.getElem?_append_left (by omega), ← List.getD_eq_getElem?_getD]
    have := key (xs.length - n) (by omega)
    rw [show n + (xs.length - n) = xs.length by omega, List.take_length] at this
    exact this
  have ho := (List.getElem?_eq_some_iff.mp h).1
  show (idsG xs).1.getD o 0 = (idsG xs).1.getD (o - d) 0
  rw [pre (o + 1) ho o (by omega), pre (o + 1) ho (o - d) (by omega), idsG_snoc h]
  have hl : (idsG (xs.take o)).1.length = o := by rw [idsG_len, List.length_take]; omega
  unfold idsF
  rw [if_neg (by omega)]
  show ((idsG (xs.take o)).1 ++ [(idsG (xs.take o)).1.getD ((idsG (xs.take o)).1.length - d) 0]).getD o 0 = ((idsG (xs.take o)).1 ++ [(idsG (xs.take o)).1.getD ((idsG (xs.take o)).1.length - d) 0]).getD (o - d) 0
  rw [List.getD_eq_getElem?_getD, List.getElem?_append_right (by omega), hl, Nat.sub_self, List.getD_eq_getElem?_getD (i := o - d) (l := _ ++ _), List.getElem?_append_left (by omega), ← List.getD_eq_getElem?_getD]
  rfl
end HB
/-! roots and origins -/
namespace HB
theorem valid_take {xs : List Nat} (hv : ValidD xs) (n : Nat) : ValidD (xs.take n) where
  le := fun i d h => by
    rw [List.getElem?_take] at h
    split at h
    · exact hv.le i d h
    · cases h
  inj := fun i j d e hi hj => by
    rw [List.getElem?_take] at hi hj
    split at hi
    · split at hj
      · exact hv.inj i j d e hi hj
      · cases hj
    · cases hi
theorem ids_zero {xs : List Nat} (hv : ValidD xs) {o : Nat} (h : xs[o]? = some 0) : ∀ i, i < o → (ids xs).getD i 0 < (ids xs).getD o 0 := by
  intro i hi
  have ho := (List.getElem?_eq_some_iff.mp h).1
  have key : ∀ m, o + 1 + m ≤ xs.length → ∀ j, j < o + 1 → (idsG (xs.take (o + 1 + m))).1.getD j 0 = (idsG (xs.take (o + 1))).1.getD j 0 := by
    intro m
    induction m with
    | zero => intro _ j _; rfl
    | succ m ih =>
      intro hm j hj
      have hg : xs[o + 1 + m]? = some (xs[o + 1 + m]'(by omega)) := List.getElem?_eq_getElem _
      rw [← ih (by omega) j hj, ← Nat.add_assoc, idsG_snoc hg]
      have hl : (idsG (xs.take (o + 1 + m))).1.length = o + 1 + m := by rw [idsG_len, List.length_take]; omega
      unfold idsF
      split
      · rw [List.getD_eq_getElem?_getD, List.getElem?_append_left (by omega), ← List.getD_eq_getElem?_getD]
      · rw [List.getD_eq_getElem?_getD, List.getElem?_append_left (by omega), ← List.getD_eq_getElem?_getD]
  have kk := key (xs.length - (o + 1)) (by omega)
  rw [show o + 1 + (xs.length - (o + 1)) = xs.length by omega, List.take_length] at kk
  show (idsG xs).1.getD i 0 < (idsG xs).1.getD o 0
  rw [kk i (by omega), kk o (by omega), idsG_snoc h]
  have hl : (idsG (xs.take o)).1.length = o := by rw [idsG_len, List.length_take]; omega
  unfold idsF
  rw [if_pos rfl]
  show ((idsG (xs.take o)).1 ++ [(idsG (xs.take o)).2]).getD i 0 < ((idsG (xs.take o)).1 ++ [(idsG (xs.take o)).2]).getD o 0
  rw [List.getD_eq_getElem?_getD, List.getElem?_append_left (by omega), List.getD_eq_getElem?_getD, List.getElem?_append_right (by omega), hl, Nat.sub_self]
  show ((idsG (xs.take o)).1[i]?).getD 0 < (idsG (xs.take o)).2
  have hvt := valid_take hv o
  have hg : (idsG (xs.take o)).1[i]? = some ((idsG (xs.take o)).1[i]'(by omega)) := List.getElem?_eq_getElem _
  have := ids_lt hvt _ (List.mem_of_getElem? hg)
  rw [← idsG_nz] at this
  rw [hg]
  exact this
theorem idx_zero {xs : List Nat} (hv : ValidD xs) {o : Nat} (h : xs[o]? = some 0) : (ids xs).idxOf ((ids xs).getD o 0) = o := by
  have ho := (List.getElem?_eq_some_iff.mp h).1
  have hl := ids_len xs
  have hg : (ids xs)[o]? = some ((ids xs).getD o 0) := by
    rw [List.getD_eq_getElem?_getD, List.getElem?_eq_getElem (by omega)]
    rfl
  have hm := List.mem_of_getElem? hg
  have hi := List.idxOf_lt_length_iff.mpr hm
  have he : (ids xs)[(ids xs).idxOf ((ids xs).getD o 0)]? = some ((ids xs).getD o 0) := by rw [List.getElem?_eq_getElem hi, List.getElem_idxOf]
  rcases Nat.lt_trichotomy ((ids xs).idxOf ((ids xs).getD o 0)) o with c | c | c
  · have := ids_zero hv h _ c
    rw [List.getD_eq_getElem?_getD, he] at this
    exact absurd this (Nat.lt_irrefl _)
  · exact c
  · have := List.not_of_lt_findIdx (p := (· == (ids xs).getD o 0)) (xs := ids xs) (i := o) (by exact c)
    have hx : (ids xs)[o]'(by omega) = (ids xs).getD o 0 := by
      rw [List.getElem?_eq_getElem (by omega)] at hg
      exact Option.some.inj hg
    simp [hx] at this
def posN (bs : List BO) (n : Nat × Nat × Nat) : Nat := match bs[n.1]? with
  | some B => B.beg + (n.2.1 * B.size + B.ids.idxOf n.2.2)
  | none => 0
theorem up_first {bs : List BO} {n m O : Nat × Nat × Nat} (h : Up bs n O) (hp : par bs n = some m) (hO : par bs O = none) : Up bs m O := by
  have key : ∀ {n O}, Up bs n O → n = O ∨ ∃ m, par bs n = some m ∧ Up bs m O := by
    intro n O h
    induction h with
    | refl => exact .inl rfl
    | snoc _ p ih =>
      rcases ih with rfl | ⟨m, h1, h2⟩
      · exact .inr ⟨_, p, .refl _⟩
      · exact .inr ⟨m, h1, .snoc h2 p⟩
  rcases key h with rfl | ⟨m', h1, h2⟩
  · rw [hp] at hO
    cases hO
  · rw [hp] at h1
    cases h1
    exact h2
theorem up_none {bs : List BO} {n O : Nat × Nat × Nat} (h : Up bs n O) (hp : par bs n = none) : n = O := by
  induction h with
  | refl => rfl
  | snoc _ p ih =>
    have := ih
    subst this
    rw [hp] at p
    cases p
/-- the node of a position -/
theorem node_at {bs : List BO} (G : Good bs) {p : Nat} (hp : p < tot bs) : ∃ k B, bs[k]? = some B ∧ B.beg ≤ p ∧ p < B.fin ∧ NodeAt bs p (k, (p - B.beg) / B.size, B.ids.getD ((p - B.beg) % B.size) 0) := by
  obtain ⟨j, A, q1, q2, q3, -⟩ := at_chB bs 0 G.b p (Nat.zero_le _) (by rw [← tot_next]; exact hp)
  exact ⟨j, A, q1, q2, q3, A, q1, q2, q3, rfl, rfl⟩
theorem node_uniq {bs : List BO} (G : Good bs) {p : Nat} {n m : Nat × Nat × Nat} (h : NodeAt bs p n) (h' : NodeAt bs p m) : n = m := by
  obtain ⟨B, b1, b2, b3, b4, b5⟩ := h
  obtain ⟨C, c1, c2, c3, c4, c5⟩ := h'
  have hp : p < tot bs := Nat.lt_of_lt_of_le b3 (at_blk G.b b1).1
  obtain ⟨j, A, q1, q2, q3, q4, q5⟩ := at_chB bs 0 G.b p (Nat.zero_le _) (by rw [← tot_next]; exact hp)
  have e1 := (q5 _ B b1).mp ⟨b2, b3⟩
  have e2 := (q5 _ C c1).mp ⟨c2, c3⟩
  obtain ⟨n1, n2, n3⟩ := n
  obtain ⟨m1, m2, m3⟩ := m
  dsimp only at *
  subst e1
  subst e2
  rw [b1] at c1
  cases c1
  rw [b4, b5, c4, c5]
theorem node_mk {bs : List BO} (G : Good bs) {k r o : Nat} {B : BO} (hB : bs[k]? = some B) (hr : r < B.reps) (ho : o < B.size) : NodeAt bs (B.beg + (r * B.size + o)) (k, r, B.ids.getD o 0) := by
  obtain ⟨d1, d2⟩ := pos_div (r := r) ho
  refine ⟨B, hB, by omega, in_blk hr ho, ?_, ?_⟩
  · show r = _
    rw [Nat.add_sub_cancel_left, d1]
  · show B.ids.getD o 0 = _
    rw [Nat.add_sub_cancel_left, d2]
theorem root_pos {bs : List BO} (G : Good bs) : ∀ p k r o B, bs[k]? = some B → r < B.reps → o < B.size → p = B.beg + (r * B.size + o) → ∀ O, Up bs (k, r, B.ids.getD o 0) O → par bs O = none → root (dAt bs) p = posN bs O := by
  intro p
  induction p using Nat.strongRecOn with
  | _ p ih =>
    intro k r o B hB hr ho hp O hU hO
    have hK := chB_get G.b hB
    have hv := G.d k B hB
    have hpos := hK.pos
    have hbl : o < B.base.length := by rw [hK.base]; exact ho
    have hgo : B.base[o]? = some (B.base.getD o 0) := by
      rw [List.getD_eq_getElem?_getD, List.getElem?_eq_getElem hbl]
      rfl
    have hd : dAt bs p = (if r = 0 then B.first else B.later).getD o 0 := by
      rw [hp, (at_blk G.b hB).2 _ (by omega) (in_blk hr ho), dist_at ho]
    rw [root_eq]
    by_cases z : B.base.getD o 0 = 0
    · rw [z] at hgo
      have hidx : B.ids.idxOf (B.ids.getD o 0) = o := by
        rw [hK.ids]
        exact idx_zero hv hgo
      have stop : dAt bs p = 0 → par bs (k, r, B.ids.getD o 0) = none → (if 0 < dAt bs p ∧ dAt bs p ≤ p then root (dAt bs) (p - dAt bs p) else p) = posN bs O := fun h1 h2 => by
        have := up_none hU h2
        subst this
        rw [if_neg (by omega)]
        unfold posN
        show p = match bs[k]? with
          | some B' => B'.beg + (r * B'.size + B'.ids.idxOf (B.ids.getD o 0))
          | none => 0
        rw [hB]
        show p = B.beg + (r * B.size + B.ids.idxOf (B.ids.getD o 0))
        rw [hidx, hp]
      have sz : B.ids.getD o 0 < nz B.base := by
        have hm : B.ids.getD o 0 ∈ B.ids := by
          have hl : o < B.ids.length := by rw [hK.idl]; exact ho
          rw [List.getD_eq_getElem?_getD, List.getElem?_eq_getElem hl]
          exact List.getElem_mem _
        rw [hK.ids] at hm ⊢
        exact ids_lt hv _ hm
      cases r with
      | succ r =>
        rw [if_neg (by omega), chX_later G.x hB, ext_get hbl, if_pos z] at hd
        cases hl : lk B.turned (B.ids.getD o 0) with
        | none =>
          rw [hl] at hd
          refine stop hd ?_
          show (match bs[k]? with
            | some B' => (lk B'.turned (B.ids.getD o 0)).map fun t => (k, r, t)
            | none => none) = none
          rw [hB]
          show (lk B.turned _).map _ = none
          rw [hl]
          rfl
        | some t =>
          have hpar : par bs (k, r + 1, B.ids.getD o 0) = some (k, r, t) := by
            show (match bs[k]? with
              | some B' => (lk B'.turned (B.ids.getD o 0)).map fun t => (k, r, t)
              | none => none) = _
            rw [hB]
            show (lk B.turned _).map _ = _
            rw [hl]
            rfl
          have htn : t < nz B.base := ((chM_turn G.m hB).1.lt _ (lk_mem hl)).2
          obtain ⟨j, hj⟩ := lastI_some (ids_has htn)
          obtain ⟨j1, j2⟩ := lastI_lt hj
          rw [← hK.ids] at hj j1 j2
          rw [hK.idl] at j1
          rw [hl] at hd
          have hd : dAt bs p = o + B.size - j := by
            rw [hd]
            show o + B.size - (lastI B.ids t).getD 0 = _
            rw [hj]
            rfl
          have hpe : p - dAt bs p = B.beg + (r * B.size + j) := by
            rw [hd, hp, Nat.add_mul, Nat.one_mul]
            omega
          have hpp : 0 < dAt bs p ∧ dAt bs p ≤ p := by
            rw [hd, hp, Nat.add_mul, Nat.one_mul]
            omega
          rw [if_pos hpp]
          have hjd : B.ids.getD j 0 = t := by
            rw [List.getD_eq_getElem?_getD, j2]
            rfl
          refine ih (p - dAt bs p) (by omega) k r j B hB (by omega) j1 hpe O ?_ hO
          rw [hjd]
          exact up_first hU hpar hO
      | zero =>
        rw [if_pos rfl] at hd
        cases k with
        | zero =>
          rw [chX_first0 G.x hB, z] at hd
          exact stop hd rfl
        | succ k =>
          have hkl : k < bs.length := by
            have := (List.getElem?_eq_some_iff.mp hB).1
            omega
          have hA : bs[k]? = some bs[k] := List.getElem?_eq_getElem hkl
          generalize bs[k] = A at hA
          have hKA := chB_get G.b hA
          have hvA := G.d k A hA
          have hAn := chB_next G.b hA hB
          rw [chX_first G.x hA hB, ext_get hbl, if_pos z] at hd
          cases hl : lk B.linked (B.ids.getD o 0) with
          | none =>
            rw [hl] at hd
            refine stop hd ?_
            show (match bs[k + 1]?, bs[k]? with
              | some B', some A => (lk B'.linked (B.ids.getD o 0)).map fun t => (k, A.reps - 1, t)
              | _, _ => none) = none
            rw [hB, hA]
            show (lk B.linked _).map _ = none
            rw [hl]
            rfl
          | some t =>
            have hpar : par bs (k + 1, 0, B.ids.getD o 0) = some (k, A.reps - 1, t) := by
              show (match bs[k + 1]?, bs[k]? with
                | some B', some A => (lk B'.linked (B.ids.getD o 0)).map fun t => (k, A.reps - 1, t)
                | _, _ => none) = _
              rw [hB, hA]
              show (lk B.linked _).map _ = _
              rw [hl]
              rfl
            have htn : t < nz A.base := ((chM_link G.m hA hB).lt _ (lk_mem hl)).2
            obtain ⟨j, hj⟩ := lastI_some (ids_has htn)
            obtain ⟨j1, j2⟩ := lastI_lt hj
            rw [← hKA.ids] at hj j1 j2
            rw [hKA.idl] at j1
            rw [hl] at hd
            have hd : dAt bs p = o + A.size - j := by
              rw [hd]
              show o + A.size - (lastI A.ids t).getD 0 = _
              rw [hj]
              rfl
            have hAf : A.fin = A.beg + A.size * A.reps := rfl
            obtain ⟨m, hm⟩ : ∃ m, A.reps = m + 1 := ⟨A.reps - 1, by have := hKA.one; omega⟩
            rw [hm, Nat.mul_add, Nat.mul_one] at hAf
            have hmul : A.size * m = m * A.size := Nat.mul_comm _ _
            rw [Nat.zero_mul, Nat.zero_add] at hp
            have hpe : p - dAt bs p = A.beg + ((A.reps - 1) * A.size + j) := by
              rw [hd, hp, hm, Nat.add_sub_cancel]
              omega
            have hpp : 0 < dAt bs p ∧ dAt bs p ≤ p := by
              rw [hd, hp]
              omega
            rw [if_pos hpp]
            have hjd : A.ids.getD j 0 = t := by
              rw [List.getD_eq_getElem?_getD, j2]
              rfl
            refine ih (p - dAt bs p) (by omega) k (A.reps - 1) j A hA (by omega) j1 hpe O ?_ hO
            rw [hjd]
            exact up_first hU hpar hO
    · have hdd : dAt bs p = B.base.getD o 0 := by
        rw [hd]
        by_cases c : r = 0
        · rw [if_pos c]
          cases k with
          | zero => rw [chX_first0 G.x hB]
          | succ k =>
            have hkl : k < bs.length := by
              have := (List.getElem?_eq_some_iff.mp hB).1
              omega
            have hA : bs[k]? = some bs[k] := List.getElem?_eq_getElem hkl
            rw [chX_first G.x hA hB, ext_get hbl, if_neg z]
        · rw [if_neg c, chX_later G.x hB, ext_get hbl, if_neg z]
      have hle := hv.le o _ hgo
      rw [hdd, if_pos ⟨by omega, by omega⟩]
      refine ih _ (by omega) k r (o - B.base.getD o 0) B hB hr (by omega) (by omega) O ?_ hO
      have := ids_pos hv hgo (by omega)
      rw [← hK.ids] at this
      rw [← this]
      exact hU
end HB
/-! runs hold the positions of a symbol -/
namespace HB
theorem node_ok {bs : List BO} (G : Good bs) {k r o : Nat} {B : BO} (hB : bs[k]? = some B) (hr : r < B.reps) (ho : o < B.size) : NodeOk bs k r (B.ids.getD o 0) := by
  have hK := chB_get G.b hB
  refine ⟨B, hB, hr, ?_⟩
  have hm : B.ids.getD o 0 ∈ B.ids := by
    have hl : o < B.ids.length := by rw [hK.idl]; exact ho
    rw [List.getD_eq_getElem?_getD, List.getElem?_eq_getElem hl]
    exact List.getElem_mem _
  rw [hK.ids] at hm ⊢
  exact ids_lt (G.d k B hB) _ hm
theorem pos_split {B : BO} (hO : OkB B) {p : Nat} (h1 : B.beg ≤ p) (h2 : p < B.fin) : (p - B.beg) / B.size < B.reps ∧ (p - B.beg) % B.size < B.size ∧ p = B.beg + ((p - B.beg) / B.size * B.size + (p - B.beg) % B.size) := by
  have hp := hO.pos
  have hf : B.fin = B.beg + B.size * B.reps := rfl
  refine ⟨?_, Nat.mod_lt _ hp, ?_⟩
  · rw [Nat.div_lt_iff_lt_mul hp, Nat.mul_comm]
    omega
  · have := Nat.div_add_mod (p - B.beg) B.size
    rw [Nat.mul_comm] at this
    omega
theorem posN_at {bs : List BO} (G : Good bs) {n : Nat × Nat × Nat} (h : NodeOk bs n.1 n.2.1 n.2.2) : NodeAt bs (posN bs n) n := by
  obtain ⟨B, hB, hr, hs⟩ := h
  obtain ⟨k, r, s⟩ := n
  dsimp only at hB hr hs
  have hK := chB_get G.b hB
  have hm : s ∈ B.ids := by
    rw [hK.ids]
    exact ids_has hs
  have hi := List.idxOf_lt_length_iff.mpr hm
  have hi2 : B.ids.idxOf s < B.size := by rw [← hK.idl]; exact hi
  have h := node_mk G hB hr hi2
  have e : B.ids.getD (B.ids.idxOf s) 0 = s := by
    rw [List.getD_eq_getElem?_getD, List.getElem?_eq_getElem hi, List.getElem_idxOf]
    rfl
  rw [e] at h
  have e2 : posN bs (k, r, s) = B.beg + (r * B.size + B.ids.idxOf s) := by
    unfold posN
    dsimp only
    rw [hB]
  rw [e2]
  exact h
theorem par_inv1 {bs : List BO} {k r s : Nat} {m : Nat × Nat × Nat} (h : par bs (k, r + 1, s) = some m) : ∃ B t, bs[k]? = some B ∧ lk B.turned s = some t ∧ m = (k, r, t) := by
  have h : (match bs[k]? with
    | some B => (lk B.turned s).map fun t => (k, r, t)
    | none => none) = some m := h
  cases hB : bs[k]? with
  | none =>
    rw [hB] at h
    cases h
  | some B =>
    rw [hB] at h
    obtain ⟨t, ht, e⟩ := Option.map_eq_some_iff.mp h
    exact ⟨B, t, rfl, ht, e.symm⟩
theorem par_inv2 {bs : List BO} {k s : Nat} {m : Nat × Nat × Nat} (h : par bs (k + 1, 0, s) = some m) : ∃ B A t, bs[k + 1]? = some B ∧ bs[k]? = some A ∧ lk B.linked s = some t ∧ m = (k, A.reps - 1, t) := by
  have h : (match bs[k + 1]?, bs[k]? with
    | some B, some A => (lk B.linked s).map fun t => (k, A.reps - 1, t)
    | _, _ => none) = some m := h
  cases hB : bs[k + 1]? with
  | none =>
    rw [hB] at h
    cases h
  | some B =>
    cases hA : bs[k]? with
    | none =>
      rw [hB, hA] at h
      cases h
    | some A =>
      rw [hB, hA] at h
      obtain ⟨t, ht, e⟩ := Option.map_eq_some_iff.mp h
      exact ⟨B, A, t, rfl, rfl, ht, e.symm⟩
theorem up_exists {bs : List BO} : ∀ (k r s : Nat), ∃ O, Up bs (k, r, s) O ∧ par bs O = none := by
  have step : ∀ n, (∀ m, par bs n = some m → ∃ O, Up bs m O ∧ par bs O = none) → ∃ O, Up bs n O ∧ par bs O = none := fun n hs => by
    cases h : par bs n with
    | none => exact ⟨n, .refl _, h⟩
    | some m =>
      obtain ⟨O, h1, h2⟩ := hs m h
      exact ⟨O, up_trans (.snoc (.refl _) h) h1, h2⟩
  intro k
  induction k with
  | zero =>
    intro r
    induction r with
    | zero => exact fun s => ⟨_, .refl _, rfl⟩
    | succ r ih =>
      exact fun s => step _ fun m h => by
        obtain ⟨B, t, _, _, rfl⟩ := par_inv1 h
        exact ih t
  | succ k ihk =>
    intro r
    induction r with
    | zero =>
      exact fun s => step _ fun m h => by
        obtain ⟨B, A, t, _, _, _, rfl⟩ := par_inv2 h
        exact ihk _ t
    | succ r ih =>
      exact fun s => step _ fun m h => by
        obtain ⟨B, t, _, _, rfl⟩ := par_inv1 h
        exact ih t
theorem posN_inj {bs : List BO} (G : Good bs) {n m : Nat × Nat × Nat} (h : NodeOk bs n.1 n.2.1 n.2.2) (h' : NodeOk bs m.1 m.2.1 m.2.2) (e : posN bs n = posN bs m) : n = m := by
  have h1 := posN_at G h
  rw [e] at h1
  exact node_uniq G h1 (posN_at G h')
theorem one_of {bs : List BO} (G : Good bs) : ∀ (i : Nat) B, bs[i]? = some B → 1 ≤ B.reps := fun i B h => (chB_get G.b h).one
theorem orig_root {bs : List BO} (G : Good bs) {p : Nat} {O : Nat × Nat × Nat} (h : Orig bs p O) : root (dAt bs) p = posN bs O := by
  obtain ⟨⟨k, r, s⟩, ⟨B, hB, h1, h2, h3, h4⟩, hU, hO, -⟩ := h
  dsimp only at hB h3 h4
  subst h3
  subst h4
  obtain ⟨g1, g2, g3⟩ := pos_split (chB_get G.b hB) h1 h2
  exact root_pos G p k _ _ B hB g1 g2 g3 O hU hO
theorem same_plain' {bs : List BO} (G : Good bs) {p q : Nat} {O O' : Nat × Nat × Nat} (h : Orig bs p O) (h' : Orig bs q O') : O = O' ↔ root (dAt bs) p = root (dAt bs) q := by
  rw [orig_root G h, orig_root G h']
  refine ⟨fun e => by rw [e], fun e => ?_⟩
  obtain ⟨_, _, _, _, n1⟩ := h
  obtain ⟨_, _, _, _, n2⟩ := h'
  exact posN_inj G n1 n2 e
/-- which positions hold the symbol -/
theorem sym_iff {bs : List BO} (G : Good bs) {p : Nat} {O : Nat × Nat × Nat} (h : Orig bs p O) {k r o : Nat} {B : BO} (hB : bs[k]? = some B) (hr : r < B.reps) (ho : o < B.size) :
    symP (dAt bs) p (B.beg + (r * B.size + o)) = true ↔ Up bs (k, r, B.ids.getD o 0) O := by
  unfold symP
  rw [decide_eq_true_iff, orig_root G h]
  have hO := h
  obtain ⟨_, _, _, hpar, hok⟩ := hO
  refine ⟨fun e => ?_, fun hu => root_pos G _ k r o B hB hr ho rfl O hu hpar⟩
  obtain ⟨O', hu, hp'⟩ := up_exists (bs := bs) k r (B.ids.getD o 0)
  have e' := root_pos G _ k r o B hB hr ho rfl O' hu hp'
  rw [e'] at e
  have := posN_inj G (up_ok G.m (one_of G) hu (node_ok G hB hr ho)) hok e
  rw [← this]
  exact hu
inductive UpC (bs : List BO) : Nat × Nat × Nat → Nat × Nat × Nat → Prop
  | refl (n) : UpC bs n n
  | cons {n m o} : par bs n = some m → UpC bs m o → UpC bs n o
theorem upC_of {bs : List BO} {n o : Nat × Nat × Nat} (h : Up bs n o) : UpC bs n o := by
  have snoc : ∀ {n m o}, UpC bs n m → par bs m = some o → UpC bs n o := by
    intro n m o h
    induction h with
    | refl => exact fun p => .cons p (.refl _)
    | cons p _ ih => exact fun q => .cons p (ih q)
  induction h with
  | refl => exact .refl _
  | snoc _ p ih => exact snoc ih p
/-- n lies in a run -/
def InRuns (k0 : Nat) (rs : List RunP) (n : Nat × Nat × Nat) : Prop := ∃ i R, rs[i]? = some R ∧ n.1 = k0 + i ∧ R.start ≤ n.2.1 ∧ n.2.1 < R.start + R.cnt ∧ n.2.2 = R.ch.getD ((n.2.1 - R.start) % R.ch.length) 0
/-- each run, its block and its chain -/
theorem run_of {bs : List BO} {k0 r0 s0 : Nat} {rs : List RunP} (h : RunsG bs k0 r0 s0 rs) {i : Nat} {R : RunP} (hR : rs[i]? = some R) : ∃ B st s, bs[k0 + i]? = some B ∧ RunOf B st s R ∧ (i = 0 → st = r0 ∧ s = s0) ∧ (∀ j, i = j + 1 → st = 0) := by
  cases i with
  | zero =>
    obtain ⟨B, R', h1, h2, h3⟩ := h.first
    rw [hR] at h2
    cases h2
    exact ⟨B, r0, s0, h1, h3, fun _ => ⟨rfl, rfl⟩, fun j h => by omega⟩
  | succ i =>
    have hi := (List.getElem?_eq_some_iff.mp hR).1
    have hP : rs[i]? = some (rs[i]'(by omega)) := List.getElem?_eq_getElem _
    obtain ⟨_, B', s', h1, h2, h3⟩ := h.next i _ R hP hR
    exact ⟨B', 0, s', by rw [← Nat.add_assoc]; exact h1, h3, fun h => by omega, fun _ _ => rfl⟩
theorem run_cnt {B : BO} {st s : Nat} {R : RunP} (h : RunOf B st s R) : R.start + R.cnt ≤ max B.reps R.start := by
  obtain ⟨rfl, rfl, cyc, hC, hc⟩ := h
  rw [hc]
  split <;> omega
theorem in_runs {bs : List BO} (G : Good bs) {k0 r0 s0 : Nat} {rs : List RunP} (hr : Runs bs k0 r0 s0 rs) {n O : Nat × Nat × Nat} (h : UpC bs n O) (hO : O = (k0, r0, s0)) : NodeOk bs n.1 n.2.1 n.2.2 → InRuns k0 rs n := by
  induction h with
  | refl n =>
    intro hn
    subst hO
    obtain ⟨B, R, h1, h2, h3⟩ := hr.g.first
    have hf := hr.g.fine R (List.mem_of_getElem? h2)
    obtain ⟨rfl, rfl, cyc, hC, hc⟩ := h3
    refine ⟨0, R, h2, rfl, Nat.le_refl _, by have := hf.one; show R.start < _; omega, ?_⟩
    show s0 = R.ch.getD ((R.start - R.start) % R.ch.length) 0
    rw [Nat.sub_self, Nat.zero_mod, chain_zero hC]
  | @cons n m o p _ ih =>
    intro hn
    have hm := par_ok G.m (one_of G) (show par bs (n.1, n.2.1, n.2.2) = some (m.1, m.2.1, m.2.2) from p) hn
    obtain ⟨i, R, hRi, e1, e2, e3, e4⟩ := ih hO hm
    obtain ⟨B, st, s, hB, hRO, hst0, hst⟩ := run_of hr.g hRi
    have hF := hr.g.fine R (List.mem_of_getElem? hRi)
    obtain ⟨hRB, hRs, cyc, hC, hc⟩ := id hRO
    obtain ⟨k, r, sy⟩ := n
    obtain ⟨mk, mr, ms⟩ := m
    dsimp only at e1 e2 e3 e4 hn hm ⊢
    subst e1
    obtain ⟨B2, hB2, hr2, hs2⟩ := hn
    have hp1 := hC.pos
    cases r with
    | succ r =>
      have p : (match bs[k]? with
        | some B => (lk B.turned sy).map fun t => (k, r, t)
        | none => none) = some (k0 + i, mr, ms) := p
      rw [hB2] at p
      obtain ⟨t, ht, e⟩ := Option.map_eq_some_iff.mp p
      obtain ⟨q1, q2, q3⟩ : k = k0 + i ∧ r = mr ∧ t = ms := by
        cases e
        exact ⟨rfl, rfl, rfl⟩
      subst q1
      subst q2
      subst q3
      rw [hB] at hB2
      cases hB2
      have hV := (chM_turn G.m hB).1
      have hinv := (invM_iff hV).mpr ht
      by_cases c : r + 1 < R.start + R.cnt
      · refine ⟨i, R, hRi, rfl, by show R.start ≤ r + 1; omega, c, ?_⟩
        show sy = R.ch.getD ((r + 1 - R.start) % R.ch.length) 0
        have hn := chain_next hC (j := r - R.start) (by
          cases cyc with
          | true => exact .inl rfl
          | false =>
            rw [if_neg (by decide)] at hc
            right
            omega)
        rw [← e4, hinv, show r - R.start + 1 = r + 1 - R.start by omega] at hn
        exact Option.some.inj hn
      · exfalso
        have hr2 : r + 1 < B.reps := hr2
        cases cyc with
        | true =>
          rw [if_pos rfl] at hc
          omega
        | false =>
          rw [if_neg (by decide)] at hc
          have hl : R.ch.getLast? = some (R.ch.getD ((r - R.start) % R.ch.length) 0) := by
            rw [List.getLast?_eq_getElem?, Nat.mod_eq_of_lt (by omega), show R.ch.length - 1 = r - R.start by omega, List.getD_eq_getElem?_getD, List.getElem?_eq_getElem (by omega)]
            rfl
          have := hC.last _ hl
          rw [← e4, hinv] at this
          cases this
    | zero =>
      cases k with
      | zero => cases p
      | succ k =>
        have hkl : k < bs.length := by
          have := (List.getElem?_eq_some_iff.mp hB2).1
          omega
        have hA : bs[k]? = some bs[k] := List.getElem?_eq_getElem hkl
        have p : (match bs[k + 1]?, bs[k]? with
          | some B, some A => (lk B.linked sy).map fun t => (k, A.reps - 1, t)
          | _, _ => none) = some (k0 + i, mr, ms) := p
        rw [hB2, hA] at p
        obtain ⟨t, ht, e⟩ := Option.map_eq_some_iff.mp p
        generalize bs[k] = A at *
        obtain ⟨q1, q2, q3⟩ : k = k0 + i ∧ A.reps - 1 = mr ∧ t = ms := by
          cases e
          exact ⟨rfl, rfl, rfl⟩
        subst q1
        subst q2
        subst q3
        rw [hB] at hA
        cases hA
        have hV := chM_link G.m hB hB2
        have hinv := (invM_iff hV).mpr ht
        have hrun := run_cnt hRO
        have h1 := one_of G _ _ hB
        have hend : R.start + R.cnt = R.B.reps := by
          rw [hRB]
          omega
        have hlast : R.lastS = t := by
          unfold RunP.lastS
          rw [e4, hRB] at *
          congr 2
          omega
        rcases Nat.lt_or_ge (i + 1) rs.length with c | c
        · have hR' : rs[i + 1]? = some rs[i + 1] := List.getElem?_eq_getElem c
          obtain ⟨_, B', s', h1', h2', h3'⟩ := hr.g.next i R _ hRi hR'
          have hk : k0 + i + 1 = k0 + i + 1 := rfl
          rw [hB2] at h1'
          cases h1'
          rw [hlast, hinv] at h2'
          cases h2'
          obtain ⟨g1, g2, cyc', hC', hc'⟩ := h3'
          have hF' := hr.g.fine _ (List.mem_of_getElem? hR')
          refine ⟨i + 1, _, hR', by show k0 + i + 1 = _; omega, by show _ ≤ 0; omega, by have := hF'.one; show 0 < _; omega, ?_⟩
          show sy = _
          rw [Nat.zero_sub, Nat.zero_mod, chain_zero hC']
        · exfalso
          have hil := (List.getElem?_eq_some_iff.mp hRi).1
          have hl : rs.getLast? = some R := by
            rw [List.getLast?_eq_getElem?, show rs.length - 1 = i by omega]
            exact hRi
          rcases hr.last R hl with h | h | ⟨B', hB', hn⟩
          · exact h hend
          · have := (List.getElem?_eq_some_iff.mp hB2).1
            omega
          · rw [show k0 + rs.length = k0 + i + 1 by omega, hB2] at hB'
            cases hB'
            rw [hlast, hinv] at hn
            cases hn
end HB
/-! which positions the runs hold -/
namespace HB
theorem run_steps {bs : List BO} (G : Good bs) {k : Nat} {B : BO} {st s : Nat} {R : RunP} (hB : bs[k]? = some B) (h : RunOf B st s R) : ∀ j, j < R.cnt → Up bs (k, R.start + j, R.ch.getD (j % R.ch.length) 0) (k, R.start, s)
  | 0, _ => by
    obtain ⟨-, -, cyc, hC, -⟩ := h
    rw [Nat.zero_mod, chain_zero hC]
    exact .refl _
  | j + 1, hj => by
    have ih := run_steps G hB h j (by omega)
    obtain ⟨hb, hs, cyc, hC, hc⟩ := h
    refine up_trans (.snoc (.refl _) ?_) ih
    have hn := chain_next hC (j := j) (by
      cases cyc with
      | true => exact .inl rfl
      | false =>
        rw [if_neg (by decide)] at hc
        right
        omega)
    have hV := (chM_turn G.m hB).1
    have hl := (invM_iff hV).mp hn
    show (match bs[k]? with
      | some B => (lk B.turned (R.ch.getD ((j + 1) % R.ch.length) 0)).map fun t => (k, R.start + j, t)
      | none => none) = _
    rw [hB]
    show (lk B.turned _).map _ = _
    rw [hl]
    rfl
theorem runs_up {bs : List BO} (G : Good bs) {k0 r0 s0 : Nat} {rs : List RunP} (hr : RunsG bs k0 r0 s0 rs) : ∀ i R, rs[i]? = some R → ∀ j, j < R.cnt → Up bs (k0 + i, R.start + j, R.ch.getD (j % R.ch.length) 0) (k0, r0, s0)
  | 0, R, hR, j, hj => by
    obtain ⟨B, R', h1, h2, h3⟩ := hr.first
    rw [hR] at h2
    cases h2
    have := run_steps G h1 h3 j hj
    rw [h3.st] at this ⊢
    exact this
  | i + 1, R, hR, j, hj => by
    have hi := (List.getElem?_eq_some_iff.mp hR).1
    obtain ⟨R1, hR1⟩ : ∃ R1, rs[i]? = some R1 := ⟨_, List.getElem?_eq_getElem (by omega)⟩
    obtain ⟨hend, B', s', h1, h2, h3⟩ := hr.next i R1 R hR1 hR
    have hf := hr.fine R1 (List.mem_of_getElem? hR1)
    have ih := runs_up G hr i R1 hR1 (R1.cnt - 1) (by have := hf.one; omega)
    obtain ⟨B, st, s, hB, hRO, -, -⟩ := run_of hr hR1
    have hV := chM_link G.m hB h1
    have hl := (invM_iff hV).mp h2
    have st1 := run_steps G h1 h3 j hj
    have hone := hf.one
    have hpar : par bs (k0 + i + 1, R.start, s') = some (k0 + i, R1.start + (R1.cnt - 1), R1.lastS) := by
      rw [h3.st]
      show (match bs[k0 + i + 1]?, bs[k0 + i]? with
        | some B, some A => (lk B.linked s').map fun t => (k0 + i, A.reps - 1, t)
        | _, _ => none) = _
      rw [h1, hB]
      show (lk B'.linked s').map _ = _
      rw [hl]
      have : B.reps - 1 = R1.start + (R1.cnt - 1) := by
        rw [← hRO.blk]
        omega
      rw [this]
      rfl
    exact up_trans (.snoc st1 hpar) ih
/-- the runs and the positions -/
theorem hold {bs : List BO} (G : Good bs) {p : Nat} {O : Nat × Nat × Nat} {rs : List RunP} (h : Orig bs p O) (hr : Runs bs O.1 O.2.1 O.2.2 rs) {k r o : Nat} {B : BO} (hB : bs[k]? = some B) (h1 : r < B.reps) (h2 : o < B.size) :
    symP (dAt bs) p (B.beg + (r * B.size + o)) = true ↔ InRuns O.1 rs (k, r, B.ids.getD o 0) := by
  rw [sym_iff G h hB h1 h2]
  refine ⟨fun hu => in_runs G hr (upC_of hu) rfl (node_ok G hB h1 h2), fun ⟨i, R, hRi, e1, e2, e3, e4⟩ => ?_⟩
  have := runs_up G hr.g i R hRi (r - R.start) (by
    have e2 : R.start ≤ r := e2
    have e3 : r < R.start + R.cnt := e3
    omega)
  have e1 : k = O.1 + i := e1
  have e2 : R.start ≤ r := e2
  have e4 : B.ids.getD o 0 = R.ch.getD ((r - R.start) % R.ch.length) 0 := e4
  rw [e1, e4]
  rw [show R.start + (r - R.start) = r by omega] at this
  exact this
/-- in the block of a run -/
theorem hold_in {bs : List BO} (G : Good bs) {p : Nat} {O : Nat × Nat × Nat} {rs : List RunP} (h : Orig bs p O) (hr : Runs bs O.1 O.2.1 O.2.2 rs) {i : Nat} {R : RunP} (hR : rs[i]? = some R) : ∃ B, bs[O.1 + i]? = some B ∧ R.B = B ∧ ∀ r o, r < B.reps → o < B.size →
    symP (dAt bs) p (B.beg + (r * B.size + o)) = decide (R.start ≤ r ∧ r < R.start + R.cnt ∧ B.ids.getD o 0 = R.ch.getD ((r - R.start) % R.ch.length) 0) := by
  obtain ⟨B, st, s, hB, hRO, -, -⟩ := run_of hr.g hR
  refine ⟨B, hB, hRO.blk, fun r o h1 h2 => ?_⟩
  have hh := hold G h hr hB h1 h2
  rw [Bool.eq_iff_iff, hh, decide_eq_true_iff]
  refine ⟨fun ⟨i', R', g1, g2, g3, g4, g5⟩ => ?_, fun ⟨g3, g4, g5⟩ => ⟨i, R, hR, rfl, g3, g4, g5⟩⟩
  have g2 : O.1 + i = O.1 + i' := g2
  rw [show i' = i by omega, hR] at g1
  cases g1
  exact ⟨g3, g4, g5⟩
/-- in a block without a run -/
theorem hold_out {bs : List BO} (G : Good bs) {p : Nat} {O : Nat × Nat × Nat} {rs : List RunP} (h : Orig bs p O) (hr : Runs bs O.1 O.2.1 O.2.2 rs) {k : Nat} {B : BO} (hB : bs[k]? = some B) (hk : k < O.1 ∨ O.1 + rs.length ≤ k) {q : Nat} (h1 : B.beg ≤ q) (h2 : q < B.fin) : symP (dAt bs) p q = false := by
  obtain ⟨g1, g2, g3⟩ := pos_split (chB_get G.b hB) h1 h2
  rw [g3]
  rw [Bool.eq_false_iff]
  intro hc
  obtain ⟨i, R, e0, e1, -⟩ := (hold G h hr hB g1 g2).mp hc
  have e1 : k = O.1 + i := e1
  have := (List.getElem?_eq_some_iff.mp e0).1
  omega
/-! ### counting within a run -/
theorem offs_plc (ids : List Nat) (s : Nat) : offs ids s = plc (fun o => decide (ids.getD o 0 = s)) ids.length := by
  unfold offs plc
  refine fmap_congr fun i _ => ?_
  by_cases h : ids.getD i 0 = s
  · rw [if_pos h, if_pos (decide_eq_true h)]
  · rw [if_neg h, if_neg (by simpa using h)]
def rG (R : RunP) (r o : Nat) : Bool := decide (R.start ≤ r ∧ r < R.start + R.cnt ∧ R.B.ids.getD o 0 = R.ch.getD ((r - R.start) % R.ch.length) 0)
theorem getD_some' {xs : List Nat} {i : Nat} (h : i < xs.length) : xs[i]? = some (xs.getD i 0) := by
  rw [List.getD_eq_getElem?_getD, List.getElem?_eq_getElem h]
  rfl
theorem counts_get {R : RunP} {j : Nat} (h : j < R.ch.length) : R.counts.getD j 0 = cnt (fun o => decide (R.B.ids.getD o 0 = R.ch.getD j 0)) R.B.ids.length := by
  unfold RunP.counts
  rw [List.getD_eq_getElem?_getD, List.getElem?_map, getD_some' h]
  show (offs R.B.ids (R.ch.getD j 0)).length = _
  rw [offs_plc, plc_len]
end HB
/-! counting over runs -/
namespace HB
theorem sumTo_take (xs : List Nat) : ∀ m, m ≤ xs.length → sumTo (fun j => xs.getD j 0) m = (xs.take m).sum
  | 0, _ => by
    rw [List.take_zero]
    rfl
  | m + 1, h => by
    rw [take_snoc (getD_some' h), List.sum_append, ← sumTo_take xs m (by omega)]
    show _ + xs.getD m 0 = _ + List.sum [xs.getD m 0]
    rw [List.sum_singleton]
theorem sumTo_rounds (xs : List Nat) (h0 : 0 < xs.length) : ∀ q, sumTo (fun j => xs.getD (j % xs.length) 0) (q * xs.length) = q * xs.sum
  | 0 => by
    rw [Nat.zero_mul, Nat.zero_mul]
    rfl
  | q + 1 => by
    rw [Nat.add_mul, Nat.one_mul, sumTo_add, sumTo_rounds xs h0 q, Nat.add_mul, Nat.one_mul]
    congr 1
    have : sumTo (fun i => xs.getD ((q * xs.length + i) % xs.length) 0) xs.length = sumTo (fun j => xs.getD j 0) xs.length := sumTo_congr fun i hi => by
      rw [Nat.mul_comm, Nat.mul_add_mod, Nat.mod_eq_of_lt hi]
    rw [this, sumTo_take _ _ (Nat.le_refl _), List.take_length]
theorem sumTo_occ (xs : List Nat) (h0 : 0 < xs.length) (n : Nat) : sumTo (fun j => xs.getD (j % xs.length) 0) n = n / xs.length * xs.sum + (xs.take (n % xs.length)).sum := by
  have hm := Nat.mod_lt n h0
  have he := Nat.div_add_mod n xs.length
  rw [Nat.mul_comm] at he
  conv => lhs; rw [← he]
  rw [sumTo_add, sumTo_rounds xs h0]
  congr 1
  rw [← sumTo_take xs _ (Nat.le_of_lt hm)]
  refine sumTo_congr fun i hi => ?_
  rw [Nat.mul_comm, Nat.mul_add_mod, Nat.mod_eq_of_lt (by omega)]
theorem occ_sum {R : RunP} (h : RunFine R) (n : Nat) : R.occ n = sumTo (fun j => R.counts.getD (j % R.ch.length) 0) n := by
  have hl : R.counts.length = R.ch.length := List.length_map ..
  have := sumTo_occ R.counts (by have := h.pos; omega) n
  rw [hl] at this
  rw [this]
  rfl
theorem rG_cnt {R : RunP} (h : RunFine R) (r : Nat) : cnt (rG R r) R.B.size = if R.start ≤ r ∧ r < R.start + R.cnt then R.counts.getD ((r - R.start) % R.ch.length) 0 else 0 := by
  have hm : (r - R.start) % R.ch.length < R.ch.length := Nat.mod_lt _ h.pos
  by_cases c : R.start ≤ r ∧ r < R.start + R.cnt
  · rw [if_pos c, counts_get hm, h.ok.idl]
    refine cntq_congr fun o ho => ?_
    unfold rG
    exact decide_eq_decide.mpr ⟨fun z => z.2.2, fun z => ⟨c.1, c.2, z⟩⟩
  · rw [if_neg c]
    exact cnt_none fun o ho => decide_eq_false fun z => c ⟨z.1, z.2.1⟩
theorem rS_low {R : RunP} (h : RunFine R) {r : Nat} (hr : r ≤ R.start) : sumTo (fun r => cnt (rG R r) R.B.size) r = 0 := sumTo_zero fun q hq => by
  rw [rG_cnt h, if_neg (by omega)]
theorem rS_mid {R : RunP} (h : RunFine R) {j : Nat} (hj : j ≤ R.cnt) : sumTo (fun r => cnt (rG R r) R.B.size) (R.start + j) = R.occ j := by
  rw [sumTo_add, rS_low h (Nat.le_refl _), Nat.zero_add, occ_sum h]
  refine sumTo_congr fun i hi => ?_
  rw [rG_cnt h, if_pos ⟨by omega, by omega⟩, Nat.add_sub_cancel_left]
theorem rS_high {R : RunP} (h : RunFine R) {r : Nat} (hr : R.start + R.cnt ≤ r) : sumTo (fun r => cnt (rG R r) R.B.size) r = R.occ R.cnt := by
  obtain ⟨k, rfl⟩ := Nat.le.dest hr
  rw [sumTo_add, rS_mid h (Nat.le_refl _)]
  have : sumTo (fun i => cnt (rG R (R.start + R.cnt + i)) R.B.size) k = 0 := sumTo_zero fun q hq => by
    rw [rG_cnt h, if_neg (by omega)]
  rw [this, Nat.add_zero]
theorem stp_spec : ∀ (cs : List Nat) (m : Nat), m < cs.sum → (stp cs m).1 < cs.length ∧ (stp cs m).2 < cs.getD (stp cs m).1 0 ∧ m = (cs.take (stp cs m).1).sum + (stp cs m).2
  | [], m, h => absurd h (Nat.not_lt_zero _)
  | c :: r, m, h => by
    rw [List.sum_cons] at h
    by_cases q : c ≤ m
    · have e : stp (c :: r) m = ((stp r (m - c)).1 + 1, (stp r (m - c)).2) := if_pos q
      obtain ⟨h1, h2, h3⟩ := stp_spec r (m - c) (by omega)
      rw [e]
      refine ⟨Nat.succ_lt_succ h1, h2, ?_⟩
      show m = ((c :: r).take ((stp r (m - c)).1 + 1)).sum + (stp r (m - c)).2
      rw [List.take_succ_cons, List.sum_cons]
      omega
    · have e : stp (c :: r) m = (0, m) := if_neg q
      rw [e]
      exact ⟨Nat.succ_pos _, by show m < c; omega, by show m = 0 + m; omega⟩
/-- a run's own count, by its block -/
structure RunIn (P : Nat → Bool) (R : RunP) : Prop where
  fine : RunFine R
  fit : R.start + R.cnt ≤ R.B.reps
  g : ∀ r o, r < R.B.reps → o < R.B.size → P (R.B.beg + (r * R.B.size + o)) = rG R r o
theorem runIn_all {P : Nat → Bool} {R : RunP} (h : RunIn P R) : cnt P R.B.fin = cnt P R.B.beg + R.occ R.cnt := by
  have hO := h.fine.ok
  have hb := blk_cnt hO h.g (Nat.le_refl _)
  rw [Nat.mul_div_cancel_left _ hO.pos, Nat.mul_mod_right, rS_high h.fine h.fit] at hb
  exact hb
theorem runIn_at {P : Nat → Bool} {R : RunP} (h : RunIn P R) {r o : Nat} (hr : r < R.B.reps) (ho : o < R.B.size) : cnt P (R.B.beg + (r * R.B.size + o)) = cnt P R.B.beg + (sumTo (fun r => cnt (rG R r) R.B.size) r + cnt (rG R r) o) := by
  have hi := in_blk (B := R.B) hr ho
  have hf : R.B.fin = R.B.beg + R.B.size * R.B.reps := rfl
  have hb := blk_cnt h.fine.ok h.g (x := r * R.B.size + o) (by omega)
  obtain ⟨d1, d2⟩ := pos_div (r := r) ho
  rw [d1, d2] at hb
  exact hb
theorem runIn_bef {P : Nat → Bool} {R : RunP} (h : RunIn P R) {p : Nat} (h1 : R.B.beg ≤ p) (h2 : p < R.B.fin) (hP : P p = true) : R.start ≤ (p - R.B.beg) / R.B.size ∧ cnt P p = cnt P R.B.beg + runBef R p := by
  obtain ⟨g1, g2, g3⟩ := pos_split h.fine.ok h1 h2
  have hh := h.g _ _ g1 g2
  rw [← g3, hP] at hh
  have hc := of_decide_eq_true hh.symm
  have ha := runIn_at h g1 g2
  rw [← g3] at ha
  refine ⟨hc.1, ?_⟩
  rw [ha]
  congr 1
  unfold runBef
  rw [if_neg (by omega), if_pos h1]
  generalize (p - R.B.beg) / R.B.size = r at *
  generalize (p - R.B.beg) % R.B.size = o at *
  have hm := rS_mid h.fine (j := r - R.start) (by omega)
  rw [show R.start + (r - R.start) = r by omega] at hm
  rw [hm]
  congr 1
  rw [offs_plc, plc_below, h.fine.ok.idl, Nat.min_eq_left (by omega)]
  refine cntq_congr fun q hq => ?_
  unfold rG
  exact decide_eq_decide.mpr ⟨fun z => z.2.2, fun z => ⟨hc.1, hc.2.1, z⟩⟩
theorem runIn_nth {P : Nat → Bool} {R : RunP} (h : RunIn P R) {n : Nat} (hn : n < R.occ R.cnt) : R.posn n < R.B.fin ∧ P (R.posn n) = true ∧ cnt P (R.posn n) = cnt P R.B.beg + n := by
  have hs := occ_pos hn
  have hp := h.fine.pos
  have hl : R.counts.length = R.ch.length := List.length_map ..
  have hlt := Nat.mod_lt n hs
  obtain ⟨s1, s2, s3⟩ := stp_spec R.counts _ hlt
  have hdm := Nat.div_add_mod n R.counts.sum
  unfold RunP.posn
  generalize hq : n / R.counts.sum = q at *
  generalize (stp R.counts (n % R.counts.sum)).1 = st at *
  generalize (stp R.counts (n % R.counts.sum)).2 = x at *
  rw [hl] at s1
  obtain ⟨d1, d2⟩ := pos_div (r := q) s1
  have ho : R.occ (q * R.ch.length + st) + x = n := by
    unfold RunP.occ
    rw [d1, d2]
    rw [Nat.mul_comm] at hdm
    omega
  have hj : q * R.ch.length + st < R.cnt := by
    rcases Nat.lt_or_ge (q * R.ch.length + st) R.cnt with c | c
    · exact c
    · have : R.occ R.cnt ≤ R.occ (q * R.ch.length + st) := by
        rw [occ_sum h.fine, occ_sum h.fine]
        exact sumTo_mono c
      omega
  rw [counts_get s1, ← plc_len, ← offs_plc] at s2
  have s2' := s2
  rw [offs_plc] at s2'
  obtain ⟨g1, g2, g3⟩ := plc_at s2'
  rw [← offs_plc] at g1 g2 g3
  rw [h.fine.ok.idl] at g2
  generalize hoo : (offs R.B.ids (R.ch.getD st 0)).getD x 0 = o at *
  have hfit := h.fit
  have hr : R.start + (q * R.ch.length + st) < R.B.reps := by omega
  have hi := in_blk (B := R.B) hr g2
  rw [← Nat.add_assoc R.start] at hi
  have e : R.B.beg + (R.start + q * R.ch.length + st) * R.B.size + o = R.B.beg + ((R.start + (q * R.ch.length + st)) * R.B.size + o) := by
    rw [Nat.add_assoc R.start, Nat.add_assoc]
  rw [e]
  refine ⟨by rw [Nat.add_assoc R.start] at hi; exact hi, ?_, ?_⟩
  · rw [h.g _ _ hr g2]
    refine decide_eq_true ⟨by omega, by omega, ?_⟩
    rw [Nat.add_sub_cancel_left, d2]
    exact of_decide_eq_true g1
  · rw [runIn_at h hr g2, rS_mid h.fine (Nat.le_of_lt hj)]
    have : cnt (rG R (R.start + (q * R.ch.length + st))) o = x := by
      rw [← g3]
      refine cntq_congr fun z hz => ?_
      unfold rG
      rw [Nat.add_sub_cancel_left, d2]
      exact decide_eq_decide.mpr ⟨fun w => w.2.2, fun w => ⟨by omega, by omega, w⟩⟩
    rw [this, ho]
end HB
/-! occurrences: the plain laws -/
namespace HB
section
variable {bs : List BO} (G : Good bs) {p : Nat} {O : Nat × Nat × Nat} {rs : List RunP} (h : Orig bs p O) (hr : Runs bs O.1 O.2.1 O.2.2 rs)
include G h hr
theorem run_in {i : Nat} {R : RunP} (hR : rs[i]? = some R) : RunIn (symP (dAt bs) p) R := by
  have hf := hr.g.fine R (List.mem_of_getElem? hR)
  obtain ⟨B, st, s, hB, ⟨h1, h2, cyc, hC, hc⟩, -, -⟩ := run_of hr.g hR
  obtain ⟨B', hB', h3, h4⟩ := hold_in G h hr hR
  have h1' := hf.one
  refine ⟨hf, ?_, fun r o hr' ho => ?_⟩
  · rw [h1, h2]
    cases cyc with
    | true =>
      rw [if_pos rfl] at hc
      omega
    | false =>
      rw [if_neg (by decide)] at hc
      omega
  · rw [h3] at hr' ho ⊢
    rw [h4 r o hr' ho]
    unfold rG
    rw [h3]
theorem run_blk {i : Nat} {R : RunP} (hR : rs[i]? = some R) : bs[O.1 + i]? = some R.B := by
  obtain ⟨B', hB', h3, -⟩ := hold_in G h hr hR
  rw [h3]
  exact hB'
theorem cont_drop : ∀ (n i : Nat), rs.length - i = n → ∀ b, (∀ R, rs[i]? = some R → R.B.beg = b) → Cont (symP (dAt bs) p) (fun R : RunP => R.B.beg) (fun R => R.B.fin) (fun R => R.occ R.cnt) (rs.drop i) b
  | 0, i, hn, b, _ => by
    rw [List.drop_of_length_le (by omega)]
    exact True.intro
  | n + 1, i, hn, b, hb => by
    have hi : i < rs.length := by omega
    have hR : rs[i]? = some rs[i] := List.getElem?_eq_getElem hi
    rw [List.drop_eq_getElem_cons hi]
    have hin := run_in G h hr hR
    refine ⟨hb _ hR, Nat.le_of_lt hin.fine.ok.fin_gt, runIn_all hin, cont_drop n (i + 1) (by omega) _ fun R' hR' => ?_⟩
    exact chB_next G.b (run_blk G h hr hR) (by rw [Nat.add_assoc]; exact run_blk G h hr hR')
theorem cont_rs {R0 : RunP} (h0 : rs[0]? = some R0) : Cont (symP (dAt bs) p) (fun R : RunP => R.B.beg) (fun R => R.B.fin) (fun R => R.occ R.cnt) rs R0.B.beg := by
  have := cont_drop G h hr rs.length 0 rfl R0.B.beg fun R hR => by
    rw [h0] at hR
    cases hR
    rfl
  rwa [List.drop_zero] at this
/-- before and behind the runs there is nothing -/
theorem out_runs {q : Nat} (hq : q < tot bs) : symP (dAt bs) p q = true → ∃ (i : Nat) (R : RunP), rs[i]? = some R ∧ R.B.beg ≤ q ∧ q < R.B.fin := fun hP => by
  obtain ⟨k, B, hB, b1, b2, -⟩ := node_at G hq
  rcases Nat.lt_or_ge k O.1 with c | c
  · rw [hold_out G h hr hB (.inl c) b1 b2] at hP
    cases hP
  · rcases Nat.lt_or_ge k (O.1 + rs.length) with d | d
    · have hR : rs[k - O.1]? = some (rs[k - O.1]'(by omega)) := List.getElem?_eq_getElem _
      have hk := run_blk G h hr hR
      rw [show O.1 + (k - O.1) = k by omega, hB] at hk
      have e := Option.some.inj hk
      exact ⟨k - O.1, _, hR, by rw [← e]; exact b1, by rw [← e]; exact b2⟩
    · rw [hold_out G h hr hB (.inr d) b1 b2] at hP
      cases hP
theorem mono_beg : ∀ {i j : Nat} {A B : BO}, i ≤ j → bs[i]? = some A → bs[j]? = some B → A.beg ≤ B.beg ∧ A.fin ≤ B.fin := by
  intro i j A B hij hA hB
  induction j generalizing B with
  | zero =>
    rw [show i = 0 by omega, hB] at hA
    cases hA
    exact ⟨Nat.le_refl _, Nat.le_refl _⟩
  | succ j ih =>
    rcases Nat.lt_or_ge j i with c | c
    · rw [show i = j + 1 by omega, hB] at hA
      cases hA
      exact ⟨Nat.le_refl _, Nat.le_refl _⟩
    · have hj : j < bs.length := by
        have := (List.getElem?_eq_some_iff.mp hB).1
        omega
      have hC : bs[j]? = some bs[j] := List.getElem?_eq_getElem hj
      have := ih c hC
      have hn := chB_next G.b hC hB
      have h1 := (chB_get G.b hC).fin_gt
      have h2 := (chB_get G.b hB).fin_gt
      omega
theorem ends : ∃ R0 RL, rs[0]? = some R0 ∧ rs.getLast? = some RL ∧ cnt (symP (dAt bs) p) R0.B.beg = 0 ∧ endC (fun R : RunP => R.B.fin) rs R0.B.beg = RL.B.fin ∧ RL.B.fin ≤ tot bs ∧ cnt (symP (dAt bs) p) (tot bs) = cnt (symP (dAt bs) p) RL.B.fin ∧
    (∀ (i : Nat) R, rs[i]? = some R → R0.B.beg ≤ R.B.beg ∧ R.B.fin ≤ RL.B.fin) := by
  have hp := hr.g.pos
  obtain ⟨R0, h0⟩ : ∃ R0, rs[0]? = some R0 := ⟨_, List.getElem?_eq_getElem (by omega)⟩
  obtain ⟨RL, hL'⟩ : ∃ RL, rs[rs.length - 1]? = some RL := ⟨_, List.getElem?_eq_getElem (by omega)⟩
  have hL : rs.getLast? = some RL := by rw [List.getLast?_eq_getElem?]; exact hL'
  have hb0 := run_blk G h hr h0
  have hbL := run_blk G h hr hL'
  have hm : ∀ (i : Nat) R, rs[i]? = some R → R0.B.beg ≤ R.B.beg ∧ R.B.fin ≤ RL.B.fin := fun i R hR => by
    have hb := run_blk G h hr hR
    have hi := (List.getElem?_eq_some_iff.mp hR).1
    exact ⟨(mono_beg G h hr (by omega) hb0 hb).1, (mono_beg G h hr (by omega) hb hbL).2⟩
  have hLt := (at_blk G.b hbL).1
  refine ⟨R0, RL, h0, hL, ?_, ?_, hLt, ?_, hm⟩
  · refine cnt_none fun q hq => ?_
    rw [Bool.eq_false_iff]
    intro hP
    have hF := (at_blk G.b hb0).1
    have hg := (chB_get G.b hb0).fin_gt
    obtain ⟨i, R, hR, h1, h2⟩ := out_runs G h hr (q := q) (by omega) hP
    have := (hm i R hR).1
    omega
  · unfold endC
    rw [hL]
  · obtain ⟨k, hk⟩ := Nat.le.dest hLt
    rw [← hk, cnt_add]
    have : cnt (fun i => symP (dAt bs) p (RL.B.fin + i)) k = 0 := cnt_none fun q hq => by
      rw [Bool.eq_false_iff]
      intro hP
      obtain ⟨i, R, hR, h1, h2⟩ := out_runs G h hr (q := RL.B.fin + q) (by omega) hP
      have := (hm i R hR).2
      omega
    rw [this, Nat.add_zero]
theorem all_plain' : nall rs = cnt (symP (dAt bs) p) (tot bs) := by
  obtain ⟨R0, RL, h0, hL, e1, e2, e3, e4, e5⟩ := ends G h hr
  have := cont_sum _ _ _ _ rs _ (cont_rs G h hr h0)
  rw [e2, e1, Nat.zero_add] at this
  rw [e4, this]
  rfl
theorem nthR_C : ∀ (rs : List RunP) (n : Nat), nthR rs n = nthC (fun R : RunP => R.occ R.cnt) RunP.posn rs n
  | [], _ => rfl
  | R :: r, n => by
    show (if n < R.occ R.cnt then some (R.posn n) else nthR r (n - R.occ R.cnt)) = if n < R.occ R.cnt then some (R.posn n) else nthC _ _ r _
    rw [nthR_C r]
theorem nth_plain' (n : Nat) : NthP (symP (dAt bs) p) (tot bs) n (nthR rs n) := by
  obtain ⟨R0, RL, h0, hL, e1, e2, e3, e4, e5⟩ := ends G h hr
  have := cont_nth _ _ _ _ RunP.posn rs _ n (cont_rs G h hr h0) fun R hR m hm => by
    obtain ⟨i, hi⟩ := List.getElem?_of_mem hR
    exact runIn_nth (run_in G h hr hi) hm
  rw [e2, e1, Nat.zero_add] at this
  rw [nthR_C G h hr]
  cases hx : nthC (fun R : RunP => R.occ R.cnt) RunP.posn rs n with
  | none =>
    rw [hx] at this
    show cnt _ (tot bs) ≤ n
    rw [e4]
    exact this
  | some q =>
    rw [hx] at this
    exact ⟨by have := this.1; omega, this.2⟩
theorem start_plain' : ∀ R ∈ rs, R.B.beg ≤ p → p < R.B.fin → R.start ≤ (p - R.B.beg) / R.B.size := fun R hR h1 h2 => by
  obtain ⟨i, hi⟩ := List.getElem?_of_mem hR
  exact (runIn_bef (run_in G h hr hi) h1 h2 (decide_eq_true rfl)).1
theorem before_plain' (hp : p < tot bs) : nbf rs p = cnt (symP (dAt bs) p) p := by
  obtain ⟨R0, RL, h0, hL, e1, e2, e3, e4, e5⟩ := ends G h hr
  obtain ⟨j, RJ, hJ, j1, j2⟩ := out_runs G h hr hp (decide_eq_true rfl)
  have hj := e5 j RJ hJ
  have := cont_part _ _ _ _ (g := fun R => runBef R p) (p := p) rs _ (cont_rs G h hr h0) (by omega) (by rw [e2]; omega) fun R hR => by
    obtain ⟨i, hi⟩ := List.getElem?_of_mem hR
    have hin := run_in G h hr hi
    have hg := hin.fine.ok.fin_gt
    refine ⟨fun a => by unfold runBef; rw [if_pos a], fun a => by unfold runBef; rw [if_neg (by omega), if_neg (by omega)], fun a b => (runIn_bef hin a b (decide_eq_true rfl)).2⟩
  rw [e1, Nat.zero_add] at this
  rw [this]
  rfl
end
theorem same_plain {s : List Blk} (hv : VS s) {p q : Nat} {O O' : Nat × Nat × Nat} (hp : p < tot (boS s)) (hq : q < tot (boS s)) (h : Orig (boS s) p O) (h' : Orig (boS s) q O') : O = O' ↔ root (dAt (boS s)) p = root (dAt (boS s)) q := same_plain' (good_boS hv) h h'
theorem start_plain {s : List Blk} (hv : VS s) {p : Nat} {O : Nat × Nat × Nat} {rs : List RunP} (hp : p < tot (boS s)) (h : Orig (boS s) p O) (hr : Runs (boS s) O.1 O.2.1 O.2.2 rs) : ∀ R ∈ rs, R.B.beg ≤ p → p < R.B.fin → R.start ≤ (p - R.B.beg) / R.B.size := start_plain' (good_boS hv) h hr
theorem before_plain {s : List Blk} (hv : VS s) {p : Nat} {O : Nat × Nat × Nat} {rs : List RunP} (hp : p < tot (boS s)) (h : Orig (boS s) p O) (hr : Runs (boS s) O.1 O.2.1 O.2.2 rs) : nbf rs p = cnt (symP (dAt (boS s)) p) p := before_plain' (good_boS hv) h hr hp
theorem all_plain {s : List Blk} (hv : VS s) {p : Nat} {O : Nat × Nat × Nat} {rs : List RunP} (hp : p < tot (boS s)) (h : Orig (boS s) p O) (hr : Runs (boS s) O.1 O.2.1 O.2.2 rs) : nall rs = cnt (symP (dAt (boS s)) p) (tot (boS s)) := all_plain' (good_boS hv) h hr
theorem nth_plain {s : List Blk} (hv : VS s) {p : Nat} {O : Nat × Nat × Nat} {rs : List RunP} (hp : p < tot (boS s)) (h : Orig (boS s) p O) (hr : Runs (boS s) O.1 O.2.1 O.2.2 rs) (n : Nat) : NthP (symP (dAt (boS s)) p) (tot (boS s)) n (nthR rs n) := nth_plain' (good_boS hv) h hr n
theorem new_plain {s : List Blk} (hv : VS s) {p : Nat} (hp : p ≤ tot (boS s)) : ((boS s).map fun B => B.zb p).sum = cnt (fun q => decide (dAt (boS s) q = 0)) p := new_plain' (good_boS hv).b hp
theorem nthNew_plain {s : List Blk} (hv : VS s) (n : Nat) : NthP (fun q => decide (dAt (boS s) q = 0)) (tot (boS s)) n (nthNew (boS s) n) := nthNew_plain' (good_boS hv).b n
end HB
/-! where the distances lead -/
namespace HB
theorem lastI_mem' {l : List Nat} {i x : Nat} (h : l[i]? = some x) {n : Nat} (hn : i < n) : ∃ j, lastI (l.take n) x = some j ∧ i ≤ j := by
  induction n with
  | zero => omega
  | succ n ih =>
    rcases Nat.lt_or_ge n l.length with c | c
    · have hg : l[n]? = some l[n] := List.getElem?_eq_getElem c
      rw [take_snoc hg, lastI_snoc]
      by_cases e : l[n] = x
      · rw [if_pos e]
        exact ⟨_, rfl, by rw [List.length_take]; omega⟩
      · rw [if_neg e]
        rcases Nat.lt_or_ge i n with d | d
        · exact ih d
        · rw [show i = n by omega, hg] at h
          cases h
          exact absurd rfl e
    · have hi := (List.getElem?_eq_some_iff.mp h).1
      rw [List.take_of_length_le (by omega)]
      have := ih (by omega)
      rw [List.take_of_length_le (by omega)] at this
      exact this
/-- from a first offset of a repetition to the last offset of the one before -/
theorem tgt {bs : List BO} (G : Good bs) {k r o : Nat} {B : BO} (hB : bs[k]? = some B) (hr : r < B.reps) (ho : o < B.size) (hD : 0 < dAt bs (B.beg + (r * B.size + o))) :
    (0 < B.base.getD o 0 ∧ dAt bs (B.beg + (r * B.size + o)) = B.base.getD o 0) ∨
    (B.base.getD o 0 = 0 ∧ ∃ k' r' t B' j, bs[k']? = some B' ∧ par bs (k, r, B.ids.getD o 0) = some (k', r', t) ∧ r' < B'.reps ∧ j < B'.size ∧ lastI B'.ids t = some j ∧ B.beg + (r * B.size + o) - dAt bs (B.beg + (r * B.size + o)) = B'.beg + (r' * B'.size + j)) := by
  have hK := chB_get G.b hB
  have hv := G.d k B hB
  have hbl : o < B.base.length := by rw [hK.base]; exact ho
  have hd : dAt bs (B.beg + (r * B.size + o)) = (if r = 0 then B.first else B.later).getD o 0 := by
    rw [(at_blk G.b hB).2 _ (by omega) (in_blk hr ho), dist_at ho]
  generalize hp : B.beg + (r * B.size + o) = p at *
  by_cases z : B.base.getD o 0 = 0
  · refine .inr ⟨z, ?_⟩
    cases r with
    | succ r =>
      rw [if_neg (by omega), chX_later G.x hB, ext_get hbl, if_pos z] at hd
      cases hl : lk B.turned (B.ids.getD o 0) with
      | none =>
        rw [hl] at hd
        have hd : dAt bs p = 0 := hd
        omega
      | some t =>
        have hpar : par bs (k, r + 1, B.ids.getD o 0) = some (k, r, t) := by
          show (match bs[k]? with
            | some B' => (lk B'.turned (B.ids.getD o 0)).map fun t => (k, r, t)
            | none => none) = _
          rw [hB]
          show (lk B.turned _).map _ = _
          rw [hl]
          rfl
        have htn : t < nz B.base := ((chM_turn G.m hB).1.lt _ (lk_mem hl)).2
        obtain ⟨j, hj⟩ := lastI_some (ids_has htn)
        obtain ⟨j1, j2⟩ := lastI_lt hj
        rw [← hK.ids] at hj j1 j2
        rw [hK.idl] at j1
        rw [hl] at hd
        have hd : dAt bs p = o + B.size - j := by
          rw [hd]
          show o + B.size - (lastI B.ids t).getD 0 = _
          rw [hj]
          rfl
        refine ⟨k, r, t, B, j, hB, hpar, by omega, j1, hj, ?_⟩
        rw [hd, ← hp, Nat.add_mul, Nat.one_mul]
        omega
    | zero =>
      rw [if_pos rfl] at hd
      cases k with
      | zero =>
        rw [chX_first0 G.x hB, z] at hd
        omega
      | succ k =>
        have hkl : k < bs.length := by
          have := (List.getElem?_eq_some_iff.mp hB).1
          omega
        have hA : bs[k]? = some bs[k] := List.getElem?_eq_getElem hkl
        generalize bs[k] = A at hA
        have hKA := chB_get G.b hA
        have hAn := chB_next G.b hA hB
        rw [chX_first G.x hA hB, ext_get hbl, if_pos z] at hd
        cases hl : lk B.linked (B.ids.getD o 0) with
        | none =>
          rw [hl] at hd
          have hd : dAt bs p = 0 := hd
          omega
        | some t =>
          have hpar : par bs (k + 1, 0, B.ids.getD o 0) = some (k, A.reps - 1, t) := by
            show (match bs[k + 1]?, bs[k]? with
              | some B', some A => (lk B'.linked (B.ids.getD o 0)).map fun t => (k, A.reps - 1, t)
              | _, _ => none) = _
            rw [hB, hA]
            show (lk B.linked _).map _ = _
            rw [hl]
            rfl
          have htn : t < nz A.base := ((chM_link G.m hA hB).lt _ (lk_mem hl)).2
          obtain ⟨j, hj⟩ := lastI_some (ids_has htn)
          obtain ⟨j1, j2⟩ := lastI_lt hj
          rw [← hKA.ids] at hj j1 j2
          rw [hKA.idl] at j1
          rw [hl] at hd
          have hd : dAt bs p = o + A.size - j := by
            rw [hd]
            show o + A.size - (lastI A.ids t).getD 0 = _
            rw [hj]
            rfl
          have hAf : A.fin = A.beg + A.size * A.reps := rfl
          obtain ⟨m, hm⟩ : ∃ m, A.reps = m + 1 := ⟨A.reps - 1, by have := hKA.one; omega⟩
          rw [hm, Nat.mul_add, Nat.mul_one] at hAf
          have hmul : A.size * m = m * A.size := Nat.mul_comm _ _
          rw [Nat.zero_mul, Nat.zero_add] at hp
          refine ⟨k, A.reps - 1, t, A, j, hA, hpar, by omega, j1, hj, ?_⟩
          rw [hd, ← hp, hm, Nat.add_sub_cancel]
          omega
  · refine .inl ⟨by omega, ?_⟩
    rw [hd]
    by_cases c : r = 0
    · rw [if_pos c]
      cases k with
      | zero => rw [chX_first0 G.x hB]
      | succ k =>
        have hkl : k < bs.length := by
          have := (List.getElem?_eq_some_iff.mp hB).1
          omega
        have hA : bs[k]? = some bs[k] := List.getElem?_eq_getElem hkl
        rw [chX_first G.x hA hB, ext_get hbl, if_neg z]
    · rw [if_neg c, chX_later G.x hB, ext_get hbl, if_neg z]
theorem coord {bs : List BO} (G : Good bs) {k r o k' r' o' : Nat} {B B' : BO} (hB : bs[k]? = some B) (hr : r < B.reps) (ho : o < B.size) (hB' : bs[k']? = some B') (hr' : r' < B'.reps) (ho' : o' < B'.size) (e : B.beg + (r * B.size + o) = B'.beg + (r' * B'.size + o')) : k = k' ∧ r = r' ∧ o = o' := by
  have h1 := in_blk (B := B) hr ho
  have h2 := in_blk (B := B') hr' ho'
  have hp : B.beg + (r * B.size + o) < tot bs := Nat.lt_of_lt_of_le h1 (at_blk G.b hB).1
  obtain ⟨j, A, q1, q2, q3, q4, q5⟩ := at_chB bs 0 G.b _ (Nat.zero_le _) (by rw [← tot_next]; exact hp)
  have e1 := (q5 k B hB).mp ⟨by omega, h1⟩
  have e2 := (q5 k' B' hB').mp ⟨by omega, by omega⟩
  subst e1
  subst e2
  rw [hB] at hB'
  cases hB'
  have e3 : r * B.size + o = r' * B.size + o' := by omega
  obtain ⟨d1, d2⟩ := pos_div (r := r) ho
  obtain ⟨d3, d4⟩ := pos_div (r := r') ho'
  rw [e3] at d1 d2
  exact ⟨rfl, by rw [← d1, d3], by rw [← d2, d4]⟩
theorem par_inj {bs : List BO} (G : Good bs) {n n' m : Nat × Nat × Nat} (h : par bs n = some m) (h' : par bs n' = some m) (hn : NodeOk bs n.1 n.2.1 n.2.2) (hn' : NodeOk bs n'.1 n'.2.1 n'.2.2) : n = n' := by
  obtain ⟨k, r, s⟩ := n
  obtain ⟨k', r', s'⟩ := n'
  have zz : ∀ s, par bs (0, 0, s) = none := fun _ => rfl
  cases r with
  | succ r =>
    obtain ⟨B, t, b1, b2, b3⟩ := par_inv1 h
    cases r' with
    | succ r' =>
      obtain ⟨B', t', c1, c2, c3⟩ := par_inv1 h'
      rw [b3] at c3
      cases c3
      rw [b1] at c1
      cases c1
      rw [lk_inj (chM_turn G.m b1).1 _ _ _ b2 c2]
    | zero =>
      cases k' with
      | zero => rw [zz] at h'; cases h'
      | succ k' =>
        obtain ⟨B', A, t', c1, c2, c3, c4⟩ := par_inv2 h'
        rw [b3] at c4
        obtain ⟨e1, e2, e3⟩ : k = k' ∧ r = A.reps - 1 ∧ t = t' := by
          cases c4
          exact ⟨rfl, rfl, rfl⟩
        subst e1
        obtain ⟨B2, d1, d2, d3⟩ := hn
        rw [c2] at d1
        cases d1
        have d2 : r + 1 < A.reps := d2
        omega
  | zero =>
    cases k with
    | zero => rw [zz] at h; cases h
    | succ k =>
      obtain ⟨B, A, t, b1, b2, b3, b4⟩ := par_inv2 h
      cases r' with
      | succ r' =>
        obtain ⟨B', t', c1, c2, c3⟩ := par_inv1 h'
        rw [b4] at c3
        obtain ⟨e1, e2, e3⟩ : k = k' ∧ A.reps - 1 = r' ∧ t = t' := by
          cases c3
          exact ⟨rfl, rfl, rfl⟩
        subst e1
        obtain ⟨B2, d1, d2, d3⟩ := hn'
        rw [b2] at d1
        cases d1
        have d2 : r' + 1 < A.reps := d2
        omega
      | zero =>
        cases k' with
        | zero => rw [zz] at h'; cases h'
        | succ k' =>
          obtain ⟨B', A', t', c1, c2, c3, c4⟩ := par_inv2 h'
          rw [b4] at c4
          obtain ⟨e1, e3⟩ : k = k' ∧ t = t' := ⟨congrArg Prod.fst c4, congrArg (fun x => x.2.2) c4⟩
          subst e1
          subst e3
          rw [b1] at c1
          cases c1
          rw [lk_inj (chM_link G.m b2 b1) _ _ _ b3 c3]
theorem zero_uniq {xs : List Nat} (hv : ValidD xs) {i j : Nat} (hi : xs[i]? = some 0) (hj : xs[j]? = some 0) (e : (ids xs).getD i 0 = (ids xs).getD j 0) : i = j := by
  rcases Nat.lt_trichotomy i j with c | c | c
  · have := ids_zero hv hj i c
    omega
  · exact c
  · have := ids_zero hv hi j c
    omega
theorem d_inj {bs : List BO} (G : Good bs) {p q : Nat} (hp : p < tot bs) (hq : q < tot bs) (h1 : 0 < dAt bs p) (h2 : 0 < dAt bs q) (e : p - dAt bs p = q - dAt bs q) : p = q := by
  obtain ⟨k, B, hB, b1, b2, -⟩ := node_at G hp
  obtain ⟨k', C, hC, c1, c2, -⟩ := node_at G hq
  have hK := chB_get G.b hB
  have hK' := chB_get G.b hC
  have hv := G.d k B hB
  have hv' := G.d k' C hC
  obtain ⟨r1, o1, e1⟩ := pos_split hK b1 b2
  obtain ⟨r2, o2, e2⟩ := pos_split hK' c1 c2
  generalize (p - B.beg) / B.size = r at *
  generalize (p - B.beg) % B.size = o at *
  generalize (q - C.beg) / C.size = r' at *
  generalize (q - C.beg) % C.size = o' at *
  have go : B.base[o]? = some (B.base.getD o 0) := getD_some' (by rw [hK.base]; exact o1)
  have go' : C.base[o']? = some (C.base.getD o' 0) := getD_some' (by rw [hK'.base]; exact o2)
  have t1 := tgt G hB r1 o1 (by rw [← e1]; exact h1)
  have t2 := tgt G hC r2 o2 (by rw [← e2]; exact h2)
  rw [← e1] at t1
  rw [← e2] at t2
  have mixed : ∀ {k r o : Nat} {B : BO} {k' r' t : Nat} {B' : BO} {j : Nat}, bs[k]? = some B → r < B.reps → o < B.size → 0 < B.base.getD o 0 → bs[k']? = some B' → r' < B'.reps → j < B'.size → lastI B'.ids t = some j → B.beg + (r * B.size + o) - B.base.getD o 0 = B'.beg + (r' * B'.size + j) → False := by
    intro k r o B k' r' t B' j hB hr ho hb hB' hr' hj hl he
    have hK := chB_get G.b hB
    have hv := G.d k B hB
    have go : B.base[o]? = some (B.base.getD o 0) := getD_some' (by rw [hK.base]; exact ho)
    have hle := hv.le o _ go
    obtain ⟨x1, x2, x3⟩ := coord G hB hr (show o - B.base.getD o 0 < B.size by omega) hB' hr' hj (by omega)
    subst x1
    rw [hB] at hB'
    cases hB'
    have hi := ids_pos hv go hb
    rw [x3, ← hK.ids] at hi
    obtain ⟨l1, l2⟩ := lastI_lt hl
    have hjt : B.ids.getD j 0 = t := by
      rw [List.getD_eq_getElem?_getD, l2]
      rfl
    have hot : B.ids[o]? = some t := by
      rw [getD_some' (show o < B.ids.length by rw [hK.idl]; exact ho), hi, hjt]
    obtain ⟨z, z1, z2⟩ := lastI_mem' hot (show o < B.ids.length by rw [hK.idl]; exact ho)
    rw [List.take_length, hl] at z1
    cases z1
    omega
  rcases t1 with ⟨a1, a2⟩ | ⟨a1, k1, s1, t1, B1, j1, a2, a3, a4, a5, a6, a7⟩
  · rcases t2 with ⟨d1, d2⟩ | ⟨d1, k2, s2, t2, B2, j2, d2, d3, d4, d5, d6, d7⟩
    · have l1 := hv.le o _ go
      have l2 := hv'.le o' _ go'
      rw [a2, d2] at e
      obtain ⟨x1, x2, x3⟩ := coord G hB r1 (show o - B.base.getD o 0 < B.size by omega) hC r2 (show o' - C.base.getD o' 0 < C.size by omega) (by omega)
      subst x1
      rw [hB] at hC
      cases hC
      have := hv.inj o o' _ _ go go' a1 d1 x3
      rw [e1, e2, x2, this]
    · exfalso
      rw [a2] at e
      exact mixed hB r1 o1 a1 d2 d4 d5 d6 (by rw [← e1, e]; exact d7)
  · rcases t2 with ⟨d1, d2⟩ | ⟨d1, k2, s2, t2, B2, j2, d2, d3, d4, d5, d6, d7⟩
    · exfalso
      rw [d2] at e
      exact mixed hC r2 o2 d1 a2 a4 a5 a6 (by rw [← e2, ← e]; exact a7)
    · rw [a7, d7] at e
      obtain ⟨x1, x2, x3⟩ := coord G a2 a4 a5 d2 d4 d5 e
      subst x1
      subst x2
      subst x3
      rw [a2] at d2
      cases d2
      have g1 := (lastI_lt a6).2
      have g2 := (lastI_lt d6).2
      rw [g1] at g2
      cases g2
      have hn := par_inj G a3 d3 (node_ok G hB r1 o1) (node_ok G hC r2 o2)
      obtain ⟨y1, y2, y3⟩ : k = k' ∧ r = r' ∧ B.ids.getD o 0 = C.ids.getD o' 0 := by
        refine ⟨congrArg Prod.fst hn, congrArg (fun x => x.2.1) hn, congrArg (fun x => x.2.2) hn⟩
      subst y1
      rw [hB] at hC
      cases hC
      rw [a1] at go
      rw [d1] at go'
      rw [hK.ids] at y3
      have := zero_uniq hv go go' y3
      rw [e1, e2, y2, this]
theorem win_valid {s : List Blk} (hV : VS s) {p n : Nat} (h : p + n ≤ tot (boS s)) : ValidD (win (dAt (boS s)) p n) where
  le := fun i d hd => by
    have hi := (List.getElem?_eq_some_iff.mp hd).1
    rw [win_len] at hi
    rw [win_get hi] at hd
    have hd := Option.some.inj hd
    rw [← hd]
    split <;> omega
  inj := fun i j d e hi hj hd he heq => by
    have li := (List.getElem?_eq_some_iff.mp hi).1
    have lj := (List.getElem?_eq_some_iff.mp hj).1
    rw [win_len] at li lj
    rw [win_get li] at hi
    rw [win_get lj] at hj
    have hi := Option.some.inj hi
    have hj := Option.some.inj hj
    split at hi
    · split at hj
      · have := d_inj (good_boS hV) (p := p + i) (q := p + j) (by omega) (by omega) (by omega) (by omega) (by omega)
        omega
      · omega
    · omega
end HB
/-! matches -/
namespace HB
theorem first_zero {bs : List BO} (G : Good bs) {k o : Nat} {B : BO} (hB : bs[k]? = some B) (ho : o < B.size) : (B.base.getD o 0 ≠ 0 ∧ B.first.getD o 0 = B.base.getD o 0 ∧ B.later.getD o 0 = B.base.getD o 0) ∨ ((B.first.getD o 0 = 0 ∨ o < B.first.getD o 0) ∧ (B.later.getD o 0 = 0 ∨ o < B.later.getD o 0)) := by
  have hK := chB_get G.b hB
  have hbl : o < B.base.length := by rw [hK.base]; exact ho
  have hla := chX_later G.x hB
  by_cases z : B.base.getD o 0 = 0
  · right
    have lat : B.later.getD o 0 = 0 ∨ o < B.later.getD o 0 := by
      rw [hla, ext_get hbl, if_pos z]
      cases hl : lk B.turned (B.ids.getD o 0) with
      | none => exact .inl rfl
      | some t =>
        right
        have htn : t < nz B.base := ((chM_turn G.m hB).1.lt _ (lk_mem hl)).2
        obtain ⟨j, hj⟩ := lastI_some (ids_has htn)
        obtain ⟨j1, -⟩ := lastI_lt hj
        rw [← hK.ids] at hj j1
        rw [hK.idl] at j1
        show o < o + B.size - (lastI B.ids t).getD 0
        rw [hj]
        show o < o + B.size - j
        omega
    refine ⟨?_, lat⟩
    cases k with
    | zero =>
      rw [chX_first0 G.x hB]
      exact .inl z
    | succ k =>
      have hkl : k < bs.length := by
        have := (List.getElem?_eq_some_iff.mp hB).1
        omega
      have hA : bs[k]? = some bs[k] := List.getElem?_eq_getElem hkl
      generalize bs[k] = A at hA
      have hKA := chB_get G.b hA
      rw [chX_first G.x hA hB, ext_get hbl, if_pos z]
      cases hl : lk B.linked (B.ids.getD o 0) with
      | none => exact .inl rfl
      | some t =>
        right
        have htn : t < nz A.base := ((chM_link G.m hA hB).lt _ (lk_mem hl)).2
        obtain ⟨j, hj⟩ := lastI_some (ids_has htn)
        obtain ⟨j1, -⟩ := lastI_lt hj
        rw [← hKA.ids] at hj j1
        rw [hKA.idl] at j1
        show o < o + A.size - (lastI A.ids t).getD 0
        rw [hj]
        show o < o + A.size - j
        omega
  · left
    refine ⟨z, ?_, by rw [hla, ext_get hbl, if_neg z]⟩
    cases k with
    | zero => rw [chX_first0 G.x hB]
    | succ k =>
      have hkl : k < bs.length := by
        have := (List.getElem?_eq_some_iff.mp hB).1
        omega
      have hA : bs[k]? = some bs[k] := List.getElem?_eq_getElem hkl
      rw [chX_first G.x hA hB, ext_get hbl, if_neg z]
/-- a window within a block -/
theorem win_in {bs : List BO} (G : Good bs) {k : Nat} {B : BO} (hB : bs[k]? = some B) {i n : Nat} (h : i + n ≤ B.size * B.reps) : win (dAt bs) (B.beg + i) n = lwin B.later B.size (i % B.size) n := by
  have hK := chB_get G.b hB
  have hpos := hK.pos
  unfold win lwin
  refine List.map_congr_left fun st hst => ?_
  have hst := List.mem_range.mp hst
  have hf : B.fin = B.beg + B.size * B.reps := rfl
  have hd := (at_blk G.b hB).2 (B.beg + i + st) (by omega) (by omega)
  have e : B.beg + i + st - B.beg = i + st := by omega
  have em : (i % B.size + st) % B.size = (i + st) % B.size := Nat.mod_add_mod ..
  rw [hd, em]
  unfold BO.dist
  rw [e]
  have ho := Nat.mod_lt (i + st) hpos
  by_cases c : (i + st) / B.size = 0
  · rw [if_pos c]
    have hlt : i + st < B.size := by
      rcases Nat.lt_or_ge (i + st) B.size with h | h
      · exact h
      · have := Nat.div_pos h hpos
        omega
    rw [Nat.mod_eq_of_lt hlt]
    rcases first_zero G hB hlt with ⟨_, h1, h2⟩ | ⟨h1, h2⟩
    · rw [h1, h2]
    · have z : ∀ x : Nat, (x = 0 ∨ i + st < x) → (if x ≤ st then x else 0) = 0 := fun x hx => by
        rcases hx with hx | hx
        · rw [hx]
          split <;> rfl
        · rw [if_neg (by omega)]
      rw [z _ h1, z _ h2]
  · rw [if_neg c]
theorem below_len {a : Nat → Nat} {c : Nat → Bool} (n : Nat) : ((List.range n).filterMap fun i => if c i = true then some (a i) else none).length = cnt c n := by
  induction n with
  | zero => rfl
  | succ n ih =>
    rw [List.range_succ, List.filterMap_append, List.length_append, ih, List.filterMap_cons, List.filterMap_nil]
    show _ = cnt c n + if c n = true then 1 else 0
    by_cases h : c n = true
    · rw [if_pos h, if_pos h]
      rfl
    · rw [if_neg h, if_neg h]
      rfl
theorem below_cnt (xs : List Nat) (r : Nat) : below xs r = cnt (fun i => decide (xs.getD i 0 < r)) xs.length := by
  unfold below
  rw [← below_len (a := fun i => xs.getD i 0)]
  congr 1
  refine fmap_congr fun i _ => ?_
  by_cases h : xs.getD i 0 < r
  · rw [if_pos h, if_pos (decide_eq_true h)]
  · rw [if_neg h, if_neg (by simpa using h)]
theorem below_map (xs : List Nat) (M p : Nat) : below (xs.map fun y => M + y) p = below xs (p - M) := by
  rw [below_cnt, below_cnt, List.length_map]
  refine cntq_congr fun i hi => decide_eq_decide.mpr ?_
  have h1 : (xs.map fun y => M + y).getD i 0 = M + xs.getD i 0 := by
    rw [List.getD_eq_getElem?_getD, List.getElem?_map, getD_some' hi]
    rfl
  rw [h1]
  omega
theorem insides_plc (B : BO) (pat : List Nat) : insides B pat = plc (fun o => decide (pat = lwin B.later B.size o pat.length)) B.size := by
  unfold insides plc
  refine fmap_congr fun i _ => ?_
  by_cases h : pat = lwin B.later B.size i pat.length
  · rw [if_pos h, if_pos (decide_eq_true h)]
  · rw [if_neg h, if_neg (by simpa using h)]
theorem across_plc (bs : List BO) (B : BO) (pat : List Nat) : across bs B pat = (plc (fun i => decide (win (dAt bs) (max B.beg (B.fin + 1 - pat.length) + i) pat.length = pat)) (min B.fin (tot bs + 1 - pat.length) - max B.beg (B.fin + 1 - pat.length))).map fun y => max B.beg (B.fin + 1 - pat.length) + y := by
  unfold across plc
  rw [List.map_filterMap]
  refine fmap_congr fun i _ => ?_
  by_cases h : win (dAt bs) (max B.beg (B.fin + 1 - pat.length) + i) pat.length = pat
  · rw [if_pos h, if_pos (decide_eq_true h)]
    rfl
  · rw [if_neg h, if_neg (by simpa using h)]
    rfl
def mP (bs : List BO) (pat : List Nat) (q : Nat) : Bool := decide (q + pat.length ≤ tot bs ∧ win (dAt bs) q pat.length = pat)
theorem cnt_cut {f Q : Nat → Bool} {K : Nat} : ∀ y, (∀ i, i < y → i < K → f i = Q i) → (∀ i, i < y → K ≤ i → f i = false) → cnt f y = cnt Q (min y K)
  | 0, _, _ => by
    rw [Nat.zero_min]
    rfl
  | y + 1, h1, h2 => by
    have ih := cnt_cut y (fun i hi => h1 i (by omega)) fun i hi => h2 i (by omega)
    show cnt f y + (if f y = true then 1 else 0) = _
    rw [ih]
    by_cases c : y < K
    · rw [h1 y (by omega) c, Nat.min_eq_left (by omega), Nat.min_eq_left (by omega)]
      rfl
    · rw [h2 y (by omega) (by omega), Nat.min_eq_right (by omega), Nat.min_eq_right (by omega)]
      rfl
theorem sumTo_const (c : Nat) : ∀ m, sumTo (fun _ => c) m = m * c
  | 0 => by
    rw [Nat.zero_mul]
    rfl
  | m + 1 => by
    show sumTo _ m + c = _
    rw [sumTo_const c m, Nat.add_mul, Nat.one_mul]
section
variable {bs : List BO} (G : Good bs) {pat : List Nat} (h1 : 1 ≤ pat.length) {k : Nat} {B : BO} (hB : bs[k]? = some B)
include G h1 hB
theorem ins_low {p : Nat} (hp : p ≤ B.beg) : insB B pat p = 0 := by
  unfold insB
  rw [if_pos (by omega)]
theorem ins_high {p : Nat} (hp : max B.beg (B.fin + 1 - pat.length) ≤ p) : insB B pat p = insB B pat (max B.beg (B.fin + 1 - pat.length)) := by
  unfold insB
  by_cases c : B.fin + 1 - pat.length ≤ B.beg
  · rw [if_pos (by omega), if_pos (by omega)]
  · rw [show min p (B.fin + 1 - pat.length) = min (max B.beg (B.fin + 1 - pat.length)) (B.fin + 1 - pat.length) by omega]
theorem ins_cnt {p : Nat} (hp : B.beg ≤ p) (hM : p ≤ max B.beg (B.fin + 1 - pat.length)) : cnt (mP bs pat) p = cnt (mP bs pat) B.beg + insB B pat p := by
  have hK := chB_get G.b hB
  have hpos := hK.pos
  have hf : B.fin = B.beg + B.size * B.reps := rfl
  have hN := (at_blk G.b hB).1
  unfold insB
  by_cases c : min p (B.fin + 1 - pat.length) ≤ B.beg
  · rw [if_pos c]
    have : p = B.beg := by omega
    rw [this, Nat.add_zero]
  · rw [if_neg c, show min p (B.fin + 1 - pat.length) = p by omega]
    obtain ⟨x, rfl⟩ := Nat.le.dest hp
    rw [Nat.add_sub_cancel_left, cnt_add]
    congr 1
    have e : ∀ i, i < x → mP bs pat (B.beg + i) = decide (pat = lwin B.later B.size (i % B.size) pat.length) := fun i hi => by
      unfold mP
      rw [win_in G hB (by omega)]
      exact decide_eq_decide.mpr ⟨fun z => z.2.symm, fun z => ⟨by omega, z.symm⟩⟩
    rw [cntq_congr e]
    have hlt := Nat.mod_lt x hpos
    have he := Nat.div_add_mod x B.size
    rw [Nat.mul_comm] at he
    have hb := cnt_blk (P := fun i => decide (pat = lwin B.later B.size (i % B.size) pat.length)) (G := fun _ o => decide (pat = lwin B.later B.size o pat.length)) (size := B.size) (m := x / B.size) (o := x % B.size)
      (fun r o' _ ho => by rw [(pos_div (r := r) ho).2]) (fun o' ho => by rw [(pos_div (r := x / B.size) (show o' < B.size by omega)).2])
    rw [he] at hb
    rw [hb, sumTo_const, insides_plc, plc_len, plc_below, Nat.min_eq_left (Nat.le_of_lt hlt)]
theorem acr_below (p : Nat) : below (across bs B pat) p = cnt (fun i => decide (win (dAt bs) (max B.beg (B.fin + 1 - pat.length) + i) pat.length = pat)) (min (p - max B.beg (B.fin + 1 - pat.length)) (min B.fin (tot bs + 1 - pat.length) - max B.beg (B.fin + 1 - pat.length))) := by
  rw [across_plc, below_map, plc_below]
theorem acr_cnt {p : Nat} (hM : max B.beg (B.fin + 1 - pat.length) ≤ p) (hp : p ≤ B.fin) : cnt (mP bs pat) p = cnt (mP bs pat) (max B.beg (B.fin + 1 - pat.length)) + below (across bs B pat) p := by
  rw [acr_below G h1 hB]
  generalize max B.beg (B.fin + 1 - pat.length) = M at *
  obtain ⟨y, rfl⟩ := Nat.le.dest hM
  rw [Nat.add_sub_cancel_left, cnt_add]
  congr 1
  refine cnt_cut y (fun i hi hK => ?_) fun i hi hK => ?_
  · unfold mP
    exact decide_eq_decide.mpr ⟨fun z => z.2, fun z => ⟨by omega, z⟩⟩
  · unfold mP
    exact decide_eq_false fun z => by omega
theorem m_all : cnt (mP bs pat) B.fin = cnt (mP bs pat) B.beg + (insB B pat B.fin + below (across bs B pat) B.fin) := by
  have hg := (chB_get G.b hB).fin_gt
  have hle : max B.beg (B.fin + 1 - pat.length) ≤ B.fin := by omega
  rw [acr_cnt G h1 hB hle (Nat.le_refl _), ins_cnt G h1 hB (by omega) (Nat.le_refl _), ins_high G h1 hB hle, Nat.add_assoc]
theorem m_part {p : Nat} : (B.fin ≤ p → insB B pat p + below (across bs B pat) p = insB B pat B.fin + below (across bs B pat) B.fin) ∧ (p < B.beg → insB B pat p + below (across bs B pat) p = 0) ∧
    (B.beg ≤ p → p < B.fin → cnt (mP bs pat) p = cnt (mP bs pat) B.beg + (insB B pat p + below (across bs B pat) p)) := by
  have hg := (chB_get G.b hB).fin_gt
  have hle : max B.beg (B.fin + 1 - pat.length) ≤ B.fin := by omega
  refine ⟨fun h => ?_, fun h => ?_, fun a b => ?_⟩
  · rw [ins_high G h1 hB (show _ ≤ p by omega), ins_high G h1 hB hle, acr_below G h1 hB, acr_below G h1 hB]
    congr 2
    omega
  · rw [ins_low G h1 hB (by omega), acr_below G h1 hB, show p - max B.beg (B.fin + 1 - pat.length) = 0 by omega, Nat.zero_min]
    rfl
  · rcases Nat.le_total p (max B.beg (B.fin + 1 - pat.length)) with c | c
    · rw [ins_cnt G h1 hB a c, acr_below G h1 hB, show p - max B.beg (B.fin + 1 - pat.length) = 0 by omega, Nat.zero_min]
      rfl
    · rw [acr_cnt G h1 hB c (by omega), ins_cnt G h1 hB (by omega) (Nat.le_refl _), ins_high G h1 hB c, Nat.add_assoc]
end
theorem match_plain {s : List Blk} (hv : VS s) {pat : List Nat} (h1 : 1 ≤ pat.length) {p : Nat} (hp : p ≤ tot (boS s)) : numB (boS s) pat p = cnt (fun q => decide (q + pat.length ≤ tot (boS s) ∧ win (dAt (boS s)) q pat.length = pat)) p := by
  have G := good_boS hv
  have hc : Cont (mP (boS s) pat) BO.beg BO.fin (fun B => insB B pat B.fin + below (across (boS s) B pat) B.fin) (boS s) 0 := cont_of _ 0 G.b fun B hB => by
    obtain ⟨k, hk⟩ := List.getElem?_of_mem hB
    exact m_all G h1 hk
  have h := cont_part _ _ _ _ (g := fun B => insB B pat p + below (across (boS s) B pat) p) (p := p) _ 0 hc (Nat.zero_le _) (by rw [tot_endC]; exact hp) fun B hB => by
    obtain ⟨k, hk⟩ := List.getElem?_of_mem hB
    exact m_part G h1 hk
  have z : cnt (mP (boS s) pat) 0 = 0 := rfl
  rw [z, Nat.zero_add] at h
  exact h.symm
end HB
/-! sequences side by side -/
namespace HB
def lastOr (xs : List BO) (pr : Option BO) : Option BO := match xs.getLast? with
  | some P => some P
  | none => pr
theorem nextB_cons (B : BO) (r : List BO) (b : Nat) : nextB (B :: r) b = nextB r B.fin := by
  unfold nextB
  rw [getLast_cons]
  cases r.getLast? <;> rfl
theorem lastOr_cons (B : BO) (r : List BO) (pr : Option BO) : lastOr (B :: r) pr = lastOr r (some B) := by
  unfold lastOr
  rw [getLast_cons]
  cases r.getLast? <;> rfl
theorem mkBOs_app : ∀ (a b : List Blk) (beg : Nat) (pr : Option BO), mkBOs (a ++ b) beg pr = mkBOs a beg pr ++ mkBOs b (nextB (mkBOs a beg pr) beg) (lastOr (mkBOs a beg pr) pr)
  | [], _, _, _ => rfl
  | c :: r, b, beg, pr => by
    show mkBO c beg pr :: mkBOs (r ++ b) _ _ = mkBO c beg pr :: (mkBOs r _ _ ++ mkBOs b (nextB (mkBO c beg pr :: mkBOs r _ _) beg) (lastOr (mkBO c beg pr :: mkBOs r _ _) pr))
    rw [mkBOs_app r b, nextB_cons, lastOr_cons]
theorem chB_app : ∀ {a b : List BO} {c : Nat}, ChB (a ++ b) c → ChB a c ∧ ChB b (nextB a c)
  | [], _, _, h => ⟨True.intro, h⟩
  | A :: r, b, c, ⟨h1, h2, h3⟩ => by
    obtain ⟨g1, g2⟩ := chB_app h3
    rw [nextB_cons]
    exact ⟨⟨h1, h2, g1⟩, g2⟩
theorem nextB_app (a b : List BO) (c : Nat) : nextB (a ++ b) c = nextB b (nextB a c) := by
  induction a generalizing c with
  | nil => rfl
  | cons A r ih => rw [List.cons_append, nextB_cons, nextB_cons, ih]
theorem nextB_le : ∀ {bs : List BO} {b : Nat}, ChB bs b → b ≤ nextB bs b
  | [], _, _ => Nat.le_refl _
  | A :: r, b, ⟨h1, h2, h3⟩ => by
    have := nextB_le h3
    have := h2.fin_gt
    rw [nextB_cons]
    omega
theorem dAt_app : ∀ {a b : List BO} {c : Nat}, ChB (a ++ b) c → ∀ p, c ≤ p → dAt (a ++ b) p = if p < nextB a c then dAt a p else dAt b p
  | [], b, c, h, p, hp => by
    show dAt b p = if p < c then dAt [] p else dAt b p
    rw [if_neg (show ¬ p < c by omega)]
  | A :: r, b, c, ⟨h1, h2, h3⟩, p, hp => by
    rw [nextB_cons]
    show (if A.beg ≤ p ∧ p < A.fin then A.dist p else dAt (r ++ b) p) = if p < nextB r A.fin then (if A.beg ≤ p ∧ p < A.fin then A.dist p else dAt r p) else dAt b p
    have hn := nextB_le (chB_app h3).1
    by_cases q : p < A.fin
    · rw [if_pos ⟨by omega, q⟩, if_pos (by omega)]
      rw [if_pos ⟨by omega, q⟩]
    · rw [if_neg (fun z => q z.2), dAt_app h3 p (by omega), if_neg (show ¬ (A.beg ≤ p ∧ p < A.fin) from fun z => q z.2)]
/-- what follows does not see more of the block before than its size and ids -/
theorem mkBOs_prev {c : List Blk} {beg : Nat} {P P' : BO} (h1 : P.size = P'.size) (h2 : P.ids = P'.ids) : mkBOs c beg (some P) = mkBOs c beg (some P') := by
  cases c with
  | nil => rfl
  | cons b r =>
    have : mkBO b beg (some P) = mkBO b beg (some P') := by
      unfold mkBO
      dsimp only
      rw [h1, h2]
    show mkBO b beg (some P) :: mkBOs r _ _ = mkBO b beg (some P') :: mkBOs r _ _
    rw [this]
theorem validS_app : ∀ (a b : List Blk) (p : Nat), ValidS (a ++ b) p ↔ ValidS a p ∧ ValidS b (prevZ a p)
  | [], b, p => ⟨fun h => ⟨True.intro, h⟩, fun h => h.2⟩
  | c :: r, b, p => by
    show ValidB c p ∧ ValidS (r ++ b) (nz c.base) ↔ (ValidB c p ∧ ValidS r (nz c.base)) ∧ ValidS b (prevZ (c :: r) p)
    have e : prevZ (c :: r) p = prevZ r (nz c.base) := by
      unfold prevZ
      rw [getLast_cons]
      cases r.getLast? <;> rfl
    rw [validS_app r b, e, and_assoc]
theorem split_at {s : List Blk} {i : Nat} {b : Blk} (hb : s[i]? = some b) : s = s.take i ++ [b] ++ s.drop (i + 1) := by
  have hi := (List.getElem?_eq_some_iff.mp hb).1
  have h1 : s = s.take (i + 1) ++ s.drop (i + 1) := (List.take_append_drop ..).symm
  rw [take_snoc hb] at h1
  exact h1
theorem one_valid (p : Nat) : ValidB ⟨[0], [], [], 1⟩ p where
  base := ⟨fun i d h => by
    cases i with
    | zero =>
      cases h
      exact Nat.le_refl _
    | succ i => simp at h, fun i j d e hi hj hd _ _ => by
    cases i with
    | zero =>
      cases hi
      omega
    | succ i => simp at hi⟩
  pos := Nat.le_refl _
  most := by decide
  link := ⟨fun p h => (nomatch h), List.Pairwise.nil, by simp⟩
  turn := ⟨fun p h => (nomatch h), List.Pairwise.nil, by simp⟩
  one := Nat.le_refl _
  many := by decide
theorem add_one {s : List Blk} (hV : VL s) : VS (s ++ [⟨[0], [], [], 1⟩]) ∧ tot (boS (s ++ [⟨[0], [], [], 1⟩])) = tot (boS s) + 1 ∧ ∀ p, p < tot (boS s) → dAt (boS s) p = dAt (boS (s ++ [⟨[0], [], [], 1⟩])) p := by
  have hv : VS (s ++ [⟨[0], [], [], 1⟩]) := ⟨(validS_snoc ..).mpr ⟨hV.vs.valid, one_valid _⟩, by rw [List.length_append]; simp, by rw [List.length_append]; have := hV.few; simp; omega⟩
  have e : boS (s ++ [⟨[0], [], [], 1⟩]) = boS s ++ mkBOs [⟨[0], [], [], 1⟩] (nextB (boS s) 0) (lastOr (boS s) none) := mkBOs_app ..
  refine ⟨hv, ?_, fun p hp => ?_⟩
  · rw [tot_next, tot_next, e, nextB_app]
    rfl
  · have hc := chB_boS hv.valid
    rw [e] at hc ⊢
    rw [dAt_app hc p (Nat.zero_le _), if_pos (by rw [← tot_next]; exact hp)]
theorem tot_small {s : List Blk} (hV : VS s) : 1 ≤ tot (boS s) ∧ tot (boS s) ≤ 10 ^ 40 := by
  have key : ∀ (s : List Blk) (p beg : Nat) (pr : Option BO), ValidS s p → nextB (mkBOs s beg pr) beg ≤ beg + s.length * (40 * 10 ^ 30) := by
    intro s
    induction s with
    | nil => intro p beg pr _; exact Nat.le_add_right _ _
    | cons b r ih =>
      intro p beg pr h
      show nextB (mkBO b beg pr :: mkBOs r _ _) beg ≤ _
      rw [nextB_cons, List.length_cons, Nat.add_mul]
      have := ih (nz b.base) (mkBO b beg pr).fin (some (mkBO b beg pr)) h.2
      have hf : (mkBO b beg pr).fin ≤ beg + 40 * 10 ^ 30 := by
        show beg + b.base.length * b.cnt ≤ _
        exact Nat.add_le_add_left (Nat.mul_le_mul h.1.most h.1.many) _
      omega
  have h1 := key s 0 0 none hV.valid
  have hfew := hV.few
  have hone := hV.one
  refine ⟨?_, ?_⟩
  · obtain ⟨b, r, rfl⟩ : ∃ b r, s = b :: r := by
      cases s with
      | nil => exact absurd hone (by decide)
      | cons b r => exact ⟨b, r, rfl⟩
    have hc := chB_boS hV.valid
    rw [tot_next]
    have hc' : ChB (mkBO b 0 none :: mkBOs r (mkBO b 0 none).fin (some (mkBO b 0 none))) 0 := hc
    have g := hc'.2.1.fin_gt
    have := nextB_le hc'.2.2
    show 1 ≤ nextB (mkBO b 0 none :: mkBOs r (mkBO b 0 none).fin (some (mkBO b 0 none))) 0
    rw [nextB_cons]
    omega
  · rw [tot_next]
    have : s.length * (40 * 10 ^ 30) ≤ 8 * (40 * 10 ^ 30) := Nat.mul_le_mul_right _ hfew
    have h1 : nextB (boS s) 0 ≤ 0 + s.length * (40 * 10 ^ 30) := h1
    omega
end HB
/-! one block in two -/
namespace HB
theorem eqv_tail {A C : List Blk} {b : Blk} {mid : List Blk} (hs : VS (A ++ (b :: C))) (hu : VS (A ++ (mid ++ C))) (hn : nextB (mkBOs mid (nextB (boS A) 0) (lastOr (boS A) none)) (nextB (boS A) 0) = (mkBO b (nextB (boS A) 0) (lastOr (boS A) none)).fin)
    (hT : mkBOs C (mkBO b (nextB (boS A) 0) (lastOr (boS A) none)).fin (some (mkBO b (nextB (boS A) 0) (lastOr (boS A) none))) = mkBOs C (nextB (mkBOs mid (nextB (boS A) 0) (lastOr (boS A) none)) (nextB (boS A) 0)) (lastOr (mkBOs mid (nextB (boS A) 0) (lastOr (boS A) none)) (lastOr (boS A) none)) ∨
      (nextB (mkBOs C (mkBO b (nextB (boS A) 0) (lastOr (boS A) none)).fin (some (mkBO b (nextB (boS A) 0) (lastOr (boS A) none)))) (mkBO b (nextB (boS A) 0) (lastOr (boS A) none)).fin = nextB (mkBOs C (nextB (mkBOs mid (nextB (boS A) 0) (lastOr (boS A) none)) (nextB (boS A) 0)) (lastOr (mkBOs mid (nextB (boS A) 0) (lastOr (boS A) none)) (lastOr (boS A) none))) (nextB (mkBOs mid (nextB (boS A) 0) (lastOr (boS A) none)) (nextB (boS A) 0)) ∧
        ∀ p, dAt (mkBOs C (mkBO b (nextB (boS A) 0) (lastOr (boS A) none)).fin (some (mkBO b (nextB (boS A) 0) (lastOr (boS A) none)))) p = dAt (mkBOs C (nextB (mkBOs mid (nextB (boS A) 0) (lastOr (boS A) none)) (nextB (boS A) 0)) (lastOr (mkBOs mid (nextB (boS A) 0) (lastOr (boS A) none)) (lastOr (boS A) none))) p))
    (hd : ∀ p, nextB (boS A) 0 ≤ p → p < (mkBO b (nextB (boS A) 0) (lastOr (boS A) none)).fin → (mkBO b (nextB (boS A) 0) (lastOr (boS A) none)).dist p = dAt (mkBOs mid (nextB (boS A) 0) (lastOr (boS A) none)) p) : Eqv (A ++ (b :: C)) (A ++ (mid ++ C)) := by
  have e1 : boS (A ++ (b :: C)) = boS A ++ mkBOs (b :: C) (nextB (boS A) 0) (lastOr (boS A) none) := mkBOs_app ..
  have e2 : boS (A ++ (mid ++ C)) = boS A ++ mkBOs (mid ++ C) (nextB (boS A) 0) (lastOr (boS A) none) := mkBOs_app ..
  rw [mkBOs_app mid C] at e2
  have c1 := chB_boS hs.valid
  have c2 := chB_boS hu.valid
  generalize hβ : nextB (boS A) 0 = β at *
  generalize lastOr (boS A) none = pr at *
  have e1 : boS (A ++ (b :: C)) = boS A ++ (mkBO b β pr :: mkBOs C (mkBO b β pr).fin (some (mkBO b β pr))) := e1
  have hT2 : nextB (mkBOs C (mkBO b β pr).fin (some (mkBO b β pr))) (mkBO b β pr).fin = nextB (mkBOs C (nextB (mkBOs mid β pr) β) (lastOr (mkBOs mid β pr) pr)) (nextB (mkBOs mid β pr) β) ∧ ∀ p, dAt (mkBOs C (mkBO b β pr).fin (some (mkBO b β pr))) p = dAt (mkBOs C (nextB (mkBOs mid β pr) β) (lastOr (mkBOs mid β pr) pr)) p := by
    rcases hT with h | h
    · rw [h, hn]
      exact ⟨rfl, fun _ => rfl⟩
    · exact h
  have hn2 : tot (boS (A ++ (b :: C))) = tot (boS (A ++ (mid ++ C))) := by
    rw [tot_next, tot_next, e1, e2, nextB_app, nextB_app, nextB_app, nextB_cons, hβ]
    exact hT2.1
  refine ⟨hs, hu, hn2, fun p hp => ?_⟩
  rw [e1] at c1 ⊢
  rw [e2] at c2 ⊢
  rw [dAt_app c1 p (Nat.zero_le _), dAt_app c2 p (Nat.zero_le _), hβ]
  by_cases q : p < β
  · rw [if_pos q, if_pos q]
  · rw [if_neg q, if_neg q]
    have c1' := (chB_app c1).2
    have c2' := (chB_app c2).2
    rw [hβ] at c1' c2'
    rw [dAt_app c2' p (by omega), hn]
    show (if (mkBO b β pr).beg ≤ p ∧ p < (mkBO b β pr).fin then (mkBO b β pr).dist p else dAt (mkBOs C _ _) p) = _
    have hbeg : (mkBO b β pr).beg = β := rfl
    by_cases r : p < (mkBO b β pr).fin
    · rw [if_pos ⟨by omega, r⟩, if_pos r]
      exact hd p (by omega) r
    · rw [if_neg (fun z => r z.2), if_neg r, hT2.2 p, hn]
theorem eqv_spl {s : List Blk} (hV : VL s) {i : Nat} {b : Blk} (hb : s[i]? = some b) {f : Nat} (h1 : 1 ≤ f) (h2 : f < b.cnt) : Eqv s (splS s i b f) := by
  have hs := split_at hb
  have hvb := validS_take hV.vs.valid hb
  have hlen := congrArg List.length hs
  generalize hA : s.take i = A at *
  generalize hC : s.drop (i + 1) = C at *
  have e0 : s = A ++ (b :: C) := by
    rw [hs, List.append_assoc]
    rfl
  have e1 : splS s i b f = A ++ ([⟨b.base, b.link, b.turn, f⟩, ⟨b.base, b.turn, b.turn, b.cnt - f⟩] ++ C) := by
    unfold splS
    rw [hA, hC, List.append_assoc]
  have hvs := hV.vs
  have few := hV.few
  rw [e1]
  have hval := hvs.valid
  rw [e0] at hval hvs
  obtain ⟨va, vb⟩ := (validS_app ..).mp hval
  have hu : VS (A ++ ([⟨b.base, b.link, b.turn, f⟩, ⟨b.base, b.turn, b.turn, b.cnt - f⟩] ++ C)) := by
    refine ⟨(validS_app ..).mpr ⟨va, ⟨hvb.base, hvb.pos, hvb.most, hvb.link, hvb.turn, h1, by have := hvb.many; show f ≤ _; omega⟩, ⟨hvb.base, hvb.pos, hvb.most, hvb.turn, hvb.turn, by show 1 ≤ b.cnt - f; omega, by have := hvb.many; show b.cnt - f ≤ _; omega⟩, vb.2⟩, ?_, ?_⟩
    · simp
      omega
    · have : s.length = A.length + 1 + C.length := by rw [hlen]; simp; omega
      simp
      omega
  rw [e0]
  have hf2 : nextB (mkBOs [⟨b.base, b.link, b.turn, f⟩, ⟨b.base, b.turn, b.turn, b.cnt - f⟩] (nextB (boS A) 0) (lastOr (boS A) none)) (nextB (boS A) 0) = (mkBO b (nextB (boS A) 0) (lastOr (boS A) none)).fin := by
    show nextB (boS A) 0 + b.base.length * f + b.base.length * (b.cnt - f) = nextB (boS A) 0 + b.base.length * b.cnt
    rw [Nat.add_assoc, ← Nat.mul_add, show f + (b.cnt - f) = b.cnt by omega]
  refine eqv_tail hvs hu hf2 (.inl ?_) fun p hp1 hp2 => ?_
  · rw [hf2]
    exact mkBOs_prev rfl rfl
  · generalize nextB (boS A) 0 = β at *
    generalize lastOr (boS A) none = pr at *
    have hpos := hvb.pos
    show (mkBO b β pr).dist p = if β ≤ p ∧ p < β + b.base.length * f then (mkBO ⟨b.base, b.link, b.turn, f⟩ β pr).dist p else
      if β + b.base.length * f ≤ p ∧ p < β + b.base.length * f + b.base.length * (b.cnt - f) then (mkBO ⟨b.base, b.turn, b.turn, b.cnt - f⟩ (β + b.base.length * f) (some (mkBO ⟨b.base, b.link, b.turn, f⟩ β pr))).dist p else 0
    have hp2 : p < β + b.base.length * b.cnt := hp2
    have hm : b.base.length * b.cnt = b.base.length * f + b.base.length * (b.cnt - f) := by
      rw [← Nat.mul_add, show f + (b.cnt - f) = b.cnt by omega]
    by_cases c : p < β + b.base.length * f
    · rw [if_pos ⟨hp1, c⟩]
      rfl
    · rw [if_neg (fun z => c z.2), if_pos ⟨by omega, by omega⟩]
      have hq : (p - β) / b.base.length ≠ 0 := by
        have h3 : b.base.length * 1 ≤ b.base.length * f := Nat.mul_le_mul_left _ h1
        have := Nat.div_pos (show b.base.length ≤ p - β by omega) hpos
        omega
      have hmod : (p - (β + b.base.length * f)) % b.base.length = (p - β) % b.base.length := by
        rw [show p - β = b.base.length * f + (p - (β + b.base.length * f)) by omega, Nat.mul_add_mod]
      unfold BO.dist
      show (if (p - β) / b.base.length = 0 then _ else (ext b.base (ids b.base) b.turn b.base.length (ids b.base)).getD ((p - β) % b.base.length) 0) = if (p - (β + b.base.length * f)) / b.base.length = 0 then (ext b.base (ids b.base) b.turn b.base.length (ids b.base)).getD ((p - (β + b.base.length * f)) % b.base.length) 0 else (ext b.base (ids b.base) b.turn b.base.length (ids b.base)).getD ((p - (β + b.base.length * f)) % b.base.length) 0
      rw [if_neg hq, hmod]
      split <;> rfl
end HB
/-! a block doubled -/
namespace HB
theorem getD_of' {xs : List Nat} {i n : Nat} (h : xs[i]? = some n) : xs.getD i 0 = n := by
  rw [List.getD_eq_getElem?_getD, h]
  rfl
theorem lastI_app (a b : List Nat) (s : Nat) : lastI (a ++ b) s = match lastI b s with
    | some j => some (a.length + j)
    | none => lastI a s := by
  induction b using snoc_ind with
  | h0 => rw [List.append_nil]; rfl
  | h1 b x ih =>
    rw [← List.append_assoc, lastI_snoc, lastI_snoc, ih]
    by_cases e : x = s
    · rw [if_pos e, if_pos e, List.length_append]
    · rw [if_neg e, if_neg e]
theorem lastI_none {l : List Nat} {s : Nat} (h : s ∉ l) : lastI l s = none := by
  cases e : lastI l s with
  | none => rfl
  | some j => exact absurd (List.mem_of_getElem? (lastI_lt e).2) h
theorem lastI_map {f : Nat → Nat} {l : List Nat} {s : Nat} (h : ∀ x ∈ l, f x = f s → x = s) : lastI (l.map f) (f s) = lastI l s := by
  induction l using snoc_ind with
  | h0 => rfl
  | h1 l x ih =>
    rw [List.map_append, List.map_singleton, lastI_snoc, lastI_snoc, ih fun y hy => h y (List.mem_append_left _ hy), List.length_map]
    by_cases e : x = s
    · rw [if_pos e, if_pos (by rw [e])]
    · rw [if_neg e, if_neg fun z => e (h x (List.mem_append_right _ (List.mem_singleton.mpr rfl)) z)]
theorem lastI_max {l : List Nat} {s j i : Nat} (h : lastI l s = some j) (hi : l[i]? = some s) : i ≤ j := by
  have hl := (List.getElem?_eq_some_iff.mp hi).1
  obtain ⟨z, z1, z2⟩ := lastI_mem hi hl
  rw [List.take_length, h] at z1
  cases z1
  exact z2
theorem ids_get {xs : List Nat} {o : Nat} (h : o < xs.length) : (ids xs)[o]? = some ((ids xs).getD o 0) := getD_some' (by rw [ids_len]; exact h)
/-- the distances of the ids -/
theorem last_ids {xs : List Nat} (hv : ValidD xs) : ∀ o e, xs[o]? = some e → lastI ((ids xs).take o) ((ids xs).getD o 0) = if e = 0 then none else some (o - e) := by
  intro o
  induction o using Nat.strongRecOn with
  | _ o ih =>
    intro e he
    have ho := (List.getElem?_eq_some_iff.mp he).1
    have hl := ids_len xs
    by_cases z : e = 0
    · rw [if_pos z]
      subst z
      refine lastI_none fun hm => ?_
      obtain ⟨i, hi⟩ := List.getElem?_of_mem hm
      have hil := (List.getElem?_eq_some_iff.mp hi).1
      rw [List.length_take] at hil
      rw [List.getElem?_take_of_lt (by omega)] at hi
      have := ids_zero hv he i (by omega)
      rw [getD_of' hi] at this
      exact Nat.lt_irrefl _ this
    · rw [if_neg z]
      have hle := hv.le o e he
      have hsame := ids_pos hv he (by omega)
      cases hx : lastI ((ids xs).take o) ((ids xs).getD o 0) with
      | none =>
        exfalso
        obtain ⟨j, hj, -⟩ := lastI_mem (l := ids xs) (i := o - e) (x := (ids xs).getD o 0) (n := o) (by rw [hsame]; exact ids_get (by omega)) (by omega)
        rw [hx] at hj
        cases hj
      | some j =>
        obtain ⟨j1, j2⟩ := lastI_lt hx
        rw [List.length_take] at j1
        rw [List.getElem?_take_of_lt (by omega)] at j2
        have hmax := lastI_max hx (i := o - e) (by rw [List.getElem?_take_of_lt (by omega), hsame]; exact ids_get (by omega))
        congr 1
        rcases Nat.lt_or_eq_of_le hmax with c | c
        · exfalso
          have key : ∀ i, o - e < i → i < o → (ids xs).getD i 0 = (ids xs).getD o 0 → False := by
            intro i
            induction i using Nat.strongRecOn with
            | _ i ihi =>
              intro h1 h2 h3
              have hxi : xs[i]? = some (xs.getD i 0) := getD_some' (by omega)
              have hi := ih i h2 _ hxi
              by_cases zz : xs.getD i 0 = 0
              · rw [zz] at hxi
                have := ids_zero hv hxi (o - e) h1
                rw [h3, hsame] at this
                exact Nat.lt_irrefl _ this
              · rw [if_neg zz] at hi
                have hli := hv.le i _ hxi
                have hm := lastI_max hi (i := o - e) (by rw [List.getElem?_take_of_lt h1, h3, hsame]; exact ids_get (by omega))
                have hs2 := ids_pos hv hxi (by omega)
                rcases Nat.lt_or_eq_of_le hm with d | d
                · exact ihi (i - xs.getD i 0) (by omega) d (by omega) (by rw [← hs2]; exact h3)
                · have := hv.inj o i e _ he hxi (by omega) (by omega) d
                  omega
          refine key j c (by omega) ?_
          rw [getD_of' j2]
        · exact c.symm
theorem dists_ids {xs : List Nat} (hv : ValidD xs) : dists (ids xs) = xs := by
  refine List.ext_getElem? fun o => ?_
  by_cases h : o < xs.length
  · have hx : xs[o]? = some (xs.getD o 0) := getD_some' h
    rw [dists_get (ids_get h), last_ids hv o _ hx, hx]
    by_cases z : xs.getD o 0 = 0
    · rw [if_pos z, z]
    · rw [if_neg z]
      have := hv.le o _ hx
      show some (o - (o - xs.getD o 0)) = _
      congr 1
      omega
  · rw [List.getElem?_eq_none (by rw [dists_len, ids_len]; omega), List.getElem?_eq_none (by omega)]
/-- equal distances, equal patterns -/
theorem pat_of {l l' : List Nat} (h : dists l = dists l') : ∀ j i, i < j → j < l.length → (l.getD i 0 = l.getD j 0 → l'.getD i 0 = l'.getD j 0) := by
  have hlen : l.length = l'.length := by rw [← dists_len l, h, dists_len]
  intro j
  induction j using Nat.strongRecOn with
  | _ j ih =>
    intro i hi hj e
    have gj : l[j]? = some (l.getD j 0) := getD_some' hj
    have gj' : l'[j]? = some (l'.getD j 0) := getD_some' (by omega)
    have gi : l[i]? = some (l.getD j 0) := by rw [← e]; exact getD_some' (by omega)
    obtain ⟨k, hk, hik⟩ := lastI_mem gi hi
    obtain ⟨k1, k2⟩ := lastI_lt hk
    rw [List.length_take] at k1
    rw [List.getElem?_take_of_lt (by omega)] at k2
    have d1 := dists_get gj
    have d2 := dists_get gj'
    rw [h, d2, hk] at d1
    have d1 := Option.some.inj d1
    cases hk' : lastI (l'.take j) (l'.getD j 0) with
    | none =>
      rw [hk'] at d1
      have d1 : 0 = j - k := d1
      omega
    | some k' =>
      rw [hk'] at d1
      have d1 : j - k' = j - k := d1
      obtain ⟨q1, q2⟩ := lastI_lt hk'
      rw [List.length_take] at q1
      rw [List.getElem?_take_of_lt (by omega)] at q2
      have hkk : k' = k := by omega
      subst hkk
      rw [← getD_of' q2]
      rcases Nat.lt_or_eq_of_le hik with c | c
      · exact ih k' (by omega) i c (by omega) (by rw [e, getD_of' k2])
      · rw [c]
theorem pat_iff {l l' : List Nat} (h : dists l = dists l') {i j : Nat} (hi : i < l.length) (hj : j < l.length) : l.getD i 0 = l.getD j 0 ↔ l'.getD i 0 = l'.getD j 0 := by
  have hlen : l.length = l'.length := by rw [← dists_len l, h, dists_len]
  rcases Nat.lt_trichotomy i j with c | c | c
  · exact ⟨pat_of h j i c hj, pat_of h.symm j i c (by omega)⟩
  · rw [c]
    exact ⟨fun _ => rfl, fun _ => rfl⟩
  · exact ⟨fun e => (pat_of h i j c hi e.symm).symm, fun e => (pat_of h.symm i j c (by omega) e.symm).symm⟩
theorem pat_last {l l' : List Nat} (h : dists l = dists l') {x : Nat} (hx : x < l.length) : lastI l' (l'.getD x 0) = lastI l (l.getD x 0) := by
  have hlen : l.length = l'.length := by rw [← dists_len l, h, dists_len]
  obtain ⟨j, hj⟩ := lastI_some (List.mem_of_getElem? (getD_some' hx))
  obtain ⟨j', hj'⟩ := lastI_some (List.mem_of_getElem? (getD_some' (xs := l') (i := x) (by omega)))
  obtain ⟨a1, a2⟩ := lastI_lt hj
  obtain ⟨b1, b2⟩ := lastI_lt hj'
  have e1 := (pat_iff h a1 hx).mp (getD_of' a2)
  have e2 := (pat_iff h (i := j') (by omega) hx).mpr (getD_of' b2)
  have m1 := lastI_max hj' (i := j) (by rw [getD_some' (xs := l') (i := j) (by omega), e1])
  have m2 := lastI_max hj (i := j') (by rw [getD_some' (xs := l) (i := j') (by omega), e2])
  rw [hj, hj', show j = j' by omega]
end HB
/-! the doubled block's distances -/
namespace HB
section
variable {b : Blk} {np : Nat} (hv : ValidB b np)
def phi (b : Blk) (s : Nat) : Nat := (lk b.turn s).getD (nz b.base + s)
def laterL (b : Blk) : List Nat := ext b.base (ids b.base) b.turn b.base.length (ids b.base)
def symsD (b : Blk) : List Nat := ids b.base ++ (ids b.base).map (phi b)
theorem dbl_syms : dblBase b = dists (symsD b) := rfl
include hv
theorem phi_inj {s t : Nat} (hs : s < nz b.base) (ht : t < nz b.base) (e : phi b s = phi b t) : s = t := by
  unfold phi at e
  cases h1 : lk b.turn s with
  | none =>
    cases h2 : lk b.turn t with
    | none =>
      rw [h1, h2] at e
      have e : nz b.base + s = nz b.base + t := e
      omega
    | some u =>
      rw [h1, h2] at e
      have e : nz b.base + s = u := e
      have := (hv.turn.lt _ (lk_mem h2)).2
      have : u < nz b.base := this
      omega
  | some u =>
    cases h2 : lk b.turn t with
    | none =>
      rw [h1, h2] at e
      have e : u = nz b.base + t := e
      have := (hv.turn.lt _ (lk_mem h1)).2
      have : u < nz b.base := this
      omega
    | some w =>
      rw [h1, h2] at e
      have e : u = w := e
      rw [e] at h1
      exact lk_inj hv.turn _ _ _ h1 h2
theorem ids_small {s : Nat} (h : s ∈ ids b.base) : s < nz b.base := ids_lt hv.base s h
theorem syms_len : (symsD b).length = b.base.length + b.base.length := by
  unfold symsD
  rw [List.length_append, List.length_map, ids_len]
theorem syms_lo {o : Nat} (h : o < b.base.length) : (symsD b).getD o 0 = (ids b.base).getD o 0 := by
  unfold symsD
  rw [List.getD_eq_getElem?_getD, List.getElem?_append_left (by rw [ids_len]; exact h), ← List.getD_eq_getElem?_getD]
theorem syms_hi {o : Nat} (h : o < b.base.length) : (symsD b).getD (b.base.length + o) 0 = phi b ((ids b.base).getD o 0) := by
  unfold symsD
  have hl := ids_len b.base
  rw [List.getD_eq_getElem?_getD, List.getElem?_append_right (by omega), hl, Nat.add_sub_cancel_left, List.getElem?_map, ids_get h]
  rfl
theorem dbl_len : (dblBase b).length = b.base.length + b.base.length := by
  rw [dbl_syms, dists_len]
  exact syms_len hv
theorem dbl_lo {o : Nat} (h : o < b.base.length) : (dblBase b).getD o 0 = b.base.getD o 0 := by
  have hl := ids_len b.base
  have hs : (symsD b)[o]? = some ((ids b.base).getD o 0) := by
    rw [getD_some' (by rw [syms_len hv]; omega), syms_lo hv h]
  have hx : b.base[o]? = some (b.base.getD o 0) := getD_some' h
  have ht : (symsD b).take o = (ids b.base).take o := by
    unfold symsD
    rw [List.take_append_of_le_length (by omega)]
  have := dists_get hs
  rw [ht, last_ids hv.base o _ hx] at this
  rw [dbl_syms, getD_of' this]
  have hle := hv.base.le o _ hx
  by_cases z : b.base.getD o 0 = 0
  · rw [if_pos z, z]
  · rw [if_neg z]
    show o - (o - b.base.getD o 0) = _
    omega
theorem later_get {o : Nat} (h : o < b.base.length) : (laterL b).getD o 0 = if b.base.getD o 0 = 0 then (match lk b.turn ((ids b.base).getD o 0) with
    | some t => o + b.base.length - (lastI (ids b.base) t).getD 0
    | none => 0) else b.base.getD o 0 := ext_get h
theorem dbl_hi {o : Nat} (h : o < b.base.length) : (dblBase b).getD (b.base.length + o) 0 = (laterL b).getD o 0 := by
  have hl := ids_len b.base
  have hx : b.base[o]? = some (b.base.getD o 0) := getD_some' h
  have hs : (symsD b)[b.base.length + o]? = some (phi b ((ids b.base).getD o 0)) := by
    rw [getD_some' (by rw [syms_len hv]; omega), syms_hi hv h]
  have ht : (symsD b).take (b.base.length + o) = ids b.base ++ ((ids b.base).take o).map (phi b) := by
    unfold symsD
    rw [List.take_append, hl, Nat.add_sub_cancel_left, List.take_of_length_le (by omega), List.map_take]
  have hmem : (ids b.base).getD o 0 ∈ ids b.base := List.mem_of_getElem? (ids_get h)
  have hmap : lastI (((ids b.base).take o).map (phi b)) (phi b ((ids b.base).getD o 0)) = lastI ((ids b.base).take o) ((ids b.base).getD o 0) :=
    lastI_map fun x hx e => phi_inj hv (ids_small hv (List.mem_of_mem_take hx)) (ids_small hv hmem) e
  have hd := dists_get hs
  rw [ht, lastI_app, hmap, last_ids hv.base o _ hx, hl] at hd
  rw [dbl_syms, getD_of' hd, later_get hv h]
  have hle := hv.base.le o _ hx
  by_cases z : b.base.getD o 0 = 0
  · rw [if_pos z, if_pos z]
    dsimp only
    cases hk : lk b.turn ((ids b.base).getD o 0) with
    | none =>
      have hp : phi b ((ids b.base).getD o 0) = nz b.base + (ids b.base).getD o 0 := by
        unfold phi
        rw [hk]
        rfl
      have hn : lastI (ids b.base) (phi b ((ids b.base).getD o 0)) = none := lastI_none fun hm => by
        have := ids_small hv hm
        omega
      rw [hn]
    | some t =>
      have hp : phi b ((ids b.base).getD o 0) = t := by
        unfold phi
        rw [hk]
        rfl
      rw [hp]
      obtain ⟨j, hj⟩ := lastI_some (ids_has (hv.turn.lt _ (lk_mem hk)).2)
      rw [hj]
      show b.base.length + o - j = o + b.base.length - (lastI (ids b.base) t).getD 0
      rw [hj]
      show b.base.length + o - j = o + b.base.length - j
      omega
  · rw [if_neg z, if_neg z]
    show b.base.length + o - (b.base.length + (o - b.base.getD o 0)) = _
    omega
end
end HB
/-! the doubled block's ids, first and later -/
namespace HB
theorem idsG_pre (xs : List Nat) {n : Nat} (hn : n ≤ xs.length) : ∀ i, i < n → (ids xs).getD i 0 = (ids (xs.take n)).getD i 0 := by
  intro i hi
  have key : ∀ m, n + m ≤ xs.length → (idsG (xs.take (n + m))).1.getD i 0 = (idsG (xs.take n)).1.getD i 0 := by
    intro m
    induction m with
    | zero => intro _; rfl
    | succ m ih =>
      intro hm
      have hg : xs[n + m]? = some (xs[n + m]'(by omega)) := List.getElem?_eq_getElem _
      rw [← ih (by omega), ← Nat.add_assoc, idsG_snoc hg]
      have hl : (idsG (xs.take (n + m))).1.length = n + m := by rw [idsG_len, List.length_take]; omega
      unfold idsF
      split
      · rw [List.getD_eq_getElem?_getD, List.getElem?_append_left (by omega), ← List.getD_eq_getElem?_getD]
      · rw [List.getD_eq_getElem?_getD, List.getElem?_append_left (by omega), ← List.getD_eq_getElem?_getD]
  have := key (xs.length - n) (by omega)
  rw [show n + (xs.length - n) = xs.length by omega, List.take_length] at this
  exact this
theorem nz_take (xs : List Nat) (n : Nat) : nz (xs.take n) ≤ nz xs := by
  unfold nz
  conv => rhs; rw [← List.take_append_drop n xs]
  rw [List.count_append]
  omega
/-- a new symbol's id -/
theorem ids_new {xs : List Nat} {o : Nat} (h : xs[o]? = some 0) : (ids xs).getD o 0 = nz (xs.take o) := by
  have ho := (List.getElem?_eq_some_iff.mp h).1
  rw [idsG_pre xs (n := o + 1) ho o (by omega)]
  show (idsG (xs.take (o + 1))).1.getD o 0 = _
  have hl : (idsG (xs.take o)).1.length = o := by rw [idsG_len, List.length_take]; omega
  rw [idsG_snoc h]
  unfold idsF
  rw [if_pos rfl]
  show ((idsG (xs.take o)).1 ++ [(idsG (xs.take o)).2]).getD o 0 = _
  rw [List.getD_eq_getElem?_getD, List.getElem?_append_right (by omega), hl, Nat.sub_self, idsG_nz]
  rfl
section
variable {b : Blk} {np : Nat} (hv : ValidB b np)
include hv
theorem dbl_take : (dblBase b).take b.base.length = b.base := by
  have hl := dbl_len hv
  refine List.ext_getElem? fun o => ?_
  rw [List.getElem?_take]
  by_cases h : o < b.base.length
  · rw [if_pos h, getD_some' (by omega), dbl_lo hv h, getD_some' h]
  · rw [if_neg h, List.getElem?_eq_none (by omega)]
theorem I_lo {o : Nat} (h : o < b.base.length) : (ids (dblBase b)).getD o 0 = (ids b.base).getD o 0 := by
  rw [idsG_pre (dblBase b) (n := b.base.length) (by rw [dbl_len hv]; omega) o h, dbl_take hv]
theorem I_hi {o : Nat} (h : o < b.base.length) (z : (laterL b).getD o 0 = 0) : nz b.base ≤ (ids (dblBase b)).getD (b.base.length + o) 0 := by
  have hx : (dblBase b)[b.base.length + o]? = some 0 := by
    rw [getD_some' (by rw [dbl_len hv]; omega), dbl_hi hv h, z]
  rw [ids_new hx]
  have := nz_take ((dblBase b).take (b.base.length + o)) b.base.length
  rw [List.take_take, Nat.min_eq_left (by omega), dbl_take hv] at this
  exact this
theorem dbl_nz : nz b.base ≤ nz (dblBase b) := by
  have := nz_take (dblBase b) b.base.length
  rw [dbl_take hv] at this
  exact this
theorem dbl_pat : dists (symsD b) = dists (ids (dblBase b)) := by
  have h : ValidD (dblBase b) := dists_valid _
  exact (dists_ids h).symm
/-- a symbol in the second half: its last offset -/
theorem later_last {t : Nat} (ht : t < nz b.base) : ∃ j, lastI (ids b.base) t = some j ∧ j < b.base.length ∧ laterF b t = some ((ids (dblBase b)).getD (b.base.length + j) 0) ∧ lastI (ids (dblBase b)) ((ids (dblBase b)).getD (b.base.length + j) 0) = some (b.base.length + j) := by
  obtain ⟨j, hj⟩ := lastI_some (ids_has ht)
  obtain ⟨j1, j2⟩ := lastI_lt hj
  rw [ids_len] at j1
  refine ⟨j, hj, j1, by unfold laterF; rw [hj]; rfl, ?_⟩
  have hl := syms_len hv
  rw [pat_last (dbl_pat hv) (x := b.base.length + j) (by omega), syms_hi hv j1, getD_of' j2]
  unfold symsD
  have hm : lastI ((ids b.base).map (phi b)) (phi b t) = lastI (ids b.base) t := lastI_map fun x hx e => phi_inj hv (ids_small hv hx) ht e
  rw [lastI_app, hm, hj, ids_len]
theorem laterF_inj {s t : Nat} (hs : s < nz b.base) (ht : t < nz b.base) (e : laterF b s = laterF b t) : s = t := by
  obtain ⟨i, h1, h2, h3, h4⟩ := later_last hv hs
  obtain ⟨j, g1, g2, g3, g4⟩ := later_last hv ht
  rw [h3, g3] at e
  have e := Option.some.inj e
  rw [e, g4] at h4
  have : i = j := by
    have := Option.some.inj h4
    omega
  subst this
  have a := (lastI_lt h1).2
  rw [(lastI_lt g1).2] at a
  exact (Option.some.inj a).symm
end
end HB
/-! the doubled block says the same -/
namespace HB
theorem lk_mapL (b : Blk) (m : List (Nat × Nat)) (s : Nat) : lk (mapL b m) s = (lk m s).map fun t => (laterF b t).getD 0 := by
  unfold lk mapL
  rw [List.find?_map]
  show Option.map _ (Option.map _ (m.find? fun p => decide (p.1 = s))) = _
  cases m.find? fun p => decide (p.1 = s) with
  | none => rfl
  | some p => rfl
section
variable {b : Blk} {np : Nat} (hv : ValidB b np)
include hv
/-- a mapping into this block, its distances -/
theorem map_dist {t o : Nat} (ht : t < nz b.base) : o + (dblBase b).length - (lastI (ids (dblBase b)) ((laterF b t).getD 0)).getD 0 = o + b.base.length - (lastI (ids b.base) t).getD 0 := by
  obtain ⟨j, h1, h2, h3, h4⟩ := later_last hv ht
  rw [h3]
  show o + (dblBase b).length - (lastI (ids (dblBase b)) ((ids (dblBase b)).getD (b.base.length + j) 0)).getD 0 = _
  rw [h4, h1, dbl_len hv]
  show o + (b.base.length + b.base.length) - (b.base.length + j) = o + b.base.length - j
  omega
/-- no key is a new symbol of the second half -/
theorem lk_new {m : List (Nat × Nat)} {c : Nat} (hm : ValidM m (nz b.base) c) {s : Nat} (h : nz b.base ≤ s) : lk m s = none := by
  cases e : lk m s with
  | none => rfl
  | some t =>
    have := (hm.lt _ (lk_mem e)).1
    have : s < nz b.base := this
    omega
theorem laterD {o : Nat} (h : o < b.base.length) : (ext (dblBase b) (ids (dblBase b)) (mapL b b.turn) (dblBase b).length (ids (dblBase b))).getD o 0 = (laterL b).getD o 0 ∧ (ext (dblBase b) (ids (dblBase b)) (mapL b b.turn) (dblBase b).length (ids (dblBase b))).getD (b.base.length + o) 0 = (laterL b).getD o 0 := by
  have hl := dbl_len hv
  refine ⟨?_, ?_⟩
  · rw [ext_get (by omega), later_get hv h, dbl_lo hv h, I_lo hv h]
    by_cases z : b.base.getD o 0 = 0
    · rw [if_pos z, if_pos z, lk_mapL]
      cases e : lk b.turn ((ids b.base).getD o 0) with
      | none => rfl
      | some t => exact map_dist hv (hv.turn.lt _ (lk_mem e)).2
    · rw [if_neg z, if_neg z]
  · rw [ext_get (by omega), dbl_hi hv h]
    by_cases z : (laterL b).getD o 0 = 0
    · rw [if_pos z, lk_mapL, lk_new hv hv.turn (I_hi hv h z)]
      exact z.symm
    · rw [if_neg z]
theorem firstD {P : BO} {o : Nat} (h : o < b.base.length) : (ext (dblBase b) (ids (dblBase b)) b.link P.size P.ids).getD o 0 = (ext b.base (ids b.base) b.link P.size P.ids).getD o 0 ∧ (ext (dblBase b) (ids (dblBase b)) b.link P.size P.ids).getD (b.base.length + o) 0 = (laterL b).getD o 0 := by
  have hl := dbl_len hv
  refine ⟨?_, ?_⟩
  · rw [ext_get (by omega), ext_get h, dbl_lo hv h, I_lo hv h]
  · rw [ext_get (by omega), dbl_hi hv h]
    by_cases z : (laterL b).getD o 0 = 0
    · rw [if_pos z, lk_new hv hv.link (I_hi hv h z)]
      exact z.symm
    · rw [if_neg z]
theorem first_both (β : Nat) (pr : Option BO) {o : Nat} (h : o < b.base.length) : (mkBO (dblB b) β pr).first.getD o 0 = (mkBO b β pr).first.getD o 0 ∧ (mkBO (dblB b) β pr).first.getD (b.base.length + o) 0 = (laterL b).getD o 0 := by
  cases pr with
  | none => exact ⟨dbl_lo hv h, dbl_hi hv h⟩
  | some P => exact firstD hv (P := P) h
theorem dist_both (β : Nat) (pr : Option BO) (p : Nat) (hp : β ≤ p) : (mkBO (dblB b) β pr).dist p = (mkBO b β pr).dist p := by
  obtain ⟨x, rfl⟩ := Nat.le.dest hp
  have hn := hv.pos
  have hl := dbl_len hv
  unfold BO.dist
  show (if (β + x - β) / (dblBase b).length = 0 then (mkBO (dblB b) β pr).first.getD ((β + x - β) % (dblBase b).length) 0 else (ext (dblBase b) (ids (dblBase b)) (mapL b b.turn) (dblBase b).length (ids (dblBase b))).getD ((β + x - β) % (dblBase b).length) 0) =
    if (β + x - β) / b.base.length = 0 then (mkBO b β pr).first.getD ((β + x - β) % b.base.length) 0 else (laterL b).getD ((β + x - β) % b.base.length) 0
  rw [Nat.add_sub_cancel_left]
  have h2 : 0 < (dblBase b).length := by omega
  have hw := Nat.mod_lt x h2
  have he := Nat.div_add_mod x (dblBase b).length
  generalize hq : x / (dblBase b).length = q at *
  generalize hr : x % (dblBase b).length = w at *
  have hx : x = b.base.length * (2 * q) + w := by
    rw [← he, hl, Nat.mul_comm 2 q, ← Nat.mul_assoc, Nat.mul_comm (b.base.length * q) 2, Nat.two_mul, ← Nat.add_mul]
  rcases Nat.lt_or_ge w b.base.length with c | c
  · have d1 : x / b.base.length = 2 * q := by rw [hx, Nat.mul_add_div hn, Nat.div_eq_of_lt c, Nat.add_zero]
    have d2 : x % b.base.length = w := by rw [hx, Nat.mul_add_mod, Nat.mod_eq_of_lt c]
    rw [d1, d2, (first_both hv β pr c).1, (laterD hv c).1]
    by_cases z : q = 0
    · rw [if_pos z, if_pos (by omega)]
    · rw [if_neg z, if_neg (by omega)]
  · obtain ⟨w', rfl⟩ := Nat.le.dest c
    have c' : w' < b.base.length := by omega
    have hx2 : x = b.base.length * (2 * q + 1) + w' := by
      rw [hx, Nat.mul_add, Nat.mul_one, Nat.add_assoc]
    have d1 : x / b.base.length = 2 * q + 1 := by rw [hx2, Nat.mul_add_div hn, Nat.div_eq_of_lt c', Nat.add_zero]
    have d2 : x % b.base.length = w' := by rw [hx2, Nat.mul_add_mod, Nat.mod_eq_of_lt c']
    rw [d1, d2, (first_both hv β pr c').2, (laterD hv c').2, if_neg (show ¬ 2 * q + 1 = 0 by omega)]
    split <;> rfl
end
end HB
/-! the doubled sequence is valid and says the same -/
namespace HB
section
variable {b : Blk} {np : Nat} (hv : ValidB b np)
include hv
theorem valid_mapL {m : List (Nat × Nat)} {a : Nat} (hm : ValidM m a (nz b.base)) : ValidM (mapL b m) a (nz (dblBase b)) where
  lt := fun p hp => by
    obtain ⟨q, hq, rfl⟩ := List.mem_map.mp hp
    obtain ⟨h1, h2⟩ := hm.lt q hq
    obtain ⟨j, g1, g2, g3, g4⟩ := later_last hv h2
    refine ⟨h1, ?_⟩
    show (laterF b q.2).getD 0 < _
    rw [g3]
    have hl := dbl_len hv
    exact ids_lt (dists_valid _ : ValidD (dblBase b)) _ (List.mem_of_getElem? (ids_get (xs := dblBase b) (o := b.base.length + j) (by omega)))
  asc := List.pairwise_map.mpr (hm.asc.imp fun h => h)
  inj := by
    have e : (mapL b m).map (·.2) = (m.map (·.2)).map fun t => (laterF b t).getD 0 := by
      unfold mapL
      rw [List.map_map, List.map_map]
      rfl
    rw [e]
    refine List.pairwise_map.mpr (hm.inj.imp_of_mem fun {s t} hs ht hne e2 => hne ?_)
    obtain ⟨q, hq, rfl⟩ := List.mem_map.mp hs
    obtain ⟨r, hr, rfl⟩ := List.mem_map.mp ht
    have hs' := (hm.lt q hq).2
    have ht' := (hm.lt r hr).2
    obtain ⟨i, _, _, h3, _⟩ := later_last hv hs'
    obtain ⟨j, _, _, g3, _⟩ := later_last hv ht'
    refine laterF_inj hv hs' ht' ?_
    rw [h3, g3] at e2 ⊢
    exact congrArg some e2
theorem valid_dbl (h12 : b.base.length ≤ 12) (hc : ∃ h, b.cnt = 2 * h ∧ 1 ≤ h) : ValidB (dblB b) np where
  base := dists_valid _
  pos := by
    have := dbl_len hv
    have := hv.pos
    show 1 ≤ (dblBase b).length
    omega
  most := by
    have := dbl_len hv
    show (dblBase b).length ≤ 40
    omega
  link := ⟨fun p hp => ⟨Nat.lt_of_lt_of_le (hv.link.lt p hp).1 (dbl_nz hv), (hv.link.lt p hp).2⟩, hv.link.asc, hv.link.inj⟩
  turn := by
    have h := valid_mapL hv hv.turn
    exact ⟨fun p hp => ⟨Nat.lt_of_lt_of_le (h.lt p hp).1 (dbl_nz hv), (h.lt p hp).2⟩, h.asc, h.inj⟩
  one := by
    obtain ⟨h, e, h1⟩ := hc
    show 1 ≤ b.cnt / 2
    omega
  many := by
    have := hv.many
    show b.cnt / 2 ≤ _
    omega
theorem valid_next {c : Blk} (hc : ValidB c (nz b.base)) : ValidB ⟨c.base, mapL b c.link, c.turn, c.cnt⟩ (nz (dblBase b)) := ⟨hc.base, hc.pos, hc.most, valid_mapL hv hc.link, hc.turn, hc.one, hc.many⟩
theorem next_first {c : Blk} (hc : ValidB c (nz b.base)) (β fin : Nat) (pr : Option BO) : (mkBO ⟨c.base, mapL b c.link, c.turn, c.cnt⟩ fin (some (mkBO (dblB b) β pr))).first = (mkBO c fin (some (mkBO b β pr))).first := by
  show ext c.base (ids c.base) (mapL b c.link) (dblBase b).length (ids (dblBase b)) = ext c.base (ids c.base) c.link b.base.length (ids b.base)
  unfold ext
  refine List.map_congr_left fun o _ => ?_
  by_cases z : c.base.getD o 0 = 0
  · rw [if_pos z, if_pos z, lk_mapL]
    cases e : lk c.link ((ids c.base).getD o 0) with
    | none => rfl
    | some t => exact map_dist hv (hc.link.lt _ (lk_mem e)).2
  · rw [if_neg z, if_neg z]
end
theorem dAt_head {B B' : BO} {r : List BO} (h1 : B.beg = B'.beg) (h2 : B.fin = B'.fin) (h3 : ∀ p, B.dist p = B'.dist p) (p : Nat) : dAt (B :: r) p = dAt (B' :: r) p := by
  show (if B.beg ≤ p ∧ p < B.fin then B.dist p else dAt r p) = if B'.beg ≤ p ∧ p < B'.fin then B'.dist p else dAt r p
  rw [h1, h2, h3]
end HB
/-! doubling: the plain law -/
namespace HB
theorem eqv_mid {A C C' : List Blk} {b b' : Blk} (hs : VS (A ++ (b :: C))) (hu : VS (A ++ (b' :: C')))
    (hn : ∀ β pr, (mkBO b' β pr).fin = (mkBO b β pr).fin) (hd : ∀ β pr p, β ≤ p → (mkBO b' β pr).dist p = (mkBO b β pr).dist p)
    (hT : ∀ β pr, nextB (mkBOs C (mkBO b β pr).fin (some (mkBO b β pr))) (mkBO b β pr).fin = nextB (mkBOs C' (mkBO b β pr).fin (some (mkBO b' β pr))) (mkBO b β pr).fin ∧ ∀ p, dAt (mkBOs C (mkBO b β pr).fin (some (mkBO b β pr))) p = dAt (mkBOs C' (mkBO b β pr).fin (some (mkBO b' β pr))) p) : Eqv (A ++ (b :: C)) (A ++ (b' :: C')) := by
  have e1 : boS (A ++ (b :: C)) = boS A ++ mkBOs (b :: C) (nextB (boS A) 0) (lastOr (boS A) none) := mkBOs_app ..
  have e2 : boS (A ++ (b' :: C')) = boS A ++ mkBOs (b' :: C') (nextB (boS A) 0) (lastOr (boS A) none) := mkBOs_app ..
  have c1 := chB_boS hs.valid
  have c2 := chB_boS hu.valid
  generalize hβ : nextB (boS A) 0 = β at *
  generalize lastOr (boS A) none = pr at *
  have e1 : boS (A ++ (b :: C)) = boS A ++ (mkBO b β pr :: mkBOs C (mkBO b β pr).fin (some (mkBO b β pr))) := e1
  have e2 : boS (A ++ (b' :: C')) = boS A ++ (mkBO b' β pr :: mkBOs C' (mkBO b' β pr).fin (some (mkBO b' β pr))) := e2
  rw [hn β pr] at e2
  obtain ⟨t1, t2⟩ := hT β pr
  have hn2 : tot (boS (A ++ (b :: C))) = tot (boS (A ++ (b' :: C'))) := by
    rw [tot_next, tot_next, e1, e2, nextB_app, nextB_app, nextB_cons, nextB_cons, hn β pr]
    exact t1
  refine ⟨hs, hu, hn2, fun p hp => ?_⟩
  rw [e1] at c1 ⊢
  rw [e2] at c2 ⊢
  rw [dAt_app c1 p (Nat.zero_le _), dAt_app c2 p (Nat.zero_le _), hβ]
  by_cases q : p < β
  · rw [if_pos q, if_pos q]
  · rw [if_neg q, if_neg q]
    show (if β ≤ p ∧ p < (mkBO b β pr).fin then (mkBO b β pr).dist p else dAt (mkBOs C _ _) p) = if β ≤ p ∧ p < (mkBO b' β pr).fin then (mkBO b' β pr).dist p else dAt (mkBOs C' _ _) p
    rw [hn β pr, hd β pr p (by omega), t2 p]
theorem eqv_dbl {s : List Blk} (hV : VL s) {i : Nat} {b : Blk} (hb : s[i]? = some b) : Eqv s (dblS s i b) := by
  have hs := split_at hb
  have hvb := validS_take hV.vs.valid hb
  have hbm : b ∈ s := List.mem_of_getElem? hb
  have h12 := hV.len b hbm
  obtain ⟨-, hcnt⟩ := hV.cnt b hbm
  have hlen := congrArg List.length hs
  have hi := (List.getElem?_eq_some_iff.mp hb).1
  have hAl : (s.take i).length = i := by rw [List.length_take]; omega
  have hnext : s[i + 1]? = (s.drop (i + 1))[0]? := by rw [List.getElem?_drop]
  have hvs := hV.vs
  have few := hV.few
  have hdef : dblS s i b = match s[i + 1]? with
    | some c => (s.take i ++ [dblB b] ++ s.drop (i + 1)).set (i + 1) ⟨c.base, mapL b c.link, c.turn, c.cnt⟩
    | none => s.take i ++ [dblB b] ++ s.drop (i + 1) := rfl
  rw [hnext] at hdef
  rw [hdef]
  clear hdef hnext
  generalize s.take i = A at *
  generalize s.drop (i + 1) = C at *
  have e0 : s = A ++ (b :: C) := by
    rw [hs, List.append_assoc]
    rfl
  have hl : s.length = A.length + 1 + C.length := by rw [hlen]; simp; omega
  have hval := hvs.valid
  rw [e0] at hval hvs
  obtain ⟨va, vb⟩ := (validS_app ..).mp hval
  have hfin : ∀ β pr, (mkBO (dblB b) β pr).fin = (mkBO b β pr).fin := fun β pr => by
    obtain ⟨h, e, -⟩ := hcnt
    show β + (dblBase b).length * (b.cnt / 2) = β + b.base.length * b.cnt
    rw [dbl_len hvb, e, Nat.mul_div_cancel_left _ (by decide), ← Nat.two_mul, Nat.mul_comm 2, Nat.mul_assoc]
  have hdd := fun β pr p hp => dist_both hvb β pr p hp
  have vd := valid_dbl hvb h12 hcnt
  rw [e0]
  cases C with
  | nil =>
    show Eqv _ (A ++ [dblB b] ++ [])
    rw [List.append_nil]
    refine eqv_mid hvs ⟨(validS_app ..).mpr ⟨va, vd, True.intro⟩, by simp, by simp at hl ⊢; omega⟩ hfin hdd fun β pr => ⟨rfl, fun p => rfl⟩
  | cons c r =>
    have hvc : ValidB c (nz b.base) := vb.2.1
    show Eqv _ ((A ++ [dblB b] ++ (c :: r)).set (i + 1) ⟨c.base, mapL b c.link, c.turn, c.cnt⟩)
    have eset : (A ++ [dblB b] ++ (c :: r)).set (i + 1) ⟨c.base, mapL b c.link, c.turn, c.cnt⟩ = A ++ (dblB b :: ⟨c.base, mapL b c.link, c.turn, c.cnt⟩ :: r) := by
      rw [List.set_append_right _ _ (by simp; omega)]
      have : i + 1 - (A ++ [dblB b]).length = 0 := by simp; omega
      rw [this, List.append_assoc]
      rfl
    rw [eset]
    have vn : ValidB ⟨c.base, mapL b c.link, c.turn, c.cnt⟩ (nz (dblB b).base) := valid_next hvb hvc
    refine eqv_mid hvs ⟨(validS_app ..).mpr ⟨va, vd, vn, vb.2.2⟩, by simp; omega, by simp at hl ⊢; omega⟩ hfin hdd fun β pr => ?_
    have hfst := next_first hvb hvc β (mkBO b β pr).fin pr
    have hr : mkBOs r (mkBO ⟨c.base, mapL b c.link, c.turn, c.cnt⟩ (mkBO b β pr).fin (some (mkBO (dblB b) β pr))).fin (some (mkBO ⟨c.base, mapL b c.link, c.turn, c.cnt⟩ (mkBO b β pr).fin (some (mkBO (dblB b) β pr)))) = mkBOs r (mkBO c (mkBO b β pr).fin (some (mkBO b β pr))).fin (some (mkBO c (mkBO b β pr).fin (some (mkBO b β pr)))) := mkBOs_prev rfl rfl
    show nextB (mkBO c (mkBO b β pr).fin (some (mkBO b β pr)) :: mkBOs r _ _) _ = nextB (mkBO ⟨c.base, mapL b c.link, c.turn, c.cnt⟩ (mkBO b β pr).fin (some (mkBO (dblB b) β pr)) :: mkBOs r _ _) _ ∧ ∀ p, dAt (mkBO c (mkBO b β pr).fin (some (mkBO b β pr)) :: mkBOs r _ _) p = dAt (mkBO ⟨c.base, mapL b c.link, c.turn, c.cnt⟩ (mkBO b β pr).fin (some (mkBO (dblB b) β pr)) :: mkBOs r _ _) p
    rw [hr, nextB_cons, nextB_cons]
    refine ⟨rfl, fun p => dAt_head (B := mkBO c (mkBO b β pr).fin (some (mkBO b β pr))) (B' := mkBO ⟨c.base, mapL b c.link, c.turn, c.cnt⟩ (mkBO b β pr).fin (some (mkBO (dblB b) β pr))) rfl rfl (fun p => ?_) p⟩
    unfold BO.dist
    rw [hfst]
    rfl
end HB
/-! what the derived sequences say -/
namespace HB
/-! the same distances, the same answers -/
theorem cnt_congr {P Q : Nat → Bool} : ∀ {n : Nat}, (∀ q, q < n → P q = Q q) → cnt P n = cnt Q n
  | 0, _ => rfl
  | n + 1, h => by
    show cnt P n + _ = cnt Q n + _
    rw [cnt_congr fun q hq => h q (by omega), h n (by omega)]
theorem root_congr {d e : Nat → Nat} (p : Nat) (h : ∀ q, q ≤ p → d q = e q) : root d p = root e p := by
  induction p using Nat.strongRecOn with
  | _ p ih =>
    rw [root_eq d p, root_eq e p, h p (Nat.le_refl _)]
    by_cases c : 0 < e p ∧ e p ≤ p
    · rw [if_pos c, if_pos c]
      exact ih _ (by omega) fun q hq => h q (by omega)
    · rw [if_neg c, if_neg c]
theorem symP_congr {d e : Nat → Nat} {N p q : Nat} (h : ∀ q, q < N → d q = e q) (hp : p < N) (hq : q < N) : symP d p q = symP e p q := by
  unfold symP
  rw [root_congr p fun x hx => h x (by omega), root_congr q fun x hx => h x (by omega)]
theorem cnt_mono {P : Nat → Bool} : ∀ {n m : Nat}, n ≤ m → cnt P n ≤ cnt P m
  | n, 0, h => by
    rw [show n = 0 by omega]
    exact Nat.le_refl _
  | n, m + 1, h => by
    rcases Nat.lt_or_ge n (m + 1) with c | c
    · exact Nat.le_trans (cnt_mono (show n ≤ m by omega)) (Nat.le_add_right ..)
    · rw [show n = m + 1 by omega]
      exact Nat.le_refl _
theorem cnt_step {P : Nat → Bool} {p m : Nat} (h : P p = true) (hm : p < m) : cnt P p < cnt P m := by
  have : cnt P (p + 1) = cnt P p + 1 := by
    show cnt P p + _ = _
    rw [h]
    rfl
  have := cnt_mono (P := P) (show p + 1 ≤ m by omega)
  omega
theorem nthP_uniq {P Q : Nat → Bool} {N i : Nat} {a b : Option Nat} (hPQ : ∀ q, q < N → P q = Q q) (ha : NthP P N i a) (hb : NthP Q N i b) : a = b := by
  have hb : NthP P N i b := by
    cases b with
    | none =>
      show cnt P N ≤ i
      rw [cnt_congr hPQ]
      exact hb
    | some q =>
      obtain ⟨h1, h2, h3⟩ := hb
      exact ⟨h1, by rw [hPQ q h1]; exact h2, by rw [cnt_congr fun x hx => hPQ x (by omega)]; exact h3⟩
  cases a with
  | none =>
    cases b with
    | none => rfl
    | some q =>
      obtain ⟨h1, h2, h3⟩ := hb
      have := cnt_step h2 h1
      have ha : cnt P N ≤ i := ha
      omega
  | some p =>
    obtain ⟨g1, g2, g3⟩ := ha
    cases b with
    | none =>
      have := cnt_step g2 g1
      have hb : cnt P N ≤ i := hb
      omega
    | some q =>
      obtain ⟨h1, h2, h3⟩ := hb
      rcases Nat.lt_trichotomy p q with c | c | c
      · have := cnt_step g2 c
        omega
      · rw [c]
      · have := cnt_step h2 c
        omega
theorem Eqv.win {s u : List Blk} (E : Eqv s u) {p n : Nat} (h : p + n ≤ tot (boS s)) : win (dAt (boS s)) p n = win (dAt (boS u)) p n := by
  unfold HB.win
  refine List.map_congr_left fun i hi => ?_
  have := List.mem_range.mp hi
  rw [E.d (p + i) (by omega)]
theorem Eqv.before {s u : List Blk} (E : Eqv s u) {p : Nat} (h : p < tot (boS s)) : cnt (symP (dAt (boS s)) p) p = cnt (symP (dAt (boS u)) p) p := cnt_congr fun q hq => symP_congr E.d h (by omega)
theorem Eqv.total {s u : List Blk} (E : Eqv s u) {p : Nat} (h : p < tot (boS s)) : cnt (symP (dAt (boS s)) p) (tot (boS s)) = cnt (symP (dAt (boS u)) p) (tot (boS u)) := by
  rw [← E.n]
  exact cnt_congr fun q hq => symP_congr E.d h hq
theorem Eqv.new {s u : List Blk} (E : Eqv s u) {p : Nat} (h : p ≤ tot (boS s)) : ((boS s).map fun B => B.zb p).sum = ((boS u).map fun B => B.zb p).sum := by
  rw [new_plain E.v1 h, new_plain E.v2 (by rw [← E.n]; exact h)]
  exact cnt_congr fun q hq => by rw [E.d q (by omega)]
theorem Eqv.same {s u : List Blk} (E : Eqv s u) {p q : Nat} (h : p < tot (boS s)) (h' : q < tot (boS s)) : decide (root (dAt (boS s)) p = root (dAt (boS s)) q) = decide (root (dAt (boS u)) p = root (dAt (boS u)) q) := by
  rw [root_congr p fun x hx => E.d x (by omega), root_congr q fun x hx => E.d x (by omega)]
theorem Eqv.matches_ {s u : List Blk} (E : Eqv s u) {pat : List Nat} (h1 : 1 ≤ pat.length) {p : Nat} (h : p ≤ tot (boS s)) : numB (boS s) pat p = numB (boS u) pat p := by
  rw [match_plain E.v1 h1 h, match_plain E.v2 h1 (by rw [← E.n]; exact h), ← E.n]
  refine cnt_congr fun q hq => ?_
  by_cases c : q + pat.length ≤ tot (boS s)
  · rw [E.win c]
  · rw [decide_eq_false fun z => c z.1, decide_eq_false fun z => c z.1]
theorem Eqv.nth {s u : List Blk} (E : Eqv s u) {p n : Nat} (h : p < tot (boS s)) {a b : Option Nat} (ha : NthP (symP (dAt (boS s)) p) (tot (boS s)) n a) (hb : NthP (symP (dAt (boS u)) p) (tot (boS u)) n b) : a = b := by
  rw [← E.n] at hb
  exact nthP_uniq (fun q hq => symP_congr E.d h hq) ha hb
theorem Eqv.nthNew {s u : List Blk} (E : Eqv s u) (n : Nat) : HB.nthNew (boS s) n = HB.nthNew (boS u) n := by
  have h1 := nthNew_plain E.v1 n
  have h2 := nthNew_plain E.v2 n
  rw [← E.n] at h2
  exact nthP_uniq (fun q hq => by rw [E.d q hq]) h1 h2
end HB
/-! own rules: ranges of any ints, an attribute as a target, enumerate over zip, a list's index of an instance -/
namespace HB
open PySem PySem.Spec PyProof.Rows L2

/-! ### range(a, b), a and b of any size -/
theorem turn_long {P : Program} {w : World} {K : PySem.W.Frag} {tg : Expr} (it : Addr) (lo : Int) (n : Nat) :
    Turn P w K tg (Itr lo n) [it] it (fun i h => IsLongIter h it (lo + (i : Nat) * 1) ((n : Int) - (i : Nat)) 1) where
  mem := List.mem_singleton.mpr rfl
  obj := fun i h st b hb => by
    obtain rfl : b = it := List.mem_singleton.mp hb
    exact ⟨_, st, fun v z => nomatch (show Data.fields _ = Data.cell v from z)⟩
  keep := fun i h h' st k => k it (List.mem_singleton.mpr rfl) _ st
  item := by
    intro X e1 e2 e3 hc i pins s σ H E I hf st hg
    subst e1 e2 e3
    obtain ⟨f0, f1, f2, f3, f4, f5⟩ := hf it (List.mem_singleton.mpr rfl)
    refine (Walks.longrange (prog := X.prog) (w := X.w) (I.ok.hd hc) it lo 1 n).item i s _ _ hg st fun v h' tk hv st' kk => ?_
    obtain ⟨t, rfl⟩ := hv
    have J : Inv X pins σ H { s with heap := h', toks := tk } := I.turned (fun b o hb e => kk b o (fun z => hb (List.mem_singleton.mp z)) e) f0 f1 f3 f4 f5
    refine ⟨_, rfl, go_of (s := { s with heap := h', toks := tk }) (n := "longrange_iterator") st' rfl rfl (by decide) ⟨.int (lo + i), H, J, ⟨t, ?_⟩, ⟨rfl, rfl⟩, st', fun b hb => (hf b hb).1⟩⟩
    rw [Int.mul_one]
  done := by
    intro X e1 e2 e3 hc i pins s σ H E I hf st hg
    subst e1 e2 e3
    obtain ⟨f0, f1, f2, f3, f4, f5⟩ := hf it (List.mem_singleton.mpr rfl)
    have hg' : n ≤ i := hg
    exact wpAny_pyNext_long_end (I.ok.hd hc) st (by omega) fun h' eb => ⟨rfl, I.turned (t' := s.toks) (fun b o hb e => eb b o hb e) f0 f1 f3 f4 f5⟩
  self := fun A i s Q E st h => wpAny_pyIter_longiter st h
section
variable {X : Cx} {tg : Expr}
theorem rangeW_it {pins : List (Addr × Obj)} {σ : L2.St} {H : Hp} {s : Shared} {R : It → Hp → Prop} {E : Value → Shared → Prop} {lo hi : Int} {t u v : Tok} {tk : Nat} (I : Inv X pins σ H s)
    (q : R (Itr lo (hi - lo).toNat) H) :
    wpAny (model X.prog X.w) X.A (pyIter (.ref s.heap.objs.size)) (PIE X pins σ tg R) E { s with heap := s.heap.push { cls := .type "range", data := .fields #[.int lo t, .int hi u, .int 1 v] }, toks := tk } := by
  have J : Inv X pins σ H { s with heap := s.heap.push { cls := .type "range", data := .fields #[.int lo t, .int hi u, .int 1 v] }, toks := tk } := I.kept fun b o e => Heap.get?_push_of_some _ e
  have e1 : lo + ((0 : Nat) : Int) * 1 = lo := by omega
  have e2 : (((hi - lo).toNat : Nat) : Int) - ((0 : Nat) : Int) = Builtin.Range.rangeSize lo hi 1 := by
    rw [rangeSize_one]
    split <;> omega
  cases sm : Builtin.Range.small lo hi 1 with
  | true =>
    refine wpAny_pyIter_range (IsRange.new ..) sm ?_
    refine ⟨_, [_], _, _, H, rfl, J.kept (t' := tk) fun b o e => Heap.get?_push_of_some _ e, turn_range _ lo (hi - lo).toNat, ?_, fun b hb => ?_, q⟩
    · show IsRangeIter _ _ (lo + ((0 : Nat) : Int) * 1) ((((hi - lo).toNat : Nat) : Int) - ((0 : Nat) : Int)) 1
      rw [e1, e2]
      exact Heap.get?_push_size _ rfl
    · obtain rfl := List.mem_singleton.mp hb
      exact J.fpOk (Nat.le_refl _) (J.hok.fresh (Nat.le_refl _))
  | false =>
    refine wpAny_pyIter_longrange (IsRange.new ..) sm ?_
    refine ⟨_, [_], _, _, H, rfl, J.kept (t' := tk) fun b o e => Heap.get?_push_of_some _ e, turn_long _ lo (hi - lo).toNat, ?_, fun b hb => ?_, q⟩
    · show IsLongIter _ _ (lo + ((0 : Nat) : Int) * 1) ((((hi - lo).toNat : Nat) : Int) - ((0 : Nat) : Int)) 1
      rw [e1, e2]
      exact Heap.get?_push_size _ rfl
    · obtain rfl := List.mem_singleton.mp hb
      exact J.fpOk (Nat.le_refl _) (J.hok.fresh (Nat.le_refl _))
def iRngW (ta : TA) : TI := fun σ H R => ta σ H fun vs H1 => ∃ i j : Int, vs = [.int i, .int j] ∧ R (Itr i (j - i).toNat) H1
theorem pi_range2W {a b : Expr} {ta : TA} {p pos : Pos} (hg : Gl X "range") (hm : X.mg "range" = none) (ha : PA X [a, b] ta)
    (hs : starEach [a, b] X.env = [(false, eval a X.env), (false, eval b X.env)] := by rfl) (hs2 : starEach [b] X.env = [(false, eval b X.env)] := by rfl) :
    PI X tg (.Call (.Name "range" p) [a, b] [] pos) (iRngW ta) := by
  refine ⟨fun pins s σ H R I h => Call_ (ld_blt I hg hm boot_range (PyProof.Rows.callWith_type1 (thn (ha.run pos pins s σ H _ I h) fun us s1 ⟨vs, H1, I1, r1, q1⟩ => ?_) (by rw [hs, hs2]) (by rw [hs2]; rfl)))⟩
  obtain ⟨i, j, rfl, q⟩ := q1
  obtain ⟨u, u', rfl, ⟨t, rfl⟩, ⟨t', rfl⟩⟩ := vals2 r1
  exact call_range_2 (rangeW_it I1 q)
end

/-! ### an attribute as a target of an unpacking -/
section
variable {X : Cx}
def gFld (K : PySem.W.Frag) (ta : TE) (f : Str) : TG := fun v σ H Q => ta σ H fun x H1 => ∃ a C dx fs, x = .ref a ∧ H1 a = some (.ins C dx fs) ∧ Cls K C ∧ NoAttr K C f ∧ fs.length < 1000 ∧ Q σ (upd H1 a (.ins C dx (putF f v fs)))
theorem pg_fld {o : Expr} {f : Str} {pos : Pos} {ta : TE} (ha : PE X o ta) : PG X (.Attribute o f pos) (gFld X.K ta f) := by
  refine ⟨fun pins s σ H v u Q I r h => PySem.W.kas_attr (thn (ha.run pins s σ H _ I h) fun ov s1 ⟨x, H1, I1, rx, a, C, dx, fs, ex, ea, c, n, l, q⟩ => ?_)⟩
  subst ex
  obtain rfl : ov = Value.ref a := rx
  exact setattr_ok I1 ea c n l r fun s2 I2 => ⟨σ, _, I2, q⟩
end
end HB
namespace HB
open PySem PySem.Spec PyProof.Rows L2
/-! ### two instances of one class without an own __eq__, and a list's index of one of them -/
section
variable {prog : Program} {w : World} {A : Around} {E : Value → Shared → Prop} {K : PySem.W.Frag} {C x y : Addr} {ox oy : Obj} {h : Heap} {g : Array GenState} {d : Drawn} {t : Nat} {os : OsState}
/-- what is asked of the class -/
def PlainEq (K : PySem.W.Frag) (C : Addr) : Prop := PySem.W.findIn K (.ref C) "__eq__" = some (some (.builtin "object.__eq__")) ∧ PySem.W.mroIn K C (.type "object") = some true
theorem special_K {M : Model} {name : Str} {r : Option Value} {Q : Option Value → Shared → Prop} (X : K.In h) (hx : h.get? x = some ox) (cx : ox.cls = .ref C) (f : PySem.W.findIn K (.ref C) name = some r)
    (hq : Q r ⟨h, g, d, t, os⟩) : wpAny M A (specialOf (.ref x) name) Q E ⟨h, g, d, t, os⟩ := by
  have L : PySem.W.Looks M h (typeOf (.ref x)) (.ref C) := by
    rw [← cx]
    exact (PySem.W.Looks.ld hx).andThen .now
  exact (L.andThen (PySem.W.looks_findIn X f)).at hq
theorem obj_check {M : Model} {rest : List Value} {Q : Unit → Shared → Prop} (X : K.In h) (hx : h.get? x = some ox) (cx : ox.cls = .ref C) (p : PlainEq K C) (ha : argsOk "object.__eq__" ⟨.ref x :: rest, []⟩)
    (hq : Q () ⟨h, g, d, t, os⟩) : wpAny M A (checkBuiltinCall "object.__eq__" ⟨.ref x :: rest, []⟩) Q E ⟨h, g, d, t, os⟩ := by
  simp only [PySem.F.cmpKind_eq, PySem.F.cmpSplit_eq, checkBuiltinCall]
  have L : PySem.W.Looks M h (typeOf (.ref x)) (.ref C) := by
    rw [← cx]
    exact (PySem.W.Looks.ld hx).andThen .now
  have L2 : PySem.W.Looks M h (isInstance (.ref x) (.type "object")) true := L.andThen (PySem.W.looks_mroIn X p.2)
  refine wpAny_bind (L2.at ?_)
  cases hsig : Manifest.signature? "object.__eq__" with
  | none => exact wpAny_pure hq
  | some sig =>
    simp only [hsig, argsOk] at ha
    show wpAny M A (Bind.checkArgs "object.__eq__" sig ⟨.ref x :: rest, []⟩) Q E _
    rw [show Bind.checkArgs "object.__eq__" sig ⟨.ref x :: rest, []⟩ = pure () from ha]
    exact wpAny_pure hq
theorem objEq_call (X : K.In h) (hx : h.get? x = some ox) (cx : ox.cls = .ref C) (p : PlainEq K C) (hy : h.get? y = some oy) (hxy : x ≠ y) {Q : Value → Shared → Prop} (hq : Q .notImplemented ⟨h, g, d, t, os⟩) :
    wpAny (model prog w) A (call (.builtin "object.__eq__") [.ref x, .ref y]) Q E ⟨h, g, d, t, os⟩ :=
  wpAny_call (codeAny_call_builtin PySem.F.cmp_object.eq.plain PySem.F.cmpEntry_eq (obj_check X hx cx p (PySem.F.cmpArgs_eq _ _)
    (objEq_entry_other hxy hx hy (by rw [cx]; exact fun z => nomatch z) hq)))
theorem tryEq_K (X : K.In h) (hx : h.get? x = some ox) (cx : ox.cls = .ref C) (p : PlainEq K C) (hy : h.get? y = some oy) (hxy : x ≠ y) {Q : Option Value → Shared → Prop} (hq : Q none ⟨h, g, d, t, os⟩) :
    wpAny (model prog w) A (tryCompare (.ref x) "__eq__" (.ref y)) Q E ⟨h, g, d, t, os⟩ := by
  simp only [tryCompare, bindSpecialIfBound?, callSpecialIfBound?]
  refine wpAny_bind (wpAny_holding (wpAny_bind (wpAny_bind (special_K X hx cx p.1 ?_))))
  have hb := (PySem.F.cmp_object.eq).bind (.ref x)
  have fin : wpAny (model prog w) A (call (.builtin "object.__eq__") ([.ref x] ++ [.ref y]) >>= fun v => pure (some v)) (fun r s' => wpAny (model prog w) A (match r with
      | some .notImplemented | none => pure none
      | some v => pure (some v)) Q E s') E ⟨h, g, d, t, os⟩ :=
    wpAny_bind (objEq_call X hx cx p hy hxy (wpAny_pure (wpAny_pure hq)))
  simp only [hb]
  refine wpAny_bind (wpAny_askSetting (wpAny_ite ?_))
  split
  · exact wpAny_bind (wpAny_pure (wpAny_pure fin))
  · exact wpAny_tryCatch (wpAny_bind (wpAny_pure (wpAny_pure fin)))
/-- richCompare of two of them: not equal -/
theorem rich_other (X : K.In h) (p : PlainEq K C) (hx : h.get? x = some ox) (cx : ox.cls = .ref C) (hy : h.get? y = some oy) (cy : oy.cls = .ref C) (hxy : x ≠ y) (hu : A.units < cLine) {Q : Value → Shared → Prop}
    (hq : Q (.bool false) ⟨h, g, d, t, os⟩) : wpAny (model prog w) A (richCompare .Eq (.ref x) (.ref y)) Q E ⟨h, g, d, t, os⟩ := by
  simp only [oneThing_ref, cmpInfo_Eq, richCompare]
  have hnt : ox.cls ≠ .type "tuple" := by
    rw [cx]
    intro z
    cases z
  have one : ∀ {α : Type} (a b : Sem α), (if Value.ref C != Value.ref C then a else b) = b := fun a b => if_neg (by simp)
  repeat (first
    | with_reducible refine wpAny_cRoomFor hu ?_
    | (with_reducible refine wpAny_loadPart_at hx ?_; rw [cx])
    | (with_reducible refine wpAny_loadPart_at hy ?_; rw [cy, one])
    | with_reducible refine tryEq_K X hx cx p hy hxy ?_
    | with_reducible refine tryEq_K X hy cy p hx (Ne.symm hxy) ?_
    | with_reducible refine wpAny_isSame_ref_other hxy hx hy hnt ?_
    | wp_step)
  exact hq
end
section
variable {X : Cx} {C : Addr}
def rIndexI (K : PySem.W.Frag) (C : Addr) : V → List V → Hp → VK → Prop := fun x xs H Q => ∃ (a : Addr) (ps : List Addr) (b : Addr), x = V.ref a ∧ xs = [V.ref b] ∧ SqL K H a (ps.map V.ref) ∧ (∀ q ∈ ps, ∃ dx fs, H q = some (.ins C dx fs)) ∧ b ∈ ps ∧ Q (.int (ps.idxOf b : Nat)) H
theorem vals_refs {ps : List Addr} : ∀ {us : List Value}, Vals (ps.map V.ref) us → us = ps.map Value.ref := by
  induction ps with
  | nil =>
    intro us r
    cases r
    rfl
  | cons p ps ih =>
    intro us r
    rw [List.map_cons] at r
    cases r with
    | cons r t =>
      rw [ih t, List.map_cons]
      exact congrArg (· :: _) r
theorem mt_indexI (p : PlainEq X.K C) (hu : X.A.units + 1 < cLine) : MtR X "list.index" (rIndexI X.K C) := by
  intro pins s σ H x xs v us Q I rx rxs h
  obtain ⟨a, ps, b, rfl, rfl, hs, hi, hb, q⟩ := h
  obtain rfl : v = Value.ref a := rx
  obtain ⟨u, rfl, rfl⟩ := vals1 rxs
  obtain ⟨its, rv, hl, hz⟩ := I.list hs
  obtain rfl := vals_refs rv
  have inst : ∀ q ∈ ps, ∃ o, s.heap.get? q = some o ∧ o.cls = .ref C := fun q hq => by
    obtain ⟨dx, fs, e⟩ := hi q hq
    obtain ⟨_, _, _, e', _⟩ := (show ObjOk X.prog X.w H s.heap q (.ins C dx fs) from I.hok q _ e)
    exact ⟨_, e', rfl⟩
  have eqs : SeqAt.ItemsEq X.A.in1 s (ps.map Value.ref) ps (.ref b) b := by
    refine ⟨List.length_map .., fun j h1 h2 => ?_⟩
    rw [List.getElem_map]
    by_cases e : ps[j] = b
    · rw [e, decide_eq_true rfl]
      exact SeqAt.EqAt.same _
    · rw [decide_eq_false e]
      obtain ⟨o1, g1, c1⟩ := inst _ (List.getElem_mem h2)
      obtain ⟨o2, g2, c2⟩ := inst _ hb
      refine SeqAt.EqAt.of_refs e fun prog w E Q hq => ?_
      exact rich_other I.kIn p g1 c1 g2 c2 e hu hq
  refine SeqAt.call_list_index hl.isList eqs (by have := rv.length; simp at this hz; omega) hb ?_
  exact ⟨V.int (ps.idxOf b : Nat), H, I.tok _, ⟨_, rfl⟩, q⟩
end
end HB
/-! for i, (x, y) in enumerate(zip(xs, ys)): the zip's tuple is held by the enumerate's -/
namespace HB
open PySem PySem.Spec PyProof.Rows L2
/-- a zip whatever its first two fields -/
abbrev ZipIs (h : Heap) (z TI TO : Addr) (f0 : Value) (f1 : Bool) : Prop :=
  h.get? z = some { cls := .type "zip", dict := none, data := .fields #[f0, .bool f1, .bool false, .ref TI, .ref TO], slots := #[] }
section
variable {prog : Program} {w : World} {A : Around} {E : Value → Shared → Prop} {s : Shared}
/-- its tuple is free (none was given out, or that one is gone) -/
def ZipFree (prog : Program) (w : World) (A : Around) (E : Value → Shared → Prop) (s : Shared) (z : Addr) : Prop :=
  ∀ Q : Bool → Shared → Prop, Q true s → wpAny (model prog w) A (Builtin.SmallTypes.ownedTupleIsFree (.ref z)) Q E s
theorem zipFree_new {z TI TO : Addr} {b : Bool} (hz : ZipIs s.heap z TI TO .none b) : ZipFree prog w A E s z := fun Q q => by
  unfold Builtin.SmallTypes.ownedTupleIsFree
  exact wpAny_bind (wpAny_field hz rfl (x := Value.none) rfl (wpAny_pure q))
theorem gone {a : Addr} {Q : Option Obj → Shared → Prop} (e : s.heap.get? a = none) (q : Q none s) : wpAny (model prog w) A (loadIfAlive a) Q E s := by
  have q' : Q (s.heap.get? a) s := by
    rw [e]
    exact q
  exact fun _ _ _ => q'
theorem zipFree_gone {z TI TO T : Addr} {b : Bool} (hz : ZipIs s.heap z TI TO (rawInt T) b) (hT : s.heap.get? T = none) : ZipFree prog w A E s z := fun Q q => by
  unfold Builtin.SmallTypes.ownedTupleIsFree
  refine wpAny_bind (wpAny_field hz rfl (x := rawInt T) rfl ?_)
  show wpAny _ A (loadIfAlive ((T : Int).toNat) >>= _) Q E s
  rw [Int.toNat_natCast]
  exact wpAny_bind (gone hT (wpAny_pure q))
theorem zipF_item {z TI TO i1 i2 l1 l2 : Addr} {f0 : Value} {f1 : Bool} {k1 k2 : Nat} {xs ys : Array Value} {x y a b : Value} {Q : Value → Shared → Prop} (D : ZipApart z TI TO i1 i2 l1 l2)
    (fr : ZipFree prog w A E s z) (hz : ZipIs s.heap z TI TO f0 f1) (hTI : IsPair s.heap TI (.ref i1) (.ref i2)) (hTO : IsPair s.heap TO a b)
    (p1 : s.heap.IsListIter i1 l1 k1) (p2 : s.heap.IsListIter i2 l2 k2) (hl1 : s.heap.IsList l1 xs) (hl2 : s.heap.IsList l2 ys) (hx : xs[k1]? = some x) (hy : ys[k2]? = some y)
    (hQ : ∀ h', ZipIs h' z TI TO (rawInt s.heap.objs.size) false → IsPair h' TO x y → h'.IsListIter i1 l1 (k1 + 1) → h'.IsListIter i2 l2 (k2 + 1) → IsPair h' s.heap.objs.size x y → h'.objs.size = s.heap.objs.size + 1 →
      (∀ c o, c ≠ z → c ≠ TO → c ≠ i1 → c ≠ i2 → s.heap.get? c = some o → h'.get? c = some o) → Q (.ref s.heap.objs.size) { s with heap := h' }) :
    wpAny (model prog w) A (Builtin.«zip.__next__» ⟨[.ref z], []⟩) (fun fin s' => ∃ v, fin = .done (.ret v) ∧ Q v s') E s := by
  show wpAny _ A (field (.ref z) 2 >>= _) _ E s
  refine wpAny_bind (wpAny_field hz rfl (x := Value.bool false) rfl ?_)
  show wpAny _ A (field (.ref z) 3 >>= _) _ E s
  refine wpAny_bind (wpAny_field hz rfl (x := Value.ref TI) rfl (wpAny_bind (wpAny_seqItems hTI rfl ?_)))
  show wpAny _ A (Builtin.SmallTypes.ownedTupleIsFree (.ref z) >>= _) _ E s
  refine wpAny_bind (fr _ ?_)
  rw [if_pos rfl]
  refine wpAny_bind (wpAny_rule (wpAny_bind (wpAny_field hz rfl (x := Value.ref TO) rfl ?_)))
  refine wpAny_bind (wpAny_setField_rec hz (by simp) fun g1 z1 b1 => ?_)
  replace z1 : ZipIs g1 z TI TO .ellipsis f1 := z1
  refine wpAny_bind ?_
  simp only [List.forIn_cons, List.forIn_nil, List.zipIdx_cons, List.zipIdx_nil]
  refine wpAny_bind (wpAny_bind (wpAny_onRaise ?_))
  show wpAny _ A (Builtin.SmallTypes.nextOf (.ref i1) >>= _) _ _ _
  refine wpAny_bind (wpAny_nextOf_list_item (p1.extBut b1.extBut D.i1z) (hl1.extBut b1.extBut D.l1z) hx fun g2 n1 b2 => wpAny_pure ?_)
  have t2 : IsPair g2 TO a b := b2.extBut _ _ D.TOi1 (b1.extBut _ _ D.TOz hTO)
  refine wpAny_bind (wpAny_seqItems t2 rfl (wpAny_bind (wpAny_updateSeq_pair t2 fun g3 t3 b3 => ?_)))
  replace t3 : IsPair g3 TO x b := t3
  refine wpAny_bind (wpAny_letGo (wpAny_pure (wpAny_bind (wpAny_bind (wpAny_onRaise ?_)))))
  show wpAny _ A (Builtin.SmallTypes.nextOf (.ref i2) >>= _) _ _ _
  refine wpAny_bind (wpAny_nextOf_list_item (((p2.extBut b1.extBut D.i2z).extBut b2.extBut D.i12.symm).extBut b3.extBut D.TOi2.symm)
    (((hl2.extBut b1.extBut D.l2z).extBut b2.extBut D.l2i1).extBut b3.extBut D.l2TO) hy fun g4 n2 b4 => wpAny_pure ?_)
  have t4 : IsPair g4 TO x b := b4.extBut _ _ D.TOi2 t3
  refine wpAny_bind (wpAny_seqItems t4 rfl (wpAny_bind (wpAny_updateSeq_pair t4 fun g5 t5 b5 => ?_)))
  replace t5 : IsPair g5 TO x y := t5
  refine wpAny_bind (wpAny_letGo (wpAny_pure (wpAny_pure ?_)))
  refine wpAny_bind (wpAny_seqItems t5 rfl (wpAny_bind (wpAny_newTuple ?_)))
  have sz : g5.objs.size = s.heap.objs.size := by rw [b5.1, b4.1, b3.1, b2.1, b1.1]
  have z5 : ZipIs g5 z TI TO .ellipsis f1 := b5.extBut _ _ D.TOz.symm (b4.extBut _ _ D.i2z.symm (b3.extBut _ _ D.TOz.symm (b2.extBut _ _ D.i1z.symm z1)))
  have k5 : ∀ c o, c ≠ z → c ≠ TO → c ≠ i1 → c ≠ i2 → s.heap.get? c = some o → g5.get? c = some o := fun c o c1 c2 c3 c4 e =>
    b5.extBut _ _ c2 (b4.extBut _ _ c4 (b3.extBut _ _ c2 (b2.extBut _ _ c3 (b1.extBut _ _ c1 e))))
  have m1 : g5.IsListIter i1 l1 (k1 + 1) := ((n1.extBut b3.extBut D.TOi1.symm).extBut b4.extBut D.i12).extBut b5.extBut D.TOi1.symm
  have m2 : g5.IsListIter i2 l2 (k2 + 1) := n2.extBut b5.extBut D.TOi2.symm
  have lz : z < g5.objs.size := Heap.lt_size z5
  show wpAny _ A (Builtin.SmallTypes.ownedTupleHandOut (.ref z) (.ref g5.objs.size) >>= _) _ _ _
  refine wpAny_bind ?_
  unfold Builtin.SmallTypes.ownedTupleHandOut
  have z6 : ZipIs (g5.push { cls := .type "tuple", data := .seq #[x, y] }) z TI TO .ellipsis f1 := Heap.get?_push_of_some _ z5
  refine wpAny_bind (wpAny_setField_rec z6 (by simp) fun g7 z7 b7 => ?_)
  replace z7 : ZipIs g7 z TI TO (rawInt g5.objs.size) f1 := z7
  refine wpAny_setField_rec z7 (by simp) fun g8 z8 b8 => ?_
  replace z8 : ZipIs g8 z TI TO (rawInt g5.objs.size) false := z8
  have up : ∀ c o, c ≠ z → g5.get? c = some o → g8.get? c = some o := fun c o c1 e => b8.extBut _ _ c1 (b7.extBut _ _ c1 (Heap.get?_push_of_some _ e))
  have q8 : IsPair g8 g5.objs.size x y := b8.extBut _ _ (Nat.ne_of_gt lz) (b7.extBut _ _ (Nat.ne_of_gt lz) (Heap.get?_push_size _ rfl))
  have sz8 : g8.objs.size = g5.objs.size + 1 := by rw [b8.1, b7.1, Heap.size_push]
  rw [sz] at z8 q8 sz8
  refine wpAny_pure ⟨_, rfl, ?_⟩
  show Q (.ref g5.objs.size) _
  rw [sz]
  exact hQ g8 z8 (up _ _ D.TOz t5) (m1.at fun o e => up _ o D.i1z e) (m2.at fun o e => up _ o D.i2z e) q8 sz8 fun c o c1 c2 c3 c4 e => up c o c1 (k5 c o c1 c2 c3 c4 e)
theorem zipF_end {z TI TO i1 i2 l1 l2 : Addr} {f0 : Value} {f1 : Bool} {k1 k2 : Nat} {xs ys : Array Value} {a b : Value} {Q : Fin → Shared → Prop} (hh : A.handled = none) (D : ZipApart z TI TO i1 i2 l1 l2)
    (fr : ZipFree prog w A E s z) (hz : ZipIs s.heap z TI TO f0 f1) (hTI : IsPair s.heap TI (.ref i1) (.ref i2)) (hTO : IsPair s.heap TO a b)
    (p1 : s.heap.IsListIter i1 l1 k1) (p2 : s.heap.IsListIter i2 l2 k2) (hl1 : s.heap.IsList l1 xs) (hl2 : s.heap.IsList l2 ys) (hend : xs[k1]? = none ∨ ys[k2]? = none)
    (hE : ∀ h' e, (∀ c o, c ≠ z → c ≠ TO → c ≠ i1 → c ≠ i2 → s.heap.get? c = some o → h'.get? c = some o) → (∃ o, h'.get? e = some o ∧ o.cls = .type "StopIteration") → E (.ref e) { s with heap := h' }) :
    wpAny (model prog w) A (Builtin.«zip.__next__» ⟨[.ref z], []⟩) Q E s := by
  show wpAny _ A (field (.ref z) 2 >>= _) Q E s
  refine wpAny_bind (wpAny_field hz rfl (x := Value.bool false) rfl ?_)
  show wpAny _ A (field (.ref z) 3 >>= _) _ E s
  refine wpAny_bind (wpAny_field hz rfl (x := Value.ref TI) rfl (wpAny_bind (wpAny_seqItems hTI rfl ?_)))
  show wpAny _ A (Builtin.SmallTypes.ownedTupleIsFree (.ref z) >>= _) _ E s
  refine wpAny_bind (fr _ ?_)
  rw [if_pos rfl]
  refine wpAny_bind (wpAny_rule (wpAny_bind (wpAny_field hz rfl (x := Value.ref TO) rfl ?_)))
  refine wpAny_bind (wpAny_setField_rec hz (by simp) fun g1 z1 b1 => ?_)
  replace z1 : ZipIs g1 z TI TO .ellipsis f1 := z1
  refine wpAny_bind ?_
  simp only [List.forIn_cons, List.forIn_nil, List.zipIdx_cons, List.zipIdx_nil]
  refine wpAny_bind (wpAny_bind (wpAny_onRaise ?_))
  show wpAny _ A (Builtin.SmallTypes.nextOf (.ref i1) >>= _) _ _ _
  cases hx : xs[k1]? with
  | none =>
    refine wpAny_bind (wpAny_nextOf_list_end hh (p1.extBut b1.extBut D.i1z) (hl1.extBut b1.extBut D.l1z) hx fun g2 e b2 he => ?_)
    obtain ⟨oe, ho, hc⟩ := he
    have z2 : ZipIs g2 z TI TO .ellipsis f1 := b2 _ _ D.i1z.symm z1
    have ne : e ≠ z := fun q => by
      subst q
      rw [z2] at ho
      cases ho
      simp at hc
    exact wpAny_setField_rec z2 (by simp) fun g3 _ b3 => hE g3 e (fun c o c1 _ c3 _ q => b3.extBut _ _ c1 (b2 _ _ c3 (b1.extBut _ _ c1 q))) ⟨oe, b3.extBut _ _ ne ho, hc⟩
  | some x =>
    have hy : ys[k2]? = none := by
      rcases hend with h | h
      · rw [hx] at h
        cases h
      · exact h
    refine wpAny_bind (wpAny_nextOf_list_item (p1.extBut b1.extBut D.i1z) (hl1.extBut b1.extBut D.l1z) hx fun g2 n1 b2 => wpAny_pure ?_)
    have t2 : IsPair g2 TO a b := b2.extBut _ _ D.TOi1 (b1.extBut _ _ D.TOz hTO)
    refine wpAny_bind (wpAny_seqItems t2 rfl (wpAny_bind (wpAny_updateSeq_pair t2 fun g3 t3 b3 => ?_)))
    refine wpAny_bind (wpAny_letGo (wpAny_pure (wpAny_bind (wpAny_bind (wpAny_onRaise ?_)))))
    show wpAny _ A (Builtin.SmallTypes.nextOf (.ref i2) >>= _) _ _ _
    refine wpAny_bind (wpAny_nextOf_list_end hh (((p2.extBut b1.extBut D.i2z).extBut b2.extBut D.i12.symm).extBut b3.extBut D.TOi2.symm)
      (((hl2.extBut b1.extBut D.l2z).extBut b2.extBut D.l2i1).extBut b3.extBut D.l2TO) hy fun g4 e b4 he => ?_)
    obtain ⟨oe, ho, hc⟩ := he
    have z4 : ZipIs g4 z TI TO .ellipsis f1 := b4 _ _ D.i2z.symm (b3.extBut _ _ D.TOz.symm (b2.extBut _ _ D.i1z.symm z1))
    have ne : e ≠ z := fun q => by
      subst q
      rw [z4] at ho
      cases ho
      simp at hc
    exact wpAny_setField_rec z4 (by simp) fun g5 _ b5 => hE g5 e (fun c o c1 c2 c3 c4 q => b5.extBut _ _ c1 (b4 _ _ c4 (b3.extBut _ _ c2 (b2.extBut _ _ c3 (b1.extBut _ _ c1 q))))) ⟨oe, b5.extBut _ _ ne ho, hc⟩
/-- where the zip stands at turn i: nothing out yet, or a tuple at T -/
def ZipAt (h : Heap) (z TI TO i1 i2 l1 l2 : Addr) (i : Nat) : Prop :=
  (∃ f0 f1, ZipIs h z TI TO f0 f1 ∧ (f0 = .none ∨ ∃ T : Addr, f0 = rawInt T)) ∧ IsPair h TI (.ref i1) (.ref i2) ∧ (∃ a b, IsPair h TO a b) ∧ h.IsListIter i1 l1 i ∧ h.IsListIter i2 l2 i
theorem zipFree_or {z TI TO i1 i2 l1 l2 : Addr} {i : Nat} (st : ZipAt s.heap z TI TO i1 i2 l1 l2 i) :
    (∃ f0 f1, ZipIs s.heap z TI TO f0 f1 ∧ ZipFree prog w A E s z) ∨ ∃ (T : Addr) (f1 : Bool) (oT : Obj), IsZipHeld s.heap z TI TO T f1 ∧ s.heap.get? T = some oT := by
  obtain ⟨⟨f0, f1, hz, e⟩, _⟩ := st
  rcases e with rfl | ⟨T, rfl⟩
  · exact .inl ⟨_, _, hz, zipFree_new hz⟩
  · cases q : s.heap.get? T with
    | none => exact .inl ⟨_, _, hz, zipFree_gone hz q⟩
    | some o => exact .inr ⟨T, f1, o, hz, q⟩
/-- next of the zip, as enumerate asks it -/
theorem zipN_item {z TI TO i1 i2 l1 l2 : Addr} {i : Nat} {xs ys : Array Value} {x y : Value} {Q : Value → Shared → Prop} (D : ZipApart z TI TO i1 i2 l1 l2)
    (st : ZipAt s.heap z TI TO i1 i2 l1 l2 i) (hl1 : s.heap.IsList l1 xs) (hl2 : s.heap.IsList l2 ys) (hx : xs[i]? = some x) (hy : ys[i]? = some y)
    (hQ : ∀ h', ZipAt h' z TI TO i1 i2 l1 l2 (i + 1) → IsPair h' s.heap.objs.size x y → h'.objs.size = s.heap.objs.size + 1 →
      (∀ c o, c ≠ z → c ≠ TO → c ≠ i1 → c ≠ i2 → s.heap.get? c = some o → h'.get? c = some o) → Q (.ref s.heap.objs.size) { s with heap := h' }) :
    wpAny (model prog w) A (Builtin.SmallTypes.nextOf (.ref z)) Q E s := by
  have sep := zipFree_or (prog := prog) (w := w) (A := A.in1) (E := E) st
  obtain ⟨⟨g0, g1, hz, _⟩, hTI, ⟨a, b, hTO⟩, p1, p2⟩ := st
  have ty : s.TypeIs (.ref z) "zip" := ⟨_, hz, rfl⟩
  unfold Builtin.SmallTypes.nextOf
  refine wpAny_bind (wpAny_callSpecial?_slot (name := Str.ofString "__next__") ty PySem.F.slot_zip_next (wpAny_call_entry PySem.F.slot_zip_next ty PySem.F.entry_zip_next ?_ (PySem.F.args_zip_next_1 _)))
  rcases sep with ⟨f0, f1, hz, fr⟩ | ⟨T, f1, oT, hz, hT⟩
  · exact zipF_item D fr hz hTI hTO p1 p2 hl1 hl2 hx hy fun h' a1 a2 a3 a4 a5 a6 a7 => wpAny_pure (hQ h' ⟨⟨_, _, a1, .inr ⟨_, rfl⟩⟩, a7 _ _ D.TIz D.TITO D.TIi1 D.TIi2 hTI, ⟨_, _, a2⟩, a3, a4⟩ a5 a6 a7)
  · refine zip_next_item_held D hz hT hTI p1 p2 hl1 hl2 hx hy fun h' a1 a3 a4 a5 a6 a7 => wpAny_pure (hQ h' ⟨⟨_, _, a1, .inr ⟨_, rfl⟩⟩, a7 _ _ D.TIz D.TIi1 D.TIi2 hTI, ⟨_, _, a7 _ _ D.TOz D.TOi1 D.TOi2 hTO⟩, a3, a4⟩ a5 a6 fun c o c1 c2 c3 c4 e => a7 c o c1 c3 c4 e)
theorem zipN_end {z TI TO i1 i2 l1 l2 : Addr} {i : Nat} {xs ys : Array Value} {Q : Value → Shared → Prop} (hh : A.handled = none) (D : ZipApart z TI TO i1 i2 l1 l2)
    (st : ZipAt s.heap z TI TO i1 i2 l1 l2 i) (hl1 : s.heap.IsList l1 xs) (hl2 : s.heap.IsList l2 ys) (hend : xs[i]? = none ∨ ys[i]? = none)
    (hE : ∀ h' e, (∀ c o, c ≠ z → c ≠ TO → c ≠ i1 → c ≠ i2 → s.heap.get? c = some o → h'.get? c = some o) → (∃ o, h'.get? e = some o ∧ o.cls = .type "StopIteration") → E (.ref e) { s with heap := h' }) :
    wpAny (model prog w) A (Builtin.SmallTypes.nextOf (.ref z)) Q E s := by
  have sep := zipFree_or (prog := prog) (w := w) (A := A.in1) (E := E) st
  obtain ⟨⟨g0, g1, hz, _⟩, hTI, ⟨a, b, hTO⟩, p1, p2⟩ := st
  have ty : s.TypeIs (.ref z) "zip" := ⟨_, hz, rfl⟩
  unfold Builtin.SmallTypes.nextOf
  refine wpAny_bind (wpAny_callSpecial?_slot (name := Str.ofString "__next__") ty PySem.F.slot_zip_next (wpAny_call_entry PySem.F.slot_zip_next ty PySem.F.entry_zip_next ?_ (PySem.F.args_zip_next_1 _)))
  rcases sep with ⟨f0, f1, hz, fr⟩ | ⟨T, f1, oT, hz, hT⟩
  · exact zipF_end (show A.in1.handled = none from hh) D fr hz hTI hTO p1 p2 hl1 hl2 hend hE
  · exact zip_next_end_held (show A.in1.handled = none from hh) D hz hT hTI p1 p2 hl1 hl2 hend fun h' e k he => hE h' e (fun c o c1 c2 c3 c4 q => k c o c1 c3 c4 q) he
/-- enumerate's next over any iterator: draw is what its next gives -/
theorem enumG_item {e it : Addr} {i : Nat} {old : Value} {Q : Value → Shared → Prop} (he : IsEnum s.heap e it i old)
    (draw : wpAny (model prog w) A (Builtin.SmallTypes.nextOf (.ref it)) (fun x s1 => IsEnum s1.heap e it i old ∧ ∀ h', IsEnumOut h' e it ((i : Int) + 1) x s1.heap.objs.size →
      h'.get? s1.heap.objs.size = some { cls := .type "tuple", data := .seq #[.int i s1.toks, x] } → h'.objs.size = s1.heap.objs.size + 1 → (∀ b o, b ≠ e → s1.heap.get? b = some o → h'.get? b = some o) →
      Q (.ref s1.heap.objs.size) { s1 with heap := h', toks := s1.toks + 1 }) E s) :
    wpAny (model prog w) A (Builtin.«enumerate.__next__» ⟨[.ref e], []⟩) (fun fin s' => ∃ v, fin = .done (.ret v) ∧ Q v s') E s := by
  show wpAny _ A (field (.ref e) 2 >>= _) _ E s
  refine wpAny_bind (wpAny_field he rfl (x := Value.ref it) rfl (wpAny_bind (wpAny_mono draw (fun x s1 q => ?_) fun _ _ z => z)))
  obtain ⟨e1, q⟩ := q
  obtain ⟨g1, g, d, tk, os⟩ := s1
  replace e1 : IsEnum g1 e it i old := e1
  show wpAny _ A (field (.ref e) 3 >>= _) _ E ⟨g1, g, d, tk, os⟩
  refine wpAny_bind (wpAny_field e1 rfl (x := rawInt i) rfl ?_)
  show wpAny _ A (field (.ref e) 4 >>= _) _ E ⟨g1, g, d, tk, os⟩
  refine wpAny_bind (wpAny_field e1 rfl (x := Value.none) rfl ?_)
  show wpAny _ A (mkInt i >>= _) _ E ⟨g1, g, d, tk, os⟩
  refine wpAny_bind (wpAny_mkInt ?_)
  show wpAny _ A (setField (.ref e) 3 (rawInt ((i : Int) + 1)) >>= _) _ E ⟨g1, g, d, tk + 1, os⟩
  refine wpAny_bind (wpAny_setField_rec e1 (by simp) fun g2 e2 b2 => ?_)
  replace b2 : Heap.SameBut e g1 g2 := b2
  replace e2 : IsEnum g2 e it ((i : Int) + 1) old := e2
  show wpAny _ A (setField (.ref e) 4 .none >>= _) _ E ⟨g2, g, d, tk + 1, os⟩
  refine wpAny_bind (wpAny_setField_rec e2 (by simp) fun g3 e3 b3 => ?_)
  replace b3 : Heap.SameBut e g2 g3 := b3
  replace e3 : IsEnum g3 e it ((i : Int) + 1) old := e3
  show wpAny _ A (newTuple [.int i tk, x] >>= _) _ E ⟨g3, g, d, tk + 1, os⟩
  refine wpAny_bind (wpAny_newTuple ?_)
  have e4 : IsEnum (g3.push { cls := .type "tuple", data := .seq #[.int i tk, x] }) e it ((i : Int) + 1) old := Heap.get?_push_of_some _ e3
  have sz : g3.objs.size = g1.objs.size := by rw [b3.1, b2.1]
  have le : e < g1.objs.size := Heap.lt_size e1
  have t4 : (g3.push { cls := .type "tuple", data := .seq #[.int i tk, x] }).get? g1.objs.size = some { cls := .type "tuple", data := .seq #[.int i tk, x] } := by
    rw [← sz]
    exact Heap.get?_push_size _ rfl
  have z4 : (g3.push { cls := .type "tuple", data := .seq #[.int i tk, x] }).objs.size = g1.objs.size + 1 := by rw [Heap.size_push, sz]
  have k4 : ∀ b o, b ≠ e → g1.get? b = some o → (g3.push { cls := .type "tuple", data := .seq #[.int i tk, x] }).get? b = some o := fun b o hb q => Heap.get?_push_of_some _ (b3.extBut b o hb (b2.extBut b o hb q))
  show wpAny _ A (Builtin.SmallTypes.ownedTupleIsFree (.ref e) >>= _) _ E ⟨g3.push { cls := .type "tuple", data := .seq #[.int i tk, x] }, g, d, tk + 1, os⟩
  rw [sz]
  generalize g3.push { cls := .type "tuple", data := .seq #[.int i tk, x] } = g4 at e4 t4 z4 k4 ⊢
  refine wpAny_bind ?_
  unfold Builtin.SmallTypes.ownedTupleIsFree
  refine wpAny_bind (wpAny_field e4 rfl (x := Value.none) rfl (wpAny_pure ?_))
  simp only [if_true]
  refine wpAny_bind (wpAny_rule (wpAny_bind (wpAny_field e4 rfl (x := old) rfl ?_)))
  refine wpAny_bind (wpAny_setField_rec e4 (by simp) fun g5 e5 b5 => ?_)
  replace b5 : Heap.SameBut e g4 g5 := b5
  replace e5 : IsEnum g5 e it ((i : Int) + 1) x := e5
  show wpAny _ A (Builtin.SmallTypes.ownedTupleHandOut (.ref e) (.ref g1.objs.size) >>= _) _ E ⟨g5, g, d, tk + 1, os⟩
  refine wpAny_bind ?_
  unfold Builtin.SmallTypes.ownedTupleHandOut
  refine wpAny_bind (wpAny_setField_rec e5 (by simp) fun g6 e6 b6 => ?_)
  replace b6 : Heap.SameBut e g5 g6 := b6
  replace e6 : IsEnumOut g6 e it ((i : Int) + 1) x g1.objs.size := e6
  refine wpAny_setField_rec e6 (by simp) fun g7 e7 b7 => ?_
  replace b7 : Heap.SameBut e g6 g7 := b7
  replace e7 : IsEnumOut g7 e it ((i : Int) + 1) x g1.objs.size := e7
  have up : ∀ b o, b ≠ e → g4.get? b = some o → g7.get? b = some o := fun b o hb q => b7.extBut b o hb (b6.extBut b o hb (b5.extBut b o hb q))
  exact wpAny_bind (wpAny_letGo (wpAny_pure ⟨_, rfl, q g7 e7 (up _ _ (Nat.ne_of_gt le) t4) (by rw [b7.1, b6.1, b5.1, z4]) fun b o hb z => up b o hb (k4 b o hb z)⟩))
theorem new_enumZ (z TI TO : Addr) (f0 : Value) (f1 : Bool) :
    Meets (Builtin.«enumerate.__new__» ⟨[.type "enumerate", .ref z], []⟩) (fun _ R s => ZipIs s.heap z TI TO f0 f1 ∧
      R (.ok (.ret (.ref s.heap.objs.size))) { s with heap := s.heap.push { cls := .type "enumerate", data := .fields #[.none, .bool false, .ref z, rawInt 0, .none, .none] } }) :=
  .of_wp fun prog w A R s h => by
    obtain ⟨hp, g, d, tk, os⟩ := s
    obtain ⟨hz, h⟩ := h
    have hsub := sub_enumerate
    have it : ∀ {A : Around} {Q : Value → Shared → Prop} {E : Value → Shared → Prop}, Q (.ref z) ⟨hp, g, d, tk, os⟩ → wpAny (model prog w) A (pyIter (.ref z)) Q E ⟨hp, g, d, tk, os⟩ := fun {A Q E} q => by
      have ty : (⟨hp, g, d, tk, os⟩ : Shared).TypeIs (.ref z) "zip" := ⟨_, hz, rfl⟩
      refine wpAny_pyIter_slot ty PySem.F.slot_zip_iter (wpAny_call_entry PySem.F.slot_zip_iter ty PySem.F.entry_zip_iter ?_ (PySem.F.args_zip_iter_1 _))
      show wpAny _ _ (ret (.ref z)) _ _ _
      exact wpAny_pure ⟨_, rfl, "zip", _, ty, PySem.F.slot_zip_next.lookup, q⟩
    wp_walk
    refine wpAny_stack_any fun st => wpAny_pure ?_
    split
    · rename_i c _ _ _ _ _
      cases (c == Value.type "enumerate")
      · wp_walk using it
        exact ⟨_, rfl, h⟩
      · wp_walk using it
        exact ⟨_, rfl, h⟩
    · wp_walk using it
      exact ⟨_, rfl, h⟩
theorem call_enumZ {z TI TO : Addr} {f0 : Value} {f1 : Bool} {Q : Value → Shared → Prop} (hz : ZipIs s.heap z TI TO f0 f1)
    (h : ∀ h', IsEnum h' s.heap.objs.size z 0 .none → h'.objs.size = s.heap.objs.size + 1 → (∀ b o, s.heap.get? b = some o → h'.get? b = some o) → Q (.ref s.heap.objs.size) { s with heap := h' }) :
    wpAny (model prog w) A (call (.type "enumerate") [.ref z]) Q E s := by
  refine callType_new PySem.F.called_enumerate (by decide) (PySem.F.typeCall_enumerate_1 _) (PySem.F.newCall_enumerate_1 _) (fun obj => PySem.F.args_object_init_2 obj _) PySem.F.entry_enumerate_new
    (new_enumZ z TI TO f0 f1) ⟨hz, ?_⟩
  have e : IsEnum (s.heap.push { cls := .type "enumerate", data := .fields #[.none, .bool false, .ref z, rawInt 0, .none, .none] }) s.heap.objs.size z 0 .none := Heap.get?_push_size _ rfl
  exact ⟨⟨_, e, rfl⟩, h _ e (Heap.size_push ..) fun b o x => Heap.get?_push_of_some _ x⟩
theorem pyNext_enumG {e it : Addr} {i : Nat} {old : Value} {Q : Option Value → Shared → Prop} (he : IsEnum s.heap e it i old)
    (draw : ∀ E' : Value → Shared → Prop, wpAny (model prog w) A.in1 (Builtin.SmallTypes.nextOf (.ref it)) (fun x s1 => IsEnum s1.heap e it i old ∧ ∀ h', IsEnumOut h' e it ((i : Int) + 1) x s1.heap.objs.size →
      h'.get? s1.heap.objs.size = some { cls := .type "tuple", data := .seq #[.int i s1.toks, x] } → h'.objs.size = s1.heap.objs.size + 1 → (∀ b o, b ≠ e → s1.heap.get? b = some o → h'.get? b = some o) →
      Q (some (.ref s1.heap.objs.size)) { s1 with heap := h', toks := s1.toks + 1 }) E' s) : wpAny (model prog w) A (pyNext (.ref e)) Q E s := by
  have ty : s.TypeIs (.ref e) "enumerate" := ⟨_, he, rfl⟩
  unfold pyNext
  refine wpAny_bind (wpAny_attempt (wpAny_callSpecial?_slot (name := Str.ofString "__next__") ty PySem.F.slot_enumerate_next (wpAny_call_entry PySem.F.slot_enumerate_next ty PySem.F.entry_enumerate_next ?_ (PySem.F.args_enumerate_next_1 _))))
  refine enumG_item he (wpAny_mono (draw _) (fun x s1 q => ⟨q.1, fun h' a b c d => ?_⟩) fun _ _ z => z)
  exact wpAny_pure (q.2 h' a b c d)
theorem pyNext_enumG_end {e it : Addr} {i : Nat} {old : Value} {P : Heap → Prop} {Q : Option Value → Shared → Prop} (he : IsEnum s.heap e it i old)
    (done : ∀ (Qx : Value → Shared → Prop) (E' : Value → Shared → Prop), (∀ h' ex, P h' → (∃ o, h'.get? ex = some o ∧ o.cls = .type "StopIteration") → E' (.ref ex) { s with heap := h' }) →
      wpAny (model prog w) A.in1 (Builtin.SmallTypes.nextOf (.ref it)) Qx E' s)
    (hQ : ∀ h', P h' → Q none { s with heap := h' }) : wpAny (model prog w) A (pyNext (.ref e)) Q E s := by
  have ty : s.TypeIs (.ref e) "enumerate" := ⟨_, he, rfl⟩
  unfold pyNext
  refine wpAny_bind (wpAny_attempt (wpAny_callSpecial?_slot (name := Str.ofString "__next__") ty PySem.F.slot_enumerate_next (wpAny_call_entry PySem.F.slot_enumerate_next ty PySem.F.entry_enumerate_next ?_ (PySem.F.args_enumerate_next_1 _))))
  show wpAny _ _ (field (.ref e) 2 >>= _) _ _ s
  refine wpAny_bind (wpAny_field he rfl (x := Value.ref it) rfl (wpAny_bind (done _ _ fun h' ex hp hx => ?_)))
  obtain ⟨o, ho, hc⟩ := hx
  exact wpAny_bind (wpAny_isInstance (T := "StopIteration") (b := true) ⟨o, ho, hc⟩ isSubtype_stop (wpAny_pure (hQ _ hp)))
end
/-- the pairs of the lists at a and b by their number, each in a new pair of a new pair -/
def Itez (K : PySem.W.Frag) (a b : Addr) : It :=
  ⟨fun i H => ∃ (xs ys : List V) (x y : V), SqL K H a xs ∧ SqL K H b ys ∧ xs[i]? = some x ∧ ys[i]? = some y,
    fun i H v H' => ∃ T T1 x y, v = .ref T ∧ H T1 = none ∧ H T = none ∧ T ≠ T1 ∧ H' = upd (upd H T1 (.tup [x, y])) T (.tup [.int (i : Nat), .ref T1]) ∧ (∀ xs, SqL K H a xs → xs[i]? = some x) ∧ ∀ ys, SqL K H b ys → ys[i]? = some y,
    fun i H => ∃ xs ys : List V, SqL K H a xs ∧ SqL K H b ys ∧ (xs.length ≤ i ∨ ys.length ≤ i)⟩
theorem turn_enumZ {P : Program} {w : World} {K : PySem.W.Frag} {elts : List Expr} {kk : Nat} {tpos : Pos} {a b e z TI TO i1 i2 : Addr} (D : ZipApart z TI TO i1 i2 a b) (De : e ≠ z ∧ e ≠ TI ∧ e ≠ TO ∧ e ≠ i1 ∧ e ≠ i2) :
    Turn P w K (.Tuple elts kk tpos) (Itez K a b) [e, z, TI, TO, i1, i2] e (fun i h => (∃ old, IsEnum h e z ((i : Nat) : Int) old) ∧ ZipAt h z TI TO i1 i2 a b i) where
  mem := List.mem_cons_self ..
  obj := fun i h st c hc => by
    obtain ⟨⟨old, he⟩, ⟨f0, f1, hz, _⟩, hTI, ⟨x, y, hTO⟩, ⟨o1, e1, _, d1⟩, ⟨o2, e2, _, d2⟩⟩ := st
    have e' : c = e ∨ c = z ∨ c = TI ∨ c = TO ∨ c = i1 ∨ c = i2 := by simpa using hc
    rcases e' with q | q | q | q | q | q
    · rw [q]; exact ⟨_, he, fun v q => nomatch q⟩
    · rw [q]; exact ⟨_, hz, fun v q => nomatch q⟩
    · rw [q]; exact ⟨_, hTI, fun v q => nomatch q⟩
    · rw [q]; exact ⟨_, hTO, fun v q => nomatch q⟩
    · rw [q]; exact ⟨o1, e1, fun v q => by rw [d1] at q; cases q⟩
    · rw [q]; exact ⟨o2, e2, fun v q => by rw [d2] at q; cases q⟩
  keep := fun i h h' st k => by
    obtain ⟨⟨old, he⟩, ⟨f0, f1, hz, hf⟩, hTI, ⟨x, y, hTO⟩, h1, h2⟩ := st
    exact ⟨⟨old, k e (by simp) _ he⟩, ⟨f0, f1, k z (by simp) _ hz, hf⟩, k TI (by simp) _ hTI, ⟨x, y, k TO (by simp) _ hTO⟩, h1.at fun o q => k i1 (by simp) o q, h2.at fun o q => k i2 (by simp) o q⟩
  item := by
    intro X hP hw hK hc i pins s σ H E I hf st hg
    subst hP hw hK
    obtain ⟨⟨old, he⟩, zat⟩ := st
    obtain ⟨xs, ys, x, y, hqx, hqy, hx, hy⟩ := hg
    obtain ⟨its, rv, p, _⟩ := I.list hqx
    obtain ⟨its2, rv2, p2, _⟩ := I.list hqy
    obtain ⟨u, hu, ru⟩ := rv.get hx
    obtain ⟨u2, hu2, ru2⟩ := rv2.get hy
    have le : e < s.heap.objs.size := Heap.lt_size he
    have all : ∀ c ∈ [e, z, TI, TO, i1, i2], c < s.heap.objs.size := fun c hcm => by
      obtain ⟨⟨f0, f1, hz, _⟩, hTI, ⟨x0, y0, hTO⟩, ⟨o1, e1, _⟩, ⟨o2, e2, _⟩⟩ := zat
      have e' : c = e ∨ c = z ∨ c = TI ∨ c = TO ∨ c = i1 ∨ c = i2 := by simpa using hcm
      rcases e' with q | q | q | q | q | q
      · rw [q]; exact le
      · rw [q]; exact Heap.lt_size hz
      · rw [q]; exact Heap.lt_size hTI
      · rw [q]; exact Heap.lt_size hTO
      · rw [q]; exact Heap.lt_size e1
      · rw [q]; exact Heap.lt_size e2
    refine pyNext_enumG he fun E' => zipN_item D zat p.isList p2.isList (x := u) (y := u2) (by simpa using hu) (by simpa using hu2) fun g1 zat1 hT1 sz1 k1 => ?_
    refine ⟨k1 _ _ De.1 De.2.2.1 De.2.2.2.1 De.2.2.2.2 he, fun g2 eo hT2 sz2 k2 => ?_⟩
    -- the state behind the zip's step
    have new1 : ObjOk X.prog X.w (upd H s.heap.objs.size (.tup [x, y])) g1 s.heap.objs.size (.tup [x, y]) :=
      ⟨by show 2 ≤ sizeLine; decide, [u, u2], .cons ru (.cons ru2 .nil), ⟨_, hT1, rfl, _, rfl⟩⟩
    have I1 : Inv X pins σ (upd H s.heap.objs.size (.tup [x, y])) { s with heap := g1 } :=
      I.turnedNew (t' := s.toks) (ch := [e, z, TI, TO, i1, i2]) (fun c o hb q => k1 c o (fun q' => hb (by simp [q'])) (fun q' => hb (by simp [q'])) (fun q' => hb (by simp [q'])) (fun q' => hb (by simp [q'])) q) hf (Nat.le_refl _) new1
    have hf1 : ∀ c ∈ [e, z, TI, TO, i1, i2], FpOk X pins (upd H s.heap.objs.size (.tup [x, y])) c := fun c hcm => by
      refine ⟨?_, (hf c hcm).2⟩
      rw [upd_ne (Nat.ne_of_lt (all c hcm))]
      exact (hf c hcm).1
    refine ⟨_, rfl, wpAny_letOwnedTupleGo_enum (s := { s with heap := g2, toks := s.toks + 1 }) eo fun g3 he3 b3 => ?_⟩
    replace b3 : Heap.SameBut e g2 g3 := b3
    have lt1 : e < g1.objs.size := by rw [sz1]; exact Nat.lt_succ_of_lt le
    have hT3 : g3.get? g1.objs.size = some { cls := .type "tuple", data := .seq #[.int i s.toks, .ref s.heap.objs.size] } := b3.extBut _ _ (Nat.ne_of_gt lt1) hT2
    have k3 : ∀ c o, c ≠ e → g1.get? c = some o → g3.get? c = some o := fun c o hb q => b3.extBut c o hb (k2 c o hb q)
    have new2 : ObjOk X.prog X.w (upd (upd H s.heap.objs.size (.tup [x, y])) g1.objs.size (.tup [.int (i : Nat), .ref s.heap.objs.size])) g3 g1.objs.size (.tup [.int (i : Nat), .ref s.heap.objs.size]) :=
      ⟨by show 2 ≤ sizeLine; decide, [.int i s.toks, .ref s.heap.objs.size], .cons ⟨_, rfl⟩ (.cons rfl .nil), ⟨_, hT3, rfl, _, rfl⟩⟩
    have I2 : Inv X pins σ (upd (upd H s.heap.objs.size (.tup [x, y])) g1.objs.size (.tup [.int (i : Nat), .ref s.heap.objs.size])) { s with heap := g3, toks := s.toks + 1 } :=
      I1.turnedNew (t' := s.toks + 1) (ch := [e, z, TI, TO, i1, i2]) (fun c o hb q => k3 c o (fun q' => hb (by simp [q'])) q) hf1 (Nat.le_refl _) new2
    have ne : g1.objs.size ≠ s.heap.objs.size := by rw [sz1]; exact Nat.succ_ne_self _
    refine ⟨.ref g1.objs.size, _, I2, rfl, ⟨_, s.heap.objs.size, x, y, rfl, I.hok.fresh (Nat.le_refl _), I.hok.fresh (by rw [sz1]; exact Nat.le_succ _), ne, rfl, fun l hl => by rw [I.list_inj hl hqx]; exact hx, fun l hl => by rw [I.list_inj hl hqy]; exact hy⟩, ⟨⟨.ref s.heap.objs.size, ?_⟩, ?_⟩, fun c hcm => ?_⟩
    · have e1 : ((i + 1 : Nat) : Int) = (i : Int) + 1 := by omega
      rw [e1]
      exact he3
    · obtain ⟨⟨f0, f1, hz, hf0⟩, hTI, ⟨x0, y0, hTO⟩, h1, h2⟩ := zat1
      exact ⟨⟨f0, f1, k3 _ _ (Ne.symm De.1) hz, hf0⟩, k3 _ _ (Ne.symm De.2.1) hTI, ⟨x0, y0, k3 _ _ (Ne.symm De.2.2.1) hTO⟩, h1.at fun o q => k3 _ o (Ne.symm De.2.2.2.1) q, h2.at fun o q => k3 _ o (Ne.symm De.2.2.2.2) q⟩
    · have l := all c hcm
      have l1 : c < g1.objs.size := by rw [sz1]; exact Nat.lt_succ_of_lt l
      rw [upd_ne (Nat.ne_of_lt l1), upd_ne (Nat.ne_of_lt l)]
      exact (hf c hcm).1
  done := by
    intro X hP hw hK hc i pins s σ H E I hf st hg
    subst hP hw hK
    obtain ⟨⟨old, he⟩, zat⟩ := st
    obtain ⟨xs, ys, hqx, hqy, hend⟩ := hg
    obtain ⟨its, rv, p, _⟩ := I.list hqx
    obtain ⟨its2, rv2, p2, _⟩ := I.list hqy
    have l1 := rv.length
    have l2 := rv2.length
    have he' : its.toArray[i]? = none ∨ its2.toArray[i]? = none := by
      rcases hend with q | q
      · exact .inl (by simp; omega)
      · exact .inr (by simp; omega)
    refine pyNext_enumG_end (P := fun h' => ∀ c o, c ≠ z → c ≠ TO → c ≠ i1 → c ≠ i2 → s.heap.get? c = some o → h'.get? c = some o) he (fun Qx E' hE => zipN_end (show X.A.in1.handled = none from I.ok.hd hc) D zat p.isList p2.isList he' fun h' ex k hx => hE h' ex k hx) fun h' k => ⟨rfl, ?_⟩
    exact I.turnedL (t' := s.toks) (ch := [e, z, TI, TO, i1, i2]) (fun c o hb q => k c o (fun q' => hb (by simp [q'])) (fun q' => hb (by simp [q'])) (fun q' => hb (by simp [q'])) (fun q' => hb (by simp [q'])) q) hf
  self := fun A i s Q E st h => let ⟨⟨_, he⟩, _⟩ := st; wpAny_pyIter_enum he h
def iEnumZ (K : PySem.W.Frag) (ta : TA) : TI := fun σ H R => ta σ H fun vs H1 => ∃ a b xs ys, vs = [.ref a, .ref b] ∧ SqL K H1 a xs ∧ SqL K H1 b ys ∧ R (Itez K a b) H1
/-- zip(xs, ys) as a value, a new zip at z -/
theorem pi_enumZip {X : Cx} {e e2 : Expr} {ta : TA} {p pos p' pos' tpos : Pos} {elts : List Expr} {kk : Nat} (hg : Gl X "enumerate") (hm : X.mg "enumerate" = none) (hg2 : Gl X "zip") (hm2 : X.mg "zip" = none) (ha : PA X [e, e2] ta)
    (hs : starEach [e, e2] X.env = (false, eval e X.env) :: starEach [e2] X.env := by rfl) (hpl : (backTo pos' (starEach [e2] X.env)).any (·.1) = false := by rfl)
    (ho : starEach [.Call (.Name "zip" p') [e, e2] [] pos'] X.env = [(false, eval (.Call (.Name "zip" p') [e, e2] [] pos') X.env)] := by rfl) :
    PI X (.Tuple elts kk tpos) (.Call (.Name "enumerate" p) [.Call (.Name "zip" p') [e, e2] [] pos'] [] pos) (iEnumZ X.K ta) := by
  refine ⟨fun pins s σ H R I h => ?_⟩
  refine Call_ (ld_blt I hg hm boot_enumerate (PyProof.Rows.callWith_type1 ?_ ho rfl))
  rw [ho]
  show wpAny _ _ (spliced ((false, eval (.Call (.Name "zip" p') [e, e2] [] pos') X.env) :: [])) _ _ s
  refine Calls.spliced_cons ?_
  refine Call_ (ld_blt I hg2 hm2 PyProof.Rows.boot_zip (PyProof.Rows.callWith_type1 (thn (ha.run pos' pins s σ H _ I h) fun us s1 ⟨vs, H1, I1, r1, q1⟩ => ?_) hs hpl))
  obtain ⟨a, b, xs, ys, rfl, hqx, hqy, q⟩ := q1
  obtain ⟨u, u', rfl, r, r'⟩ := vals2 r1
  obtain rfl : u = Value.ref a := r
  obtain rfl : u' = Value.ref b := r'
  obtain ⟨its, rv, p1, _⟩ := I1.list hqx
  obtain ⟨its2, rv2, p2, _⟩ := I1.list hqy
  have la : a < s1.heap.objs.size := p1.lt
  have lb : b < s1.heap.objs.size := p2.lt
  refine call_zip_2 p1.isList p2.isList fun h1 hz hTI hTO j1 j2 sz1 k1 => Calls.spliced_nil ?_
  refine call_enumZ (s := { s1 with heap := h1 }) (f0 := .none) (f1 := false) hz fun h2 he sz2 k2 => ?_
  have he' : IsEnum h2 h1.objs.size (s1.heap.objs.size + 4) 0 .none := he
  refine wpAny_pyIter_enum (s := { s1 with heap := h2 }) he' ?_
  have I2 : Inv X pins σ H1 { s1 with heap := h2 } := I1.kept (t' := s1.toks) fun b o q => k2 b o (k1 b o q)
  have De : h1.objs.size ≠ s1.heap.objs.size + 4 ∧ h1.objs.size ≠ s1.heap.objs.size + 2 ∧ h1.objs.size ≠ s1.heap.objs.size + 3 ∧ h1.objs.size ≠ s1.heap.objs.size ∧ h1.objs.size ≠ s1.heap.objs.size + 1 := by
    rw [sz1]
    have n : ∀ k j : Nat, j < k → s1.heap.objs.size + k ≠ s1.heap.objs.size + j := fun k j h z => absurd (Nat.add_left_cancel z) (Nat.ne_of_gt h)
    exact ⟨n 5 4 (by decide), n 5 2 (by decide), n 5 3 (by decide), n 5 0 (by decide), n 5 1 (by decide)⟩
  refine ⟨h1.objs.size, [h1.objs.size, s1.heap.objs.size + 4, s1.heap.objs.size + 2, s1.heap.objs.size + 3, s1.heap.objs.size, s1.heap.objs.size + 1], _, _, H1, rfl, I2, turn_enumZ (PySem.W.ktu_apart s1.heap.objs.size a b la lb) De,
    ⟨⟨.none, he'⟩, ⟨.none, false, k2 _ _ hz, .inl rfl⟩, k2 _ _ hTI, ⟨_, _, k2 _ _ hTO⟩, j1.at fun o q => k2 _ o q, j2.at fun o q => k2 _ o q⟩, fun c hcm => ?_, q⟩
  have hle : s1.heap.objs.size ≤ c := by
    have e' : c = h1.objs.size ∨ c = s1.heap.objs.size + 4 ∨ c = s1.heap.objs.size + 2 ∨ c = s1.heap.objs.size + 3 ∨ c = s1.heap.objs.size ∨ c = s1.heap.objs.size + 1 := by simpa using hcm
    rcases e' with z | z | z | z | z | z
    · rw [z, sz1]; exact Nat.le_add_right _ _
    · rw [z]; exact Nat.le_add_right _ _
    · rw [z]; exact Nat.le_add_right _ _
    · rw [z]; exact Nat.le_add_right _ _
    · rw [z]; exact Nat.le_refl _
    · rw [z]; exact Nat.le_add_right _ _
  exact I1.fpOk hle (I1.hok.fresh hle)
/-- as a walk -/
theorem walk_enumZ {K : PySem.W.Frag} {a b : Addr} {xs ys : List V} (hl : xs.length = ys.length) : Walk (Itez K a b) xs.length (fun H => SqL K H a xs ∧ SqL K H b ys)
    (fun i H v H' => ∃ T T1 x y, v = .ref T ∧ H T1 = none ∧ H T = none ∧ T ≠ T1 ∧ H' = upd (upd H T1 (.tup [x, y])) T (.tup [.int (i : Nat), .ref T1]) ∧ xs[i]? = some x ∧ ys[i]? = some y) := by
  refine ⟨fun i H hi q => ?_, fun _ q => ⟨xs, ys, q.1, q.2, .inl (Nat.le_refl _)⟩, fun i H v H' _ q y => ?_⟩
  · have h2 : i < ys.length := by omega
    exact ⟨xs, ys, xs[i], ys[i], q.1, q.2, by simp [hi], by simp [h2]⟩
  · obtain ⟨T, T1, x, z, h1, h2, h3, h4, h5, h6, h7⟩ := y
    exact ⟨T, T1, x, z, h1, h2, h3, h4, h5, h6 xs q.1, h7 ys q.2⟩
end HB
/-! what the walks share: heaps, data, comprehensions, calls -/
namespace HB
open PySem PySem.Spec PyProof.Rows L2
abbrev rLenQ (K : PySem.W.Frag) : List V → Hp → VK → Prop := fun xs H Q => ∃ p ys, xs = [.ref p] ∧ (SqL K H p ys ∨ SqT K H p ys) ∧ Q (.int ys.length) H
abbrev rSubN : R2 := fun x y H Q => ∃ n m : Nat, x = .int (n : Int) ∧ y = .int (m : Int) ∧ m ≤ n ∧ Q (.int ((n - m : Nat) : Int)) H
/-- x -= y, both not negative, y not the greater -/
theorem ip_subN {X : Cx} : PIp X .Sub (fun x y H Q => ∃ n m : Nat, x = .int (n : Int) ∧ y = .int (m : Int) ∧ m ≤ n ∧ Q (.int ((n - m : Nat) : Int)) H) := by
  intro pins s σ H x y v u Q I r1 r2 h
  obtain ⟨n, m, rfl, rfl, hl, q⟩ := h
  refine ip_sub pins s σ H _ _ v u Q I r1 r2 ⟨_, _, rfl, rfl, ?_⟩
  have e : (n : Int) - (m : Int) = ((n - m : Nat) : Int) := by omega
  show Q (V.int ((n : Int) - (m : Int))) H
  rw [e]
  exact q
/-- an expression's value, told apart from what follows -/
theorem val1 {te : TE} {σ : L2.St} {H : Hp} {R : VK} (r : V) (h : ∀ Q : VK, Q r H → te σ H Q) (k : R r H) : te σ H R := h _ k
/-- .. that leaves new things -/
theorem val2 {te : TE} {σ : L2.St} {H : Hp} {R : VK} (P : V → Hp → Prop) (h : ∀ Q : VK, (∀ v H', Same H H' → P v H' → Q v H') → te σ H Q) (k : ∀ v H', Same H H' → P v H' → R v H') : te σ H R := h _ k
/-! ### heaps -/
theorem Same.new {H : Hp} {p : Addr} {o : HO} (h : H p = none) : Same H (upd H p o) := fun a u e => by
  rw [upd_ne (ne_of_none e h)]
  exact e
/-- an object that H does not know may change -/
theorem Same.mut {H H' : Hp} {p : Addr} {o : HO} (e : Same H H') (h : H p = none) : Same H (upd H' p o) := fun a u q => by
  rw [upd_ne (ne_of_none q h)]
  exact e a u q
theorem sl {K : PySem.W.Frag} {H : Hp} {a : Addr} {xs : List V} (h : H a = some (.lst xs)) : SqL K H a xs := SqL.of h
/-- H without what stands at l -/
def hid (l : Addr) (H : Hp) : Hp := fun p => if p = l then none else H p
theorem hid_at {l p : Addr} {H : Hp} (h : p ≠ l) : hid l H p = H p := if_neg h
theorem hid_self {l : Addr} {H : Hp} : hid l H l = none := if_pos rfl
theorem hid_le {l : Addr} {H : Hp} : Same (hid l H) H := fun p o e => by
  by_cases q : p = l
  · rw [q, hid_self] at e
    cases e
  · rw [hid_at q] at e
    exact e
theorem hid_some {l p : Addr} {H : Hp} {o : HO} (h : hid l H p = some o) : p ≠ l ∧ H p = some o := by
  refine ⟨fun q => ?_, hid_le p o h⟩
  rw [q, hid_self] at h
  cases h
theorem hid_mono {l : Addr} {H H' : Hp} (e : Same H H') : Same (hid l H) (hid l H') := fun p o q => by
  obtain ⟨h1, h2⟩ := hid_some q
  rw [hid_at h1]
  exact e p o h2
theorem hid_upd {l : Addr} {H : Hp} {o : HO} : hid l (upd H l o) = hid l H := by
  funext p
  by_cases q : p = l
  · rw [q, hid_self, hid_self]
  · rw [hid_at q, hid_at q, upd_ne q]
/-- all but l is as it was -/
def SameBut (l : Addr) (H H' : Hp) : Prop := ∀ p o, p ≠ l → H p = some o → H' p = some o
theorem SameBut.hid {l : Addr} {H H' : Hp} (e : SameBut l H H') : Same (hid l H) (hid l H') := fun p o q => by
  obtain ⟨h1, h2⟩ := hid_some q
  rw [hid_at h1]
  exact e p o h1 h2
theorem Same.but {l : Addr} {H H' : Hp} (e : Same H H') : SameBut l H H' := fun p o _ h => e p o h
theorem SameBut.trans {l : Addr} {H H1 H2 : Hp} (a : SameBut l H H1) (b : SameBut l H1 H2) : SameBut l H H2 := fun p o h e => b p o h (a p o h e)
theorem SameBut.upd {l : Addr} {H : Hp} {o : HO} : SameBut l H (upd H l o) := fun p u h e => by
  rw [upd_ne h]
  exact e
/-- what is new behind H stands in H2 as in H' -/
def NewIn (H H' H2 : Hp) : Prop := ∀ p o, H p = none → H' p = some o → H2 p = some o
theorem NewIn.self {H H' : Hp} : NewIn H H' H' := fun _ _ _ h => h
theorem NewIn.hid {l : Addr} {H H' : Hp} {o : HO} (h : H l = some o) : NewIn H H' (hid l H') := fun p u e q => by
  have ne : p ≠ l := fun z => by
    rw [z, h] at e
    cases e
  rw [hid_at ne]
  exact q
/-- what a call hands back: v with P, what was stays; P rests on the new things and on what the arguments rest on -/
def RetF (A : Hp → Prop) (P : V → Hp → Prop) (H : Hp) (Q : VK) : Prop := ∀ v H', Same H H' → (∀ H2, NewIn H H' H2 → A H2 → P v H2) → Q v H'
/-- a value alone -/
def RetV (v : V) (H : Hp) (Q : VK) : Prop := ∀ H', Same H H' → Q v H'
theorem RetV.go {v : V} {H H' : Hp} {Q : VK} (k : RetV v H Q) (e : Same H H') : Q v H' := k H' e
theorem hu64_of {A : Around} {k : Nat} (hr : Room k A) : A.units + 64 < cLine := by
  have := hr.un
  omega
/-! ### data -/
def vn (n : Nat) : V := .int (n : Int)
def nv (xs : List Nat) : List V := xs.map vn
theorem nv_len {xs : List Nat} : (nv xs).length = xs.length := List.length_map ..
theorem nv_snoc {xs : List Nat} {x : Nat} : nv xs ++ [vn x] = nv (xs ++ [x]) := by
  unfold nv
  rw [List.map_append]
  rfl
theorem nv_get {xs : List Nat} {i : Nat} {v : V} (h : (nv xs)[i]? = some v) : ∃ n, xs[i]? = some n ∧ v = vn n := by
  unfold nv at h
  rw [List.getElem?_map] at h
  obtain ⟨n, e, rfl⟩ := Option.map_eq_some_iff.mp h
  exact ⟨n, e, rfl⟩
theorem nv_at {xs : List Nat} {i n : Nat} (h : xs[i]? = some n) : (nv xs)[i]? = some (vn n) := by
  unfold nv
  rw [List.getElem?_map, h]
  rfl
theorem getD_some {xs : List Nat} {i : Nat} (h : i < xs.length) : xs[i]? = some (xs.getD i 0) := by
  rw [List.getD_eq_getElem?_getD, List.getElem?_eq_getElem h]
  rfl
/-- its i-th item, for a subscript -/
theorem nv_ix {xs : List Nat} {i : Nat} (h : i < xs.length) : atI (nv xs) (i : Int) = some (vn (xs.getD i 0)) := atI_nat (nv_at (getD_some h))
theorem nv_map_int {xs : List Nat} : nv xs = (xs.map fun n : Nat => (n : Int)).map V.int := by
  unfold nv
  rw [List.map_map]
  rfl
/-- a list of whole numbers at a -/
def IsL (H : Hp) (a : Addr) (xs : List Nat) : Prop := H a = some (.lst (nv xs))
theorem IsL.mono {H H' : Hp} {a : Addr} {xs : List Nat} (h : IsL H a xs) (e : Same H H') : IsL H' a xs := e _ _ h
/-- a new list of whole numbers -/
def RetL (xs : List Nat) (H : Hp) (Q : VK) : Prop := ∀ p H', Same H H' → H p = none → IsL H' p xs → Q (.ref p) H'
theorem RetL.go {xs : List Nat} {H H' H2 : Hp} {Q : VK} {p : Addr} (k : RetL xs H Q) (e : Same H H') (hp : H' p = none) (e2 : Same H' H2) (h : IsL H2 p xs) : Q (.ref p) H2 := k p H2 (e.trans e2) (e.free hp) h
/-- a list or a tuple -/
def IsSq (H : Hp) (v : V) : Prop := ∃ a xs, v = .ref a ∧ (H a = some (.lst xs) ∨ H a = some (.tup xs))
/-- a list whose items are these, each as R says -/
def IsLR {α : Type} (R : α → Hp → V → Prop) (H : Hp) (a : Addr) (xs : List α) : Prop :=
  ∃ vs : List V, H a = some (.lst vs) ∧ vs.length = xs.length ∧ ∀ (i : Nat) (x : α) (v : V), xs[i]? = some x → vs[i]? = some v → R x H v
theorem IsLR.mono {α : Type} {R : α → Hp → V → Prop} {H H' : Hp} {a : Addr} {xs : List α} (h : IsLR R H a xs) (m : ∀ x v, R x H v → R x H' v) (e : Same H H') : IsLR R H' a xs := by
  obtain ⟨vs, h1, h2, h3⟩ := h
  exact ⟨vs, e _ _ h1, h2, fun i x v a b => m x v (h3 i x v a b)⟩
/-- a pair of whole numbers -/
def RP (p : Nat × Nat) (H : Hp) (v : V) : Prop := ∃ t, v = .ref t ∧ H t = some (.tup [vn p.1, vn p.2])
theorem RP.mono {p : Nat × Nat} {H H' : Hp} {v : V} (h : RP p H v) (e : Same H H') : RP p H' v := let ⟨t, a, b⟩ := h; ⟨t, a, e _ _ b⟩
abbrev IsP (H : Hp) (a : Addr) (ps : List (Nat × Nat)) : Prop := IsLR RP H a ps
theorem IsP.mono {H H' : Hp} {a : Addr} {ps : List (Nat × Nat)} (h : IsP H a ps) (e : Same H H') : IsP H' a ps := IsLR.mono h (fun _ _ r => r.mono e) e
/-- a block of a compressed sequence: a tuple -/
def RB (b : Blk) (H : Hp) (v : V) : Prop := ∃ t d l u, v = .ref t ∧ H t = some (.tup [.ref d, .ref l, .ref u, vn b.cnt]) ∧ IsL H d b.base ∧ IsP H l b.link ∧ IsP H u b.turn
theorem RB.mono {b : Blk} {H H' : Hp} {v : V} (h : RB b H v) (e : Same H H') : RB b H' v := by
  obtain ⟨t, d, l, u, a, h1, h2, h3, h4⟩ := h
  exact ⟨t, d, l, u, a, e _ _ h1, h2.mono e, h3.mono e, h4.mono e⟩
abbrev IsS (H : Hp) (a : Addr) (s : List Blk) : Prop := IsLR RB H a s
theorem IsS.mono {H H' : Hp} {a : Addr} {s : List Blk} (h : IsS H a s) (e : Same H H') : IsS H' a s := IsLR.mono h (fun _ _ r => r.mono e) e
/-- a list of lists of whole numbers -/
def RL (xs : List Nat) (H : Hp) (v : V) : Prop := ∃ a, v = .ref a ∧ IsL H a xs
theorem RL.mono {xs : List Nat} {H H' : Hp} {v : V} (h : RL xs H v) (e : Same H H') : RL xs H' v := let ⟨t, a, b⟩ := h; ⟨t, a, b.mono e⟩
abbrev IsLL (H : Hp) (a : Addr) (xss : List (List Nat)) : Prop := IsLR RL H a xss
theorem IsLL.mono {H H' : Hp} {a : Addr} {xss : List (List Nat)} (h : IsLL H a xss) (e : Same H H') : IsLL H' a xss := IsLR.mono h (fun _ _ r => r.mono e) e
/-- a dict of at most m entries, by what it answers -/
def IsDF (H : Hp) (a : Addr) (m : Nat) (f : Nat → Option Nat) : Prop := ∃ kvs : List (Key × V), H a = some (.dK kvs) ∧ kvs.length ≤ m ∧ ∀ s : Nat, valV kvs (.inl (s : Int)) = (f s).map vn
theorem IsDF.mono {H H' : Hp} {a : Addr} {m : Nat} {f : Nat → Option Nat} (h : IsDF H a m f) (e : Same H H') : IsDF H' a m f := let ⟨k, x, y, z⟩ := h; ⟨k, e _ _ x, y, z⟩
theorem IsDF.get {H : Hp} {a : Addr} {m : Nat} {f : Nat → Option Nat} (h : IsDF H a m f) (s : Nat) : DGet H a (vn s) ((f s).map vn) := by
  obtain ⟨k, x, _, z⟩ := h
  rw [← z s]
  exact DGet.k (k := .inl (s : Int)) x
theorem IsDF.put {H : Hp} {a : Addr} {m : Nat} {f : Nat → Option Nat} (h : IsDF H a m f) (hm : m ≤ 1000) (s v : Nat) :
    ∃ o, DPut H a (vn s) (vn v) (upd H a o) ∧ IsDF (upd H a o) a (m + 1) (fun j => if j = s then some v else f j) := by
  obtain ⟨kvs, x, y, z⟩ := h
  refine ⟨.dK (putK kvs (.inl (s : Int)) (vn v)), DPut.k (k := .inl (s : Int)) x (Nat.lt_of_le_of_lt (Nat.le_trans y hm) (by decide)), _, upd_same, ?_, fun j => ?_⟩
  · have := length_putK kvs (.inl (s : Int)) (vn v)
    omega
  · rw [valV_put, z j]
    show _ = Option.map vn (if j = s then some v else f j)
    by_cases e : j = s
    · rw [if_pos (by rw [e]), if_pos e]
      rfl
    · have ne : ¬ (Sum.inl (j : Int) : Key) = Sum.inl (s : Int) := fun q => e (Int.ofNat.inj (Sum.inl.inj q))
      rw [if_neg ne, if_neg e]
theorem IsDF.of {H : Hp} {a : Addr} {m : Nat} {f g : Nat → Option Nat} (h : IsDF H a m f) (e : ∀ s, f s = g s) : IsDF H a m g := (funext e : f = g) ▸ h
/-- a dict's entries from pairs -/
def pk (p : Nat × Nat) : Key × V := (.inl (p.1 : Int), vn p.2)
/-- a dict that holds these pairs in this order -/
def IsDP (H : Hp) (a : Addr) (ps : List (Nat × Nat)) : Prop := H a = some (.dK (ps.map pk)) ∧ ps.length ≤ 1000
theorem IsDP.mono {H H' : Hp} {a : Addr} {ps : List (Nat × Nat)} (h : IsDP H a ps) (e : Same H H') : IsDP H' a ps := ⟨e _ _ h.1, h.2⟩
theorem valV_pk {ps : List (Nat × Nat)} {s : Nat} : valV (ps.map pk) (.inl (s : Int)) = (lk ps s).map vn := by
  induction ps with
  | nil => rfl
  | cons p r ih =>
    unfold valV lk at ih ⊢
    rw [List.map_cons, List.find?_cons, List.find?_cons]
    by_cases e : p.1 = s
    · subst e
      simp [pk]
    · have n1 : decide ((pk p).1 = (.inl (s : Int) : Key)) = false := by
        simp [pk]
        omega
      have n2 : decide (p.1 = s) = false := decide_eq_false e
      rw [n1, n2]
      exact ih
theorem IsDP.df {H : Hp} {a : Addr} {ps : List (Nat × Nat)} (h : IsDP H a ps) : IsDF H a 1000 (lk ps) := ⟨_, h.1, by rw [List.length_map]; exact h.2, fun _ => valV_pk⟩
/-! ### tests over whole numbers -/
theorem vn_inj {a b : Nat} (h : vn a = vn b) : a = b := Int.ofNat.inj (V.int.inj h)
theorem if_eq {a b : Nat} {A B : Prop} (h1 : a = b → A) (h2 : a ≠ b → B) : if decide (vn a = vn b) = true then A else B := by
  by_cases e : a = b
  · rw [e, decide_eq_true rfl, if_pos rfl]
    exact h1 e
  · rw [decide_eq_false fun q => e (vn_inj q), if_neg Bool.false_ne_true]
    exact h2 e
theorem if_ne {a b : Nat} {A B : Prop} (h1 : a ≠ b → A) (h2 : a = b → B) : if (!decide (vn a = vn b)) = true then A else B := by
  by_cases e : a = b
  · rw [e, decide_eq_true rfl, Bool.not_true, if_neg Bool.false_ne_true]
    exact h2 e
  · rw [decide_eq_false fun q => e (vn_inj q), Bool.not_false, if_pos rfl]
    exact h1 e
theorem if_dec {c : Prop} [Decidable c] {A B : Prop} (h1 : c → A) (h2 : ¬ c → B) : if decide c = true then A else B := by
  by_cases e : c
  · rw [decide_eq_true e, if_pos rfl]
    exact h1 e
  · rw [decide_eq_false e, if_neg Bool.false_ne_true]
    exact h2 e
theorem getD_of {xs : List Nat} {i n : Nat} (h : xs[i]? = some n) : xs.getD i 0 = n := by
  rw [List.getD_eq_getElem?_getD, h]
  rfl
/-! ### names -/
theorem ix_last {xs : List V} {v : V} (h : xs.getLast? = some v) : atI xs (-1) = some v := by
  obtain ⟨ys, rfl⟩ : ∃ ys, xs = ys ++ [v] := by
    cases xs with
    | nil => cases h
    | cons a r =>
      rw [List.getLast?_eq_some_getLast (List.cons_ne_nil a r)] at h
      have e : (a :: r).getLast (List.cons_ne_nil a r) = v := Option.some.inj h
      exact ⟨(a :: r).dropLast, by rw [← e]; exact (List.dropLast_concat_getLast (List.cons_ne_nil a r)).symm⟩
  exact atI_last ys v
theorem walk_rangeN {n : Nat} : Walk (Itr 0 n) n (fun _ => True) (fun i H x H' => H' = H ∧ x = vn i) :=
  walk_range.mono (fun _ h => h) fun i H x H' _ _ y => ⟨y.1, y.2.trans (by
    show V.int (0 + ((i : Nat) : Int)) = V.int ((i : Nat) : Int)
    rw [Int.zero_add])⟩
/-! ### comprehensions over a walk -/
section
variable {J : It} {n : Nat} {G : Hp → Prop} {Y : Nat → Hp → V → Hp → Prop}
theorem fm_snoc {α : Type} (f : Nat → Option α) (i : Nat) : (List.range (i + 1)).filterMap f = (List.range i).filterMap f ++ (match f i with
    | some y => [y]
    | none => []) := by
  rw [List.range_succ, List.filterMap_append]
  cases h : f i with
  | none => simp [h]
  | some y => simp [h]
theorem fm_len {α : Type} (f : Nat → Option α) (i : Nat) : ((List.range i).filterMap f).length ≤ i := by
  have := List.length_filterMap_le f (List.range i)
  rw [List.length_range] at this
  exact this
theorem fm_map {α : Type} (g : Nat → α) (n : Nat) : ((List.range n).filterMap fun i => some (g i)) = (List.range n).map g := by
  rw [← List.filterMap_eq_map]
  rfl
theorem fm_nv (h : Nat → Option Nat) (n : Nat) : ((List.range n).filterMap fun i => (h i).map vn) = nv ((List.range n).filterMap h) := by
  unfold nv
  rw [List.map_filterMap]
theorem fm_get {α β : Type} (g : α → β) (xs : List α) : ((List.range xs.length).filterMap fun i => (xs[i]?).map g) = xs.map g := by
  have h : ∀ n, n ≤ xs.length → ((List.range n).filterMap fun i => (xs[i]?).map g) = (xs.take n).map g := by
    intro n
    induction n with
    | zero => intro _; simp
    | succ n ih =>
      intro hn
      rw [fm_snoc, ih (by omega), List.take_succ, List.map_append, List.getElem?_eq_getElem (show n < xs.length by omega)]
      rfl
  have := h xs.length (Nat.le_refl _)
  rwa [List.take_length] at this
theorem cut_from (xs : List V) (k : Nat) : cutV xs (some (k : Int)) none = xs.drop k := by
  unfold cutV
  rw [HT.sIx_nat, HT.sIx_none]
  by_cases h : k ≤ xs.length
  · rw [Nat.min_eq_left h, List.take_of_length_le (by rw [List.length_drop] <;> omega)]
  · rw [Nat.min_eq_right (by omega), List.drop_length, List.take_nil, List.drop_of_length_le (by omega)]
theorem cut_to (xs : List V) (k : Nat) : cutV xs none (some (k : Int)) = xs.take k := by
  unfold cutV
  rw [HT.sIx_nat, HT.sIx_none, List.drop_zero, Nat.sub_zero]
  by_cases h : k ≤ xs.length
  · rw [Nat.min_eq_left h]
  · rw [Nat.min_eq_right (by omega), List.take_length, List.take_of_length_le (by omega)]
theorem nv_drop (xs : List Nat) (k : Nat) : (nv xs).drop k = nv (xs.drop k) := by
  unfold nv
  rw [List.map_drop]
theorem nv_take (xs : List Nat) (k : Nat) : (nv xs).take k = nv (xs.take k) := by
  unfold nv
  rw [List.map_take]
theorem all_true (n : Nat) : ((List.range n).map fun _ => true).all id = true := by
  rw [List.all_eq_true]
  intro b hb
  obtain ⟨_, _, rfl⟩ := List.mem_map.mp hb
  rfl
theorem bl_list (n : Nat) : ((List.range n).filterMap fun _ => some (V.bl true)) = ((List.range n).map fun _ => true).map V.bl := by
  rw [fm_map, List.map_map]
  rfl
theorem int_nodup {xs : List Nat} (h : xs.Nodup) : (xs.map fun n : Nat => (n : Int)).Nodup := by
  refine (List.pairwise_map.mpr (h.imp ?_) : List.Nodup _)
  exact fun h q => h (Int.ofNat.inj q)
/-- each turn gives a value, or nothing -/
theorem lc_val (w : Walk J n G Y) (f : Nat → Option V) {g : TG} {tt : TT} {te : TE} {vs : List Nat} {σ : L2.St} {H1 : Hp} {D : Addr} {Qd : Hp → Prop} (hn : n ≤ 100000) (hD : H1 D = none) (hG : ∀ H, Same H1 H → G H)
    (hs : ∀ i x H H' (Ky : V → Hp → Prop) (Kn : Hp → Prop), i < n → Same H1 H → Y i H x H' → (∀ H2, Same H' H2 → ∀ y, f i = some y → Ky y H2) → (∀ H2, Same H' H2 → f i = none → Kn H2) →
      Same H H' ∧ g x (wipe σ vs) H' fun σ2 H2 => wipe σ2 vs = wipe σ vs ∧ tt σ2 H2 fun b H3 => if b = true then te σ2 H3 Ky else Kn H3)
    (hd : ∀ H, Same H1 H → H D = some (.lst ((List.range n).filterMap f)) → Qd H) :
    ∃ W : Nat → Nat → Hp → Prop, (∃ m, W 0 m (upd H1 D (.lst []))) ∧ ∀ i m H, W i m H →
      (J.stop i H ∧ Qd H) ∨ (J.go i H ∧ ∃ Nx : Hp → Prop, (∀ H', Nx H' → ∃ m', m' < m ∧ W (i + 1) m' H') ∧ ∀ x H', J.yld i H x H' → g x (wipe σ vs) H' fun σ2 H2 => wipe σ2 vs = wipe σ vs ∧ tt σ2 H2 fun b H3 =>
        if b = true then te σ2 H3 fun y H4 => ∃ acc, H4 D = some (.lst acc) ∧ acc.length < sizeLine ∧ Nx (upd H4 D (.lst (acc ++ [y]))) else Nx H3) := by
  refine lc_it w (fun i H => Same H1 H ∧ H D = some (.lst ((List.range i).filterMap f))) ⟨Same.new hD, upd_same⟩ (fun i H _ p => hG H p.1) (fun i x H H' hi p y => ?_) fun H p => hd H p.1 p.2
  have key := fun e : Same H H' => hs i x H H' (fun y H4 => ∃ acc, H4 D = some (.lst acc) ∧ acc.length < sizeLine ∧ (Same H1 (upd H4 D (.lst (acc ++ [y]))) ∧ upd H4 D (.lst (acc ++ [y])) D = some (.lst ((List.range (i + 1)).filterMap f))))
    (fun H3 => Same H1 H3 ∧ H3 D = some (.lst ((List.range (i + 1)).filterMap f))) hi p.1 y
    (fun H2 e2 y fy => ⟨_, e2 _ _ (e _ _ p.2), Nat.lt_of_le_of_lt (fm_len f i) (Nat.lt_of_lt_of_le hi (Nat.le_trans hn (by decide))), Same.mut ((p.1.trans e).trans e2) hD, by
      rw [upd_same, fm_snoc, fy]⟩)
    (fun H2 e2 fn => ⟨(p.1.trans e).trans e2, by
      rw [fm_snoc, fn, List.append_nil]
      exact e2 _ _ (e _ _ p.2)⟩)
  have e : Same H H' := (hs i x H H' (fun _ _ => True) (fun _ => True) hi p.1 y (fun _ _ _ _ => True.intro) (fun _ _ _ => True.intro)).1
  exact (key e).2
/-- each turn gives an object -/
theorem lc_obj (w : Walk J n G Y) (R : Nat → V → Hp → Prop) (mono : ∀ i y H H', Same H H' → R i y H → R i y H') {g : TG} {tt : TT} {te : TE} {vs : List Nat} {σ : L2.St} {H1 : Hp} {D : Addr} {Qd : Hp → Prop} (hn : n ≤ 100000) (hD : H1 D = none) (hG : ∀ H, Same H1 H → G H)
    (hs : ∀ i x H H' (Ky : V → Hp → Prop) (Kn : Hp → Prop), i < n → Same H1 H → H D ≠ none → Y i H x H' → (∀ H2, Same H' H2 → ∀ y, R i y (hid D H2) → Ky y H2) →
      Same H H' ∧ g x (wipe σ vs) H' fun σ2 H2 => wipe σ2 vs = wipe σ vs ∧ tt σ2 H2 fun b H3 => if b = true then te σ2 H3 Ky else Kn H3)
    (hd : ∀ H (ys : List V), Same H1 H → H D = some (.lst ys) → ys.length = n → (∀ (i : Nat) y, ys[i]? = some y → R i y (hid D H)) → Qd H) :
    ∃ W : Nat → Nat → Hp → Prop, (∃ m, W 0 m (upd H1 D (.lst []))) ∧ ∀ i m H, W i m H →
      (J.stop i H ∧ Qd H) ∨ (J.go i H ∧ ∃ Nx : Hp → Prop, (∀ H', Nx H' → ∃ m', m' < m ∧ W (i + 1) m' H') ∧ ∀ x H', J.yld i H x H' → g x (wipe σ vs) H' fun σ2 H2 => wipe σ2 vs = wipe σ vs ∧ tt σ2 H2 fun b H3 =>
        if b = true then te σ2 H3 fun y H4 => ∃ acc, H4 D = some (.lst acc) ∧ acc.length < sizeLine ∧ Nx (upd H4 D (.lst (acc ++ [y]))) else Nx H3) := by
  refine lc_it w (fun i H => Same H1 H ∧ ∃ ys : List V, H D = some (.lst ys) ∧ ys.length = i ∧ ∀ (j : Nat) y, ys[j]? = some y → R j y (hid D H)) ⟨Same.new hD, [], upd_same, rfl, fun j y q => by simp at q⟩ (fun i H _ p => hG H p.1) (fun i x H H' hi p y => ?_)
    fun H ⟨p1, ys, p2, p3, p4⟩ => hd H ys p1 p2 p3 p4
  obtain ⟨p1, ys, p2, p3, p4⟩ := p
  have hne : H D ≠ none := by
    rw [p2]
    exact fun z => nomatch z
  have e : Same H H' := (hs i x H H' (fun _ _ => True) (fun _ => True) hi p1 hne y (fun _ _ _ _ => True.intro)).1
  have key := (hs i x H H' (fun y H4 => ∃ acc, H4 D = some (.lst acc) ∧ acc.length < sizeLine ∧ (Same H1 (upd H4 D (.lst (acc ++ [y]))) ∧ ∃ ys : List V, upd H4 D (.lst (acc ++ [y])) D = some (.lst ys) ∧ ys.length = i + 1 ∧
    ∀ (j : Nat) z, ys[j]? = some z → R j z (hid D (upd H4 D (.lst (acc ++ [y])))))) (fun H3 => Same H1 H3 ∧ ∃ ys : List V, H3 D = some (.lst ys) ∧ ys.length = i + 1 ∧ ∀ (j : Nat) y, ys[j]? = some y → R j y (hid D H3)) hi p1 hne y (fun H2 e2 y r => by
      refine ⟨ys, e2 _ _ (e _ _ p2), by rw [p3]; exact Nat.lt_of_lt_of_le hi (Nat.le_trans hn (by decide)), Same.mut ((p1.trans e).trans e2) hD, ys ++ [y], upd_same, by rw [List.length_append, p3]; rfl, fun j z q => ?_⟩
      rw [hid_upd]
      by_cases hj : j < ys.length
      · rw [List.getElem?_append_left hj] at q
        exact mono j z _ _ (hid_mono (e.trans e2)) (p4 j z q)
      · rw [List.getElem?_append_right (by omega)] at q
        have hj2 : j - ys.length = 0 := by
          have := (List.getElem?_eq_some_iff.mp q).1
          simp at this
          omega
        rw [hj2] at q
        have ez : y = z := Option.some.inj q
        rw [← ez, show j = i by omega]
        exact r)).2
  exact key
end
end HB
/-! the program's objects; dict comprehensions -/
namespace HB
open PySem PySem.Spec PyProof.Rows L2
/-! ### dict comprehensions over a walk -/
section
variable {J : It} {n : Nat} {G : Hp → Prop} {Y : Nat → Hp → V → Hp → Prop}
theorem dc_it (w : Walk J n G Y) {g : TG} {tt : TT} {tk tv : TE} {vs : List Nat} {σ : L2.St} {H1 : Hp} {D : Addr} {Qd : Hp → Prop} (Pv : Nat → Hp → Prop) (h0 : Pv 0 (upd H1 D (.dK []))) (hG : ∀ i H, i ≤ n → Pv i H → G H)
    (hs : ∀ i x H H', i < n → Pv i H → Y i H x H' → g x (wipe σ vs) H' fun σ2 H2 => wipe σ2 vs = wipe σ vs ∧ tt σ2 H2 fun b H3 =>
      if b = true then tk σ2 H3 fun y H4 => tv σ2 H4 fun z H5 => ∃ kvs k, y = kV k ∧ H5 D = some (.dK kvs) ∧ kvs.length < sizeLine ∧ Pv (i + 1) (upd H5 D (.dK (putK kvs k z))) else Pv (i + 1) H3) (hd : ∀ H, Pv n H → Qd H) :
    ∃ W : Nat → Nat → Hp → Prop, (∃ m, W 0 m (upd H1 D (.dK []))) ∧ ∀ i m H, W i m H →
      (J.stop i H ∧ Qd H) ∨ (J.go i H ∧ ∃ Nx : Hp → Prop, (∀ H', Nx H' → ∃ m', m' < m ∧ W (i + 1) m' H') ∧ ∀ x H', J.yld i H x H' → g x (wipe σ vs) H' fun σ2 H2 => wipe σ2 vs = wipe σ vs ∧ tt σ2 H2 fun b H3 =>
        if b = true then tk σ2 H3 fun y H4 => tv σ2 H4 fun z H5 => ∃ kvs k, y = kV k ∧ H5 D = some (.dK kvs) ∧ kvs.length < sizeLine ∧ Nx (upd H5 D (.dK (putK kvs k z))) else Nx H3) := by
  refine ⟨fun i m H => m = n - i ∧ i ≤ n ∧ Pv i H, ⟨n, (Nat.sub_zero n).symm, Nat.zero_le _, h0⟩, ?_⟩
  rintro i m H ⟨rfl, hi, p⟩
  rcases Nat.lt_or_ge i n with hlt | hge
  · exact .inr ⟨w.goes i H hlt (hG i H hi p), Pv (i + 1), fun H' p' => ⟨n - (i + 1), by omega, rfl, hlt, p'⟩, fun x H' y => hs i x H H' hlt p (w.yields i H x H' hlt (hG i H hi p) y)⟩
  · obtain rfl : i = n := by omega
    exact .inl ⟨w.stops H (hG i H hi p), hd H p⟩
/-- each turn puts k i under its key; the dict by what it answers -/
theorem dc_df (w : Walk J n G Y) (k v : Nat → Nat) {g : TG} {tt : TT} {tk tv : TE} {vs : List Nat} {σ : L2.St} {H1 : Hp} {D : Addr} {Qd : Hp → Prop} (F : Nat → Nat → Option Nat) (hF0 : ∀ s, F 0 s = none) (hF : ∀ i s, i < n → F (i + 1) s = if s = k i then some (v i) else F i s)
    (hn : n ≤ 1000) (hD : H1 D = none) (hG : ∀ H, Same H1 H → G H)
    (hs : ∀ i x H H' (Kd : V → V → Hp → Prop) (Kn : Hp → Prop), i < n → Same H1 H → Y i H x H' → (∀ H2, Same H' H2 → Kd (vn (k i)) (vn (v i)) H2) →
      Same H H' ∧ g x (wipe σ vs) H' fun σ2 H2 => wipe σ2 vs = wipe σ vs ∧ tt σ2 H2 fun b H3 => if b = true then tk σ2 H3 fun y H4 => tv σ2 H4 fun z H5 => Kd y z H5 else Kn H3)
    (hd : ∀ H, Same H1 H → IsDF H D n (F n) → Qd H) :
    ∃ W : Nat → Nat → Hp → Prop, (∃ m, W 0 m (upd H1 D (.dK []))) ∧ ∀ i m H, W i m H →
      (J.stop i H ∧ Qd H) ∨ (J.go i H ∧ ∃ Nx : Hp → Prop, (∀ H', Nx H' → ∃ m', m' < m ∧ W (i + 1) m' H') ∧ ∀ x H', J.yld i H x H' → g x (wipe σ vs) H' fun σ2 H2 => wipe σ2 vs = wipe σ vs ∧ tt σ2 H2 fun b H3 =>
        if b = true then tk σ2 H3 fun y H4 => tv σ2 H4 fun z H5 => ∃ kvs k, y = kV k ∧ H5 D = some (.dK kvs) ∧ kvs.length < sizeLine ∧ Nx (upd H5 D (.dK (putK kvs k z))) else Nx H3) := by
  refine dc_it w (fun i H => Same H1 H ∧ IsDF H D i (F i)) ⟨Same.new hD, [], upd_same, Nat.le_refl _, fun s => by rw [hF0]; rfl⟩ (fun i H _ p => hG H p.1) (fun i x H H' hi p y => ?_) fun H p => hd H p.1 p.2
  have e : Same H H' := (hs i x H H' (fun _ _ _ => True) (fun _ => True) hi p.1 y fun _ _ => True.intro).1
  refine (hs i x H H' (fun y z H5 => ∃ kvs k, y = kV k ∧ H5 D = some (.dK kvs) ∧ kvs.length < sizeLine ∧ (Same H1 (upd H5 D (.dK (putK kvs k z))) ∧ IsDF (upd H5 D (.dK (putK kvs k z))) D (i + 1) (F (i + 1))))
    (fun H3 => Same H1 H3 ∧ IsDF H3 D (i + 1) (F (i + 1))) hi p.1 y fun H2 e2 => ?_).2
  obtain ⟨kvs, x1, x2, x3⟩ := p.2.mono (e.trans e2)
  refine ⟨kvs, .inl ((k i : Nat) : Int), rfl, x1, Nat.lt_of_le_of_lt (Nat.le_trans x2 (Nat.le_of_lt (Nat.lt_of_lt_of_le hi hn))) (by decide), Same.mut ((p.1.trans e).trans e2) hD, _, upd_same, ?_, fun s => ?_⟩
  · have := length_putK kvs (.inl ((k i : Nat) : Int)) (vn (v i))
    omega
  · rw [valV_put, x3 s, hF i s hi]
    by_cases es : s = k i
    · rw [if_pos (by rw [es]), if_pos es]
      rfl
    · have ne : ¬ (Sum.inl (s : Int) : Key) = Sum.inl ((k i : Nat) : Int) := fun q => es (Int.ofNat.inj (Sum.inl.inj q))
      rw [if_neg ne, if_neg es]
end
theorem lk_snoc {ps : List (Nat × Nat)} {p : Nat × Nat} {s : Nat} : lk (ps ++ [p]) s = match lk ps s with
    | some t => some t
    | none => if p.1 = s then some p.2 else none := by
  unfold lk
  rw [List.find?_append]
  cases h : ps.find? fun q => decide (q.1 = s) with
  | some q => rfl
  | none =>
    show Option.map (·.2) ((none : Option (Nat × Nat)).or (List.find? _ [p])) = if p.1 = s then some p.2 else none
    rw [Option.none_or, List.find?_singleton]
    by_cases e : p.1 = s
    · rw [if_pos e, decide_eq_true e]
      rfl
    · rw [if_neg e, decide_eq_false e]
      rfl
/-- the first of two keys that are alike: none, where all keys differ -/
theorem lk_fresh {ps : List (Nat × Nat)} {p : Nat × Nat} (h : ∀ q ∈ ps, q.1 ≠ p.1) : lk ps p.1 = none := by
  unfold lk
  rw [List.find?_eq_none.mpr fun q hq => by simpa using h q hq]
  rfl
/-- {pair[0]: pair[1] for pair in ..}, all keys different: the very pairs -/
theorem put_pairs {ps : List (Nat × Nat)} {p : Nat × Nat} (h : ∀ q ∈ ps, q.1 ≠ p.1) : putK (ps.map pk) (.inl (p.1 : Int)) (vn p.2) = (ps ++ [p]).map pk := by
  rw [putK_new _ (by rw [valV_pk, lk_fresh h]; rfl), List.map_append]
  rfl
/-- {pair[0]: pair[1] for pair in l} -/
theorem dc_pairs {K : PySem.W.Frag} {l : Addr} {us : List V} {ps : List (Nat × Nat)} {j : Nat} {vs : List Nat} {σ : L2.St} {H1 : Hp} {D : Addr} {Qd : Hp → Prop} (hU : H1 l = some (.lst us)) (hlen : us.length = ps.length)
    (hR : ∀ (i : Nat) (p : Nat × Nat) (v : V), ps[i]? = some p → us[i]? = some v → RP p H1 v) (asc : ps.Pairwise fun p q => p.1 < q.1) (hl : ps.length ≤ 1000)
    (hj : ∀ v : V, ((wipe σ vs).set j (some v))[j]? = some (some v)) (hw : ∀ v : V, wipe ((wipe σ vs).set j (some v)) vs = wipe σ vs) (hD : H1 D = none) (hd : ∀ H, Same H1 H → IsDP H D ps → Qd H) :
    ∃ W : Nat → Nat → Hp → Prop, (∃ m, W 0 m (upd H1 D (.dK []))) ∧ ∀ i m H, W i m H →
      ((Itl K l).stop i H ∧ Qd H) ∨ ((Itl K l).go i H ∧ ∃ Nx : Hp → Prop, (∀ H', Nx H' → ∃ m', m' < m ∧ W (i + 1) m' H') ∧ ∀ x H', (Itl K l).yld i H x H' → gName j x (wipe σ vs) H' fun σ2 H2 => wipe σ2 vs = wipe σ vs ∧ tYes σ2 H2 fun b H3 =>
        if b = true then tOp (rIxT K) (tVar j) (tC (.int 0)) σ2 H3 fun y H4 => tOp (rIxT K) (tVar j) (tC (.int 1)) σ2 H4 fun z H5 => ∃ kvs k, y = kV k ∧ H5 D = some (.dK kvs) ∧ kvs.length < sizeLine ∧ Nx (upd H5 D (.dK (putK kvs k z))) else Nx H3) := by
  refine dc_it (walk_list (xs := us)) (fun i H => Same H1 H ∧ H D = some (.dK ((ps.take i).map pk))) ⟨Same.new hD, upd_same⟩ (fun i H _ p => sl (p.1 _ _ hU)) (fun i x H H' hi p y => ?_) fun H p => hd H p.1 ⟨by
    have q := p.2
    rw [hlen, List.take_length] at q
    exact q, hl⟩
  obtain ⟨rfl, hx⟩ := y
  have hi2 : i < ps.length := by rw [← hlen]; exact hi
  obtain ⟨T, rfl, hT⟩ := hR i ps[i] x (List.getElem?_eq_getElem hi2) hx
  have hT2 := p.1 _ _ hT
  refine ⟨hw _, ?_⟩
  refine ⟨_, hj _, T, _, 0, vn ps[i].1, rfl, rfl, SqT.of hT2, rfl, _, hj _, T, _, 1, vn ps[i].2, rfl, rfl, SqT.of hT2, rfl, (ps.take i).map pk, .inl ((ps[i].1 : Nat) : Int), rfl, p.2, ?_, Same.mut p.1 hD, ?_⟩
  · rw [List.length_map, List.length_take]
    exact Nat.lt_of_le_of_lt (Nat.min_le_right ..) (Nat.lt_of_le_of_lt hl (by decide))
  · rw [upd_same, put_pairs (p := ps[i]), take_snoc (List.getElem?_eq_getElem hi2)]
    intro q hq e
    obtain ⟨k, hk, rfl⟩ := List.mem_iff_getElem.mp hq
    rw [List.length_take] at hk
    rw [List.getElem_take] at e
    have := List.pairwise_iff_getElem.mp asc k i (by omega) hi2 (by omega)
    omega
theorem same_made {H : Hp} {x dx : Addr} {o o' : HO} (hx : H x = none) (hd : H dx = none) : Same H (hid x (upd (upd H dx o) x o')) := fun p u e => by
  rw [hid_at (ne_of_none e hx), upd_ne (ne_of_none e hx), upd_ne (ne_of_none e hd)]
  exact e
/-- an instance's own cell, written -/
theorem hid_ne {H : Hp} {x p : Addr} {o : HO} (h : hid x H p = some o) : p ≠ x := (hid_some h).1
/-- all but the cell of x is as it was -/
theorem sb_of {x : Addr} {H H' : Hp} (e : Same (hid x H) (hid x H')) : SameBut x H H' := fun p o h q => by
  have := e p o (by rw [hid_at h]; exact q)
  exact hid_le _ _ this
theorem hid_free {x p : Addr} {H G : Hp} (e : Same (hid x H) (hid x G)) (h : G p = none) (n : p ≠ x) : H p = none := by
  cases q : H p with
  | none => rfl
  | some o =>
    have := e p o (by rw [hid_at n]; exact q)
    rw [hid_at n, h] at this
    cases this
/-- a store in x -/
theorem hid_st {x : Addr} {H0 H G : Hp} {o : HO} (e : Same H0 H) (h : upd H x o = G) : G x = some o ∧ Same (hid x H0) (hid x G) := by
  subst h
  exact ⟨upd_same, by rw [hid_upd]; exact hid_mono e⟩
theorem ne_x {x p : Addr} {G : Hp} {o : HO} (g : G x = some o) (h : G p = none) : p ≠ x := fun e => by
  rw [e, g] at h
  cases h
/-- what a new thing is, behind a store in x -/
theorem hid_new {x p : Addr} {H G : Hp} {o u : HO} (h : upd H x o = G) (n : p ≠ x) (q : H p = some u) : hid x G p = some u := by
  subst h
  rw [hid_upd, hid_at n]
  exact q
/-! ### Block -/
def bfs (b i : Addr) (size reps beg fin : Nat) (li tu lo la fi : Addr) : List (Str × V) :=
  putF "first" (.ref fi) (putF "later" (.ref la) (putF "last_offset" (.ref lo) (putF "turned" (.ref tu) (putF "linked" (.ref li) (putF "end" (vn fin) (putF "begin" (vn beg) (putF "repetitions" (vn reps)
    (putF "size" (vn size) (putF "ids" (.ref i) (putF "base" (.ref b) []))))))))))
/-- a Block object -/
def IsBO (C : Addr) (H : Hp) (a : Addr) (B : BO) : Prop := ∃ dx b i li tu lo la fi, H a = some (.ins C dx (bfs b i B.size B.reps B.beg B.fin li tu lo la fi)) ∧ IsL H b B.base ∧ IsL H i B.ids ∧ IsDP H li B.linked ∧ IsDP H tu B.turned ∧
  IsDF H lo 1000 (lastI B.ids) ∧ IsL H la B.later ∧ IsL H fi B.first
theorem IsBO.mono {C : Addr} {H H' : Hp} {a : Addr} {B : BO} (h : IsBO C H a B) (e : Same H H') : IsBO C H' a B := by
  obtain ⟨dx, b, i, li, tu, lo, la, fi, h0, h1, h2, h3, h4, h5, h6, h7⟩ := h
  exact ⟨dx, b, i, li, tu, lo, la, fi, e _ _ h0, h1.mono e, h2.mono e, h3.mono e, h4.mono e, h5.mono e, h6.mono e, h7.mono e⟩
/-- as an item of a list -/
def RBO (C : Addr) (B : BO) (H : Hp) (v : V) : Prop := ∃ a, v = .ref a ∧ IsBO C H a B
theorem RBO.mono {C : Addr} {B : BO} {H H' : Hp} {v : V} (h : RBO C B H v) (e : Same H H') : RBO C B H' v := let ⟨a, x, y⟩ := h; ⟨a, x, y.mono e⟩
abbrev IsBs (C : Addr) (H : Hp) (a : Addr) (bs : List BO) : Prop := IsLR (RBO C) H a bs
theorem IsBs.mono {C : Addr} {H H' : Hp} {a : Addr} {bs : List BO} (h : IsBs C H a bs) (e : Same H H') : IsBs C H' a bs := IsLR.mono h (fun _ _ r => r.mono e) e
/-! ### == of lists of whole numbers -/
def nd (xs : List Nat) : List PyData := xs.map fun n => PyData.int ((n : Nat) : Int)
theorem nd_lay : ∀ xs : List Nat, PyData.canLayAll0 (nd xs) = true
  | [] => rfl
  | _ :: r => by
    show PyData.canLayAll0 (PyData.int _ :: nd r) = true
    simp [PyData.canLayAll0, PyData.canLay0, nd_lay r]
theorem nd_deep : ∀ xs : List Nat, PyData.depthAll (nd xs) = 0
  | [] => rfl
  | _ :: r => by
    show PyData.depthAll (PyData.int _ :: nd r) = 0
    simp [PyData.depthAll, PyData.depth, nd_deep r]
theorem nd_shaped (xs : List Nat) : SeqAt.shaped (.list (nd xs)) = true := by
  simp [SeqAt.shaped, PyData.canLay0, PyData.depth, nd_lay, nd_deep]
theorem nd_shapedT (xs : List Nat) : SeqAt.shaped (.tuple (nd xs)) = true := by
  simp [SeqAt.shaped, PyData.canLay0, PyData.depth, nd_lay, nd_deep]
theorem nd_all : ∀ xs ys : List Nat, PyData.eqvAll (nd xs) (nd ys) = decide (xs = ys)
  | [], [] => by simp [nd, PyData.eqvAll]
  | [], _ :: _ => by simp [nd, PyData.eqvAll]
  | _ :: _, [] => by simp [nd, PyData.eqvAll]
  | x :: r, y :: u => by
    show PyData.eqvAll (PyData.int _ :: nd r) (PyData.int _ :: nd u) = _
    rw [PyData.eqvAll, nd_all r u, PyData.eqv]
    have e : ((x : Int) = (y : Int)) ↔ x = y := ⟨fun h => by omega, fun h => by omega⟩
    by_cases h : x = y <;> by_cases h' : r = u <;> simp [h, h', e]
theorem nd_eqv (xs ys : List Nat) : PyData.eqv (.list (nd xs)) (.list (nd ys)) = decide (xs = ys) := by
  rw [PyData.eqv, nd_all]
theorem nd_eqvT (xs ys : List Nat) : PyData.eqv (.tuple (nd xs)) (.tuple (nd ys)) = decide (xs = ys) := by
  rw [PyData.eqv, nd_all]
theorem nd_dpAll {K : PySem.W.Frag} {H : Hp} : ∀ xs : List Nat, DpAll K H (nv xs) (nd xs)
  | [] => .nil
  | _ :: r => .cons (.int _) (nd_dpAll r)
theorem nd_dp {K : PySem.W.Frag} {H : Hp} {a : Addr} {xs : List Nat} (h : IsL H a xs) : Dp K H (.ref a) (.list (nd xs)) := .lst (sl h) (nd_dpAll xs)
theorem nd_dpT {K : PySem.W.Frag} {H : Hp} {a : Addr} {xs : List Nat} (h : H a = some (.tup (nv xs))) : Dp K H (.ref a) (.tuple (nd xs)) := .tup (SqT.of h) (nd_dpAll xs)
/-! ### without two cells -/
def hid2 (a b : Addr) (H : Hp) : Hp := fun p => if p = a ∨ p = b then none else H p
theorem hid2_at {a b p : Addr} {H : Hp} (h1 : p ≠ a) (h2 : p ≠ b) : hid2 a b H p = H p := if_neg fun h => h.elim h1 h2
theorem hid2_some {a b p : Addr} {H : Hp} {o : HO} (h : hid2 a b H p = some o) : p ≠ a ∧ p ≠ b ∧ H p = some o := by
  unfold hid2 at h
  by_cases q : p = a ∨ p = b
  · rw [if_pos q] at h
    cases h
  · rw [if_neg q] at h
    exact ⟨fun z => q (.inl z), fun z => q (.inr z), h⟩
theorem hid2_le {a b : Addr} {H : Hp} : Same (hid2 a b H) H := fun p o e => (hid2_some e).2.2
theorem hid2_mono {a b : Addr} {H H' : Hp} (e : Same H H') : Same (hid2 a b H) (hid2 a b H') := fun p o q => by
  obtain ⟨h1, h2, h3⟩ := hid2_some q
  rw [hid2_at h1 h2]
  exact e p o h3
theorem hid2_upd1 {a b : Addr} {H : Hp} {o : HO} : hid2 a b (upd H a o) = hid2 a b H := by
  funext p
  unfold hid2
  by_cases q : p = a ∨ p = b
  · rw [if_pos q, if_pos q]
  · rw [if_neg q, if_neg q, upd_ne fun z => q (.inl z)]
theorem hid2_upd2 {a b : Addr} {H : Hp} {o : HO} : hid2 a b (upd H b o) = hid2 a b H := by
  funext p
  unfold hid2
  by_cases q : p = a ∨ p = b
  · rw [if_pos q, if_pos q]
  · rw [if_neg q, if_neg q, upd_ne fun z => q (.inr z)]
/-- one more item -/
theorem items_snoc {α : Type} {R : α → V → Prop} {us : List V} {xs : List α} {u : V} {x : α} (hl : us.length = xs.length) (h : ∀ (i : Nat) y v, xs[i]? = some y → us[i]? = some v → R y v) (r : R x u) :
    (us ++ [u]).length = (xs ++ [x]).length ∧ ∀ (i : Nat) y v, (xs ++ [x])[i]? = some y → (us ++ [u])[i]? = some v → R y v := by
  refine ⟨by rw [List.length_append, List.length_append, hl]; rfl, fun i y v hy hv => ?_⟩
  by_cases c : i < us.length
  · rw [List.getElem?_append_left c] at hv
    rw [List.getElem?_append_left (by omega)] at hy
    exact h i y v hy hv
  · rw [List.getElem?_append_right (by omega)] at hv
    rw [List.getElem?_append_right (by omega)] at hy
    have c2 : i - us.length = 0 := by
      have := (List.getElem?_eq_some_iff.mp hv).1
      simp at this
      omega
    rw [c2] at hv
    rw [← hl, c2] at hy
    cases hv
    cases hy
    exact r
/-! ### Search -/
def sfs (b : Addr) (size : Nat) (ins acr : Addr) : List (Str × V) := putF "across" (.ref acr) (putF "inside" (.ref ins) (putF "size" (vn size) (putF "blocks" (.ref b) [])))
theorem sfs_blocks {b ins acr : Addr} {size : Nat} : (sfs b size ins acr).lookup ("blocks" : Str) = some (.ref b) := by kernel_rfl
theorem sfs_size {b ins acr : Addr} {size : Nat} : (sfs b size ins acr).lookup ("size" : Str) = some (vn size) := by kernel_rfl
theorem sfs_inside {b ins acr : Addr} {size : Nat} : (sfs b size ins acr).lookup ("inside" : Str) = some (.ref ins) := by kernel_rfl
theorem sfs_across {b ins acr : Addr} {size : Nat} : (sfs b size ins acr).lookup ("across" : Str) = some (.ref acr) := by kernel_rfl
theorem sfs_before {b ins acr : Addr} {size : Nat} : (sfs b size ins acr).lookup ("inside_before" : Str) = none := by kernel_rfl
theorem sfs_number {b ins acr : Addr} {size : Nat} : (sfs b size ins acr).lookup ("number_before" : Str) = none := by kernel_rfl
/-- a Search object -/
def IsSR (S C : Addr) (H : Hp) (a : Addr) (bs : List BO) (pat : List Nat) : Prop := ∃ dx b ins acr, H a = some (.ins S dx (sfs b pat.length ins acr)) ∧ IsBs C H b bs ∧ IsLL H ins (bs.map fun B => insides B pat) ∧ IsLL H acr (bs.map fun B => across bs B pat)
theorem IsSR.mono {S C : Addr} {H H' : Hp} {a : Addr} {bs : List BO} {pat : List Nat} (h : IsSR S C H a bs pat) (e : Same H H') : IsSR S C H' a bs pat := by
  obtain ⟨dx, b, i, c, h0, h1, h2, h3⟩ := h
  exact ⟨dx, b, i, c, e _ _ h0, h1.mono e, h2.mono e, h3.mono e⟩
/-! ### Run -/
def rfs (b : Addr) (start : Nat) (ch : Addr) (cnt : Nat) (ofs : Addr) : List (Str × V) := putF "offsets" (.ref ofs) (putF "count" (vn cnt) (putF "chain" (.ref ch) (putF "start" (vn start) (putF "block" (.ref b) []))))
theorem rfs_block {b ch ofs : Addr} {start cnt : Nat} : (rfs b start ch cnt ofs).lookup ("block" : Str) = some (.ref b) := by kernel_rfl
theorem rfs_start {b ch ofs : Addr} {start cnt : Nat} : (rfs b start ch cnt ofs).lookup ("start" : Str) = some (vn start) := by kernel_rfl
theorem rfs_chain {b ch ofs : Addr} {start cnt : Nat} : (rfs b start ch cnt ofs).lookup ("chain" : Str) = some (.ref ch) := by kernel_rfl
theorem rfs_count {b ch ofs : Addr} {start cnt : Nat} : (rfs b start ch cnt ofs).lookup ("count" : Str) = some (vn cnt) := by kernel_rfl
theorem rfs_offsets {b ch ofs : Addr} {start cnt : Nat} : (rfs b start ch cnt ofs).lookup ("offsets" : Str) = some (.ref ofs) := by kernel_rfl
theorem rfs_reaches {b ch ofs : Addr} {start cnt : Nat} : (rfs b start ch cnt ofs).lookup ("reaches_end" : Str) = none := by kernel_rfl
theorem rfs_last {b ch ofs : Addr} {start cnt : Nat} : (rfs b start ch cnt ofs).lookup ("last_symbol" : Str) = none := by kernel_rfl
theorem rfs_occ {b ch ofs : Addr} {start cnt : Nat} : (rfs b start ch cnt ofs).lookup ("occurrences_in" : Str) = none := by kernel_rfl
theorem rfs_pos {b ch ofs : Addr} {start cnt : Nat} : (rfs b start ch cnt ofs).lookup ("position_of" : Str) = none := by kernel_rfl
/-- a Run object -/
def IsRun (RC C : Addr) (H : Hp) (a : Addr) (R : RunP) : Prop := ∃ dx b ch ofs, H a = some (.ins RC dx (rfs b R.start ch R.cnt ofs)) ∧ IsBO C H b R.B ∧ IsL H ch R.ch ∧ IsLL H ofs (R.ch.map (offs R.B.ids))
theorem IsRun.mono {RC C : Addr} {H H' : Hp} {a : Addr} {R : RunP} (h : IsRun RC C H a R) (e : Same H H') : IsRun RC C H' a R := by
  obtain ⟨dx, b, ch, ofs, h0, h1, h2, h3⟩ := h
  exact ⟨dx, b, ch, ofs, e _ _ h0, h1.mono e, h2.mono e, h3.mono e⟩
def RRun (RC C : Addr) (R : RunP) (H : Hp) (v : V) : Prop := ∃ a, v = .ref a ∧ IsRun RC C H a R
theorem RRun.mono {RC C : Addr} {R : RunP} {H H' : Hp} {v : V} (h : RRun RC C R H v) (e : Same H H') : RRun RC C R H' v := let ⟨a, x, y⟩ := h; ⟨a, x, y.mono e⟩
end HB
/-! Occurrences -/
namespace HB
open PySem PySem.Spec PyProof.Rows L2
theorem last_item {α : Type} {R : α → V → Prop} {us : List V} {xs : List α} {x : α} (hl : us.length = xs.length) (h : ∀ (i : Nat) y v, xs[i]? = some y → us[i]? = some v → R y v) (hx : xs.getLast? = some x) : ∃ v, us.getLast? = some v ∧ R x v := by
  rw [List.getLast?_eq_getElem?] at hx
  have hi := (List.getElem?_eq_some_iff.mp hx).1
  obtain ⟨v, hv⟩ : ∃ v, us[xs.length - 1]? = some v := ⟨_, List.getElem?_eq_getElem (by omega)⟩
  exact ⟨v, by rw [List.getLast?_eq_getElem?, hl]; exact hv, h _ _ _ hx hv⟩
theorem last_some {α : Type} {xs : List α} (h : 1 ≤ xs.length) : ∃ x, xs.getLast? = some x := by
  cases z : xs.getLast? with
  | none =>
    rw [List.getLast?_eq_none_iff] at z
    rw [z] at h
    exact absurd h (Nat.not_succ_le_zero 0)
  | some a => exact ⟨a, rfl⟩
def ofs (p : Nat) (o r : Addr) : List (Str × V) := putF "runs" (.ref r) (putF "origin" (.ref o) (putF "position" (vn p) []))
theorem ofs_position {p : Nat} {o r : Addr} : (ofs p o r).lookup ("position" : Str) = some (vn p) := by kernel_rfl
theorem ofs_origin {p : Nat} {o r : Addr} : (ofs p o r).lookup ("origin" : Str) = some (.ref o) := by kernel_rfl
theorem ofs_runs {p : Nat} {o r : Addr} : (ofs p o r).lookup ("runs" : Str) = some (.ref r) := by kernel_rfl
theorem ofs_all {p : Nat} {o r : Addr} : (ofs p o r).lookup ("number_in_all" : Str) = none := by kernel_rfl
theorem ofs_before {p : Nat} {o r : Addr} : (ofs p o r).lookup ("number_before" : Str) = none := by kernel_rfl
theorem ofs_nth {p : Nat} {o r : Addr} : (ofs p o r).lookup ("nth_position" : Str) = none := by kernel_rfl
/-- an Occurrences object -/
def IsOcc (OC RC C : Addr) (H : Hp) (a : Addr) (p : Nat) (o : Nat × Nat × Nat) (rs : List RunP) : Prop := ∃ dx T l, H a = some (.ins OC dx (ofs p T l)) ∧ H T = some (.tup (nv [o.1, o.2.1, o.2.2])) ∧ IsLR (RRun RC C) H l rs
end HB
/-! the law's own stream -/
namespace HB
open PySem PySem.Spec PyProof.Rows L2
/-- the stream's cells -/
def IsSt (H : Hp) (st : Addr) : Prop := ∃ a b : Nat, H st = some (.lst [vn a, vn b]) ∧ b < 2147483648
theorem IsSt.mono {H H' : Hp} {st : Addr} (h : IsSt H st) (e : Same H H') : IsSt H' st := let ⟨a, b, x, y⟩ := h; ⟨a, b, e _ _ x, y⟩
theorem IsSt.ne {H : Hp} {st p : Addr} (h : IsSt H st) (hp : H p = none) : p ≠ st := by
  obtain ⟨a, b, x, _⟩ := h
  intro e
  rw [e, x] at hp
  cases hp
theorem SameBut.refl {l : Addr} {H : Hp} : SameBut l H H := fun _ _ _ h => h
theorem SameBut.free {l p : Addr} {H H' : Hp} (e : SameBut l H H') (h : H' p = none) (n : p ≠ l) : H p = none := by
  cases q : H p with
  | none => rfl
  | some o =>
    rw [e p o n q] at h
    cases h
theorem SameBut.mut {l p : Addr} {H H' : Hp} {o : HO} (e : SameBut l H H') (h : H p = none) : SameBut l H (L2.upd H' p o) := fun q u n hq => by
  rw [upd_ne (ne_of_none hq h)]
  exact e q u n hq
theorem log_small {n : Nat} (h : n ≤ 10 ^ 40) : n.log2 < 9000 := by
  rcases Nat.eq_zero_or_pos n with z | z
  · rw [z]
    decide
  · refine (Nat.log2_lt (by omega)).mpr (Nat.lt_of_le_of_lt h ?_)
    calc 10 ^ 40 < 2 ^ 140 := by decide
      _ ≤ 2 ^ 9000 := Nat.pow_le_pow_right (by decide) (by decide)
/-- [draw for k in range(n)] -/
theorem lc_dr {n many : Nat} {st : Addr} {g : TG} {tt : TT} {te : TE} {vs : List Nat} {σ : L2.St} {H1 : Hp} {D : Addr} {Qd : Hp → Prop} (hn : n ≤ 100000) (hD : H1 D = none) (hS : IsSt H1 st)
    (hs : ∀ i x H (Ky : V → Hp → Prop) (Kn : Hp → Prop), i < n → IsSt H st → (∀ r H', r < many → SameBut st H H' → IsSt H' st → Ky (vn r) H') →
      g x (wipe σ vs) H fun σ2 H2 => wipe σ2 vs = wipe σ vs ∧ tt σ2 H2 fun b H3 => if b = true then te σ2 H3 Ky else Kn H3)
    (hd : ∀ H (ys : List Nat), SameBut st H1 H → IsSt H st → ys.length = n → (∀ y ∈ ys, y < many) → IsL H D ys → Qd H) :
    ∃ W : Nat → Nat → Hp → Prop, (∃ m, W 0 m (upd H1 D (.lst []))) ∧ ∀ i m H, W i m H →
      ((Itr 0 n).stop i H ∧ Qd H) ∨ ((Itr 0 n).go i H ∧ ∃ Nx : Hp → Prop, (∀ H', Nx H' → ∃ m', m' < m ∧ W (i + 1) m' H') ∧ ∀ x H', (Itr 0 n).yld i H x H' → g x (wipe σ vs) H' fun σ2 H2 => wipe σ2 vs = wipe σ vs ∧ tt σ2 H2 fun b H3 =>
        if b = true then te σ2 H3 fun y H4 => ∃ acc, H4 D = some (.lst acc) ∧ acc.length < sizeLine ∧ Nx (upd H4 D (.lst (acc ++ [y]))) else Nx H3) := by
  have nD : D ≠ st := hS.ne hD
  refine lc_it walk_rangeN (fun i H => SameBut st H1 H ∧ IsSt H st ∧ ∃ ys : List Nat, ys.length = i ∧ (∀ y ∈ ys, y < many) ∧ IsL H D ys) ⟨Same.but (Same.new hD), hS.mono (Same.new hD), [], rfl, fun y h => (nomatch h), upd_same⟩ (fun i H _ _ => True.intro) (fun i x H H' hi p y => ?_)
    fun H ⟨p1, p2, ys, p3, p4, p5⟩ => hd H ys p1 p2 p3 p4 p5
  obtain ⟨rfl, -⟩ := y
  obtain ⟨p1, p2, ys, p3, p4, p5⟩ := p
  refine hs i x H' _ _ hi p2 fun r H2 hr sb hS2 => ?_
  have h5 : IsL H2 D ys := sb _ _ nD p5
  obtain ⟨a, b, x1, x2⟩ := hS2
  refine ⟨_, h5, ?_, (p1.trans sb).mut hD, ⟨a, b, by rw [upd_ne (Ne.symm nD)]; exact x1, x2⟩, ys ++ [r], by rw [List.length_append, p3]; rfl, fun y hy => ?_, ?_⟩
  · rw [nv_len, p3]
    exact Nat.lt_of_lt_of_le hi (Nat.le_trans hn (by decide))
  · rcases List.mem_append.mp hy with hy | hy
    · exact p4 y hy
    · rw [List.mem_singleton.mp hy]
      exact hr
  · show upd _ D _ D = _
    rw [upd_same, nv_snoc]
end HB
/-! sequences as data -/
namespace HB
open PySem PySem.Spec PyProof.Rows L2
theorem val3 {te : TE} {σ : L2.St} {H : Hp} {R : VK} (P : V → Hp → Prop) (h : ∀ Q : VK, (∀ v H', P v H' → Q v H') → te σ H Q) (k : ∀ v H', P v H' → R v H') : te σ H R := h _ k
def pd (ps : List (Nat × Nat)) : List PyData := ps.map fun p => .tuple (HB.nd [p.1, p.2])
theorem pd_lay : ∀ ps : List (Nat × Nat), PyData.canLayAll0 (pd ps) = true
  | [] => rfl
  | p :: r => by
    show PyData.canLayAll0 (PyData.tuple (HB.nd [p.1, p.2]) :: pd r) = true
    simp [PyData.canLayAll0, PyData.canLay0, nd_lay, pd_lay r]
theorem pd_deep : ∀ ps : List (Nat × Nat), PyData.depthAll (pd ps) ≤ 1
  | [] => Nat.zero_le _
  | p :: r => by
    show PyData.depthAll (PyData.tuple (HB.nd [p.1, p.2]) :: pd r) ≤ 1
    have := pd_deep r
    simp only [PyData.depthAll, PyData.depth, nd_deep]
    omega
def bd (b : Blk) : PyData := .tuple [.list (HB.nd b.base), .list (pd b.link), .list (pd b.turn), .int ((b.cnt : Nat) : Int)]
def sd (s : List Blk) : List PyData := s.map bd
theorem sd_lay : ∀ s : List Blk, PyData.canLayAll0 (sd s) = true
  | [] => rfl
  | b :: r => by
    show PyData.canLayAll0 (bd b :: sd r) = true
    simp [bd, PyData.canLayAll0, PyData.canLay0, nd_lay, pd_lay, sd_lay r]
theorem sd_deep : ∀ s : List Blk, PyData.depthAll (sd s) ≤ 4
  | [] => Nat.zero_le _
  | b :: r => by
    show PyData.depthAll (bd b :: sd r) ≤ 4
    have := sd_deep r
    have h1 := pd_deep b.link
    have h2 := pd_deep b.turn
    simp only [bd, PyData.depthAll, PyData.depth, nd_deep]
    omega
theorem sd_shaped (s : List Blk) : SeqAt.shaped (.list (sd s)) = true := by
  have := sd_deep s
  unfold SeqAt.shaped
  rw [Bool.and_eq_true]
  refine ⟨by simp [PyData.canLay0, sd_lay], decide_eq_true ?_⟩
  simp only [PyData.depth]
  omega
theorem dpAll_of {K : PySem.W.Frag} {H : Hp} {α : Type} (f : α → PyData) : ∀ {vs : List V} {xs : List α}, vs.length = xs.length → (∀ (i : Nat) x v, xs[i]? = some x → vs[i]? = some v → Dp K H v (f x)) → DpAll K H vs (xs.map f)
  | [], [], _, _ => .nil
  | [], _ :: _, h, _ => by simp at h
  | _ :: _, [], h, _ => by simp at h
  | v :: vs, x :: xs, h, hR => .cons (hR 0 x v rfl rfl) (dpAll_of f (by simpa using h) fun i x v a b => hR (i + 1) x v a b)
theorem pd_dp {K : PySem.W.Frag} {H : Hp} {a : Addr} {ps : List (Nat × Nat)} (h : IsP H a ps) : Dp K H (.ref a) (.list (pd ps)) := by
  obtain ⟨us, h1, h2, h3⟩ := h
  refine .lst (sl h1) (dpAll_of _ h2 fun i p v a b => ?_)
  obtain ⟨t, rfl, ht⟩ := h3 i p v a b
  exact nd_dpT (xs := [p.1, p.2]) ht
theorem bd_dp {K : PySem.W.Frag} {H : Hp} {b : Blk} {v : V} (h : RB b H v) : Dp K H v (bd b) := by
  obtain ⟨t, d, l, u, rfl, hT, hD, hL, hU⟩ := h
  exact .tup (SqT.of hT) (.cons (nd_dp hD) (.cons (pd_dp hL) (.cons (pd_dp hU) (.cons (.int _) .nil))))
theorem sd_dp {K : PySem.W.Frag} {H : Hp} {a : Addr} {s : List Blk} (h : IsS H a s) : Dp K H (.ref a) (.list (sd s)) := by
  obtain ⟨us, h1, h2, h3⟩ := h
  exact .lst (sl h1) (dpAll_of _ h2 fun i b v x y => bd_dp (h3 i b v x y))
theorem sd_nil (s : List Blk) : PyData.eqv (.list (sd s)) (.list (HB.nd [])) = decide (s = []) := by
  cases s with
  | nil =>
    show PyData.eqv (.list []) (.list []) = true
    simp [PyData.eqv, PyData.eqvAll]
  | cons b r =>
    show PyData.eqv (.list (bd b :: sd r)) (.list []) = _
    simp [PyData.eqv, PyData.eqvAll]
theorem hid2_sb {a b : Addr} {H H' : Hp} (e : SameBut a H H') : Same (hid2 a b H) (hid2 a b H') := fun p o q => by
  obtain ⟨h1, h2, h3⟩ := hid2_some q
  rw [hid2_at h1 h2]
  exact e p o h1 h3
theorem hid2_hid {a b : Addr} {H : Hp} : Same (hid2 a b H) (hid a H) := fun p o q => by
  obtain ⟨h1, h2, h3⟩ := hid2_some q
  rw [hid_at h1]
  exact h3
/-- a mapping is no part of a list that stands apart -/
theorem isP_hid2 {st fd l : Addr} {H : Hp} {m : List (Nat × Nat)} {us : List V} (h : IsP (hid st H) l m) (hf : H fd = some (.lst us)) (hl : l ≠ fd) : IsP (hid2 st fd H) l m := by
  obtain ⟨vs, h1, h2, h3⟩ := h
  obtain ⟨n1, g1⟩ := hid_some h1
  refine ⟨vs, by rw [hid2_at n1 hl]; exact g1, h2, fun i p v a b => ?_⟩
  obtain ⟨t, rfl, ht⟩ := h3 i p v a b
  obtain ⟨n2, g2⟩ := hid_some ht
  refine ⟨t, rfl, ?_⟩
  rw [hid2_at n2 (fun z => by rw [z, hf] at g2; cases g2)]
  exact g2
/-! ### lists and their items -/
def Items {α : Type} (R : α → V → Prop) (us : List V) (xs : List α) : Prop := us.length = xs.length ∧ ∀ (i : Nat) x v, xs[i]? = some x → us[i]? = some v → R x v
theorem Items.mono {α : Type} {R R' : α → V → Prop} {us : List V} {xs : List α} (h : Items R us xs) (m : ∀ x v, R x v → R' x v) : Items R' us xs := ⟨h.1, fun i x v a b => m x v (h.2 i x v a b)⟩
theorem Items.nil {α : Type} {R : α → V → Prop} : Items R [] ([] : List α) := ⟨rfl, fun i x v h => by simp at h⟩
theorem Items.one {α : Type} {R : α → V → Prop} {u : V} {x : α} (h : R x u) : Items R [u] [x] := ⟨rfl, fun i y v a b => by
  cases i with
  | zero =>
    cases a
    cases b
    exact h
  | succ i => simp at a⟩
theorem Items.app {α : Type} {R : α → V → Prop} {us vs : List V} {xs ys : List α} (h : Items R us xs) (h' : Items R vs ys) : Items R (us ++ vs) (xs ++ ys) := ⟨by rw [List.length_append, List.length_append, h.1, h'.1], fun i x v a b => by
  by_cases c : i < us.length
  · rw [List.getElem?_append_left c] at b
    rw [List.getElem?_append_left (by rw [← h.1]; exact c)] at a
    exact h.2 i x v a b
  · rw [List.getElem?_append_right (by omega)] at b
    rw [List.getElem?_append_right (by rw [← h.1]; omega), ← h.1] at a
    exact h'.2 _ x v a b⟩
theorem Items.take {α : Type} {R : α → V → Prop} {us : List V} {xs : List α} (h : Items R us xs) (n : Nat) : Items R (us.take n) (xs.take n) := ⟨by rw [List.length_take, List.length_take, h.1], fun i x v a b => by
  rw [List.getElem?_take] at a b
  by_cases c : i < n
  · rw [if_pos c] at a b
    exact h.2 i x v a b
  · rw [if_neg c] at a
    cases a⟩
theorem Items.drop {α : Type} {R : α → V → Prop} {us : List V} {xs : List α} (h : Items R us xs) (n : Nat) : Items R (us.drop n) (xs.drop n) := ⟨by rw [List.length_drop, List.length_drop, h.1], fun i x v a b => by
  rw [List.getElem?_drop] at a b
  exact h.2 _ x v a b⟩
theorem Items.set {α : Type} {R : α → V → Prop} {us : List V} {xs : List α} (h : Items R us xs) (n : Nat) {u : V} {x : α} (r : R x u) : Items R (us.set n u) (xs.set n x) := ⟨by rw [List.length_set, List.length_set, h.1], fun i y v a b => by
  rw [List.getElem?_set] at a b
  by_cases c : n = i
  · rw [if_pos c] at a b
    have hl := h.1
    split at a
    · rw [if_pos (by omega)] at b
      cases a
      cases b
      exact r
    · cases a
  · rw [if_neg c] at a b
    exact h.2 i y v a b⟩
end HB
namespace HB
open PySem PySem.Spec PyProof.Rows L2
theorem bind3_is_integer {K : PySem.W.Frag} {fa : Addr} {fd : FuncData} (F : FunD K d_is_integer.name d_is_integer.qual d_is_integer.params d_is_integer.body d_is_integer.scope (d_is_integer.dvs K) (d_is_integer.kws K) fa fd) : Binds K fd ["value", "lowest", "highest"] [] := by
  obtain ⟨ds, r, b⟩ := F.binds1 3 1 (by exact fun z => nomatch z) rfl (ps := ["value", "lowest", "highest"]) fun T kV doc pm an cdv ct us its hu hi => match us, hu, its, hi with
    | [_, _, _], _, [_], _ => ⟨_, rfl, rfl⟩
  cases r
  exact b
theorem bind2_is_integer {K : PySem.W.Frag} {fa : Addr} {fd : FuncData} (F : FunD K d_is_integer.name d_is_integer.qual d_is_integer.params d_is_integer.body d_is_integer.scope (d_is_integer.dvs K) (d_is_integer.kws K) fa fd) : ∃ ds, Vals [V.non] ds ∧ Binds K fd ["value", "lowest", "highest"] ds :=
  F.binds1 2 0 (by exact fun z => nomatch z) rfl (ps := ["value", "lowest", "highest"]) fun T kV doc pm an cdv ct us its hu hi => match us, hu, its, hi with
    | [_, _], _, [_], _ => ⟨_, rfl, rfl⟩
/-- an upper bound or none -/
def leO (i : Int) : V → Bool
  | .int h => decide (i ≤ h)
  | _ => true
def sp_is_integer : Sp := fun vs H Q _ => ∃ (i lo : Int) (h : V) (b : Bool), vs = [.int i, .int lo, h] ∧ (h = .non ∨ ∃ k, h = .int k) ∧ (decide (lo ≤ i) && leO i h) = b ∧ RetV (.bl b) H Q
theorem sc_is_integer : FnScope ["value", "lowest", "highest"] ["value", "lowest", "highest"] (defScope s_is_integer) := C8.fnScope_by (by decide +kernel)
theorem fn_is_integer {P : Program} {w : World} {K : PySem.W.Frag} {mg : Str → Option Value} {base : Heap} (t : Tx K mg) : ∃ fd, FnOk P w K mg base CX0 1 (He.ga K "is_integer") fd ["value", "lowest", "highest"] sp_is_integer ∧ Binds K fd ["value", "lowest", "highest"] [] ∧ (∃ ds, Vals [V.non] ds ∧ Binds K fd ["value", "lowest", "highest"] ds) ∧ PySem.W.keepIn K (.ref (He.ga K "is_integer")) = true := by
  obtain ⟨fd, F⟩ := t.f_is_integer
  have nd := sc_is_integer.nd
  refine ⟨fd, F.ok sc_is_integer (fun vs H Q E h => ?_) (fun cdv A outer s H vs Q E hr h => ?_), bind3_is_integer F, bind2_is_integer F, F.kp⟩
  · obtain ⟨i, lo, x, _, rfl, hx, rfl, k⟩ := h
    rfl
  · obtain ⟨i, lo, x, _, rfl, hx, rfl, k⟩ := h
    have hu := hu_of hr
    refine ⟨_, PSs.nox (pss_cons (ps_if (PW.pt (pw_or (pt_not (pt_val (pe_callB call_isi (by rfl) t.free_isinstance (by decide +kernel) (pa_cons (pv 0) (pa_cons (pe_bltn (v := .ty "int") (by rfl) t.free_int (by decide +kernel) rfl) pa_nil))))) (pw_or1 (pt_val (pe_callB call_isi (by rfl) t.free_isinstance (by decide +kernel) (pa_cons (pv 0) (pa_cons (pe_bltn (v := .ty "bool") (by rfl) t.free_bool (by decide +kernel) rfl) pa_nil))))))) (pss_one (ps_ret pe_bl)) pss_nil)
        (pss_one (ps_ret (pe_and (pe_cmpR op_ge (pv 0) (pv 1) (nomark _)) (pe_one (pe_or (pe_cmpR op_isN (pv 2) pe_non (nomark _)) (pe_one (pe_cmpR op_le (pv 0) (pv 2) (nomark _))))))))), ?_⟩
    refine ⟨_, rfl, .int i, .ty "int", _, _, true, rfl, .ty _, .base (.int i), kit_ty (by decide +kernel), _, rfl, iteF ?_⟩
    refine ⟨_, rfl, .int i, .ty "bool", _, _, false, rfl, .ty _, .base (.int i), kit_ty (by decide +kernel), _, rfl, iteF ?_⟩
    refine ⟨_, rfl, _, rfl, _, _, rfl, rfl, _, rfl, ite2 (fun h1 => ?_) (fun h1 => ?_)⟩
    · refine ⟨x, rfl, rfl, _, rfl, ?_⟩
      rcases hx with rfl | ⟨j, rfl⟩
      · refine iteT ?_
        have e : (decide (lo ≤ i) && leO i V.non) = true := by rw [h1]; rfl
        rw [e] at k
        exact k.go (Same.refl H)
      · refine iteF ⟨_, rfl, _, rfl, _, _, rfl, rfl, ?_⟩
        have e : (decide (lo ≤ i) && leO i (V.int j)) = decide (i ≤ j) := by rw [h1]; rfl
        rw [e] at k
        exact k.go (Same.refl H)
    · have e : (decide (lo ≤ i) && leO i x) = false := by
        rw [Bool.not_eq_true] at h1
        rw [h1]
        rfl
      rw [e] at k
      exact k.go (Same.refl H)
theorem c_is_integer3 {P : Program} {w : World} {K : PySem.W.Frag} {mg : Str → Option Value} {base : Heap} (t : Tx K mg) : C8.Cal P w K mg base 1 "is_integer" sp_is_integer [] := let ⟨fd, F, b, _, kp⟩ := fn_is_integer t; ⟨_, fd, _, [], F, t.glo_is_integer, kp, b, .nil⟩
theorem c_is_integer2 {P : Program} {w : World} {K : PySem.W.Frag} {mg : Str → Option Value} {base : Heap} (t : Tx K mg) : C8.Cal P w K mg base 1 "is_integer" sp_is_integer [.non] := let ⟨fd, F, _, ⟨ds, r, b⟩, kp⟩ := fn_is_integer t; ⟨_, fd, _, ds, F, t.glo_is_integer, kp, b, r⟩
def sp_is_sequence : Sp := fun vs H Q _ => ∃ v, vs = [v] ∧ IsSq H v ∧ RetV (.bl true) H Q
theorem sc_is_sequence : FnScope ["value"] ["value"] (defScope s_is_sequence) := C8.fnScope_by (by decide +kernel)
theorem c_is_sequence {P : Program} {w : World} {K : PySem.W.Frag} {mg : Str → Option Value} {base : Heap} (t : Tx K mg) : C8.Cal P w K mg base 1 "is_sequence" sp_is_sequence [] := by
  obtain ⟨fd, F⟩ := t.f_is_sequence
  have nd := sc_is_sequence.nd
  refine ⟨_, fd, ["value"], [], F.ok sc_is_sequence (fun vs H Q E h => ?_) (fun cdv A outer s H vs Q E hr h => ?_), t.glo_is_sequence, F.kp, F.bindsN (fun _ _ _ _ _ _ us hl => match us, hl with | [_], _ => rfl), .nil⟩
  · obtain ⟨v, rfl, ⟨a, xs, rfl, hs⟩, k⟩ := h
    rfl
  · obtain ⟨v, rfl, ⟨a, xs, rfl, hs⟩, k⟩ := h
    have hu := hu_of hr
    refine ⟨_, PSs.nox (pss_one (ps_ret (pe_callB call_isiT (by rfl) t.free_isinstance (by decide +kernel) (pa_cons (pv 0) (pa_cons (pe_tup (pa_cons (pe_bltn (v := .ty "list") (by rfl) t.free_list (by decide +kernel) rfl) (pa_cons (pe_bltn (v := .ty "tuple") (by rfl) t.free_tuple (by decide +kernel) rfl) pa_nil))) pa_nil))))), ?_⟩
    refine ⟨_, rfl, (by show 2 ≤ sizeLine; decide), fun tp htp => ?_⟩
    have n : a ≠ tp := fun e => by
      rw [e, htp] at hs
      rcases hs with h | h <;> cases h
    have c : Paired ClsV [V.ty "list", V.ty "tuple"] [Value.type "list", Value.type "tuple"] := .cons (.ty _) (.cons (.ty _) .nil)
    rcases hs with h | h
    · exact ⟨.ref a, tp, _, _, _, true, rfl, upd_same, c, .base (.lst (by rw [upd_ne n]; exact h)), kitAny_cons (b := true) (kit_ty (by decide +kernel)) (fun z => nomatch z) (fun _ => rfl), k.go (Same.new htp)⟩
    · exact ⟨.ref a, tp, _, _, _, true, rfl, upd_same, c, .base (.tup (by rw [upd_ne n]; exact h)), kitAny_cons (b := false) (r := true) (kit_ty (by decide +kernel)) (fun _ => kitAny_cons (b := true) (kit_ty (by decide +kernel)) (fun z => nomatch z) (fun _ => rfl)) (fun z => nomatch z), k.go (Same.new htp)⟩
def sp_ids_of : Sp := fun vs H Q _ => ∃ a xs, vs = [.ref a] ∧ IsL H a xs ∧ ValidD xs ∧ xs.length ≤ 400 ∧ RetL (ids xs) H Q
theorem sc_ids_of : FnScope ["distances", "found", "count", "position", "entry"] ["distances"] (defScope s_ids_of) := C8.fnScope_by (by decide +kernel)
theorem c_ids_of {P : Program} {w : World} {K : PySem.W.Frag} {mg : Str → Option Value} {base : Heap} (t : Tx K mg) : C8.Cal P w K mg base 1 "ids_of" sp_ids_of [] := by
  obtain ⟨fd, F⟩ := t.f_ids_of
  have nd := sc_ids_of.nd
  refine ⟨_, fd, ["distances"], [], F.ok sc_ids_of (fun vs H Q E h => ?_) (fun cdv A outer s H vs Q E hr h => ?_), t.glo_ids_of, F.kp, F.bindsN (fun _ _ _ _ _ _ us hl => match us, hl with | [_], _ => rfl), .nil⟩
  · obtain ⟨a, xs, rfl, hL, hv, hl, k⟩ := h
    rfl
  · obtain ⟨a, xs, rfl, hL, hv, hl, k⟩ := h
    have hu := hu_of hr
    refine ⟨_, PSs.nox (pss_cons (ps_set (i := 1) nd rfl (Or.inl rfl) (pe_lst pa_nil))
        (pss_cons (ps_set (i := 2) nd rfl (Or.inl rfl) pe_int)
        (pss_cons (ps_for PassesOwn.never rfl (pi_enum (by rfl) t.free_enumerate (pa_cons (pv 0) pa_nil)) (pg_tup rfl (pgs_cons (pg_name (i := 3) nd rfl (Or.inl rfl)) (pgs_cons (pg_name (i := 4) nd rfl (Or.inl rfl)) pgs_nil))) (pss_one (ps_if (pt_cmpR op_eq (pv 4) pe_int (nomark _)) (pss_cons (ps_expr (pe_bm PySem.F.plainAttrs_list PySem.F.slot_list_append PySem.F.type_list_append mt_append (pv 1) (pa_cons (pv 2) pa_nil)))
        (pss_one (ps_aug (i := 2) nd rfl (Or.inl rfl) pe_int ip_add))) (pss_one (ps_expr (pe_bm PySem.F.plainAttrs_list PySem.F.slot_list_append PySem.F.type_list_append mt_append (pv 1) (pa_cons (pe_ix ix_list (pv 1) (pe_op op_subN (pv 3) (pv 4)) (fun _ _ => rfl)) pa_nil)))))))
        (pss_one (ps_ret (pv 1)))))), ?_⟩
    refine ⟨Nat.zero_le _, fun l hl0 => ?_⟩
    refine ⟨_, rfl, a, nv xs, rfl, sl (Same.new hl0 _ _ hL), for_it walk_enum (fun i σ H' => ∃ (v3 v4 : Option V), σ = [some (.ref a), some (.ref l), some (vn (idsG (xs.take i)).2), v3, v4] ∧ Same H H' ∧ IsL H' l (idsG (xs.take i)).1)
      ⟨none, none, rfl, Same.new hl0, upd_same⟩ (fun i σ H' _ ⟨_, _, _, e, _⟩ => sl (e _ _ hL)) ?_ ?_⟩
    · rintro i x σ H1 H2 hi ⟨v3, v4, rfl, e, h1⟩ ⟨T, y, z, rfl, hT, rfl, hy, hz⟩
      cases hy
      obtain ⟨n, hn, rfl⟩ := nv_get hz
      have e2 := e.trans (Same.new (o := .tup [.int (i : Nat), vn n]) hT)
      have h2 : IsL (upd H1 T (.tup [.int (i : Nat), vn n])) l _ := Same.new hT _ _ h1
      have len : (idsG (xs.take i)).1.length = i := by
        rw [idsG_len, List.length_take]
        have := (List.getElem?_eq_some_iff.mp hn).1
        omega
      have small : (nv (idsG (xs.take i)).1).length < sizeLine := by
        rw [nv_len, len]
        have := (List.getElem?_eq_some_iff.mp hn).1
        exact Nat.lt_of_lt_of_le (Nat.lt_of_lt_of_le this hl) (by decide)
      refine ⟨T, _, rfl, SqT.of upd_same, rfl, _, _, rfl, _, _, rfl, rfl, ?_⟩
      refine ⟨_, rfl, rfl, _, rfl, if_eq (b := 0) (fun h0 => ?_) (fun h0 => ?_)⟩
      · refine ⟨_, rfl, .inl ⟨rfl, _, sl h2⟩, _, rfl, l, _, _, rfl, rfl, h2, small, ?_⟩
        refine ⟨_, rfl, _, _, rfl, rfl, some (vn i), some (vn n), ?_, Same.mut e2 hl0, ?_⟩
        · rw [idsG_snoc hn]
          unfold idsF
          rw [if_pos h0]
          rfl
        · show upd _ l _ l = _
          rw [upd_same, idsG_snoc hn, nv_snoc]
          unfold idsF
          rw [if_pos h0]
      · have hd := hv.le i n hn
        refine ⟨_, rfl, .inl ⟨rfl, _, sl h2⟩, _, rfl, _, rfl, _, rfl, i, n, rfl, rfl, hd, l, _, _, vn ((idsG (xs.take i)).1.getD (i - n) 0), rfl, rfl, sl h2, nv_ix (by omega), l, _, _, rfl, rfl, h2, small, ?_⟩
        · refine ⟨some (vn i), some (vn n), ?_, Same.mut e2 hl0, ?_⟩
          · rw [idsG_snoc hn]
            unfold idsF
            rw [if_neg h0]
            rfl
          · show upd _ l _ l = _
            rw [upd_same, idsG_snoc hn, nv_snoc]
            unfold idsF
            rw [if_neg h0, len]
    · rintro σ H1 ⟨v3, v4, rfl, e, h1⟩
      rw [nv_len, List.take_length] at h1
      exact ⟨_, rfl, k l H1 e hl0 h1⟩
def sp_distances_by : Sp := fun vs H Q _ => ∃ a xs, vs = [.ref a] ∧ IsL H a xs ∧ xs.length ≤ 400 ∧ RetL (dists xs) H Q
theorem sc_distances_by : FnScope ["symbols", "last", "found", "position", "symbol"] ["symbols"] (defScope s_distances_by) := C8.fnScope_by (by decide +kernel)
theorem c_distances_by {P : Program} {w : World} {K : PySem.W.Frag} {mg : Str → Option Value} {base : Heap} (t : Tx K mg) : C8.Cal P w K mg base 1 "distances_by" sp_distances_by [] := by
  obtain ⟨fd, F⟩ := t.f_distances_by
  have nd := sc_distances_by.nd
  refine ⟨_, fd, ["symbols"], [], F.ok sc_distances_by (fun vs H Q E h => ?_) (fun cdv A outer s H vs Q E hr h => ?_), t.glo_distances_by, F.kp, F.bindsN (fun _ _ _ _ _ _ us hl => match us, hl with | [_], _ => rfl), .nil⟩
  · obtain ⟨a, xs, rfl, hL, hl, k⟩ := h
    rfl
  · obtain ⟨a, xs, rfl, hL, hl, k⟩ := h
    have hu := hu_of hr
    refine ⟨_, PSs.nox (pss_cons (ps_set (i := 1) nd rfl (Or.inl rfl) pe_dnewK)
        (pss_cons (ps_set (i := 2) nd rfl (Or.inl rfl) (pe_lst pa_nil))
        (pss_cons (ps_for PassesOwn.never rfl (pi_enum (by rfl) t.free_enumerate (pa_cons (pv 0) pa_nil)) (pg_tup rfl (pgs_cons (pg_name (i := 3) nd rfl (Or.inl rfl)) (pgs_cons (pg_name (i := 4) nd rfl (Or.inl rfl)) pgs_nil))) (pss_cons (ps_expr (pe_bm PySem.F.plainAttrs_list PySem.F.slot_list_append PySem.F.type_list_append mt_append (pv 2) (pa_cons (pe_ifExp (pt_cmp (pc_din hu (pv 4) (pv 1))) (pe_op op_subN (pv 3) (pe_dget hu (pv 1) (pv 4) (fun _ _ => rfl))) pe_int) pa_nil)))
        (pss_one (ps_dput hu (pv 1) (pv 4) (pv 3) rfl))))
        (pss_one (ps_ret (pv 2)))))), ?_⟩
    refine fun d hd0 => ⟨Nat.zero_le _, fun l hl0 => ?_⟩
    have dl : d ≠ l := fun e => by
      rw [← e, upd_same] at hl0
      cases hl0
    have hl1 : H l = none := by
      have z := hl0
      rw [upd_ne (Ne.symm dl)] at z
      exact z
    refine ⟨_, rfl, a, nv xs, rfl, sl (Same.new hl0 _ _ (Same.new hd0 _ _ hL)), for_it walk_enum (fun i σ H' => ∃ (v3 v4 : Option V), σ = [some (.ref a), some (.ref d), some (.ref l), v3, v4] ∧ Same H H' ∧ IsL H' l (dists (xs.take i)) ∧ IsDF H' d i (lastI (xs.take i)))
      ⟨none, none, rfl, (Same.new hd0).trans (Same.new hl0), upd_same, [], by rw [upd_ne dl, upd_same], Nat.le_refl _, fun s => rfl⟩ (fun i σ H' _ ⟨_, _, _, e, _⟩ => sl (e _ _ hL)) ?_ ?_⟩
    · rintro i x σ H1 H2 hi ⟨v3, v4, rfl, e, h1, h2⟩ ⟨T, y, z, rfl, hT, rfl, hy, hz⟩
      cases hy
      obtain ⟨n, hn, rfl⟩ := nv_get hz
      have hi2 := (List.getElem?_eq_some_iff.mp hn).1
      have e2 := e.trans (Same.new (o := .tup [.int (i : Nat), vn n]) hT)
      have hL2 : IsL (upd H1 T (.tup [.int (i : Nat), vn n])) l _ := Same.new hT _ _ h1
      have hD2 := h2.mono (Same.new (o := .tup [.int (i : Nat), vn n]) hT)
      have small : (nv (dists (xs.take i))).length < sizeLine := by
        rw [nv_len, dists_len, List.length_take]
        exact Nat.lt_of_le_of_lt (Nat.min_le_left ..) (Nat.lt_of_lt_of_le hi2 (Nat.le_trans hl (by decide)))
      refine ⟨T, _, rfl, SqT.of upd_same, rfl, _, _, rfl, _, _, rfl, rfl, ?_⟩
      refine ⟨_, rfl, .inl ⟨rfl, _, sl hL2⟩, ?_⟩
      refine val1 (vn (match lastI (xs.take i) n with
        | some j => i - j
        | none => 0)) (fun Q q => ?_) ⟨l, _, _, rfl, rfl, hL2, small, ?_⟩
      · refine ⟨_, rfl, _, rfl, d, _, rfl, hD2.get n, _, rfl, ?_⟩
        cases hm : lastI (xs.take i) n with
        | none =>
          rw [hm] at q
          exact iteF q
        | some j =>
          rw [hm] at q
          have hg := hD2.get n
          rw [hm] at hg
          have hj := (lastI_lt hm).1
          rw [List.length_take] at hj
          exact iteT ⟨_, rfl, _, rfl, _, rfl, d, vn j, rfl, hg, i, j, rfl, rfl, by omega, q⟩
      · have hD2u : IsDF (upd (upd H1 T (.tup [.int (i : Nat), vn n])) l (.lst (nv (dists (xs.take i)) ++ [vn (match lastI (xs.take i) n with
            | some j => i - j
            | none => 0)]))) d i (lastI (xs.take i)) := by
          obtain ⟨kvs, q1, q2⟩ := hD2
          exact ⟨kvs, by rw [upd_ne dl]; exact q1, q2⟩
        obtain ⟨o, hp, hf⟩ := hD2u.put (by omega) n i
        refine ⟨_, rfl, _, rfl, _, rfl, d, _, rfl, hp, some (vn i), some (vn n), rfl, Same.mut (Same.mut e2 hl1) hd0, ?_, hf.of fun s => ?_⟩
        · show upd _ d _ l = _
          rw [upd_ne (Ne.symm dl), upd_same, dists_take hn, nv_snoc]
          try rfl
        · rw [take_snoc hn, lastI_snoc, List.length_take, Nat.min_eq_left (by omega)]
          by_cases es : n = s
          · rw [if_pos es, if_pos es.symm]
          · rw [if_neg es, if_neg fun q => es q.symm]
    · rintro σ H1 ⟨v3, v4, rfl, e, h1, _⟩
      rw [nv_len, List.take_length] at h1
      exact ⟨_, rfl, k l H1 e hl1 h1⟩
theorem fm_zeros (xs : List Nat) (v : V) : ∀ n, n ≤ xs.length → ((List.range n).filterMap fun i => if xs.getD i 0 = 0 then some v else none).length = (xs.take n).count 0
  | 0, _ => by simp
  | n + 1, h => by
    rw [fm_snoc, List.length_append, fm_zeros xs v n (by omega), List.take_succ, List.count_append, getD_some (show n < xs.length by omega)]
    by_cases e : xs.getD n 0 = 0
    · rw [if_pos e, e]
      rfl
    · rw [if_neg e, Option.toList_some, List.count_singleton, if_neg (by simpa using e)]
      rfl
def sp_symbol_count : Sp := fun vs H Q _ => ∃ a xs, vs = [.ref a] ∧ IsL H a xs ∧ xs.length ≤ 1000 ∧ RetV (vn (nz xs)) H Q
theorem sc_symbol_count : FnScope ["distances", "entry"] ["distances"] (defScope s_symbol_count) := C8.fnScope_by (by decide +kernel)
theorem c_symbol_count {P : Program} {w : World} {K : PySem.W.Frag} {mg : Str → Option Value} {base : Heap} (t : Tx K mg) : C8.Cal P w K mg base 1 "symbol_count" sp_symbol_count [] := by
  obtain ⟨fd, F⟩ := t.f_symbol_count
  have nd := sc_symbol_count.nd
  refine ⟨_, fd, ["distances"], [], F.ok sc_symbol_count (fun vs H Q E h => ?_) (fun cdv A outer s H vs Q E hr h => ?_), t.glo_symbol_count, F.kp, F.bindsN (fun _ _ _ _ _ _ us hl => match us, hl with | [_], _ => rfl), .nil⟩
  · obtain ⟨a, xs, rfl, hL, hl, k⟩ := h
    rfl
  · obtain ⟨a, xs, rfl, hL, hl, k⟩ := h
    have hu := hu_of hr
    refine ⟨_, PSs.nox (pss_one (ps_ret (pe_callB call_len_seq (by rfl) t.free_len (by decide +kernel) (pa_cons (pe_lc (own := [("entry", 1)]) (g := (gName 1)) (tt := (tTest (tOp rEq (tVar 1) (tC (.int 0))))) (te := (tVar 1)) rfl nd  (pi_list (pv 0)) (blkOk_by (by kernel_rfl)) (fun _ _ _ _ _ => (pg_name (i := 1) nd rfl (Or.inl rfl))) (fun _ _ _ _ _ => (pts_one (pt_cmpR op_eq (pv 1) pe_int (nomark _)))) (fun _ _ _ _ _ => (pv 1))) pa_nil)))), ?_⟩
    refine ⟨_, rfl, a, rfl, ⟨_, sl hL⟩, fun D hD => ?_⟩
    refine lc_val walk_list (fun i => if xs.getD i 0 = 0 then some (vn (xs.getD i 0)) else none) (by rw [nv_len]; omega) hD (fun H' e => sl (hL.mono e)) (fun i x H1 H2 Ky Kn hi e y ky kn => ?_) fun H' e hl' => ?_
    · obtain ⟨rfl, hx⟩ := y
      obtain ⟨n, hn, rfl⟩ := nv_get hx
      have hd := getD_of hn
      refine ⟨Same.refl _, rfl, _, rfl, rfl, _, rfl, if_eq (b := 0) (fun h0 => ?_) (fun h0 => ?_)⟩
      · exact ⟨_, rfl, ky _ (Same.refl _) _ (by rw [hd, if_pos h0])⟩
      · exact kn _ (Same.refl _) (by rw [hd, if_neg h0])
    · refine ⟨D, _, rfl, .inl (sl hl'), ?_⟩
      have e1 : ((List.range (nv xs).length).filterMap fun i => if xs.getD i 0 = 0 then some (vn (xs.getD i 0)) else none) = (List.range xs.length).filterMap fun i => if xs.getD i 0 = 0 then some (vn 0) else none := by
        rw [nv_len]
        congr 1
        funext i
        split
        · rename_i h; rw [h]
        · rfl
      have e2 : (nz xs : Int) = (((List.range (nv xs).length).filterMap fun i => if xs.getD i 0 = 0 then some (vn (xs.getD i 0)) else none).length : Int) := by
        rw [e1, fm_zeros xs _ _ (Nat.le_refl _), List.take_length]
        rfl
      rw [← e2]
      exact k.go e
def sp_is_distances : Sp := fun vs H Q _ => ∃ a xs, vs = [.ref a] ∧ IsL H a xs ∧ ValidD xs ∧ xs.length < 64 ∧ RetV (.bl true) H Q
theorem sc_is_distances : FnScope ["value", "targets", "position", "entry"] ["value"] (defScope s_is_distances) := C8.fnScope_by (by decide +kernel)
theorem c_is_distances {P : Program} {w : World} {K : PySem.W.Frag} {mg : Str → Option Value} {base : Heap} (t : Tx K mg) : C8.Cal P w K mg base 2 "is_distances" sp_is_distances [] := by
  obtain ⟨fd, F⟩ := t.f_is_distances
  have nd := sc_is_distances.nd
  refine ⟨_, fd, ["value"], [], F.ok sc_is_distances (fun vs H Q E h => ?_) (fun cdv A outer s H vs Q E hr h => ?_), t.glo_is_distances, F.kp, F.bindsN (fun _ _ _ _ _ _ us hl => match us, hl with | [_], _ => rfl), .nil⟩
  · obtain ⟨a, xs, rfl, hL, hv, hl, k⟩ := h
    rfl
  · obtain ⟨a, xs, rfl, hL, hv, hl, k⟩ := h
    have hu := hu_of hr
    refine ⟨_, PSs.nox (pss_cons (ps_if (PW.pt (pw_or (pt_not (pt_val (C8.pe_c (c_is_sequence t) hr (by decide) rfl (pa_cons (pv 0) pa_nil)))) (pw_or1 (pt_cmpR op_gt (pe_callB call_len_seq (by rfl) t.free_len (by decide +kernel) (pa_cons (pv 0) pa_nil)) (C8.pe_gc rfl t.k_MAX_POSITIONS) (nomark _))))) (pss_one (ps_ret pe_bl)) pss_nil)
        (pss_cons (ps_if (pt_not (pt_val (pe_callB (cr_all rfl) (by rfl) t.free_all (by decide +kernel) (pa_cons (pe_lc (own := [("position", 2), ("entry", 3)]) (g := (gTup K 2 (gCons (gName 2) (gCons (gName 3) gNil)))) (tt := tYes) (te := (tCall sp_is_integer [] E0 (tCons (tVar 3) (tCons (tC (.int 0)) (tCons (tVar 2) tNil))))) rfl nd  (pi_enum (by rfl) t.free_enumerate (pa_cons (pv 0) pa_nil)) (blkOk_by (by kernel_rfl)) (fun _ _ _ _ _ => (pg_tup rfl (pgs_cons (pg_name (i := 2) nd rfl (Or.inl rfl)) (pgs_cons (pg_name (i := 3) nd rfl (Or.inl rfl)) pgs_nil)))) (fun _ _ _ _ _ => pts_nil) (fun _ _ _ _ _ => (C8.pe_c (c_is_integer3 t) hr (by decide) rfl (pa_cons (pv 3) (pa_cons pe_int (pa_cons (pv 2) pa_nil)))))) pa_nil)))) (pss_one (ps_ret pe_bl)) pss_nil)
        (pss_cons (ps_setLc (i := 1) (own := [("position", 2), ("entry", 3)]) (g := (gTup K 2 (gCons (gName 2) (gCons (gName 3) gNil)))) (tt := (tTest (tOp (rI0 fun i j => .bl (decide (j < i))) (tVar 3) (tC (.int 0))))) (te := (tOp rSubN (tVar 2) (tVar 3))) rfl nd rfl rfl (sw_true rfl rfl rfl (by decide +kernel)) (pi_enum (by rfl) t.free_enumerate (pa_cons (pv 0) pa_nil)) (blkOk_by (by kernel_rfl)) (fun _ _ _ _ _ => (pg_tup rfl (pgs_cons (pg_name (i := 2) nd rfl (Or.inl rfl)) (pgs_cons (pg_name (i := 3) nd rfl (Or.inl rfl)) pgs_nil)))) (fun _ _ _ _ _ => (pts_one (pt_cmpR op_gt (pv 3) pe_int (nomark _)))) (fun _ _ _ _ _ => (pe_op op_subN (pv 2) (pv 3))))
        (pss_one (ps_ret (pe_cmpR op_eq (RZ.pe_lenSetI (by rfl) t.free_len (by rfl) t.free_set (pv 1)) (pe_callB call_len_seq (by rfl) t.free_len (by decide +kernel) (pa_cons (pv 1) pa_nil)) (nomark _))))))), ?_⟩
    refine ⟨_, rfl, _, rfl, ⟨a, _, rfl, .inl hL⟩, fun H1 e1 => ⟨_, rfl, iteF ?_⟩⟩
    refine ⟨_, rfl, a, _, rfl, .inl (sl (e1 _ _ hL)), _, _, rfl, rfl, _, rfl, if_dec (fun h => ?_) (fun _ => ?_)⟩
    · rw [nv_len] at h
      omega
    refine ⟨_, rfl, a, nv xs, rfl, sl (e1 _ _ hL), fun D hD => ?_⟩
    refine lc_val walk_enum (fun _ => some (V.bl true)) (by rw [nv_len]; omega) hD (fun H' e => sl (e _ _ (e1 _ _ hL))) (fun i x H2 H3 Ky Kn hi e y ky kn => ?_) fun H2 e2 hl' => ?_
    · obtain ⟨T, y, z, rfl, hT, rfl, hy, hz⟩ := y
      cases hy
      obtain ⟨n, hn, rfl⟩ := nv_get hz
      refine ⟨Same.new hT, T, _, rfl, SqT.of upd_same, rfl, _, _, rfl, _, _, rfl, rfl, rfl, ?_⟩
      refine ⟨_, rfl, _, rfl, n, 0, .int (i : Nat), true, rfl, .inr ⟨_, rfl⟩, ?_, fun H4 e4 => ky _ e4 _ rfl⟩
      have hd := hv.le i n hn
      rw [decide_eq_true (by omega)]
      exact decide_eq_true (show (n : Int) ≤ ((i : Nat) : Int) by omega)
    rw [fm_map] at hl'
    have hl2 : H2 D = some (.lst (((List.range (nv xs).length).map fun _ => true).map V.bl)) := by
      rw [hl', List.map_map]
      rfl
    refine ⟨D, _, rfl, sl hl2, _, rfl, ?_⟩
    have ea : ((List.range (nv xs).length).map fun _ => true).all id = true := by
      rw [List.all_eq_true]
      intro b hb
      obtain ⟨_, _, rfl⟩ := List.mem_map.mp hb
      rfl
    rw [ea]
    refine iteF ?_
    have e12 := e1.trans e2
    refine ⟨_, rfl, a, nv xs, rfl, sl (e12 _ _ hL), fun D2 hD2 => ?_⟩
    refine lc_val walk_enum (fun i => (tgs xs i).map vn) (by rw [nv_len]; omega) hD2 (fun H' e => sl (e _ _ (e12 _ _ hL))) (fun i x H3 H4 Ky Kn hi e y ky kn => ?_) fun H3 e3 hl3 => ?_
    · obtain ⟨T, y, z, rfl, hT, rfl, hy, hz⟩ := y
      cases hy
      obtain ⟨n, hn, rfl⟩ := nv_get hz
      have hd := hv.le i n hn
      have hg := getD_of hn
      refine ⟨Same.new hT, T, _, rfl, SqT.of upd_same, rfl, _, _, rfl, _, _, rfl, rfl, rfl, _, rfl, _, _, rfl, rfl, _, rfl, if_dec (fun h0 => ?_) (fun h0 => ?_)⟩
      · refine ⟨_, rfl, _, rfl, i, n, rfl, rfl, hd, ?_⟩
        exact ky _ (Same.refl _) _ (by
          unfold tgs
          rw [hg, if_pos (by omega)]
          rfl)
      · exact kn _ (Same.refl _) (by
          unfold tgs
          rw [hg, if_neg (by omega)]
          rfl)
    rw [fm_nv, nv_map_int] at hl3
    have len : ((List.range (nv xs).length).filterMap (tgs xs)).length < 64 := by
      have := fm_len (tgs xs) (nv xs).length
      rw [nv_len] at this ⊢
      omega
    refine ⟨_, rfl, D2, _, rfl, sl hl3, ?_, Nat.le_trans (Nat.le_of_eq (List.length_map ..)) (by omega), _, rfl, D2, _, rfl, .inl (sl hl3), rfl, ?_⟩
    · refine (List.pairwise_map.mpr ((tgs_nodup hv (nv xs).length (Nat.le_of_eq nv_len)).imp ?_) : List.Nodup _)
      exact fun h q => h (Int.ofNat.inj q)
    · have el : decide (V.int (((List.range (nv xs).length).filterMap (tgs xs)).map fun n : Nat => (n : Int)).length = V.int ((((List.range (nv xs).length).filterMap (tgs xs)).map fun n : Nat => (n : Int)).map V.int).length) = true := by
        rw [List.length_map (f := V.int)]
        exact decide_eq_true rfl
      show Q (V.bl (decide (V.int _ = V.int _))) H3
      rw [el]
      exact k.go (e12.trans e3)
def sp_checked : Sp := fun vs H Q _ => ∃ a xs, vs = [.ref a] ∧ IsL H a xs ∧ ValidD xs ∧ xs.length < 64 ∧ RetL xs H Q
theorem sc_checked : FnScope ["distances"] ["distances"] (defScope s_checked) := C8.fnScope_by (by decide +kernel)
theorem c_checked {P : Program} {w : World} {K : PySem.W.Frag} {mg : Str → Option Value} {base : Heap} (t : Tx K mg) : C8.Cal P w K mg base 3 "checked" sp_checked [] := by
  obtain ⟨fd, F⟩ := t.f_checked
  have nd := sc_checked.nd
  refine ⟨_, fd, ["distances"], [], F.ok sc_checked (fun vs H Q E h => ?_) (fun cdv A outer s H vs Q E hr h => ?_), t.glo_checked, F.kp, F.bindsN (fun _ _ _ _ _ _ us hl => match us, hl with | [_], _ => rfl), .nil⟩
  · obtain ⟨a, xs, rfl, hL, hv, hl, k⟩ := h
    rfl
  · obtain ⟨a, xs, rfl, hL, hv, hl, k⟩ := h
    have hu := hu_of hr
    refine ⟨_, PSs.nox (pss_cons (ps_if (pt_not (pt_val (C8.pe_c (c_is_distances t) hr (by decide) rfl (pa_cons (pv 0) pa_nil)))) pss_never pss_nil)
        (pss_one (ps_ret (pe_callTy call_list_of (by rfl) t.free_list (by decide +kernel) (pa_cons (pv 0) pa_nil))))), ?_⟩
    refine ⟨_, rfl, a, xs, rfl, hL, hv, hl, fun H1 e1 => ⟨_, rfl, iteF ?_⟩⟩
    refine ⟨_, rfl, a, _, rfl, .inl (sl (e1 _ _ hL)), fun l hl0 => ?_⟩
    exact k.go e1 hl0 (Same.new hl0) upd_same
def sp_check_position : Sp := fun vs H Q _ => ∃ p h : Nat, vs = [vn p, vn h] ∧ p ≤ h ∧ RetV .non H Q
theorem sc_check_position : FnScope ["position", "highest"] ["position", "highest"] (defScope s_check_position) := C8.fnScope_by (by decide +kernel)
theorem c_check_position {P : Program} {w : World} {K : PySem.W.Frag} {mg : Str → Option Value} {base : Heap} (t : Tx K mg) : C8.Cal P w K mg base 2 "check_position" sp_check_position [] := by
  obtain ⟨fd, F⟩ := t.f_check_position
  have nd := sc_check_position.nd
  refine ⟨_, fd, ["position", "highest"], [], F.ok sc_check_position (fun vs H Q E h => ?_) (fun cdv A outer s H vs Q E hr h => ?_), t.glo_check_position, F.kp, F.bindsN (fun _ _ _ _ _ _ us hl => match us, hl with | [_, _], _ => rfl), .nil⟩
  · obtain ⟨p, x, rfl, hp, k⟩ := h
    rfl
  · obtain ⟨p, x, rfl, hp, k⟩ := h
    have hu := hu_of hr
    refine ⟨_, PSs.nox (pss_one (ps_if (pt_not (pt_val (C8.pe_c (c_is_integer3 t) hr (by decide) rfl (pa_cons (pv 0) (pa_cons pe_int (pa_cons (pv 1) pa_nil)))))) pss_never pss_nil)), ?_⟩
    refine ⟨_, rfl, _, rfl, p, 0, vn x, true, rfl, .inr ⟨_, rfl⟩, ?_, fun H1 e1 => ⟨_, rfl, iteF (k.go e1)⟩⟩
    rw [decide_eq_true (by omega)]
    exact decide_eq_true (show (p : Int) ≤ (x : Int) by omega)
def sp_is_pair : Sp := fun vs H Q _ => ∃ (t : Addr) (p : Nat × Nat) (a b : Nat), vs = [.ref t, vn a, vn b] ∧ H t = some (.tup [vn p.1, vn p.2]) ∧ p.1 < a ∧ p.2 < b ∧ RetV (.bl true) H Q
theorem sc_is_pair : FnScope ["value", "own_count", "other_count"] ["value", "own_count", "other_count"] (defScope s_is_pair) := C8.fnScope_by (by decide +kernel)
theorem c_is_pair {P : Program} {w : World} {K : PySem.W.Frag} {mg : Str → Option Value} {base : Heap} (t : Tx K mg) : C8.Cal P w K mg base 2 "is_pair" sp_is_pair [] := by
  obtain ⟨fd, F⟩ := t.f_is_pair
  have nd := sc_is_pair.nd
  refine ⟨_, fd, ["value", "own_count", "other_count"], [], F.ok sc_is_pair (fun vs H Q E h => ?_) (fun cdv A outer s H vs Q E hr h => ?_), t.glo_is_pair, F.kp, F.bindsN (fun _ _ _ _ _ _ us hl => match us, hl with | [_, _, _], _ => rfl), .nil⟩
  · obtain ⟨t', p, a, b, rfl, ht, ha, hb, k⟩ := h
    rfl
  · obtain ⟨t', p, a, b, rfl, ht, ha, hb, k⟩ := h
    have hu := hu_of hr
    refine ⟨_, PSs.nox (pss_cons (ps_if (PW.pt (pw_or (pt_not (pt_val (C8.pe_c (c_is_sequence t) hr (by decide) rfl (pa_cons (pv 0) pa_nil)))) (pw_or1 (pt_cmpR op_ne (pe_callB call_len_seq (by rfl) t.free_len (by decide +kernel) (pa_cons (pv 0) pa_nil)) pe_int (nomark _))))) (pss_one (ps_ret pe_bl)) pss_nil)
        (pss_one (ps_ret (pe_and (C8.pe_c (c_is_integer3 t) hr (by decide) rfl (pa_cons (pe_ix ix_tup (pv 0) pe_int (fun _ _ => rfl)) (pa_cons pe_int (pa_cons (pe_op op_subN (pv 1) pe_int) pa_nil)))) (pe_one (C8.pe_c (c_is_integer3 t) hr (by decide) rfl (pa_cons (pe_ix ix_tup (pv 0) pe_int (fun _ _ => rfl)) (pa_cons pe_int (pa_cons (pe_op op_subN (pv 2) pe_int) pa_nil))))))))), ?_⟩
    refine ⟨_, rfl, _, rfl, ⟨t', _, rfl, .inr ht⟩, fun H1 e1 => ⟨_, rfl, iteF ?_⟩⟩
    refine ⟨_, rfl, t', _, rfl, .inr (SqT.of (e1 _ _ ht)), rfl, _, rfl, iteF ?_⟩
    refine ⟨_, rfl, t', _, 0, vn p.1, rfl, rfl, SqT.of (e1 _ _ ht), rfl, _, rfl, a, 1, rfl, rfl, by omega, p.1, 0, vn (a - 1), true, rfl, .inr ⟨_, rfl⟩, ?_, fun H2 e2 => ⟨_, rfl, iteT ?_⟩⟩
    · rw [decide_eq_true (by omega)]
      exact decide_eq_true (show (p.1 : Int) ≤ ((a - 1 : Nat) : Int) by omega)
    refine ⟨_, rfl, t', _, 1, vn p.2, rfl, rfl, SqT.of (e2 _ _ (e1 _ _ ht)), rfl, _, rfl, b, 1, rfl, rfl, by omega, p.2, 0, vn (b - 1), true, rfl, .inr ⟨_, rfl⟩, ?_, fun H3 e3 => k.go ((e1.trans e2).trans e3)⟩
    rw [decide_eq_true (by omega)]
    exact decide_eq_true (show (p.2 : Int) ≤ ((b - 1 : Nat) : Int) by omega)
def sp_check_number : Sp := fun vs H Q _ => ∃ p : Nat, vs = [vn p] ∧ RetV .non H Q
theorem sc_check_number : FnScope ["value"] ["value"] (defScope s_check_number) := C8.fnScope_by (by decide +kernel)
theorem c_check_number {P : Program} {w : World} {K : PySem.W.Frag} {mg : Str → Option Value} {base : Heap} (t : Tx K mg) : C8.Cal P w K mg base 2 "check_number" sp_check_number [] := by
  obtain ⟨fd, F⟩ := t.f_check_number
  have nd := sc_check_number.nd
  refine ⟨_, fd, ["value"], [], F.ok sc_check_number (fun vs H Q E h => ?_) (fun cdv A outer s H vs Q E hr h => ?_), t.glo_check_number, F.kp, F.bindsN (fun _ _ _ _ _ _ us hl => match us, hl with | [_], _ => rfl), .nil⟩
  · obtain ⟨p, rfl, k⟩ := h
    rfl
  · obtain ⟨p, rfl, k⟩ := h
    have hu := hu_of hr
    refine ⟨_, PSs.nox (pss_one (ps_if (pt_not (pt_val (C8.pe_c (c_is_integer2 t) hr (by decide) rfl (pa_cons (pv 0) (pa_cons pe_int pa_nil))))) pss_never pss_nil)), ?_⟩
    refine ⟨_, rfl, p, 0, .non, true, rfl, .inl rfl, ?_, fun H1 e1 => ⟨_, rfl, iteF (k.go e1)⟩⟩
    rw [decide_eq_true (by omega)]
    rfl
def sp_is_mapping : Sp := fun vs H Q _ => ∃ (l : Addr) (ps : List (Nat × Nat)) (a b : Nat), vs = [.ref l, vn a, vn b] ∧ IsP H l ps ∧ ValidM ps a b ∧ ps.length < 64 ∧ RetV (.bl true) H Q
theorem sc_is_mapping : FnScope ["value", "own_count", "other_count", "keys", "targets", "pair", "one", "other"] ["value", "own_count", "other_count"] (defScope s_is_mapping) := C8.fnScope_by (by decide +kernel)
theorem c_is_mapping {P : Program} {w : World} {K : PySem.W.Frag} {mg : Str → Option Value} {base : Heap} (t : Tx K mg) : C8.Cal P w K mg base 3 "is_mapping" sp_is_mapping [] := by
  obtain ⟨fd, F⟩ := t.f_is_mapping
  have nd := sc_is_mapping.nd
  refine ⟨_, fd, ["value", "own_count", "other_count"], [], F.ok sc_is_mapping (fun vs H Q E h => ?_) (fun cdv A outer s H vs Q E hr h => ?_), t.glo_is_mapping, F.kp, F.bindsN (fun _ _ _ _ _ _ us hl => match us, hl with | [_, _, _], _ => rfl), .nil⟩
  · obtain ⟨l, ps, a, b, rfl, ⟨us, hU, hlen, hR⟩, hv, hl, k⟩ := h
    rfl
  · obtain ⟨l, ps, a, b, rfl, ⟨us, hU, hlen, hR⟩, hv, hl, k⟩ := h
    have hu := hu_of hr
    refine ⟨_, PSs.nox (pss_cons (ps_if (PW.pt (pw_or (pt_not (pt_val (C8.pe_c (c_is_sequence t) hr (by decide) rfl (pa_cons (pv 0) pa_nil)))) (pw_or1 (pt_not (pt_val (pe_callB (cr_all rfl) (by rfl) t.free_all (by decide +kernel) (pa_cons (pe_lc (own := [("pair", 5)]) (g := (gName 5)) (tt := tYes) (te := (tCall sp_is_pair [] E0 (tCons (tVar 5) (tCons (tVar 1) (tCons (tVar 2) tNil))))) rfl nd  (pi_list (pv 0)) (blkOk_by (by kernel_rfl)) (fun _ _ _ _ _ => (pg_name (i := 5) nd rfl (Or.inl rfl))) (fun _ _ _ _ _ => pts_nil) (fun _ _ _ _ _ => (C8.pe_c (c_is_pair t) hr (by decide) rfl (pa_cons (pv 5) (pa_cons (pv 1) (pa_cons (pv 2) pa_nil)))))) pa_nil))))))) (pss_one (ps_ret pe_bl)) pss_nil)
        (pss_cons (ps_setLc (i := 3) (own := [("pair", 5)]) (g := (gName 5)) (tt := tYes) (te := (tOp (rIxT K) (tVar 5) (tC (.int 0)))) rfl nd rfl rfl (sw_true rfl rfl rfl (by decide +kernel)) (pi_list (pv 0)) (blkOk_by (by kernel_rfl)) (fun _ _ _ _ _ => (pg_name (i := 5) nd rfl (Or.inl rfl))) (fun _ _ _ _ _ => pts_nil) (fun _ _ _ _ _ => (pe_ix ix_tup (pv 5) pe_int (fun _ _ => rfl))))
        (pss_cons (ps_setLc (i := 4) (own := [("pair", 5)]) (g := (gName 5)) (tt := tYes) (te := (tOp (rIxT K) (tVar 5) (tC (.int 1)))) rfl nd rfl rfl (sw_true rfl rfl rfl (by decide +kernel)) (pi_list (pv 0)) (blkOk_by (by kernel_rfl)) (fun _ _ _ _ _ => (pg_name (i := 5) nd rfl (Or.inl rfl))) (fun _ _ _ _ _ => pts_nil) (fun _ _ _ _ _ => (pe_ix ix_tup (pv 5) pe_int (fun _ _ => rfl))))
        (pss_one (ps_ret (pe_and (pe_callB (cr_all rfl) (by rfl) t.free_all (by decide +kernel) (pa_cons (pe_lc (own := [("one", 6), ("other", 7)]) (g := (gTup K 2 (gCons (gName 6) (gCons (gName 7) gNil)))) (tt := tYes) (te := (tOp (rI0 fun i j => .bl (decide (i < j))) (tVar 6) (tVar 7))) rfl nd  (pi_zip (by rfl) t.free_zip (pa_cons (pv 3) (pa_cons (pe_slice sl_list (pv 3) (po_some pe_int) po_none) pa_nil))) (blkOk_by (by kernel_rfl)) (fun _ _ _ _ _ => (pg_tup rfl (pgs_cons (pg_name (i := 6) nd rfl (Or.inl rfl)) (pgs_cons (pg_name (i := 7) nd rfl (Or.inl rfl)) pgs_nil)))) (fun _ _ _ _ _ => pts_nil) (fun _ _ _ _ _ => (pe_cmpR op_lt (pv 6) (pv 7) (nomark _)))) pa_nil)) (pe_one (pe_cmpR op_eq (RZ.pe_lenSetI (by rfl) t.free_len (by rfl) t.free_set (pv 4)) (pe_callB call_len_seq (by rfl) t.free_len (by decide +kernel) (pa_cons (pv 4) pa_nil)) (nomark _))))))))), ?_⟩
    refine ⟨_, rfl, _, rfl, ⟨l, _, rfl, .inl hU⟩, fun H1 e1 => ⟨_, rfl, iteF ?_⟩⟩
    refine ⟨_, rfl, l, rfl, ⟨_, sl (e1 _ _ hU)⟩, fun D hD => ?_⟩
    have item : ∀ {i : Nat} {x : V}, us[i]? = some x → ∃ p t, ps[i]? = some p ∧ p ∈ ps ∧ x = .ref t ∧ H t = some (.tup [vn p.1, vn p.2]) := fun {i x} hx => by
      have hi : i < ps.length := by
        rw [← hlen]
        exact (List.getElem?_eq_some_iff.mp hx).1
      obtain ⟨t, h1, h2⟩ := hR i ps[i] x (List.getElem?_eq_getElem hi) hx
      exact ⟨ps[i], t, List.getElem?_eq_getElem hi, List.getElem_mem hi, h1, h2⟩
    refine lc_val walk_list (fun _ => some (V.bl true)) (by omega) hD (fun H' e => sl (e _ _ (e1 _ _ hU))) (fun i x H2 H3 Ky Kn hi e y ky kn => ?_) fun H2 e2 hl' => ?_
    · obtain ⟨rfl, hx⟩ := y
      obtain ⟨p, t', hp, hm, rfl, ht⟩ := item hx
      obtain ⟨h1, h2⟩ := hv.lt p hm
      exact ⟨Same.refl _, rfl, _, rfl, _, rfl, _, rfl, t', p, a, b, rfl, e _ _ (e1 _ _ ht), h1, h2, fun H4 e4 => ky _ e4 _ rfl⟩
    rw [bl_list] at hl'
    refine ⟨D, _, rfl, sl hl', _, rfl, ?_⟩
    rw [all_true]
    refine iteF ?_
    -- keys
    have e12 := e1.trans e2
    refine ⟨_, rfl, l, rfl, ⟨_, sl (e12 _ _ hU)⟩, fun D2 hD2 => ?_⟩
    refine lc_val walk_list (fun i => (ps[i]?).map fun p => vn p.1) (by omega) hD2 (fun H' e => sl (e _ _ (e12 _ _ hU))) (fun i x H3 H4 Ky Kn hi e y ky kn => ?_) fun H3 e3 hk => ?_
    · obtain ⟨rfl, hx⟩ := y
      obtain ⟨p, t', hp, hm, rfl, ht⟩ := item hx
      exact ⟨Same.refl _, rfl, _, rfl, t', _, 0, vn p.1, rfl, rfl, SqT.of (e _ _ (e12 _ _ ht)), rfl, ky _ (Same.refl _) _ (by rw [hp]; rfl)⟩
    rw [hlen, fm_get] at hk
    have hk2 : IsL H3 D2 (ps.map (·.1)) := by
      show H3 D2 = some (.lst ((ps.map (·.1)).map vn))
      rw [hk, List.map_map]
      rfl
    -- targets
    have e13 := e12.trans e3
    refine ⟨_, rfl, l, rfl, ⟨_, sl (e13 _ _ hU)⟩, fun D3 hD3 => ?_⟩
    refine lc_val walk_list (fun i => (ps[i]?).map fun p => vn p.2) (by omega) hD3 (fun H' e => sl (e _ _ (e13 _ _ hU))) (fun i x H4 H5 Ky Kn hi e y ky kn => ?_) fun H4 e4 ht4 => ?_
    · obtain ⟨rfl, hx⟩ := y
      obtain ⟨p, t', hp, hm, rfl, ht⟩ := item hx
      exact ⟨Same.refl _, rfl, _, rfl, t', _, 1, vn p.2, rfl, rfl, SqT.of (e _ _ (e13 _ _ ht)), rfl, ky _ (Same.refl _) _ (by rw [hp]; rfl)⟩
    rw [hlen, fm_get] at ht4
    have ht5 : H4 D3 = some (.lst (((ps.map (·.2)).map fun n : Nat => (n : Int)).map V.int)) := by
      rw [ht4, List.map_map, List.map_map]
      rfl
    have hk4 := hk2.mono e4
    refine ⟨_, rfl, _, rfl, _, rfl, D2, _, rfl, sl hk4, fun D4 hD4 => ?_⟩
    have cut : cutV (nv (ps.map (·.1))) (some 1) none = nv ((ps.map (·.1)).drop 1) := (cut_from _ 1).trans (nv_drop _ _)
    rw [cut]
    have e5 := Same.new (o := .lst (nv ((ps.map (·.1)).drop 1))) hD4
    refine ⟨D2, D4, _, _, rfl, sl (hk4.mono e5), sl upd_same, fun D5 hD5 => ?_⟩
    refine lc_val (walk_zip rfl) (fun _ => some (V.bl true)) (by rw [nv_len, List.length_map]; omega) hD5 (fun H' e => ⟨sl (e _ _ (hk4.mono e5)), sl (e _ _ upd_same)⟩) (fun i x H5 H6 Ky Kn hi e y ky kn => ?_) fun H5 e6 hl5 => ?_
    · obtain ⟨T, x1, x2, rfl, hT, rfl, h1, h2⟩ := y
      obtain ⟨n1, g1, rfl⟩ := nv_get h1
      obtain ⟨n2, g2, rfl⟩ := nv_get h2
      refine ⟨Same.new hT, T, _, rfl, SqT.of upd_same, rfl, _, _, rfl, _, _, rfl, rfl, rfl, ?_⟩
      refine ⟨_, rfl, _, rfl, _, _, rfl, rfl, ky _ (Same.refl _) _ ?_⟩
      have lt : n1 < n2 := by
        rw [List.getElem?_drop] at g2
        have asc : (ps.map (·.1)).Pairwise (· < ·) := List.pairwise_map.mpr hv.asc
        obtain ⟨q1, r1⟩ := List.getElem?_eq_some_iff.mp g1
        obtain ⟨q2, r2⟩ := List.getElem?_eq_some_iff.mp g2
        have := List.pairwise_iff_getElem.mp asc i (1 + i) q1 q2 (by omega)
        rw [r1, r2] at this
        exact this
      show some _ = some (V.bl (decide ((n1 : Int) < (n2 : Int))))
      rw [decide_eq_true (show (n1 : Int) < (n2 : Int) by omega)]
    rw [bl_list] at hl5
    refine ⟨D5, _, rfl, sl hl5, _, rfl, ?_⟩
    rw [all_true]
    refine iteT ?_
    have e46 := e5.trans e6
    refine ⟨_, rfl, D3, _, rfl, sl (e46 _ _ ht5), int_nodup hv.inj, by rw [List.length_map, List.length_map]; omega, _, rfl, D3, _, rfl, .inl (sl (e46 _ _ ht5)), rfl, ?_⟩
    rw [List.length_map (f := V.int), decide_eq_true rfl]
    exact k.go (e13.trans (e4.trans e46))
end HB
namespace HB
open PySem PySem.Spec PyProof.Rows L2
def sp_block_extended (K : PySem.W.Frag) : Sp := fun vs H Q _ => ∃ (x dx b i m p dxp lo : Addr) (fs fsp : List (Str × V)) (base is : List Nat) (mm : List (Nat × Nat)) (psize : Nat) (pids : List Nat),
  vs = [.ref x, .ref m, .ref p] ∧ H x = some (.ins (He.ga K "Block") dx fs) ∧ fs.lookup ("base" : Str) = some (.ref b) ∧ fs.lookup ("ids" : Str) = some (.ref i) ∧ IsL H b base ∧ IsL H i is ∧ is.length = base.length ∧ base.length ≤ 400 ∧
  IsDF H m 1000 (lk mm) ∧ H p = some (.ins (He.ga K "Block") dxp fsp) ∧ fsp.lookup ("size" : Str) = some (vn psize) ∧ fsp.lookup ("last_offset" : Str) = some (.ref lo) ∧ IsDF H lo 1000 (lastI pids) ∧
  (∀ s t, lk mm s = some t → ∃ j, lastI pids t = some j ∧ j ≤ psize) ∧ RetL (ext base is mm psize pids) H Q
theorem sc_block_extended : FnScope ["self", "mapping", "previous", "found", "offset", "distance", "symbol"] ["self", "mapping", "previous"] (defScope s_block_extended) := C8.fnScope_by (by decide +kernel)
theorem me_block_extended {P : Program} {w : World} {K : PySem.W.Frag} {mg : Str → Option Value} {base : Heap} (t : Tx K mg) : C8.Met P w K mg base 1 (He.ga K "Block") "extended" (sp_block_extended K) [] := by
  obtain ⟨fd, F⟩ := t.f_block_extended
  have nd := sc_block_extended.nd
  refine ⟨_, fd, ["self", "mapping", "previous"], [], t.cls_Block, t.meth_block_extended, F.ok sc_block_extended (fun vs H Q E h => ?_) (fun cdv A outer s H vs Q E hr h => ?_), F.bindsN (fun _ _ _ _ _ _ us hl => match us, hl with | [_, _, _], _ => rfl), .nil⟩
  · obtain ⟨x, dx, b, i, m, p, dxp, lo, fs, fsp, base, is, mm, psize, pids, rfl, hx, hb, hi, hB, hI, hle, hl4, hm, hp, hsz, hlo, hL, hr2, k⟩ := h
    rfl
  · obtain ⟨x, dx, b, i, m, p, dxp, lo, fs, fsp, base, is, mm, psize, pids, rfl, hx, hb, hi, hB, hI, hle, hl4, hm, hp, hsz, hlo, hL, hr2, k⟩ := h
    have hu := hu_of hr
    refine ⟨_, PSs.nox (pss_cons (ps_set (i := 3) nd rfl (Or.inl rfl) (pe_lst pa_nil))
        (pss_cons (ps_for PassesOwn.never rfl (pi_enumZip (by rfl) t.free_enumerate (by rfl) t.free_zip (pa_cons (pe_fld (pv 0) rfl) (pa_cons (pe_fld (pv 0) rfl) pa_nil))) (pg_tup rfl (pgs_cons (pg_name (i := 4) nd rfl (Or.inl rfl)) (pgs_cons (pg_tup rfl (pgs_cons (pg_name (i := 5) nd rfl (Or.inl rfl)) (pgs_cons (pg_name (i := 6) nd rfl (Or.inl rfl)) pgs_nil))) pgs_nil))) (C8.pss_cut (ps_if (PW.pt (pw_and (pt_cmpR op_eq (pv 5) pe_int (nomark _)) (pw_and1 (pt_cmp (pc_din hu (pv 6) (pv 1)))))) (pss_one (ps_set (i := 5) nd rfl (Or.inl rfl) (pe_op op_subN (pe_op op_add (pv 4) (pe_fld (pv 2) rfl)) (pe_dget hu (pe_fld (pv 2) rfl) (pe_dget hu (pv 1) (pv 6) (fun _ _ => rfl)) (fun _ _ => rfl))))) pss_nil)
        (pss_one (ps_expr (pe_bm PySem.F.plainAttrs_list PySem.F.slot_list_append PySem.F.type_list_append mt_append (pv 3) (pa_cons (pv 5) pa_nil))))))
        (pss_one (ps_ret (pv 3))))), ?_⟩
    refine ⟨Nat.zero_le _, fun l hl0 => ?_⟩
    have E0 := Same.new (o := .lst []) hl0
    have len : (ext base is mm psize pids).length = base.length := by
      unfold ext
      rw [List.length_map, List.length_range]
    refine ⟨_, rfl, x, _, dx, fs, .ref b, rfl, E0 _ _ hx, t.cls_Block, t.noat_Block_base, hb, _, rfl, x, _, dx, fs, .ref i, rfl, E0 _ _ hx, t.cls_Block, t.noat_Block_ids, hi, b, i, nv base, nv is, rfl, sl (E0 _ _ hB), sl (E0 _ _ hI), ?_⟩
    refine for_it (walk_enumZ (by rw [nv_len, nv_len, hle])) (fun n σ H' => ∃ (v4 v5 v6 : Option V), σ = [some (.ref x), some (.ref m), some (.ref p), some (.ref l), v4, v5, v6] ∧ Same H H' ∧ IsL H' l ((ext base is mm psize pids).take n))
      ⟨none, none, none, rfl, E0, upd_same⟩ (fun n σ H' _ ⟨_, _, _, _, e, _⟩ => ⟨sl (e _ _ hB), sl (e _ _ hI)⟩) ?_ ?_
    · rintro n v σ H1 H2 hn ⟨v4, v5, v6, rfl, e, h1⟩ ⟨T, T1, y, z, rfl, hT1, hT, hne, rfl, hy, hz⟩
      obtain ⟨d, hd, rfl⟩ := nv_get hy
      obtain ⟨s, hs, rfl⟩ := nv_get hz
      have hn2 : n < base.length := (List.getElem?_eq_some_iff.mp hd).1
      have e1 := Same.new (o := .tup [vn d, vn s]) hT1
      have hT' : upd H1 T1 (.tup [vn d, vn s]) T = none := by
        rw [upd_ne hne]
        exact hT
      have e2 := e1.trans (Same.new (o := .tup [.int (n : Nat), .ref T1]) hT')
      have eH := e.trans e2
      refine ⟨T, _, rfl, SqT.of upd_same, rfl, _, _, rfl, _, _, rfl, T1, _, rfl, SqT.of (Same.new hT' _ _ upd_same), rfl, _, _, rfl, _, _, rfl, rfl, rfl, ?_⟩
      have hg : (ext base is mm psize pids)[n]? = some (if d = 0 then (match lk mm s with
          | some u => n + psize - (lastI pids u).getD 0
          | none => 0) else d) := by
        unfold ext
        rw [List.getElem?_map, List.getElem?_range hn2]
        show some (if base.getD n 0 = 0 then (match lk mm (is.getD n 0) with
          | some u => n + psize - (lastI pids u).getD 0
          | none => 0) else base.getD n 0) = _
        rw [getD_of hd, getD_of hs]
      refine ⟨fun σ' H' => σ' = [some (.ref x), some (.ref m), some (.ref p), some (.ref l), some (vn n), some (vn (if d = 0 then (match lk mm s with
          | some u => n + psize - (lastI pids u).getD 0
          | none => 0) else d)), some (vn s)] ∧ H' = upd (upd H1 T1 (.tup [vn d, vn s])) T (.tup [.int (n : Nat), .ref T1]), ?_, ?_⟩
      · refine ⟨_, rfl, rfl, _, rfl, if_eq (b := 0) (fun h0 => ?_) (fun h0 => iteF ⟨by rw [if_neg h0]; rfl, rfl⟩)⟩
        refine ⟨_, rfl, _, rfl, m, _, rfl, (hm.mono eH).get s, _, rfl, ?_⟩
        cases hlk : lk mm s with
        | none =>
          refine iteF ⟨?_, rfl⟩
          rw [if_pos h0, h0]
          rfl
        | some u =>
          obtain ⟨j, hj, hjle⟩ := hr2 s u hlk
          have g1 := (hm.mono eH).get s
          rw [hlk] at g1
          have g2 := (hL.mono eH).get u
          rw [hj] at g2
          refine iteT ⟨_, rfl, _, rfl, p, _, dxp, fsp, vn psize, rfl, eH _ _ hp, t.cls_Block, t.noat_Block_size, hsz, _, _, rfl, rfl, ?_⟩
          refine ⟨_, rfl, p, _, dxp, fsp, .ref lo, rfl, eH _ _ hp, t.cls_Block, t.noat_Block_last_offset, hlo, _, rfl, _, rfl, m, vn u, rfl, g1, lo, vn j, rfl, g2, n + psize, j, rfl, rfl, by omega, ?_, rfl⟩
          rw [if_pos h0]
          show _ = [_, _, _, _, _, some (vn (n + psize - (lastI pids u).getD 0)), _]
          rw [hj]
          rfl
      · rintro σ' H' ⟨rfl, rfl⟩
        have h2 := h1.mono e2
        refine ⟨_, rfl, .inl ⟨rfl, _, sl h2⟩, _, rfl, l, _, _, rfl, rfl, h2, ?_, some (vn n), _, some (vn s), rfl, Same.mut eH hl0, ?_⟩
        · rw [nv_len, List.length_take]
          exact Nat.lt_of_le_of_lt (Nat.min_le_left ..) (Nat.lt_of_lt_of_le hn2 (Nat.le_trans hl4 (by decide)))
        · show upd _ l _ l = _
          rw [upd_same, nv_snoc, take_snoc hg]
    · rintro σ H1 ⟨v4, v5, v6, rfl, e, h1⟩
      rw [nv_len, ← len, List.take_length] at h1
      exact ⟨_, rfl, k l H1 e hl0 h1⟩
theorem bfs_base {b i : Addr} {size reps beg fin : Nat} {li tu lo la fi : Addr} : (bfs b i size reps beg fin li tu lo la fi).lookup ("base" : Str) = some (.ref b) := by kernel_rfl
theorem bfs_ids {b i : Addr} {size reps beg fin : Nat} {li tu lo la fi : Addr} : (bfs b i size reps beg fin li tu lo la fi).lookup ("ids" : Str) = some (.ref i) := by kernel_rfl
theorem bfs_size {b i : Addr} {size reps beg fin : Nat} {li tu lo la fi : Addr} : (bfs b i size reps beg fin li tu lo la fi).lookup ("size" : Str) = some (vn size) := by kernel_rfl
theorem bfs_reps {b i : Addr} {size reps beg fin : Nat} {li tu lo la fi : Addr} : (bfs b i size reps beg fin li tu lo la fi).lookup ("repetitions" : Str) = some (vn reps) := by kernel_rfl
theorem bfs_begin {b i : Addr} {size reps beg fin : Nat} {li tu lo la fi : Addr} : (bfs b i size reps beg fin li tu lo la fi).lookup ("begin" : Str) = some (vn beg) := by kernel_rfl
theorem bfs_end {b i : Addr} {size reps beg fin : Nat} {li tu lo la fi : Addr} : (bfs b i size reps beg fin li tu lo la fi).lookup ("end" : Str) = some (vn fin) := by kernel_rfl
theorem bfs_linked {b i : Addr} {size reps beg fin : Nat} {li tu lo la fi : Addr} : (bfs b i size reps beg fin li tu lo la fi).lookup ("linked" : Str) = some (.ref li) := by kernel_rfl
theorem bfs_turned {b i : Addr} {size reps beg fin : Nat} {li tu lo la fi : Addr} : (bfs b i size reps beg fin li tu lo la fi).lookup ("turned" : Str) = some (.ref tu) := by kernel_rfl
theorem bfs_last {b i : Addr} {size reps beg fin : Nat} {li tu lo la fi : Addr} : (bfs b i size reps beg fin li tu lo la fi).lookup ("last_offset" : Str) = some (.ref lo) := by kernel_rfl
theorem bfs_later {b i : Addr} {size reps beg fin : Nat} {li tu lo la fi : Addr} : (bfs b i size reps beg fin li tu lo la fi).lookup ("later" : Str) = some (.ref la) := by kernel_rfl
theorem bfs_first {b i : Addr} {size reps beg fin : Nat} {li tu lo la fi : Addr} : (bfs b i size reps beg fin li tu lo la fi).lookup ("first" : Str) = some (.ref fi) := by kernel_rfl
theorem bfs_locate {b i : Addr} {size reps beg fin : Nat} {li tu lo la fi : Addr} : (bfs b i size reps beg fin li tu lo la fi).lookup ("locate" : Str) = none := by kernel_rfl
theorem bfs_distance_of {b i : Addr} {size reps beg fin : Nat} {li tu lo la fi : Addr} : (bfs b i size reps beg fin li tu lo la fi).lookup ("distance_of" : Str) = none := by kernel_rfl
theorem bfs_zeros_before {b i : Addr} {size reps beg fin : Nat} {li tu lo la fi : Addr} : (bfs b i size reps beg fin li tu lo la fi).lookup ("zeros_before" : Str) = none := by kernel_rfl
theorem bfs_nth_zero {b i : Addr} {size reps beg fin : Nat} {li tu lo la fi : Addr} : (bfs b i size reps beg fin li tu lo la fi).lookup ("nth_zero" : Str) = none := by kernel_rfl
def sp_block_locate (K : PySem.W.Frag) : Sp := fun vs H Q _ => ∃ (a : Addr) (B : BO) (p : Nat), vs = [.ref a, vn p] ∧ IsBO (He.ga K "Block") H a B ∧ B.beg ≤ p ∧ 0 < B.size ∧ B.size ≤ 400 ∧
  ∀ v H', Same H H' → RP ((p - B.beg) / B.size, (p - B.beg) % B.size) H' v → Q v H'
theorem sc_block_locate : FnScope ["self", "position"] ["self", "position"] (defScope s_block_locate) := C8.fnScope_by (by decide +kernel)
theorem me_block_locate {P : Program} {w : World} {K : PySem.W.Frag} {mg : Str → Option Value} {base : Heap} (t : Tx K mg) : C8.Met P w K mg base 1 (He.ga K "Block") "locate" (sp_block_locate K) [] := by
  obtain ⟨fd, F⟩ := t.f_block_locate
  have nd := sc_block_locate.nd
  refine ⟨_, fd, ["self", "position"], [], t.cls_Block, t.meth_block_locate, F.ok sc_block_locate (fun vs H Q E h => ?_) (fun cdv A outer s H vs Q E hr h => ?_), F.bindsN (fun _ _ _ _ _ _ us hl => match us, hl with | [_, _], _ => rfl), .nil⟩
  · obtain ⟨a, B, p, rfl, hB, hb, hs, hs4, k⟩ := h
    rfl
  · obtain ⟨a, B, p, rfl, hB, hb, hs, hs4, k⟩ := h
    have hu := hu_of hr
    refine ⟨_, PSs.nox (pss_one (ps_ret (pe_callB call_divmod (by rfl) t.free_divmod (by decide +kernel) (pa_cons (pe_op op_subN (pv 1) (pe_fld (pv 0) rfl)) (pa_cons (pe_fld (pv 0) rfl) pa_nil))))), ?_⟩
    obtain ⟨dx, b, i, li, tu, lo, la, fi, h0, h1, h2, h3, h4, h5, h6, h7⟩ := hB
    refine ⟨_, rfl, _, rfl, a, _, dx, _, vn B.beg, rfl, h0, t.cls_Block, t.noat_Block_begin, bfs_begin, p, B.beg, rfl, rfl, hb, _, rfl, a, _, dx, _, vn B.size, rfl, h0, t.cls_Block, t.noat_Block_size, bfs_size, ?_⟩
    refine ⟨_, _, rfl, ⟨by omega, by omega⟩, fun q hq => k _ _ (Same.new hq) ⟨q, rfl, upd_same⟩⟩
def sp_block_distance_of (K : PySem.W.Frag) : Sp := fun vs H Q _ => ∃ (a : Addr) (B : BO) (p : Nat), vs = [.ref a, vn p] ∧ IsBO (He.ga K "Block") H a B ∧ B.beg ≤ p ∧ 0 < B.size ∧ B.size ≤ 400 ∧ B.later.length = B.size ∧ B.first.length = B.size ∧
  RetV (vn (B.dist p)) H Q
theorem sc_block_distance_of : FnScope ["self", "position", "repetition", "offset"] ["self", "position"] (defScope s_block_distance_of) := C8.fnScope_by (by decide +kernel)
theorem me_block_distance_of {P : Program} {w : World} {K : PySem.W.Frag} {mg : Str → Option Value} {base : Heap} (t : Tx K mg) : C8.Met P w K mg base 2 (He.ga K "Block") "distance_of" (sp_block_distance_of K) [] := by
  obtain ⟨fd, F⟩ := t.f_block_distance_of
  have nd := sc_block_distance_of.nd
  refine ⟨_, fd, ["self", "position"], [], t.cls_Block, t.meth_block_distance_of, F.ok sc_block_distance_of (fun vs H Q E h => ?_) (fun cdv A outer s H vs Q E hr h => ?_), F.bindsN (fun _ _ _ _ _ _ us hl => match us, hl with | [_, _], _ => rfl), .nil⟩
  · obtain ⟨a, B, p, rfl, hB, hb, hs, hs4, hla, hfi, k⟩ := h
    rfl
  · obtain ⟨a, B, p, rfl, hB, hb, hs, hs4, hla, hfi, k⟩ := h
    have hu := hu_of hr
    refine ⟨_, PSs.nox (pss_cons (ps_asg (C8.pe_mt (me_block_locate t) hr (by decide) (pv 0) (pa_cons (pv 1) pa_nil)) (pg_tup rfl (pgs_cons (pg_name (i := 2) nd rfl (Or.inl rfl)) (pgs_cons (pg_name (i := 3) nd rfl (Or.inl rfl)) pgs_nil))))
        (pss_one (ps_ret (pe_ifExp (pt_cmpR op_eq (pv 2) pe_int (nomark _)) (pe_ix ix_list (pe_fld (pv 0) rfl) (pv 3) (fun _ _ => rfl)) (pe_ix ix_list (pe_fld (pv 0) rfl) (pv 3) (fun _ _ => rfl)))))), ?_⟩
    obtain ⟨dx, b, i, li, tu, lo, la, fi, h0, h1, h2, h3, h4, h5, h6, h7⟩ := id hB
    refine ⟨_, rfl, a, dx, _, rfl, h0, bfs_locate, _, rfl, a, B, p, rfl, hB, hb, hs, hs4, fun v H1 e1 ⟨T, hv, hT⟩ => ?_⟩
    refine ⟨T, _, hv, SqT.of hT, rfl, _, _, rfl, _, _, rfl, rfl, ?_⟩
    have hmod : (p - B.beg) % B.size < B.size := Nat.mod_lt _ hs
    unfold BO.dist at k
    refine ⟨_, rfl, rfl, _, rfl, if_eq (b := 0) (fun h => ?_) (fun h => ?_)⟩
    · rw [if_pos h] at k
      exact ⟨_, rfl, a, _, dx, _, .ref fi, rfl, e1 _ _ h0, t.cls_Block, t.noat_Block_first, bfs_first, _, rfl, fi, _, _, _, rfl, rfl, sl (e1 _ _ h7), nv_ix (by omega), k.go e1⟩
    · rw [if_neg h] at k
      exact ⟨_, rfl, a, _, dx, _, .ref la, rfl, e1 _ _ h0, t.cls_Block, t.noat_Block_later, bfs_later, _, rfl, la, _, _, _, rfl, rfl, sl (e1 _ _ h6), nv_ix (by omega), k.go e1⟩
end HB
namespace HB
open PySem PySem.Spec PyProof.Rows L2
def sp_block_init (K : PySem.W.Frag) : Sp := fun vs H Q _ => ∃ (x dx : Addr) (v pv : V) (b : Blk) (beg np : Nat) (prev : Option BO),
  vs = [.ref x, v, vn beg, pv] ∧ H x = some (.ins (He.ga K "Block") dx []) ∧ RB b (hid x H) v ∧ ValidB b np ∧
  (match prev with
    | none => pv = .non
    | some P => ∃ p, pv = .ref p ∧ IsBO (He.ga K "Block") (hid x H) p P ∧ ∀ s t, lk b.link s = some t → ∃ j, lastI P.ids t = some j ∧ j ≤ P.size) ∧
  ∀ H', SameBut x H H' → (∀ H2, (∀ q o, (H q = none ∨ q = x) → H' q = some o → H2 q = some o) → IsBO (He.ga K "Block") H2 x (mkBO b beg prev)) → Q .non H'
theorem sc_block_init : FnScope ["self", "block", "begin", "previous", "base", "link", "turn", "repetitions", "pair", "offset", "symbol"] ["self", "block", "begin", "previous"] (defScope s_block_init) := C8.fnScope_by (by decide +kernel)
theorem m_Block {P : Program} {w : World} {K : PySem.W.Frag} {mg : Str → Option Value} {base : Heap} (t : Tx K mg) : C8.Mak P w K mg base 2 "Block" (He.ga K "Block") (sp_block_init K) [] := by
  obtain ⟨fd, F⟩ := t.f_block_init
  have nd := sc_block_init.nd
  refine ⟨_, fd, ["self", "block", "begin", "previous"], [], t.mkr_Block, F.ok sc_block_init (fun vs H Q E h => ?_) (fun cdv A outer s H vs Q E hr h => ?_), t.glo_Block, F.bindsN (fun _ _ _ _ _ _ us hl => match us, hl with | [_, _, _, _], _ => rfl), .nil⟩
  · obtain ⟨x, dx, v, pw, b, beg, np, prev, rfl, h0, hv, hV, hP, k⟩ := h
    rfl
  · obtain ⟨x, dx, v, pw, b, beg, np, prev, rfl, h0, hv, hV, hP, k⟩ := h
    have hu := hu_of hr
    refine ⟨_, PSs.nox (pss_cons (ps_asg (pv 1) (pg_tup rfl (pgs_cons (pg_name (i := 4) nd rfl (Or.inl rfl)) (pgs_cons (pg_name (i := 5) nd rfl (Or.inl rfl)) (pgs_cons (pg_name (i := 6) nd rfl (Or.inl rfl)) (pgs_cons (pg_name (i := 7) nd rfl (Or.inl rfl)) pgs_nil))))))
        (pss_cons (ps_fld (pv 0) (pe_callTy call_list_of (by rfl) t.free_list (by decide +kernel) (pa_cons (pv 4) pa_nil)) rfl)
        (pss_cons (ps_fld (pv 0) (C8.pe_c (c_ids_of t) hr (by decide) rfl (pa_cons (pe_fld (pv 0) rfl) pa_nil)) rfl)
        (pss_cons (ps_fld (pv 0) (pe_callB call_len_seq (by rfl) t.free_len (by decide +kernel) (pa_cons (pe_fld (pv 0) rfl) pa_nil)) rfl)
        (pss_cons (ps_fld (pv 0) (pv 7) rfl)
        (pss_cons (ps_fld (pv 0) (pv 2) rfl)
        (pss_cons (ps_fld (pv 0) (pe_op op_add (pv 2) (pe_op op_mul (pe_fld (pv 0) rfl) (pv 7))) rfl)
        (pss_cons (ps_fld (pv 0) (pe_dc (own := [("pair", 8)]) (g := (gName 8)) (tt := tYes) (tk := (tOp (rIxT K) (tVar 8) (tC (.int 0)))) (tv := (tOp (rIxT K) (tVar 8) (tC (.int 1)))) rfl nd (pi_list (pv 5)) (blkOk_by (by kernel_rfl)) (fun _ _ _ _ _ => (pg_name (i := 8) nd rfl (Or.inl rfl))) (fun _ _ _ _ _ => pts_nil) (fun _ _ _ _ _ => (pe_ix ix_tup (pv 8) pe_int (fun _ _ => rfl))) (fun _ _ _ _ _ => (pe_ix ix_tup (pv 8) pe_int (fun _ _ => rfl)))) rfl)
        (pss_cons (ps_fld (pv 0) (pe_dc (own := [("pair", 8)]) (g := (gName 8)) (tt := tYes) (tk := (tOp (rIxT K) (tVar 8) (tC (.int 0)))) (tv := (tOp (rIxT K) (tVar 8) (tC (.int 1)))) rfl nd (pi_list (pv 6)) (blkOk_by (by kernel_rfl)) (fun _ _ _ _ _ => (pg_name (i := 8) nd rfl (Or.inl rfl))) (fun _ _ _ _ _ => pts_nil) (fun _ _ _ _ _ => (pe_ix ix_tup (pv 8) pe_int (fun _ _ => rfl))) (fun _ _ _ _ _ => (pe_ix ix_tup (pv 8) pe_int (fun _ _ => rfl)))) rfl)
        (pss_cons (ps_fld (pv 0) (pe_dc (own := [("offset", 9), ("symbol", 10)]) (g := (gTup K 2 (gCons (gName 9) (gCons (gName 10) gNil)))) (tt := tYes) (tk := (tVar 10)) (tv := (tVar 9)) rfl nd (pi_enum (by rfl) t.free_enumerate (pa_cons (pe_fld (pv 0) rfl) pa_nil)) (blkOk_by (by kernel_rfl)) (fun _ _ _ _ _ => (pg_tup rfl (pgs_cons (pg_name (i := 9) nd rfl (Or.inl rfl)) (pgs_cons (pg_name (i := 10) nd rfl (Or.inl rfl)) pgs_nil)))) (fun _ _ _ _ _ => pts_nil) (fun _ _ _ _ _ => (pv 10)) (fun _ _ _ _ _ => (pv 9))) rfl)
        (pss_cons (ps_fld (pv 0) (C8.pe_mt (me_block_extended t) hr (by decide) (pv 0) (pa_cons (pe_fld (pv 0) rfl) (pa_cons (pv 0) pa_nil))) rfl)
        (pss_one (ps_fld (pv 0) (pe_ifExp (pt_cmpR op_isN (pv 3) pe_non (nomark _)) (pe_fld (pv 0) rfl) (C8.pe_mt (me_block_extended t) hr (by decide) (pv 0) (pa_cons (pe_fld (pv 0) rfl) (pa_cons (pv 3) pa_nil)))) rfl))))))))))))), ?_⟩
    obtain ⟨tb, d, l, u, rfl, hT, hD, hLk, hTn⟩ := hv
    have cB := t.cls_Block
    have small : ∀ n : Nat, n ≤ 40 → n < 1000 := fun n h => by omega
    refine ⟨_, rfl, tb, _, rfl, SqT.of (hid_le _ _ hT), rfl, _, _, rfl, _, _, rfl, _, _, rfl, _, _, rfl, rfl, ?_⟩
    -- self.base = list(base)
    refine ⟨_, rfl, d, _, rfl, .inl (sl (hid_le _ _ hD)), fun ba hb0 => ?_⟩
    have nb : ba ≠ x := fun e => by rw [e, h0] at hb0; cases hb0
    refine ⟨_, rfl, x, _, dx, [], rfl, by rw [upd_ne (Ne.symm nb)]; exact h0, cB, t.noat_Block_base, by decide, ?_⟩
    generalize hG : upd (upd H ba (.lst (nv b.base))) x (.ins (He.ga K "Block") dx (putF "base" (.ref ba) [])) = G1
    have g1 : G1 x = some (.ins (He.ga K "Block") dx (putF "base" (.ref ba) [])) := by rw [← hG]; exact upd_same
    have s1 : Same (hid x H) (hid x G1) := by rw [← hG, hid_upd]; exact hid_mono (Same.new hb0)
    have fb1 : IsL (hid x G1) ba b.base := by
      rw [← hG, hid_upd]
      show hid x _ ba = _
      rw [hid_at nb, upd_same]
    clear hG
    -- self.ids = ids_of(self.base)
    refine ⟨_, rfl, x, _, dx, _, .ref ba, rfl, g1, cB, t.noat_Block_base, by kernel_rfl, ba, b.base, rfl, hid_le _ _ fb1, hV.base, by have := hV.most; omega, fun ia H2 e2 hi0 hI => ?_⟩
    have ni : ia ≠ x := fun e => by rw [e, g1] at hi0; cases hi0
    have hi00 : H ia = none := by
      cases q : H ia with
      | none => rfl
      | some o =>
        have := s1 ia o (by rw [hid_at ni]; exact q)
        rw [hid_at ni, hi0] at this
        cases this
    refine ⟨_, rfl, x, _, dx, _, rfl, e2 _ _ g1, cB, t.noat_Block_ids, by exact Nat.lt_of_le_of_lt (show _ ≤ 1 from Nat.le_refl _) (by decide), ?_⟩
    generalize hG : upd H2 x (.ins (He.ga K "Block") dx (putF "ids" (.ref ia) (putF "base" (.ref ba) []))) = G2
    have g2 : G2 x = some (.ins (He.ga K "Block") dx (putF "ids" (.ref ia) (putF "base" (.ref ba) []))) := by rw [← hG]; exact upd_same
    have e12 : Same (hid x G1) (hid x G2) := by rw [← hG, hid_upd]; exact hid_mono e2
    have fi2 : IsL (hid x G2) ia (ids b.base) := by
      rw [← hG, hid_upd]
      show hid x _ ia = _
      rw [hid_at ni]
      exact hI
    have fb2 := fb1.mono e12
    have s2 := s1.trans e12
    clear hG hI e2 hi0 e12 fb1 s1 g1
    -- self.size = len(self.base); self.repetitions; self.begin; self.end
    refine ⟨_, rfl, x, _, dx, _, .ref ba, rfl, g2, cB, t.noat_Block_base, by kernel_rfl, ba, _, rfl, .inl (sl (hid_le _ _ fb2)), _, rfl, x, _, dx, _, rfl, g2, cB, t.noat_Block_size, by exact Nat.lt_of_le_of_lt (show _ ≤ 2 from Nat.le_refl _) (by decide), ?_⟩
    refine ⟨_, rfl, _, rfl, x, _, dx, _, rfl, upd_same, cB, t.noat_Block_repetitions, by exact Nat.lt_of_le_of_lt (show _ ≤ 3 from Nat.le_refl _) (by decide), ?_⟩
    refine ⟨_, rfl, _, rfl, x, _, dx, _, rfl, upd_same, cB, t.noat_Block_begin, by exact Nat.lt_of_le_of_lt (show _ ≤ 4 from Nat.le_refl _) (by decide), ?_⟩
    refine ⟨_, rfl, _, rfl, x, _, dx, _, vn b.base.length, rfl, upd_same, cB, t.noat_Block_size, ?_, _, rfl, _, _, rfl, rfl, .inl ⟨by have := hV.most; omega, by have := hV.most; omega⟩, _, _, rfl, rfl, _, rfl, x, _, dx, _, rfl, upd_same, cB, t.noat_Block_end, by exact Nat.lt_of_le_of_lt (show _ ≤ 5 from Nat.le_refl _) (by decide), ?_⟩
    · rw [nv_len]
      kernel_rfl
    generalize hG : upd (upd (upd (upd G2 x _) x _) x _) x _ = G3
    have hG' := hG
    rw [upd_upd, upd_upd, upd_upd] at hG'
    have g3 : G3 x = some (.ins (He.ga K "Block") dx (putF "end" (vn (beg + b.base.length * b.cnt)) (putF "begin" (vn beg) (putF "repetitions" (vn b.cnt) (putF "size" (vn b.base.length) (putF "ids" (.ref ia) (putF "base" (.ref ba) []))))))) := by
      rw [← hG, upd_same, nv_len]
      rfl
    have e23 : Same (hid x G2) (hid x G3) := by
      rw [← hG, hid_upd, hid_upd, hid_upd, hid_upd]
      exact Same.refl _
    have fb3 := fb2.mono e23
    have fi3 := fi2.mono e23
    have s3 := s2.trans e23
    clear hG hG' e23 fb2 fi2 s2 g2
    -- self.linked
    obtain ⟨ul, hUl, hUll, hUlR⟩ := hLk
    obtain ⟨ut, hUt, hUtl, hUtR⟩ := hTn
    have asc1 := hV.link.asc
    have asc2 := hV.turn.asc
    have nzle := nz_le b.base
    have most := hV.most
    have lenl := hV.link.len
    have lent := hV.turn.len
    refine ⟨_, rfl, l, rfl, ⟨_, sl (hid_le _ _ (s3 _ _ hUl))⟩, fun li hli => ?_⟩
    refine dc_pairs (ps := b.link) (hid_le _ _ (s3 _ _ hUl)) hUll (fun i p v a c => (hUlR i p v a c).mono (s3.trans hid_le)) asc1 (by omega) (fun _ => rfl) (fun _ => rfl) hli fun H4 e4 hD4 => ?_
    have nli := ne_x g3 hli
    have fli := hid_free s3 hli nli
    refine ⟨_, rfl, x, _, dx, _, rfl, e4 _ _ g3, cB, t.noat_Block_linked, by exact Nat.lt_of_le_of_lt (show _ ≤ 6 from Nat.le_refl _) (by decide), ?_⟩
    generalize hG : upd H4 x _ = G4
    obtain ⟨g4, e34⟩ := hid_st e4 hG
    have fl4 : IsDP (hid x G4) li b.link := ⟨hid_new hG nli hD4.1, hD4.2⟩
    have fb4 := fb3.mono e34
    have fi4 := fi3.mono e34
    have s4 := s3.trans e34
    clear hG hD4 e4 e34 fb3 fi3 s3 g3 hli
    -- self.turned
    refine ⟨_, rfl, u, rfl, ⟨_, sl (hid_le _ _ (s4 _ _ hUt))⟩, fun tu htu => ?_⟩
    refine dc_pairs (ps := b.turn) (hid_le _ _ (s4 _ _ hUt)) hUtl (fun i p v a c => (hUtR i p v a c).mono (s4.trans hid_le)) asc2 (by omega) (fun _ => rfl) (fun _ => rfl) htu fun H5 e5 hD5 => ?_
    have ntu := ne_x g4 htu
    have ftu := hid_free s4 htu ntu
    refine ⟨_, rfl, x, _, dx, _, rfl, e5 _ _ g4, cB, t.noat_Block_turned, by exact Nat.lt_of_le_of_lt (show _ ≤ 7 from Nat.le_refl _) (by decide), ?_⟩
    generalize hG : upd H5 x _ = G5
    obtain ⟨g5, e45⟩ := hid_st e5 hG
    have ft5 : IsDP (hid x G5) tu b.turn := ⟨hid_new hG ntu hD5.1, hD5.2⟩
    have fl5 := fl4.mono e45
    have fb5 := fb4.mono e45
    have fi5 := fi4.mono e45
    have s5 := s4.trans e45
    clear hG hD5 e5 e45 fb4 fi4 fl4 s4 g4 htu
    -- self.last_offset
    refine ⟨_, rfl, x, _, dx, _, .ref ia, rfl, g5, cB, t.noat_Block_ids, by kernel_rfl, ia, _, rfl, sl (hid_le _ _ fi5), fun lo hlo => ?_⟩
    have il := ids_len b.base
    refine dc_df walk_enum (fun i => (ids b.base).getD i 0) (fun i => i) (fun n => lastI ((ids b.base).take n)) (fun s => rfl) (fun i s hi => ?_) (by rw [nv_len]; omega) hlo (fun H' e => sl (e _ _ (hid_le _ _ fi5))) (fun i y H2 H3 Kd Kn hi e y kd => ?_) fun H6 e6 hD6 => ?_
    · rw [nv_len] at hi
      rw [take_snoc (getD_some hi), lastI_snoc, List.length_take, Nat.min_eq_left (by omega)]
      by_cases es : (ids b.base).getD i 0 = s
      · rw [if_pos es, if_pos es.symm]
      · rw [if_neg es, if_neg fun q => es q.symm]
    · obtain ⟨T, y, z, rfl, hT, rfl, hy, hz⟩ := y
      cases hy
      obtain ⟨n, hn, rfl⟩ := nv_get hz
      refine ⟨Same.new hT, T, _, rfl, SqT.of upd_same, rfl, _, _, rfl, _, _, rfl, rfl, rfl, _, rfl, _, rfl, ?_⟩
      have := kd _ (Same.refl _)
      rw [getD_of hn] at this
      exact this
    have nlo := ne_x g5 hlo
    have flo := hid_free s5 hlo nlo
    rw [nv_len, List.take_length] at hD6
    refine ⟨_, rfl, x, _, dx, _, rfl, e6 _ _ g5, cB, t.noat_Block_last_offset, by exact Nat.lt_of_le_of_lt (show _ ≤ 8 from Nat.le_refl _) (by decide), ?_⟩
    generalize hG : upd H6 x _ = G6
    obtain ⟨g6, e56⟩ := hid_st e6 hG
    have fo6 : IsDF (hid x G6) lo 1000 (lastI (ids b.base)) := by
      obtain ⟨kvs, q1, q2, q3⟩ := hD6
      exact ⟨kvs, hid_new hG nlo q1, by omega, q3⟩
    have ft6 := ft5.mono e56
    have fl6 := fl5.mono e56
    have fb6 := fb5.mono e56
    have fi6 := fi5.mono e56
    have s6 := s5.trans e56
    clear hG hD6 e6 e56 fb5 fi5 fl5 ft5 s5 g5 hlo
    -- self.later
    have tl := turn_last (xs := b.base) hV.turn
    refine ⟨_, rfl, x, dx, _, rfl, g6, by kernel_rfl, _, rfl, x, _, dx, _, .ref tu, rfl, g6, cB, t.noat_Block_turned, by kernel_rfl, _, rfl, x, dx, ba, ia, tu, x, dx, lo, _, _, b.base, ids b.base, b.turn, b.base.length, ids b.base, rfl, g6, by kernel_rfl, by kernel_rfl, hid_le _ _ fb6, hid_le _ _ fi6, il, by omega,
      (ft6.mono hid_le).df, g6, by kernel_rfl, by kernel_rfl, fo6.mono hid_le, tl, fun la H7 e7 hla hL7 => ?_⟩
    have nla := ne_x g6 hla
    have fla := hid_free s6 hla nla
    refine ⟨_, rfl, x, _, dx, _, rfl, e7 _ _ g6, cB, t.noat_Block_later, by exact Nat.lt_of_le_of_lt (show _ ≤ 9 from Nat.le_refl _) (by decide), ?_⟩
    generalize hG : upd H7 x _ = G7
    obtain ⟨g7, e67⟩ := hid_st e7 hG
    have fr7 : IsL (hid x G7) la (ext b.base (ids b.base) b.turn b.base.length (ids b.base)) := hid_new hG nla hL7
    have fo7 := fo6.mono e67
    have ft7 := ft6.mono e67
    have fl7 := fl6.mono e67
    have fb7 := fb6.mono e67
    have fi7 := fi6.mono e67
    have s7 := s6.trans e67
    clear hG hL7 e7 e67 fb6 fi6 fl6 ft6 fo6 s6 g6 hla
    -- self.first
    have fba : H ba = none := hb0
    have fia : H ia = none := hi00
    dsimp only
    unfold sFld
    refine val2 (fun v H' => ∃ fi, v = .ref fi ∧ H fi = none ∧ fi ≠ x ∧ IsL H' fi (mkBO b beg prev).first) (fun Q q => ?_) fun v H8 e8 ⟨fi, hv, f1, nfi, f2⟩ => ?_
    · cases prev with
      | none =>
        obtain rfl := hP
        refine ⟨_, rfl, rfl, _, rfl, iteT ⟨_, rfl, x, _, dx, _, .ref ba, rfl, g7, cB, t.noat_Block_base, by kernel_rfl, q _ _ (Same.refl _) ⟨ba, rfl, fba, nb, hid_le _ _ fb7⟩⟩⟩
      | some P =>
        obtain ⟨p, rfl, hPo, hlast⟩ := hP
        obtain ⟨dxp, pb, pi, pli, ptu, plo, pla, pfi, p0, p1, p2, p3, p4, p5, p6, p7⟩ := hPo.mono (s7.trans hid_le)
        refine ⟨_, rfl, rfl, _, rfl, iteF ⟨_, rfl, x, dx, _, rfl, g7, by kernel_rfl, _, rfl, x, _, dx, _, .ref li, rfl, g7, cB, t.noat_Block_linked, by kernel_rfl, _, rfl, x, dx, ba, ia, li, p, dxp, plo, _, _, b.base, ids b.base, b.link, P.size, P.ids, rfl, g7, by kernel_rfl, by kernel_rfl, hid_le _ _ fb7, hid_le _ _ fi7, il, by omega,
          (fl7.mono hid_le).df, p0, bfs_size, bfs_last, p5, hlast, fun fi H8 e8 hfi hL8 => ?_⟩⟩
        exact q _ _ e8 ⟨fi, rfl, hid_free s7 hfi (ne_x g7 hfi), ne_x g7 hfi, hL8⟩
    subst hv
    refine ⟨_, rfl, x, _, dx, _, rfl, e8 _ _ g7, cB, t.noat_Block_first, by exact Nat.lt_of_le_of_lt (show _ ≤ 10 from Nat.le_refl _) (by decide), ?_⟩
    generalize hG : upd H8 x _ = G8
    obtain ⟨g8, e78⟩ := hid_st e8 hG
    have ff8 : IsL (hid x G8) fi (mkBO b beg prev).first := hid_new hG nfi f2
    refine k G8 (sb_of (s7.trans e78)) fun H2 hh => ⟨dx, ba, ia, li, tu, lo, la, fi, hh _ _ (.inr rfl) g8, hh _ _ (.inl fba) (hid_le _ _ (fb7.mono e78)), hh _ _ (.inl fia) (hid_le _ _ (fi7.mono e78)), ⟨hh _ _ (.inl fli) (hid_le _ _ (fl7.mono e78).1), fl7.2⟩,
      ⟨hh _ _ (.inl ftu) (hid_le _ _ (ft7.mono e78).1), ft7.2⟩, ?_, hh _ _ (.inl fla) (hid_le _ _ (fr7.mono e78)), hh _ _ (.inl f1) (hid_le _ _ ff8)⟩
    obtain ⟨kvs, q1, q2, q3⟩ := fo7.mono e78
    exact ⟨kvs, hh _ _ (.inl flo) (hid_le _ _ q1), q2, q3⟩
def sp_block_zeros_before (K : PySem.W.Frag) : Sp := fun vs H Q _ => ∃ (a : Addr) (B : BO) (p : Nat), vs = [.ref a, vn p] ∧ IsBO (He.ga K "Block") H a B ∧ OkB B ∧ RetV (vn (B.zb p)) H Q
theorem sc_block_zeros_before : FnScope ["self", "position", "repetition", "offset", "found"] ["self", "position"] (defScope s_block_zeros_before) := C8.fnScope_by (by decide +kernel)
theorem me_block_zeros_before {P : Program} {w : World} {K : PySem.W.Frag} {mg : Str → Option Value} {base : Heap} (t : Tx K mg) : C8.Met P w K mg base 2 (He.ga K "Block") "zeros_before" (sp_block_zeros_before K) [] := by
  obtain ⟨fd, F⟩ := t.f_block_zeros_before
  have nd := sc_block_zeros_before.nd
  refine ⟨_, fd, ["self", "position"], [], t.cls_Block, t.meth_block_zeros_before, F.ok sc_block_zeros_before (fun vs H Q E h => ?_) (fun cdv A outer s H vs Q E hr h => ?_), F.bindsN (fun _ _ _ _ _ _ us hl => match us, hl with | [_, _], _ => rfl), .nil⟩
  · obtain ⟨a, B, p, rfl, hB, hO, k⟩ := h
    rfl
  · obtain ⟨a, B, p, rfl, hB, hO, k⟩ := h
    have hu := hu_of hr
    refine ⟨_, PSs.nox (pss_cons (ps_asg (C8.pe_mt (me_block_locate t) hr (by decide) (pv 0) (pa_cons (pe_callB (call_min2 rfl) (by rfl) t.free_min (by decide +kernel) (pa_cons (pe_callB (call_max2 rfl) (by rfl) t.free_max (by decide +kernel) (pa_cons (pv 1) (pa_cons (pe_fld (pv 0) rfl) pa_nil))) (pa_cons (pe_fld (pv 0) rfl) pa_nil))) pa_nil)) (pg_tup rfl (pgs_cons (pg_name (i := 2) nd rfl (Or.inl rfl)) (pgs_cons (pg_name (i := 3) nd rfl (Or.inl rfl)) pgs_nil))))
        (pss_cons (ps_if (pt_cmpR op_eq (pv 2) pe_int (nomark _)) (pss_one (ps_ret (pe_bm PySem.F.plainAttrs_list PySem.F.slot_list_count PySem.F.type_list_count mt_lcount (pe_slice sl_list (pe_fld (pv 0) rfl) po_none (po_some (pv 3))) (pa_cons pe_int pa_nil)))) pss_nil)
        (pss_cons (ps_set (i := 4) nd rfl (Or.inl rfl) (pe_op op_add (pe_bm PySem.F.plainAttrs_list PySem.F.slot_list_count PySem.F.type_list_count mt_lcount (pe_fld (pv 0) rfl) (pa_cons pe_int pa_nil)) (pe_op op_mul (pe_op op_subN (pv 2) pe_int) (pe_bm PySem.F.plainAttrs_list PySem.F.slot_list_count PySem.F.type_list_count mt_lcount (pe_fld (pv 0) rfl) (pa_cons pe_int pa_nil)))))
        (pss_one (ps_ret (pe_op op_add (pv 4) (pe_bm PySem.F.plainAttrs_list PySem.F.slot_list_count PySem.F.type_list_count mt_lcount (pe_slice sl_list (pe_fld (pv 0) rfl) po_none (po_some (pv 3))) (pa_cons pe_int pa_nil)))))))), ?_⟩
    obtain ⟨dx, b, i, li, tu, lo, la, fi, h0, h1, h2, h3, h4, h5, h6, h7⟩ := id hB
    have hs := hO.pos
    have hm := hO.most
    have hge : B.beg ≤ min (max p B.beg) B.fin := by
      have := hO.fin_gt
      omega
    refine ⟨_, rfl, a, dx, _, rfl, h0, bfs_locate, _, rfl, _, rfl, a, _, dx, _, vn B.beg, rfl, h0, t.cls_Block, t.noat_Block_begin, bfs_begin, _, _, rfl, _, rfl, a, _, dx, _, vn B.fin, rfl, h0, t.cls_Block, t.noat_Block_end, bfs_end, _, _, rfl,
      a, B, min (max p B.beg) B.fin, by rw [int_max, int_min]; rfl, hB, hge, hs, by omega, fun v H1 e1 ⟨T, hv, hT⟩ => ?_⟩
    refine ⟨T, _, hv, SqT.of hT, rfl, _, _, rfl, _, _, rfl, rfl, ?_⟩
    unfold BO.zb at k
    have c0 : ∀ xs : List Nat, (xs.map fun n : Nat => (n : Int)).count 0 = xs.count 0 := fun xs => count_int xs 0
    have hc : B.later.count 0 ≤ B.later.length := List.count_le_length
    have hla := hO.la
    refine ⟨_, rfl, rfl, _, rfl, if_eq (b := 0) (fun h => ?_) (fun h => ?_)⟩
    · rw [if_pos h] at k
      refine ⟨_, rfl, a, _, dx, _, .ref fi, rfl, e1 _ _ h0, t.cls_Block, t.noat_Block_first, bfs_first, _, rfl, _, rfl, fi, _, rfl, sl (e1 _ _ h7), fun q hq => ⟨.inl ⟨rfl, _, sl upd_same⟩, q, _, 0, rfl, rfl, by rw [cut_to, nv_take, nv_map_int]; exact sl upd_same, ?_⟩⟩
      show Q (V.int ((_ : Nat) : Int)) _
      rw [c0]
      exact k.go (e1.trans (Same.new hq))
    · rw [if_neg h] at k
      refine ⟨_, rfl, a, _, dx, _, .ref fi, rfl, e1 _ _ h0, t.cls_Block, t.noat_Block_first, bfs_first, .inl ⟨rfl, _, sl (e1 _ _ h7)⟩, fi, _, 0, rfl, rfl, by rw [← nv_map_int]; exact sl (e1 _ _ h7), _, rfl, _, 1, rfl, rfl, Nat.pos_of_ne_zero h, _, rfl, a, _, dx, _, .ref la, rfl, e1 _ _ h0, t.cls_Block, t.noat_Block_later, bfs_later, .inl ⟨rfl, _, sl (e1 _ _ h6)⟩,
        la, _, 0, rfl, rfl, by rw [← nv_map_int]; exact sl (e1 _ _ h6), _, _, rfl, rfl, .inr ?_, _, _, rfl, rfl, ?_⟩
      · rw [c0]
        exact ⟨by omega, by omega⟩
      refine ⟨_, rfl, _, rfl, a, _, dx, _, .ref la, rfl, e1 _ _ h0, t.cls_Block, t.noat_Block_later, bfs_later, _, rfl, _, rfl, la, _, rfl, sl (e1 _ _ h6), fun q hq => ⟨.inl ⟨rfl, _, sl upd_same⟩, q, _, 0, rfl, rfl, by rw [cut_to, nv_take, nv_map_int]; exact sl upd_same, _, _, rfl, rfl, ?_⟩⟩
      show Q (V.int (((_ : Nat) : Int) + ((_ : Nat) : Int) * ((_ : Nat) : Int) + ((_ : Nat) : Int))) _
      rw [c0, c0, c0]
      exact k.go (e1.trans (Same.new hq))
def sp_block_nth_zero (K : PySem.W.Frag) : Sp := fun vs H Q _ => ∃ (a : Addr) (B : BO) (n : Nat), vs = [.ref a, vn n] ∧ IsBO (He.ga K "Block") H a B ∧ OkB B ∧ (n < (zs B.first).length ∨ 0 < (zs B.later).length) ∧ RetV (vn (B.nthZ n)) H Q
theorem sc_block_nth_zero : FnScope ["self", "number", "first", "later", "repetition", "rest", "offset", "distance"] ["self", "number"] (defScope s_block_nth_zero) := C8.fnScope_by (by decide +kernel)
theorem me_block_nth_zero {P : Program} {w : World} {K : PySem.W.Frag} {mg : Str → Option Value} {base : Heap} (t : Tx K mg) : C8.Met P w K mg base 1 (He.ga K "Block") "nth_zero" (sp_block_nth_zero K) [] := by
  obtain ⟨fd, F⟩ := t.f_block_nth_zero
  have nd := sc_block_nth_zero.nd
  refine ⟨_, fd, ["self", "number"], [], t.cls_Block, t.meth_block_nth_zero, F.ok sc_block_nth_zero (fun vs H Q E h => ?_) (fun cdv A outer s H vs Q E hr h => ?_), F.bindsN (fun _ _ _ _ _ _ us hl => match us, hl with | [_, _], _ => rfl), .nil⟩
  · obtain ⟨a, B, n, rfl, hB, hO, hn, k⟩ := h
    rfl
  · obtain ⟨a, B, n, rfl, hB, hO, hn, k⟩ := h
    have hu := hu_of hr
    refine ⟨_, PSs.nox (pss_cons (ps_setLc (i := 2) (own := [("offset", 6), ("distance", 7)]) (g := (gTup K 2 (gCons (gName 6) (gCons (gName 7) gNil)))) (tt := (tTest (tOp rEq (tVar 7) (tC (.int 0))))) (te := (tVar 6)) rfl nd rfl rfl (sw_true rfl rfl rfl (by decide +kernel)) (pi_enum (by rfl) t.free_enumerate (pa_cons (pe_fld (pv 0) rfl) pa_nil)) (blkOk_by (by kernel_rfl)) (fun _ _ _ _ _ => (pg_tup rfl (pgs_cons (pg_name (i := 6) nd rfl (Or.inl rfl)) (pgs_cons (pg_name (i := 7) nd rfl (Or.inl rfl)) pgs_nil)))) (fun _ _ _ _ _ => (pts_one (pt_cmpR op_eq (pv 7) pe_int (nomark _)))) (fun _ _ _ _ _ => (pv 6)))
        (pss_cons (ps_if (pt_cmpR op_lt (pv 1) (pe_callB call_len_seq (by rfl) t.free_len (by decide +kernel) (pa_cons (pv 2) pa_nil)) (nomark _)) (pss_one (ps_ret (pe_op op_add (pe_fld (pv 0) rfl) (pe_ix ix_list (pv 2) (pv 1) (fun _ _ => rfl))))) pss_nil)
        (pss_cons (ps_setLc (i := 3) (own := [("offset", 6), ("distance", 7)]) (g := (gTup K 2 (gCons (gName 6) (gCons (gName 7) gNil)))) (tt := (tTest (tOp rEq (tVar 7) (tC (.int 0))))) (te := (tVar 6)) rfl nd rfl rfl (sw_true rfl rfl rfl (by decide +kernel)) (pi_enum (by rfl) t.free_enumerate (pa_cons (pe_fld (pv 0) rfl) pa_nil)) (blkOk_by (by kernel_rfl)) (fun _ _ _ _ _ => (pg_tup rfl (pgs_cons (pg_name (i := 6) nd rfl (Or.inl rfl)) (pgs_cons (pg_name (i := 7) nd rfl (Or.inl rfl)) pgs_nil)))) (fun _ _ _ _ _ => (pts_one (pt_cmpR op_eq (pv 7) pe_int (nomark _)))) (fun _ _ _ _ _ => (pv 6)))
        (pss_cons (ps_asg (pe_callB call_divmod (by rfl) t.free_divmod (by decide +kernel) (pa_cons (pe_op op_subN (pv 1) (pe_callB call_len_seq (by rfl) t.free_len (by decide +kernel) (pa_cons (pv 2) pa_nil))) (pa_cons (pe_callB call_len_seq (by rfl) t.free_len (by decide +kernel) (pa_cons (pv 3) pa_nil)) pa_nil))) (pg_tup rfl (pgs_cons (pg_name (i := 4) nd rfl (Or.inl rfl)) (pgs_cons (pg_name (i := 5) nd rfl (Or.inl rfl)) pgs_nil))))
        (pss_one (ps_ret (pe_op op_add (pe_op op_add (pe_fld (pv 0) rfl) (pe_op op_mul (pe_op op_add (pv 4) pe_int) (pe_fld (pv 0) rfl))) (pe_ix ix_list (pv 3) (pv 5) (fun _ _ => rfl))))))))), ?_⟩
    obtain ⟨dx, b, i, li, tu, lo, la, fi, h0, h1, h2, h3, h4, h5, h6, h7⟩ := id hB
    have hs := hO.pos
    have hm := hO.most
    have hla := hO.la
    have hfi := hO.fi
    have z1 := zs_len_le B.first
    have z2 := zs_len_le B.later
    refine ⟨_, rfl, a, _, dx, _, .ref fi, rfl, h0, t.cls_Block, t.noat_Block_first, bfs_first, fi, _, rfl, sl h7, fun D hD => ?_⟩
    refine lc_val walk_enum (fun i => (if B.first.getD i 0 = 0 then some i else none : Option Nat).map vn) (by rw [nv_len]; omega) hD (fun H' e => sl (e _ _ h7)) (fun i x H2 H3 Ky Kn hi e y ky kn => ?_) fun H2 e2 hl' => ?_
    · obtain ⟨T, y, z, rfl, hT, rfl, hy, hz⟩ := y
      cases hy
      obtain ⟨m, hm, rfl⟩ := nv_get hz
      have hg := getD_of hm
      refine ⟨Same.new hT, T, _, rfl, SqT.of upd_same, rfl, _, _, rfl, _, _, rfl, rfl, rfl, _, rfl, rfl, _, rfl, if_eq (b := 0) (fun h => ?_) (fun h => ?_)⟩
      · exact ⟨_, rfl, ky _ (Same.refl _) _ (by rw [hg, if_pos h]; rfl)⟩
      · exact kn _ (Same.refl _) (by rw [hg, if_neg h]; rfl)
    rw [fm_nv, nv_len] at hl'
    have hF : IsL H2 D (zs B.first) := hl'
    unfold BO.nthZ at k
    refine ⟨_, rfl, _, rfl, D, _, rfl, .inl (sl hF), _, _, rfl, rfl, _, rfl, if_dec (fun h => ?_) (fun h => ?_)⟩
    · rw [nv_len] at h
      have h : n < (zs B.first).length := by omega
      rw [if_pos h] at k
      exact ⟨_, rfl, a, _, dx, _, vn B.beg, rfl, e2 _ _ h0, t.cls_Block, t.noat_Block_begin, bfs_begin, _, rfl, _, rfl, D, _, _, _, rfl, rfl, sl hF, nv_ix h, _, _, rfl, rfl, k.go e2⟩
    rw [nv_len] at h
    have h : ¬ n < (zs B.first).length := by omega
    rw [if_neg h] at k
    have h0' : 0 < (zs B.later).length := hn.resolve_left h
    refine ⟨_, rfl, a, _, dx, _, .ref la, rfl, e2 _ _ h0, t.cls_Block, t.noat_Block_later, bfs_later, la, _, rfl, sl (e2 _ _ h6), fun D2 hD2 => ?_⟩
    refine lc_val walk_enum (fun i => (if B.later.getD i 0 = 0 then some i else none : Option Nat).map vn) (by rw [nv_len]; omega) hD2 (fun H' e => sl (e _ _ (e2 _ _ h6))) (fun i x H3 H4 Ky Kn hi e y ky kn => ?_) fun H3 e3 hl3 => ?_
    · obtain ⟨T, y, z, rfl, hT, rfl, hy, hz⟩ := y
      cases hy
      obtain ⟨m, hm, rfl⟩ := nv_get hz
      have hg := getD_of hm
      refine ⟨Same.new hT, T, _, rfl, SqT.of upd_same, rfl, _, _, rfl, _, _, rfl, rfl, rfl, _, rfl, rfl, _, rfl, if_eq (b := 0) (fun h => ?_) (fun h => ?_)⟩
      · exact ⟨_, rfl, ky _ (Same.refl _) _ (by rw [hg, if_pos h]; rfl)⟩
      · exact kn _ (Same.refl _) (by rw [hg, if_neg h]; rfl)
    rw [fm_nv, nv_len] at hl3
    have hL : IsL H3 D2 (zs B.later) := hl3
    have hF3 := hF.mono e3
    have e23 := e2.trans e3
    have hmod : (n - (zs B.first).length) % (zs B.later).length < (zs B.later).length := Nat.mod_lt _ h0'
    refine ⟨_, rfl, _, rfl, D, _, rfl, .inl (sl hF3), n, (zs B.first).length, rfl, by rw [nv_len], by omega, _, rfl, D2, _, rfl, .inl (sl hL), _, ((zs B.later).length : Int), by rw [nv_len], ⟨by omega, by omega⟩, fun q hq => ?_⟩
    have e4 := Same.new (o := .tup [.int (((n - (zs B.first).length : Nat) : Int) / ((zs B.later).length : Int)), .int (((n - (zs B.first).length : Nat) : Int) % ((zs B.later).length : Int))]) hq
    refine ⟨q, _, rfl, SqT.of upd_same, rfl, _, _, rfl, _, _, rfl, rfl, ?_⟩
    have e5 := e23.trans e4
    refine ⟨_, rfl, a, _, dx, _, vn B.beg, rfl, e5 _ _ h0, t.cls_Block, t.noat_Block_begin, bfs_begin, _, rfl, _, _, rfl, rfl, _, rfl, a, _, dx, _, vn B.size, rfl, e5 _ _ h0, t.cls_Block, t.noat_Block_size, bfs_size, _, _, rfl, rfl, .inr ⟨by omega, by omega⟩, _, _, rfl, rfl,
      _, rfl, _, rfl, D2, _, _, _, rfl, rfl, sl (hL.mono e4), nv_ix hmod, _, _, rfl, rfl, k.go e5⟩
def sp_is_block : Sp := fun vs H Q _ => ∃ (v : V) (b : Blk) (p : Nat), vs = [v, vn p] ∧ RB b H v ∧ ValidB b p ∧ RetV (.bl true) H Q
theorem sc_is_block : FnScope ["value", "previous_symbols", "symbols"] ["value", "previous_symbols"] (defScope s_is_block) := C8.fnScope_by (by decide +kernel)
theorem c_is_block {P : Program} {w : World} {K : PySem.W.Frag} {mg : Str → Option Value} {base : Heap} (t : Tx K mg) : C8.Cal P w K mg base 4 "is_block" sp_is_block [] := by
  obtain ⟨fd, F⟩ := t.f_is_block
  have nd := sc_is_block.nd
  refine ⟨_, fd, ["value", "previous_symbols"], [], F.ok sc_is_block (fun vs H Q E h => ?_) (fun cdv A outer s H vs Q E hr h => ?_), t.glo_is_block, F.kp, F.bindsN (fun _ _ _ _ _ _ us hl => match us, hl with | [_, _], _ => rfl), .nil⟩
  · obtain ⟨v, b, p, rfl, hR, hv, k⟩ := h
    rfl
  · obtain ⟨v, b, p, rfl, hR, hv, k⟩ := h
    have hu := hu_of hr
    refine ⟨_, PSs.nox (pss_cons (ps_if (PW.pt (pw_or (pt_not (pt_val (C8.pe_c (c_is_sequence t) hr (by decide) rfl (pa_cons (pv 0) pa_nil)))) (pw_or (pt_cmpR op_ne (pe_callB call_len_seq (by rfl) t.free_len (by decide +kernel) (pa_cons (pv 0) pa_nil)) (C8.pe_gc rfl t.k_BLOCK_FIELDS) (nomark _)) (pw_or1 (pt_not (pt_val (C8.pe_c (c_is_distances t) hr (by decide) rfl (pa_cons (pe_ix ix_tup (pv 0) pe_int (fun _ _ => rfl)) pa_nil)))))))) (pss_one (ps_ret pe_bl)) pss_nil)
        (pss_cons (ps_if (pt_not (pt_chain op_le op_le pe_int (pe_callB call_len_seq (by rfl) t.free_len (by decide +kernel) (pa_cons (pe_ix ix_tup (pv 0) pe_int (fun _ _ => rfl)) pa_nil)) (C8.pe_gc rfl t.k_MOST_BLOCK_LENGTH))) (pss_one (ps_ret pe_bl)) pss_nil)
        (pss_cons (ps_set (i := 2) nd rfl (Or.inl rfl) (pe_bm PySem.F.plainAttrs_list PySem.F.slot_list_count PySem.F.type_list_count mt_lcount (pe_callTy call_list_of (by rfl) t.free_list (by decide +kernel) (pa_cons (pe_ix ix_tup (pv 0) pe_int (fun _ _ => rfl)) pa_nil)) (pa_cons pe_int pa_nil)))
        (pss_cons (ps_if (PW.pt (pw_or (pt_not (pt_val (C8.pe_c (c_is_mapping t) hr (by decide) rfl (pa_cons (pe_ix ix_tup (pv 0) pe_int (fun _ _ => rfl)) (pa_cons (pv 2) (pa_cons (pv 1) pa_nil)))))) (pw_or1 (pt_not (pt_val (C8.pe_c (c_is_mapping t) hr (by decide) rfl (pa_cons (pe_ix ix_tup (pv 0) pe_int (fun _ _ => rfl)) (pa_cons (pv 2) (pa_cons (pv 2) pa_nil))))))))) (pss_one (ps_ret pe_bl)) pss_nil)
        (pss_one (ps_ret (C8.pe_c (c_is_integer3 t) hr (by decide) rfl (pa_cons (pe_ix ix_tup (pv 0) pe_int (fun _ _ => rfl)) (pa_cons pe_int (pa_cons (C8.pe_gc rfl t.k_MOST_REPETITIONS) pa_nil)))))))))), ?_⟩
    obtain ⟨tb, d, l, u, rfl, hT, hD, hLk, hTn⟩ := hR
    have c0 : ∀ xs : List Nat, (xs.map fun n : Nat => (n : Int)).count 0 = xs.count 0 := fun xs => count_int xs 0
    have nzle := nz_le b.base
    have most := hv.most
    have pos := hv.pos
    have lenl := hv.link.len
    have lent := hv.turn.len
    refine ⟨_, rfl, _, rfl, ⟨tb, _, rfl, .inr hT⟩, fun H1 e1 => ⟨_, rfl, iteF ?_⟩⟩
    refine ⟨_, rfl, tb, _, rfl, .inr (SqT.of (e1 _ _ hT)), rfl, _, rfl, iteF ?_⟩
    refine ⟨_, rfl, tb, _, 0, .ref d, rfl, rfl, SqT.of (e1 _ _ hT), rfl, d, b.base, rfl, hD.mono e1, hv.base, by omega, fun H2 e2 => ⟨_, rfl, iteF ?_⟩⟩
    have e12 := e1.trans e2
    refine ⟨_, rfl, tb, _, 0, .ref d, rfl, rfl, SqT.of (e12 _ _ hT), rfl, d, _, rfl, .inl (sl (e12 _ _ hD)), _, _, rfl, rfl, _, rfl, if_dec (fun _ => ?_) (fun h => absurd ?_ h)⟩
    rotate_left
    · rw [nv_len]
      omega
    refine ⟨_, _, rfl, rfl, _, rfl, ?_⟩
    rw [nv_len]
    rw [decide_eq_true (show ((b.base.length : Nat) : Int) ≤ 40 by omega)]
    refine iteF ?_
    refine ⟨_, rfl, tb, _, 0, .ref d, rfl, rfl, SqT.of (e12 _ _ hT), rfl, d, _, rfl, .inl (sl (e12 _ _ hD)), fun q hq => ?_⟩
    refine ⟨.inl ⟨rfl, _, sl upd_same⟩, q, _, 0, rfl, rfl, by rw [nv_map_int]; exact sl upd_same, ?_⟩
    have e3 := Same.new (o := .lst (nv b.base)) hq
    have e13 := e12.trans e3
    rw [c0]
    refine ⟨_, rfl, tb, _, 1, .ref l, rfl, rfl, SqT.of (e13 _ _ hT), rfl, _, rfl, _, rfl, l, b.link, nz b.base, p, rfl, hLk.mono e13, hv.link, by omega, fun H4 e4 => ⟨_, rfl, iteF ?_⟩⟩
    have e14 := e13.trans e4
    refine ⟨_, rfl, tb, _, 2, .ref u, rfl, rfl, SqT.of (e14 _ _ hT), rfl, _, rfl, _, rfl, u, b.turn, nz b.base, nz b.base, rfl, hTn.mono e14, hv.turn, by omega, fun H5 e5 => ⟨_, rfl, iteF ?_⟩⟩
    have e15 := e14.trans e5
    refine ⟨_, rfl, tb, _, 3, vn b.cnt, rfl, rfl, SqT.of (e15 _ _ hT), rfl, b.cnt, 1, .int (10 ^ 30), true, rfl, .inr ⟨_, rfl⟩, ?_, fun H6 e6 => k.go (e15.trans e6)⟩
    have h1 := hv.one
    have h2 := hv.many
    rw [decide_eq_true (show (1 : Int) ≤ (b.cnt : Int) by omega)]
    exact decide_eq_true (show (b.cnt : Int) ≤ 10 ^ 30 by omega)
def sp_is_compressed : Sp := fun vs H Q _ => ∃ (a : Addr) (s : List Blk), vs = [.ref a] ∧ IsS H a s ∧ ValidS s 0 ∧ 1 ≤ s.length ∧ s.length ≤ 8 ∧ RetV (.bl true) H Q
theorem sc_is_compressed : FnScope ["value", "symbols", "block"] ["value"] (defScope s_is_compressed) := C8.fnScope_by (by decide +kernel)
theorem c_is_compressed {P : Program} {w : World} {K : PySem.W.Frag} {mg : Str → Option Value} {base : Heap} (t : Tx K mg) : C8.Cal P w K mg base 5 "is_compressed" sp_is_compressed [] := by
  obtain ⟨fd, F⟩ := t.f_is_compressed
  have nd := sc_is_compressed.nd
  refine ⟨_, fd, ["value"], [], F.ok sc_is_compressed (fun vs H Q E h => ?_) (fun cdv A outer s H vs Q E hr h => ?_), t.glo_is_compressed, F.kp, F.bindsN (fun _ _ _ _ _ _ us hl => match us, hl with | [_], _ => rfl), .nil⟩
  · obtain ⟨a, s', rfl, ⟨us, hU, hlen, hR⟩, hv, h1, h8, k⟩ := h
    rfl
  · obtain ⟨a, s', rfl, ⟨us, hU, hlen, hR⟩, hv, h1, h8, k⟩ := h
    have hu := hu_of hr
    refine ⟨_, PSs.nox (pss_cons (ps_if (PW.pt (pw_or (pt_not (pt_val (C8.pe_c (c_is_sequence t) hr (by decide) rfl (pa_cons (pv 0) pa_nil)))) (pw_or1 (pt_not (pt_chain op_le op_le pe_int (pe_callB call_len_seq (by rfl) t.free_len (by decide +kernel) (pa_cons (pv 0) pa_nil)) (C8.pe_gc rfl t.k_MOST_BLOCKS)))))) (pss_one (ps_ret pe_bl)) pss_nil)
        (pss_cons (ps_set (i := 1) nd rfl (Or.inl rfl) pe_int)
        (pss_cons (ps_for PassesOwn.never rfl (pi_list (pv 0)) (pg_name (i := 2) nd rfl (Or.inl rfl)) (pss_cons (ps_if (pt_not (pt_val (C8.pe_c (c_is_block t) hr (by decide) rfl (pa_cons (pv 2) (pa_cons (pv 1) pa_nil))))) (pss_one (ps_ret pe_bl)) pss_nil)
        (pss_one (ps_set (i := 1) nd rfl (Or.inl rfl) (pe_bm PySem.F.plainAttrs_list PySem.F.slot_list_count PySem.F.type_list_count mt_lcount (pe_callTy call_list_of (by rfl) t.free_list (by decide +kernel) (pa_cons (pe_ix ix_tup (pv 2) pe_int (fun _ _ => rfl)) pa_nil)) (pa_cons pe_int pa_nil))))))
        (pss_one (ps_ret pe_bl))))), ?_⟩
    have c0 : ∀ xs : List Nat, (xs.map fun n : Nat => (n : Int)).count 0 = xs.count 0 := fun xs => count_int xs 0
    refine ⟨_, rfl, _, rfl, ⟨a, _, rfl, .inl hU⟩, fun H1 e1 => ⟨_, rfl, iteF ?_⟩⟩
    refine ⟨_, rfl, a, _, rfl, .inl (sl (e1 _ _ hU)), _, _, rfl, rfl, _, rfl, if_dec (fun _ => ?_) (fun h => absurd ?_ h)⟩
    rotate_left
    · rw [hlen]
      omega
    refine ⟨_, _, rfl, rfl, _, rfl, ?_⟩
    rw [hlen]
    rw [decide_eq_true (show ((s'.length : Nat) : Int) ≤ 8 by omega)]
    refine iteF ?_
    refine ⟨_, rfl, a, rfl, ⟨_, sl (e1 _ _ hU)⟩, for_it walk_list (fun i σ H' => ∃ (v2 : Option V), σ = [some (.ref a), some (vn (prevZ (s'.take i) 0)), v2] ∧ Same H H') ⟨none, rfl, e1⟩ (fun i σ H' _ ⟨_, _, e⟩ => sl (e _ _ hU)) ?_ ?_⟩
    · rintro i x σ H2 H3 hi ⟨v2, rfl, e⟩ ⟨rfl, hx⟩
      have hi2 : i < s'.length := by omega
      have hb := List.getElem?_eq_getElem hi2
      obtain ⟨tb, d, l, u, rfl, hT, hD, hLk, hTn⟩ := hR i s'[i] x hb hx
      have hV := validS_take hv hb
      refine ⟨_, rfl, _, rfl, _, s'[i], _, rfl, ⟨tb, d, l, u, rfl, e _ _ hT, hD.mono e, hLk.mono e, hTn.mono e⟩, hV, fun H3 e3 => ⟨_, rfl, iteF ?_⟩⟩
      have e' := e.trans e3
      refine ⟨_, rfl, tb, _, 0, .ref d, rfl, rfl, SqT.of (e' _ _ hT), rfl, d, _, rfl, .inl (sl (e' _ _ hD)), fun q hq => ?_⟩
      refine ⟨.inl ⟨rfl, _, sl upd_same⟩, q, _, 0, rfl, rfl, by rw [nv_map_int]; exact sl upd_same, ?_⟩
      refine ⟨some (.ref tb), ?_, e'.trans (Same.new hq)⟩
      rw [c0, take_snoc hb]
      unfold prevZ
      rw [List.getLast?_concat]
      rfl
    · rintro σ H2 ⟨v2, rfl, e⟩
      exact k.go e
/-- a list of blocks, its items, and where p lies -/
def BAt (C : Addr) (H : Hp) (a : Addr) (us : List V) (bs : List BO) (p i : Nat) (v : V) (B : BO) : Prop := H a = some (.lst us) ∧ us.length = bs.length ∧ bs.length ≤ 1000 ∧ (∀ (i : Nat) x v, bs[i]? = some x → us[i]? = some v → RBO C x H v) ∧
  (∀ (j : Nat) B', bs[j]? = some B' → (B'.beg ≤ p ∧ p < B'.fin ↔ j = i)) ∧ us[i]? = some v ∧ bs[i]? = some B
def sp_block_at (K : PySem.W.Frag) : Sp := fun vs H Q _ => ∃ (a : Addr) (us : List V) (bs : List BO) (p i : Nat) (v : V) (B : BO), vs = [.ref a, vn p] ∧ BAt (He.ga K "Block") H a us bs p i v B ∧ RetV v H Q
theorem sc_block_at : FnScope ["blocks", "position", "block"] ["blocks", "position"] (defScope s_block_at) := C8.fnScope_by (by decide +kernel)
theorem c_block_at {P : Program} {w : World} {K : PySem.W.Frag} {mg : Str → Option Value} {base : Heap} (t : Tx K mg) : C8.Cal P w K mg base 1 "block_at" (sp_block_at K) [] := by
  obtain ⟨fd, F⟩ := t.f_block_at
  have nd := sc_block_at.nd
  refine ⟨_, fd, ["blocks", "position"], [], F.ok sc_block_at (fun vs H Q E h => ?_) (fun cdv A outer s H vs Q E hr h => ?_), t.glo_block_at, F.kp, F.bindsN (fun _ _ _ _ _ _ us hl => match us, hl with | [_, _], _ => rfl), .nil⟩
  · obtain ⟨a, us, bs, p, i, v, B, rfl, ⟨hU, hlen, h1000, hR, huni, hvi, hBi⟩, k⟩ := h
    rfl
  · obtain ⟨a, us, bs, p, i, v, B, rfl, ⟨hU, hlen, h1000, hR, huni, hvi, hBi⟩, k⟩ := h
    have hu := hu_of hr
    refine ⟨_, PSs.nox (pss_one (ps_ret (pe_ix ix_list (pe_lc (own := [("block", 2)]) (g := (gName 2)) (tt := (tTest (tChain (rI0 fun i j => .bl (decide (i ≤ j))) (rI0 fun i j => .bl (decide (i < j))) (tFld K (tVar 2) "begin") (tVar 1) (tFld K (tVar 2) "end")))) (te := (tVar 2)) rfl nd  (pi_list (pv 0)) (blkOk_by (by kernel_rfl)) (fun _ _ _ _ _ => (pg_name (i := 2) nd rfl (Or.inl rfl))) (fun _ _ _ _ _ => (pts_one (pt_chain op_le op_lt (pe_fld (pv 2) rfl) (pv 1) (pe_fld (pv 2) rfl)))) (fun _ _ _ _ _ => (pv 2))) pe_int (fun _ _ => rfl)))), ?_⟩
    refine ⟨_, rfl, a, rfl, ⟨_, sl hU⟩, fun D hD => ?_⟩
    refine lc_val walk_list (fun j => if j = i then us[j]? else none) (by omega) hD (fun H' e => sl (e _ _ hU)) (fun j x H2 H3 Ky Kn hj e y ky kn => ?_) fun H2 e2 hl' => ?_
    · obtain ⟨rfl, hx⟩ := y
      have hj2 : j < bs.length := by omega
      have hb := List.getElem?_eq_getElem hj2
      obtain ⟨ba, rfl, hBO⟩ := hR j bs[j] x hb hx
      obtain ⟨dx, b, i', li, tu, lo, la, fi, h0, -⟩ := hBO
      have q := huni j bs[j] hb
      refine ⟨Same.refl _, rfl, _, rfl, ba, _, dx, _, vn _, rfl, e _ _ h0, t.cls_Block, t.noat_Block_begin, bfs_begin, _, rfl, _, _, rfl, rfl, _, rfl, if_dec (fun h => ?_) (fun h => ?_)⟩
      · refine ⟨_, rfl, ba, _, dx, _, vn _, rfl, e _ _ h0, t.cls_Block, t.noat_Block_end, bfs_end, _, _, rfl, rfl, _, rfl, if_dec (fun h' => ?_) (fun h' => ?_)⟩
        · exact ⟨_, rfl, ky _ (Same.refl _) _ (by rw [if_pos (q.mp ⟨by omega, by omega⟩)]; exact hx)⟩
        · refine kn _ (Same.refl _) (if_neg fun z => ?_)
          have := q.mpr z
          omega
      · refine ⟨_, rfl, iteF (kn _ (Same.refl _) (if_neg fun z => ?_))⟩
        have := q.mpr z
        omega
    have hi : i < us.length := (List.getElem?_eq_some_iff.mp hvi).1
    have key : ∀ n, i < n → n ≤ us.length → (List.range n).filterMap (fun j => if j = i then us[j]? else none) = [v] := by
      have z : ∀ n, n ≤ i → (List.range n).filterMap (fun j => if j = i then us[j]? else none) = [] := by
        intro n
        induction n with
        | zero => intro _; rfl
        | succ n ih => intro h; rw [fm_snoc, ih (by omega), if_neg (by omega)]; rfl
      intro n
      induction n with
      | zero => intro h; omega
      | succ n ih =>
        intro h1 h2
        rw [fm_snoc]
        by_cases e : n = i
        · subst e
          rw [z n (Nat.le_refl _), if_pos rfl, hvi]
          rfl
        · rw [ih (by omega) (by omega), if_neg e]
          rfl
    rw [key _ hi (Nat.le_refl _)] at hl'
    exact ⟨D, _, 0, v, rfl, rfl, sl hl', rfl, k.go e2⟩
theorem BAt.of {C : Addr} {H : Hp} {a : Addr} {us : List V} {bs : List BO} (hU : H a = some (.lst us)) (hlen : us.length = bs.length) (h8 : bs.length ≤ 1000) (hR : ∀ (i : Nat) x v, bs[i]? = some x → us[i]? = some v → RBO C x H v) (hc : ChB bs 0) {p : Nat} (hp : p < tot bs) :
    ∃ i v B ba, BAt C H a us bs p i v B ∧ v = .ref ba ∧ IsBO C H ba B ∧ OkB B ∧ B.beg ≤ p ∧ dAt bs p = B.dist p := by
  rw [tot_next] at hp
  obtain ⟨i, B, q1, q2, q3, q4, q5⟩ := at_chB bs 0 hc p (Nat.zero_le _) hp
  have hi : i < us.length := by
    rw [hlen]
    exact (List.getElem?_eq_some_iff.mp q1).1
  have hv := List.getElem?_eq_getElem hi
  obtain ⟨ba, r1, r2⟩ := hR i B us[i] q1 hv
  exact ⟨i, us[i], B, ba, ⟨hU, hlen, h8, hR, q5, hv, q1⟩, r1, r2, chB_get hc q1, q2, q4⟩
def sp_window_in (K : PySem.W.Frag) : Sp := fun vs H Q _ => ∃ (a : Addr) (bs : List BO) (p n : Nat), vs = [.ref a, vn p, vn n] ∧ IsBs (He.ga K "Block") H a bs ∧ bs.length ≤ 1000 ∧ ChB bs 0 ∧ p + n ≤ tot bs ∧ n ≤ 400 ∧ RetL (win (dAt bs) p n) H Q
theorem sc_window_in : FnScope ["blocks", "start", "length", "found", "offset", "distance"] ["blocks", "start", "length"] (defScope s_window_in) := C8.fnScope_by (by decide +kernel)
theorem c_window_in {P : Program} {w : World} {K : PySem.W.Frag} {mg : Str → Option Value} {base : Heap} (t : Tx K mg) : C8.Cal P w K mg base 3 "window_in" (sp_window_in K) [] := by
  obtain ⟨fd, F⟩ := t.f_window_in
  have nd := sc_window_in.nd
  refine ⟨_, fd, ["blocks", "start", "length"], [], F.ok sc_window_in (fun vs H Q E h => ?_) (fun cdv A outer s H vs Q E hr h => ?_), t.glo_window_in, F.kp, F.bindsN (fun _ _ _ _ _ _ us hl => match us, hl with | [_, _, _], _ => rfl), .nil⟩
  · obtain ⟨a, bs, p, n, rfl, ⟨us, hU, hlen, hR⟩, h8, hc, hp, hn, k⟩ := h
    rfl
  · obtain ⟨a, bs, p, n, rfl, ⟨us, hU, hlen, hR⟩, h8, hc, hp, hn, k⟩ := h
    have hu := hu_of hr
    refine ⟨_, PSs.nox (pss_cons (ps_set (i := 3) nd rfl (Or.inl rfl) (pe_lst pa_nil))
        (pss_cons (ps_for PassesOwn.never rfl (pi_range1 (by rfl) t.free_range (pa_cons (pv 2) pa_nil)) (pg_name (i := 4) nd rfl (Or.inl rfl)) (pss_cons (ps_set (i := 5) nd rfl (Or.inl rfl) (C8.pe_mt (me_block_distance_of t) hr (by decide) (C8.pe_c (c_block_at t) hr (by decide) rfl (pa_cons (pv 0) (pa_cons (pe_op op_add (pv 1) (pv 4)) pa_nil))) (pa_cons (pe_op op_add (pv 1) (pv 4)) pa_nil)))
        (pss_one (ps_expr (pe_bm PySem.F.plainAttrs_list PySem.F.slot_list_append PySem.F.type_list_append mt_append (pv 3) (pa_cons (pe_ifExp (pt_cmpR op_le (pv 5) (pv 4) (nomark _)) (pv 5) pe_int) pa_nil))))))
        (pss_one (ps_ret (pv 3))))), ?_⟩
    refine ⟨Nat.zero_le _, fun l hl0 => ?_⟩
    refine ⟨_, rfl, _, rfl, by omega, by omega, ?_⟩
    have en : ((n : Int)).toNat = n := by omega
    rw [en]
    refine for_it walk_rangeN (fun i σ H' => ∃ (v4 v5 : Option V), σ = [some (.ref a), some (vn p), some (vn n), some (.ref l), v4, v5] ∧ Same H H' ∧ IsL H' l ((win (dAt bs) p n).take i)) ⟨none, none, rfl, Same.new hl0, upd_same⟩ (fun _ _ _ _ _ => True.intro) ?_ ?_
    · rintro i x σ H2 H3 hi ⟨v4, v5, rfl, e, h1⟩ ⟨rfl, rfl⟩
      obtain ⟨j, v, B, ba, hat, rfl, hBO, hO, hbeg, hd⟩ := BAt.of (p := p + i) hU hlen h8 hR hc (by omega)
      have hpos := hO.pos
      have hmost := hO.most
      have hat' : BAt (He.ga K "Block") H3 a us bs (p + i) j (.ref ba) B := by
        obtain ⟨x1, x2, x3, x4, x5⟩ := hat
        exact ⟨e _ _ x1, x2, x3, fun i x v a b => (x4 i x v a b).mono e, x5⟩
      refine ⟨_, rfl, _, rfl, _, rfl, _, _, rfl, rfl, a, us, bs, p + i, j, .ref ba, B, rfl, hat', fun H4 e4 => ?_⟩
      have eH := e.trans e4
      obtain ⟨dx, b, i', li, tu, lo, la, fi, h0, -⟩ := id hBO
      refine ⟨ba, dx, _, rfl, eH _ _ h0, bfs_distance_of, _, rfl, _, rfl, _, _, rfl, rfl, ba, B, p + i, rfl, hBO.mono eH, hbeg, hpos, by omega, hO.la, hO.fi, fun H5 e5 => ?_⟩
      have h5 := h1.mono (e4.trans e5)
      have hg : (win (dAt bs) p n)[i]? = some (if dAt bs (p + i) ≤ i then dAt bs (p + i) else 0) := by
        unfold win
        rw [List.getElem?_map, List.getElem?_range hi]
        rfl
      have wl : (win (dAt bs) p n).length = n := by
        unfold win
        rw [List.length_map, List.length_range]
      refine ⟨_, rfl, .inl ⟨rfl, _, sl h5⟩, ?_⟩
      refine val1 (vn (if dAt bs (p + i) ≤ i then dAt bs (p + i) else 0)) (fun Q q => ?_) ⟨l, _, _, rfl, rfl, h5, ?_, ?_⟩
      · rw [hd] at q
        refine ⟨_, rfl, _, rfl, _, _, rfl, rfl, _, rfl, if_dec (fun h => ?_) (fun h => ?_)⟩
        · rw [if_pos (by omega)] at q
          exact ⟨_, rfl, q⟩
        · rw [if_neg (by omega)] at q
          exact q
      · rw [nv_len, List.length_take]
        exact Nat.lt_of_le_of_lt (Nat.min_le_left ..) (Nat.lt_of_lt_of_le hi (Nat.le_trans hn (by decide)))
      · refine ⟨some (vn i), some (vn (B.dist (p + i))), rfl, Same.mut (eH.trans e5) hl0, ?_⟩
        show upd _ l _ l = _
        rw [upd_same, nv_snoc, take_snoc hg]
    · rintro σ H2 ⟨v4, v5, rfl, e, h1⟩
      have wl : (win (dAt bs) p n).length = n := by
        unfold win
        rw [List.length_map, List.length_range]
      rw [List.take_of_length_le (by omega)] at h1
      exact ⟨_, rfl, k l H2 e hl0 h1⟩
end HB
namespace HB
open PySem PySem.Spec PyProof.Rows L2
/-- a new list of blocks -/
def RetBs (C : Addr) (bs : List BO) (H : Hp) (Q : VK) : Prop := ∀ p H', Same H H' → H p = none → IsBs C H' p bs → Q (.ref p) H'
theorem made_same {H H2 : Hp} {x dx C : Addr} {fs : List (Str × V)} (hx : H x = none) (hd : H dx = none) (sb : SameBut x (upd (upd H dx (.own x)) x (.ins C dx fs)) H2) : Same H H2 := fun p o e => by
  refine sb p o (ne_of_none e hx) ?_
  rw [upd_ne (ne_of_none e hx), upd_ne (ne_of_none e hd)]
  exact e
def sp_blocks_of (K : PySem.W.Frag) : Sp := fun vs H Q _ => ∃ (a : Addr) (s : List Blk), vs = [.ref a] ∧ IsS H a s ∧ VS s ∧ RetBs (He.ga K "Block") (boS s) H Q
theorem sc_blocks_of : FnScope ["sequence", "found", "begin", "previous", "block"] ["sequence"] (defScope s_blocks_of) := C8.fnScope_by (by decide +kernel)
theorem c_blocks_of {P : Program} {w : World} {K : PySem.W.Frag} {mg : Str → Option Value} {base : Heap} (t : Tx K mg) : C8.Cal P w K mg base 6 "blocks_of" (sp_blocks_of K) [] := by
  obtain ⟨fd, F⟩ := t.f_blocks_of
  have nd := sc_blocks_of.nd
  refine ⟨_, fd, ["sequence"], [], F.ok sc_blocks_of (fun vs H Q E h => ?_) (fun cdv A outer s H vs Q E hr h => ?_), t.glo_blocks_of, F.kp, F.bindsN (fun _ _ _ _ _ _ us hl => match us, hl with | [_], _ => rfl), .nil⟩
  · obtain ⟨a, s', rfl, hS, hv, k⟩ := h
    rfl
  · obtain ⟨a, s', rfl, hS, hv, k⟩ := h
    have hu := hu_of hr
    refine ⟨_, PSs.nox (pss_cons (ps_if (pt_not (pt_val (C8.pe_c (c_is_compressed t) hr (by decide) rfl (pa_cons (pv 0) pa_nil)))) pss_never pss_nil)
        (pss_cons (ps_set (i := 1) nd rfl (Or.inl rfl) (pe_lst pa_nil))
        (pss_cons (ps_set (i := 2) nd rfl (Or.inl rfl) pe_int)
        (pss_cons (ps_set (i := 3) nd rfl (Or.inl rfl) pe_non)
        (pss_cons (ps_for PassesOwn.never rfl (pi_list (pv 0)) (pg_name (i := 4) nd rfl (Or.inl rfl)) (pss_cons (ps_set (i := 3) nd rfl (Or.inl rfl) (C8.pe_mk (m_Block t) hr (by decide) rfl (pa_cons (pv 4) (pa_cons (pv 2) (pa_cons (pv 3) pa_nil)))))
        (pss_cons (ps_set (i := 2) nd rfl (Or.inl rfl) (pe_fld (pv 3) rfl))
        (pss_one (ps_expr (pe_bm PySem.F.plainAttrs_list PySem.F.slot_list_append PySem.F.type_list_append mt_append (pv 1) (pa_cons (pv 3) pa_nil)))))))
        (pss_one (ps_ret (pv 1)))))))), ?_⟩
    obtain ⟨us, hU, hlen, hR⟩ := id hS
    refine ⟨_, rfl, a, s', rfl, hS, hv.valid, hv.one, hv.few, fun H1 e1 => ⟨_, rfl, iteF ?_⟩⟩
    refine ⟨Nat.zero_le _, fun l hl0 => ?_⟩
    have hl : H l = none := e1.free hl0
    refine ⟨_, rfl, a, rfl, ⟨_, sl ((e1.trans (Same.new hl0)) _ _ hU)⟩, for_it walk_list (fun i σ H' => ∃ (pw : V) (v4 : Option V) (ws : List V), σ = [some (.ref a), some (.ref l), some (vn (nextB (boS (s'.take i)) 0)), some pw, v4] ∧ Same H H' ∧ H' l = some (.lst ws) ∧ ws.length = (boS (s'.take i)).length ∧
      (∀ (j : Nat) (B : BO) (v : V), (boS (s'.take i))[j]? = some B → ws[j]? = some v → RBO (He.ga K "Block") B (hid l H') v) ∧ (match (boS (s'.take i)).getLast? with
        | none => pw = .non
        | some P => ∃ p, pw = .ref p ∧ IsBO (He.ga K "Block") (hid l H') p P))
      ⟨.non, none, [], rfl, e1.trans (Same.new hl0), upd_same, rfl, fun j B v h => by simp [boS, mkBOs] at h, rfl⟩ (fun i σ H' _ ⟨_, _, _, _, e, _⟩ => sl (e _ _ hU)) ?_ ?_⟩
    · rintro i y σ H2 H3 hi ⟨pw, v4, ws, rfl, e, hW, hwl, hWR, hP⟩ ⟨rfl, hx⟩
      have hi2 : i < s'.length := by omega
      have hb := List.getElem?_eq_getElem hi2
      have hRb := hR i s'[i] y hb hx
      have hV := validS_take hv.valid hb
      refine ⟨_, rfl, _, rfl, _, rfl, fun x dx hxn hdn hne => ?_⟩
      have sm := same_made (o := .own x) (o' := .ins (He.ga K "Block") dx []) hxn hdn
      have hlx : l ≠ x := ne_of_none hW hxn
      have hld : l ≠ dx := ne_of_none hW hdn
      refine ⟨x, dx, y, pw, s'[i], nextB (boS (s'.take i)) 0, prevZ (s'.take i) 0, (boS (s'.take i)).getLast?, rfl, upd_same, hRb.mono (e.trans sm), hV, ?_, fun H4 sb hBO => ⟨rfl, ?_⟩⟩
      · rcases last_boS (s'.take i) with ⟨hB, hbl⟩ | ⟨P, c, hB, hbl, p1, p2, p3⟩
        · rw [hB] at hP ⊢
          exact hP
        · rw [hB] at hP ⊢
          obtain ⟨p, rfl, hp⟩ := hP
          refine ⟨p, rfl, hp.mono (hid_le.trans sm), fun s t hst => ?_⟩
          have hz : prevZ (s'.take i) 0 = nz c.base := by
            unfold prevZ
            rw [hbl]
          have hL := hV.link
          rw [hz] at hL
          rw [p2, p3]
          exact turn_last hL s t hst
      have e34 := made_same hxn hdn sb
      have hB4 : IsBO (He.ga K "Block") H4 x (mkBO s'[i] (nextB (boS (s'.take i)) 0) (boS (s'.take i)).getLast?) := hBO H4 fun q o _ h => h
      have hB4' : IsBO (He.ga K "Block") (hid l H4) x (mkBO s'[i] (nextB (boS (s'.take i)) 0) (boS (s'.take i)).getLast?) := hBO (hid l H4) fun q o h h2 => by
        have : q ≠ l := fun z => by
          subst z
          rcases h with h | h
          · rw [upd_ne hlx, upd_ne hld, hW] at h
            cases h
          · exact hlx h
        rw [hid_at this]
        exact h2
      obtain ⟨dx', b, i', li, tu, lo, la, fi, h0, -⟩ := hB4
      refine ⟨_, rfl, x, _, dx', _, vn _, rfl, h0, t.cls_Block, t.noat_Block_end, bfs_end, ?_⟩
      have hW4 := e34 _ _ hW
      refine ⟨_, rfl, .inl ⟨rfl, _, sl hW4⟩, _, rfl, l, _, _, rfl, rfl, hW4, ?_, ?_⟩
      · rw [hwl, boS_len, List.length_take]
        have := hv.few
        exact Nat.lt_of_le_of_lt (show _ ≤ 8 by omega) (by decide)
      refine ⟨.ref x, some y, ws ++ [.ref x], ?_, Same.mut (e.trans e34) hl, upd_same, ?_, fun j B v hj hjv => ?_, ?_⟩
      · rw [boS_take hb]
        show _ = [_, _, some (vn (nextB _ 0)), _, _]
        unfold nextB
        rw [List.getLast?_concat]
        rfl
      · rw [boS_take hb, List.length_append, List.length_append, hwl]
        rfl
      · rw [hid_upd]
        rw [boS_take hb] at hj
        by_cases c : j < ws.length
        · rw [List.getElem?_append_left c] at hjv
          rw [List.getElem?_append_left (by omega)] at hj
          exact (hWR j B v hj hjv).mono (hid_mono e34)
        · rw [List.getElem?_append_right (by omega)] at hjv
          rw [List.getElem?_append_right (by omega)] at hj
          have c2 : j - ws.length = 0 := by
            have := (List.getElem?_eq_some_iff.mp hjv).1
            simp at this
            omega
          rw [c2] at hjv
          rw [← hwl, c2] at hj
          cases hjv
          cases hj
          exact ⟨x, rfl, hB4'⟩
      · rw [boS_take hb, List.getLast?_concat]
        exact ⟨x, rfl, by rw [hid_upd]; exact hB4'⟩
    · rintro σ H2 ⟨pw, v4, ws, rfl, e, hW, hwl, hWR, -⟩
      rw [hlen, List.take_length] at hWR hwl
      exact ⟨_, rfl, k l H2 e hl ⟨ws, hW, hwl, fun j B v h1 h2 => (hWR j B v h1 h2).mono hid_le⟩⟩
theorem last_at {C : Addr} {H : Hp} {us : List V} {bs : List BO} (hlen : us.length = bs.length) (hR : ∀ (i : Nat) x v, bs[i]? = some x → us[i]? = some v → RBO C x H v) (h1 : 1 ≤ bs.length) : ∃ ba B, atI us (-1) = some (.ref ba) ∧ IsBO C H ba B ∧ tot bs = B.fin ∧ bs.getLast? = some B := by
  have g1 : bs[bs.length - 1]? = some (bs[bs.length - 1]'(by omega)) := List.getElem?_eq_getElem (by omega)
  have g2 : us[us.length - 1]? = some (us[us.length - 1]'(by omega)) := List.getElem?_eq_getElem (by omega)
  obtain ⟨ba, r1, r2⟩ := hR (bs.length - 1) _ _ g1 (by rw [← hlen]; exact g2)
  refine ⟨ba, _, ix_last ?_, r2, tot_last ?_, ?_⟩
  · rw [List.getLast?_eq_getElem?, g2, r1]
  · rw [List.getLast?_eq_getElem?, g1]
  · rw [List.getLast?_eq_getElem?, g1]
def sp_total_length : Sp := fun vs H Q _ => ∃ (a : Addr) (s : List Blk), vs = [.ref a] ∧ IsS H a s ∧ VS s ∧ RetV (vn (tot (boS s))) H Q
theorem sc_total_length : FnScope ["sequence"] ["sequence"] (defScope s_total_length) := C8.fnScope_by (by decide +kernel)
theorem c_total_length {P : Program} {w : World} {K : PySem.W.Frag} {mg : Str → Option Value} {base : Heap} (t : Tx K mg) : C8.Cal P w K mg base 7 "total_length" sp_total_length [] := by
  obtain ⟨fd, F⟩ := t.f_total_length
  have nd := sc_total_length.nd
  refine ⟨_, fd, ["sequence"], [], F.ok sc_total_length (fun vs H Q E h => ?_) (fun cdv A outer s H vs Q E hr h => ?_), t.glo_total_length, F.kp, F.bindsN (fun _ _ _ _ _ _ us hl => match us, hl with | [_], _ => rfl), .nil⟩
  · obtain ⟨a, s', rfl, hS, hv, k⟩ := h
    rfl
  · obtain ⟨a, s', rfl, hS, hv, k⟩ := h
    have hu := hu_of hr
    refine ⟨_, PSs.nox (pss_one (ps_ret (pe_fld (pe_ix ix_list (C8.pe_c (c_blocks_of t) hr (by decide) rfl (pa_cons (pv 0) pa_nil)) (pe_un un_neg pe_int) (fun _ _ => rfl)) rfl))), ?_⟩
    refine ⟨_, rfl, a, s', rfl, hS, hv, fun p H1 e1 hp ⟨us, hU, hlen, hR⟩ => ?_⟩
    obtain ⟨ba, B, h1, h2, h3, -⟩ := last_at hlen hR (by rw [boS_len]; exact hv.one)
    obtain ⟨dx, b, i', li, tu, lo, la, fi, h0, -⟩ := id h2
    rw [h3] at k
    exact ⟨_, rfl, p, _, _, _, rfl, rfl, sl hU, h1, ba, _, dx, _, vn B.fin, rfl, h0, t.cls_Block, t.noat_Block_end, bfs_end, k.go e1⟩
def sp_distance_at : Sp := fun vs H Q _ => ∃ (a : Addr) (s : List Blk) (p : Nat), vs = [.ref a, vn p] ∧ IsS H a s ∧ VS s ∧ p < tot (boS s) ∧ RetV (vn (dAt (boS s) p)) H Q
theorem sc_distance_at : FnScope ["sequence", "position", "blocks"] ["sequence", "position"] (defScope s_distance_at) := C8.fnScope_by (by decide +kernel)
theorem c_distance_at {P : Program} {w : World} {K : PySem.W.Frag} {mg : Str → Option Value} {base : Heap} (t : Tx K mg) : C8.Cal P w K mg base 7 "distance_at" sp_distance_at [] := by
  obtain ⟨fd, F⟩ := t.f_distance_at
  have nd := sc_distance_at.nd
  refine ⟨_, fd, ["sequence", "position"], [], F.ok sc_distance_at (fun vs H Q E h => ?_) (fun cdv A outer s H vs Q E hr h => ?_), t.glo_distance_at, F.kp, F.bindsN (fun _ _ _ _ _ _ us hl => match us, hl with | [_, _], _ => rfl), .nil⟩
  · obtain ⟨a, s', p, rfl, hS, hv, hp, k⟩ := h
    rfl
  · obtain ⟨a, s', p, rfl, hS, hv, hp, k⟩ := h
    have hu := hu_of hr
    refine ⟨_, PSs.nox (pss_cons (ps_set (i := 2) nd rfl (Or.inl rfl) (C8.pe_c (c_blocks_of t) hr (by decide) rfl (pa_cons (pv 0) pa_nil)))
        (pss_cons (ps_expr (C8.pe_c (c_check_position t) hr (by decide) rfl (pa_cons (pv 1) (pa_cons (pe_op op_subN (pe_fld (pe_ix ix_list (pv 2) (pe_un un_neg pe_int) (fun _ _ => rfl)) rfl) pe_int) pa_nil))))
        (pss_one (ps_ret (C8.pe_mt (me_block_distance_of t) hr (by decide) (C8.pe_c (c_block_at t) hr (by decide) rfl (pa_cons (pv 2) (pa_cons (pv 1) pa_nil))) (pa_cons (pv 1) pa_nil)))))), ?_⟩
    refine ⟨_, rfl, a, s', rfl, hS, hv, fun l H1 e1 hl ⟨us, hU, hlen, hR⟩ => ?_⟩
    have hl8 : (boS s').length ≤ 1000 := by rw [boS_len]; have := hv.few; omega
    obtain ⟨ba, B, h1, h2, h3, -⟩ := last_at hlen hR (by rw [boS_len]; exact hv.one)
    obtain ⟨dx, b, i', li, tu, lo, la, fi, h0, -⟩ := id h2
    rw [h3] at hp
    refine ⟨_, rfl, _, rfl, _, rfl, l, _, _, _, rfl, rfl, sl hU, h1, ba, _, dx, _, vn B.fin, rfl, h0, t.cls_Block, t.noat_Block_end, bfs_end, B.fin, 1, rfl, rfl, by omega, p, B.fin - 1, rfl, by omega, fun H2 e2 => ?_⟩
    obtain ⟨j, v, B', ba', hat, rfl, hBO, hO, hbeg, hd⟩ := BAt.of (p := p) hU hlen hl8 hR (chB_boS hv.valid) (by rw [h3]; exact hp)
    have hat' : BAt (He.ga K "Block") H2 l us (boS s') p j (.ref ba') B' := by
      obtain ⟨x1, x2, x3, x4, x5⟩ := hat
      exact ⟨e2 _ _ x1, x2, x3, fun i x v a b => (x4 i x v a b).mono e2, x5⟩
    have hpos := hO.pos
    have hmost := hO.most
    refine ⟨_, rfl, _, rfl, l, us, boS s', p, j, .ref ba', B', rfl, hat', fun H3 e3 => ?_⟩
    have hB3 := hBO.mono (e2.trans e3)
    obtain ⟨dx, b, i', li, tu, lo, la, fi, h0', -⟩ := id hB3
    rw [hd] at k
    exact ⟨ba', dx, _, rfl, h0', bfs_distance_of, _, rfl, ba', B', p, rfl, hB3, hbeg, hpos, by omega, hO.la, hO.fi, fun H4 e4 => k.go (((e1.trans e2).trans e3).trans e4)⟩
def sp_window_at : Sp := fun vs H Q _ => ∃ (a : Addr) (s : List Blk) (p n : Nat), vs = [.ref a, vn p, vn n] ∧ IsS H a s ∧ VS s ∧ p + n ≤ tot (boS s) ∧ n ≤ 400 ∧ RetL (win (dAt (boS s)) p n) H Q
theorem sc_window_at : FnScope ["sequence", "start", "length", "blocks"] ["sequence", "start", "length"] (defScope s_window_at) := C8.fnScope_by (by decide +kernel)
theorem c_window_at {P : Program} {w : World} {K : PySem.W.Frag} {mg : Str → Option Value} {base : Heap} (t : Tx K mg) : C8.Cal P w K mg base 7 "window_at" sp_window_at [] := by
  obtain ⟨fd, F⟩ := t.f_window_at
  have nd := sc_window_at.nd
  refine ⟨_, fd, ["sequence", "start", "length"], [], F.ok sc_window_at (fun vs H Q E h => ?_) (fun cdv A outer s H vs Q E hr h => ?_), t.glo_window_at, F.kp, F.bindsN (fun _ _ _ _ _ _ us hl => match us, hl with | [_, _, _], _ => rfl), .nil⟩
  · obtain ⟨a, s', p, n, rfl, hS, hv, hp, hn, k⟩ := h
    rfl
  · obtain ⟨a, s', p, n, rfl, hS, hv, hp, hn, k⟩ := h
    have hu := hu_of hr
    refine ⟨_, PSs.nox (pss_cons (ps_set (i := 3) nd rfl (Or.inl rfl) (C8.pe_c (c_blocks_of t) hr (by decide) rfl (pa_cons (pv 0) pa_nil)))
        (pss_cons (ps_expr (C8.pe_c (c_check_position t) hr (by decide) rfl (pa_cons (pv 1) (pa_cons (pe_fld (pe_ix ix_list (pv 3) (pe_un un_neg pe_int) (fun _ _ => rfl)) rfl) pa_nil))))
        (pss_cons (ps_if (pt_not (pt_val (C8.pe_c (c_is_integer3 t) hr (by decide) rfl (pa_cons (pv 2) (pa_cons pe_int (pa_cons (pe_op op_subN (pe_fld (pe_ix ix_list (pv 3) (pe_un un_neg pe_int) (fun _ _ => rfl)) rfl) (pv 1)) pa_nil)))))) pss_never pss_nil)
        (pss_cons (ps_if (pt_cmpR op_gt (pv 2) (C8.pe_gc rfl t.k_MOST_WINDOW) (nomark _)) pss_never pss_nil)
        (pss_one (ps_ret (C8.pe_c (c_window_in t) hr (by decide) rfl (pa_cons (pv 3) (pa_cons (pv 1) (pa_cons (pv 2) pa_nil)))))))))), ?_⟩
    refine ⟨_, rfl, a, s', rfl, hS, hv, fun l H1 e1 hl ⟨us, hU, hlen, hR⟩ => ?_⟩
    have hl8 : (boS s').length ≤ 1000 := by rw [boS_len]; have := hv.few; omega
    obtain ⟨ba, B, h1, h2, h3, -⟩ := last_at hlen hR (by rw [boS_len]; exact hv.one)
    obtain ⟨dx, b, i', li, tu, lo, la, fi, h0, -⟩ := id h2
    refine ⟨_, rfl, _, rfl, _, rfl, l, _, _, _, rfl, rfl, sl hU, h1, ba, _, dx, _, vn B.fin, rfl, h0, t.cls_Block, t.noat_Block_end, bfs_end, p, B.fin, rfl, by omega, fun H2 e2 => ?_⟩
    refine ⟨_, rfl, _, rfl, _, rfl, l, _, _, _, rfl, rfl, sl (e2 _ _ hU), h1, ba, _, dx, _, vn B.fin, rfl, e2 _ _ h0, t.cls_Block, t.noat_Block_end, bfs_end, _, rfl, B.fin, p, rfl, rfl, by omega, n, 0, vn (B.fin - p), true, rfl, .inr ⟨_, rfl⟩, ?_, fun H3 e3 => ⟨_, rfl, iteF ?_⟩⟩
    · rw [decide_eq_true (by omega)]
      exact decide_eq_true (show (n : Int) ≤ ((B.fin - p : Nat) : Int) by omega)
    refine ⟨_, rfl, _, _, rfl, rfl, _, rfl, if_dec (fun h => absurd h (by omega)) (fun _ => ?_)⟩
    have e23 := e2.trans e3
    exact ⟨_, rfl, _, rfl, _, rfl, l, boS s', p, n, rfl, ⟨us, e23 _ _ hU, hlen, fun i x v a b => (hR i x v a b).mono e23⟩, hl8, chB_boS hv.valid, hp, hn, fun q H4 e4 hq hL => k q H4 ((e1.trans e23).trans e4) ((e1.trans e23).free hq) hL⟩
def sp_new_before : Sp := fun vs H Q _ => ∃ (a : Addr) (s : List Blk) (p : Nat), vs = [.ref a, vn p] ∧ IsS H a s ∧ VS s ∧ p ≤ tot (boS s) ∧ RetV (vn ((boS s).map fun B => B.zb p).sum) H Q
theorem sc_new_before : FnScope ["sequence", "position", "blocks", "block"] ["sequence", "position"] (defScope s_new_before) := C8.fnScope_by (by decide +kernel)
theorem c_new_before {P : Program} {w : World} {K : PySem.W.Frag} {mg : Str → Option Value} {base : Heap} (t : Tx K mg) : C8.Cal P w K mg base 7 "new_before" sp_new_before [] := by
  obtain ⟨fd, F⟩ := t.f_new_before
  have nd := sc_new_before.nd
  refine ⟨_, fd, ["sequence", "position"], [], F.ok sc_new_before (fun vs H Q E h => ?_) (fun cdv A outer s H vs Q E hr h => ?_), t.glo_new_before, F.kp, F.bindsN (fun _ _ _ _ _ _ us hl => match us, hl with | [_, _], _ => rfl), .nil⟩
  · obtain ⟨a, s', p, rfl, hS, hv, hp, k⟩ := h
    rfl
  · obtain ⟨a, s', p, rfl, hS, hv, hp, k⟩ := h
    have hu := hu_of hr
    refine ⟨_, PSs.nox (pss_cons (ps_set (i := 2) nd rfl (Or.inl rfl) (C8.pe_c (c_blocks_of t) hr (by decide) rfl (pa_cons (pv 0) pa_nil)))
        (pss_cons (ps_expr (C8.pe_c (c_check_position t) hr (by decide) rfl (pa_cons (pv 1) (pa_cons (pe_fld (pe_ix ix_list (pv 2) (pe_un un_neg pe_int) (fun _ _ => rfl)) rfl) pa_nil))))
        (pss_one (ps_ret (pe_callB (cr_sum rfl) (by rfl) t.free_sum (by decide +kernel) (pa_cons (pe_lc (own := [("block", 3)]) (g := (gName 3)) (tt := tYes) (te := (tMeth (He.ga K "Block") "zeros_before" (sp_block_zeros_before K) [] E0 (tVar 3) (tCons (tVar 1) tNil))) rfl nd  (pi_list (pv 2)) (blkOk_by (by kernel_rfl)) (fun _ _ _ _ _ => (pg_name (i := 3) nd rfl (Or.inl rfl))) (fun _ _ _ _ _ => pts_nil) (fun _ _ _ _ _ => (C8.pe_mt (me_block_zeros_before t) hr (by decide) (pv 3) (pa_cons (pv 1) pa_nil)))) pa_nil)))))), ?_⟩
    refine ⟨_, rfl, a, s', rfl, hS, hv, fun l H1 e1 hl ⟨us, hU, hlen, hR⟩ => ?_⟩
    have hl8 : (boS s').length ≤ 1000 := by rw [boS_len]; have := hv.few; omega
    obtain ⟨ba, B, h1, h2, h3, -⟩ := last_at hlen hR (by rw [boS_len]; exact hv.one)
    obtain ⟨dx, b, i', li, tu, lo, la, fi, h0, -⟩ := id h2
    refine ⟨_, rfl, _, rfl, _, rfl, l, _, _, _, rfl, rfl, sl hU, h1, ba, _, dx, _, vn B.fin, rfl, h0, t.cls_Block, t.noat_Block_end, bfs_end, p, B.fin, rfl, by omega, fun H2 e2 => ?_⟩
    refine ⟨_, rfl, l, rfl, ⟨_, sl (e2 _ _ hU)⟩, fun D hD => ?_⟩
    refine lc_val walk_list (fun i => ((boS s')[i]?).map fun B => vn (B.zb p)) (by omega) hD (fun H' e => sl (e _ _ (e2 _ _ hU))) (fun i x H3 H4 Ky Kn hi e y ky kn => ?_) fun H3 e3 hl3 => ?_
    · obtain ⟨rfl, hx⟩ := y
      have hi2 : i < (boS s').length := by omega
      have hb := List.getElem?_eq_getElem hi2
      obtain ⟨ba', rfl, hBO⟩ := hR i _ x hb hx
      have hB3 := hBO.mono (e2.trans e)
      obtain ⟨dx, b, i', li, tu, lo, la, fi, h0', -⟩ := id hB3
      exact ⟨Same.refl _, rfl, _, rfl, ba', dx, _, rfl, h0', bfs_zeros_before, _, rfl, ba', _, p, rfl, hB3, chB_get (chB_boS hv.valid) hb, fun H5 e5 => ky _ e5 _ (by rw [hb]; rfl)⟩
    rw [hlen, fm_get] at hl3
    have key : ((boS s').map fun B => vn (B.zb p)) = (((boS s').map fun B => B.zb p).map fun n : Nat => (n : Int)).map V.int := by
      rw [List.map_map, List.map_map]
      rfl
    rw [key] at hl3
    refine ⟨D, _, rfl, sl hl3, ?_⟩
    have sum : ∀ xs : List Nat, (xs.map fun n : Nat => (n : Int)).sum = ((xs.sum : Nat) : Int) := by
      intro xs
      induction xs with
      | nil => rfl
      | cons x r ih => rw [List.map_cons, List.sum_cons, List.sum_cons, ih]; rfl
    rw [sum]
    exact k.go ((e1.trans e2).trans e3)
/-- a number or None -/
def vo : Option Nat → V
  | some n => vn n
  | none => .non
def sp_nth_new : Sp := fun vs H Q _ => ∃ (a : Addr) (s : List Blk) (n : Nat), vs = [.ref a, vn n] ∧ IsS H a s ∧ VS s ∧ RetV (vo (nthNew (boS s) n)) H Q
theorem sc_nth_new : FnScope ["sequence", "index", "blocks", "block", "here"] ["sequence", "index"] (defScope s_nth_new) := C8.fnScope_by (by decide +kernel)
theorem c_nth_new {P : Program} {w : World} {K : PySem.W.Frag} {mg : Str → Option Value} {base : Heap} (t : Tx K mg) : C8.Cal P w K mg base 7 "nth_new" sp_nth_new [] := by
  obtain ⟨fd, F⟩ := t.f_nth_new
  have nd := sc_nth_new.nd
  refine ⟨_, fd, ["sequence", "index"], [], F.ok sc_nth_new (fun vs H Q E h => ?_) (fun cdv A outer s H vs Q E hr h => ?_), t.glo_nth_new, F.kp, F.bindsN (fun _ _ _ _ _ _ us hl => match us, hl with | [_, _], _ => rfl), .nil⟩
  · obtain ⟨a, s', n, rfl, hS, hv, k⟩ := h
    rfl
  · obtain ⟨a, s', n, rfl, hS, hv, k⟩ := h
    have hu := hu_of hr
    refine ⟨_, PSs.nox (pss_cons (ps_set (i := 2) nd rfl (Or.inl rfl) (C8.pe_c (c_blocks_of t) hr (by decide) rfl (pa_cons (pv 0) pa_nil)))
        (pss_cons (ps_expr (C8.pe_c (c_check_number t) hr (by decide) rfl (pa_cons (pv 1) pa_nil)))
        (pss_cons (ps_for PassesOwn.never rfl (pi_list (pv 2)) (pg_name (i := 3) nd rfl (Or.inl rfl)) (pss_cons (ps_set (i := 4) nd rfl (Or.inl rfl) (C8.pe_mt (me_block_zeros_before t) hr (by decide) (pv 3) (pa_cons (pe_fld (pv 3) rfl) pa_nil)))
        (pss_cons (ps_if (pt_cmpR op_lt (pv 1) (pv 4) (nomark _)) (pss_one (ps_ret (C8.pe_mt (me_block_nth_zero t) hr (by decide) (pv 3) (pa_cons (pv 1) pa_nil)))) pss_nil)
        (pss_one (ps_aug (i := 1) nd rfl (Or.inl rfl) (pv 4) ip_subN)))))
        (pss_one (ps_ret pe_non))))), ?_⟩
    refine ⟨_, rfl, a, s', rfl, hS, hv, fun l H1 e1 hl ⟨us, hU, hlen, hR⟩ => ?_⟩
    refine ⟨_, rfl, n, rfl, fun H2 e2 => ?_⟩
    refine ⟨_, rfl, l, rfl, ⟨_, sl (e2 _ _ hU)⟩, for_it walk_list (fun i σ H' => ∃ (m : Nat) (v3 v4 : Option V), σ = [some (.ref a), some (vn m), some (.ref l), v3, v4] ∧ Same H2 H' ∧ nthNew (boS s') n = nthNew ((boS s').drop i) m)
      ⟨n, none, none, rfl, Same.refl _, rfl⟩ (fun i σ H' _ ⟨_, _, _, _, e, _⟩ => sl (e _ _ (e2 _ _ hU))) ?_ ?_⟩
    · rintro i x σ H3 H4 hi ⟨m, v3, v4, rfl, e, hm⟩ ⟨rfl, hx⟩
      have hi2 : i < (boS s').length := by omega
      have hb := List.getElem?_eq_getElem hi2
      obtain ⟨ba', rfl, hBO⟩ := hR i _ x hb hx
      have hO := chB_get (chB_boS hv.valid) hb
      have hB3 := hBO.mono (e2.trans e)
      obtain ⟨dx, b, i', li, tu, lo, la, fi, h0', -⟩ := id hB3
      rw [List.drop_eq_getElem_cons hi2] at hm
      rw [show ∀ (B : BO) (r : List BO) (n : Nat), nthNew (B :: r) n = if n < B.zb B.fin then some (B.nthZ n) else nthNew r (n - B.zb B.fin) from fun _ _ _ => rfl] at hm
      refine ⟨_, rfl, ba', dx, _, rfl, h0', bfs_zeros_before, _, rfl, ba', _, dx, _, vn _, rfl, h0', t.cls_Block, t.noat_Block_end, bfs_end, ba', _, _, rfl, hB3, hO, fun H5 e5 => ?_⟩
      have e25 := (e2.trans e).trans e5
      refine ⟨_, rfl, _, rfl, _, _, rfl, rfl, _, rfl, if_dec (fun h => ?_) (fun h => ?_)⟩
      · rw [if_pos (by omega)] at hm
        refine ⟨_, rfl, ba', dx, _, rfl, e5 _ _ h0', bfs_nth_zero, _, rfl, ba', _, m, rfl, hB3.mono e5, hO, nthZ_ok hO (by omega), fun H6 e6 => ?_⟩
        rw [hm] at k
        exact k.go ((e1.trans e25).trans e6)
      · rw [if_neg (by omega)] at hm
        exact ⟨_, rfl, _, rfl, m, _, rfl, rfl, by omega, m - (boS s')[i].zb (boS s')[i].fin, _, _, rfl, e.trans e5, hm⟩
    · rintro σ H3 ⟨m, v3, v4, rfl, e, hm⟩
      rw [hlen, List.drop_length] at hm
      rw [hm] at k
      exact k.go ((e1.trans e2).trans e)
end HB
namespace HB
open PySem PySem.Spec PyProof.Rows L2
def sp_checked_pattern : Sp := fun vs H Q _ => ∃ a xs, vs = [.ref a] ∧ IsL H a xs ∧ ValidD xs ∧ xs.length < 64 ∧ 1 ≤ xs.length ∧ RetL xs H Q
theorem sc_checked_pattern : FnScope ["pattern", "found"] ["pattern"] (defScope s_checked_pattern) := C8.fnScope_by (by decide +kernel)
theorem c_checked_pattern {P : Program} {w : World} {K : PySem.W.Frag} {mg : Str → Option Value} {base : Heap} (t : Tx K mg) : C8.Cal P w K mg base 4 "checked_pattern" sp_checked_pattern [] := by
  obtain ⟨fd, F⟩ := t.f_checked_pattern
  have nd := sc_checked_pattern.nd
  refine ⟨_, fd, ["pattern"], [], F.ok sc_checked_pattern (fun vs H Q E h => ?_) (fun cdv A outer s H vs Q E hr h => ?_), t.glo_checked_pattern, F.kp, F.bindsN (fun _ _ _ _ _ _ us hl => match us, hl with | [_], _ => rfl), .nil⟩
  · obtain ⟨a, xs, rfl, hL, hv, hl, h1, k⟩ := h
    rfl
  · obtain ⟨a, xs, rfl, hL, hv, hl, h1, k⟩ := h
    have hu := hu_of hr
    refine ⟨_, PSs.nox (pss_cons (ps_set (i := 1) nd rfl (Or.inl rfl) (C8.pe_c (c_checked t) hr (by decide) rfl (pa_cons (pv 0) pa_nil)))
        (pss_cons (ps_if (pt_not (pt_chain op_le op_le pe_int (pe_callB call_len_seq (by rfl) t.free_len (by decide +kernel) (pa_cons (pv 1) pa_nil)) (C8.pe_gc rfl t.k_MOST_PATTERN))) pss_never pss_nil)
        (pss_one (ps_ret (pv 1))))), ?_⟩
    refine ⟨_, rfl, a, xs, rfl, hL, hv, hl, fun q H1 e1 hq hL1 => ?_⟩
    refine ⟨_, rfl, q, _, rfl, .inl (sl hL1), _, _, rfl, rfl, _, rfl, if_dec (fun _ => ?_) (fun h => absurd ?_ h)⟩
    rotate_left
    · rw [nv_len]
      omega
    refine ⟨_, _, rfl, rfl, _, rfl, ?_⟩
    rw [nv_len, decide_eq_true (show ((xs.length : Nat) : Int) ≤ 100 by omega)]
    exact iteF ⟨_, rfl, k q H1 e1 hq hL1⟩
def sp_matches_inside (K : PySem.W.Frag) : Sp := fun vs H Q _ => ∃ (a l : Addr) (B : BO) (pat : List Nat) (o : Nat), vs = [.ref a, .ref l, vn o] ∧ IsBO (He.ga K "Block") H a B ∧ OkB B ∧ IsL H l pat ∧ RetV (.bl (decide (pat = lwin B.later B.size o pat.length))) H Q
theorem sc_matches_inside : FnScope ["block", "pattern", "offset", "step", "wanted", "distance"] ["block", "pattern", "offset"] (defScope s_matches_inside) := C8.fnScope_by (by decide +kernel)
theorem c_matches_inside {P : Program} {w : World} {K : PySem.W.Frag} {mg : Str → Option Value} {base : Heap} (t : Tx K mg) : C8.Cal P w K mg base 1 "matches_inside" (sp_matches_inside K) [] := by
  obtain ⟨fd, F⟩ := t.f_matches_inside
  have nd := sc_matches_inside.nd
  refine ⟨_, fd, ["block", "pattern", "offset"], [], F.ok sc_matches_inside (fun vs H Q E h => ?_) (fun cdv A outer s H vs Q E hr h => ?_), t.glo_matches_inside, F.kp, F.bindsN (fun _ _ _ _ _ _ us hl => match us, hl with | [_, _, _], _ => rfl), .nil⟩
  · obtain ⟨a, l, B, pat, o, rfl, hB, hO, hL, k⟩ := h
    rfl
  · obtain ⟨a, l, B, pat, o, rfl, hB, hO, hL, k⟩ := h
    have hu := hu_of hr
    refine ⟨_, PSs.nox (pss_cons (ps_for PassesOwn.never rfl (pi_enum (by rfl) t.free_enumerate (pa_cons (pv 1) pa_nil)) (pg_tup rfl (pgs_cons (pg_name (i := 3) nd rfl (Or.inl rfl)) (pgs_cons (pg_name (i := 4) nd rfl (Or.inl rfl)) pgs_nil))) (pss_cons (ps_set (i := 5) nd rfl (Or.inl rfl) (pe_ix ix_list (pe_fld (pv 0) rfl) (pe_op op_mod (pe_op op_add (pv 2) (pv 3)) (pe_fld (pv 0) rfl)) (fun _ _ => rfl)))
        (pss_one (ps_if (pt_cmpR op_ne (pv 4) (pe_ifExp (pt_cmpR op_le (pv 5) (pv 3) (nomark _)) (pv 5) pe_int) (nomark _)) (pss_one (ps_ret pe_bl)) pss_nil))))
        (pss_one (ps_ret pe_bl))), ?_⟩
    obtain ⟨dx, b, i', li, tu, lo, la, fi, h0, h1, h2, h3, h4, h5, h6, h7⟩ := id hB
    have hpos := hO.pos
    have hla := hO.la
    refine ⟨_, rfl, l, _, rfl, sl hL, for_it walk_enum (fun i σ H' => ∃ (v3 v4 v5 : Option V), σ = [some (.ref a), some (.ref l), some (vn o), v3, v4, v5] ∧ Same H H' ∧ ∀ (j : Nat), j < i → pat[j]? = (lwin B.later B.size o pat.length)[j]?)
      ⟨none, none, none, rfl, Same.refl _, fun j h => absurd h (Nat.not_lt_zero j)⟩ (fun i σ H' _ ⟨_, _, _, _, e, _⟩ => sl (hL.mono e)) ?_ ?_⟩
    · rintro i x σ H1 H2 hi ⟨v3, v4, v5, rfl, e, hm⟩ ⟨T, y, z, rfl, hT, rfl, hy, hz⟩
      cases hy
      obtain ⟨n, hn, rfl⟩ := nv_get hz
      have hi2 : i < pat.length := (List.getElem?_eq_some_iff.mp hn).1
      have e2 := e.trans (Same.new (o := .tup [.int (i : Nat), vn n]) hT)
      have hmod : (o + i) % B.size < B.later.length := by rw [hla]; exact Nat.mod_lt _ hpos
      have hg := lwin_get (later := B.later) (size := B.size) (o := o) hi2
      refine ⟨T, _, rfl, SqT.of upd_same, rfl, _, _, rfl, _, _, rfl, rfl, ?_⟩
      refine ⟨_, rfl, a, _, dx, _, .ref la, rfl, e2 _ _ h0, t.cls_Block, t.noat_Block_later, bfs_later, _, rfl, _, rfl, _, _, rfl, rfl, _, rfl, a, _, dx, _, vn B.size, rfl, e2 _ _ h0, t.cls_Block, t.noat_Block_size, bfs_size, _, _, rfl, rfl, by omega, la, _, _, vn (B.later.getD ((o + i) % B.size) 0), rfl, rfl, sl (e2 _ _ h6), nv_ix hmod, ?_⟩
      refine ⟨_, rfl, ?_⟩
      refine val1 (vn (if B.later.getD ((o + i) % B.size) 0 ≤ i then B.later.getD ((o + i) % B.size) 0 else 0)) (fun Q q => ?_) ⟨rfl, _, rfl, if_ne (fun h => ?_) (fun h => ?_)⟩
      · refine ⟨_, rfl, _, rfl, _, _, rfl, rfl, _, rfl, if_dec (fun h => ?_) (fun h => ?_)⟩
        · rw [if_pos (by omega)] at q
          exact ⟨_, rfl, q⟩
        · rw [if_neg (by omega)] at q
          exact q
      · have ne : decide (pat = lwin B.later B.size o pat.length) = false := decide_eq_false fun z => h (by
          have := congrArg (fun l => l[i]?) z
          have this : pat[i]? = (lwin B.later B.size o pat.length)[i]? := this
          rw [hn, hg] at this
          exact Option.some.inj this)
        rw [ne] at k
        exact k.go e2
      · refine ⟨some (vn i), some (vn n), some (vn (B.later.getD ((o + i) % B.size) 0)), rfl, e2, fun j hj => ?_⟩
        by_cases c : j < i
        · exact hm j c
        · rw [show j = i by omega, hn, hg, h]
    · rintro σ H1 ⟨v3, v4, v5, rfl, e, hm⟩
      rw [nv_len] at hm
      have eq : decide (pat = lwin B.later B.size o pat.length) = true := decide_eq_true (List.ext_getElem? fun j => by
        by_cases c : j < pat.length
        · exact hm j c
        · rw [List.getElem?_eq_none (by omega), List.getElem?_eq_none (by rw [lwin_len]; omega)])
      rw [eq] at k
      exact k.go e
end HB
namespace HB
open PySem PySem.Spec PyProof.Rows L2
def sp_search_init (K : PySem.W.Frag) : Sp := fun vs H Q _ => ∃ (x dx bl pt : Addr) (bs : List BO) (pat : List Nat), vs = [.ref x, .ref bl, .ref pt] ∧ H x = some (.ins (He.ga K "Search") dx []) ∧ IsBs (He.ga K "Block") (hid x H) bl bs ∧ 1 ≤ bs.length ∧ bs.length ≤ 8 ∧ ChB bs 0 ∧ IsL (hid x H) pt pat ∧ 1 ≤ pat.length ∧ pat.length < 64 ∧
  ∀ H', SameBut x H H' → IsSR (He.ga K "Search") (He.ga K "Block") H' x bs pat → Q .non H'
theorem sc_search_init : FnScope ["self", "blocks", "pattern", "block", "first", "stop", "across", "position", "offset"] ["self", "blocks", "pattern"] (defScope s_search_init) := C8.fnScope_by (by decide +kernel)
theorem m_Search {P : Program} {w : World} {K : PySem.W.Frag} {mg : Str → Option Value} {base : Heap} (t : Tx K mg) : C8.Mak P w K mg base 4 "Search" (He.ga K "Search") (sp_search_init K) [] := by
  obtain ⟨fd, F⟩ := t.f_search_init
  have nd := sc_search_init.nd
  refine ⟨_, fd, ["self", "blocks", "pattern"], [], t.mkr_Search, F.ok sc_search_init (fun vs H Q E h => ?_) (fun cdv A outer s H vs Q E hr h => ?_), t.glo_Search, F.bindsN (fun _ _ _ _ _ _ us hl => match us, hl with | [_, _, _], _ => rfl), .nil⟩
  · obtain ⟨x, dx, bl, pt, bs, pat, rfl, h0, hBs, hb1, hb8, hc, hP, hp1, hp64, k⟩ := h
    rfl
  · obtain ⟨x, dx, bl, pt, bs, pat, rfl, h0, hBs, hb1, hb8, hc, hP, hp1, hp64, k⟩ := h
    have hu := hu_of hr
    have hu64 := hu64_of hr
    refine ⟨_, PSs.nox (pss_cons (ps_fld (pv 0) (pv 1) rfl)
        (pss_cons (ps_fld (pv 0) (pe_callB call_len_seq (by rfl) t.free_len (by decide +kernel) (pa_cons (pv 2) pa_nil)) rfl)
        (pss_cons (ps_fld (pv 0) (pe_lst pa_nil) rfl)
        (pss_cons (ps_fld (pv 0) (pe_lst pa_nil) rfl)
        (pss_one (ps_for PassesOwn.never rfl (pi_list (pv 1)) (pg_name (i := 3) nd rfl (Or.inr rfl)) (pss_cons (ps_expr (pe_bm PySem.F.plainAttrs_list PySem.F.slot_list_append PySem.F.type_list_append mt_append (pe_fld (pv 0) rfl) (pa_cons (pe_lc (own := [("offset", 8)]) (g := (gName 8)) (tt := (tB (tCall (sp_matches_inside K) [] E0 (tCons (tVar 3) (tCons (tVar 2) (tCons (tVar 8) tNil)))))) (te := (tVar 8)) rfl nd  (pi_range1 (by rfl) t.free_range (pa_cons (pe_fld (pv 3) rfl) pa_nil)) (blkOk_by (by kernel_rfl)) (fun _ _ _ _ _ => (pg_name (i := 8) nd rfl (Or.inl rfl))) (fun _ _ _ _ _ => (pts_one (pt_val (C8.pe_c (c_matches_inside t) hr (by decide) rfl (pa_cons (pv 3) (pa_cons (pv 2) (pa_cons (pv 8) pa_nil))))))) (fun _ _ _ _ _ => (pv 8))) pa_nil)))
        (pss_cons (ps_set (i := 4) nd rfl (Or.inl rfl) (pe_callB (call_max2 rfl) (by rfl) t.free_max (by decide +kernel) (pa_cons (pe_fld (pv 3) rfl) (pa_cons (pe_op op_add (pe_op op_sub (pe_fld (pv 3) rfl) (pe_fld (pv 0) rfl)) pe_int) pa_nil))))
        (pss_cons (ps_set (i := 5) nd rfl (Or.inl rfl) (pe_callB (call_min2 rfl) (by rfl) t.free_min (by decide +kernel) (pa_cons (pe_fld (pv 3) rfl) (pa_cons (pe_op op_add (pe_op op_sub (pe_fld (pe_ix ix_list (pv 1) (pe_un un_neg pe_int) (fun _ _ => rfl)) rfl) (pe_fld (pv 0) rfl)) pe_int) pa_nil))))
        (pss_cons (ps_set (i := 6) nd rfl (Or.inl rfl) (pe_lst pa_nil))
        (pss_cons (ps_for PassesOwn.never rfl (pi_range2W (by rfl) t.free_range (pa_cons (pv 4) (pa_cons (pv 5) pa_nil))) (pg_name (i := 7) nd rfl (Or.inl rfl)) (pss_one (ps_if (pt_cmpR (op_eqD hu64) (C8.pe_c (c_window_in t) hr (by decide) rfl (pa_cons (pv 1) (pa_cons (pv 7) (pa_cons (pe_fld (pv 0) rfl) pa_nil)))) (pv 2) (nomark _)) (pss_one (ps_expr (pe_bm PySem.F.plainAttrs_list PySem.F.slot_list_append PySem.F.type_list_append mt_append (pv 6) (pa_cons (pv 7) pa_nil)))) pss_nil)))
        (pss_one (ps_expr (pe_bm PySem.F.plainAttrs_list PySem.F.slot_list_append PySem.F.type_list_append mt_append (pe_fld (pv 0) rfl) (pa_cons (pv 6) pa_nil))))))))))))))), ?_⟩
    obtain ⟨us, hU, hlen, hR⟩ := id hBs
    have cS := t.cls_Search
    obtain ⟨baL, BL, hl1, hl2, hl3, -⟩ := last_at hlen hR hb1
    obtain ⟨dxL, xb, xi, xli, xtu, xlo, xla, xfi, hL0, -⟩ := hl2
    generalize hH0 : hid x H = H0 at *
    have x0 : H0 x = none := by rw [← hH0]; exact hid_self
    have hle : Same H0 H := by rw [← hH0]; exact hid_le
    refine ⟨_, rfl, _, rfl, x, _, dx, [], rfl, h0, cS, t.noat_Search_blocks, by decide, ?_⟩
    have E1 : Same H0 (upd H x (.ins (He.ga K "Search") dx (putF "blocks" (.ref bl) []))) := Same.mut hle x0
    refine ⟨_, rfl, pt, _, rfl, .inl (sl (E1 _ _ hP)), _, rfl, x, _, dx, _, rfl, upd_same, cS, t.noat_Search_size, by exact Nat.lt_of_le_of_lt (show _ ≤ 1 from Nat.le_refl _) (by decide), ?_⟩
    rw [nv_len]
    generalize hG : upd (upd H x _) x _ = G2
    have g2 : G2 x = some (.ins (He.ga K "Search") dx (putF "size" (vn pat.length) (putF "blocks" (.ref bl) []))) := by rw [← hG]; exact upd_same
    have E2 : Same H0 G2 := by rw [← hG]; exact Same.mut E1 x0
    clear hG E1
    refine ⟨Nat.zero_le _, fun ins hins => ?_⟩
    have nx1 := ne_x g2 hins
    have i0 := E2.free hins
    refine ⟨_, rfl, x, _, dx, _, rfl, by rw [upd_ne (Ne.symm nx1)]; exact g2, cS, t.noat_Search_inside, by exact Nat.lt_of_le_of_lt (show _ ≤ 2 from Nat.le_refl _) (by decide), ?_⟩
    generalize hG : upd (upd G2 ins _) x _ = G3
    have g3 : G3 x = some (.ins (He.ga K "Search") dx (putF "inside" (.ref ins) (putF "size" (vn pat.length) (putF "blocks" (.ref bl) [])))) := by rw [← hG]; exact upd_same
    have gi3 : G3 ins = some (.lst []) := by rw [← hG, upd_ne nx1]; exact upd_same
    have E3 : Same H0 G3 := by rw [← hG]; exact Same.mut (Same.mut E2 i0) x0
    clear hG E2 g2 hins
    refine ⟨Nat.zero_le _, fun acr hacr => ?_⟩
    have nx2 := ne_x g3 hacr
    have na := ne_x gi3 hacr
    have a0 := E3.free hacr
    refine ⟨_, rfl, x, _, dx, _, rfl, by rw [upd_ne (Ne.symm nx2)]; exact g3, cS, t.noat_Search_across, by exact Nat.lt_of_le_of_lt (show _ ≤ 3 from Nat.le_refl _) (by decide), ?_⟩
    generalize hG : upd (upd G3 acr _) x _ = G4
    have g4 : G4 x = some (.ins (He.ga K "Search") dx (sfs bl pat.length ins acr)) := by rw [← hG]; exact upd_same
    have gi4 : G4 ins = some (.lst []) := by rw [← hG, upd_ne nx1, upd_ne (Ne.symm na)]; exact gi3
    have ga4 : G4 acr = some (.lst []) := by rw [← hG, upd_ne nx2]; exact upd_same
    have E4 : Same H0 G4 := by rw [← hG]; exact Same.mut (Same.mut E3 a0) x0
    clear hG E3 g3 hacr gi3
    have sm : ∀ n : Nat, n ≤ 100 → n < sizeLine := fun n h => Nat.lt_of_le_of_lt h (by decide)
    refine ⟨_, rfl, bl, rfl, ⟨_, sl (E4 _ _ hU)⟩, for_it walk_list (fun i σ H' => ∃ (v3 v4 v5 v6 v7 v8 : Option V) (w1 w2 : List V), σ = [some (.ref x), some (.ref bl), some (.ref pt), v3, v4, v5, v6, v7, v8] ∧ Same H0 H' ∧ H' x = some (.ins (He.ga K "Search") dx (sfs bl pat.length ins acr)) ∧
      H' ins = some (.lst w1) ∧ H' acr = some (.lst w2) ∧ (w1.length = ((bs.take i).map fun B => insides B pat).length ∧ ∀ (j : Nat) xs v, ((bs.take i).map fun B => insides B pat)[j]? = some xs → w1[j]? = some v → RL xs (hid2 ins acr H') v) ∧
      (w2.length = ((bs.take i).map fun B => across bs B pat).length ∧ ∀ (j : Nat) xs v, ((bs.take i).map fun B => across bs B pat)[j]? = some xs → w2[j]? = some v → RL xs (hid2 ins acr H') v))
      ⟨none, none, none, none, none, none, [], [], rfl, E4, g4, gi4, ga4, ⟨rfl, fun j xs v h => by simp at h⟩, rfl, fun j xs v h => by simp at h⟩ (fun i σ H' _ ⟨_, _, _, _, _, _, _, _, _, e, _⟩ => sl (e _ _ hU)) ?_ ?_⟩
    · rintro i y σ H1 H2 hi ⟨v3, v4, v5, v6, v7, v8, w1, w2, rfl, E, hx, hi1, ha1, ⟨hw1, hW1⟩, hw2, hW2⟩ ⟨rfl, hyi⟩
      have hi2 : i < bs.length := by omega
      have hb := List.getElem?_eq_getElem hi2
      obtain ⟨ba, rfl, hBO⟩ := hR i bs[i] y hb hyi
      have hO := chB_get hc hb
      have hpos := hO.pos
      have hmost := hO.most
      generalize hB : bs[i] = B at *
      obtain ⟨dxb, xb, xi, xli, xtu, xlo, xla, xfi, hb0, -⟩ := id hBO
      have tk1 : ((bs.take (i + 1)).map fun B => insides B pat) = ((bs.take i).map fun B => insides B pat) ++ [insides B pat] := by rw [take_snoc hb, List.map_append]; rfl
      have tk2 : ((bs.take (i + 1)).map fun B => across bs B pat) = ((bs.take i).map fun B => across bs B pat) ++ [across bs B pat] := by rw [take_snoc hb, List.map_append]; rfl
      have l8 : w1.length ≤ 8 := by
        rw [hw1, List.length_map, List.length_take]
        omega
      have l8' : w2.length ≤ 8 := by
        rw [hw2, List.length_map, List.length_take]
        omega
      refine ⟨_, rfl, x, _, dx, _, .ref ins, rfl, hx, cS, t.noat_Search_inside, sfs_inside, .inl ⟨rfl, _, sl hi1⟩, ?_⟩
      refine ⟨_, rfl, ba, _, dxb, _, vn B.size, rfl, E _ _ hb0, t.cls_Block, t.noat_Block_size, bfs_size, _, rfl, by omega, by omega, fun D hD => ?_⟩
      rw [show ((B.size : Nat) : Int).toNat = B.size from rfl]
      refine lc_val walk_rangeN (fun o => (if pat = lwin B.later B.size o pat.length then some o else none : Option Nat).map vn) (by omega) hD (fun _ _ => True.intro) (fun o y H3 H4 Ky Kn ho e y ky kn => ?_) fun H3 e3 hl3 => ?_
      · obtain ⟨rfl, rfl⟩ := y
        have e' := E.trans e
        refine ⟨Same.refl _, rfl, _, rfl, _, rfl, _, rfl, ba, pt, B, pat, o, rfl, hBO.mono e', hO, hP.mono e', fun H5 e5 => ⟨_, rfl, if_dec (fun h => ?_) (fun h => ?_)⟩⟩
        · exact ⟨_, rfl, ky _ e5 _ (by rw [if_pos h]; rfl)⟩
        · exact kn _ e5 (by rw [if_neg h]; rfl)
      rw [fm_nv] at hl3
      have hDi : D ≠ ins := fun z => by rw [z, hi1] at hD; cases hD
      have hDa : D ≠ acr := fun z => by rw [z, ha1] at hD; cases hD
      refine ⟨ins, _, _, rfl, rfl, e3 _ _ hi1, sm _ (by omega), ?_⟩
      have it1 := items_snoc (R := fun xs v => RL xs (hid2 ins acr (upd H3 ins (.lst (w1 ++ [.ref D])))) v) (u := .ref D) (x := insides B pat) hw1 (fun j xs v a b => (hW1 j xs v a b).mono (by rw [hid2_upd1]; exact hid2_mono e3))
        ⟨D, rfl, by
          rw [hid2_upd1]
          show hid2 ins acr H3 D = _
          rw [hid2_at hDi hDa]
          exact hl3⟩
      have it2 : ∀ (j : Nat) xs v, ((bs.take i).map fun B => across bs B pat)[j]? = some xs → w2[j]? = some v → RL xs (hid2 ins acr (upd H3 ins (.lst (w1 ++ [.ref D])))) v := fun j xs v a b => (hW2 j xs v a b).mono (by rw [hid2_upd1]; exact hid2_mono e3)
      rw [← tk1] at it1
      generalize hG : upd H3 ins _ = G5 at it1 it2
      have E5 : Same H0 G5 := by rw [← hG]; exact Same.mut (E.trans e3) i0
      have hx5 : G5 x = some (.ins (He.ga K "Search") dx (sfs bl pat.length ins acr)) := by rw [← hG, upd_ne (Ne.symm nx1)]; exact e3 _ _ hx
      have hi5 : G5 ins = some (.lst (w1 ++ [.ref D])) := by rw [← hG]; exact upd_same
      have ha5 : G5 acr = some (.lst w2) := by rw [← hG, upd_ne na]; exact e3 _ _ ha1
      clear hG hl3 hW1 hW2 e3 hD hi1 ha1 hx E
      -- first, stop
      have hb5 := E5 _ _ hb0
      refine ⟨_, rfl, ba, _, dxb, _, vn B.beg, rfl, hb5, t.cls_Block, t.noat_Block_begin, bfs_begin, _, rfl, ba, _, dxb, _, vn B.fin, rfl, hb5, t.cls_Block, t.noat_Block_end, bfs_end, _, rfl, x, _, dx, _, vn pat.length, rfl, hx5, cS, t.noat_Search_size, sfs_size, _, _, rfl, rfl, _, _, rfl, rfl, _, _, rfl, ?_⟩
      refine ⟨_, rfl, ba, _, dxb, _, vn B.fin, rfl, hb5, t.cls_Block, t.noat_Block_end, bfs_end, _, rfl, _, rfl, bl, _, _, _, rfl, rfl, sl (E5 _ _ hU), hl1, baL, _, dxL, _, vn BL.fin, rfl, E5 _ _ hL0, t.cls_Block, t.noat_Block_end, bfs_end, _, rfl, x, _, dx, _, vn pat.length, rfl, hx5, cS, t.noat_Search_size, sfs_size, _, _, rfl, rfl, _, _, rfl, rfl, _, _, rfl, ?_⟩
      -- across
      refine ⟨Nat.zero_le _, fun l hl => ?_⟩
      have l0 := E5.free hl
      have lx := ne_x hx5 hl
      have li := ne_x hi5 hl
      have la := ne_x ha5 hl
      have eN := hl3
      have eF : (if (B.fin : Int) - (pat.length : Nat) + 1 > (B.beg : Int) then (B.fin : Int) - (pat.length : Nat) + 1 else (B.beg : Int)) = ((max B.beg (B.fin + 1 - pat.length) : Nat) : Int) := by split <;> omega
      have eM : ((if (BL.fin : Int) - (pat.length : Nat) + 1 < (B.fin : Int) then (BL.fin : Int) - (pat.length : Nat) + 1 else (B.fin : Int)) - ((max B.beg (B.fin + 1 - pat.length) : Nat) : Int)).toNat = min B.fin (tot bs + 1 - pat.length) - max B.beg (B.fin + 1 - pat.length) := by
        rw [eN]
        split <;> omega
      refine ⟨_, rfl, _, rfl, ((max B.beg (B.fin + 1 - pat.length) : Nat) : Int), (if (BL.fin : Int) - (pat.length : Nat) + 1 < (B.fin : Int) then (BL.fin : Int) - (pat.length : Nat) + 1 else (B.fin : Int)), by rw [← eF], ?_⟩
      rw [eM]
      have hf : across bs B pat = (List.range (min B.fin (tot bs + 1 - pat.length) - max B.beg (B.fin + 1 - pat.length))).filterMap fun i => if win (dAt bs) (max B.beg (B.fin + 1 - pat.length) + i) pat.length = pat then some (max B.beg (B.fin + 1 - pat.length) + i) else none := rfl
      generalize hF : max B.beg (B.fin + 1 - pat.length) = F at *
      generalize hM : min B.fin (tot bs + 1 - pat.length) - F = M at *
      have hM100 : M ≤ 64 := by omega
      have hMt : ∀ n, n < M → F + n + pat.length ≤ tot bs := fun n h => by omega
      refine for_it walk_range (fun n σ H' => ∃ (v4 v5 v7 v8 : Option V), σ = [some (.ref x), some (.ref bl), some (.ref pt), some (.ref ba), v4, v5, some (.ref l), v7, v8] ∧ Same G5 H' ∧ IsL H' l ((List.range n).filterMap fun i => if win (dAt bs) (F + i) pat.length = pat then some (F + i) else none))
        ⟨_, _, v7, _, rfl, Same.new hl, upd_same⟩ (fun _ _ _ _ _ => True.intro) ?_ ?_
      · rintro n y σ H4 H5 hn ⟨v4, v5, v7, v8, rfl, e, hL⟩ ⟨rfl, rfl⟩
        have E' := E5.trans e
        refine ⟨_, rfl, _, rfl, _, rfl, x, _, dx, _, vn pat.length, rfl, e _ _ hx5, cS, t.noat_Search_size, sfs_size, bl, bs, F + n, pat.length, rfl, hBs.mono E', by omega, hc, hMt n hn, by omega, fun q H6 e6 hq hLq => ?_⟩
        refine ⟨_, rfl, .list (HB.nd (win (dAt bs) (F + n) pat.length)), .list (HB.nd pat), nd_dp hLq, nd_dp (hP.mono (E'.trans e6)), nd_shaped _, nd_shaped _, _, rfl, ?_⟩
        rw [nd_eqv]
        have h6 := hL.mono e6
        refine if_dec (fun h => ?_) (fun h => ?_)
        · refine ⟨_, rfl, .inl ⟨rfl, _, sl h6⟩, _, rfl, l, _, _, rfl, rfl, h6, ?_, _, _, _, _, rfl, Same.mut (e.trans e6) hl, ?_⟩
          · rw [nv_len]
            exact sm _ (Nat.le_trans (fm_len _ n) (by omega))
          · show upd _ l _ l = _
            rw [upd_same, fm_snoc, if_pos h, ← nv_snoc]
            rfl
        · refine ⟨_, _, _, _, rfl, e.trans e6, ?_⟩
          show _ = some (HO.lst (nv _))
          rw [fm_snoc, if_neg h, List.append_nil]
          exact h6
      · rintro σ H4 ⟨v4, v5, v7, v8, rfl, e, hL⟩
        rw [← hf] at hL
        have ha6 := e _ _ ha5
        refine ⟨_, rfl, x, _, dx, _, .ref acr, rfl, e _ _ hx5, cS, t.noat_Search_across, sfs_across, .inl ⟨rfl, _, sl ha6⟩, _, rfl, acr, _, _, rfl, rfl, ha6, sm _ (by omega), ?_⟩
        have jt2 := items_snoc (R := fun xs v => RL xs (hid2 ins acr (upd H4 acr (.lst (w2 ++ [.ref l])))) v) (u := .ref l) (x := across bs B pat) hw2 (fun j xs v a b => (it2 j xs v a b).mono (by rw [hid2_upd2]; exact hid2_mono e))
          ⟨l, rfl, by
            rw [hid2_upd2]
            show hid2 ins acr H4 l = _
            rw [hid2_at li la]
            exact hL⟩
        rw [← tk2] at jt2
        exact ⟨_, _, _, _, _, _, w1 ++ [.ref D], w2 ++ [.ref l], rfl, Same.mut (E5.trans e) a0, by rw [upd_ne (Ne.symm nx2)]; exact e _ _ hx5, by rw [upd_ne (Ne.symm na)]; exact e _ _ hi5, upd_same,
          ⟨it1.1, fun j xs v a b => (it1.2 j xs v a b).mono (by rw [hid2_upd2]; exact hid2_mono e)⟩, jt2⟩
    · rintro σ H1 ⟨v3, v4, v5, v6, v7, v8, w1, w2, rfl, E, hx, hi1, ha1, ⟨hw1, hW1⟩, hw2, hW2⟩
      rw [hlen, List.take_length] at hw1 hW1 hw2 hW2
      refine k H1 (fun p o n q => E p o (by rw [← hH0, hid_at n]; exact q)) ⟨dx, bl, ins, acr, hx, hBs.mono E, ⟨w1, hi1, hw1, fun j xs v a b => (hW1 j xs v a b).mono hid2_le⟩, w2, ha1, hw2, fun j xs v a b => (hW2 j xs v a b).mono hid2_le⟩
def sp_search_inside_before (K : PySem.W.Frag) : Sp := fun vs H Q _ => ∃ (a : Addr) (bs : List BO) (pat : List Nat) (i p : Nat) (B : BO), vs = [.ref a, vn i, vn p] ∧ IsSR (He.ga K "Search") (He.ga K "Block") H a bs pat ∧ bs[i]? = some B ∧ OkB B ∧ RetV (vn (insB B pat p)) H Q
theorem sc_search_inside_before : FnScope ["self", "number", "position", "block", "stop", "repetitions", "rest", "offsets", "offset"] ["self", "number", "position"] (defScope s_search_inside_before) := C8.fnScope_by (by decide +kernel)
theorem me_search_inside_before {P : Program} {w : World} {K : PySem.W.Frag} {mg : Str → Option Value} {base : Heap} (t : Tx K mg) : C8.Met P w K mg base 1 (He.ga K "Search") "inside_before" (sp_search_inside_before K) [] := by
  obtain ⟨fd, F⟩ := t.f_search_inside_before
  have nd := sc_search_inside_before.nd
  refine ⟨_, fd, ["self", "number", "position"], [], t.cls_Search, t.meth_search_inside_before, F.ok sc_search_inside_before (fun vs H Q E h => ?_) (fun cdv A outer s H vs Q E hr h => ?_), F.bindsN (fun _ _ _ _ _ _ us hl => match us, hl with | [_, _, _], _ => rfl), .nil⟩
  · obtain ⟨a, bs, pat, i, p, B, rfl, hSR, hBi, hO, k⟩ := h
    rfl
  · obtain ⟨a, bs, pat, i, p, B, rfl, hSR, hBi, hO, k⟩ := h
    have hu := hu_of hr
    refine ⟨_, PSs.nox (pss_cons (ps_set (i := 3) nd rfl (Or.inl rfl) (pe_ix ix_list (pe_fld (pv 0) rfl) (pv 1) (fun _ _ => rfl)))
        (pss_cons (ps_set (i := 4) nd rfl (Or.inl rfl) (pe_callB (call_min2 rfl) (by rfl) t.free_min (by decide +kernel) (pa_cons (pv 2) (pa_cons (pe_op op_add (pe_op op_sub (pe_fld (pv 3) rfl) (pe_fld (pv 0) rfl)) pe_int) pa_nil))))
        (pss_cons (ps_if (pt_cmpR op_le (pv 4) (pe_fld (pv 3) rfl) (nomark _)) (pss_one (ps_ret pe_int)) pss_nil)
        (pss_cons (ps_asg (pe_callB call_divmod (by rfl) t.free_divmod (by decide +kernel) (pa_cons (pe_op op_subN (pv 4) (pe_fld (pv 3) rfl)) (pa_cons (pe_fld (pv 3) rfl) pa_nil))) (pg_tup rfl (pgs_cons (pg_name (i := 5) nd rfl (Or.inl rfl)) (pgs_cons (pg_name (i := 6) nd rfl (Or.inr rfl)) pgs_nil))))
        (pss_cons (ps_set (i := 7) nd rfl (Or.inl rfl) (pe_ix ix_list (pe_fld (pv 0) rfl) (pv 1) (fun _ _ => rfl)))
        (pss_one (ps_ret (pe_op op_add (pe_op op_mul (pv 5) (pe_callB call_len_seq (by rfl) t.free_len (by decide +kernel) (pa_cons (pv 7) pa_nil))) (pe_callB call_len_seq (by rfl) t.free_len (by decide +kernel) (pa_cons (pe_lc (own := [("offset", 8)]) (g := (gName 8)) (tt := (tTest (tOp (rI0 fun i j => .bl (decide (i < j))) (tVar 8) (tVar 6)))) (te := (tVar 8)) rfl nd  (pi_list (pv 7)) (blkOk_by (by kernel_rfl)) (fun _ _ _ _ _ => (pg_name (i := 8) nd rfl (Or.inl rfl))) (fun _ _ _ _ _ => (pts_one (pt_cmpR op_lt (pv 8) (pv 6) (nomark _)))) (fun _ _ _ _ _ => (pv 8))) pa_nil)))))))))), ?_⟩
    obtain ⟨dx, bl, ins, acr, h0, ⟨us, hU, hlen, hR⟩, ⟨ws, hI, hwl, hW⟩, -⟩ := hSR
    have cS := t.cls_Search
    have hpos := hO.pos
    have hmost := hO.most
    have hi : i < bs.length := (List.getElem?_eq_some_iff.mp hBi).1
    have hu := List.getElem?_eq_getElem (show i < us.length by omega)
    obtain ⟨ba, hv, hBO⟩ := hR i B _ hBi hu
    rw [hv] at hu
    obtain ⟨dxb, xb, xi, xli, xtu, xlo, xla, xfi, hb0, -⟩ := id hBO
    have hm : (bs.map fun B => insides B pat)[i]? = some (insides B pat) := by rw [List.getElem?_map, hBi]; rfl
    have hwi : i < ws.length := by rw [hwl, List.length_map]; exact hi
    have hw := List.getElem?_eq_getElem hwi
    obtain ⟨q, hq, hL⟩ := hW i _ _ hm hw
    rw [hq] at hw
    have hil := insides_len B pat
    refine ⟨_, rfl, a, _, dx, _, .ref bl, rfl, h0, cS, t.noat_Search_blocks, sfs_blocks, _, rfl, bl, us, _, .ref ba, rfl, rfl, sl hU, atI_nat hu, ?_⟩
    refine ⟨_, rfl, _, rfl, ba, _, dxb, _, vn B.fin, rfl, hb0, t.cls_Block, t.noat_Block_end, bfs_end, _, rfl, a, _, dx, _, vn pat.length, rfl, h0, cS, t.noat_Search_size, sfs_size, _, _, rfl, rfl, _, _, rfl, rfl, _, _, rfl, ?_⟩
    generalize hS : (if (B.fin : Int) - (pat.length : Nat) + 1 < (p : Int) then (B.fin : Int) - (pat.length : Nat) + 1 else (p : Int)) = S
    have key : S ≤ (B.beg : Int) ↔ min p (B.fin + 1 - pat.length) ≤ B.beg := by
      rw [← hS]
      split <;> omega
    have key2 : ¬ S ≤ (B.beg : Int) → S = ((min p (B.fin + 1 - pat.length) : Nat) : Int) := by
      rw [← hS]
      split <;> omega
    unfold insB at k
    refine ⟨_, rfl, _, rfl, ba, _, dxb, _, vn B.beg, rfl, hb0, t.cls_Block, t.noat_Block_begin, bfs_begin, _, _, rfl, rfl, _, rfl, if_dec (fun h => ?_) (fun h => ?_)⟩
    · rw [if_pos (key.mp h)] at k
      exact k.go (Same.refl _)
    rw [if_neg fun z => h (key.mpr z)] at k
    have hge : B.beg ≤ min p (B.fin + 1 - pat.length) := by
      have := key2 h
      omega
    have hs := key2 h
    clear hS key key2 h
    subst hs
    generalize min p (B.fin + 1 - pat.length) = m at *
    refine ⟨_, rfl, _, rfl, ba, _, dxb, _, vn B.beg, rfl, hb0, t.cls_Block, t.noat_Block_begin, bfs_begin, m, B.beg, rfl, rfl, hge, _, rfl, ba, _, dxb, _, vn B.size, rfl, hb0, t.cls_Block, t.noat_Block_size, bfs_size, _, (B.size : Int), rfl, ⟨by omega, by omega⟩, fun T hT => ?_⟩
    have e1 := Same.new (o := .tup [.int (((m - B.beg : Nat) : Int) / (B.size : Int)), .int (((m - B.beg : Nat) : Int) % (B.size : Int))]) hT
    refine ⟨T, _, rfl, SqT.of upd_same, rfl, _, _, rfl, _, _, rfl, rfl, ?_⟩
    refine ⟨_, rfl, a, _, dx, _, .ref ins, rfl, e1 _ _ h0, cS, t.noat_Search_inside, sfs_inside, _, rfl, ins, ws, _, .ref q, rfl, rfl, sl (e1 _ _ hI), atI_nat hw, ?_⟩
    have hL1 := hL.mono e1
    refine ⟨_, rfl, _, rfl, q, _, rfl, .inl (sl hL1), _, _, rfl, rfl, .inr ?_, ?_⟩
    · rw [nv_len]
      exact ⟨by omega, by omega⟩
    refine ⟨_, rfl, q, rfl, ⟨_, sl hL1⟩, fun D hD => ?_⟩
    refine lc_val walk_list (fun j => (if (insides B pat).getD j 0 < (m - B.beg) % B.size then some ((insides B pat).getD j 0) else none : Option Nat).map vn) (by rw [nv_len]; omega) hD (fun H' e => sl (hL1.mono e)) (fun j y H2 H3 Ky Kn hj e y ky kn => ?_) fun H2 e2 hl => ?_
    · obtain ⟨rfl, hx⟩ := y
      obtain ⟨n, hn, rfl⟩ := nv_get hx
      have hg := getD_of hn
      refine ⟨Same.refl _, rfl, _, rfl, _, rfl, _, _, rfl, rfl, _, rfl, if_dec (fun h => ?_) (fun h => ?_)⟩
      · have h : n < (m - B.beg) % B.size := by
          have h : (n : Int) < (((m - B.beg) % B.size : Nat) : Int) := h
          omega
        exact ⟨_, rfl, ky _ (Same.refl _) _ (by rw [hg, if_pos h]; rfl)⟩
      · have h : ¬ n < (m - B.beg) % B.size := by
          have h : ¬ (n : Int) < (((m - B.beg) % B.size : Nat) : Int) := h
          omega
        exact kn _ (Same.refl _) (by rw [hg, if_neg h]; rfl)
    rw [fm_nv, nv_len] at hl
    refine ⟨D, _, rfl, .inl (sl hl), _, _, rfl, rfl, ?_⟩
    rw [nv_len, nv_len]
    exact k.go (e1.trans e2)
def sp_search_number_before (K : PySem.W.Frag) : Sp := fun vs H Q _ => ∃ (a : Addr) (bs : List BO) (pat : List Nat) (p : Nat), vs = [.ref a, vn p] ∧ IsSR (He.ga K "Search") (He.ga K "Block") H a bs pat ∧ bs.length ≤ 8 ∧ pat.length < 64 ∧ ChB bs 0 ∧ RetV (vn (numB bs pat p)) H Q
theorem sc_search_number_before : FnScope ["self", "position", "found", "number", "across", "one"] ["self", "position"] (defScope s_search_number_before) := C8.fnScope_by (by decide +kernel)
theorem me_search_number_before {P : Program} {w : World} {K : PySem.W.Frag} {mg : Str → Option Value} {base : Heap} (t : Tx K mg) : C8.Met P w K mg base 2 (He.ga K "Search") "number_before" (sp_search_number_before K) [] := by
  obtain ⟨fd, F⟩ := t.f_search_number_before
  have nd := sc_search_number_before.nd
  refine ⟨_, fd, ["self", "position"], [], t.cls_Search, t.meth_search_number_before, F.ok sc_search_number_before (fun vs H Q E h => ?_) (fun cdv A outer s H vs Q E hr h => ?_), F.bindsN (fun _ _ _ _ _ _ us hl => match us, hl with | [_, _], _ => rfl), .nil⟩
  · obtain ⟨a, bs, pat, p, rfl, hSR, hb8, hp64, hc, k⟩ := h
    rfl
  · obtain ⟨a, bs, pat, p, rfl, hSR, hb8, hp64, hc, k⟩ := h
    have hu := hu_of hr
    refine ⟨_, PSs.nox (pss_cons (ps_set (i := 2) nd rfl (Or.inl rfl) pe_int)
        (pss_cons (ps_for PassesOwn.never rfl (pi_enum (by rfl) t.free_enumerate (pa_cons (pe_fld (pv 0) rfl) pa_nil)) (pg_tup rfl (pgs_cons (pg_name (i := 3) nd rfl (Or.inl rfl)) (pgs_cons (pg_name (i := 4) nd rfl (Or.inl rfl)) pgs_nil))) (pss_one (ps_aug (i := 2) nd rfl (Or.inl rfl) (pe_op op_add (C8.pe_mt (me_search_inside_before t) hr (by decide) (pv 0) (pa_cons (pv 3) (pa_cons (pv 1) pa_nil))) (pe_callB call_len_seq (by rfl) t.free_len (by decide +kernel) (pa_cons (pe_lc (own := [("one", 5)]) (g := (gName 5)) (tt := (tTest (tOp (rI0 fun i j => .bl (decide (i < j))) (tVar 5) (tVar 1)))) (te := (tVar 5)) rfl nd  (pi_list (pv 4)) (blkOk_by (by kernel_rfl)) (fun _ _ _ _ _ => (pg_name (i := 5) nd rfl (Or.inl rfl))) (fun _ _ _ _ _ => (pts_one (pt_cmpR op_lt (pv 5) (pv 1) (nomark _)))) (fun _ _ _ _ _ => (pv 5))) pa_nil))) ip_add)))
        (pss_one (ps_ret (pv 2))))), ?_⟩
    obtain ⟨dx, bl, ins, acr, h0, hB, hI, ⟨ws, hA, hwl, hW⟩⟩ := id hSR
    have cS := t.cls_Search
    have hwl2 : ws.length = bs.length := by rw [hwl, List.length_map]
    refine ⟨_, rfl, a, _, dx, _, .ref acr, rfl, h0, cS, t.noat_Search_across, sfs_across, acr, _, rfl, sl hA, ?_⟩
    refine for_it walk_enum (fun i σ H' => ∃ (v3 v4 : Option V), σ = [some (.ref a), some (vn p), some (vn ((bs.take i).map fun B => insB B pat p + below (across bs B pat) p).sum), v3, v4, none] ∧ Same H H') ⟨none, none, rfl, Same.refl _⟩ (fun i σ H' _ ⟨_, _, _, e⟩ => sl (e _ _ hA)) ?_ ?_
    · rintro i y σ H1 H2 hi ⟨v3, v4, rfl, e⟩ ⟨T, y, z, rfl, hT, rfl, hy, hz⟩
      cases hy
      have hi2 : i < bs.length := by omega
      have hb := List.getElem?_eq_getElem hi2
      have hO := chB_get hc hb
      have hm : (bs.map fun B => across bs B pat)[i]? = some (across bs bs[i] pat) := by rw [List.getElem?_map, hb]; rfl
      obtain ⟨q, rfl, hL⟩ := hW i _ _ hm hz
      have e2 := e.trans (Same.new (o := .tup [.int (i : Nat), .ref q]) hT)
      refine ⟨T, _, rfl, SqT.of upd_same, rfl, _, _, rfl, _, _, rfl, rfl, ?_⟩
      refine ⟨_, rfl, _, rfl, a, dx, _, rfl, e2 _ _ h0, sfs_before, _, rfl, _, rfl, a, bs, pat, i, p, bs[i], rfl, hSR.mono e2, hb, hO, fun H3 e3 => ?_⟩
      have e23 := e2.trans e3
      have hL3 := hL.mono e23
      refine ⟨_, rfl, q, rfl, ⟨_, sl hL3⟩, fun D hD => ?_⟩
      have al : (across bs bs[i] pat).length ≤ 64 := by
        unfold across
        refine Nat.le_trans (fm_len _ _) ?_
        omega
      refine lc_val walk_list (fun j => (if (across bs bs[i] pat).getD j 0 < p then some ((across bs bs[i] pat).getD j 0) else none : Option Nat).map vn) (by rw [nv_len]; omega) hD (fun H' e => sl (hL3.mono e)) (fun j y H2 H3 Ky Kn hj e y ky kn => ?_) fun H4 e4 hl => ?_
      · obtain ⟨rfl, hx⟩ := y
        obtain ⟨n, hn, rfl⟩ := nv_get hx
        have hg := getD_of hn
        refine ⟨Same.refl _, rfl, _, rfl, _, rfl, _, _, rfl, rfl, _, rfl, if_dec (fun h => ?_) (fun h => ?_)⟩
        · exact ⟨_, rfl, ky _ (Same.refl _) _ (by rw [hg, if_pos (by omega)]; rfl)⟩
        · exact kn _ (Same.refl _) (by rw [hg, if_neg (by omega)]; rfl)
      rw [fm_nv, nv_len] at hl
      refine ⟨D, _, rfl, .inl (sl hl), _, _, rfl, rfl, _, _, rfl, rfl, some (vn i), some (.ref q), ?_, e23.trans e4⟩
      rw [nv_len, take_snoc hb, List.map_append, List.sum_append]
      show _ = [_, _, some (vn (_ + List.sum [_])), _, _, _]
      rw [List.sum_singleton]
      rfl
    · rintro σ H1 ⟨v3, v4, rfl, e⟩
      rw [hwl2, List.take_length]
      exact ⟨_, rfl, k.go e⟩
def sp_count_matches : Sp := fun vs H Q _ => ∃ (a l : Addr) (s : List Blk) (pat : List Nat) (p : Nat), vs = [.ref a, .ref l, vn p] ∧ IsS H a s ∧ VS s ∧ IsL H l pat ∧ ValidD pat ∧ pat.length < 64 ∧ 1 ≤ pat.length ∧ p ≤ tot (boS s) ∧ RetV (vn (numB (boS s) pat p)) H Q
theorem sc_count_matches : FnScope ["sequence", "pattern", "position", "blocks", "wanted"] ["sequence", "pattern", "position"] (defScope s_count_matches) := C8.fnScope_by (by decide +kernel)
theorem c_count_matches {P : Program} {w : World} {K : PySem.W.Frag} {mg : Str → Option Value} {base : Heap} (t : Tx K mg) : C8.Cal P w K mg base 7 "count_matches" sp_count_matches [] := by
  obtain ⟨fd, F⟩ := t.f_count_matches
  have nd := sc_count_matches.nd
  refine ⟨_, fd, ["sequence", "pattern", "position"], [], F.ok sc_count_matches (fun vs H Q E h => ?_) (fun cdv A outer s H vs Q E hr h => ?_), t.glo_count_matches, F.kp, F.bindsN (fun _ _ _ _ _ _ us hl => match us, hl with | [_, _, _], _ => rfl), .nil⟩
  · obtain ⟨a, l, s', pat, p, rfl, hS, hv, hL, hVD, h64, h1, hp, k⟩ := h
    rfl
  · obtain ⟨a, l, s', pat, p, rfl, hS, hv, hL, hVD, h64, h1, hp, k⟩ := h
    have hu := hu_of hr
    refine ⟨_, PSs.nox (pss_cons (ps_set (i := 3) nd rfl (Or.inl rfl) (C8.pe_c (c_blocks_of t) hr (by decide) rfl (pa_cons (pv 0) pa_nil)))
        (pss_cons (ps_set (i := 4) nd rfl (Or.inl rfl) (C8.pe_c (c_checked_pattern t) hr (by decide) rfl (pa_cons (pv 1) pa_nil)))
        (pss_cons (ps_expr (C8.pe_c (c_check_position t) hr (by decide) rfl (pa_cons (pv 2) (pa_cons (pe_fld (pe_ix ix_list (pv 3) (pe_un un_neg pe_int) (fun _ _ => rfl)) rfl) pa_nil))))
        (pss_one (ps_ret (C8.pe_mt (me_search_number_before t) hr (by decide) (C8.pe_mk (m_Search t) hr (by decide) rfl (pa_cons (pv 3) (pa_cons (pv 4) pa_nil))) (pa_cons (pv 2) pa_nil))))))), ?_⟩
    refine ⟨_, rfl, a, s', rfl, hS, hv, fun bl H1 e1 hbl hBs => ?_⟩
    obtain ⟨us, hU, hlen, hR⟩ := id hBs
    have hl8 : (boS s').length ≤ 8 := by rw [boS_len]; have := hv.few; omega
    have hl1 : 1 ≤ (boS s').length := by rw [boS_len]; exact hv.one
    obtain ⟨ba, B, h1', h2, h3, -⟩ := last_at hlen hR hl1
    obtain ⟨dx, b, i', li, tu, lo, la, fi, h0, -⟩ := id h2
    refine ⟨_, rfl, l, pat, rfl, hL.mono e1, hVD, h64, h1, fun q H2 e2 hq hL2 => ?_⟩
    refine ⟨_, rfl, _, rfl, _, rfl, bl, _, _, _, rfl, rfl, sl (e2 _ _ hU), h1', ba, _, dx, _, vn B.fin, rfl, e2 _ _ h0, t.cls_Block, t.noat_Block_end, bfs_end, p, B.fin, rfl, by omega, fun H3 e3 => ?_⟩
    refine ⟨_, rfl, _, rfl, fun x dxs hx hdx hne => ?_⟩
    have sm := same_made (o := .own x) (o' := .ins (He.ga K "Search") dxs []) hx hdx
    refine ⟨x, dxs, bl, q, boS s', pat, rfl, upd_same, hBs.mono ((e2.trans e3).trans sm), hl1, hl8, chB_boS hv.valid, hL2.mono (e3.trans sm), h1, h64, fun H4 sb hSR => ⟨rfl, ?_⟩⟩
    have e4 := made_same hx hdx sb
    obtain ⟨dx', bl', ins, acr, g0, -⟩ := id hSR
    exact ⟨x, dx', _, rfl, g0, sfs_number, _, rfl, x, boS s', pat, p, rfl, hSR, hl8, h64, chB_boS hv.valid, fun H5 e5 => k.go ((((e1.trans e2).trans e3).trans e4).trans e5)⟩
end HB
namespace HB
open PySem PySem.Spec PyProof.Rows L2
/-- a stretch: a tuple -/
def RST (x : Nat × Nat × List Nat) (H : Hp) (v : V) : Prop := ∃ t q, v = .ref t ∧ H t = some (.tup [vn x.1, vn x.2.1, .ref q]) ∧ IsL H q x.2.2
theorem RST.mono {x : Nat × Nat × List Nat} {H H' : Hp} {v : V} (h : RST x H v) (e : Same H H') : RST x H' v := let ⟨t, q, a, b, c⟩ := h; ⟨t, q, a, e _ _ b, c.mono e⟩
def sp_stretches_of (K : PySem.W.Frag) : Sp := fun vs H Q _ => ∃ (a : Addr) (bs : List BO), vs = [.ref a] ∧ IsBs (He.ga K "Block") H a bs ∧ bs.length ≤ 8 ∧ (∀ l H', Same H H' → H l = none → IsLR RST H' l (strch bs) → Q (.ref l) H')
theorem sc_stretches_of : FnScope ["blocks", "found", "block"] ["blocks"] (defScope s_stretches_of) := C8.fnScope_by (by decide +kernel)
theorem c_stretches_of {P : Program} {w : World} {K : PySem.W.Frag} {mg : Str → Option Value} {base : Heap} (t : Tx K mg) : C8.Cal P w K mg base 1 "stretches_of" (sp_stretches_of K) [] := by
  obtain ⟨fd, F⟩ := t.f_stretches_of
  have nd := sc_stretches_of.nd
  refine ⟨_, fd, ["blocks"], [], F.ok sc_stretches_of (fun vs H Q E h => ?_) (fun cdv A outer s H vs Q E hr h => ?_), t.glo_stretches_of, F.kp, F.bindsN (fun _ _ _ _ _ _ us hl => match us, hl with | [_], _ => rfl), .nil⟩
  · obtain ⟨a, bs, rfl, hBs, hb8, k⟩ := h
    rfl
  · obtain ⟨a, bs, rfl, hBs, hb8, k⟩ := h
    have hu := hu_of hr
    refine ⟨_, PSs.nox (pss_cons (ps_set (i := 1) nd rfl (Or.inl rfl) (pe_lst pa_nil))
        (pss_cons (ps_for PassesOwn.never rfl (pi_list (pv 0)) (pg_name (i := 2) nd rfl (Or.inl rfl)) (pss_cons (ps_expr (pe_bm PySem.F.plainAttrs_list PySem.F.slot_list_append PySem.F.type_list_append mt_append (pv 1) (pa_cons (pe_tup (pa_cons (pe_fld (pv 2) rfl) (pa_cons (pe_op op_add (pe_fld (pv 2) rfl) (pe_fld (pv 2) rfl)) (pa_cons (pe_fld (pv 2) rfl) pa_nil)))) pa_nil)))
        (pss_one (ps_if (pt_cmpR op_gt (pe_fld (pv 2) rfl) pe_int (nomark _)) (pss_one (ps_expr (pe_bm PySem.F.plainAttrs_list PySem.F.slot_list_append PySem.F.type_list_append mt_append (pv 1) (pa_cons (pe_tup (pa_cons (pe_op op_add (pe_fld (pv 2) rfl) (pe_fld (pv 2) rfl)) (pa_cons (pe_fld (pv 2) rfl) (pa_cons (pe_fld (pv 2) rfl) pa_nil)))) pa_nil)))) pss_nil))))
        (pss_one (ps_ret (pv 1))))), ?_⟩
    obtain ⟨us, hU, hlen, hR⟩ := id hBs
    refine ⟨Nat.zero_le _, fun l hl0 => ?_⟩
    refine ⟨_, rfl, a, rfl, ⟨_, sl (Same.new hl0 _ _ hU)⟩, for_it walk_list (fun i σ H' => ∃ (v2 : Option V) (ws : List V), σ = [some (.ref a), some (.ref l), v2] ∧ Same H H' ∧ H' l = some (.lst ws) ∧ ws.length = (strch (bs.take i)).length ∧ ∀ (j : Nat) x v, (strch (bs.take i))[j]? = some x → ws[j]? = some v → RST x (hid l H') v)
      ⟨none, [], rfl, Same.new hl0, upd_same, rfl, fun j x v h => by simp [strch] at h⟩ (fun i σ H' _ ⟨_, _, _, e, _⟩ => sl (e _ _ hU)) ?_ ?_⟩
    · rintro i y σ H1 H2 hi ⟨v2, ws, rfl, e, hl, hwl, hW⟩ ⟨rfl, hy⟩
      have hi2 : i < bs.length := by omega
      have hb := List.getElem?_eq_getElem hi2
      obtain ⟨ba, rfl, hBO⟩ := hR i _ y hb hy
      generalize bs[i] = B at *
      obtain ⟨dx, b, i', li, tu, lo, la, fi, h0, -, -, -, -, -, h6, h7⟩ := id hBO
      have l16 : ws.length ≤ 16 := by
        rw [hwl]
        refine Nat.le_trans (strch_len _) ?_
        rw [List.length_take]
        omega
      have c0 := e _ _ h0
      refine ⟨_, rfl, .inl ⟨rfl, _, sl hl⟩, _, rfl, ba, _, dx, _, vn B.beg, rfl, c0, t.cls_Block, t.noat_Block_begin, bfs_begin, _, rfl, ba, _, dx, _, vn B.beg, rfl, c0, t.cls_Block, t.noat_Block_begin, bfs_begin, _, rfl, ba, _, dx, _, vn B.size, rfl, c0, t.cls_Block, t.noat_Block_size, bfs_size, _, _, rfl, rfl, _, rfl, ba, _, dx, _, .ref fi, rfl, c0, t.cls_Block, t.noat_Block_first, bfs_first, by show 3 ≤ sizeLine; decide, fun T hT => ?_⟩
      have nT : T ≠ l := fun z => by rw [z, hl] at hT; cases hT
      have e1 := Same.new (o := .tup [vn B.beg, .int ((B.beg : Int) + (B.size : Int)), .ref fi]) hT
      refine ⟨l, _, _, rfl, rfl, e1 _ _ hl, Nat.lt_of_le_of_lt l16 (by decide), ?_⟩
      have it1 := items_snoc (R := fun x v => RST x (hid l (upd (upd H2 T (.tup [vn B.beg, .int ((B.beg : Int) + (B.size : Int)), .ref fi])) l (.lst (ws ++ [.ref T])))) v) (u := .ref T) (x := (B.beg, B.beg + B.size, B.first)) hwl (fun j x v a b => (hW j x v a b).mono (by rw [hid_upd]; exact hid_mono e1))
        ⟨T, fi, rfl, by rw [hid_upd, hid_at nT]; exact upd_same, by
          rw [hid_upd]
          show hid l _ fi = _
          rw [hid_at (ne_of_none h7 hl0)]
          exact e1 _ _ (e _ _ h7)⟩
      generalize hG : upd (upd H2 T _) l _ = G at it1
      have eG : Same H G := by rw [← hG]; exact Same.mut (e.trans e1) hl0
      have hlG : G l = some (.lst (ws ++ [.ref T])) := by rw [← hG]; exact upd_same
      have d0 := eG _ _ h0
      clear hG
      have hst : strch (bs.take (i + 1)) = strch (bs.take i) ++ strB B := by rw [take_snoc hb, strch_snoc]
      refine ⟨_, rfl, ba, _, dx, _, vn B.reps, rfl, d0, t.cls_Block, t.noat_Block_repetitions, bfs_reps, _, _, rfl, rfl, _, rfl, if_dec (fun h => ?_) (fun h => ?_)⟩
      · refine ⟨_, rfl, .inl ⟨rfl, _, sl hlG⟩, _, rfl, ba, _, dx, _, vn B.beg, rfl, d0, t.cls_Block, t.noat_Block_begin, bfs_begin, _, rfl, ba, _, dx, _, vn B.size, rfl, d0, t.cls_Block, t.noat_Block_size, bfs_size, _, _, rfl, rfl, _, rfl, ba, _, dx, _, vn B.fin, rfl, d0, t.cls_Block, t.noat_Block_end, bfs_end, _, rfl, ba, _, dx, _, .ref la, rfl, d0, t.cls_Block, t.noat_Block_later, bfs_later, by show 3 ≤ sizeLine; decide, fun T2 hT2 => ?_⟩
        have nT2 : T2 ≠ l := fun z => by rw [z, hlG] at hT2; cases hT2
        have e2 := Same.new (o := .tup [.int ((B.beg : Int) + (B.size : Int)), vn B.fin, .ref la]) hT2
        refine ⟨l, _, _, rfl, rfl, e2 _ _ hlG, ?_, some (.ref ba), (ws ++ [.ref T]) ++ [.ref T2], rfl, Same.mut (eG.trans e2) hl0, upd_same, ?_⟩
        · rw [List.length_append]
          exact Nat.lt_of_le_of_lt (Nat.add_le_add_right l16 1) (by decide)
        have it2 := items_snoc (R := fun x v => RST x (hid l (upd (upd G T2 (.tup [.int ((B.beg : Int) + (B.size : Int)), vn B.fin, .ref la])) l (.lst (ws ++ [.ref T] ++ [.ref T2])))) v) (u := .ref T2) (x := (B.beg + B.size, B.fin, B.later)) it1.1 (fun j x v a b => (it1.2 j x v a b).mono (by rw [hid_upd]; exact hid_mono e2))
          ⟨T2, la, rfl, by rw [hid_upd, hid_at nT2]; exact upd_same, by
            rw [hid_upd]
            show hid l _ la = _
            rw [hid_at (ne_of_none h6 hl0)]
            exact e2 _ _ (eG _ _ h6)⟩
        have hs : strB B = [(B.beg, B.beg + B.size, B.first)] ++ [(B.beg + B.size, B.fin, B.later)] := by
          unfold strB
          rw [if_pos (by omega)]
          rfl
        rw [hst, hs, ← List.append_assoc]
        exact it2
      · have hs : strB B = [(B.beg, B.beg + B.size, B.first)] := by
          unfold strB
          rw [if_neg (by omega)]
        refine ⟨some (.ref ba), ws ++ [.ref T], rfl, eG, hlG, ?_⟩
        rw [hst, hs]
        exact it1
    · rintro σ H1 ⟨v2, ws, rfl, e, hl, hwl, hW⟩
      rw [hlen, List.take_length] at hwl hW
      exact ⟨_, rfl, k l H1 e hl0 ⟨ws, hl, hwl, fun j x v a b => (hW j x v a b).mono hid_le⟩⟩
def sp_difference_in : Sp := fun vs H Q _ => ∃ (v w : V) (x y : Nat × Nat × List Nat), vs = [v, w] ∧ RST x H v ∧ RST y H w ∧ 0 < x.2.2.length ∧ x.2.2.length ≤ 40 ∧ 0 < y.2.2.length ∧ y.2.2.length ≤ 40 ∧
  (∀ p, x.1 ≤ p → p < x.2.1 → y.1 ≤ p → p < y.2.1 → x.2.2.getD ((p - x.1) % x.2.2.length) 0 = y.2.2.getD ((p - y.1) % y.2.2.length) 0) ∧ RetV .non H Q
theorem sc_difference_in : FnScope ["one", "other", "begin", "end", "position"] ["one", "other"] (defScope s_difference_in) := C8.fnScope_by (by decide +kernel)
theorem c_difference_in {P : Program} {w : World} {K : PySem.W.Frag} {mg : Str → Option Value} {base : Heap} (t : Tx K mg) : C8.Cal P w K mg base 1 "difference_in" sp_difference_in [] := by
  obtain ⟨fd, F⟩ := t.f_difference_in
  have nd := sc_difference_in.nd
  refine ⟨_, fd, ["one", "other"], [], F.ok sc_difference_in (fun vs H Q E h => ?_) (fun cdv A outer s H vs Q E hr h => ?_), t.glo_difference_in, F.kp, F.bindsN (fun _ _ _ _ _ _ us hl => match us, hl with | [_, _], _ => rfl), .nil⟩
  · obtain ⟨v, w, ⟨b1, e1, l1⟩, ⟨b2, e2, l2⟩, rfl, ⟨t1, q1, rfl, hT1, hq1⟩, ⟨t2, q2, rfl, hT2, hq2⟩, p1, m1, p2, m2, hd, k⟩ := h
    rfl
  · obtain ⟨v, w, ⟨b1, e1, l1⟩, ⟨b2, e2, l2⟩, rfl, ⟨t1, q1, rfl, hT1, hq1⟩, ⟨t2, q2, rfl, hT2, hq2⟩, p1, m1, p2, m2, hd, k⟩ := h
    have hu := hu_of hr
    refine ⟨_, PSs.nox (pss_cons (ps_par (i := 2) (j := 3) (by rfl) nd rfl rfl (by decide) rfl rfl (pa_cons (pe_callB (call_max2 rfl) (by rfl) t.free_max (by decide +kernel) (pa_cons (pe_ix ix_tup (pv 0) pe_int (fun _ _ => rfl)) (pa_cons (pe_ix ix_tup (pv 1) pe_int (fun _ _ => rfl)) pa_nil))) (pa_cons (pe_callB (call_min2 rfl) (by rfl) t.free_min (by decide +kernel) (pa_cons (pe_ix ix_tup (pv 0) pe_int (fun _ _ => rfl)) (pa_cons (pe_ix ix_tup (pv 1) pe_int (fun _ _ => rfl)) pa_nil))) pa_nil)) (by rfl))
        (pss_cons (ps_for PassesOwn.never rfl (pi_range2W (by rfl) t.free_range (pa_cons (pv 2) (pa_cons (pe_callB (call_min2 rfl) (by rfl) t.free_min (by decide +kernel) (pa_cons (pv 3) (pa_cons (pe_op op_add (pe_op op_add (pv 2) (pe_callB call_len_seq (by rfl) t.free_len (by decide +kernel) (pa_cons (pe_ix ix_tup (pv 0) pe_int (fun _ _ => rfl)) pa_nil))) (pe_callB call_len_seq (by rfl) t.free_len (by decide +kernel) (pa_cons (pe_ix ix_tup (pv 1) pe_int (fun _ _ => rfl)) pa_nil))) pa_nil))) pa_nil))) (pg_name (i := 4) nd rfl (Or.inl rfl)) (pss_one (ps_if (pt_cmpR op_ne (pe_ix ix_list (pe_ix ix_tup (pv 0) pe_int (fun _ _ => rfl)) (pe_op op_mod (pe_op op_subN (pv 4) (pe_ix ix_tup (pv 0) pe_int (fun _ _ => rfl))) (pe_callB call_len_seq (by rfl) t.free_len (by decide +kernel) (pa_cons (pe_ix ix_tup (pv 0) pe_int (fun _ _ => rfl)) pa_nil))) (fun _ _ => rfl)) (pe_ix ix_list (pe_ix ix_tup (pv 1) pe_int (fun _ _ => rfl)) (pe_op op_mod (pe_op op_subN (pv 4) (pe_ix ix_tup (pv 1) pe_int (fun _ _ => rfl))) (pe_callB call_len_seq (by rfl) t.free_len (by decide +kernel) (pa_cons (pe_ix ix_tup (pv 1) pe_int (fun _ _ => rfl)) pa_nil))) (fun _ _ => rfl)) (nomark _)) (pss_one (ps_ret (pv 4))) pss_nil)))
        (pss_one (ps_ret pe_non)))), ?_⟩
    dsimp only at hT1 hT2 hq1 hq2 p1 m1 p2 m2 hd
    have T1 : SqT K H t1 _ := SqT.of hT1
    have T2 : SqT K H t2 _ := SqT.of hT2
    refine ⟨_, rfl, t1, _, 0, vn b1, rfl, rfl, T1, rfl, _, rfl, t2, _, 0, vn b2, rfl, rfl, T2, rfl, _, _, rfl, _, rfl, t1, _, 1, vn e1, rfl, rfl, T1, rfl, _, rfl, t2, _, 1, vn e2, rfl, rfl, T2, rfl, _, _, rfl, _, _, rfl, ?_⟩
    have eB := int_max b1 b2
    have eE := int_min e1 e2
    refine ⟨_, rfl, _, rfl, _, rfl, _, rfl, t1, _, 2, .ref q1, rfl, rfl, T1, rfl, q1, _, rfl, .inl (sl hq1), _, _, rfl, rfl, _, rfl, t2, _, 2, .ref q2, rfl, rfl, T2, rfl, q2, _, rfl, .inl (sl hq2), _, _, rfl, rfl, _, _, rfl, ((max b1 b2 : Nat) : Int), _, by rw [eB], ?_⟩
    have hn : ∀ n : Nat, n < ((if ((max b1 b2 : Nat) : Int) + ((nv l1).length : Int) + ((nv l2).length : Int) < (if (e2 : Int) < (e1 : Int) then (e2 : Int) else (e1 : Int)) then ((max b1 b2 : Nat) : Int) + ((nv l1).length : Int) + ((nv l2).length : Int) else (if (e2 : Int) < (e1 : Int) then (e2 : Int) else (e1 : Int))) - ((max b1 b2 : Nat) : Int)).toNat → max b1 b2 + n < e1 ∧ max b1 b2 + n < e2 := by
      intro n h
      rw [eE] at h
      split at h <;> omega
    refine for_it walk_range (fun n σ H' => ∃ (v4 : Option V), (∃ w2 w3, σ = [some (.ref t1), some (.ref t2), w2, w3, v4]) ∧ Same H H') ⟨none, ⟨_, _, rfl⟩, Same.refl _⟩ (fun _ _ _ _ _ => True.intro) ?_ ?_
    · rintro n y σ H1 H2 hi ⟨v4, ⟨w2, w3, rfl⟩, e⟩ ⟨rfl, rfl⟩
      obtain ⟨h1, h2⟩ := hn n hi
      have x1 : (max b1 b2 + n - b1) % l1.length < l1.length := Nat.mod_lt _ p1
      have x2 : (max b1 b2 + n - b2) % l2.length < l2.length := Nat.mod_lt _ p2
      have U1 : SqT K H2 t1 _ := SqT.of (e _ _ hT1)
      have U2 : SqT K H2 t2 _ := SqT.of (e _ _ hT2)
      have g := hd (max b1 b2 + n) (by omega) h1 (by omega) h2
      refine ⟨_, rfl, t1, _, 2, .ref q1, rfl, rfl, U1, rfl, _, rfl, _, rfl, t1, _, 0, vn b1, rfl, rfl, U1, rfl, max b1 b2 + n, b1, rfl, rfl, by omega, _, rfl, t1, _, 2, .ref q1, rfl, rfl, U1, rfl, q1, _, rfl, .inl (sl (e _ _ hq1)), _, (l1.length : Int), rfl, by rw [nv_len], by omega, q1, _, _, vn (l1.getD ((max b1 b2 + n - b1) % l1.length) 0), rfl, rfl, sl (e _ _ hq1), nv_ix x1, ?_⟩
      refine ⟨_, rfl, t2, _, 2, .ref q2, rfl, rfl, U2, rfl, _, rfl, _, rfl, t2, _, 0, vn b2, rfl, rfl, U2, rfl, max b1 b2 + n, b2, rfl, rfl, by omega, _, rfl, t2, _, 2, .ref q2, rfl, rfl, U2, rfl, q2, _, rfl, .inl (sl (e _ _ hq2)), _, (l2.length : Int), rfl, by rw [nv_len], by omega, q2, _, _, vn (l2.getD ((max b1 b2 + n - b2) % l2.length) 0), rfl, rfl, sl (e _ _ hq2), nv_ix x2, rfl, _, rfl, ?_⟩
      rw [g]
      refine if_ne (fun h => absurd rfl h) (fun _ => ?_)
      exact ⟨_, ⟨_, _, rfl⟩, e⟩
    · rintro σ H1 ⟨v4, ⟨w2, w3, rfl⟩, e⟩
      exact k.go e
def sp_first_difference : Sp := fun vs H Q _ => ∃ (a b : Addr) (s u : List Blk), vs = [.ref a, .ref b] ∧ IsS H a s ∧ VS s ∧ IsS H b u ∧ VS u ∧ (∀ p, p < tot (boS s) → p < tot (boS u) → dAt (boS s) p = dAt (boS u) p) ∧ RetV (vo (if tot (boS s) = tot (boS u) then none else some (min (tot (boS s)) (tot (boS u))))) H Q
theorem sc_first_difference : FnScope ["one", "other", "left", "right", "mine", "theirs", "position"] ["one", "other"] (defScope s_first_difference) := C8.fnScope_by (by decide +kernel)
theorem c_first_difference {P : Program} {w : World} {K : PySem.W.Frag} {mg : Str → Option Value} {base : Heap} (t : Tx K mg) : C8.Cal P w K mg base 7 "first_difference" sp_first_difference [] := by
  obtain ⟨fd, F⟩ := t.f_first_difference
  have nd := sc_first_difference.nd
  refine ⟨_, fd, ["one", "other"], [], F.ok sc_first_difference (fun vs H Q E h => ?_) (fun cdv A outer s H vs Q E hr h => ?_), t.glo_first_difference, F.kp, F.bindsN (fun _ _ _ _ _ _ us hl => match us, hl with | [_, _], _ => rfl), .nil⟩
  · obtain ⟨a, b, s1, s2, rfl, hS1, hv1, hS2, hv2, hd, k⟩ := h
    rfl
  · obtain ⟨a, b, s1, s2, rfl, hS1, hv1, hS2, hv2, hd, k⟩ := h
    have hu := hu_of hr
    refine ⟨_, PSs.nox (pss_cons (ps_par (i := 2) (j := 3) (by rfl) nd rfl rfl (by decide) rfl rfl (pa_cons (C8.pe_c (c_blocks_of t) hr (by decide) rfl (pa_cons (pv 0) pa_nil)) (pa_cons (C8.pe_c (c_blocks_of t) hr (by decide) rfl (pa_cons (pv 1) pa_nil)) pa_nil)) (by rfl))
        (pss_cons (ps_for PassesOwn.never rfl (pi_list (C8.pe_c (c_stretches_of t) hr (by decide) rfl (pa_cons (pv 2) pa_nil))) (pg_name (i := 4) nd rfl (Or.inl rfl)) (pss_one (ps_for PassesOwn.never rfl (pi_list (C8.pe_c (c_stretches_of t) hr (by decide) rfl (pa_cons (pv 3) pa_nil))) (pg_name (i := 5) nd rfl (Or.inl rfl)) (pss_cons (ps_set (i := 6) nd rfl (Or.inl rfl) (C8.pe_c (c_difference_in t) hr (by decide) rfl (pa_cons (pv 4) (pa_cons (pv 5) pa_nil))))
        (pss_one (ps_if (pt_cmpR op_notN (pv 6) pe_non (nomark _)) (pss_one (ps_ret (pv 6))) pss_nil))))))
        (pss_one (ps_ret (pe_ifExp (pt_cmpR op_eq (pe_fld (pe_ix ix_list (pv 2) (pe_un un_neg pe_int) (fun _ _ => rfl)) rfl) (pe_fld (pe_ix ix_list (pv 3) (pe_un un_neg pe_int) (fun _ _ => rfl)) rfl) (nomark _)) pe_non (pe_callB (call_min2 rfl) (by rfl) t.free_min (by decide +kernel) (pa_cons (pe_fld (pe_ix ix_list (pv 2) (pe_un un_neg pe_int) (fun _ _ => rfl)) rfl) (pa_cons (pe_fld (pe_ix ix_list (pv 3) (pe_un un_neg pe_int) (fun _ _ => rfl)) rfl) pa_nil)))))))), ?_⟩
    refine ⟨_, rfl, a, s1, rfl, hS1, hv1, fun b1 H1 e1 hb1 hBs1 => ⟨_, rfl, b, s2, rfl, hS2.mono e1, hv2, fun b2 H2 e2 hb2 hBs2 => ⟨_, _, rfl, ?_⟩⟩⟩
    have f1 : (boS s1).length ≤ 8 := by rw [boS_len]; exact hv1.few
    have f2 : (boS s2).length ≤ 8 := by rw [boS_len]; exact hv2.few
    have c1 := chB_boS hv1.valid
    have c2 := chB_boS hv2.valid
    have g1 := hBs1.mono e2
    refine ⟨_, rfl, b1, boS s1, rfl, g1, f1, fun l1 H3 e3 hl1 ⟨ws, hW, hwl, hR⟩ => ⟨l1, rfl, ⟨_, sl hW⟩, ?_⟩⟩
    refine for_it walk_list (fun i σ H' => ∃ (v4 v5 v6 : Option V), σ = [some (.ref a), some (.ref b), some (.ref b1), some (.ref b2), v4, v5, v6] ∧ Same H3 H') ⟨none, none, none, rfl, Same.refl _⟩ (fun i σ H' _ ⟨_, _, _, _, e⟩ => sl (e _ _ hW)) ?_ ?_
    · rintro i y σ H4 H5 hi ⟨v4, v5, v6, rfl, e⟩ ⟨rfl, hy⟩
      have hi2 : i < (strch (boS s1)).length := by omega
      have hx := List.getElem?_eq_getElem hi2
      have hX := hR i _ y hx hy
      obtain ⟨okx, tx⟩ := strch_ok c1 _ (List.getElem_mem hi2)
      generalize (strch (boS s1))[i] = X at *
      refine ⟨_, rfl, b2, boS s2, rfl, hBs2.mono (e3.trans e), f2, fun l2 H6 e6 hl2 ⟨zs', hZ, hzl, hRz⟩ => ⟨l2, rfl, ⟨_, sl hZ⟩, ?_⟩⟩
      refine for_it walk_list (fun j σ H' => ∃ (v5 v6 : Option V), σ = [some (.ref a), some (.ref b), some (.ref b1), some (.ref b2), some y, v5, v6] ∧ Same H6 H') ⟨v5, v6, rfl, Same.refl _⟩ (fun i σ H' _ ⟨_, _, _, e⟩ => sl (e _ _ hZ)) ?_ ?_
      · rintro j z σ H7 H8 hj ⟨v5, v6, rfl, e'⟩ ⟨rfl, hz⟩
        have hj2 : j < (strch (boS s2)).length := by omega
        have hx2 := List.getElem?_eq_getElem hj2
        have hX2 := hRz j _ z hx2 hz
        obtain ⟨oky, ty⟩ := strch_ok c2 _ (List.getElem_mem hj2)
        generalize (strch (boS s2))[j] = Y at *
        refine ⟨_, rfl, _, rfl, y, z, X, Y, rfl, hX.mono ((e.trans e6).trans e'), hX2.mono e', okx.1, okx.2.1, oky.1, oky.2.1, fun p q1 q2 q3 q4 => ?_, fun H9 e9 => ?_⟩
        · rw [← okx.2.2 p q1 q2, ← oky.2.2 p q3 q4]
          exact hd p (by omega) (by omega)
        · exact ⟨_, rfl, rfl, _, rfl, iteF ⟨_, _, rfl, e'.trans e9⟩⟩
      · rintro σ H7 ⟨v5, v6, rfl, e'⟩
        exact ⟨_, _, _, rfl, (e.trans e6).trans e'⟩
    · rintro σ H4 ⟨v4, v5, v6, rfl, e⟩
      have eE := e3.trans e
      obtain ⟨us1, hU1, hlen1, hR1⟩ := g1.mono eE
      obtain ⟨us2, hU2, hlen2, hR2⟩ := hBs2.mono eE
      obtain ⟨x1, B1, q1, q2, q3, -⟩ := last_at hlen1 hR1 (by rw [boS_len]; exact hv1.one)
      obtain ⟨x2, B2, r1, r2, r3, -⟩ := last_at hlen2 hR2 (by rw [boS_len]; exact hv2.one)
      obtain ⟨dx1, a1, a2, a3, a4, a5, a6, a7, h1, -⟩ := id q2
      obtain ⟨dx2, z1, z2, z3, z4, z5, z6, z7, h2, -⟩ := id r2
      rw [q3, r3] at k
      have eH := (e1.trans e2).trans eE
      refine ⟨_, rfl, _, rfl, b1, _, _, _, rfl, rfl, sl hU1, q1, x1, _, dx1, _, vn B1.fin, rfl, h1, t.cls_Block, t.noat_Block_end, bfs_end, _, rfl, _, rfl, b2, _, _, _, rfl, rfl, sl hU2, r1, x2, _, dx2, _, vn B2.fin, rfl, h2, t.cls_Block, t.noat_Block_end, bfs_end, rfl, _, rfl, if_eq (fun h => ?_) (fun h => ?_)⟩
      · rw [if_pos h] at k
        exact k.go eH
      · rw [if_neg h] at k
        refine ⟨_, rfl, _, rfl, b1, _, _, _, rfl, rfl, sl hU1, q1, x1, _, dx1, _, vn B1.fin, rfl, h1, t.cls_Block, t.noat_Block_end, bfs_end, _, rfl, _, rfl, b2, _, _, _, rfl, rfl, sl hU2, r1, x2, _, dx2, _, vn B2.fin, rfl, h2, t.cls_Block, t.noat_Block_end, bfs_end, _, _, rfl, ?_⟩
        rw [int_min]
        exact k.go eH
end HB
namespace HB
open PySem PySem.Spec PyProof.Rows L2
def sp_chain_from : Sp := fun vs H Q _ => ∃ (d : Addr) (f : Nat → Option Nat) (s Z : Nat), vs = [.ref d, vn s] ∧ IsDF H d 1000 f ∧ InjF f ∧ (∀ a c, f a = some c → c < Z) ∧ s < Z ∧ Z ≤ 40 ∧
  ∀ (T q : Addr) ch cyc H', Same H H' → H q = none → ChainOf f s ch cyc → H' T = some (.tup [.ref q, .bl cyc]) → IsL H' q ch → Q (.ref T) H'
theorem sc_chain_from : FnScope ["mapping", "symbol", "chain"] ["mapping", "symbol"] (defScope s_chain_from) := C8.fnScope_by (by decide +kernel)
theorem c_chain_from {P : Program} {w : World} {K : PySem.W.Frag} {mg : Str → Option Value} {base : Heap} (t : Tx K mg) : C8.Cal P w K mg base 1 "chain_from" sp_chain_from [] := by
  obtain ⟨fd, F⟩ := t.f_chain_from
  have nd := sc_chain_from.nd
  refine ⟨_, fd, ["mapping", "symbol"], [], F.ok sc_chain_from (fun vs H Q E h => ?_) (fun cdv A outer s H vs Q E hr h => ?_), t.glo_chain_from, F.kp, F.bindsN (fun _ _ _ _ _ _ us hl => match us, hl with | [_, _], _ => rfl), .nil⟩
  · obtain ⟨d, f, s', Z, rfl, hd, inj, hfZ, hsZ, hZ, k⟩ := h
    rfl
  · obtain ⟨d, f, s', Z, rfl, hd, inj, hfZ, hsZ, hZ, k⟩ := h
    have hu := hu_of hr
    refine ⟨_, PSs.nox (pss_cons (ps_set (i := 2) nd rfl (Or.inl rfl) (pe_lst (pa_cons (pv 1) pa_nil)))
        (pss_cons (ps_while PassesOwn.never (PW.pt (pw_and (pt_cmp (pc_din hu (pe_ix ix_list (pv 2) (pe_un un_neg pe_int) (fun _ _ => rfl)) (pv 0))) (pw_and1 (pt_cmpR op_ne (pe_dget hu (pv 0) (pe_ix ix_list (pv 2) (pe_un un_neg pe_int) (fun _ _ => rfl)) (fun _ _ => rfl)) (pv 1) (nomark _))))) (pss_one (ps_expr (pe_bm PySem.F.plainAttrs_list PySem.F.slot_list_append PySem.F.type_list_append mt_append (pv 2) (pa_cons (pe_dget hu (pv 0) (pe_ix ix_list (pv 2) (pe_un un_neg pe_int) (fun _ _ => rfl)) (fun _ _ => rfl)) pa_nil)))))
        (pss_one (ps_ret (pe_tup (pa_cons (pv 2) (pa_cons (pe_cmp (pc_din hu (pe_ix ix_list (pv 2) (pe_un un_neg pe_int) (fun _ _ => rfl)) (pv 0)) rfl) pa_nil))))))), ?_⟩
    refine ⟨_, rfl, by show 1 ≤ sizeLine; decide, fun q hq => ?_⟩
    refine ⟨fun m σ H' => ∃ ch : List Nat, m = Z - ch.length ∧ σ = [some (.ref d), some (vn s'), some (.ref q)] ∧ Same H H' ∧ IsL H' q ch ∧ ChG f s' Z ch, ⟨_, [s'], rfl, rfl, Same.new hq, upd_same, ChG.one hsZ⟩, ?_⟩
    rintro m σ H1 ⟨ch, rfl, rfl, e, hL, hG⟩
    have hp := hG.pos
    obtain ⟨a, ha⟩ : ∃ a, ch.getLast? = some a := by
      cases z : ch.getLast? with
      | none =>
        rw [List.getLast?_eq_none_iff] at z
        rw [z] at hp
        exact absurd hp (by decide)
      | some a => exact ⟨a, rfl⟩
    have hix : atI (nv ch) (-1) = some (vn a) := ix_last (by
      unfold nv
      rw [List.getLast?_map, ha]
      rfl)
    have hg := (hd.mono e).get a
    have fin : ∀ (hdone : f a = none ∨ f a = some s'), _ := fun hdone => hG.done hZ ha hdone
    refine ⟨_, rfl, _, rfl, q, _, _, vn a, rfl, rfl, sl hL, hix, _, rfl, d, _, rfl, hg, _, rfl, ?_⟩
    cases hf : f a with
    | none =>
      refine iteF ?_
      have hg' := hg
      rw [hf] at hg'
      have hD := fin (.inl hf)
      rw [hf] at hD
      refine ⟨_, rfl, _, rfl, _, rfl, q, _, _, vn a, rfl, rfl, sl hL, hix, _, rfl, d, _, rfl, hg', by show 2 ≤ sizeLine; decide, fun T hT => ?_⟩
      exact k T q ch false _ (e.trans (Same.new hT)) hq hD upd_same (hL.mono (Same.new hT))
    | some c =>
      refine iteT ?_
      have hg' := hg
      rw [hf] at hg'
      refine ⟨_, rfl, _, rfl, _, rfl, q, _, _, vn a, rfl, rfl, sl hL, hix, d, vn c, rfl, hg', _, rfl, rfl, _, rfl, if_ne (fun h => ?_) (fun h => ?_)⟩
      · have hS := hG.snoc inj hfZ ha hf h
        have hlen := hS.len
        refine ⟨fun σ' H' => ∃ ch' : List Nat, ch'.length = ch.length + 1 ∧ σ' = [some (.ref d), some (vn s'), some (.ref q)] ∧ Same H H' ∧ IsL H' q ch' ∧ ChG f s' Z ch', fun σ' H' ⟨ch', h1, h2, h3, h4, h5⟩ => ⟨Z - ch'.length, ?_, ch', rfl, h2, h3, h4, h5⟩, ?_⟩
        · have := h5.len
          omega
        · refine ⟨_, rfl, .inl ⟨rfl, _, sl hL⟩, _, rfl, _, rfl, _, rfl, q, _, _, vn a, rfl, rfl, sl hL, hix, d, vn c, rfl, hg', q, _, _, rfl, rfl, hL, ?_, ch ++ [c], ?_, rfl, Same.mut e hq, ?_, hS⟩
          · rw [nv_len]
            have := hG.len
            exact Nat.lt_of_le_of_lt (show ch.length ≤ 40 by omega) (by decide)
          · rw [List.length_append]
            rfl
          · show upd _ q _ q = _
            rw [upd_same, nv_snoc]
      · have hg' := hg
        rw [hf] at hg'
        have hD := fin (.inr (by rw [hf, h]))
        rw [hf] at hD
        refine ⟨_, rfl, _, rfl, _, rfl, q, _, _, vn a, rfl, rfl, sl hL, hix, _, rfl, d, _, rfl, hg', by show 2 ≤ sizeLine; decide, fun T hT => ?_⟩
        exact k T q ch true _ (e.trans (Same.new hT)) hq hD upd_same (hL.mono (Same.new hT))
def sp_inverse : Sp := fun vs H Q _ => ∃ (d : Addr) (m : List (Nat × Nat)) (a b : Nat), vs = [.ref d] ∧ IsDP H d m ∧ ValidM m a b ∧ ∀ p H', Same H H' → H p = none → IsDF H' p 1000 (invM m) → Q (.ref p) H'
theorem sc_inverse : FnScope ["mapping", "symbol", "image"] ["mapping"] (defScope s_inverse) := C8.fnScope_by (by decide +kernel)
theorem c_inverse {P : Program} {w : World} {K : PySem.W.Frag} {mg : Str → Option Value} {base : Heap} (t : Tx K mg) : C8.Cal P w K mg base 1 "inverse" sp_inverse [] := by
  obtain ⟨fd, F⟩ := t.f_inverse
  have nd := sc_inverse.nd
  refine ⟨_, fd, ["mapping"], [], F.ok sc_inverse (fun vs H Q E h => ?_) (fun cdv A outer s H vs Q E hr h => ?_), t.glo_inverse, F.kp, F.bindsN (fun _ _ _ _ _ _ us hl => match us, hl with | [_], _ => rfl), .nil⟩
  · obtain ⟨d, m, a, b, rfl, hD, hv, k⟩ := h
    rfl
  · obtain ⟨d, m, a, b, rfl, hD, hv, k⟩ := h
    have hu := hu_of hr
    refine ⟨_, PSs.nox (pss_one (ps_ret (pe_lock (pe_dc (own := [("symbol", 1), ("image", 2)]) (g := (gTup K 2 (gCons (gName 1) (gCons (gName 2) gNil)))) (tt := tYes) (tk := (tVar 2)) (tv := (tVar 1)) rfl nd (pi_items (pv 0)) (blkOk_by (by kernel_rfl)) (fun _ _ _ _ _ => (pg_tup rfl (pgs_cons (pg_name (i := 1) nd rfl (Or.inl rfl)) (pgs_cons (pg_name (i := 2) nd rfl (Or.inl rfl)) pgs_nil)))) (fun _ _ _ _ _ => pts_nil) (fun _ _ _ _ _ => (pv 2)) (fun _ _ _ _ _ => (pv 1)))))), ?_⟩
    have hm := hD.2
    refine ⟨d, _, hD.1, True.intro, fun od => ⟨_, rfl, d, od, m.map pk, rfl, upd_same, fun D hDn => ?_⟩⟩
    have nD : D ≠ d := fun z => by rw [z, upd_same] at hDn; cases hDn
    have hD0 : H D = none := by rw [upd_ne nD] at hDn; exact hDn
    refine dc_df walk_items (fun i => (m.getD i (0, 0)).2) (fun i => (m.getD i (0, 0)).1) (fun n => invM (m.take n)) (fun s => rfl) (fun i s hi => ?_) (by rw [List.length_map]; omega) hDn (fun H' e => e _ _ upd_same) (fun i y H2 H3 Kd Kn hi e y kd => ?_) fun H6 e6 hD6 => ?_
    · rw [List.length_map] at hi
      have hg : m[i]? = some m[i] := List.getElem?_eq_getElem hi
      have hgd : m.getD i (0, 0) = m[i] := by
        rw [List.getD_eq_getElem?_getD, hg]
        rfl
      rw [hgd, take_snoc hg, invM_snoc]
      by_cases es : s = m[i].2
      · rw [if_pos es]
        have : invM (m.take i) s = none := invM_fresh fun q hq z => by
          obtain ⟨j, hj, rfl⟩ := List.mem_iff_getElem.mp hq
          rw [List.length_take] at hj
          rw [List.getElem_take] at z
          have h1 : (m.map (·.2))[j]? = some s := by rw [List.getElem?_map, List.getElem?_eq_getElem (show j < m.length by omega)]; exact congrArg some z
          have h2 : (m.map (·.2))[i]? = some s := by rw [List.getElem?_map, hg]; exact congrArg some es.symm
          have := List.getElem?_inj (i := j) (j := i) (List.getElem?_eq_some_iff.mp h1).1 hv.inj |>.mp (h1.trans h2.symm)
          omega
        rw [this]
        exact if_pos es.symm
      · rw [if_neg es]
        cases invM (m.take i) s with
        | some x => rfl
        | none => exact if_neg fun z => es z.symm
    · obtain ⟨T, y, z, rfl, hT, rfl, hy, hz⟩ := y
      rw [List.length_map] at hi
      have hg : m[i]? = some m[i] := List.getElem?_eq_getElem hi
      have hgd : m.getD i (0, 0) = m[i] := by
        rw [List.getD_eq_getElem?_getD, hg]
        rfl
      have hy' : y = vn m[i].1 := by
        have hy : Option.map (fun kv : Key × V => kV kv.1) (m.map pk)[i]? = some y := hy
        rw [List.getElem?_map, hg] at hy
        exact (Option.some.inj hy).symm
      have hz' : z = vn m[i].2 := by
        have hz : Option.map Prod.snd (m.map pk)[i]? = some z := hz
        rw [List.getElem?_map, hg] at hz
        exact (Option.some.inj hz).symm
      subst hy' hz'
      refine ⟨Same.new hT, T, _, rfl, SqT.of upd_same, rfl, _, _, rfl, _, _, rfl, rfl, rfl, _, rfl, _, rfl, ?_⟩
      have := kd _ (Same.refl _)
      rw [hgd] at this
      exact this
    rw [List.length_map, List.take_length] at hD6
    refine ⟨e6 _ _ upd_same, k D _ (fun p o h => ?_) hD0 ?_⟩
    · by_cases c : p = d
      · rw [c, upd_same, ← h, c, hD.1]
      · rw [upd_ne c]
        exact e6 _ _ (by rw [upd_ne c]; exact h)
    · obtain ⟨kvs, q1, q2, q3⟩ := hD6
      exact ⟨kvs, by rw [upd_ne nD]; exact q1, by omega, q3⟩
end HB
namespace HB
open PySem PySem.Spec PyProof.Rows L2
def sp_origin_of (K : PySem.W.Frag) : Sp := fun vs H Q _ => ∃ (a : Addr) (bs : List BO) (k r s : Nat), vs = [.ref a, vn k, vn r, vn s] ∧ IsBs (He.ga K "Block") H a bs ∧ ChB bs 0 ∧ ChM bs 0 ∧ NodeOk bs k r s ∧
  ∀ (T : Addr) (k' r' s' : Nat) H', Same H H' → Up bs (k, r, s) (k', r', s') → par bs (k', r', s') = none → NodeOk bs k' r' s' → H' T = some (.tup (nv [k', r', s'])) → Q (.ref T) H'
theorem sc_origin_of : FnScope ["blocks", "number", "repetition", "symbol", "chain", "is_cycle", "first"] ["blocks", "number", "repetition", "symbol"] (defScope s_origin_of) := C8.fnScope_by (by decide +kernel)
theorem c_origin_of {P : Program} {w : World} {K : PySem.W.Frag} {mg : Str → Option Value} {base : Heap} (t : Tx K mg) : C8.Cal P w K mg base 2 "origin_of" (sp_origin_of K) [] := by
  obtain ⟨fd, F⟩ := t.f_origin_of
  have nd := sc_origin_of.nd
  refine ⟨_, fd, ["blocks", "number", "repetition", "symbol"], [], F.ok sc_origin_of (fun vs H Q E h => ?_) (fun cdv A outer s H vs Q E hr h => ?_), t.glo_origin_of, F.kp, F.bindsN (fun _ _ _ _ _ _ us hl => match us, hl with | [_, _, _, _], _ => rfl), .nil⟩
  · obtain ⟨a, bs, k0, r0, s0, rfl, ⟨us, hU, hlen, hR⟩, hc, hM, hN0, k⟩ := h
    rfl
  · obtain ⟨a, bs, k0, r0, s0, rfl, ⟨us, hU, hlen, hR⟩, hc, hM, hN0, k⟩ := h
    have hu := hu_of hr
    refine ⟨_, PSs.nox (pss_one (ps_while PassesOwn.never (pt_val pe_bl) (pss_cons (ps_asg (C8.pe_c (c_chain_from t) hr (by decide) rfl (pa_cons (pe_fld (pe_ix ix_list (pv 0) (pv 1) (fun _ _ => rfl)) rfl) (pa_cons (pv 3) pa_nil))) (pg_tup rfl (pgs_cons (pg_name (i := 4) nd rfl (Or.inl rfl)) (pgs_cons (pg_name (i := 5) nd rfl (Or.inl rfl)) pgs_nil))))
        (pss_cons (ps_if (PW.pt (pw_and (pt_not (pt_val (pv 5))) (pw_and1 (pt_cmpR op_ge (pv 2) (pe_callB call_len_seq (by rfl) t.free_len (by decide +kernel) (pa_cons (pv 4) pa_nil)) (nomark _))))) (pss_one (ps_ret (pe_tup (pa_cons (pv 1) (pa_cons (pe_op op_add (pe_op op_subN (pv 2) (pe_callB call_len_seq (by rfl) t.free_len (by decide +kernel) (pa_cons (pv 4) pa_nil))) pe_int) (pa_cons (pe_ix ix_list (pv 4) (pe_un un_neg pe_int) (fun _ _ => rfl)) pa_nil)))))) pss_nil)
        (pss_cons (ps_set (i := 6) nd rfl (Or.inl rfl) (pe_ix ix_list (pv 4) (pe_op op_mod (pv 2) (pe_callB call_len_seq (by rfl) t.free_len (by decide +kernel) (pa_cons (pv 4) pa_nil))) (fun _ _ => rfl)))
        (pss_cons (ps_if (pt_cmp (pc_dnotin hu (pv 6) (pe_fld (pe_ix ix_list (pv 0) (pv 1) (fun _ _ => rfl)) rfl))) (pss_one (ps_ret (pe_tup (pa_cons (pv 1) (pa_cons pe_int (pa_cons (pv 6) pa_nil)))))) pss_nil)
        (pss_cons (ps_set (i := 3) nd rfl (Or.inl rfl) (pe_dget hu (pe_fld (pe_ix ix_list (pv 0) (pv 1) (fun _ _ => rfl)) rfl) (pv 6) (fun _ _ => rfl)))
        (pss_cons (ps_aug (i := 1) nd rfl (Or.inl rfl) pe_int ip_subN)
        (pss_one (ps_set (i := 2) nd rfl (Or.inl rfl) (pe_op op_subN (pe_fld (pe_ix ix_list (pv 0) (pv 1) (fun _ _ => rfl)) rfl) pe_int))))))))))), ?_⟩
    have hone : ∀ (i : Nat) B, bs[i]? = some B → 1 ≤ B.reps := fun i B h => (chB_get hc h).one
    have item : ∀ {i : Nat} {B : BO}, bs[i]? = some B → ∃ ba, us[i]? = some (.ref ba) ∧ IsBO (He.ga K "Block") H ba B := fun {i B} h => by
      have hi : i < us.length := by rw [hlen]; exact (List.getElem?_eq_some_iff.mp h).1
      obtain ⟨ba, e1, e2⟩ := hR i B _ h (List.getElem?_eq_getElem hi)
      exact ⟨ba, by rw [List.getElem?_eq_getElem hi, e1], e2⟩
    refine ⟨fun m σ H' => ∃ (k r s : Nat) (w4 w5 w6 : Option V), m = k ∧ σ = [some (.ref a), some (vn k), some (vn r), some (vn s), w4, w5, w6] ∧ Same H H' ∧ Up bs (k0, r0, s0) (k, r, s), ⟨k0, k0, r0, s0, none, none, none, rfl, rfl, Same.refl _, .refl _⟩, ?_⟩
    rintro m σ H1 ⟨kk, r, s, w4, w5, w6, rfl, rfl, e, hup⟩
    obtain ⟨B, hB, hr', hs⟩ := up_ok hM hone hup hN0
    have hr' : r < B.reps := hr'
    have hs : s < nz B.base := hs
    have hB : bs[m]? = some B := hB
    obtain ⟨ba, hub, hBO⟩ := item hB
    obtain ⟨hMt, h40, -⟩ := chM_turn hM hB
    obtain ⟨dx, b, i', li, tu, lo, la, fi, h0, h1, h2, h3, h4, h5, h6, h7⟩ := id hBO
    refine ⟨true, rfl, iteT ⟨fun σ' H' => ∃ (k r s : Nat) (w4 w5 w6 : Option V), k < m ∧ σ' = [some (.ref a), some (vn k), some (vn r), some (vn s), w4, w5, w6] ∧ Same H H' ∧ Up bs (k0, r0, s0) (k, r, s), fun σ' H' ⟨k, r, s, w4, w5, w6, h1, h2⟩ => ⟨k, h1, k, r, s, w4, w5, w6, rfl, h2⟩, ?_⟩⟩
    refine ⟨_, rfl, _, rfl, a, us, _, .ref ba, rfl, rfl, sl (e _ _ hU), atI_nat hub, ba, _, dx, _, .ref tu, rfl, e _ _ h0, t.cls_Block, t.noat_Block_turned, bfs_turned, _, rfl, tu, lk B.turned, s, nz B.base, rfl, (h4.mono e).df, lk_inj hMt, fun x y h => (hMt.lt _ (lk_mem h)).2, hs, h40, fun T q ch cyc H2 e2 hq hC hT hL => ?_⟩
    have e' := e.trans e2
    have hp := hC.pos
    have up := up_chain (r := r) hB hC
    refine ⟨T, _, rfl, SqT.of hT, rfl, _, _, rfl, _, _, rfl, rfl, ?_⟩
    have hmod : r % ch.length < ch.length := Nat.mod_lt _ hp
    have tail : (cyc = true ∨ r < ch.length) → ∃ f0, ch.getD (r % ch.length) 0 = f0 ∧ Up bs (k0, r0, s0) (m, 0, f0) ∧ NodeOk bs m 0 f0 ∧ (lk B.linked f0 = none → par bs (m, 0, f0) = none) ∧ (∀ u, lk B.linked f0 = some u → ∃ n A, m = n + 1 ∧ bs[n]? = some A ∧ par bs (m, 0, f0) = some (n, A.reps - 1, u)) := fun hcy => by
      have u1 := up r (Nat.le_refl _) hcy
      rw [Nat.sub_self] at u1
      have u2 := up_trans hup u1
      refine ⟨_, rfl, u2, up_ok hM hone u2 hN0, fun hl => ?_, fun u hl => ?_⟩
      · cases m with
        | zero => rfl
        | succ n =>
          have hn : n < bs.length := by
            have := (List.getElem?_eq_some_iff.mp hB).1
            omega
          show (match bs[n + 1]?, bs[n]? with
            | some B, some A => (lk B.linked _).map fun t => (n, A.reps - 1, t)
            | _, _ => none) = none
          rw [hB, List.getElem?_eq_getElem hn]
          show (lk B.linked _).map _ = none
          rw [hl]
          rfl
      · cases m with
        | zero =>
          rw [chM_link0 hM hB] at hl
          cases hl
        | succ n =>
          have hn : n < bs.length := by
            have := (List.getElem?_eq_some_iff.mp hB).1
            omega
          refine ⟨n, bs[n], rfl, List.getElem?_eq_getElem hn, ?_⟩
          show (match bs[n + 1]?, bs[n]? with
            | some B, some A => (lk B.linked _).map fun t => (n, A.reps - 1, t)
            | _, _ => none) = _
          rw [hB, List.getElem?_eq_getElem hn]
          show (lk B.linked _).map _ = _
          rw [hl]
          rfl
    refine ⟨_, rfl, _, rfl, ?_⟩
    cases cyc with
    | false =>
      refine iteT ⟨_, rfl, _, rfl, q, _, rfl, .inl (sl hL), _, _, rfl, rfl, _, rfl, if_dec (fun h => ?_) (fun h => ?_)⟩
      · rw [nv_len] at h
        have h : ch.length ≤ r := by omega
        have hl : ch.getLast? = some (ch.getD (ch.length - 1) 0) := by
          rw [List.getLast?_eq_getElem?]
          exact getD_some (by omega)
        refine ⟨_, rfl, _, rfl, _, rfl, q, _, rfl, .inl (sl hL), r, ch.length, rfl, by rw [nv_len], h, _, _, rfl, rfl, _, rfl, _, rfl, q, _, _, vn (ch.getD (ch.length - 1) 0), rfl, rfl, sl hL, ix_last (by unfold nv; rw [List.getLast?_map, hl]; rfl), by show 3 ≤ sizeLine; decide, fun T2 hT2 => ?_⟩
        have u1 := up (ch.length - 1) (by omega) (.inr (by omega))
        rw [Nat.mod_eq_of_lt (by omega), show r - (ch.length - 1) = r - ch.length + 1 by omega] at u1
        have u2 := up_trans hup u1
        refine k T2 m (r - ch.length + 1) (ch.getD (ch.length - 1) 0) _ (e'.trans (Same.new hT2)) u2 ?_ (up_ok hM hone u2 hN0) upd_same
        show (match bs[m]? with
          | some B => (lk B.turned _).map fun t => (m, r - ch.length, t)
          | none => none) = none
        rw [hB]
        show (lk B.turned _).map _ = none
        rw [hC.last _ hl]
        rfl
      · rw [nv_len] at h
        obtain ⟨f0, hf0, t1, t2, t3, t4⟩ := tail (.inr (by omega))
        have hix : atI (nv ch) ((r : Int) % (ch.length : Int)) = some (vn f0) := by
          have := nv_ix hmod
          rw [hf0] at this
          exact this
        refine ⟨_, rfl, _, rfl, _, rfl, q, _, rfl, .inl (sl hL), _, (ch.length : Int), rfl, by rw [nv_len], by omega, q, _, _, vn f0, rfl, rfl, sl hL, hix, ?_⟩
        have hg := (h3.mono e').df.get f0
        refine ⟨_, rfl, _, rfl, _, rfl, a, us, _, .ref ba, rfl, rfl, sl (e' _ _ hU), atI_nat hub, ba, _, dx, _, .ref li, rfl, e' _ _ h0, t.cls_Block, t.noat_Block_linked, bfs_linked, li, _, rfl, hg, _, rfl, ?_⟩
        cases hlk : lk B.linked f0 with
        | none =>
          refine iteT ⟨_, rfl, _, rfl, by show 3 ≤ sizeLine; decide, fun T2 hT2 => ?_⟩
          exact k T2 m 0 f0 _ (e'.trans (Same.new hT2)) t1 (t3 hlk) t2 upd_same
        | some u =>
          obtain ⟨n, A, rfl, hA, hpar⟩ := t4 u hlk
          obtain ⟨ba2, hub2, hBO2⟩ := item hA
          obtain ⟨dx2, b2, i2, li2, tu2, lo2, la2, fi2, g0, -⟩ := id hBO2
          have hA1 := hone _ _ hA
          rw [hlk] at hg
          refine iteF ⟨_, rfl, _, rfl, a, us, _, .ref ba, rfl, rfl, sl (e' _ _ hU), atI_nat hub, ba, _, dx, _, .ref li, rfl, e' _ _ h0, t.cls_Block, t.noat_Block_linked, bfs_linked, _, rfl, li, vn u, rfl, hg, ?_⟩
          refine ⟨_, rfl, n + 1, 1, rfl, rfl, by omega, ?_⟩
          refine ⟨_, rfl, _, rfl, a, us, (n : Int), .ref ba2, rfl, rfl, sl (e' _ _ hU), atI_nat hub2, ba2, _, dx2, _, vn A.reps, rfl, e' _ _ g0, t.cls_Block, t.noat_Block_repetitions, bfs_reps, A.reps, 1, rfl, rfl, hA1, ?_⟩
          exact ⟨n, A.reps - 1, u, _, _, _, by omega, rfl, e', t1.snoc hpar⟩
    | true =>
      refine iteF ?_
      obtain ⟨f0, hf0, t1, t2, t3, t4⟩ := tail (.inl rfl)
      have hix : atI (nv ch) ((r : Int) % (ch.length : Int)) = some (vn f0) := by
        have := nv_ix hmod
        rw [hf0] at this
        exact this
      refine ⟨_, rfl, _, rfl, _, rfl, q, _, rfl, .inl (sl hL), _, (ch.length : Int), rfl, by rw [nv_len], by omega, q, _, _, vn f0, rfl, rfl, sl hL, hix, ?_⟩
      have hg := (h3.mono e').df.get f0
      refine ⟨_, rfl, _, rfl, _, rfl, a, us, _, .ref ba, rfl, rfl, sl (e' _ _ hU), atI_nat hub, ba, _, dx, _, .ref li, rfl, e' _ _ h0, t.cls_Block, t.noat_Block_linked, bfs_linked, li, _, rfl, hg, _, rfl, ?_⟩
      cases hlk : lk B.linked f0 with
      | none =>
        refine iteT ⟨_, rfl, _, rfl, by show 3 ≤ sizeLine; decide, fun T2 hT2 => ?_⟩
        exact k T2 m 0 f0 _ (e'.trans (Same.new hT2)) t1 (t3 hlk) t2 upd_same
      | some u =>
        obtain ⟨n, A, rfl, hA, hpar⟩ := t4 u hlk
        obtain ⟨ba2, hub2, hBO2⟩ := item hA
        obtain ⟨dx2, b2, i2, li2, tu2, lo2, la2, fi2, g0, -⟩ := id hBO2
        have hA1 := hone _ _ hA
        rw [hlk] at hg
        refine iteF ⟨_, rfl, _, rfl, a, us, _, .ref ba, rfl, rfl, sl (e' _ _ hU), atI_nat hub, ba, _, dx, _, .ref li, rfl, e' _ _ h0, t.cls_Block, t.noat_Block_linked, bfs_linked, _, rfl, li, vn u, rfl, hg, ?_⟩
        refine ⟨_, rfl, n + 1, 1, rfl, rfl, by omega, ?_⟩
        refine ⟨_, rfl, _, rfl, a, us, (n : Int), .ref ba2, rfl, rfl, sl (e' _ _ hU), atI_nat hub2, ba2, _, dx2, _, vn A.reps, rfl, e' _ _ g0, t.cls_Block, t.noat_Block_repetitions, bfs_reps, A.reps, 1, rfl, rfl, hA1, ?_⟩
        exact ⟨n, A.reps - 1, u, _, _, _, by omega, rfl, e', t1.snoc hpar⟩
def sp_run_init (K : PySem.W.Frag) : Sp := fun vs H Q _ => ∃ (x dx ba : Addr) (B : BO) (st s : Nat), vs = [.ref x, .ref ba, vn st, vn s] ∧ H x = some (.ins (He.ga K "Run") dx []) ∧ IsBO (He.ga K "Block") (hid x H) ba B ∧ OkB B ∧ ValidM B.turned (nz B.base) (nz B.base) ∧ nz B.base ≤ 40 ∧ st < B.reps ∧ s < nz B.base ∧
  ∀ R H', SameBut x H H' → RunOf B st s R → (∀ H2, (∀ q o, (H q = none ∨ q = x) → H' q = some o → H2 q = some o) → IsBO (He.ga K "Block") H2 ba B → IsRun (He.ga K "Run") (He.ga K "Block") H2 x R) → Q .non H'
theorem sc_run_init : FnScope ["self", "block", "start", "symbol", "is_cycle", "left", "link", "offset", "one"] ["self", "block", "start", "symbol"] (defScope s_run_init) := C8.fnScope_by (by decide +kernel)
theorem m_Run {P : Program} {w : World} {K : PySem.W.Frag} {mg : Str → Option Value} {base : Heap} (t : Tx K mg) : C8.Mak P w K mg base 2 "Run" (He.ga K "Run") (sp_run_init K) [] := by
  obtain ⟨fd, F⟩ := t.f_run_init
  have nd := sc_run_init.nd
  refine ⟨_, fd, ["self", "block", "start", "symbol"], [], t.mkr_Run, F.ok sc_run_init (fun vs H Q E h => ?_) (fun cdv A outer s H vs Q E hr h => ?_), t.glo_Run, F.bindsN (fun _ _ _ _ _ _ us hl => match us, hl with | [_, _, _, _], _ => rfl), .nil⟩
  · obtain ⟨x, dx, ba, B, st, s', rfl, h0, hB, hO, hV, h40, hst, hs, k⟩ := h
    rfl
  · obtain ⟨x, dx, ba, B, st, s', rfl, h0, hB, hO, hV, h40, hst, hs, k⟩ := h
    have hu := hu_of hr
    refine ⟨_, PSs.nox (pss_cons (ps_fld (pv 0) (pv 1) rfl)
        (pss_cons (ps_fld (pv 0) (pv 2) rfl)
        (pss_cons (ps_asg (C8.pe_c (c_chain_from t) hr (by decide) rfl (pa_cons (C8.pe_c (c_inverse t) hr (by decide) rfl (pa_cons (pe_fld (pv 1) rfl) pa_nil)) (pa_cons (pv 3) pa_nil))) (pg_tup rfl (pgs_cons (pg_fld (pv 0)) (pgs_cons (pg_name (i := 4) nd rfl (Or.inl rfl)) pgs_nil))))
        (pss_cons (ps_set (i := 5) nd rfl (Or.inl rfl) (pe_op op_subN (pe_fld (pv 1) rfl) (pv 2)))
        (pss_cons (ps_fld (pv 0) (pe_ifExp (pt_val (pv 4)) (pv 5) (pe_callB (call_min2 rfl) (by rfl) t.free_min (by decide +kernel) (pa_cons (pv 5) (pa_cons (pe_callB call_len_seq (by rfl) t.free_len (by decide +kernel) (pa_cons (pe_fld (pv 0) rfl) pa_nil)) pa_nil)))) rfl)
        (pss_one (ps_fld (pv 0) (pe_lc (own := [("link", 6)]) (g := (gName 6)) (tt := tYes) (te := (tLc (iEnum K (tCons (tFld K (tVar 1) "ids") tNil)) (gTup K 2 (gCons (gName 7) (gCons (gName 8) gNil))) (tTest (tOp rEq (tVar 8) (tVar 6))) (tVar 7) [7, 8])) rfl nd  (pi_list (pe_fld (pv 0) rfl)) (blkOk_by (by kernel_rfl)) (fun _ _ _ _ _ => (pg_name (i := 6) nd rfl (Or.inr rfl))) (fun _ _ _ _ _ => pts_nil) (fun _ _ _ _ _ => (pe_lc (own := [("offset", 7), ("one", 8)]) (g := (gTup K 2 (gCons (gName 7) (gCons (gName 8) gNil)))) (tt := (tTest (tOp rEq (tVar 8) (tVar 6)))) (te := (tVar 7)) rfl nd  (pi_enum (by rfl) t.free_enumerate (pa_cons (pe_fld (pv 1) rfl) pa_nil)) (blkOk_by (by kernel_rfl)) (fun _ _ _ _ _ => (pg_tup rfl (pgs_cons (pg_name (i := 7) nd rfl (Or.inl rfl)) (pgs_cons (pg_name (i := 8) nd rfl (Or.inl rfl)) pgs_nil)))) (fun _ _ _ _ _ => (pts_one (pt_cmpR op_eq (pv 8) (pv 6) (nomark _)))) (fun _ _ _ _ _ => (pv 7))))) rfl))))))), ?_⟩
    have cR := t.cls_Run
    have bpos := hO.pos
    have bmost := hO.most
    have hids : B.ids.length = B.size := by rw [hO.ids, ids_len, hO.base]
    obtain ⟨dxb, xb, xi, xli, xtu, xlo, xla, xfi, b0, b1, b2, b3, b4, b5, b6, b7⟩ := id hB
    generalize hH0 : hid x H = H0 at *
    have x0 : H0 x = none := by rw [← hH0]; exact hid_self
    have hle : Same H0 H := by rw [← hH0]; exact hid_le
    refine ⟨_, rfl, _, rfl, x, _, dx, [], rfl, h0, cR, t.noat_Run_block, by decide, ?_⟩
    refine ⟨_, rfl, _, rfl, x, _, dx, _, rfl, upd_same, cR, t.noat_Run_start, by exact Nat.lt_of_le_of_lt (show _ ≤ 1 from Nat.le_refl _) (by decide), ?_⟩
    generalize hG : upd (upd H x _) x _ = G2
    have g2 : G2 x = some (.ins (He.ga K "Run") dx (putF "start" (vn st) (putF "block" (.ref ba) []))) := by rw [← hG]; exact upd_same
    have E2 : Same H0 G2 := by rw [← hG]; exact Same.mut (Same.mut hle x0) x0
    clear hG
    refine ⟨_, rfl, ba, _, dxb, _, .ref xtu, rfl, E2 _ _ b0, t.cls_Block, t.noat_Block_turned, bfs_turned, xtu, B.turned, nz B.base, nz B.base, rfl, b4.mono E2, hV, fun p H3 e3 hp hDF => ?_⟩
    refine ⟨_, rfl, p, invM B.turned, s', nz B.base, rfl, hDF, invM_inj hV, fun a c h => (hV.lt _ (invM_mem h)).1, hs, h40, fun T q ch cyc H4 e4 hq hC hT hL => ?_⟩
    have E4 := (E2.trans e3).trans e4
    have g4 := (e3.trans e4) _ _ g2
    have hq2 : G2 q = none := e3.free hq
    have nq : q ≠ x := ne_x g2 hq2
    have hp1 := hC.pos
    have few := hC.few
    refine ⟨T, _, rfl, SqT.of hT, rfl, _, _, rfl, _, rfl, x, _, dx, _, rfl, g4, cR, t.noat_Run_chain, by exact Nat.lt_of_le_of_lt (show _ ≤ 2 from Nat.le_refl _) (by decide), _, _, rfl, rfl, ?_⟩
    generalize hG : upd H4 x _ = G5
    have g5 : G5 x = some (.ins (He.ga K "Run") dx (putF "chain" (.ref q) (putF "start" (vn st) (putF "block" (.ref ba) [])))) := by rw [← hG]; exact upd_same
    have E5 : Same H0 G5 := by rw [← hG]; exact Same.mut E4 x0
    have hL5 : IsL G5 q ch := by
      rw [← hG]
      show upd _ _ _ q = _
      rw [upd_ne nq]
      exact hL
    have q0 : H0 q = none := E2.free hq2
    clear hG g4 hT hL E4
    refine ⟨_, rfl, ba, _, dxb, _, vn B.reps, rfl, E5 _ _ b0, t.cls_Block, t.noat_Block_repetitions, bfs_reps, _, rfl, B.reps, st, rfl, rfl, by omega, ?_⟩
    dsimp only
    unfold sFld
    refine val1 (vn (if cyc = true then B.reps - st else min (B.reps - st) ch.length)) (fun Q q' => ?_) ?_
    · refine ⟨_, rfl, cyc, rfl, ?_⟩
      cases cyc with
      | true => exact iteT ⟨_, rfl, q'⟩
      | false =>
        refine iteF ⟨_, rfl, _, rfl, x, _, dx, _, .ref q, rfl, g5, cR, t.noat_Run_chain, by kernel_rfl, q, _, rfl, .inl (sl hL5), _, _, rfl, ?_⟩
        have e : (if (((nv ch).length : Nat) : Int) < ((B.reps - st : Nat) : Int) then (((nv ch).length : Nat) : Int) else ((B.reps - st : Nat) : Int)) = ((min (B.reps - st) ch.length : Nat) : Int) := by
          rw [nv_len, int_min]
        rw [e]
        exact q'
    generalize hcn : (if cyc = true then B.reps - st else min (B.reps - st) ch.length) = cn
    refine ⟨_, rfl, x, _, dx, _, rfl, g5, cR, t.noat_Run_count, by exact Nat.lt_of_le_of_lt (show _ ≤ 3 from Nat.le_refl _) (by decide), ?_⟩
    generalize hG : upd G5 x _ = G6
    have g6 : G6 x = some (.ins (He.ga K "Run") dx (putF "count" (vn cn) (putF "chain" (.ref q) (putF "start" (vn st) (putF "block" (.ref ba) []))))) := by rw [← hG]; exact upd_same
    have E6 : Same H0 G6 := by rw [← hG]; exact Same.mut E5 x0
    have hL6 : IsL G6 q ch := by
      rw [← hG]
      show upd _ _ _ q = _
      rw [upd_ne nq]
      exact hL5
    clear hG hL5 g5 E5
    refine ⟨_, rfl, x, _, dx, _, .ref q, rfl, g6, cR, t.noat_Run_chain, by kernel_rfl, q, rfl, ⟨_, sl hL6⟩, fun D hD => ?_⟩
    have nD : D ≠ x := ne_x g6 hD
    refine lc_obj walk_list (fun i y H' => ∃ p, y = .ref p ∧ H0 p = none ∧ p ≠ x ∧ IsL H' p (offs B.ids (ch.getD i 0))) (fun i y H' H'' e ⟨p, h1, h2, h3, h4⟩ => ⟨p, h1, h2, h3, h4.mono e⟩) (by rw [nv_len]; omega) hD (fun H' e => sl (hL6.mono e)) (fun i y H2 H3 Ky Kn hi e hne yy ky => ?_) fun H7 ys e7 hys hyl hyR => ?_
    · obtain ⟨rfl, hx⟩ := yy
      obtain ⟨n, hn, rfl⟩ := nv_get hx
      have hg := getD_of hn
      have E' := E6.trans e
      refine ⟨Same.refl _, rfl, _, rfl, ba, _, dxb, _, .ref xi, rfl, E' _ _ b0, t.cls_Block, t.noat_Block_ids, bfs_ids, xi, _, rfl, sl (E' _ _ b2), fun D2 hD2 => ?_⟩
      refine lc_val walk_enum (fun j => (if B.ids.getD j 0 = n then some j else none : Option Nat).map vn) (by rw [nv_len]; omega) hD2 (fun H' e => sl (e _ _ (E' _ _ b2))) (fun j z H4 H5 Ky' Kn' hj e' yy ky' kn' => ?_) fun H4 e' hl4 => ?_
      · obtain ⟨T2, y1, z1, rfl, hT2, rfl, hy1, hz1⟩ := yy
        cases hy1
        obtain ⟨n1, hn1, rfl⟩ := nv_get hz1
        have hg1 := getD_of hn1
        refine ⟨Same.new hT2, T2, _, rfl, SqT.of upd_same, rfl, _, _, rfl, _, _, rfl, rfl, rfl, _, rfl, _, rfl, rfl, _, rfl, if_eq (fun h => ?_) (fun h => ?_)⟩
        · exact ⟨_, rfl, ky' _ (Same.refl _) _ (by rw [hg1, if_pos h]; rfl)⟩
        · exact kn' _ (Same.refl _) (by rw [hg1, if_neg h]; rfl)
      rw [fm_nv, nv_len] at hl4
      have nD2 : D2 ≠ D := fun z => hne (by rw [← z]; exact hD2)
      refine ky H4 e' (.ref D2) ⟨D2, rfl, E'.free hD2, fun z => ?_, ?_⟩
      · rw [z] at hD2
        rw [e _ _ g6] at hD2
        cases hD2
      · rw [hg]
        show hid D H4 D2 = _
        rw [hid_at nD2]
        exact hl4
    · refine ⟨_, rfl, x, _, dx, _, rfl, e7 _ _ g6, cR, t.noat_Run_offsets, by exact Nat.lt_of_le_of_lt (show _ ≤ 4 from Nat.le_refl _) (by decide), ?_⟩
      generalize hG : upd H7 x _ = G8
      have g8 : G8 x = some (.ins (He.ga K "Run") dx (rfs ba st q cn D)) := by rw [← hG]; exact upd_same
      have E8 : Same H0 G8 := by rw [← hG]; exact Same.mut (E6.trans e7) x0
      have hL8 : G8 q = some (.lst (nv ch)) := by
        rw [← hG, upd_ne nq]
        exact e7 _ _ hL6
      have hys8 : G8 D = some (.lst ys) := by rw [← hG, upd_ne nD]; exact hys
      have D0 : H0 D = none := E6.free hD
      have fr : ∀ p, H0 p = none → p ≠ x → H p = none := fun p h n => by
        rw [← hH0, hid_at n] at h
        exact h
      refine k ⟨B, st, ch, cn⟩ G8 (fun p o n h => E8 p o (by rw [← hH0, hid_at n]; exact h)) ⟨rfl, rfl, cyc, hC, hcn.symm⟩ fun H2 hh hBO => ⟨dx, ba, q, D, hh _ _ (.inr rfl) g8, hBO, hh _ _ (.inl (fr q q0 nq)) hL8, ys, hh _ _ (.inl (fr D D0 nD)) hys8, ?_, fun i xs v hxs hv => ?_⟩
      · rw [hyl, nv_len, List.length_map]
      · obtain ⟨p, h1, h2, h3, h4⟩ := hyR i v hv
        rw [List.getElem?_map] at hxs
        obtain ⟨n, hn, rfl⟩ := Option.map_eq_some_iff.mp hxs
        rw [getD_of hn] at h4
        have h5 := hid_le _ _ h4
        exact ⟨p, h1, hh _ _ (.inl (fr p h2 h3)) (by rw [← hG, upd_ne h3]; exact h5)⟩
def sp_run_reaches_end (K : PySem.W.Frag) : Sp := fun vs H Q _ => ∃ (a : Addr) (R : RunP), vs = [.ref a] ∧ IsRun (He.ga K "Run") (He.ga K "Block") H a R ∧ RetV (.bl (decide (R.start + R.cnt = R.B.reps))) H Q
theorem sc_run_reaches_end : FnScope ["self"] ["self"] (defScope s_run_reaches_end) := C8.fnScope_by (by decide +kernel)
theorem me_run_reaches_end {P : Program} {w : World} {K : PySem.W.Frag} {mg : Str → Option Value} {base : Heap} (t : Tx K mg) : C8.Met P w K mg base 1 (He.ga K "Run") "reaches_end" (sp_run_reaches_end K) [] := by
  obtain ⟨fd, F⟩ := t.f_run_reaches_end
  have nd := sc_run_reaches_end.nd
  refine ⟨_, fd, ["self"], [], t.cls_Run, t.meth_run_reaches_end, F.ok sc_run_reaches_end (fun vs H Q E h => ?_) (fun cdv A outer s H vs Q E hr h => ?_), F.bindsN (fun _ _ _ _ _ _ us hl => match us, hl with | [_], _ => rfl), .nil⟩
  · obtain ⟨a, R, rfl, hR, k⟩ := h
    rfl
  · obtain ⟨a, R, rfl, hR, k⟩ := h
    have hu := hu_of hr
    refine ⟨_, PSs.nox (pss_one (ps_ret (pe_cmpR op_eq (pe_op op_add (pe_fld (pv 0) rfl) (pe_fld (pv 0) rfl)) (pe_fld (pe_fld (pv 0) rfl) rfl) (nomark _)))), ?_⟩
    obtain ⟨dx, ba, q, ofs, h0, hB, hL, hI⟩ := id hR
    obtain ⟨dxb, xb, xi, xli, xtu, xlo, xla, xfi, b0, -⟩ := id hB
    have cR := t.cls_Run
    refine ⟨_, rfl, a, _, dx, _, vn R.start, rfl, h0, cR, t.noat_Run_start, rfs_start, _, rfl, a, _, dx, _, vn R.cnt, rfl, h0, cR, t.noat_Run_count, rfs_count, _, _, rfl, rfl, _, rfl, a, _, dx, _, .ref ba, rfl, h0, cR, t.noat_Run_block, rfs_block, ba, _, dxb, _, vn R.B.reps, rfl, b0, t.cls_Block, t.noat_Block_repetitions, bfs_reps, rfl, ?_⟩
    have e : decide (V.int ((R.start : Int) + (R.cnt : Int)) = vn R.B.reps) = decide (R.start + R.cnt = R.B.reps) := by
      show decide (vn (R.start + R.cnt) = vn R.B.reps) = _
      by_cases h : R.start + R.cnt = R.B.reps
      · rw [h, decide_eq_true rfl, decide_eq_true rfl]
      · rw [decide_eq_false h, decide_eq_false fun z => h (vn_inj z)]
    show Q (V.bl (decide (V.int ((R.start : Int) + (R.cnt : Int)) = vn R.B.reps))) H
    rw [e]
    exact k.go (Same.refl _)
def sp_run_last_symbol (K : PySem.W.Frag) : Sp := fun vs H Q _ => ∃ (a : Addr) (R : RunP), vs = [.ref a] ∧ IsRun (He.ga K "Run") (He.ga K "Block") H a R ∧ RunFine R ∧ RetV (vn (R.ch.getD ((R.cnt - 1) % R.ch.length) 0)) H Q
theorem sc_run_last_symbol : FnScope ["self"] ["self"] (defScope s_run_last_symbol) := C8.fnScope_by (by decide +kernel)
theorem me_run_last_symbol {P : Program} {w : World} {K : PySem.W.Frag} {mg : Str → Option Value} {base : Heap} (t : Tx K mg) : C8.Met P w K mg base 1 (He.ga K "Run") "last_symbol" (sp_run_last_symbol K) [] := by
  obtain ⟨fd, F⟩ := t.f_run_last_symbol
  have nd := sc_run_last_symbol.nd
  refine ⟨_, fd, ["self"], [], t.cls_Run, t.meth_run_last_symbol, F.ok sc_run_last_symbol (fun vs H Q E h => ?_) (fun cdv A outer s H vs Q E hr h => ?_), F.bindsN (fun _ _ _ _ _ _ us hl => match us, hl with | [_], _ => rfl), .nil⟩
  · obtain ⟨a, R, rfl, hR, hF, k⟩ := h
    rfl
  · obtain ⟨a, R, rfl, hR, hF, k⟩ := h
    have hu := hu_of hr
    refine ⟨_, PSs.nox (pss_one (ps_ret (pe_ix ix_list (pe_fld (pv 0) rfl) (pe_op op_mod (pe_op op_subN (pe_fld (pv 0) rfl) pe_int) (pe_callB call_len_seq (by rfl) t.free_len (by decide +kernel) (pa_cons (pe_fld (pv 0) rfl) pa_nil))) (fun _ _ => rfl)))), ?_⟩
    obtain ⟨dx, ba, q, ofs, h0, hB, hL, hI⟩ := id hR
    have cR := t.cls_Run
    have hp := hF.pos
    have h1 := hF.one
    have hmod : (R.cnt - 1) % R.ch.length < R.ch.length := Nat.mod_lt _ hp
    exact ⟨_, rfl, a, _, dx, _, .ref q, rfl, h0, cR, t.noat_Run_chain, rfs_chain, _, rfl, a, _, dx, _, vn R.cnt, rfl, h0, cR, t.noat_Run_count, rfs_count, R.cnt, 1, rfl, rfl, h1, _, rfl, a, _, dx, _, .ref q, rfl, h0, cR, t.noat_Run_chain, rfs_chain, q, _, rfl, .inl (sl hL), _, (R.ch.length : Int), rfl, by rw [nv_len], by omega,
      q, _, _, vn (R.ch.getD ((R.cnt - 1) % R.ch.length) 0), rfl, rfl, sl hL, nv_ix hmod, k.go (Same.refl _)⟩
theorem nat_sum (xs : List Nat) : (xs.map fun n : Nat => (n : Int)).sum = ((xs.sum : Nat) : Int) := by
  induction xs with
  | nil => rfl
  | cons x r ih => rw [List.map_cons, List.sum_cons, List.sum_cons, ih]; rfl
def sp_run_occurrences_in (K : PySem.W.Frag) : Sp := fun vs H Q _ => ∃ (a : Addr) (R : RunP) (n : Nat), vs = [.ref a, vn n] ∧ IsRun (He.ga K "Run") (He.ga K "Block") H a R ∧ RunFine R ∧ RetV (vn (R.occ n)) H Q
theorem sc_run_occurrences_in : FnScope ["self", "repetitions", "rounds", "rest", "counts", "offsets"] ["self", "repetitions"] (defScope s_run_occurrences_in) := C8.fnScope_by (by decide +kernel)
theorem me_run_occurrences_in {P : Program} {w : World} {K : PySem.W.Frag} {mg : Str → Option Value} {base : Heap} (t : Tx K mg) : C8.Met P w K mg base 1 (He.ga K "Run") "occurrences_in" (sp_run_occurrences_in K) [] := by
  obtain ⟨fd, F⟩ := t.f_run_occurrences_in
  have nd := sc_run_occurrences_in.nd
  refine ⟨_, fd, ["self", "repetitions"], [], t.cls_Run, t.meth_run_occurrences_in, F.ok sc_run_occurrences_in (fun vs H Q E h => ?_) (fun cdv A outer s H vs Q E hr h => ?_), F.bindsN (fun _ _ _ _ _ _ us hl => match us, hl with | [_, _], _ => rfl), .nil⟩
  · obtain ⟨a, R, n, rfl, hR, hF, k⟩ := h
    rfl
  · obtain ⟨a, R, n, rfl, hR, hF, k⟩ := h
    have hu := hu_of hr
    refine ⟨_, PSs.nox (pss_cons (ps_asg (pe_callB call_divmod (by rfl) t.free_divmod (by decide +kernel) (pa_cons (pv 1) (pa_cons (pe_callB call_len_seq (by rfl) t.free_len (by decide +kernel) (pa_cons (pe_fld (pv 0) rfl) pa_nil)) pa_nil))) (pg_tup rfl (pgs_cons (pg_name (i := 2) nd rfl (Or.inl rfl)) (pgs_cons (pg_name (i := 3) nd rfl (Or.inl rfl)) pgs_nil))))
        (pss_cons (ps_setLc (i := 4) (own := [("offsets", 5)]) (g := (gName 5)) (tt := tYes) (te := (tCB (rLenQ K) (tCons (tVar 5) tNil))) rfl nd rfl rfl (sw_true rfl rfl rfl (by decide +kernel)) (pi_list (pe_fld (pv 0) rfl)) (blkOk_by (by kernel_rfl)) (fun _ _ _ _ _ => (pg_name (i := 5) nd rfl (Or.inl rfl))) (fun _ _ _ _ _ => pts_nil) (fun _ _ _ _ _ => (pe_callB call_len_seq (by rfl) t.free_len (by decide +kernel) (pa_cons (pv 5) pa_nil))))
        (pss_one (ps_ret (pe_op op_add (pe_op op_mul (pv 2) (pe_callB (cr_sum rfl) (by rfl) t.free_sum (by decide +kernel) (pa_cons (pv 4) pa_nil))) (pe_callB (cr_sum rfl) (by rfl) t.free_sum (by decide +kernel) (pa_cons (pe_slice sl_list (pv 4) po_none (po_some (pv 3))) pa_nil))))))), ?_⟩
    obtain ⟨dx, ba, q, ofs, h0, hB, hL, ⟨ws, hI, hwl, hW⟩⟩ := id hR
    have cR := t.cls_Run
    have hp := hF.pos
    have few := hF.few
    have hsum := hF.sum
    refine ⟨_, rfl, _, rfl, a, _, dx, _, .ref q, rfl, h0, cR, t.noat_Run_chain, rfs_chain, q, _, rfl, .inl (sl hL), (n : Int), (R.ch.length : Int), by rw [nv_len] <;> rfl, ⟨by omega, by omega⟩, fun T hT => ?_⟩
    have e1 := Same.new (o := .tup [.int ((n : Int) / (R.ch.length : Int)), .int ((n : Int) % (R.ch.length : Int))]) hT
    refine ⟨T, _, rfl, SqT.of upd_same, rfl, _, _, rfl, _, _, rfl, rfl, ?_⟩
    have hwl2 : ws.length = R.ch.length := by rw [hwl, List.length_map]
    refine ⟨_, rfl, a, _, dx, _, .ref ofs, rfl, e1 _ _ h0, cR, t.noat_Run_offsets, rfs_offsets, ofs, rfl, ⟨_, sl (e1 _ _ hI)⟩, fun D hD => ?_⟩
    refine lc_val walk_list (fun i => (R.ch[i]?).map fun s => vn (offs R.B.ids s).length) (by omega) hD (fun H' e => sl (e _ _ (e1 _ _ hI))) (fun i y H2 H3 Ky Kn hi e y ky kn => ?_) fun H2 e2 hl => ?_
    · obtain ⟨rfl, hx⟩ := y
      have hi2 : i < R.ch.length := by omega
      have hg := List.getElem?_eq_getElem hi2
      have hm : (R.ch.map (offs R.B.ids))[i]? = some (offs R.B.ids R.ch[i]) := by rw [List.getElem?_map, hg]; rfl
      obtain ⟨p, rfl, hpL⟩ := hW i _ _ hm hx
      refine ⟨Same.refl _, rfl, _, rfl, p, _, rfl, .inl (sl (e _ _ (e1 _ _ hpL))), ky _ (Same.refl _) _ ?_⟩
      rw [hg, nv_len]
      rfl
    rw [hwl2, fm_get] at hl
    have hc : (R.ch.map fun s => vn (offs R.B.ids s).length) = nv R.counts := by
      unfold nv RunP.counts
      rw [List.map_map]
      rfl
    rw [hc] at hl
    refine ⟨_, rfl, _, rfl, D, _, rfl, by rw [← nv_map_int]; exact sl hl, _, _, rfl, rfl, .inr ?_, _, rfl, _, rfl, _, rfl, D, _, rfl, sl hl, fun D2 hD2 => ⟨D2, R.counts.take (n % R.ch.length) |>.map fun n : Nat => (n : Int), rfl, ?_, _, _, rfl, rfl, ?_⟩⟩
    · rw [nat_sum]
      exact ⟨by omega, by omega⟩
    · have e : cutV (nv R.counts) none (some ((n : Int) % (R.ch.length : Int))) = nv (R.counts.take (n % R.ch.length)) := (cut_to _ (n % R.ch.length)).trans (nv_take _ _)
      rw [e, ← nv_map_int]
      exact sl upd_same
    · rw [nat_sum, nat_sum]
      exact k.go ((e1.trans e2).trans (Same.new hD2))
def sp_run_position_of (K : PySem.W.Frag) : Sp := fun vs H Q _ => ∃ (a : Addr) (R : RunP) (n : Nat), vs = [.ref a, vn n] ∧ IsRun (He.ga K "Run") (He.ga K "Block") H a R ∧ RunFine R ∧ 0 < R.counts.sum ∧ RetV (vn (R.posn n)) H Q
theorem sc_run_position_of : FnScope ["self", "number", "rounds", "step", "repetition"] ["self", "number"] (defScope s_run_position_of) := C8.fnScope_by (by decide +kernel)
theorem me_run_position_of {P : Program} {w : World} {K : PySem.W.Frag} {mg : Str → Option Value} {base : Heap} (t : Tx K mg) : C8.Met P w K mg base 2 (He.ga K "Run") "position_of" (sp_run_position_of K) [] := by
  obtain ⟨fd, F⟩ := t.f_run_position_of
  have nd := sc_run_position_of.nd
  refine ⟨_, fd, ["self", "number"], [], t.cls_Run, t.meth_run_position_of, F.ok sc_run_position_of (fun vs H Q E h => ?_) (fun cdv A outer s H vs Q E hr h => ?_), F.bindsN (fun _ _ _ _ _ _ us hl => match us, hl with | [_, _], _ => rfl), .nil⟩
  · obtain ⟨a, R, n, rfl, hR, hF, hs, k⟩ := h
    rfl
  · obtain ⟨a, R, n, rfl, hR, hF, hs, k⟩ := h
    have hu := hu_of hr
    refine ⟨_, PSs.nox (pss_cons (ps_asg (pe_callB call_divmod (by rfl) t.free_divmod (by decide +kernel) (pa_cons (pv 1) (pa_cons (C8.pe_mt (me_run_occurrences_in t) hr (by decide) (pv 0) (pa_cons (pe_callB call_len_seq (by rfl) t.free_len (by decide +kernel) (pa_cons (pe_fld (pv 0) rfl) pa_nil)) pa_nil)) pa_nil))) (pg_tup rfl (pgs_cons (pg_name (i := 2) nd rfl (Or.inl rfl)) (pgs_cons (pg_name (i := 1) nd rfl (Or.inl rfl)) pgs_nil))))
        (pss_cons (ps_set (i := 3) nd rfl (Or.inl rfl) pe_int)
        (pss_cons (ps_while PassesOwn.never (pt_cmpR op_ge (pv 1) (pe_callB call_len_seq (by rfl) t.free_len (by decide +kernel) (pa_cons (pe_ix ix_list (pe_fld (pv 0) rfl) (pv 3) (fun _ _ => rfl)) pa_nil)) (nomark _)) (pss_cons (ps_aug (i := 1) nd rfl (Or.inl rfl) (pe_callB call_len_seq (by rfl) t.free_len (by decide +kernel) (pa_cons (pe_ix ix_list (pe_fld (pv 0) rfl) (pv 3) (fun _ _ => rfl)) pa_nil)) ip_subN)
        (pss_one (ps_aug (i := 3) nd rfl (Or.inl rfl) pe_int ip_add))))
        (pss_cons (ps_set (i := 4) nd rfl (Or.inl rfl) (pe_op op_add (pe_op op_add (pe_fld (pv 0) rfl) (pe_op op_mul (pv 2) (pe_callB call_len_seq (by rfl) t.free_len (by decide +kernel) (pa_cons (pe_fld (pv 0) rfl) pa_nil)))) (pv 3)))
        (pss_one (ps_ret (pe_op op_add (pe_op op_add (pe_fld (pe_fld (pv 0) rfl) rfl) (pe_op op_mul (pv 4) (pe_fld (pe_fld (pv 0) rfl) rfl))) (pe_ix ix_list (pe_ix ix_list (pe_fld (pv 0) rfl) (pv 3) (fun _ _ => rfl)) (pv 1) (fun _ _ => rfl))))))))), ?_⟩
    obtain ⟨dx, ba, q, ofs, h0, hB, hL, ⟨ws, hI, hwl, hW⟩⟩ := id hR
    obtain ⟨dxb, xb, xi, xli, xtu, xlo, xla, xfi, b0, -⟩ := id hB
    have cR := t.cls_Run
    have hp := hF.pos
    have few := hF.few
    have hsum := hF.sum
    have hmost := hF.ok.most
    have hwl2 : ws.length = R.ch.length := by rw [hwl, List.length_map]
    have hcl : R.counts.length = R.ch.length := List.length_map ..
    refine ⟨_, rfl, _, rfl, a, dx, _, rfl, h0, rfs_occ, _, rfl, a, _, dx, _, .ref q, rfl, h0, cR, t.noat_Run_chain, rfs_chain, q, _, rfl, .inl (sl hL), a, R, R.ch.length, by rw [nv_len] <;> rfl, hR, hF, fun H1 e1 => ?_⟩
    rw [occ_len hF]
    refine ⟨_, (R.counts.sum : Int), rfl, ⟨by omega, by omega⟩, fun T hT => ?_⟩
    have e2 := e1.trans (Same.new (o := .tup [.int ((n : Int) / (R.counts.sum : Int)), .int ((n : Int) % (R.counts.sum : Int))]) hT)
    refine ⟨T, _, rfl, SqT.of upd_same, rfl, _, _, rfl, _, _, rfl, rfl, ?_⟩
    generalize upd H1 T _ = H2 at *
    unfold RunP.posn at k
    have hlt : n % R.counts.sum < R.counts.sum := Nat.mod_lt _ hs
    generalize hN : n % R.counts.sum = N at *
    have eN : (n : Int) % (R.counts.sum : Int) = (N : Int) := by rw [← hN]; rfl
    have item : ∀ i, i < R.ch.length → ∃ p, ws[i]? = some (.ref p) ∧ IsL H p (offs R.B.ids (R.ch.getD i 0)) := fun i hi => by
      have hg : R.ch[i]? = some (R.ch.getD i 0) := getD_some hi
      have hm : (R.ch.map (offs R.B.ids))[i]? = some (offs R.B.ids (R.ch.getD i 0)) := by rw [List.getElem?_map, hg]; rfl
      obtain ⟨p, e1, e2⟩ := hW i _ _ hm (List.getElem?_eq_getElem (by omega))
      exact ⟨p, by rw [List.getElem?_eq_getElem (by omega), e1], e2⟩
    have hcnt : ∀ i, i < R.ch.length → R.counts[i]? = some (offs R.B.ids (R.ch.getD i 0)).length := fun i hi => by
      unfold RunP.counts
      rw [List.getElem?_map, getD_some hi]
      rfl
    refine ⟨fun m σ H' => ∃ (j x : Nat), m = R.ch.length - j ∧ σ = [some (.ref a), some (vn x), some (vn (n / R.counts.sum)), some (vn j), none] ∧ H' = H2 ∧ j ≤ R.ch.length ∧ x < (R.counts.drop j).sum ∧ stp R.counts N = ((stp (R.counts.drop j) x).1 + j, (stp (R.counts.drop j) x).2),
      ⟨_, 0, N, rfl, by
        show [some (V.ref a), some (V.int ((n : Int) % (R.counts.sum : Int))), _, _, _] = _
        rw [eN]
        rfl, rfl, Nat.zero_le _, hlt, rfl⟩, ?_⟩
    rintro m σ H3 ⟨j, x, rfl, rfl, rfl, hj, hx, hst⟩
    have hj2 : j < R.ch.length := by
      rcases Nat.lt_or_eq_of_le hj with h | h
      · exact h
      · rw [h, ← hcl, List.drop_length] at hx
        exact absurd hx (Nat.not_lt_zero _)
    obtain ⟨p, hwp, hpL⟩ := item j hj2
    have hpL2 := hpL.mono e2
    have hdrop : R.counts.drop j = (offs R.B.ids (R.ch.getD j 0)).length :: R.counts.drop (j + 1) := by
      have h1 := hcnt j hj2
      rw [List.drop_eq_getElem_cons (show j < R.counts.length by omega)]
      congr 1
      exact Option.some.inj ((List.getElem?_eq_getElem (show j < R.counts.length by omega)).symm.trans h1)
    rw [hdrop] at hx hst
    rw [List.sum_cons] at hx
    have lenS : (nv (offs R.B.ids (R.ch.getD j 0))).length = (offs R.B.ids (R.ch.getD j 0)).length := nv_len
    refine ⟨_, rfl, _, rfl, a, _, dx, _, .ref ofs, rfl, e2 _ _ h0, cR, t.noat_Run_offsets, rfs_offsets, _, rfl, ofs, ws, _, .ref p, rfl, rfl, sl (e2 _ _ hI), atI_nat hwp, p, _, rfl, .inl (sl hpL2), _, _, rfl, rfl, _, rfl, if_dec (fun h => ?_) (fun h => ?_)⟩
    · rw [lenS] at h
      have h : (offs R.B.ids (R.ch.getD j 0)).length ≤ x := by omega
      have hst2 : stp ((offs R.B.ids (R.ch.getD j 0)).length :: R.counts.drop (j + 1)) x = ((stp (R.counts.drop (j + 1)) (x - (offs R.B.ids (R.ch.getD j 0)).length)).1 + 1, (stp (R.counts.drop (j + 1)) (x - (offs R.B.ids (R.ch.getD j 0)).length)).2) := if_pos h
      rw [hst2] at hst
      refine ⟨fun σ' H' => σ' = [some (.ref a), some (vn (x - (offs R.B.ids (R.ch.getD j 0)).length)), some (vn (n / R.counts.sum)), some (vn (j + 1)), none] ∧ H' = H3, fun σ' H' ⟨h1, h2⟩ => ⟨R.ch.length - (j + 1), by omega, j + 1, x - (offs R.B.ids (R.ch.getD j 0)).length, rfl, h1, h2, hj2, by omega, by rw [hst]; dsimp only; rw [Nat.add_assoc, Nat.add_comm 1 j]⟩, ?_⟩
      refine ⟨_, rfl, _, rfl, a, _, dx, _, .ref ofs, rfl, e2 _ _ h0, cR, t.noat_Run_offsets, rfs_offsets, _, rfl, ofs, ws, _, .ref p, rfl, rfl, sl (e2 _ _ hI), atI_nat hwp, p, _, rfl, .inl (sl hpL2), x, (offs R.B.ids (R.ch.getD j 0)).length, rfl, by rw [lenS] <;> rfl, h, ?_⟩
      exact ⟨_, rfl, _, _, rfl, rfl, rfl, rfl⟩
    · rw [lenS] at h
      have h : ¬ (offs R.B.ids (R.ch.getD j 0)).length ≤ x := by omega
      have hst2 : stp ((offs R.B.ids (R.ch.getD j 0)).length :: R.counts.drop (j + 1)) x = (0, x) := if_neg h
      rw [hst2] at hst
      have hst3 : stp R.counts N = (j, x) := by rw [hst]; dsimp only; rw [Nat.zero_add]
      rw [hst3] at k
      dsimp only at k
      refine ⟨_, rfl, a, _, dx, _, vn R.start, rfl, e2 _ _ h0, cR, t.noat_Run_start, rfs_start, _, rfl, _, rfl, a, _, dx, _, .ref q, rfl, e2 _ _ h0, cR, t.noat_Run_chain, rfs_chain, q, _, rfl, .inl (sl (e2 _ _ hL)), _, _, rfl, rfl, .inr ?_, _, _, rfl, rfl, _, rfl, _, _, rfl, rfl, ?_⟩
      · rw [nv_len]
        exact ⟨by omega, by omega⟩
      rw [nv_len]
      refine ⟨_, rfl, a, _, dx, _, .ref ba, rfl, e2 _ _ h0, cR, t.noat_Run_block, rfs_block, ba, _, dxb, _, vn R.B.beg, rfl, e2 _ _ b0, t.cls_Block, t.noat_Block_begin, bfs_begin, _, rfl, _, rfl, a, _, dx, _, .ref ba, rfl, e2 _ _ h0, cR, t.noat_Run_block, rfs_block, ba, _, dxb, _, vn R.B.size, rfl, e2 _ _ b0, t.cls_Block, t.noat_Block_size, bfs_size, _, _, rfl, rfl, .inr ⟨by omega, by omega⟩, _, _, rfl, rfl, ?_⟩
      have hxl : x < (offs R.B.ids (R.ch.getD j 0)).length := by omega
      exact ⟨_, rfl, a, _, dx, _, .ref ofs, rfl, e2 _ _ h0, cR, t.noat_Run_offsets, rfs_offsets, _, rfl, ofs, ws, _, .ref p, rfl, rfl, sl (e2 _ _ hI), atI_nat hwp, _, rfl, p, _, _, vn ((offs R.B.ids (R.ch.getD j 0)).getD x 0), rfl, rfl, sl hpL2, nv_ix hxl, _, _, rfl, rfl, k.go e2⟩
end HB
namespace HB
open PySem PySem.Spec PyProof.Rows L2
def sp_runs_from (K : PySem.W.Frag) : Sp := fun vs H Q _ => ∃ (a T : Addr) (bs : List BO) (k r s : Nat), vs = [.ref a, .ref T] ∧ IsBs (He.ga K "Block") H a bs ∧ bs.length ≤ 8 ∧ ChB bs 0 ∧ ChM bs 0 ∧ NodeOk bs k r s ∧ H T = some (.tup (nv [k, r, s])) ∧
  ∀ l rs H', Same H H' → H l = none → Runs bs k r s rs → IsLR (RRun (He.ga K "Run") (He.ga K "Block")) H' l rs → Q (.ref l) H'
theorem sc_runs_from : FnScope ["blocks", "origin", "number", "repetition", "symbol", "found", "following"] ["blocks", "origin"] (defScope s_runs_from) := C8.fnScope_by (by decide +kernel)
theorem c_runs_from {P : Program} {w : World} {K : PySem.W.Frag} {mg : Str → Option Value} {base : Heap} (t : Tx K mg) : C8.Cal P w K mg base 4 "runs_from" (sp_runs_from K) [] := by
  obtain ⟨fd, F⟩ := t.f_runs_from
  have nd := sc_runs_from.nd
  refine ⟨_, fd, ["blocks", "origin"], [], F.ok sc_runs_from (fun vs H Q E h => ?_) (fun cdv A outer s H vs Q E hr h => ?_), t.glo_runs_from, F.kp, F.bindsN (fun _ _ _ _ _ _ us hl => match us, hl with | [_, _], _ => rfl), .nil⟩
  · obtain ⟨a, T, bs, k0, r0, s0, rfl, ⟨us, hU, hlen, hR⟩, hb8, hc, hM, ⟨B0, hB0, hr0, hs0⟩, hT, k⟩ := h
    rfl
  · obtain ⟨a, T, bs, k0, r0, s0, rfl, ⟨us, hU, hlen, hR⟩, hb8, hc, hM, ⟨B0, hB0, hr0, hs0⟩, hT, k⟩ := h
    have hu := hu_of hr
    refine ⟨_, PSs.nox (pss_cons (ps_asg (pv 1) (pg_tup rfl (pgs_cons (pg_name (i := 2) nd rfl (Or.inl rfl)) (pgs_cons (pg_name (i := 3) nd rfl (Or.inl rfl)) (pgs_cons (pg_name (i := 4) nd rfl (Or.inl rfl)) pgs_nil)))))
        (pss_cons (ps_set (i := 5) nd rfl (Or.inl rfl) (pe_lst (pa_cons (C8.pe_mk (m_Run t) hr (by decide) rfl (pa_cons (pe_ix ix_list (pv 0) (pv 2) (fun _ _ => rfl)) (pa_cons (pv 3) (pa_cons (pv 4) pa_nil)))) pa_nil)))
        (pss_cons (ps_while PassesOwn.never (PW.pt (pw_and (pt_val (C8.pe_mt0 (me_run_reaches_end t) hr (by decide) (pe_ix ix_list (pv 5) (pe_un un_neg pe_int) (fun _ _ => rfl)))) (pw_and1 (pt_cmpR op_lt (pe_op op_add (pv 2) pe_int) (pe_callB call_len_seq (by rfl) t.free_len (by decide +kernel) (pa_cons (pv 0) pa_nil)) (nomark _))))) (pss_cons (ps_aug (i := 2) nd rfl (Or.inl rfl) pe_int ip_add)
        (pss_cons (ps_set (i := 6) nd rfl (Or.inl rfl) (C8.pe_c (c_inverse t) hr (by decide) rfl (pa_cons (pe_fld (pe_ix ix_list (pv 0) (pv 2) (fun _ _ => rfl)) rfl) pa_nil)))
        (pss_cons (ps_if (pt_cmp (pc_dnotin hu (C8.pe_mt0 (me_run_last_symbol t) hr (by decide) (pe_ix ix_list (pv 5) (pe_un un_neg pe_int) (fun _ _ => rfl))) (pv 6))) (pss_one ps_break) pss_nil)
        (pss_one (ps_expr (pe_bm PySem.F.plainAttrs_list PySem.F.slot_list_append PySem.F.type_list_append mt_append (pv 5) (pa_cons (C8.pe_mk (m_Run t) hr (by decide) rfl (pa_cons (pe_ix ix_list (pv 0) (pv 2) (fun _ _ => rfl)) (pa_cons pe_int (pa_cons (pe_dget hu (pv 6) (C8.pe_mt0 (me_run_last_symbol t) hr (by decide) (pe_ix ix_list (pv 5) (pe_un un_neg pe_int) (fun _ _ => rfl))) (fun _ _ => rfl)) pa_nil)))) pa_nil))))))))
        (pss_one (ps_ret (pv 5)))))), ?_⟩
    have item : ∀ {i : Nat} {B : BO}, bs[i]? = some B → ∃ ba, us[i]? = some (.ref ba) ∧ IsBO (He.ga K "Block") H ba B := fun {i B} h => by
      have hi : i < us.length := by rw [hlen]; exact (List.getElem?_eq_some_iff.mp h).1
      obtain ⟨ba, e1, e2⟩ := hR i B _ h (List.getElem?_eq_getElem hi)
      exact ⟨ba, by rw [List.getElem?_eq_getElem hi, e1], e2⟩
    refine ⟨_, rfl, T, _, rfl, SqT.of hT, rfl, _, _, rfl, _, _, rfl, _, _, rfl, rfl, ?_⟩
    obtain ⟨ba0, hu0, hBO0⟩ := item hB0
    have hO0 := chB_get hc hB0
    obtain ⟨hMt0, h400, -⟩ := chM_turn hM hB0
    refine ⟨_, rfl, _, rfl, a, us, _, .ref ba0, rfl, rfl, sl hU, atI_nat hu0, _, rfl, _, rfl, fun x dx hx hdx hne => ?_⟩
    have sm := same_made (o := .own x) (o' := .ins (He.ga K "Run") dx []) hx hdx
    refine ⟨x, dx, ba0, B0, r0, s0, rfl, upd_same, hBO0.mono sm, hO0, hMt0, h400, hr0, hs0, fun R0 H1 sb hRO hIs => ⟨rfl, by show 1 ≤ sizeLine; decide, fun l hl => ?_⟩⟩
    have e1 := made_same hx hdx sb
    have hl0 := e1.free hl
    have hfine0 := run_fine hRO hO0 hr0
    have hRun0 : IsRun (He.ga K "Run") (He.ga K "Block") H1 x R0 := hIs H1 (fun q o _ h => h) (hBO0.mono e1)
    have xl : x ≠ l := fun z => by
      obtain ⟨d', b', c', o', g0, -⟩ := hRun0
      rw [z, hl] at g0
      cases g0
    refine ⟨fun m σ H' => ∃ (rs : List RunP) (ws : List V) (w6 : Option V), m = bs.length - rs.length ∧ σ = [some (.ref a), some (.ref T), some (vn (k0 + rs.length - 1)), some (vn r0), some (vn s0), some (.ref l), w6] ∧ Same H H' ∧ H' l = some (.lst ws) ∧ RunsG bs k0 r0 s0 rs ∧
      (ws.length = rs.length ∧ ∀ (i : Nat) R v, rs[i]? = some R → ws[i]? = some v → RRun (He.ga K "Run") (He.ga K "Block") R (hid l H') v), ⟨_, [R0], [.ref x], none, rfl, rfl, e1.trans (Same.new hl), upd_same, RunsG.one hB0 hRO hfine0, rfl, fun i R v h1 h2 => ?_⟩, ?_⟩
    · cases i with
      | zero =>
        cases h1
        cases h2
        refine ⟨x, rfl, IsRun.mono hRun0 ?_⟩
        rw [hid_upd]
        intro p o h
        rw [hid_at (fun z => by rw [z, hl] at h; cases h)]
        exact h
      | succ i => simp at h1
    rintro m σ H2 ⟨rs, ws, w6, rfl, rfl, e, hW, hG, hwl, hWR⟩
    obtain ⟨R, hRl⟩ := last_some hG.pos
    obtain ⟨v, hvl, ra, rfl, hRun'⟩ := last_item (R := fun R v => RRun (He.ga K "Run") (He.ga K "Block") R (hid l H2) v) hwl hWR hRl
    have hRun := hRun'.mono hid_le
    have hF := hG.fine R (List.mem_of_getLast? hRl)
    obtain ⟨dxr, br, cr, or, g0, -⟩ := id hRun
    have fit := hG.fit
    have hp := hG.pos
    have fin : ∀ H3, Same H2 H3 → (R.start + R.cnt ≠ R.B.reps ∨ bs.length ≤ k0 + rs.length ∨ ∃ B', bs[k0 + rs.length]? = some B' ∧ invM B'.linked R.lastS = none) → Q (.ref l) H3 := fun H3 e3 hd => k l rs H3 (e.trans e3) hl0 ⟨hG, fun X hX => by
      rw [hRl] at hX
      cases hX
      exact hd⟩ ⟨ws, e3 _ _ hW, hwl, fun i R v a b => (hWR i R v a b).mono (hid_le.trans e3)⟩
    refine ⟨_, rfl, _, rfl, l, _, _, .ref ra, rfl, rfl, sl hW, ix_last hvl, ra, dxr, _, rfl, g0, rfs_reaches, ra, R, rfl, hRun, fun H3 e3 => ⟨_, rfl, if_dec (fun h => ?_) (fun h => ?_)⟩⟩
    rotate_left
    · exact iteF ⟨_, rfl, fin H3 e3 (.inl h)⟩
    have e' := e.trans e3
    refine ⟨_, rfl, _, _, rfl, rfl, _, rfl, a, _, rfl, .inl (sl (e' _ _ hU)), _, _, rfl, rfl, _, rfl, if_dec (fun h2 => ?_) (fun h2 => ?_)⟩
    rotate_left
    · rw [hlen] at h2
      exact ⟨_, rfl, fin H3 e3 (.inr (.inl (by omega)))⟩
    rw [hlen] at h2
    have hk : k0 + rs.length < bs.length := by omega
    have eN : ((k0 + rs.length - 1 : Nat) : Int) + 1 = ((k0 + rs.length : Nat) : Int) := by omega
    have hB' : bs[k0 + rs.length]? = some bs[k0 + rs.length] := List.getElem?_eq_getElem hk
    have hA' : bs[k0 + rs.length - 1]? = some bs[k0 + rs.length - 1] := List.getElem?_eq_getElem (by omega)
    have hVl := chM_link hM hA' (B := bs[k0 + rs.length]) (by rw [show k0 + rs.length - 1 + 1 = k0 + rs.length by omega]; exact hB')
    generalize bs[k0 + rs.length] = B' at *
    generalize bs[k0 + rs.length - 1] = A' at *
    obtain ⟨ba', hu', hBO'⟩ := item hB'
    have hO' := chB_get hc hB'
    obtain ⟨hMt', h40', -⟩ := chM_turn hM hB'
    obtain ⟨dxb, xb, xi, xli, xtu, xlo, xla, xfi, b0, b1, b2, b3, b4, b5, b6, b7⟩ := id hBO'
    refine ⟨fun σ' H' => ∃ (rs' : List RunP) (ws' : List V) (w6 : Option V), rs'.length = rs.length + 1 ∧ σ' = [some (.ref a), some (.ref T), some (vn (k0 + rs'.length - 1)), some (vn r0), some (vn s0), some (.ref l), w6] ∧ Same H H' ∧ H' l = some (.lst ws') ∧ RunsG bs k0 r0 s0 rs' ∧
      (ws'.length = rs'.length ∧ ∀ (i : Nat) R v, rs'[i]? = some R → ws'[i]? = some v → RRun (He.ga K "Run") (He.ga K "Block") R (hid l H') v), fun σ' H' ⟨rs', ws', w6, h1, h2⟩ => ⟨bs.length - rs'.length, by omega, rs', ws', w6, rfl, h2⟩, ?_⟩
    refine ⟨_, rfl, _, _, rfl, rfl, ?_⟩
    refine ⟨_, rfl, _, rfl, a, us, ((k0 + rs.length : Nat) : Int), .ref ba', rfl, congrArg V.int eN, sl (e' _ _ hU), atI_nat hu', ba', _, dxb, _, .ref xli, rfl, e' _ _ b0, t.cls_Block, t.noat_Block_linked, bfs_linked, xli, B'.linked, nz B'.base, nz A'.base, rfl, b3.mono e', hVl, fun fw H4 e4 hfw hDF => ?_⟩
    have e34 := e3.trans e4
    have e'' := e'.trans e4
    refine ⟨_, rfl, _, rfl, l, _, _, .ref ra, rfl, rfl, sl (e34 _ _ hW), ix_last hvl, ra, dxr, _, rfl, e34 _ _ g0, rfs_last, ra, R, rfl, hRun.mono e34, hF, fun H5 e5 => ?_⟩
    have hg : DGet H5 fw (vn (R.ch.getD ((R.cnt - 1) % R.ch.length) 0)) ((invM B'.linked R.lastS).map vn) := (hDF.mono e5).get R.lastS
    refine ⟨_, rfl, fw, _, rfl, hg, _, rfl, ?_⟩
    cases hinv : invM B'.linked R.lastS with
    | none => exact iteT ⟨_, rfl, fin H5 (e34.trans e5) (.inr (.inr ⟨B', hB', hinv⟩))⟩
    | some s' =>
      refine iteF ?_
      have e25 := e34.trans e5
      have eH5 := e.trans e25
      have hs' : s' < nz B'.base := (hVl.lt _ (invM_mem hinv)).1
      refine ⟨_, rfl, .inl ⟨rfl, _, sl (e25 _ _ hW)⟩, _, rfl, _, rfl, a, us, ((k0 + rs.length : Nat) : Int), .ref ba', rfl, congrArg V.int eN, sl (eH5 _ _ hU), atI_nat hu', _, rfl, _, rfl, _, rfl, l, _, _, .ref ra, rfl, rfl, sl (e25 _ _ hW), ix_last hvl, ra, dxr, _, rfl, e25 _ _ g0, rfs_last, ra, R, rfl, hRun.mono e25, hF, fun H6 e6 => ?_⟩
      have hg6 : DGet H6 fw (vn (R.ch.getD ((R.cnt - 1) % R.ch.length) 0)) ((invM B'.linked R.lastS).map vn) := (hDF.mono (e5.trans e6)).get R.lastS
      rw [hinv] at hg6
      refine ⟨fw, vn s', rfl, hg6, fun y dy hy hdy hnd => ?_⟩
      have e26 := e25.trans e6
      have eH6 := e.trans e26
      have sm' := same_made (o := .own y) (o' := .ins (He.ga K "Run") dy []) hy hdy
      have hl6 := e26 _ _ hW
      have ly : l ≠ y := ne_of_none hl6 hy
      have ldy : l ≠ dy := ne_of_none hl6 hdy
      refine ⟨y, dy, ba', B', 0, s', rfl, upd_same, hBO'.mono (eH6.trans sm'), hO', hMt', h40', hO'.one, hs', fun R' H7 sb' hRO' hIs' => ⟨rfl, ?_⟩⟩
      have e67 := made_same hy hdy sb'
      have e27 := e26.trans e67
      have hfine' := run_fine hRO' hO' hO'.one
      have hl7 := e27 _ _ hW
      have hp' := hG.pos
      have hY : RRun (He.ga K "Run") (He.ga K "Block") R' (hid l (upd H7 l (.lst (ws ++ [.ref y])))) (.ref y) := by
        refine ⟨y, rfl, ?_⟩
        rw [hid_upd]
        refine hIs' (hid l H7) (fun q o h h2 => ?_) (hBO'.mono ?_)
        · have : q ≠ l := fun z => by
            subst z
            rcases h with h | h
            · rw [upd_ne ly, upd_ne ldy, hl6] at h
              cases h
            · exact ly h
          rw [hid_at this]
          exact h2
        · intro p o h
          rw [hid_at (fun z => by rw [z, hl0] at h; cases h)]
          exact (e.trans e27) _ _ h
      have it := items_snoc (R := fun R v => RRun (He.ga K "Run") (He.ga K "Block") R (hid l (upd H7 l (.lst (ws ++ [.ref y])))) v) (u := .ref y) (x := R') hwl (fun j x v a b => (hWR j x v a b).mono (by rw [hid_upd]; exact hid_mono e27)) hY
      refine ⟨l, _, _, rfl, rfl, hl7, ?_, rs ++ [R'], ws ++ [.ref y], some (.ref fw), by rw [List.length_append]; rfl, ?_, Same.mut (e.trans e27) hl0, upd_same, hG.snoc hRl h hB' hinv hRO' hfine', it⟩
      · rw [hwl]
        exact Nat.lt_of_le_of_lt (show rs.length ≤ 8 by omega) (by decide)
      · have : k0 + (rs ++ [R']).length - 1 = k0 + rs.length := by
          rw [List.length_append, List.length_singleton]
          omega
        rw [this]
        show [_, _, some (V.int (((k0 + rs.length - 1 : Nat) : Int) + 1)), _, _, _, _] = _
        rw [eN]
        rfl
theorem IsBO.same {C : Addr} {H : Hp} {a : Addr} {B B' : BO} (h : IsBO C H a B) (h' : IsBO C H a B') : B.beg = B'.beg ∧ B.fin = B'.fin := by
  obtain ⟨dx, b, i, li, tu, lo, la, fi, h0, -⟩ := h
  obtain ⟨dx', b', i', li', tu', lo', la', fi', h0', -⟩ := h'
  rw [h0] at h0'
  have e : bfs b i B.size B.reps B.beg B.fin li tu lo la fi = bfs b' i' B'.size B'.reps B'.beg B'.fin li' tu' lo' la' fi' := (HO.ins.inj (Option.some.inj h0')).2.2
  have e1 : (bfs b i B.size B.reps B.beg B.fin li tu lo la fi).lookup ("begin" : Str) = (bfs b' i' B'.size B'.reps B'.beg B'.fin li' tu' lo' la' fi').lookup ("begin" : Str) := by rw [e]
  have e2 : (bfs b i B.size B.reps B.beg B.fin li tu lo la fi).lookup ("end" : Str) = (bfs b' i' B'.size B'.reps B'.beg B'.fin li' tu' lo' la' fi').lookup ("end" : Str) := by rw [e]
  rw [bfs_begin, bfs_begin] at e1
  rw [bfs_end, bfs_end] at e2
  exact ⟨vn_inj (Option.some.inj e1), vn_inj (Option.some.inj e2)⟩
theorem refs_of {C : Addr} {H : Hp} : ∀ {us : List V} {bs : List BO}, us.length = bs.length → (∀ (i : Nat) x v, bs[i]? = some x → us[i]? = some v → RBO C x H v) → ∃ ps : List Addr, us = ps.map V.ref
  | [], _, _, _ => ⟨[], rfl⟩
  | u :: r, [], h, _ => by simp at h
  | u :: r, B :: bs, h, hR => by
    obtain ⟨ps, rfl⟩ := refs_of (us := r) (bs := bs) (by simpa using h) fun i x v a b => hR (i + 1) x v a b
    obtain ⟨a, rfl, _⟩ := hR 0 B u rfl rfl
    exact ⟨a :: ps, rfl⟩
theorem bfs_long {b i : Addr} {size reps beg fin : Nat} {li tu lo la fi : Addr} : (bfs b i size reps beg fin li tu lo la fi).length = 11 := by kernel_rfl
theorem rfs_long {b ch ofs : Addr} {start cnt : Nat} : (rfs b start ch cnt ofs).length = 5 := by kernel_rfl
/-- an instance of two fields is no part of a run -/
theorem runs_hid {RC C OC : Addr} {H : Hp} {x dx l : Addr} {fs : List (Str × V)} {rs : List RunP} (hx : H x = some (.ins OC dx fs)) (hf : fs.length = 2) (h : IsLR (RRun RC C) H l rs) : IsLR (RRun RC C) (hid x H) l rs := by
  have nx : ∀ p u, H p = some u → (∀ C d f, u = HO.ins C d f → f.length ≠ 2) → hid x H p = some u := fun p u h n => by
    have : p ≠ x := fun z => by
      rw [z, hx] at h
      exact n _ _ _ (Option.some.inj h).symm hf
    rw [hid_at this]
    exact h
  have lst : ∀ (xs : List V) C d f, HO.lst xs = HO.ins C d f → f.length ≠ 2 := fun _ _ _ _ e => by cases e
  have dct : ∀ (xs : List (Key × V)) C d f, HO.dK xs = HO.ins C d f → f.length ≠ 2 := fun _ _ _ _ e => by cases e
  obtain ⟨vs, h1, h2, h3⟩ := h
  refine ⟨vs, nx _ _ h1 (lst _), h2, fun i R v a b => ?_⟩
  obtain ⟨r, rfl, dr, ba, ch, ofs, g0, ⟨db, xb, xi, xli, xtu, xlo, xla, xfi, b0, b1, b2, b3, b4, ⟨kv, b5, b51, b52⟩, b6, b7⟩, g2, ⟨ws, g3, g4, g5⟩⟩ := h3 i R v a b
  refine ⟨r, rfl, dr, ba, ch, ofs, nx _ _ g0 (fun _ _ _ e => by cases e; rw [rfs_long]; decide), ⟨db, xb, xi, xli, xtu, xlo, xla, xfi, nx _ _ b0 (fun _ _ _ e => by cases e; rw [bfs_long]; decide), nx _ _ b1 (lst _), nx _ _ b2 (lst _), ⟨nx _ _ b3.1 (dct _), b3.2⟩, ⟨nx _ _ b4.1 (dct _), b4.2⟩, ⟨kv, nx _ _ b5 (dct _), b51, b52⟩, nx _ _ b6 (lst _), nx _ _ b7 (lst _)⟩, nx _ _ g2 (lst _), ws, nx _ _ g3 (lst _), g4, fun j xs w c d => ?_⟩
  obtain ⟨q, rfl, hq⟩ := g5 j xs w c d
  exact ⟨q, rfl, nx _ _ hq (lst _)⟩
def sp_occurrences_init (K : PySem.W.Frag) : Sp := fun vs H Q _ => ∃ (x dx bl : Addr) (bs : List BO) (p : Nat), vs = [.ref x, .ref bl, vn p] ∧ H x = some (.ins (He.ga K "Occurrences") dx []) ∧ IsBs (He.ga K "Block") (hid x H) bl bs ∧ 1 ≤ bs.length ∧ bs.length ≤ 8 ∧ ChB bs 0 ∧ ChM bs 0 ∧ (∀ (i : Nat) B, bs[i]? = some B → ValidD B.base) ∧ p < tot bs ∧
  ∀ O rs H', SameBut x H H' → Orig bs p O → Runs bs O.1 O.2.1 O.2.2 rs → IsOcc (He.ga K "Occurrences") (He.ga K "Run") (He.ga K "Block") H' x p O rs → Q .non H'
theorem sc_occurrences_init : FnScope ["self", "blocks", "position", "block", "repetition", "offset"] ["self", "blocks", "position"] (defScope s_occurrences_init) := C8.fnScope_by (by decide +kernel)
theorem m_Occurrences {P : Program} {w : World} {K : PySem.W.Frag} {mg : Str → Option Value} {base : Heap} (t : Tx K mg) : C8.Mak P w K mg base 5 "Occurrences" (He.ga K "Occurrences") (sp_occurrences_init K) [] := by
  obtain ⟨fd, F⟩ := t.f_occurrences_init
  have nd := sc_occurrences_init.nd
  refine ⟨_, fd, ["self", "blocks", "position"], [], t.mkr_Occurrences, F.ok sc_occurrences_init (fun vs H Q E h => ?_) (fun cdv A outer s H vs Q E hr h => ?_), t.glo_Occurrences, F.bindsN (fun _ _ _ _ _ _ us hl => match us, hl with | [_, _, _], _ => rfl), .nil⟩
  · obtain ⟨x, dx, bl, bs, p, rfl, h0, hBs, hb1, hb8, hc, hM, hVD, hp, k⟩ := h
    rfl
  · obtain ⟨x, dx, bl, bs, p, rfl, h0, hBs, hb1, hb8, hc, hM, hVD, hp, k⟩ := h
    have hu := hu_of hr
    have hbc := t.hbc
    refine ⟨_, PSs.nox (pss_cons (ps_expr (C8.pe_c (c_check_position t) hr (by decide) rfl (pa_cons (pv 2) (pa_cons (pe_op op_subN (pe_fld (pe_ix ix_list (pv 1) (pe_un un_neg pe_int) (fun _ _ => rfl)) rfl) pe_int) pa_nil))))
        (pss_cons (ps_fld (pv 0) (pv 2) rfl)
        (pss_cons (ps_set (i := 3) nd rfl (Or.inl rfl) (C8.pe_c (c_block_at t) hr (by decide) rfl (pa_cons (pv 1) (pa_cons (pv 2) pa_nil))))
        (pss_cons (ps_asg (C8.pe_mt (me_block_locate t) hr (by decide) (pv 3) (pa_cons (pv 2) pa_nil)) (pg_tup rfl (pgs_cons (pg_name (i := 4) nd rfl (Or.inl rfl)) (pgs_cons (pg_name (i := 5) nd rfl (Or.inl rfl)) pgs_nil))))
        (pss_cons (ps_fld (pv 0) (C8.pe_c (c_origin_of t) hr (by decide) rfl (pa_cons (pv 1) (pa_cons (pe_bm PySem.F.plainAttrs_list PySem.F.slot_list_index PySem.F.type_list_index (mt_indexI hbc hu) (pv 1) (pa_cons (pv 3) pa_nil)) (pa_cons (pv 4) (pa_cons (pe_ix ix_list (pe_fld (pv 3) rfl) (pv 5) (fun _ _ => rfl)) pa_nil))))) rfl)
        (pss_one (ps_fld (pv 0) (C8.pe_c (c_runs_from t) hr (by decide) rfl (pa_cons (pv 1) (pa_cons (pe_fld (pv 0) rfl) pa_nil))) rfl))))))), ?_⟩
    obtain ⟨us, hU, hlen, hR⟩ := id hBs
    have cO := t.cls_Occurrences
    obtain ⟨baL, BL, hl1, hl2, hl3, -⟩ := last_at hlen hR hb1
    obtain ⟨dxL, xb, xi, xli, xtu, xlo, xla, xfi, hL0, -⟩ := hl2
    obtain ⟨ps, hps⟩ := refs_of hlen hR
    obtain ⟨j, v, B, ba, hat, rfl, hBO, hO, hbeg, hd⟩ := BAt.of (p := p) hU hlen (by omega) hR hc hp
    obtain ⟨-, -, -, -, huni, huj, hBj⟩ := id hat
    obtain ⟨dxb, yb, yi, yli, ytu, ylo, yla, yfi, b0, b1, b2, b3, b4, b5, b6, b7⟩ := id hBO
    generalize hH0 : hid x H = H0 at *
    have x0 : H0 x = none := by rw [← hH0]; exact hid_self
    have hle : Same H0 H := by rw [← hH0]; exact hid_le
    have hpos := hO.pos
    have hmost := hO.most
    have hfin : p < B.fin := ((huni j B hBj).mpr rfl).2
    have hmod : (p - B.beg) % B.size < B.size := Nat.mod_lt _ hpos
    have hidl := hO.idl
    rw [hl3] at hp
    refine ⟨_, rfl, _, rfl, _, rfl, bl, _, _, _, rfl, rfl, sl (hle _ _ hU), hl1, baL, _, dxL, _, vn BL.fin, rfl, hle _ _ hL0, t.cls_Block, t.noat_Block_end, bfs_end, BL.fin, 1, rfl, rfl, by omega, p, BL.fin - 1, rfl, by omega, fun H1 e1 => ?_⟩
    refine ⟨_, rfl, _, rfl, x, _, dx, [], rfl, e1 _ _ h0, cO, t.noat_Occurrences_position, by decide, ?_⟩
    generalize hG : upd H1 x _ = G2
    have g2 : G2 x = some (.ins (He.ga K "Occurrences") dx (putF "position" (vn p) [])) := by rw [← hG]; exact upd_same
    have E2 : Same H0 G2 := by rw [← hG]; exact Same.mut (hle.trans e1) x0
    clear hG
    have hat2 : BAt (He.ga K "Block") G2 bl us bs p j (.ref ba) B := by
      obtain ⟨x1, x2, x3, x4, x5⟩ := hat
      exact ⟨E2 _ _ x1, x2, x3, fun i x v a b => (x4 i x v a b).mono E2, x5⟩
    refine ⟨_, rfl, _, rfl, bl, us, bs, p, j, .ref ba, B, rfl, hat2, fun H3 e3 => ?_⟩
    have E3 := E2.trans e3
    refine ⟨_, rfl, ba, dxb, _, rfl, E3 _ _ b0, bfs_locate, _, rfl, ba, B, p, rfl, hBO.mono E3, hbeg, hpos, by omega, fun vT H4 e4 ⟨T, hv, hT⟩ => ?_⟩
    subst hv
    refine ⟨T, _, rfl, SqT.of hT, rfl, _, _, rfl, _, _, rfl, rfl, ?_⟩
    have E4 := E3.trans e4
    -- the index
    have hidx : ps.idxOf ba = j := by
      have hm : ba ∈ ps := by
        rw [hps, List.getElem?_map] at huj
        obtain ⟨z, hz, e⟩ := Option.map_eq_some_iff.mp huj
        cases e
        exact List.mem_of_getElem? hz
      have hi := List.idxOf_lt_length_iff.mpr hm
      have hg : ps[ps.idxOf ba]? = some ba := by rw [List.getElem?_eq_getElem hi, List.getElem_idxOf]
      have hul : us.length = ps.length := by rw [hps, List.length_map]
      have hb : bs[ps.idxOf ba]? = some (bs[ps.idxOf ba]'(by omega)) := List.getElem?_eq_getElem _
      obtain ⟨z, hz, hBz⟩ := hR _ _ (.ref ba) hb (by rw [hps, List.getElem?_map, hg]; rfl)
      cases hz
      obtain ⟨q1, q2⟩ := hBz.same hBO
      exact (huni _ _ hb).mp ⟨by omega, by omega⟩
    have hall : ∀ q ∈ ps, ∃ dx fs, H4 q = some (.ins (He.ga K "Block") dx fs) := fun q hq => by
      obtain ⟨i, hi⟩ := List.getElem?_of_mem hq
      have hul : us.length = ps.length := by rw [hps, List.length_map]
      have hil := (List.getElem?_eq_some_iff.mp hi).1
      have hb : bs[i]? = some (bs[i]'(by omega)) := List.getElem?_eq_getElem _
      obtain ⟨z, hz, hBz⟩ := hR _ _ (.ref q) hb (by rw [hps, List.getElem?_map, hi]; rfl)
      cases hz
      obtain ⟨dz, z1, z2, z3, z4, z5, z6, z7, g0, -⟩ := hBz
      exact ⟨_, _, E4 _ _ g0⟩
    have hmem : ba ∈ ps := by
      rw [hps, List.getElem?_map] at huj
      obtain ⟨z, hz, e⟩ := Option.map_eq_some_iff.mp huj
      cases e
      exact List.mem_of_getElem? hz
    have hN : NodeOk bs j ((p - B.beg) / B.size) (B.ids.getD ((p - B.beg) % B.size) 0) := by
      refine ⟨B, hBj, ?_, ?_⟩
      · rw [Nat.div_lt_iff_lt_mul hpos, Nat.mul_comm]
        have : B.fin = B.beg + B.size * B.reps := rfl
        omega
      · have hm : B.ids.getD ((p - B.beg) % B.size) 0 ∈ B.ids := by
          have := getD_some (xs := B.ids) (i := (p - B.beg) % B.size) (by omega)
          exact List.mem_of_getElem? this
        rw [hO.ids] at hm ⊢
        exact ids_lt (hVD j B hBj) _ hm
    refine ⟨_, rfl, _, rfl, .inl ⟨rfl, _, sl (E4 _ _ hU)⟩, _, rfl, bl, ps, ba, rfl, rfl, by rw [← hps]; exact sl (E4 _ _ hU), hall, hmem, ?_⟩
    rw [hidx]
    refine ⟨_, rfl, _, rfl, ba, _, dxb, _, .ref yi, rfl, E4 _ _ b0, t.cls_Block, t.noat_Block_ids, bfs_ids, _, rfl, yi, _, _, vn (B.ids.getD ((p - B.beg) % B.size) 0), rfl, rfl, sl (E4 _ _ b2), nv_ix (by omega), ?_⟩
    refine ⟨bl, bs, j, (p - B.beg) / B.size, B.ids.getD ((p - B.beg) % B.size) 0, rfl, hBs.mono E4, hc, hM, hN, fun To k' r' s' H5 e5 hup hpar hNo hTo => ?_⟩
    have g5 := ((e3.trans e4).trans e5) _ _ g2
    have E5 := E4.trans e5
    have nTo : To ≠ x := fun z => by
      rw [z, g5] at hTo
      cases hTo
    refine ⟨_, rfl, x, _, dx, _, rfl, g5, cO, t.noat_Occurrences_origin, by exact Nat.lt_of_le_of_lt (show _ ≤ 1 from Nat.le_refl _) (by decide), ?_⟩
    generalize hG : upd H5 x _ = G6
    have g6 : G6 x = some (.ins (He.ga K "Occurrences") dx (putF "origin" (.ref To) (putF "position" (vn p) []))) := by rw [← hG]; exact upd_same
    have E6 : Same H0 G6 := by rw [← hG]; exact Same.mut E5 x0
    have hTo6 : G6 To = some (.tup (nv [k', r', s'])) := by rw [← hG, upd_ne nTo]; exact hTo
    clear hG
    refine ⟨_, rfl, _, rfl, x, _, dx, _, .ref To, rfl, g6, cO, t.noat_Occurrences_origin, by kernel_rfl, bl, To, bs, k', r', s', rfl, hBs.mono E6, hb8, hc, hM, hNo, hTo6, fun l rs H7 e7 hl hRs hI => ?_⟩
    have nl : l ≠ x := ne_x g6 hl
    refine ⟨_, rfl, x, _, dx, _, rfl, e7 _ _ g6, cO, t.noat_Occurrences_runs, by exact Nat.lt_of_le_of_lt (show _ ≤ 2 from Nat.le_refl _) (by decide), ?_⟩
    refine k (k', r', s') rs _ (fun q o n h => ?_) ⟨(j, (p - B.beg) / B.size, B.ids.getD ((p - B.beg) % B.size) 0), ⟨B, hBj, hbeg, hfin, rfl, rfl⟩, hup, hpar, hNo⟩ hRs ⟨dx, To, l, upd_same, by rw [upd_ne nTo]; exact e7 _ _ hTo6, ?_⟩
    · rw [upd_ne n]
      exact e7 _ _ (E6 _ _ (by rw [← hH0, hid_at n]; exact h))
    · refine IsLR.mono (runs_hid (e7 _ _ g6) (by kernel_rfl) hI) (fun R v h => h.mono ?_) ?_
      all_goals
        intro p' o h
        obtain ⟨h1, h2⟩ := hid_some h
        rw [upd_ne h1]
        exact h2
end HB
namespace HB
open PySem PySem.Spec PyProof.Rows L2
def sp_occurrences_number_in_all (K : PySem.W.Frag) : Sp := fun vs H Q _ => ∃ (a : Addr) (p : Nat) (O : Nat × Nat × Nat) (rs : List RunP), vs = [.ref a] ∧ IsOcc (He.ga K "Occurrences") (He.ga K "Run") (He.ga K "Block") H a p O rs ∧ rs.length ≤ 8 ∧ (∀ R ∈ rs, RunFine R) ∧ RetV (vn (nall rs)) H Q
theorem sc_occurrences_number_in_all : FnScope ["self", "run"] ["self"] (defScope s_occurrences_number_in_all) := C8.fnScope_by (by decide +kernel)
theorem me_occurrences_number_in_all {P : Program} {w : World} {K : PySem.W.Frag} {mg : Str → Option Value} {base : Heap} (t : Tx K mg) : C8.Met P w K mg base 2 (He.ga K "Occurrences") "number_in_all" (sp_occurrences_number_in_all K) [] := by
  obtain ⟨fd, F⟩ := t.f_occurrences_number_in_all
  have nd := sc_occurrences_number_in_all.nd
  refine ⟨_, fd, ["self"], [], t.cls_Occurrences, t.meth_occurrences_number_in_all, F.ok sc_occurrences_number_in_all (fun vs H Q E h => ?_) (fun cdv A outer s H vs Q E hr h => ?_), F.bindsN (fun _ _ _ _ _ _ us hl => match us, hl with | [_], _ => rfl), .nil⟩
  · obtain ⟨a, p, O, rs, rfl, ⟨dx, T, l, h0, hT, ⟨ws, hW, hwl, hR⟩⟩, hr8, hF, k⟩ := h
    rfl
  · obtain ⟨a, p, O, rs, rfl, ⟨dx, T, l, h0, hT, ⟨ws, hW, hwl, hR⟩⟩, hr8, hF, k⟩ := h
    have hu := hu_of hr
    refine ⟨_, PSs.nox (pss_one (ps_ret (pe_callB (cr_sum rfl) (by rfl) t.free_sum (by decide +kernel) (pa_cons (pe_lc (own := [("run", 1)]) (g := (gName 1)) (tt := tYes) (te := (tMeth (He.ga K "Run") "occurrences_in" (sp_run_occurrences_in K) [] E0 (tVar 1) (tCons (tFld K (tVar 1) "count") tNil))) rfl nd  (pi_list (pe_fld (pv 0) rfl)) (blkOk_by (by kernel_rfl)) (fun _ _ _ _ _ => (pg_name (i := 1) nd rfl (Or.inl rfl))) (fun _ _ _ _ _ => pts_nil) (fun _ _ _ _ _ => (C8.pe_mt (me_run_occurrences_in t) hr (by decide) (pv 1) (pa_cons (pe_fld (pv 1) rfl) pa_nil)))) pa_nil)))), ?_⟩
    have cO := t.cls_Occurrences
    refine ⟨_, rfl, a, _, dx, _, .ref l, rfl, h0, cO, t.noat_Occurrences_runs, ofs_runs, l, rfl, ⟨_, sl hW⟩, fun D hD => ?_⟩
    refine lc_val walk_list (fun i => (rs[i]?).map fun R => vn (R.occ R.cnt)) (by omega) hD (fun H' e => sl (e _ _ hW)) (fun i y H2 H3 Ky Kn hi e y ky kn => ?_) fun H2 e2 hl => ?_
    · obtain ⟨rfl, hx⟩ := y
      have hi2 : i < rs.length := by omega
      have hg := List.getElem?_eq_getElem hi2
      obtain ⟨r, rfl, hRun⟩ := hR i _ _ hg hx
      have hRun3 := hRun.mono e
      obtain ⟨dr, b', ch, of', g0, -⟩ := id hRun3
      exact ⟨Same.refl _, rfl, _, rfl, r, dr, _, rfl, g0, rfs_occ, _, rfl, r, _, dr, _, vn _, rfl, g0, t.cls_Run, t.noat_Run_count, rfs_count, r, rs[i], rs[i].cnt, rfl, hRun3, hF _ (List.getElem_mem hi2), fun H4 e4 => ky _ e4 _ (by rw [hg]; rfl)⟩
    rw [hwl, fm_get] at hl
    have key : (rs.map fun R => vn (R.occ R.cnt)) = ((rs.map fun R => R.occ R.cnt).map fun n : Nat => (n : Int)).map V.int := by
      rw [List.map_map, List.map_map]
      rfl
    rw [key] at hl
    refine ⟨D, _, rfl, sl hl, ?_⟩
    rw [nat_sum]
    exact k.go e2
def sp_occurrences_number_before (K : PySem.W.Frag) : Sp := fun vs H Q _ => ∃ (a : Addr) (p : Nat) (O : Nat × Nat × Nat) (rs : List RunP), vs = [.ref a] ∧ IsOcc (He.ga K "Occurrences") (He.ga K "Run") (He.ga K "Block") H a p O rs ∧ rs.length ≤ 8 ∧ (∀ R ∈ rs, RunFine R) ∧ (∀ R ∈ rs, R.B.beg ≤ p → p < R.B.fin → R.start ≤ (p - R.B.beg) / R.B.size) ∧ RetV (vn (nbf rs p)) H Q
theorem sc_occurrences_number_before : FnScope ["self", "found", "run", "repetition", "offset", "done", "here", "one"] ["self"] (defScope s_occurrences_number_before) := C8.fnScope_by (by decide +kernel)
theorem me_occurrences_number_before {P : Program} {w : World} {K : PySem.W.Frag} {mg : Str → Option Value} {base : Heap} (t : Tx K mg) : C8.Met P w K mg base 2 (He.ga K "Occurrences") "number_before" (sp_occurrences_number_before K) [] := by
  obtain ⟨fd, F⟩ := t.f_occurrences_number_before
  have nd := sc_occurrences_number_before.nd
  refine ⟨_, fd, ["self"], [], t.cls_Occurrences, t.meth_occurrences_number_before, F.ok sc_occurrences_number_before (fun vs H Q E h => ?_) (fun cdv A outer s H vs Q E hr h => ?_), F.bindsN (fun _ _ _ _ _ _ us hl => match us, hl with | [_], _ => rfl), .nil⟩
  · obtain ⟨a, p, O, rs, rfl, ⟨dx, T, l, h0, hT, ⟨ws, hW, hwl, hR⟩⟩, hr8, hF, hst, k⟩ := h
    rfl
  · obtain ⟨a, p, O, rs, rfl, ⟨dx, T, l, h0, hT, ⟨ws, hW, hwl, hR⟩⟩, hr8, hF, hst, k⟩ := h
    have hu := hu_of hr
    refine ⟨_, PSs.nox (pss_cons (ps_set (i := 1) nd rfl (Or.inl rfl) pe_int)
        (pss_cons (ps_for PassesOwn.never rfl (pi_list (pe_fld (pv 0) rfl)) (pg_name (i := 2) nd rfl (Or.inl rfl)) (pss_one (ps_if (pt_cmpR op_le (pe_fld (pe_fld (pv 2) rfl) rfl) (pe_fld (pv 0) rfl) (nomark _)) (pss_one (ps_aug (i := 1) nd rfl (Or.inl rfl) (C8.pe_mt (me_run_occurrences_in t) hr (by decide) (pv 2) (pa_cons (pe_fld (pv 2) rfl) pa_nil)) ip_add)) (pss_one (ps_if (pt_cmpR op_le (pe_fld (pe_fld (pv 2) rfl) rfl) (pe_fld (pv 0) rfl) (nomark _)) (pss_cons (ps_asg (C8.pe_mt (me_block_locate t) hr (by decide) (pe_fld (pv 2) rfl) (pa_cons (pe_fld (pv 0) rfl) pa_nil)) (pg_tup rfl (pgs_cons (pg_name (i := 3) nd rfl (Or.inl rfl)) (pgs_cons (pg_name (i := 4) nd rfl (Or.inr rfl)) pgs_nil))))
        (pss_cons (ps_set (i := 5) nd rfl (Or.inl rfl) (pe_op op_subN (pv 3) (pe_fld (pv 2) rfl)))
        (pss_cons (ps_set (i := 6) nd rfl (Or.inl rfl) (pe_ix ix_list (pe_fld (pv 2) rfl) (pe_op op_mod (pv 5) (pe_callB call_len_seq (by rfl) t.free_len (by decide +kernel) (pa_cons (pe_fld (pv 2) rfl) pa_nil))) (fun _ _ => rfl)))
        (pss_one (ps_aug (i := 1) nd rfl (Or.inl rfl) (pe_op op_add (C8.pe_mt (me_run_occurrences_in t) hr (by decide) (pv 2) (pa_cons (pv 5) pa_nil)) (pe_callB call_len_seq (by rfl) t.free_len (by decide +kernel) (pa_cons (pe_lc (own := [("one", 7)]) (g := (gName 7)) (tt := (tTest (tOp (rI0 fun i j => .bl (decide (i < j))) (tVar 7) (tVar 4)))) (te := (tVar 7)) rfl nd  (pi_list (pv 6)) (blkOk_by (by kernel_rfl)) (fun _ _ _ _ _ => (pg_name (i := 7) nd rfl (Or.inl rfl))) (fun _ _ _ _ _ => (pts_one (pt_cmpR op_lt (pv 7) (pv 4) (nomark _)))) (fun _ _ _ _ _ => (pv 7))) pa_nil))) ip_add))))) pss_nil)))))
        (pss_one (ps_ret (pv 1))))), ?_⟩
    have cO := t.cls_Occurrences
    have cR := t.cls_Run
    refine ⟨_, rfl, a, _, dx, _, .ref l, rfl, h0, cO, t.noat_Occurrences_runs, ofs_runs, l, rfl, ⟨_, sl hW⟩, ?_⟩
    refine for_it walk_list (fun i σ H' => ∃ (v2 v3 v4 v5 v6 : Option V), σ = [some (.ref a), some (vn ((rs.take i).map fun R => runBef R p).sum), v2, v3, v4, v5, v6, none] ∧ Same H H') ⟨none, none, none, none, none, rfl, Same.refl _⟩ (fun i σ H' _ ⟨_, _, _, _, _, _, e⟩ => sl (e _ _ hW)) ?_ ?_
    · rintro i y σ H1 H2 hi ⟨v2, v3, v4, v5, v6, rfl, e⟩ ⟨rfl, hx⟩
      have hi2 : i < rs.length := by omega
      have hg := List.getElem?_eq_getElem hi2
      obtain ⟨r, rfl, hRun⟩ := hR i _ _ hg hx
      have hF1 := hF _ (List.getElem_mem hi2)
      have hst1 := hst _ (List.getElem_mem hi2)
      generalize rs[i] = R at *
      obtain ⟨dr, ba, ch, of', g0, hB, hL, ⟨os, hI, hol, hO⟩⟩ := id hRun
      obtain ⟨dxb, xb, xi, xli, xtu, xlo, xla, xfi, b0, -⟩ := id hB
      have hpos := hF1.ok.pos
      have hmost := hF1.ok.most
      have hp1 := hF1.pos
      have next : ∀ (c : Nat), c = runBef R p → ((rs.take i).map fun R => runBef R p).sum + c = ((rs.take (i + 1)).map fun R => runBef R p).sum := fun c hc => by
        rw [take_snoc hg, List.map_append, List.sum_append, hc, List.map_singleton, List.sum_singleton]
      refine ⟨_, rfl, r, _, dr, _, .ref ba, rfl, e _ _ g0, cR, t.noat_Run_block, rfs_block, ba, _, dxb, _, vn R.B.fin, rfl, e _ _ b0, t.cls_Block, t.noat_Block_end, bfs_end, _, rfl, a, _, dx, _, vn p, rfl, e _ _ h0, cO, t.noat_Occurrences_position, ofs_position, _, _, rfl, rfl, _, rfl, if_dec (fun h => ?_) (fun h => ?_)⟩
      · refine ⟨_, rfl, _, rfl, r, dr, _, rfl, e _ _ g0, rfs_occ, _, rfl, r, _, dr, _, vn R.cnt, rfl, e _ _ g0, cR, t.noat_Run_count, rfs_count, r, R, R.cnt, rfl, hRun.mono e, hF1, fun H3 e3 => ?_⟩
        have := next (R.occ R.cnt) (by unfold runBef; rw [if_pos (by omega)])
        refine ⟨_, _, rfl, rfl, some (.ref r), v3, v4, v5, v6, ?_, e.trans e3⟩
        rw [← this]
        rfl
      have h : ¬ R.B.fin ≤ p := by omega
      refine ⟨_, rfl, r, _, dr, _, .ref ba, rfl, e _ _ g0, cR, t.noat_Run_block, rfs_block, ba, _, dxb, _, vn R.B.beg, rfl, e _ _ b0, t.cls_Block, t.noat_Block_begin, bfs_begin, _, rfl, a, _, dx, _, vn p, rfl, e _ _ h0, cO, t.noat_Occurrences_position, ofs_position, _, _, rfl, rfl, _, rfl, if_dec (fun h2 => ?_) (fun h2 => ?_)⟩
      rotate_left
      · have := next 0 (by unfold runBef; rw [if_neg h, if_neg (by omega)])
        refine ⟨some (.ref r), v3, v4, v5, v6, ?_, e⟩
        rw [← this]
        rfl
      have h2 : R.B.beg ≤ p := by omega
      have hs := hst1 h2 (by omega)
      refine ⟨_, rfl, r, _, dr, _, .ref ba, rfl, e _ _ g0, cR, t.noat_Run_block, rfs_block, ba, dxb, _, rfl, e _ _ b0, bfs_locate, _, rfl, a, _, dx, _, vn p, rfl, e _ _ h0, cO, t.noat_Occurrences_position, ofs_position, ba, R.B, p, rfl, hB.mono e, h2, hpos, by omega, fun vT H3 e3 ⟨T', hv, hT'⟩ => ?_⟩
      subst hv
      refine ⟨T', _, rfl, SqT.of hT', rfl, _, _, rfl, _, _, rfl, rfl, ?_⟩
      have e' := e.trans e3
      refine ⟨_, rfl, _, rfl, r, _, dr, _, vn R.start, rfl, e' _ _ g0, cR, t.noat_Run_start, rfs_start, (p - R.B.beg) / R.B.size, R.start, rfl, rfl, hs, ?_⟩
      generalize hd : (p - R.B.beg) / R.B.size - R.start = dn
      have hmod : dn % R.ch.length < R.ch.length := Nat.mod_lt _ hp1
      have hm : (R.ch.map (offs R.B.ids))[dn % R.ch.length]? = some (offs R.B.ids (R.ch.getD (dn % R.ch.length) 0)) := by rw [List.getElem?_map, getD_some hmod]; rfl
      have hol2 : os.length = R.ch.length := by rw [hol, List.length_map]
      have hos := List.getElem?_eq_getElem (show dn % R.ch.length < os.length by omega)
      obtain ⟨q, hq, hqL⟩ := hO _ _ _ hm hos
      rw [hq] at hos
      have hix : atI os ((dn : Int) % (R.ch.length : Int)) = some (.ref q) := atI_nat (j := dn % R.ch.length) hos
      generalize hof : offs R.B.ids (R.ch.getD (dn % R.ch.length) 0) = L at *
      refine ⟨_, rfl, r, _, dr, _, .ref of', rfl, e' _ _ g0, cR, t.noat_Run_offsets, rfs_offsets, _, rfl, _, rfl, r, _, dr, _, .ref ch, rfl, e' _ _ g0, cR, t.noat_Run_chain, rfs_chain, ch, _, rfl, .inl (sl (e' _ _ hL)), _, (R.ch.length : Int), rfl, by rw [nv_len], by omega, of', os, _, .ref q, rfl, rfl, sl (e' _ _ hI), hix, ?_⟩
      have hq3 := hqL.mono e'
      refine ⟨_, rfl, _, rfl, r, dr, _, rfl, e' _ _ g0, rfs_occ, _, rfl, r, R, dn, rfl, hRun.mono e', hF1, fun H4 e4 => ?_⟩
      have e'' := e'.trans e4
      have hq4 := hq3.mono e4
      have Llen : L.length ≤ 40 := by
        rw [← hof]
        have := offs_len R.B.ids (R.ch.getD (dn % R.ch.length) 0)
        have := hF1.ok.idl
        omega
      refine ⟨_, rfl, q, rfl, ⟨_, sl hq4⟩, fun D hD => ?_⟩
      refine lc_val walk_list (fun j => (if L.getD j 0 < (p - R.B.beg) % R.B.size then some (L.getD j 0) else none : Option Nat).map vn) (by rw [nv_len]; omega) hD (fun H' e => sl (hq4.mono e)) (fun j y H2 H3 Ky Kn hj e y ky kn => ?_) fun H5 e5 hl => ?_
      · obtain ⟨rfl, hx⟩ := y
        obtain ⟨n, hn, rfl⟩ := nv_get hx
        have hg := getD_of hn
        refine ⟨Same.refl _, rfl, _, rfl, _, rfl, _, _, rfl, rfl, _, rfl, if_dec (fun h => ?_) (fun h => ?_)⟩
        · have h : n < (p - R.B.beg) % R.B.size := by
            have h : (n : Int) < (((p - R.B.beg) % R.B.size : Nat) : Int) := h
            omega
          exact ⟨_, rfl, ky _ (Same.refl _) _ (by rw [hg, if_pos h]; rfl)⟩
        · have h : ¬ n < (p - R.B.beg) % R.B.size := by
            have h : ¬ (n : Int) < (((p - R.B.beg) % R.B.size : Nat) : Int) := h
            omega
          exact kn _ (Same.refl _) (by rw [hg, if_neg h]; rfl)
      rw [fm_nv, nv_len] at hl
      have := next (R.occ dn + below L ((p - R.B.beg) % R.B.size)) (by unfold runBef; rw [if_neg h, if_pos h2, hd, hof])
      refine ⟨D, _, rfl, .inl (sl hl), _, _, rfl, rfl, _, _, rfl, rfl, some (.ref r), some (vn ((p - R.B.beg) / R.B.size)), some (vn ((p - R.B.beg) % R.B.size)), some (vn dn), some (.ref q), ?_, e''.trans e5⟩
      rw [← this, nv_len]
      rfl
    · rintro σ H1 ⟨v2, v3, v4, v5, v6, rfl, e⟩
      rw [hwl, List.take_length]
      exact ⟨_, rfl, k.go e⟩
def sp_occurrences_nth_position (K : PySem.W.Frag) : Sp := fun vs H Q _ => ∃ (a : Addr) (p n : Nat) (O : Nat × Nat × Nat) (rs : List RunP), vs = [.ref a, vn n] ∧ IsOcc (He.ga K "Occurrences") (He.ga K "Run") (He.ga K "Block") H a p O rs ∧ rs.length ≤ 8 ∧ (∀ R ∈ rs, RunFine R) ∧ RetV (vo (nthR rs n)) H Q
theorem sc_occurrences_nth_position : FnScope ["self", "number", "run", "here"] ["self", "number"] (defScope s_occurrences_nth_position) := C8.fnScope_by (by decide +kernel)
theorem me_occurrences_nth_position {P : Program} {w : World} {K : PySem.W.Frag} {mg : Str → Option Value} {base : Heap} (t : Tx K mg) : C8.Met P w K mg base 3 (He.ga K "Occurrences") "nth_position" (sp_occurrences_nth_position K) [] := by
  obtain ⟨fd, F⟩ := t.f_occurrences_nth_position
  have nd := sc_occurrences_nth_position.nd
  refine ⟨_, fd, ["self", "number"], [], t.cls_Occurrences, t.meth_occurrences_nth_position, F.ok sc_occurrences_nth_position (fun vs H Q E h => ?_) (fun cdv A outer s H vs Q E hr h => ?_), F.bindsN (fun _ _ _ _ _ _ us hl => match us, hl with | [_, _], _ => rfl), .nil⟩
  · obtain ⟨a, p, n, O, rs, rfl, ⟨dx, T, l, h0, hT, ⟨ws, hW, hwl, hR⟩⟩, hr8, hF, k⟩ := h
    rfl
  · obtain ⟨a, p, n, O, rs, rfl, ⟨dx, T, l, h0, hT, ⟨ws, hW, hwl, hR⟩⟩, hr8, hF, k⟩ := h
    have hu := hu_of hr
    refine ⟨_, PSs.nox (pss_cons (ps_for PassesOwn.never rfl (pi_list (pe_fld (pv 0) rfl)) (pg_name (i := 2) nd rfl (Or.inl rfl)) (pss_cons (ps_set (i := 3) nd rfl (Or.inl rfl) (C8.pe_mt (me_run_occurrences_in t) hr (by decide) (pv 2) (pa_cons (pe_fld (pv 2) rfl) pa_nil)))
        (pss_cons (ps_if (pt_cmpR op_lt (pv 1) (pv 3) (nomark _)) (pss_one (ps_ret (C8.pe_mt (me_run_position_of t) hr (by decide) (pv 2) (pa_cons (pv 1) pa_nil)))) pss_nil)
        (pss_one (ps_aug (i := 1) nd rfl (Or.inl rfl) (pv 3) ip_subN)))))
        (pss_one (ps_ret pe_non))), ?_⟩
    have cO := t.cls_Occurrences
    have cR := t.cls_Run
    refine ⟨_, rfl, a, _, dx, _, .ref l, rfl, h0, cO, t.noat_Occurrences_runs, ofs_runs, l, rfl, ⟨_, sl hW⟩, ?_⟩
    refine for_it walk_list (fun i σ H' => ∃ (m : Nat) (v2 v3 : Option V), σ = [some (.ref a), some (vn m), v2, v3] ∧ Same H H' ∧ nthR rs n = nthR (rs.drop i) m) ⟨n, none, none, rfl, Same.refl _, rfl⟩ (fun i σ H' _ ⟨_, _, _, _, e, _⟩ => sl (e _ _ hW)) ?_ ?_
    · rintro i y σ H1 H2 hi ⟨m, v2, v3, rfl, e, hm⟩ ⟨rfl, hx⟩
      have hi2 : i < rs.length := by omega
      have hg := List.getElem?_eq_getElem hi2
      obtain ⟨r, rfl, hRun⟩ := hR i _ _ hg hx
      have hF1 := hF _ (List.getElem_mem hi2)
      rw [List.drop_eq_getElem_cons hi2, show ∀ (R : RunP) (r : List RunP) (n : Nat), nthR (R :: r) n = if n < R.occ R.cnt then some (R.posn n) else nthR r (n - R.occ R.cnt) from fun _ _ _ => rfl] at hm
      generalize rs[i] = R at *
      obtain ⟨dr, ba, ch, of', g0, -⟩ := id hRun
      refine ⟨_, rfl, r, dr, _, rfl, e _ _ g0, rfs_occ, _, rfl, r, _, dr, _, vn R.cnt, rfl, e _ _ g0, cR, t.noat_Run_count, rfs_count, r, R, R.cnt, rfl, hRun.mono e, hF1, fun H3 e3 => ?_⟩
      have e' := e.trans e3
      refine ⟨_, rfl, _, rfl, _, _, rfl, rfl, _, rfl, if_dec (fun h => ?_) (fun h => ?_)⟩
      · rw [if_pos (by omega)] at hm
        refine ⟨_, rfl, r, dr, _, rfl, e' _ _ g0, rfs_pos, _, rfl, r, R, m, rfl, hRun.mono e', hF1, occ_pos (n := m) (m := R.cnt) (by omega), fun H4 e4 => ?_⟩
        rw [hm] at k
        exact k.go (e'.trans e4)
      · rw [if_neg (by omega)] at hm
        exact ⟨_, rfl, _, rfl, m, _, rfl, rfl, by omega, m - R.occ R.cnt, _, _, rfl, e', hm⟩
    · rintro σ H3 ⟨m, v2, v3, rfl, e, hm⟩
      rw [hwl, List.drop_length] at hm
      rw [hm] at k
      exact k.go e
end HB
namespace HB
open PySem PySem.Spec PyProof.Rows L2
theorem runs_fine8 {bs : List BO} {k r s : Nat} {rs : List RunP} (h : Runs bs k r s rs) (h8 : bs.length ≤ 8) : rs.length ≤ 8 := by
  have := h.g.fit
  omega
def sp_same_symbol : Sp := fun vs H Q _ => ∃ (a : Addr) (s : List Blk) (p q : Nat), vs = [.ref a, vn p, vn q] ∧ IsS H a s ∧ VS s ∧ p < tot (boS s) ∧ q < tot (boS s) ∧ RetV (.bl (decide (root (dAt (boS s)) p = root (dAt (boS s)) q))) H Q
theorem sc_same_symbol : FnScope ["sequence", "one", "other", "blocks"] ["sequence", "one", "other"] (defScope s_same_symbol) := C8.fnScope_by (by decide +kernel)
theorem c_same_symbol {P : Program} {w : World} {K : PySem.W.Frag} {mg : Str → Option Value} {base : Heap} (t : Tx K mg) : C8.Cal P w K mg base 7 "same_symbol" sp_same_symbol [] := by
  obtain ⟨fd, F⟩ := t.f_same_symbol
  have nd := sc_same_symbol.nd
  refine ⟨_, fd, ["sequence", "one", "other"], [], F.ok sc_same_symbol (fun vs H Q E h => ?_) (fun cdv A outer s H vs Q E hr h => ?_), t.glo_same_symbol, F.kp, F.bindsN (fun _ _ _ _ _ _ us hl => match us, hl with | [_, _, _], _ => rfl), .nil⟩
  · obtain ⟨a, s', p, q, rfl, hS, hv, hp, hq, k⟩ := h
    rfl
  · obtain ⟨a, s', p, q, rfl, hS, hv, hp, hq, k⟩ := h
    have hu := hu_of hr
    have hu64 := hu64_of hr
    refine ⟨_, PSs.nox (pss_cons (ps_set (i := 3) nd rfl (Or.inl rfl) (C8.pe_c (c_blocks_of t) hr (by decide) rfl (pa_cons (pv 0) pa_nil)))
        (pss_one (ps_ret (pe_cmpR (op_eqD hu64) (pe_fld (C8.pe_mk (m_Occurrences t) hr (by decide) rfl (pa_cons (pv 3) (pa_cons (pv 1) pa_nil))) rfl) (pe_fld (C8.pe_mk (m_Occurrences t) hr (by decide) rfl (pa_cons (pv 3) (pa_cons (pv 2) pa_nil))) rfl) (nomark _))))), ?_⟩
    refine ⟨_, rfl, a, s', rfl, hS, hv, fun bl H1 e1 hbl hBs => ?_⟩
    have hl8 : (boS s').length ≤ 8 := by rw [boS_len]; have := hv.few; omega
    have hl1 : 1 ≤ (boS s').length := by rw [boS_len]; exact hv.one
    have hc := chB_boS hv.valid
    have hM := chM_boS hv.valid
    have hD := chD_boS hv.valid
    refine ⟨_, rfl, _, rfl, fun x dx hx hdx hne => ?_⟩
    have sm := same_made (o := .own x) (o' := .ins (He.ga K "Occurrences") dx []) hx hdx
    refine ⟨x, dx, bl, boS s', p, rfl, upd_same, hBs.mono sm, hl1, hl8, hc, hM, hD, hp, fun O rs H2 sb hO hRs hI => ⟨rfl, ?_⟩⟩
    have e2 := made_same hx hdx sb
    obtain ⟨dx', T, l, h0, hT, -⟩ := hI
    refine ⟨x, _, dx', _, .ref T, rfl, h0, t.cls_Occurrences, t.noat_Occurrences_origin, ofs_origin, ?_⟩
    refine ⟨_, rfl, _, rfl, fun x2 dx2 hx2 hdx2 hne2 => ?_⟩
    have sm2 := same_made (o := .own x2) (o' := .ins (He.ga K "Occurrences") dx2 []) hx2 hdx2
    refine ⟨x2, dx2, bl, boS s', q, rfl, upd_same, hBs.mono (e2.trans sm2), hl1, hl8, hc, hM, hD, hq, fun O2 rs2 H3 sb2 hO2 hRs2 hI2 => ⟨rfl, ?_⟩⟩
    have e3 := made_same hx2 hdx2 sb2
    obtain ⟨dx2', T2, l2, h02, hT2, -⟩ := hI2
    refine ⟨x2, _, dx2', _, .ref T2, rfl, h02, t.cls_Occurrences, t.noat_Occurrences_origin, ofs_origin, ?_⟩
    refine ⟨_, _, nd_dpT (e3 _ _ hT), nd_dpT hT2, nd_shapedT _, nd_shapedT _, ?_⟩
    rw [nd_eqvT]
    have eq : decide ([O.1, O.2.1, O.2.2] = [O2.1, O2.2.1, O2.2.2]) = decide (root (dAt (boS s')) p = root (dAt (boS s')) q) := by
      have h := same_plain hv hp hq hO hO2
      have h2 : [O.1, O.2.1, O.2.2] = [O2.1, O2.2.1, O2.2.2] ↔ O = O2 := by
        obtain ⟨a1, a2, a3⟩ := O
        obtain ⟨b1, b2, b3⟩ := O2
        simp
      exact decide_eq_decide.mpr (h2.trans h)
    rw [eq]
    exact k.go ((e1.trans e2).trans e3)
def sp_count_before : Sp := fun vs H Q _ => ∃ (a : Addr) (s : List Blk) (p : Nat), vs = [.ref a, vn p] ∧ IsS H a s ∧ VS s ∧ p < tot (boS s) ∧ RetV (vn (cnt (symP (dAt (boS s)) p) p)) H Q
theorem sc_count_before : FnScope ["sequence", "position"] ["sequence", "position"] (defScope s_count_before) := C8.fnScope_by (by decide +kernel)
theorem c_count_before {P : Program} {w : World} {K : PySem.W.Frag} {mg : Str → Option Value} {base : Heap} (t : Tx K mg) : C8.Cal P w K mg base 7 "count_before" sp_count_before [] := by
  obtain ⟨fd, F⟩ := t.f_count_before
  have nd := sc_count_before.nd
  refine ⟨_, fd, ["sequence", "position"], [], F.ok sc_count_before (fun vs H Q E h => ?_) (fun cdv A outer s H vs Q E hr h => ?_), t.glo_count_before, F.kp, F.bindsN (fun _ _ _ _ _ _ us hl => match us, hl with | [_, _], _ => rfl), .nil⟩
  · obtain ⟨a, s', p, rfl, hS, hv, hp, k⟩ := h
    rfl
  · obtain ⟨a, s', p, rfl, hS, hv, hp, k⟩ := h
    have hu := hu_of hr
    refine ⟨_, PSs.nox (pss_one (ps_ret (C8.pe_mt0 (me_occurrences_number_before t) hr (by decide) (C8.pe_mk (m_Occurrences t) hr (by decide) rfl (pa_cons (C8.pe_c (c_blocks_of t) hr (by decide) rfl (pa_cons (pv 0) pa_nil)) (pa_cons (pv 1) pa_nil)))))), ?_⟩
    have hl8 : (boS s').length ≤ 8 := by rw [boS_len]; have := hv.few; omega
    have hl1 : 1 ≤ (boS s').length := by rw [boS_len]; exact hv.one
    refine ⟨_, rfl, a, s', rfl, hS, hv, fun bl H1 e1 hbl hBs => ⟨_, rfl, fun x dx hx hdx hne => ?_⟩⟩
    have sm := same_made (o := .own x) (o' := .ins (He.ga K "Occurrences") dx []) hx hdx
    refine ⟨x, dx, bl, boS s', p, rfl, upd_same, hBs.mono sm, hl1, hl8, chB_boS hv.valid, chM_boS hv.valid, chD_boS hv.valid, hp, fun O rs H2 sb hO hRs hI => ⟨rfl, ?_⟩⟩
    have e2 := made_same hx hdx sb
    obtain ⟨dx', T, l, h0, -⟩ := id hI
    have hb := before_plain hv hp hO hRs
    rw [← hb] at k
    exact ⟨x, dx', _, rfl, h0, ofs_before, x, p, O, rs, rfl, hI, runs_fine8 hRs hl8, hRs.g.fine, start_plain hv hp hO hRs, fun H3 e3 => k.go ((e1.trans e2).trans e3)⟩
def sp_count_total : Sp := fun vs H Q _ => ∃ (a : Addr) (s : List Blk) (p : Nat), vs = [.ref a, vn p] ∧ IsS H a s ∧ VS s ∧ p < tot (boS s) ∧ RetV (vn (cnt (symP (dAt (boS s)) p) (tot (boS s)))) H Q
theorem sc_count_total : FnScope ["sequence", "position"] ["sequence", "position"] (defScope s_count_total) := C8.fnScope_by (by decide +kernel)
theorem c_count_total {P : Program} {w : World} {K : PySem.W.Frag} {mg : Str → Option Value} {base : Heap} (t : Tx K mg) : C8.Cal P w K mg base 7 "count_total" sp_count_total [] := by
  obtain ⟨fd, F⟩ := t.f_count_total
  have nd := sc_count_total.nd
  refine ⟨_, fd, ["sequence", "position"], [], F.ok sc_count_total (fun vs H Q E h => ?_) (fun cdv A outer s H vs Q E hr h => ?_), t.glo_count_total, F.kp, F.bindsN (fun _ _ _ _ _ _ us hl => match us, hl with | [_, _], _ => rfl), .nil⟩
  · obtain ⟨a, s', p, rfl, hS, hv, hp, k⟩ := h
    rfl
  · obtain ⟨a, s', p, rfl, hS, hv, hp, k⟩ := h
    have hu := hu_of hr
    refine ⟨_, PSs.nox (pss_one (ps_ret (C8.pe_mt0 (me_occurrences_number_in_all t) hr (by decide) (C8.pe_mk (m_Occurrences t) hr (by decide) rfl (pa_cons (C8.pe_c (c_blocks_of t) hr (by decide) rfl (pa_cons (pv 0) pa_nil)) (pa_cons (pv 1) pa_nil)))))), ?_⟩
    have hl8 : (boS s').length ≤ 8 := by rw [boS_len]; have := hv.few; omega
    have hl1 : 1 ≤ (boS s').length := by rw [boS_len]; exact hv.one
    refine ⟨_, rfl, a, s', rfl, hS, hv, fun bl H1 e1 hbl hBs => ⟨_, rfl, fun x dx hx hdx hne => ?_⟩⟩
    have sm := same_made (o := .own x) (o' := .ins (He.ga K "Occurrences") dx []) hx hdx
    refine ⟨x, dx, bl, boS s', p, rfl, upd_same, hBs.mono sm, hl1, hl8, chB_boS hv.valid, chM_boS hv.valid, chD_boS hv.valid, hp, fun O rs H2 sb hO hRs hI => ⟨rfl, ?_⟩⟩
    have e2 := made_same hx hdx sb
    obtain ⟨dx', T, l, h0, -⟩ := id hI
    have hb := all_plain hv hp hO hRs
    rw [← hb] at k
    exact ⟨x, dx', _, rfl, h0, ofs_all, x, p, O, rs, rfl, hI, runs_fine8 hRs hl8, hRs.g.fine, fun H3 e3 => k.go ((e1.trans e2).trans e3)⟩
def sp_nth_occurrence : Sp := fun vs H Q _ => ∃ (a : Addr) (s : List Blk) (p n : Nat), vs = [.ref a, vn p, vn n] ∧ IsS H a s ∧ VS s ∧ p < tot (boS s) ∧ (∀ o, NthP (symP (dAt (boS s)) p) (tot (boS s)) n o → RetV (vo o) H Q)
theorem sc_nth_occurrence : FnScope ["sequence", "position", "index", "found"] ["sequence", "position", "index"] (defScope s_nth_occurrence) := C8.fnScope_by (by decide +kernel)
theorem c_nth_occurrence {P : Program} {w : World} {K : PySem.W.Frag} {mg : Str → Option Value} {base : Heap} (t : Tx K mg) : C8.Cal P w K mg base 7 "nth_occurrence" sp_nth_occurrence [] := by
  obtain ⟨fd, F⟩ := t.f_nth_occurrence
  have nd := sc_nth_occurrence.nd
  refine ⟨_, fd, ["sequence", "position", "index"], [], F.ok sc_nth_occurrence (fun vs H Q E h => ?_) (fun cdv A outer s H vs Q E hr h => ?_), t.glo_nth_occurrence, F.kp, F.bindsN (fun _ _ _ _ _ _ us hl => match us, hl with | [_, _, _], _ => rfl), .nil⟩
  · obtain ⟨a, s', p, n, rfl, hS, hv, hp, k⟩ := h
    rfl
  · obtain ⟨a, s', p, n, rfl, hS, hv, hp, k⟩ := h
    have hu := hu_of hr
    refine ⟨_, PSs.nox (pss_cons (ps_set (i := 3) nd rfl (Or.inl rfl) (C8.pe_mk (m_Occurrences t) hr (by decide) rfl (pa_cons (C8.pe_c (c_blocks_of t) hr (by decide) rfl (pa_cons (pv 0) pa_nil)) (pa_cons (pv 1) pa_nil))))
        (pss_cons (ps_expr (C8.pe_c (c_check_number t) hr (by decide) rfl (pa_cons (pv 2) pa_nil)))
        (pss_one (ps_ret (C8.pe_mt (me_occurrences_nth_position t) hr (by decide) (pv 3) (pa_cons (pv 2) pa_nil)))))), ?_⟩
    have hl8 : (boS s').length ≤ 8 := by rw [boS_len]; have := hv.few; omega
    have hl1 : 1 ≤ (boS s').length := by rw [boS_len]; exact hv.one
    refine ⟨_, rfl, a, s', rfl, hS, hv, fun bl H1 e1 hbl hBs => ⟨_, rfl, fun x dx hx hdx hne => ?_⟩⟩
    have sm := same_made (o := .own x) (o' := .ins (He.ga K "Occurrences") dx []) hx hdx
    refine ⟨x, dx, bl, boS s', p, rfl, upd_same, hBs.mono sm, hl1, hl8, chB_boS hv.valid, chM_boS hv.valid, chD_boS hv.valid, hp, fun O rs H2 sb hO hRs hI => ⟨rfl, ?_⟩⟩
    have e2 := made_same hx hdx sb
    obtain ⟨dx', T, l, h0, h1, h2⟩ := hI
    have k' := k _ (nth_plain hv hp hO hRs n)
    refine ⟨_, rfl, n, rfl, fun H3 e3 => ?_⟩
    exact ⟨_, rfl, x, dx', _, rfl, e3 _ _ h0, ofs_nth, _, rfl, x, p, n, O, rs, rfl, ⟨dx', T, l, e3 _ _ h0, e3 _ _ h1, h2.mono (fun _ _ r => r.mono e3) e3⟩, runs_fine8 hRs hl8, hRs.g.fine, fun H4 e4 => k'.go (((e1.trans e2).trans e3).trans e4)⟩
end HB
namespace HB
open PySem PySem.Spec PyProof.Rows L2
def sp_law_stream : Sp := fun vs H Q _ => ∃ (c : Int) (k : Nat), vs = [.int c, vn k] ∧ k ≤ 100 ∧ ∀ p H', Same H H' → H p = none → IsSt H' p → Q (.ref p) H'
theorem sc_law_stream : FnScope ["_law_cell", "_law_k"] ["_law_cell", "_law_k"] (defScope s_law_stream) := C8.fnScope_by (by decide +kernel)
theorem c_law_stream {P : Program} {w : World} {K : PySem.W.Frag} {mg : Str → Option Value} {base : Heap} (t : Tx K mg) : C8.Cal P w K mg base 1 "_law_stream" sp_law_stream [] := by
  obtain ⟨fd, F⟩ := t.f_law_stream
  have nd := sc_law_stream.nd
  refine ⟨_, fd, ["_law_cell", "_law_k"], [], F.ok sc_law_stream (fun vs H Q E h => ?_) (fun cdv A outer s H vs Q E hr h => ?_), t.glo_law_stream, F.kp, F.bindsN (fun _ _ _ _ _ _ us hl => match us, hl with | [_, _], _ => rfl), .nil⟩
  · obtain ⟨c, j, rfl, hj, k⟩ := h
    rfl
  · obtain ⟨c, j, rfl, hj, k⟩ := h
    have hu := hu_of hr
    refine ⟨_, PSs.nox (pss_one (ps_ret (pe_lst (pa_cons (pe_callB call_abs (by rfl) t.free_abs (by decide +kernel) (pa_cons (pv 0) pa_nil)) (pa_cons (pe_op op_mod (pe_op op_mul (pe_op op_add (pe_op op_mod (pe_callB call_abs (by rfl) t.free_abs (by decide +kernel) (pa_cons (pv 0) pa_nil)) pe_int) pe_int) (pe_op op_add (pe_op op_mul pe_int (pv 1)) pe_int)) pe_int) pa_nil))))), ?_⟩
    have ha : ∃ a : Nat, (if c < 0 then -c else c) = (a : Int) := ⟨c.natAbs, by split <;> omega⟩
    obtain ⟨a, ha⟩ := ha
    refine ⟨_, rfl, _, rfl, ?_⟩
    rw [ha]
    refine ⟨_, rfl, _, rfl, ?_⟩
    rw [ha]
    refine ⟨_, _, rfl, rfl, by omega, _, _, rfl, rfl, _, rfl, _, _, rfl, rfl, .inr ⟨by omega, by omega⟩, _, _, rfl, rfl, _, _, rfl, rfl, .inr ⟨by omega, by omega⟩, _, _, rfl, rfl, by omega, by show 2 ≤ sizeLine; decide, fun p hp => ?_⟩
    refine k p _ (Same.new hp) hp ⟨a, (a % 2147483629 + 1) * (2 * j + 16807) % 2147483647, upd_same, ?_⟩
    exact Nat.lt_trans (Nat.mod_lt _ (by decide)) (by decide)
def sp_law_draw : Sp := fun vs H Q _ => ∃ (st : Addr) (many : Nat), vs = [.ref st, vn many] ∧ IsSt H st ∧ 1 ≤ many ∧ many ≤ 10 ^ 40 ∧ ∀ r H', r < many → SameBut st H H' → IsSt H' st → Q (vn r) H'
theorem sc_law_draw : FnScope ["_law_stream_here", "_law_many", "_law_found", "_law_stirred"] ["_law_stream_here", "_law_many"] (defScope s_law_draw) := C8.fnScope_by (by decide +kernel)
theorem c_law_draw {P : Program} {w : World} {K : PySem.W.Frag} {mg : Str → Option Value} {base : Heap} (t : Tx K mg) : C8.Cal P w K mg base 1 "_law_draw" sp_law_draw [] := by
  obtain ⟨fd, F⟩ := t.f_law_draw
  have nd := sc_law_draw.nd
  refine ⟨_, fd, ["_law_stream_here", "_law_many"], [], F.ok sc_law_draw (fun vs H Q E h => ?_) (fun cdv A outer s H vs Q E hr h => ?_), t.glo_law_draw, F.kp, F.bindsN (fun _ _ _ _ _ _ us hl => match us, hl with | [_, _], _ => rfl), .nil⟩
  · obtain ⟨st, many, rfl, ⟨a, b, hS, hb⟩, h1, h40, k⟩ := h
    rfl
  · obtain ⟨st, many, rfl, ⟨a, b, hS, hb⟩, h1, h40, k⟩ := h
    have hu := hu_of hr
    refine ⟨_, PSs.nox (pss_cons (ps_if (pt_cmpR op_ge (pe_ix ix_list (pv 0) pe_int (fun _ _ => rfl)) (pe_op op_pow pe_int pe_int) (nomark _)) (pss_cons (ps_set (i := 2) nd rfl (Or.inl rfl) (pe_op op_mod (pe_ix ix_list (pv 0) pe_int (fun _ _ => rfl)) (pv 1)))
        (pss_cons (ps_asg (pe_op op_fdivW (pe_ix ix_list (pv 0) pe_int (fun _ _ => rfl)) (pv 1)) (pg_sub (pv 0) pe_int set_list))
        (pss_one (ps_ret (pv 2))))) pss_nil)
        (pss_cons (ps_asg (pe_op op_mod (pe_op op_mul (pe_op op_add (pe_ix ix_list (pv 0) pe_int (fun _ _ => rfl)) pe_int) pe_int) pe_int) (pg_sub (pv 0) pe_int set_list))
        (pss_cons (ps_set (i := 3) nd rfl (Or.inl rfl) (pe_op op_mod (pe_op op_mul (pe_ix ix_list (pv 0) pe_int (fun _ _ => rfl)) (pe_ix ix_list (pv 0) pe_int (fun _ _ => rfl))) pe_int))
        (pss_one (ps_ret (pe_op op_mod (pe_op op_fdiv (pe_op op_mod (pe_op op_mul (pv 3) pe_int) pe_int) pe_int) (pv 1))))))), ?_⟩
    refine ⟨_, rfl, st, _, 0, vn a, rfl, rfl, sl hS, rfl, 10, 18, rfl, rfl, ⟨by decide, by decide, by decide⟩, _, _, rfl, rfl, _, rfl, if_dec (fun h => ?_) (fun h => ?_)⟩
    · refine ⟨_, rfl, st, _, 0, vn a, rfl, rfl, sl hS, rfl, _, rfl, _, _, rfl, rfl, by omega, ?_⟩
      refine ⟨_, rfl, st, _, 0, vn a, rfl, rfl, sl hS, rfl, _, rfl, _, (many : Int), rfl, rfl, ⟨by omega, log_small h40⟩, _, rfl, st, _, 0, 0, rfl, rfl, hS, rfl, ?_⟩
      exact ⟨_, rfl, k (a % many) _ (Nat.mod_lt _ h1) SameBut.upd ⟨a / many, b, upd_same, hb⟩⟩
    · refine ⟨_, rfl, st, _, 1, vn b, rfl, rfl, sl hS, rfl, _, _, rfl, rfl, _, _, rfl, rfl, .inr ⟨by omega, by omega⟩, _, _, rfl, rfl, by omega, _, rfl, st, _, 1, 1, rfl, rfl, hS, rfl, ?_⟩
      have hb2 : (b + 1) * 48271 % 2147483647 < 2147483648 := Nat.lt_trans (Nat.mod_lt _ (by decide)) (by decide)
      generalize hG : upd H st _ = G
      have hS2 : G st = some (.lst [vn a, vn ((b + 1) * 48271 % 2147483647)]) := by rw [← hG]; exact upd_same
      have sb : SameBut st H G := by rw [← hG]; exact SameBut.upd
      generalize (b + 1) * 48271 % 2147483647 = c at hS2 hb2
      have hS3 : IsSt G st := ⟨_, _, hS2, hb2⟩
      have hx : ∀ x : Nat, x % 2147483629 < 2147483629 := fun x => Nat.mod_lt _ (by decide)
      refine ⟨_, rfl, st, _, 1, vn c, rfl, rfl, sl hS2, rfl, _, rfl, st, _, 1, vn c, rfl, rfl, sl hS2, rfl, _, _, rfl, rfl, .inl ⟨by omega, by omega⟩, _, _, rfl, rfl, by omega, ?_⟩
      refine ⟨_, rfl, _, _, rfl, rfl, .inr ⟨by omega, by omega⟩, _, _, rfl, rfl, by omega, _, 8, rfl, rfl, ⟨by omega, by omega⟩, _, rfl, _, (many : Int), rfl, rfl, by omega, ?_⟩
      exact k (c * c % 2147483629 * 69621 % 2147483587 / 8 % many) _ (Nat.mod_lt _ h1) sb hS3
end HB
namespace HB
open PySem PySem.Spec PyProof.Rows L2
def sp_concatenate : Sp := fun vs H Q _ => ∃ (a b l : Addr) (xs ys : List Nat) (m : List (Nat × Nat)), vs = [.ref a, .ref b, .ref l] ∧ IsL H a xs ∧ IsL H b ys ∧ IsP H l m ∧ ValidD xs ∧ ValidD ys ∧ xs.length ≤ 40 ∧ ys.length ≤ 40 ∧ ValidM m (nz ys) (nz xs) ∧ RetL (concat xs ys m) H Q
theorem sc_concatenate : FnScope ["first", "second", "mapping", "one", "two", "count", "mapped", "pair", "symbol"] ["first", "second", "mapping"] (defScope s_concatenate) := C8.fnScope_by (by decide +kernel)
theorem c_concatenate {P : Program} {w : World} {K : PySem.W.Frag} {mg : Str → Option Value} {base : Heap} (t : Tx K mg) : C8.Cal P w K mg base 4 "concatenate" sp_concatenate [] := by
  obtain ⟨fd, F⟩ := t.f_concatenate
  have nd := sc_concatenate.nd
  refine ⟨_, fd, ["first", "second", "mapping"], [], F.ok sc_concatenate (fun vs H Q E h => ?_) (fun cdv A outer s H vs Q E hr h => ?_), t.glo_concatenate, F.kp, F.bindsN (fun _ _ _ _ _ _ us hl => match us, hl with | [_, _, _], _ => rfl), .nil⟩
  · obtain ⟨a, b, l, xs, ys, m, rfl, hA, hB, hP, vA, vB, lA, lB, vM, k⟩ := h
    rfl
  · obtain ⟨a, b, l, xs, ys, m, rfl, hA, hB, hP, vA, vB, lA, lB, vM, k⟩ := h
    have hu := hu_of hr
    refine ⟨_, PSs.nox (pss_cons (ps_par (i := 3) (j := 4) (by rfl) nd rfl rfl (by decide) rfl rfl (pa_cons (C8.pe_c (c_checked t) hr (by decide) rfl (pa_cons (pv 0) pa_nil)) (pa_cons (C8.pe_c (c_checked t) hr (by decide) rfl (pa_cons (pv 1) pa_nil)) pa_nil)) (by rfl))
        (pss_cons (ps_set (i := 5) nd rfl (Or.inr rfl) (C8.pe_c (c_symbol_count t) hr (by decide) rfl (pa_cons (pv 3) pa_nil)))
        (pss_cons (ps_if (pt_not (pt_val (C8.pe_c (c_is_mapping t) hr (by decide) rfl (pa_cons (pv 2) (pa_cons (C8.pe_c (c_symbol_count t) hr (by decide) rfl (pa_cons (pv 4) pa_nil)) (pa_cons (pv 5) pa_nil)))))) pss_never pss_nil)
        (pss_cons (ps_if (pt_cmpR op_gt (pe_op op_add (pe_callB call_len_seq (by rfl) t.free_len (by decide +kernel) (pa_cons (pv 3) pa_nil)) (pe_callB call_len_seq (by rfl) t.free_len (by decide +kernel) (pa_cons (pv 4) pa_nil))) (C8.pe_gc rfl t.k_MAX_POSITIONS) (nomark _)) pss_never pss_nil)
        (pss_cons (ps_set (i := 6) nd rfl (Or.inr rfl) (pe_dc (own := [("pair", 7)]) (g := (gName 7)) (tt := tYes) (tk := (tOp (rIxT K) (tVar 7) (tC (.int 0)))) (tv := (tOp (rIxT K) (tVar 7) (tC (.int 1)))) rfl nd (pi_list (pv 2)) (blkOk_by (by kernel_rfl)) (fun _ _ _ _ _ => (pg_name (i := 7) nd rfl (Or.inl rfl))) (fun _ _ _ _ _ => pts_nil) (fun _ _ _ _ _ => (pe_ix ix_tup (pv 7) pe_int (fun _ _ => rfl))) (fun _ _ _ _ _ => (pe_ix ix_tup (pv 7) pe_int (fun _ _ => rfl)))))
        (pss_one (ps_ret (C8.pe_c (c_distances_by t) hr (by decide) rfl (pa_cons (pe_op op_cat (C8.pe_c (c_ids_of t) hr (by decide) rfl (pa_cons (pv 3) pa_nil)) (pe_lc (own := [("symbol", 8)]) (g := (gName 8)) (tt := tYes) (te := (tDGet2 (tVar 6) (tVar 8) (tOp (rI0 fun i j => .int (i + j)) (tVar 5) (tVar 8)))) rfl nd  (pi_list (C8.pe_c (c_ids_of t) hr (by decide) rfl (pa_cons (pv 4) pa_nil))) (blkOk_by (by kernel_rfl)) (fun _ _ _ _ _ => (pg_name (i := 8) nd rfl (Or.inl rfl))) (fun _ _ _ _ _ => pts_nil) (fun _ _ _ _ _ => (pe_dget2 hu (pv 6) (pv 8) (pe_op op_add (pv 5) (pv 8)) ⟨rfl, rfl, rfl, rfl⟩)))) pa_nil))))))))), ?_⟩
    obtain ⟨us, hU, hul, hUR⟩ := id hP
    have nzx := nz_le xs
    have nzy := nz_le ys
    have mlen := vM.len
    refine ⟨_, rfl, a, xs, rfl, hA, vA, by omega, fun p1 H1 e1 hp1 hL1 => ⟨_, rfl, b, ys, rfl, hB.mono e1, vB, by omega, fun p2 H2 e2 hp2 hL2 => ⟨_, _, rfl, ?_⟩⟩⟩
    refine ⟨_, rfl, p1, xs, rfl, hL1.mono e2, by omega, fun H3 e3 => ?_⟩
    have e03 := (e1.trans e2).trans e3
    refine ⟨_, rfl, _, rfl, p2, ys, rfl, hL2.mono e3, by omega, fun H4 e4 => ⟨_, rfl, l, m, nz ys, nz xs, rfl, hP.mono (e03.trans e4), vM, by omega, fun H5 e5 => ⟨_, rfl, iteF ?_⟩⟩⟩
    have e05 := (e03.trans e4).trans e5
    have h1 := hL1.mono (((e2.trans e3).trans e4).trans e5)
    have h2 := hL2.mono ((e3.trans e4).trans e5)
    refine ⟨_, rfl, p1, _, rfl, .inl (sl h1), _, rfl, p2, _, rfl, .inl (sl h2), _, _, rfl, rfl, _, _, rfl, rfl, _, rfl, if_dec (fun h => absurd h ?_) (fun _ => ?_)⟩
    · rw [nv_len, nv_len]
      omega
    refine ⟨_, rfl, l, rfl, ⟨_, sl (e05 _ _ hU)⟩, fun D hD => ?_⟩
    refine dc_pairs (ps := m) (e05 _ _ hU) hul (fun i p v a c => (hUR i p v a c).mono e05) vM.asc (by omega) (fun _ => rfl) (fun _ => rfl) hD fun H6 e6 hDP => ?_
    have e06 := e05.trans e6
    refine ⟨_, rfl, p1, xs, rfl, h1.mono e6, vA, by omega, fun q1 H7 e7 hq1 hI1 => ?_⟩
    refine ⟨_, rfl, p2, ys, rfl, h2.mono (e6.trans e7), vB, by omega, fun q2 H8 e8 hq2 hI2 => ⟨q2, rfl, ⟨_, sl hI2⟩, fun D2 hD2 => ?_⟩⟩
    have il := ids_len ys
    have il1 := ids_len xs
    refine lc_val walk_list (fun i => ((ids ys)[i]?).map fun s => vn ((lk m s).getD (nz xs + s))) (by rw [nv_len]; omega) hD2 (fun H' e => sl (hI2.mono e)) (fun i x H9 H10 Ky Kn hi e y ky kn => ?_) fun H9 e9 hl9 => ?_
    · obtain ⟨rfl, hx⟩ := y
      obtain ⟨s, hs, rfl⟩ := nv_get hx
      have hdp := hDP.mono ((e7.trans e8).trans e)
      have hg := hdp.df.get s
      refine ⟨Same.refl _, rfl, _, rfl, D, rfl, .inl ⟨_, .inl hdp.1⟩, _, rfl, _, rfl, _, rfl, _, _, rfl, rfl, _, hg, ky _ (Same.refl _) _ ?_⟩
      rw [hs]
      show some (vn _) = some _
      cases lk m s with
      | none => rfl
      | some t => rfl
    rw [nv_len, fm_get] at hl9
    have hI1' := hI1.mono (e8.trans e9)
    refine ⟨q1, D2, _, _, rfl, rfl, hI1', hl9, ?_, fun pc hpc => ?_⟩
    · rw [nv_len, List.length_map]
      exact Nat.le_trans (show _ ≤ 80 by omega) (by decide)
    have e0 := (((e06.trans e7).trans e8).trans e9).trans (Same.new (o := .lst (nv (ids xs) ++ (ids ys).map fun s => vn ((lk m s).getD (nz xs + s)))) hpc)
    refine ⟨pc, ids xs ++ (ids ys).map fun s => (lk m s).getD (nz xs + s), rfl, ?_, ?_, fun r H' er hr hLr => k r H' (e0.trans er) (e0.free hr) hLr⟩
    · show upd _ pc _ pc = _
      rw [upd_same]
      unfold nv
      rw [List.map_append, List.map_map]
      rfl
    · rw [List.length_append, List.length_map]
      omega
def sp_law_distances : Sp := fun vs H Q _ => ∃ (a : Addr) (xs : List Nat), vs = [.ref a] ∧ IsL H a xs ∧ xs.length ≤ 400 ∧ RetL (dists xs) H Q
theorem sc_law_distances : FnScope ["_law_symbols_here", "_law_found", "_law_position", "_law_symbol", "_law_ahead", "_law_at"] ["_law_symbols_here"] (defScope s_law_distances) := C8.fnScope_by (by decide +kernel)
theorem c_law_distances {P : Program} {w : World} {K : PySem.W.Frag} {mg : Str → Option Value} {base : Heap} (t : Tx K mg) : C8.Cal P w K mg base 1 "_law_distances" sp_law_distances [] := by
  obtain ⟨fd, F⟩ := t.f_law_distances
  have nd := sc_law_distances.nd
  refine ⟨_, fd, ["_law_symbols_here"], [], F.ok sc_law_distances (fun vs H Q E h => ?_) (fun cdv A outer s H vs Q E hr h => ?_), t.glo_law_distances, F.kp, F.bindsN (fun _ _ _ _ _ _ us hl => match us, hl with | [_], _ => rfl), .nil⟩
  · obtain ⟨a, xs, rfl, hL, hl, k⟩ := h
    rfl
  · obtain ⟨a, xs, rfl, hL, hl, k⟩ := h
    have hu := hu_of hr
    have hu64 := hu64_of hr
    refine ⟨_, PSs.nox (pss_cons (ps_set (i := 1) nd rfl (Or.inl rfl) (pe_lst pa_nil))
        (pss_cons (ps_for PassesOwn.never rfl (pi_enum (by rfl) t.free_enumerate (pa_cons (pv 0) pa_nil)) (pg_tup rfl (pgs_cons (pg_name (i := 2) nd rfl (Or.inl rfl)) (pgs_cons (pg_name (i := 3) nd rfl (Or.inr rfl)) pgs_nil))) (pss_cons (ps_setLc (i := 4) (own := [("_law_at", 5)]) (g := (gName 5)) (tt := (tTest (tOp rEq (tOp (rIxL K) (tVar 0) (tVar 5)) (tVar 3)))) (te := (tVar 5)) rfl nd rfl rfl (sw_true rfl rfl rfl (by decide +kernel)) (pi_range1 (by rfl) t.free_range (pa_cons (pv 2) pa_nil)) (blkOk_by (by kernel_rfl)) (fun _ _ _ _ _ => (pg_name (i := 5) nd rfl (Or.inl rfl))) (fun _ _ _ _ _ => (pts_one (pt_cmpR op_eq (pe_ix ix_list (pv 0) (pv 5) (fun _ _ => rfl)) (pv 3) (nomark _)))) (fun _ _ _ _ _ => (pv 5)))
        (pss_one (ps_expr (pe_bm PySem.F.plainAttrs_list PySem.F.slot_list_append PySem.F.type_list_append mt_append (pv 1) (pa_cons (pe_ifExp (pt_cmpR (op_neD hu64) (pv 4) (pe_lst pa_nil) (nomark _)) (pe_op op_subN (pv 2) (pe_ix ix_list (pv 4) (pe_un un_neg pe_int) (fun _ _ => rfl))) pe_int) pa_nil))))))
        (pss_one (ps_ret (pv 1))))), ?_⟩
    refine ⟨Nat.zero_le _, fun l hl0 => ?_⟩
    refine ⟨_, rfl, a, nv xs, rfl, sl (Same.new hl0 _ _ hL), for_it walk_enum (fun i σ H' => ∃ (v2 v3 v4 : Option V), σ = [some (.ref a), some (.ref l), v2, v3, v4, none] ∧ Same H H' ∧ IsL H' l (dists (xs.take i)))
      ⟨none, none, none, rfl, Same.new hl0, upd_same⟩ (fun i σ H' _ ⟨_, _, _, _, e, _⟩ => sl (e _ _ hL)) ?_ ?_⟩
    · rintro i x σ H1 H2 hi ⟨v2, v3, v4, rfl, e, h1⟩ ⟨T, y, z, rfl, hT, rfl, hy, hz⟩
      cases hy
      obtain ⟨n, hn, rfl⟩ := nv_get hz
      have hi2 := (List.getElem?_eq_some_iff.mp hn).1
      have e1 := Same.new (o := .tup [.int (i : Nat), vn n]) hT
      have e2 := e.trans e1
      have h2 := h1.mono e1
      refine ⟨T, _, rfl, SqT.of upd_same, rfl, _, _, rfl, _, _, rfl, rfl, ?_⟩
      generalize upd H1 T _ = G at *
      refine ⟨_, rfl, _, rfl, by omega, by omega, fun D hD => ?_⟩
      rw [show (((i : Nat) : Int)).toNat = i from rfl]
      refine lc_val walk_rangeN (fun j => (if xs.getD j 0 = n then some j else none : Option Nat).map vn) (by omega) hD (fun _ _ => True.intro) (fun j y H3 H4 Ky Kn hj e' yy ky kn => ?_) fun H3 e3 hl3 => ?_
      · obtain ⟨rfl, rfl⟩ := yy
        refine ⟨Same.refl _, rfl, _, rfl, _, rfl, a, _, _, vn (xs.getD j 0), rfl, rfl, sl (hL.mono (e2.trans e')), nv_ix (by omega), _, rfl, rfl, _, rfl, if_eq (fun h => ?_) (fun h => ?_)⟩
        · exact ⟨_, rfl, ky _ (Same.refl _) _ (by rw [if_pos h]; rfl)⟩
        · exact kn _ (Same.refl _) (by rw [if_neg h]; rfl)
      rw [fm_nv] at hl3
      have hla := ahead_last xs n i (by omega)
      generalize hA : ((List.range i).filterMap fun j => if xs.getD j 0 = n then some j else none) = A at *
      have hA3 : IsL H3 D A := hl3
      have h3 := h2.mono e3
      refine ⟨_, rfl, .inl ⟨rfl, _, sl h3⟩, ?_⟩
      refine val2 (fun v H' => v = vn (match lastI (xs.take i) n with
        | some j => i - j
        | none => 0)) (fun Q q => ?_) fun v H' eH hv => ?_
      · refine ⟨_, rfl, Nat.zero_le _, fun r hr => ⟨.list (HB.nd A), .list (HB.nd []), nd_dp (hA3.mono (Same.new hr)), nd_dp (show IsL _ r [] from upd_same), nd_shaped _, nd_shaped _, _, rfl, ?_⟩⟩
        rw [nd_eqv]
        have er := Same.new (o := .lst []) hr
        cases hm : lastI (xs.take i) n with
        | none =>
          rw [hm] at hla q
          rw [List.getLast?_eq_none_iff] at hla
          rw [hla, decide_eq_true rfl]
          exact iteF (q _ _ er rfl)
        | some j =>
          rw [hm] at hla q
          have hne : A ≠ [] := fun z => by rw [z] at hla; cases hla
          rw [decide_eq_false hne]
          have hj := (lastI_lt hm).1
          rw [List.length_take] at hj
          exact iteT ⟨_, rfl, _, rfl, _, rfl, D, _, _, vn j, rfl, rfl, sl (hA3.mono er), ix_last (by unfold nv; rw [List.getLast?_map, hla]; rfl), i, j, rfl, rfl, by omega, q _ _ er rfl⟩
      · subst hv
        have h4 := h3.mono eH
        refine ⟨l, _, _, rfl, rfl, h4, ?_, some (vn i), some (vn n), some (.ref D), rfl, Same.mut ((e2.trans e3).trans eH) hl0, ?_⟩
        · rw [nv_len, dists_len, List.length_take]
          exact Nat.lt_of_le_of_lt (Nat.min_le_left ..) (Nat.lt_of_lt_of_le hi2 (Nat.le_trans hl (by decide)))
        · show upd _ l _ l = _
          rw [upd_same, dists_take hn, nv_snoc]
          try rfl
    · rintro σ H1 ⟨v2, v3, v4, rfl, e, h1⟩
      rw [nv_len, List.take_length] at h1
      exact ⟨_, rfl, k l H1 e hl0 h1⟩
def sp_law_ids : Sp := fun vs H Q _ => ∃ a xs, vs = [.ref a] ∧ IsL H a xs ∧ ValidD xs ∧ xs.length ≤ 400 ∧ RetL (ids xs) H Q
theorem sc_law_ids : FnScope ["_law_distances_here", "_law_found", "_law_many", "_law_position", "_law_number"] ["_law_distances_here"] (defScope s_law_ids) := C8.fnScope_by (by decide +kernel)
theorem c_law_ids {P : Program} {w : World} {K : PySem.W.Frag} {mg : Str → Option Value} {base : Heap} (t : Tx K mg) : C8.Cal P w K mg base 1 "_law_ids" sp_law_ids [] := by
  obtain ⟨fd, F⟩ := t.f_law_ids
  have nd := sc_law_ids.nd
  refine ⟨_, fd, ["_law_distances_here"], [], F.ok sc_law_ids (fun vs H Q E h => ?_) (fun cdv A outer s H vs Q E hr h => ?_), t.glo_law_ids, F.kp, F.bindsN (fun _ _ _ _ _ _ us hl => match us, hl with | [_], _ => rfl), .nil⟩
  · obtain ⟨a, xs, rfl, hL, hv, hl, k⟩ := h
    rfl
  · obtain ⟨a, xs, rfl, hL, hv, hl, k⟩ := h
    have hu := hu_of hr
    refine ⟨_, PSs.nox (pss_cons (ps_set (i := 1) nd rfl (Or.inl rfl) (pe_lst pa_nil))
        (pss_cons (ps_set (i := 2) nd rfl (Or.inl rfl) pe_int)
        (pss_cons (ps_for PassesOwn.never rfl (pi_enum (by rfl) t.free_enumerate (pa_cons (pv 0) pa_nil)) (pg_tup rfl (pgs_cons (pg_name (i := 3) nd rfl (Or.inl rfl)) (pgs_cons (pg_name (i := 4) nd rfl (Or.inl rfl)) pgs_nil))) (pss_one (ps_if (pt_cmpR op_eq (pv 4) pe_int (nomark _)) (pss_cons (ps_expr (pe_bm PySem.F.plainAttrs_list PySem.F.slot_list_append PySem.F.type_list_append mt_append (pv 1) (pa_cons (pv 2) pa_nil)))
        (pss_one (ps_set (i := 2) nd rfl (Or.inl rfl) (pe_op op_add (pv 2) pe_int)))) (pss_one (ps_expr (pe_bm PySem.F.plainAttrs_list PySem.F.slot_list_append PySem.F.type_list_append mt_append (pv 1) (pa_cons (pe_ix ix_list (pv 1) (pe_op op_subN (pv 3) (pv 4)) (fun _ _ => rfl)) pa_nil)))))))
        (pss_one (ps_ret (pv 1)))))), ?_⟩
    refine ⟨Nat.zero_le _, fun l hl0 => ?_⟩
    refine ⟨_, rfl, a, nv xs, rfl, sl (Same.new hl0 _ _ hL), for_it walk_enum (fun i σ H' => ∃ (v3 v4 : Option V), σ = [some (.ref a), some (.ref l), some (vn (idsG (xs.take i)).2), v3, v4] ∧ Same H H' ∧ IsL H' l (idsG (xs.take i)).1)
      ⟨none, none, rfl, Same.new hl0, upd_same⟩ (fun i σ H' _ ⟨_, _, _, e, _⟩ => sl (e _ _ hL)) ?_ ?_⟩
    · rintro i x σ H1 H2 hi ⟨v3, v4, rfl, e, h1⟩ ⟨T, y, z, rfl, hT, rfl, hy, hz⟩
      cases hy
      obtain ⟨n, hn, rfl⟩ := nv_get hz
      have e2 := e.trans (Same.new (o := .tup [.int (i : Nat), vn n]) hT)
      have h2 : IsL (upd H1 T (.tup [.int (i : Nat), vn n])) l _ := Same.new hT _ _ h1
      have len : (idsG (xs.take i)).1.length = i := by
        rw [idsG_len, List.length_take]
        have := (List.getElem?_eq_some_iff.mp hn).1
        omega
      have small : (nv (idsG (xs.take i)).1).length < sizeLine := by
        rw [nv_len, len]
        have := (List.getElem?_eq_some_iff.mp hn).1
        exact Nat.lt_of_lt_of_le (Nat.lt_of_lt_of_le this hl) (by decide)
      refine ⟨T, _, rfl, SqT.of upd_same, rfl, _, _, rfl, _, _, rfl, rfl, ?_⟩
      refine ⟨_, rfl, rfl, _, rfl, if_eq (b := 0) (fun h0 => ?_) (fun h0 => ?_)⟩
      · refine ⟨_, rfl, .inl ⟨rfl, _, sl h2⟩, _, rfl, l, _, _, rfl, rfl, h2, small, ?_⟩
        refine ⟨_, rfl, _, _, rfl, rfl, some (vn i), some (vn n), ?_, Same.mut e2 hl0, ?_⟩
        · rw [idsG_snoc hn]
          unfold idsF
          rw [if_pos h0]
          rfl
        · show upd _ l _ l = _
          rw [upd_same, idsG_snoc hn, nv_snoc]
          unfold idsF
          rw [if_pos h0]
      · have hd := hv.le i n hn
        refine ⟨_, rfl, .inl ⟨rfl, _, sl h2⟩, _, rfl, _, rfl, _, rfl, i, n, rfl, rfl, hd, l, _, _, vn ((idsG (xs.take i)).1.getD (i - n) 0), rfl, rfl, sl h2, nv_ix (by omega), l, _, _, rfl, rfl, h2, small, ?_⟩
        · refine ⟨some (vn i), some (vn n), ?_, Same.mut e2 hl0, ?_⟩
          · rw [idsG_snoc hn]
            unfold idsF
            rw [if_neg h0]
            rfl
          · show upd _ l _ l = _
            rw [upd_same, idsG_snoc hn, nv_snoc]
            unfold idsF
            rw [if_neg h0, len]
    · rintro σ H1 ⟨v3, v4, rfl, e, h1⟩
      rw [nv_len, List.take_length] at h1
      exact ⟨_, rfl, k l H1 e hl0 h1⟩
def sp_law_symbol_count : Sp := fun vs H Q _ => ∃ a xs, vs = [.ref a] ∧ IsL H a xs ∧ xs.length ≤ 1000 ∧ RetV (vn (nz xs)) H Q
theorem sc_law_symbol_count : FnScope ["_law_distances_here", "_law_number"] ["_law_distances_here"] (defScope s_law_symbol_count) := C8.fnScope_by (by decide +kernel)
theorem c_law_symbol_count {P : Program} {w : World} {K : PySem.W.Frag} {mg : Str → Option Value} {base : Heap} (t : Tx K mg) : C8.Cal P w K mg base 1 "_law_symbol_count" sp_law_symbol_count [] := by
  obtain ⟨fd, F⟩ := t.f_law_symbol_count
  have nd := sc_law_symbol_count.nd
  refine ⟨_, fd, ["_law_distances_here"], [], F.ok sc_law_symbol_count (fun vs H Q E h => ?_) (fun cdv A outer s H vs Q E hr h => ?_), t.glo_law_symbol_count, F.kp, F.bindsN (fun _ _ _ _ _ _ us hl => match us, hl with | [_], _ => rfl), .nil⟩
  · obtain ⟨a, xs, rfl, hL, hl, k⟩ := h
    rfl
  · obtain ⟨a, xs, rfl, hL, hl, k⟩ := h
    have hu := hu_of hr
    refine ⟨_, PSs.nox (pss_one (ps_ret (pe_callB call_len_seq (by rfl) t.free_len (by decide +kernel) (pa_cons (pe_lc (own := [("_law_number", 1)]) (g := (gName 1)) (tt := (tTest (tOp rEq (tVar 1) (tC (.int 0))))) (te := (tC (.int 1))) rfl nd  (pi_list (pv 0)) (blkOk_by (by kernel_rfl)) (fun _ _ _ _ _ => (pg_name (i := 1) nd rfl (Or.inl rfl))) (fun _ _ _ _ _ => (pts_one (pt_cmpR op_eq (pv 1) pe_int (nomark _)))) (fun _ _ _ _ _ => pe_int)) pa_nil)))), ?_⟩
    refine ⟨_, rfl, a, rfl, ⟨_, sl hL⟩, fun D hD => ?_⟩
    refine lc_val walk_list (fun i => if xs.getD i 0 = 0 then some (V.int 1) else none) (by rw [nv_len]; omega) hD (fun H' e => sl (hL.mono e)) (fun i x H1 H2 Ky Kn hi e y ky kn => ?_) fun H' e hl' => ?_
    · obtain ⟨rfl, hx⟩ := y
      obtain ⟨n, hn, rfl⟩ := nv_get hx
      have hd := getD_of hn
      refine ⟨Same.refl _, rfl, _, rfl, rfl, _, rfl, if_eq (b := 0) (fun h => ?_) (fun h => ?_)⟩
      · exact ky _ (Same.refl _) _ (by rw [hd, if_pos h])
      · exact kn _ (Same.refl _) (by rw [hd, if_neg h])
    refine ⟨D, _, rfl, .inl (sl hl'), ?_⟩
    rw [nv_len, fm_zeros xs _ _ (Nat.le_refl _), List.take_length]
    exact k.go e
def sp_law_symbols : Sp := fun vs H Q _ => ∃ (st : Addr) (many most : Nat), vs = [.ref st, vn many, vn most] ∧ IsSt H st ∧ 1 ≤ many ∧ many ≤ 100 ∧ 1 ≤ most ∧ most ≤ 100 ∧ ∀ p xs H', SameBut st H H' → H p = none → IsSt H' st → IsL H' p xs → xs.length = many → Q (.ref p) H'
theorem sc_law_symbols : FnScope ["_law_stream_here", "_law_many", "_law_most", "_law_size", "_law_some", "_law_k"] ["_law_stream_here", "_law_many", "_law_most"] (defScope s_law_symbols) := C8.fnScope_by (by decide +kernel)
theorem c_law_symbols {P : Program} {w : World} {K : PySem.W.Frag} {mg : Str → Option Value} {base : Heap} (t : Tx K mg) : C8.Cal P w K mg base 2 "_law_symbols" sp_law_symbols [] := by
  obtain ⟨fd, F⟩ := t.f_law_symbols
  have nd := sc_law_symbols.nd
  refine ⟨_, fd, ["_law_stream_here", "_law_many", "_law_most"], [], F.ok sc_law_symbols (fun vs H Q E h => ?_) (fun cdv A outer s H vs Q E hr h => ?_), t.glo_law_symbols, F.kp, F.bindsN (fun _ _ _ _ _ _ us hl => match us, hl with | [_, _, _], _ => rfl), .nil⟩
  · obtain ⟨st, many, most, rfl, hS, m1, m2, n1, n2, k⟩ := h
    rfl
  · obtain ⟨st, many, most, rfl, hS, m1, m2, n1, n2, k⟩ := h
    have hu := hu_of hr
    refine ⟨_, PSs.nox (pss_cons (ps_if (PW.pt (pw_and (pt_cmpR op_eq (C8.pe_c (c_law_draw t) hr (by decide) rfl (pa_cons (pv 0) (pa_cons pe_int pa_nil))) pe_int (nomark _)) (pw_and1 (pt_cmpR op_gt (pv 1) pe_int (nomark _))))) (pss_cons (ps_set (i := 3) nd rfl (Or.inr rfl) (pe_op op_add pe_int (C8.pe_c (c_law_draw t) hr (by decide) rfl (pa_cons (pv 0) (pa_cons (pe_op op_fdiv (pv 1) pe_int) pa_nil)))))
        (pss_cons (ps_set (i := 4) nd rfl (Or.inr rfl) (pe_lc (own := [("_law_k", 5)]) (g := (gName 5)) (tt := tYes) (te := (tCall sp_law_draw [] E0 (tCons (tVar 0) (tCons (tVar 2) tNil)))) rfl nd  (pi_range1 (by rfl) t.free_range (pa_cons (pv 3) pa_nil)) (blkOk_by (by kernel_rfl)) (fun _ _ _ _ _ => (pg_name (i := 5) nd rfl (Or.inl rfl))) (fun _ _ _ _ _ => pts_nil) (fun _ _ _ _ _ => (C8.pe_c (c_law_draw t) hr (by decide) rfl (pa_cons (pv 0) (pa_cons (pv 2) pa_nil))))))
        (pss_one (ps_ret (pe_lc (own := [("_law_k", 5)]) (g := (gName 5)) (tt := tYes) (te := (tOp (rIxL K) (tVar 4) (tOp (rI (fun _ j => 0 < j) fun i j => .int (i % j)) (tVar 5) (tVar 3)))) rfl nd  (pi_range1 (by rfl) t.free_range (pa_cons (pv 1) pa_nil)) (blkOk_by (by kernel_rfl)) (fun _ _ _ _ _ => (pg_name (i := 5) nd rfl (Or.inl rfl))) (fun _ _ _ _ _ => pts_nil) (fun _ _ _ _ _ => (pe_ix ix_list (pv 4) (pe_op op_mod (pv 5) (pv 3)) (fun _ _ => rfl)))))))) pss_nil)
        (pss_one (ps_ret (pe_lc (own := [("_law_k", 5)]) (g := (gName 5)) (tt := tYes) (te := (tCall sp_law_draw [] E0 (tCons (tVar 0) (tCons (tVar 2) tNil)))) rfl nd  (pi_range1 (by rfl) t.free_range (pa_cons (pv 1) pa_nil)) (blkOk_by (by kernel_rfl)) (fun _ _ _ _ _ => (pg_name (i := 5) nd rfl (Or.inl rfl))) (fun _ _ _ _ _ => pts_nil) (fun _ _ _ _ _ => (C8.pe_c (c_law_draw t) hr (by decide) rfl (pa_cons (pv 0) (pa_cons (pv 2) pa_nil)))))))), ?_⟩
    have simple : ∀ {g : TG} {tt : TT} {te : TE} {vs : List Nat} {σ : L2.St} {H1 : Hp} {D : Addr}, H1 D = none → IsSt H1 st → SameBut st H H1 → (∀ i x H (Ky : V → Hp → Prop) (Kn : Hp → Prop), i < many → IsSt H st → (∀ r H', r < most → SameBut st H H' → IsSt H' st → Ky (vn r) H') →
          g x (wipe σ vs) H fun σ2 H2 => wipe σ2 vs = wipe σ vs ∧ tt σ2 H2 fun b H3 => if b = true then te σ2 H3 Ky else Kn H3) → ∃ W : Nat → Nat → Hp → Prop, (∃ m, W 0 m (upd H1 D (.lst []))) ∧ ∀ i m H, W i m H →
          ((Itr 0 many).stop i H ∧ Q (.ref D) H) ∨ ((Itr 0 many).go i H ∧ ∃ Nx : Hp → Prop, (∀ H', Nx H' → ∃ m', m' < m ∧ W (i + 1) m' H') ∧ ∀ x H', (Itr 0 many).yld i H x H' → g x (wipe σ vs) H' fun σ2 H2 => wipe σ2 vs = wipe σ vs ∧ tt σ2 H2 fun b H3 =>
            if b = true then te σ2 H3 fun y H4 => ∃ acc, H4 D = some (.lst acc) ∧ acc.length < sizeLine ∧ Nx (upd H4 D (.lst (acc ++ [y]))) else Nx H3) := fun hD hS1 sb hs =>
      lc_dr (by omega) hD hS1 hs fun H' ys s1 s2 s3 _ s5 => k _ ys H' (sb.trans s1) (sb.free hD (hS1.ne hD)) s2 s5 s3
    refine ⟨_, rfl, st, 3, rfl, hS, by decide, by decide, fun r H1 hr sb1 hS1 => ⟨rfl, _, rfl, if_eq (b := 0) (fun h => ?_) (fun h => ?_)⟩⟩
    rotate_left
    · refine iteF ⟨_, rfl, _, rfl, by omega, by omega, fun D hD => ?_⟩
      rw [show (((many : Nat) : Int)).toNat = many from rfl]
      exact simple hD hS1 sb1 fun i x H2 Ky Kn hi h ky => ⟨rfl, _, rfl, _, rfl, st, most, rfl, h, n1, by omega, fun r H' a b c => ky r H' a b c⟩
    refine ⟨_, rfl, _, _, rfl, rfl, _, rfl, if_dec (fun h2 => ?_) (fun h2 => ?_)⟩
    rotate_left
    · refine ⟨_, rfl, _, rfl, by omega, by omega, fun D hD => ?_⟩
      rw [show (((many : Nat) : Int)).toNat = many from rfl]
      exact simple hD hS1 sb1 fun i x H2 Ky Kn hi h ky => ⟨rfl, _, rfl, _, rfl, st, most, rfl, h, n1, by omega, fun r H' a b c => ky r H' a b c⟩
    refine ⟨_, rfl, _, rfl, _, 2, rfl, rfl, ⟨by decide, by decide⟩, st, many / 2, rfl, hS1, by omega, by omega, fun r2 H2 hr2 sb2 hS2 => ⟨_, _, rfl, rfl, ?_⟩⟩
    refine ⟨_, rfl, _, rfl, by omega, by omega, fun D hD => ?_⟩
    rw [show ((1 : Int) + ((r2 : Nat) : Int)).toNat = 1 + r2 by omega]
    have sb12 := sb1.trans sb2
    refine lc_dr (n := 1 + r2) (many := most) (st := st) (by omega) hD hS2 (fun i x H2 Ky Kn hi h ky => ⟨rfl, _, rfl, _, rfl, st, most, rfl, h, n1, by omega, fun r H' a b c => ky r H' a b c⟩) fun H3 ys sb3 hS3 hyl _ hyL => ?_
    refine ⟨_, rfl, _, rfl, by omega, by omega, fun D2 hD2 => ?_⟩
    rw [show (((many : Nat) : Int)).toNat = many from rfl]
    refine lc_val walk_rangeN (fun j => some (vn (ys.getD (j % (1 + r2)) 0))) (by omega) hD2 (fun _ _ => True.intro) (fun j y H4 H5 Ky Kn hj e' yy ky kn => ?_) fun H4 e4 hl4 => ?_
    · obtain ⟨rfl, rfl⟩ := yy
      have hm : j % (1 + r2) < ys.length := by rw [hyl]; exact Nat.mod_lt _ (by omega)
      refine ⟨Same.refl _, rfl, _, rfl, _, rfl, _, rfl, _, _, rfl, rfl, by omega, D, _, _, vn (ys.getD (j % (1 + r2)) 0), rfl, rfl, sl (hyL.mono e'), nv_ix hm, ky _ (Same.refl _) _ rfl⟩
    rw [fm_map] at hl4
    have sb3' := sb12.trans sb3
    refine k D2 ((List.range many).map fun j => ys.getD (j % (1 + r2)) 0) H4 (sb3'.trans (Same.but e4)) (sb3'.free hD2 (hS3.ne hD2)) (hS3.mono e4) ?_ (by rw [List.length_map, List.length_range])
    show _ = some (HO.lst (nv _))
    rw [hl4]
    unfold nv
    rw [List.map_map]
    rfl
end HB
namespace HB
open PySem PySem.Spec PyProof.Rows L2
/-- the list of pairs that a mapping's loop keeps -/
structure MapG (i many : Nat) (ps : List (Nat × Nat)) (ls : List Nat) : Prop where
  lt : ∀ p ∈ ps, p.1 < i ∧ p.2 < many
  asc : ps.Pairwise fun p q => p.1 < q.1
  nd : (ps.map (·.2) ++ ls).Nodup
  low : ∀ x ∈ ls, x < many
theorem MapG.next {i many : Nat} {ps : List (Nat × Nat)} {ls : List Nat} (h : MapG i many ps ls) : MapG (i + 1) many ps ls := ⟨fun p hp => ⟨Nat.lt_succ_of_lt (h.lt p hp).1, (h.lt p hp).2⟩, h.asc, h.nd, h.low⟩
theorem MapG.put {i many r y : Nat} {ps : List (Nat × Nat)} {ls : List Nat} (h : MapG i many ps ls) (hy : ls[r]? = some y) : MapG (i + 1) many (ps ++ [(i, y)]) (ls.eraseIdx r) where
  lt := fun p hp => by
    rcases List.mem_append.mp hp with hp | hp
    · exact ⟨Nat.lt_succ_of_lt (h.lt p hp).1, (h.lt p hp).2⟩
    · rw [List.mem_singleton.mp hp]
      exact ⟨Nat.lt_succ_self i, h.low y (List.mem_of_getElem? hy)⟩
  asc := by
    rw [List.pairwise_append]
    exact ⟨h.asc, List.pairwise_singleton .., fun p hp q hq => by
      rw [List.mem_singleton.mp hq]
      exact (h.lt p hp).1⟩
  nd := by
    rw [List.map_append, List.append_assoc]
    have p1 : (ps.map (·.2) ++ ([(i, y)].map (·.2) ++ ls.eraseIdx r)).Perm (ps.map (·.2) ++ ls) := List.Perm.append_left _ (erase_perm hy)
    exact p1.nodup_iff.mpr h.nd
  low := fun x hx => h.low x (List.mem_of_mem_eraseIdx hx)
theorem seq_ix {r n : Nat} (h : r < n) : seqIndex? (r : Int) n = some r := by
  unfold seqIndex?
  have h1 : ¬ ((r : Nat) : Int) < 0 := by omega
  rw [if_neg h1]
  have h2 : (decide ((0 : Int) ≤ (r : Int)) && decide ((r : Int) < (n : Int))) = true := by
    rw [decide_eq_true (show (0 : Int) ≤ (r : Int) by omega), decide_eq_true (show (r : Int) < (n : Int) by omega)]
    rfl
  rw [if_pos h2]
  rfl
def sp_law_mapping : Sp := fun vs H Q _ => ∃ (st : Addr) (few many : Nat), vs = [.ref st, vn few, vn many] ∧ IsSt H st ∧ few ≤ 100 ∧ many ≤ 100 ∧ ∀ p m H', SameBut st H H' → H p = none → IsSt H' st → IsP (hid st H') p m → ValidM m few many → Q (.ref p) H'
theorem sc_law_mapping : FnScope ["_law_stream_here", "_law_few", "_law_many", "_law_left", "_law_found", "_law_symbol_id"] ["_law_stream_here", "_law_few", "_law_many"] (defScope s_law_mapping) := C8.fnScope_by (by decide +kernel)
theorem c_law_mapping {P : Program} {w : World} {K : PySem.W.Frag} {mg : Str → Option Value} {base : Heap} (t : Tx K mg) : C8.Cal P w K mg base 2 "_law_mapping" sp_law_mapping [] := by
  obtain ⟨fd, F⟩ := t.f_law_mapping
  have nd := sc_law_mapping.nd
  refine ⟨_, fd, ["_law_stream_here", "_law_few", "_law_many"], [], F.ok sc_law_mapping (fun vs H Q E h => ?_) (fun cdv A outer s H vs Q E hr h => ?_), t.glo_law_mapping, F.kp, F.bindsN (fun _ _ _ _ _ _ us hl => match us, hl with | [_, _, _], _ => rfl), .nil⟩
  · obtain ⟨st, few, many, rfl, hS, hf, hm, k⟩ := h
    rfl
  · obtain ⟨st, few, many, rfl, hS, hf, hm, k⟩ := h
    have hu := hu_of hr
    have hu64 := hu64_of hr
    refine ⟨_, PSs.nox (pss_cons (ps_set (i := 3) nd rfl (Or.inl rfl) (pe_listRg rfl (by rfl) t.free_list (prg_1 (by rfl) t.free_range (pv 2))))
        (pss_cons (ps_set (i := 4) nd rfl (Or.inl rfl) (pe_lst pa_nil))
        (pss_cons (ps_for PassesOwn.never rfl (pi_range1 (by rfl) t.free_range (pa_cons (pv 1) pa_nil)) (pg_name (i := 5) nd rfl (Or.inl rfl)) (pss_one (ps_if (PW.pt (pw_and (pt_cmpR (op_neD hu64) (pv 3) (pe_lst pa_nil) (nomark _)) (pw_and1 (pt_cmpR op_gt (C8.pe_c (c_law_draw t) hr (by decide) rfl (pa_cons (pv 0) (pa_cons pe_int pa_nil))) pe_int (nomark _))))) (pss_one (ps_expr (pe_bm PySem.F.plainAttrs_list PySem.F.slot_list_append PySem.F.type_list_append mt_append (pv 4) (pa_cons (pe_tup (pa_cons (pv 5) (pa_cons (pe_bm PySem.F.plainAttrs_list PySem.F.slot_list_pop PySem.F.type_list_pop mt_popAt (pv 3) (pa_cons (C8.pe_c (c_law_draw t) hr (by decide) rfl (pa_cons (pv 0) (pa_cons (pe_callB call_len_seq (by rfl) t.free_len (by decide +kernel) (pa_cons (pv 3) pa_nil)) pa_nil))) pa_nil)) pa_nil))) pa_nil)))) pss_nil)))
        (pss_one (ps_ret (pv 4)))))), ?_⟩
    refine ⟨_, rfl, _, rfl, ⟨by omega, by omega, by omega, by omega, by omega⟩, fun lf hlf => ?_⟩
    have nlf := hS.ne hlf
    have er : rgV 0 (many : Int) = nv (List.range many) := by
      unfold rgV nv
      rw [show ((many : Int) - 0).toNat = many by omega]
      exact List.map_congr_left fun i _ => by
        show V.int (0 + ((i : Nat) : Int)) = V.int ((i : Nat) : Int)
        rw [Int.zero_add]
    rw [er]
    refine ⟨Nat.zero_le _, fun fd hfd => ?_⟩
    have nfl : fd ≠ lf := fun z => by rw [z, upd_same] at hfd; cases hfd
    have hfd0 : H fd = none := by rw [upd_ne nfl] at hfd; exact hfd
    have nfd := hS.ne hfd0
    refine ⟨_, rfl, _, rfl, by omega, by omega, ?_⟩
    rw [show (((few : Nat) : Int)).toNat = few from rfl]
    refine for_it walk_rangeN (fun i σ H' => ∃ (v5 : Option V) (ps : List (Nat × Nat)) (ls : List Nat), σ = [some (.ref st), some (vn few), some (vn many), some (.ref lf), some (.ref fd), v5] ∧ SameBut st H H' ∧ IsSt H' st ∧ IsL H' lf ls ∧ IsP H' fd ps ∧ ps.length ≤ i ∧ ls.length ≤ 100 ∧ MapG i many ps ls)
      ⟨none, [], List.range many, rfl, Same.but ((Same.new hlf).trans (Same.new hfd)), (hS.mono (Same.new hlf)).mono (Same.new hfd), ?_, ⟨[], upd_same, rfl, fun i p v h => by simp at h⟩, Nat.le_refl _, by rw [List.length_range]; exact hm, ⟨fun p h => (nomatch h), List.Pairwise.nil, by simp [List.nodup_range], fun x hx => List.mem_range.mp hx⟩⟩ (fun _ _ _ _ _ => True.intro) ?_ ?_
    · show upd _ fd _ lf = _
      rw [upd_ne (Ne.symm nfl), upd_same]
    · rintro i x σ H1 H2 hi ⟨v5, ps, ls, rfl, sb, hS2, hL, ⟨us, hU, hul, hUR⟩, hpl, hll, hG⟩ ⟨rfl, rfl⟩
      refine ⟨_, rfl, Nat.zero_le _, fun q hq => ?_⟩
      have eq := Same.new (o := .lst []) hq
      refine ⟨.list (HB.nd ls), .list (HB.nd []), nd_dp (hL.mono eq), nd_dp (show IsL _ q [] from upd_same), nd_shaped _, nd_shaped _, _, rfl, ?_⟩
      rw [nd_eqv]
      by_cases hls : ls = []
      · rw [hls, decide_eq_true rfl]
        refine iteF ⟨some (vn i), ps, [], rfl, sb.trans (Same.but eq), hS2.mono eq, ?_, ⟨us, eq _ _ hU, hul, fun i p v a b => (hUR i p v a b).mono eq⟩, by omega, Nat.zero_le _, ?_⟩
        · rw [hls] at hL
          exact hL.mono eq
        · rw [hls] at hG
          exact hG.next
      rw [decide_eq_false hls]
      have hlpos : 0 < ls.length := List.length_pos_iff.mpr hls
      generalize hGG : upd H2 q _ = G at *
      have hS3 := hS2.mono eq
      refine iteT ⟨_, rfl, st, 3, rfl, hS3, by decide, by decide, fun r H3 hr sb3 hS4 => ⟨_, _, rfl, rfl, _, rfl, if_dec (fun h => ?_) (fun h => ?_)⟩⟩
      rotate_left
      · have hU3 := sb3 _ _ nfd (eq _ _ hU)
        refine ⟨some (vn i), ps, ls, rfl, (sb.trans (Same.but eq)).trans sb3, hS4, sb3 _ _ nlf (eq _ _ hL), ⟨us, hU3, hul, fun i p v a b => ?_⟩, by omega, hll, hG.next⟩
        obtain ⟨t', rfl, ht⟩ := (hUR i p v a b).mono eq
        refine ⟨t', rfl, sb3 _ _ (fun z => ?_) ht⟩
        obtain ⟨x1, x2, x3, _⟩ := hS3
        rw [z, x3] at ht
        cases ht
      have hL3 : IsL H3 lf ls := sb3 _ _ nlf (eq _ _ hL)
      have hU3 := sb3 _ _ nfd (eq _ _ hU)
      refine ⟨_, rfl, .inl ⟨rfl, _, sl hU3⟩, _, rfl, _, rfl, .inl ⟨rfl, _, sl hL3⟩, _, rfl, _, rfl, lf, _, rfl, .inl (sl hL3), st, ls.length, by rw [nv_len] <;> rfl, hS4, hlpos, by omega, fun r2 H4 hr2 sb4 hS5 => ?_⟩
      have hL4 : IsL H4 lf ls := sb4 _ _ nlf hL3
      have hU4 := sb4 _ _ nfd hU3
      have hy : ls[r2]? = some ls[r2] := List.getElem?_eq_getElem hr2
      refine ⟨lf, _, (r2 : Int), r2, vn ls[r2], rfl, rfl, hL4, by omega, by omega, by rw [nv_len]; exact seq_ix hr2, nv_at hy, by show 2 ≤ sizeLine; decide, fun T hT => ?_⟩
      have nT : ∀ p u, H4 p = some u → T ≠ p := fun p u h z => by
        by_cases c : p = lf
        · rw [z, c, upd_same] at hT
          cases hT
        · rw [z, upd_ne c, h] at hT
          cases hT
      have nTl := nT _ _ hL4
      have nTf := nT _ _ hU4
      obtain ⟨a5, b5, hst5, hb5⟩ := hS5
      have nTs := nT _ _ hst5
      have hH5 : ∀ p u, p ≠ lf → H4 p = some u → upd (upd H4 lf (.lst ((nv ls).eraseIdx r2))) T (.tup [vn i, vn ls[r2]]) p = some u := fun p u n h => by
        rw [upd_ne (Ne.symm (nT p u h)), upd_ne n]
        exact h
      have hU5 := hH5 fd _ nfl hU4
      refine ⟨fd, _, _, rfl, rfl, hU5, ?_, some (vn i), ps ++ [(i, ls[r2])], ls.eraseIdx r2, rfl, ?_, ⟨a5, b5, ?_, hb5⟩, ?_, ⟨us ++ [.ref T], upd_same, ?_⟩, ?_, ?_, hG.put hy⟩
      · rw [hul]
        exact Nat.lt_of_le_of_lt (show ps.length ≤ 100 by omega) (by decide)
      · have sbA := (((sb.trans (Same.but eq)).trans sb3).trans sb4)
        exact ((sbA.mut hlf).mut (sbA.free (by
          by_cases c : T = lf
          · exact absurd c nTl
          · rw [upd_ne c] at hT
            exact hT) nTs)).mut hfd0
      · rw [upd_ne (Ne.symm nfd)]
        exact hH5 st _ (Ne.symm nlf) hst5
      · show upd _ fd _ lf = _
        rw [upd_ne (Ne.symm nfl), upd_ne (Ne.symm nTl), upd_same]
        unfold nv
        rw [erase_map]
      · refine items_snoc hul (fun j p v a b => ?_) ⟨T, rfl, by rw [upd_ne nTf, upd_same]⟩
        obtain ⟨t', rfl, ht⟩ := (hUR j p v a b).mono eq
        have h1 : t' ≠ st := fun z => by
          obtain ⟨x1, x2, x3, _⟩ := hS3
          rw [z, x3] at ht
          cases ht
        have ht3 := sb3 _ _ h1 ht
        have h2 : t' ≠ lf := fun z => by rw [z, hL3] at ht3; cases ht3
        have h3 : t' ≠ fd := fun z => by rw [z, hU3] at ht3; cases ht3
        refine ⟨t', rfl, ?_⟩
        rw [upd_ne h3]
        exact hH5 t' _ h2 (sb4 _ _ h1 ht3)
      · rw [List.length_append]
        exact Nat.add_le_add_right hpl 1
      · exact Nat.le_trans (List.length_eraseIdx_le ..) hll
    · rintro σ H1 ⟨v5, ps, ls, rfl, sb, hS2, hL, ⟨us, hU, hul, hUR⟩, hpl, hll, hG⟩
      refine ⟨_, rfl, k fd ps H1 sb hfd0 hS2 ⟨us, by rw [hid_at nfd]; exact hU, hul, fun j p v a b => ?_⟩ ⟨hG.lt, hG.asc, (List.nodup_append.mp hG.nd).1⟩⟩
      obtain ⟨t', rfl, ht⟩ := hUR j p v a b
      refine ⟨t', rfl, ?_⟩
      rw [hid_at]
      · exact ht
      · intro z
        obtain ⟨x1, x2, x3, _⟩ := hS2
        rw [z, x3] at ht
        cases ht
def sp_law_sequence : Sp := fun vs H Q _ => ∃ st : Addr, vs = [.ref st] ∧ IsSt H st ∧ ∀ p s H', SameBut st H H' → H p = none → IsSt H' st → IsS (hid st H') p s → VL s → Q (.ref p) H'
theorem sc_law_sequence : FnScope ["_law_stream_here", "_law_found", "_law_k", "_law_distances_here", "_law_mine", "_law_link", "_law_turn", "_law_half"] ["_law_stream_here"] (defScope s_law_sequence) := C8.fnScope_by (by decide +kernel)
theorem c_law_sequence {P : Program} {w : World} {K : PySem.W.Frag} {mg : Str → Option Value} {base : Heap} (t : Tx K mg) : C8.Cal P w K mg base 3 "_law_sequence" sp_law_sequence [] := by
  obtain ⟨fd, F⟩ := t.f_law_sequence
  have nd := sc_law_sequence.nd
  refine ⟨_, fd, ["_law_stream_here"], [], F.ok sc_law_sequence (fun vs H Q E h => ?_) (fun cdv A outer s H vs Q E hr h => ?_), t.glo_law_sequence, F.kp, F.bindsN (fun _ _ _ _ _ _ us hl => match us, hl with | [_], _ => rfl), .nil⟩
  · obtain ⟨st, rfl, hS, k⟩ := h
    rfl
  · obtain ⟨st, rfl, hS, k⟩ := h
    have hu := hu_of hr
    have hu64 := hu64_of hr
    refine ⟨_, PSs.nox (pss_cons (ps_set (i := 1) nd rfl (Or.inl rfl) (pe_lst pa_nil))
        (pss_cons (ps_for PassesOwn.never rfl (pi_range1 (by rfl) t.free_range (pa_cons (pe_op op_add pe_int (C8.pe_c (c_law_draw t) hr (by decide) rfl (pa_cons (pv 0) (pa_cons pe_int pa_nil)))) pa_nil)) (pg_name (i := 2) nd rfl (Or.inl rfl)) (pss_cons (ps_set (i := 3) nd rfl (Or.inl rfl) (C8.pe_c (c_law_distances t) hr (by decide) rfl (pa_cons (C8.pe_c (c_law_symbols t) hr (by decide) rfl (pa_cons (pv 0) (pa_cons (pe_op op_add pe_int (C8.pe_c (c_law_draw t) hr (by decide) rfl (pa_cons (pv 0) (pa_cons pe_int pa_nil)))) (pa_cons (pe_op op_add pe_int (C8.pe_c (c_law_draw t) hr (by decide) rfl (pa_cons (pv 0) (pa_cons pe_int pa_nil)))) pa_nil)))) pa_nil)))
        (pss_cons (ps_set (i := 4) nd rfl (Or.inl rfl) (C8.pe_c (c_law_symbol_count t) hr (by decide) rfl (pa_cons (pv 3) pa_nil)))
        (pss_cons (ps_set (i := 5) nd rfl (Or.inl rfl) (pe_ifExp (pt_cmpR (op_neD hu64) (pv 1) (pe_lst pa_nil) (nomark _)) (C8.pe_c (c_law_mapping t) hr (by decide) rfl (pa_cons (pv 0) (pa_cons (pv 4) (pa_cons (C8.pe_c (c_law_symbol_count t) hr (by decide) rfl (pa_cons (pe_ix ix_tup (pe_ix ix_list (pv 1) (pe_un un_neg pe_int) (fun _ _ => rfl)) pe_int (fun _ _ => rfl)) pa_nil)) pa_nil)))) (pe_lst pa_nil)))
        (pss_cons (ps_set (i := 6) nd rfl (Or.inl rfl) (C8.pe_c (c_law_mapping t) hr (by decide) rfl (pa_cons (pv 0) (pa_cons (pv 4) (pa_cons (pv 4) pa_nil)))))
        (pss_cons (ps_set (i := 7) nd rfl (Or.inl rfl) (pe_op op_add pe_int (C8.pe_c (c_law_draw t) hr (by decide) rfl (pa_cons (pv 0) (pa_cons (pe_ix ix_list (pe_lst (pa_cons pe_int (pa_cons pe_int (pa_cons (pe_op op_pow pe_int pe_int) pa_nil)))) (C8.pe_c (c_law_draw t) hr (by decide) rfl (pa_cons (pv 0) (pa_cons pe_int pa_nil))) (fun _ _ => rfl)) pa_nil)))))
        (pss_one (ps_expr (pe_bm PySem.F.plainAttrs_list PySem.F.slot_list_append PySem.F.type_list_append mt_append (pv 1) (pa_cons (pe_tup (pa_cons (pv 3) (pa_cons (pv 5) (pa_cons (pv 6) (pa_cons (pe_op op_mul pe_int (pv 7)) pa_nil))))) pa_nil))))))))))
        (pss_one (ps_ret (pv 1))))), ?_⟩
    refine ⟨Nat.zero_le _, fun fd hfd => ?_⟩
    have nfd := hS.ne hfd
    have hS0 := hS.mono (Same.new (o := .lst []) hfd)
    refine ⟨_, rfl, st, 3, rfl, hS0, by decide, by decide, fun r0 H0 hr0 sb0 hS00 => ⟨_, _, rfl, rfl, _, rfl, by omega, by omega, ?_⟩⟩
    rw [show ((1 : Int) + ((r0 : Nat) : Int)).toNat = 1 + r0 by omega]
    have hfd0 : H0 fd = some (.lst []) := sb0 _ _ nfd upd_same
    refine for_it walk_rangeN (fun i σ H' => ∃ (v2 v3 v4 v5 v6 v7 : Option V) (s : List Blk) (ws : List V), σ = [some (.ref st), some (.ref fd), v2, v3, v4, v5, v6, v7] ∧ SameBut st H H' ∧ IsSt H' st ∧ H' fd = some (.lst ws) ∧ (ws.length = s.length ∧ ∀ (j : Nat) b v, s[j]? = some b → ws[j]? = some v → RB b (hid2 st fd H') v) ∧ s.length = i ∧ ValidS s 0 ∧
      (∀ b ∈ s, b.base.length ≤ 12 ∧ b.cnt ≤ 2 * 10 ^ 28 ∧ ∃ h, b.cnt = 2 * h ∧ 1 ≤ h))
      ⟨none, none, none, none, none, none, [], [], rfl, (Same.but (Same.new hfd)).trans sb0, hS00, hfd0, ⟨rfl, fun j b v h => by simp at h⟩, rfl, True.intro, fun b h => (nomatch h)⟩ (fun _ _ _ _ _ => True.intro) ?_ ?_
    · rintro i x σ H1 H2 hi ⟨v2, v3, v4, v5, v6, v7, s, ws, rfl, sb, hS2, hW, ⟨hwl, hWR⟩, hsl, hVS, hB⟩ ⟨rfl, rfl⟩
      -- distances
      refine ⟨_, rfl, _, rfl, st, 12, rfl, hS2, by decide, by decide, fun r1 H3 hr1 sb3 hS3 => ⟨_, _, rfl, rfl, _, rfl, st, 6, rfl, hS3, by decide, by decide, fun r2 H4 hr2 sb4 hS4 => ⟨_, _, rfl, rfl, ?_⟩⟩⟩
      refine ⟨st, 1 + r1, 1 + r2, rfl, hS4, by omega, by omega, by omega, by omega, fun p xs H5 sb5 hp hS5 hpL hxl => ?_⟩
      refine ⟨p, xs, rfl, hpL, by omega, fun d H6 e6 hd hdL => ?_⟩
      have sb6 := ((sb3.trans sb4).trans sb5).trans (Same.but e6)
      have hS6 := hS5.mono e6
      have hW6 := sb6 _ _ nfd hW
      have ndst := hS5.ne hd
      have hW5 := ((sb3.trans sb4).trans sb5) _ _ nfd hW
      have ndfd : d ≠ fd := fun z => by rw [z, hW5] at hd; cases hd
      have hx2 : Same (hid2 st fd H2) (hid2 st fd H6) := hid2_sb sb6
      have hd6 : IsL (hid2 st fd H6) d (dists xs) := by
        show hid2 st fd H6 d = _
        rw [hid2_at ndst ndfd]
        exact hdL
      have dl := dists_len xs
      have nzl := nz_le (dists xs)
      have hvd := dists_valid xs
      refine ⟨_, rfl, d, dists xs, rfl, hdL, by omega, fun H7 e7 => ?_⟩
      generalize hdd : dists xs = ds at *
      have hS7 := hS6.mono e7
      have hW7 := e7 _ _ hW6
      have hd7 := hd6.mono (hid2_mono e7)
      have hx7 := hx2.trans (hid2_mono e7)
      have sb7 := sb6.trans (Same.but e7)
      -- link
      dsimp only [gName, tSeq, tAsg]
      refine val3 (fun v H' => ∃ (l : Addr) (m : List (Nat × Nat)), v = .ref l ∧ SameBut st H7 H' ∧ IsSt H' st ∧ IsP (hid2 st fd H') l m ∧ ValidM m (nz ds) (prevZ s 0)) (fun Q q => ?_) fun v H8 ⟨l, m, hv, sb8, hS8, hl8, hm⟩ => ?_
      · refine ⟨_, rfl, Nat.zero_le _, fun r hr => ⟨.list (sd s), .list (HB.nd []), sd_dp (a := fd) ⟨ws, Same.new hr _ _ hW7, hwl, fun j b v x y => ((hWR j b v x y).mono (hx7.trans hid2_le)).mono (Same.new hr)⟩, nd_dp (show IsL _ r [] from upd_same), sd_shaped _, nd_shaped _, _, rfl, ?_⟩⟩
        rw [sd_nil]
        have er := Same.new (o := .lst []) hr
        generalize upd H7 r _ = G at *
        have hSG := hS7.mono er
        have hWG := er _ _ hW7
        rcases List.eq_nil_or_concat s with hs | ⟨s', b, hs⟩
        · rw [decide_eq_true hs]
          refine iteF ⟨Nat.zero_le _, fun l hl => ?_⟩
          have el := Same.new (o := .lst []) hl
          refine q _ _ ⟨l, [], rfl, Same.but (er.trans el), hSG.mono el, ⟨[], ?_, rfl, fun i p v h => by simp at h⟩, ⟨fun p h => (nomatch h), List.Pairwise.nil, by simp⟩⟩
          rw [hid2_at (hSG.ne hl) (fun z => by rw [z, hWG] at hl; cases hl)]
          exact upd_same
        · have hne : s ≠ [] := by rw [hs]; simp
          have hlast : s.getLast? = some b := by rw [hs, List.concat_eq_append, List.getLast?_concat]
          obtain ⟨v, hvl, hRB⟩ := last_item (R := fun b v => RB b (hid2 st fd H2) v) hwl hWR hlast
          have hRB' := hRB.mono ((hx7.trans hid2_le).trans er)
          obtain ⟨tb, bd', bl, bu, rfl, hT, hD, hLk, hTn⟩ := hRB'
          have hbm : b ∈ s := List.mem_of_getLast? hlast
          have hb12 := (hB b hbm).1
          have hbz := nz_le b.base
          rw [decide_eq_false hne]
          refine iteT ⟨_, rfl, _, rfl, _, rfl, _, rfl, fd, ws, _, .ref tb, rfl, rfl, sl hWG, ix_last hvl, tb, _, 0, .ref bd', rfl, rfl, SqT.of hT, rfl, bd', b.base, rfl, hD, by omega, fun H8 e8 => ?_⟩
          refine ⟨st, nz ds, nz b.base, rfl, hSG.mono e8, by omega, by omega, fun l m H9 sb9 hl9 hS9 hP9 hV9 => ?_⟩
          have hW9 := sb9 _ _ nfd (e8 _ _ hWG)
          have hlfd : l ≠ fd := fun z => by
            rw [z, e8 _ _ hWG] at hl9
            cases hl9
          refine q _ _ ⟨l, m, rfl, (Same.but (er.trans e8)).trans sb9, hS9, isP_hid2 hP9 hW9 hlfd, ?_⟩
          have : prevZ s 0 = nz b.base := by
            unfold prevZ
            rw [hlast]
          rw [this]
          exact hV9
      subst hv
      have hW8 := sb8 _ _ nfd hW7
      have hx8 := hx7.trans (hid2_sb sb8)
      have hd8 := hd7.mono (hid2_sb sb8)
      -- turn
      refine ⟨_, rfl, _, rfl, _, rfl, st, nz ds, nz ds, rfl, hS8, by omega, by omega, fun u m2 H9 sb9 hu9 hS9 hP9 hV9 => ?_⟩
      have hW9 := sb9 _ _ nfd hW8
      have hufd : u ≠ fd := fun z => by
        rw [z, hW8] at hu9
        cases hu9
      have hu9' := isP_hid2 hP9 hW9 hufd
      have hx9 := hx8.trans (hid2_sb sb9)
      have hd9 := hd8.mono (hid2_sb sb9)
      have hl9 := hl8.mono (hid2_sb sb9)
      -- half
      refine ⟨_, rfl, 10, 28, rfl, rfl, ⟨by decide, by decide, by decide⟩, by show 3 ≤ sizeLine; decide, fun q hq => ?_⟩
      have eq := Same.new (o := .lst [.int 2, .int 30, .int (10 ^ (28 : Int).toNat)]) hq
      have hqst := hS9.ne hq
      refine ⟨_, rfl, st, 3, rfl, hS9.mono eq, by decide, by decide, fun r3 H10 hr3 sb10 hS10 => ?_⟩
      have hq10 : H10 q = some (.lst [.int 2, .int 30, .int (10 ^ (28 : Int).toNat)]) := sb10 _ _ hqst upd_same
      obtain ⟨mx, hmx, m1, m2'⟩ : ∃ x : Nat, atI [V.int 2, .int 30, .int (10 ^ (28 : Int).toNat)] (r3 : Int) = some (vn x) ∧ 1 ≤ x ∧ x ≤ 10 ^ 28 := by
        have : r3 = 0 ∨ r3 = 1 ∨ r3 = 2 := by omega
        rcases this with rfl | rfl | rfl
        · exact ⟨2, rfl, by decide, by decide⟩
        · exact ⟨30, rfl, by decide, by decide⟩
        · exact ⟨10 ^ 28, rfl, by decide, by decide⟩
      refine ⟨q, _, _, vn mx, rfl, rfl, sl hq10, hmx, st, mx, rfl, hS10, m1, Nat.le_trans m2' (by decide), fun r4 H11 hr4 sb11 hS11 => ⟨_, _, rfl, rfl, ?_⟩⟩
      have sb911 := ((Same.but eq).trans sb10).trans sb11
      have hW11 := sb911 _ _ nfd hW9
      have hx11 := hx9.trans (hid2_sb sb911)
      have hd11 := hd9.mono (hid2_sb sb911)
      have hl11 := hl9.mono (hid2_sb sb911)
      have hu11 := hu9'.mono (hid2_sb sb911)
      refine ⟨_, rfl, .inl ⟨rfl, _, sl hW11⟩, _, rfl, _, rfl, _, rfl, _, rfl, 2, _, rfl, rfl, .inl ⟨by decide, by decide⟩, by show 4 ≤ sizeLine; decide, fun T hT => ?_⟩
      have hTst := hS11.ne hT
      have hTfd : T ≠ fd := fun z => by rw [z, hW11] at hT; cases hT
      have eT := Same.new (o := .tup [.ref d, .ref l, .ref u, .int (2 * (1 + ((r4 : Nat) : Int)))]) hT
      have hWT := eT _ _ hW11
      have sbAll : SameBut st H H11 := sb.trans ((((sb7.trans sb8).trans sb9)).trans sb911)
      refine ⟨fd, _, _, rfl, rfl, hWT, ?_, some (vn i), some (.ref d), some (vn (nz ds)), some (.ref l), some (.ref u), some (.int (1 + ((r4 : Nat) : Int))), s ++ [⟨ds, m, m2, 2 * (1 + r4)⟩], ws ++ [.ref T], rfl, (sbAll.mut (sbAll.free hT hTst)).mut hfd, ?_, upd_same, ?_, ?_, ?_, fun b hb => ?_⟩
      · rw [hwl]
        exact Nat.lt_of_le_of_lt (show s.length ≤ 3 by omega) (by decide)
      · obtain ⟨x1, x2, x3, x4⟩ := hS11
        exact ⟨x1, x2, by rw [upd_ne (Ne.symm nfd), upd_ne (Ne.symm hTst)]; exact x3, x4⟩
      · refine items_snoc hwl (fun j b v x y => (hWR j b v x y).mono (hx11.trans (by rw [hid2_upd2]; exact hid2_mono eT))) ⟨T, d, l, u, rfl, ?_, hd11.mono ?_, hl11.mono ?_, hu11.mono ?_⟩
        · rw [hid2_upd2, hid2_at hTst hTfd, upd_same]
          rfl
        · rw [hid2_upd2]
          exact hid2_mono eT
        · rw [hid2_upd2]
          exact hid2_mono eT
        · rw [hid2_upd2]
          exact hid2_mono eT
      · rw [List.length_append, hsl]
        rfl
      · rw [validS_snoc]
        refine ⟨hVS, ⟨hvd, by show 1 ≤ ds.length; omega, by show ds.length ≤ 40; omega, hm, hV9, by show 1 ≤ 2 * (1 + r4); omega, ?_⟩⟩
        show 2 * (1 + r4) ≤ 10 ^ 30
        have : r4 < 10 ^ 28 := Nat.lt_of_lt_of_le hr4 m2'
        omega
      · rcases List.mem_append.mp hb with hb | hb
        · exact hB b hb
        · rw [List.mem_singleton.mp hb]
          have : r4 < 10 ^ 28 := Nat.lt_of_lt_of_le hr4 m2'
          exact ⟨by show ds.length ≤ 12; omega, by show 2 * (1 + r4) ≤ 2 * 10 ^ 28; omega, 1 + r4, rfl, by omega⟩
    · rintro σ H1 ⟨v2, v3, v4, v5, v6, v7, s, ws, rfl, sb, hS2, hW, ⟨hwl, hWR⟩, hsl, hVS, hB⟩
      exact ⟨_, rfl, k fd s H1 sb hfd hS2 ⟨ws, by rw [hid_at nfd]; exact hW, hwl, fun j b v x y => (hWR j b v x y).mono hid2_hid⟩ ⟨⟨hVS, by omega, by omega⟩, by omega, fun b hb => (hB b hb).1, fun b hb => (hB b hb).2⟩⟩
def sp_law_double_block : Sp := fun vs H Q _ => ∃ (st : Addr) (o : HO) (v : V) (b : Blk) (np : Nat), vs = [v] ∧ H st = some o ∧ RB b (hid st H) v ∧ ValidB b np ∧ b.base.length ≤ 12 ∧
  ∀ L d' bo dct H', Same H H' → H L = none → H' L = some (.lst [.ref d', .ref bo, .ref dct, vn (b.cnt / 2)]) → IsL (hid st H') d' (dblBase b) → IsP (hid st H') bo (mapL b b.turn) → IsDF H' dct 1000 (laterF b) → Q (.ref L) H'
theorem sc_law_double_block : FnScope ["_law_part", "_law_distances_here", "_law_link", "_law_turn", "_law_many", "_law_mine", "_law_doubled", "_law_ids_here", "_law_later", "_law_position", "_law_symbol_id", "_law_other"] ["_law_part"] (defScope s_law_double_block) := C8.fnScope_by (by decide +kernel)
theorem c_law_double_block {P : Program} {w : World} {K : PySem.W.Frag} {mg : Str → Option Value} {base : Heap} (t : Tx K mg) : C8.Cal P w K mg base 5 "_law_double_block" sp_law_double_block [] := by
  obtain ⟨fd, F⟩ := t.f_law_double_block
  have nd := sc_law_double_block.nd
  refine ⟨_, fd, ["_law_part"], [], F.ok sc_law_double_block (fun vs H Q E h => ?_) (fun cdv A outer s H vs Q E hr h => ?_), t.glo_law_double_block, F.kp, F.bindsN (fun _ _ _ _ _ _ us hl => match us, hl with | [_], _ => rfl), .nil⟩
  · obtain ⟨st, o, v, b, np, rfl, hst, hR, hV, h12, k⟩ := h
    rfl
  · obtain ⟨st, o, v, b, np, rfl, hst, hR, hV, h12, k⟩ := h
    have hu := hu_of hr
    refine ⟨_, PSs.nox (pss_cons (ps_asg (pv 0) (pg_tup rfl (pgs_cons (pg_name (i := 1) nd rfl (Or.inl rfl)) (pgs_cons (pg_name (i := 2) nd rfl (Or.inl rfl)) (pgs_cons (pg_name (i := 3) nd rfl (Or.inl rfl)) (pgs_cons (pg_name (i := 4) nd rfl (Or.inl rfl)) pgs_nil))))))
        (pss_cons (ps_set (i := 5) nd rfl (Or.inl rfl) (C8.pe_c (c_law_symbol_count t) hr (by decide) rfl (pa_cons (pv 1) pa_nil)))
        (pss_cons (ps_set (i := 6) nd rfl (Or.inl rfl) (C8.pe_c (c_concatenate t) hr (by decide) rfl (pa_cons (pv 1) (pa_cons (pv 1) (pa_cons (pv 3) pa_nil)))))
        (pss_cons (ps_set (i := 7) nd rfl (Or.inl rfl) (C8.pe_c (c_law_ids t) hr (by decide) rfl (pa_cons (pv 6) pa_nil)))
        (pss_cons (ps_set (i := 8) nd rfl (Or.inr rfl) pe_dnewK)
        (pss_cons (ps_for PassesOwn.never rfl (pi_enum (by rfl) t.free_enumerate (pa_cons (C8.pe_c (c_law_ids t) hr (by decide) rfl (pa_cons (pv 1) pa_nil)) pa_nil)) (pg_tup rfl (pgs_cons (pg_name (i := 9) nd rfl (Or.inl rfl)) (pgs_cons (pg_name (i := 10) nd rfl (Or.inl rfl)) pgs_nil))) (pss_one (ps_dput hu (pv 8) (pv 10) (pe_ix ix_list (pv 7) (pe_op op_add (pe_callB call_len_seq (by rfl) t.free_len (by decide +kernel) (pa_cons (pv 1) pa_nil)) (pv 9)) (fun _ _ => rfl)) rfl)))
        (pss_one (ps_ret (pe_lst (pa_cons (pv 6) (pa_cons (pe_lc (own := [("_law_symbol_id", 10), ("_law_other", 11)]) (g := (gTup K 2 (gCons (gName 10) (gCons (gName 11) gNil)))) (tt := tYes) (te := (tTup (tCons (tVar 10) (tCons (tDGet (tVar 8) (tVar 11)) tNil)))) rfl nd  (pi_list (pv 3)) (blkOk_by (by kernel_rfl)) (fun _ _ _ _ _ => (pg_tup rfl (pgs_cons (pg_name (i := 10) nd rfl (Or.inl rfl)) (pgs_cons (pg_name (i := 11) nd rfl (Or.inl rfl)) pgs_nil)))) (fun _ _ _ _ _ => pts_nil) (fun _ _ _ _ _ => (pe_tup (pa_cons (pv 10) (pa_cons (pe_dget hu (pv 8) (pv 11) (fun _ _ => rfl)) pa_nil))))) (pa_cons (pv 8) (pa_cons (pe_op op_fdiv (pv 4) pe_int) pa_nil))))))))))))), ?_⟩
    obtain ⟨tb, d, l, u, rfl, hT, hD, hLk, hTn⟩ := hR
    have hne : ∀ {p : Addr}, H p = none → p ≠ st := fun {p} h z => by rw [z, hst] at h; cases h
    have vD := hV.base
    have nzl := nz_le b.base
    have tl := hV.turn.len
    refine ⟨_, rfl, tb, _, rfl, SqT.of (hid_le _ _ hT), rfl, _, _, rfl, _, _, rfl, _, _, rfl, _, _, rfl, rfl, ?_⟩
    refine ⟨_, rfl, d, b.base, rfl, hid_le _ _ hD, by omega, fun H1 e1 => ?_⟩
    refine ⟨_, rfl, _, rfl, _, rfl, d, d, u, b.base, b.base, b.turn, rfl, (hid_le.trans e1) _ _ hD, (hid_le.trans e1) _ _ hD, hTn.mono (hid_le.trans e1), vD, vD, by omega, by omega, hV.turn, fun db H2 e2 hdb hdbL => ?_⟩
    have vB : ValidD (dblBase b) := dists_valid _
    have lenB : (dblBase b).length = b.base.length + b.base.length := concat_len ..
    have idB := ids_len (dblBase b)
    have idb := ids_len b.base
    refine ⟨_, rfl, db, dblBase b, rfl, hdbL, vB, by omega, fun ih H3 e3 hih hihL => ?_⟩
    have e13 := (e1.trans e2).trans e3
    refine fun dct hdct => ?_
    have e4 := Same.new (o := .dK []) hdct
    have e14 := e13.trans e4
    refine ⟨_, rfl, d, b.base, rfl, (hid_le.trans e14) _ _ hD, vD, by omega, fun q H5 e5 hq hqL => ⟨q, _, rfl, sl hqL, ?_⟩⟩
    have e15 := e14.trans e5
    have hdb5 := hdbL.mono ((e3.trans e4).trans e5)
    have hih5 := hihL.mono (e4.trans e5)
    have dct0 : H dct = none := e13.free hdct
    refine for_it walk_enum (fun i σ H' => ∃ (v9 v10 : Option V), σ = [some (.ref tb), some (.ref d), some (.ref l), some (.ref u), some (vn b.cnt), some (vn (nz b.base)), some (.ref db), some (.ref ih), some (.ref dct), v9, v10, none] ∧ Same H3 H' ∧ IsL H' q (ids b.base) ∧ IsDF H' dct i (fun s => (lastI ((ids b.base).take i) s).map fun j => (ids (dblBase b)).getD (b.base.length + j) 0))
      ⟨none, none, rfl, e4.trans e5, hqL, [], e5 _ _ upd_same, Nat.le_refl _, fun s => rfl⟩ (fun i σ H' _ ⟨_, _, _, _, h, _⟩ => sl h) ?_ ?_
    · rintro i x σ H6 H7 hi ⟨v9, v10, rfl, e, hq6, hDF⟩ ⟨T, y, z, rfl, hT', rfl, hy, hz⟩
      cases hy
      obtain ⟨s, hs, rfl⟩ := nv_get hz
      rw [nv_len] at hi
      have eT := Same.new (o := .tup [.int (i : Nat), vn s]) hT'
      refine ⟨T, _, rfl, SqT.of upd_same, rfl, _, _, rfl, _, _, rfl, rfl, ?_⟩
      generalize upd H6 T _ = G at *
      have eG := e.trans eT
      have hix : atI (nv (ids (dblBase b))) ((b.base.length : Int) + (i : Int)) = some (vn ((ids (dblBase b)).getD (b.base.length + i) 0)) := nv_ix (by omega)
      obtain ⟨o', hp, hf⟩ := (hDF.mono eT).put (by omega) s ((ids (dblBase b)).getD (b.base.length + i) 0)
      have nqd : q ≠ dct := fun z => by rw [z, upd_same] at hq; cases hq
      refine ⟨_, rfl, _, rfl, d, _, rfl, .inl (sl ((hid_le.trans e13).trans eG _ _ hD)), _, rfl, _, _, rfl, rfl, ih, _, (b.base.length : Int) + (i : Int), _, rfl, by rw [nv_len], sl (hihL.mono eG), hix, _, rfl, _, rfl, dct, _, rfl, hp, some (vn i), some (vn s), rfl, Same.mut eG hdct, ?_, hf.of fun j => ?_⟩
      · show upd _ dct _ q = _
        rw [upd_ne nqd]
        exact eT _ _ hq6
      · rw [take_snoc hs, lastI_snoc, List.length_take, Nat.min_eq_left (by omega)]
        by_cases ej : s = j
        · rw [if_pos ej, if_pos ej.symm]
          rfl
        · rw [if_neg ej, if_neg fun z => ej z.symm]
    · rintro σ H6 ⟨v9, v10, rfl, e, -, hDF⟩
      rw [nv_len, List.take_length] at hDF
      have hDF : IsDF H6 dct (ids b.base).length (laterF b) := hDF
      have hDF' : IsDF H6 dct 1000 (laterF b) := by
        obtain ⟨kv, q1, q2, q3⟩ := hDF
        exact ⟨kv, q1, by omega, q3⟩
      have e16 := e13.trans e
      obtain ⟨us, hU, hul, hUR⟩ := hTn
      refine ⟨_, rfl, _, rfl, u, rfl, ⟨_, sl ((hid_le.trans e16) _ _ hU)⟩, fun D hD2 => ?_⟩
      refine lc_obj walk_list (fun i y Hh => ∃ p T, b.turn[i]? = some p ∧ y = .ref T ∧ T ≠ st ∧ Hh T = some (.tup [vn p.1, vn ((laterF b p.2).getD 0)])) (fun i y Ha Hb e ⟨p, T, h1, h2, h3, h4⟩ => ⟨p, T, h1, h2, h3, e _ _ h4⟩) (by omega) hD2 (fun H' e => sl (e _ _ ((hid_le.trans e16) _ _ hU))) (fun i x H7 H8 Ky Kn hi e' hne' yy ky => ?_) fun H7 ys e7 hys hyl hyR => ?_
      · obtain ⟨rfl, hx⟩ := yy
        have hi2 : i < b.turn.length := by omega
        have hp : b.turn[i]? = some b.turn[i] := List.getElem?_eq_getElem hi2
        obtain ⟨T, rfl, hTt⟩ := hUR i _ _ hp hx
        obtain ⟨z, hz⟩ := later_some hV (hV.turn.lt _ (List.getElem_mem hi2)).2
        have hg := (hDF'.mono e').get b.turn[i].2
        rw [hz] at hg
        refine ⟨Same.refl _, T, _, rfl, SqT.of (((hid_le.trans e16).trans e') _ _ hTt), rfl, _, _, rfl, _, _, rfl, rfl, rfl, _, rfl, _, rfl, _, rfl, dct, vn z, rfl, hg, by show 2 ≤ sizeLine; decide, fun T2 hT2 => ?_⟩
        refine ky _ (Same.new hT2) _ ⟨b.turn[i], T2, hp, rfl, hne ((e16.trans e').free hT2), ?_⟩
        rw [hid_at (fun z => hne' (by rw [← z]; exact hT2)), upd_same, hz]
        rfl
      · have e17 := e16.trans e7
        refine ⟨_, rfl, _, rfl, _, 2, rfl, rfl, ⟨by decide, by decide⟩, by show 4 ≤ sizeLine; decide, fun L hL => ?_⟩
        have eL := Same.new (o := .lst [.ref db, .ref D, .ref dct, .int ((b.cnt : Int) / 2)]) hL
        have ndb : db ≠ st := hne (e1.free hdb)
        have nD : D ≠ st := hne (e16.free hD2)
        refine k L db D dct _ (e17.trans eL) (e17.free hL) upd_same ?_ ⟨ys, ?_, ?_, fun i p v hp hv => ?_⟩ (hDF'.mono (e7.trans eL))
        · show hid st _ db = _
          rw [hid_at ndb]
          exact (hdbL.mono (((e3.trans e).trans e7).trans eL))
        · rw [hid_at nD]
          exact eL _ _ hys
        · rw [hyl, hul]
          exact (List.length_map ..).symm
        · obtain ⟨p', T, h1, rfl, h3, h4⟩ := hyR i v hv
          unfold mapL at hp
          rw [List.getElem?_map, h1] at hp
          cases hp
          refine ⟨T, rfl, ?_⟩
          rw [hid_at h3]
          exact eL _ _ (hid_le _ _ h4)
def sp_law_with_double_block : Sp := fun vs H Q _ => ∃ (st a : Addr) (o : HO) (s : List Blk) (i : Nat) (b : Blk), vs = [.ref a, vn i] ∧ H st = some o ∧ IsS (hid st H) a s ∧ VL s ∧ s[i]? = some b ∧
  ∀ p H', Same H H' → H p = none → IsS (hid st H') p (dblS s i b) → Q (.ref p) H'
theorem sc_law_with_double_block : FnScope ["_law_sequence_here", "_law_at", "_law_distances_here", "_law_link", "_law_turn", "_law_many", "_law_doubled", "_law_both", "_law_later", "_law_half", "_law_found", "_law_own", "_law_next_link", "_law_next_turn", "_law_count", "_law_symbol_id", "_law_other"] ["_law_sequence_here", "_law_at"] (defScope s_law_with_double_block) := C8.fnScope_by (by decide +kernel)
theorem c_law_with_double_block {P : Program} {w : World} {K : PySem.W.Frag} {mg : Str → Option Value} {base : Heap} (t : Tx K mg) : C8.Cal P w K mg base 6 "_law_with_double_block" sp_law_with_double_block [] := by
  obtain ⟨fd, F⟩ := t.f_law_with_double_block
  have nd := sc_law_with_double_block.nd
  refine ⟨_, fd, ["_law_sequence_here", "_law_at"], [], F.ok sc_law_with_double_block (fun vs H Q E h => ?_) (fun cdv A outer s H vs Q E hr h => ?_), t.glo_law_with_double_block, F.kp, F.bindsN (fun _ _ _ _ _ _ us hl => match us, hl with | [_, _], _ => rfl), .nil⟩
  · obtain ⟨st, a, o, s', i, b, rfl, hst, ⟨us, hU, hul, hUR⟩, hV, hb, k⟩ := h
    rfl
  · obtain ⟨st, a, o, s', i, b, rfl, hst, ⟨us, hU, hul, hUR⟩, hV, hb, k⟩ := h
    have hu := hu_of hr
    refine ⟨_, PSs.nox (pss_cons (ps_asg (pe_ix ix_list (pv 0) (pv 1) (fun _ _ => rfl)) (pg_tup rfl (pgs_cons (pg_name (i := 2) nd rfl (Or.inl rfl)) (pgs_cons (pg_name (i := 3) nd rfl (Or.inl rfl)) (pgs_cons (pg_name (i := 4) nd rfl (Or.inl rfl)) (pgs_cons (pg_name (i := 5) nd rfl (Or.inl rfl)) pgs_nil))))))
        (pss_cons (ps_asg (C8.pe_c (c_law_double_block t) hr (by decide) rfl (pa_cons (pe_ix ix_list (pv 0) (pv 1) (fun _ _ => rfl)) pa_nil)) (pg_unl rfl (pgs_cons (pg_name (i := 6) nd rfl (Or.inl rfl)) (pgs_cons (pg_name (i := 7) nd rfl (Or.inl rfl)) (pgs_cons (pg_name (i := 8) nd rfl (Or.inr rfl)) (pgs_cons (pg_name (i := 9) nd rfl (Or.inl rfl)) pgs_nil))))))
        (pss_cons (ps_set (i := 10) nd rfl (Or.inl rfl) (pe_op op_cat (pe_op op_cat (pe_slice sl_list (pv 0) po_none (po_some (pv 1))) (pe_lst (pa_cons (pe_tup (pa_cons (pv 6) (pa_cons (pv 3) (pa_cons (pv 7) (pa_cons (pv 9) pa_nil))))) pa_nil))) (pe_slice sl_list (pv 0) (po_some (pe_op op_add (pv 1) pe_int)) po_none)))
        (C8.pss_cut (ps_if (pt_cmpR op_lt (pe_op op_add (pv 1) pe_int) (pe_callB call_len_seq (by rfl) t.free_len (by decide +kernel) (pa_cons (pv 0) pa_nil)) (nomark _)) (pss_cons (ps_asg (pe_ix ix_list (pv 0) (pe_op op_add (pv 1) pe_int) (fun _ _ => rfl)) (pg_tup rfl (pgs_cons (pg_name (i := 11) nd rfl (Or.inl rfl)) (pgs_cons (pg_name (i := 12) nd rfl (Or.inl rfl)) (pgs_cons (pg_name (i := 13) nd rfl (Or.inl rfl)) (pgs_cons (pg_name (i := 14) nd rfl (Or.inl rfl)) pgs_nil))))))
        (pss_one (ps_asg (pe_tup (pa_cons (pv 11) (pa_cons (pe_lc (own := [("_law_symbol_id", 15), ("_law_other", 16)]) (g := (gTup K 2 (gCons (gName 15) (gCons (gName 16) gNil)))) (tt := tYes) (te := (tTup (tCons (tVar 15) (tCons (tDGet (tVar 8) (tVar 16)) tNil)))) rfl nd  (pi_list (pv 12)) (blkOk_by (by kernel_rfl)) (fun _ _ _ _ _ => (pg_tup rfl (pgs_cons (pg_name (i := 15) nd rfl (Or.inl rfl)) (pgs_cons (pg_name (i := 16) nd rfl (Or.inl rfl)) pgs_nil)))) (fun _ _ _ _ _ => pts_nil) (fun _ _ _ _ _ => (pe_tup (pa_cons (pv 15) (pa_cons (pe_dget hu (pv 8) (pv 16) (fun _ _ => rfl)) pa_nil))))) (pa_cons (pv 13) (pa_cons (pv 14) pa_nil))))) (pg_sub (pv 10) (pe_op op_add (pv 1) pe_int) set_list)))) pss_nil)
        (pss_one (ps_ret (pv 10))))))), ?_⟩
    have hne : ∀ {p : Addr}, H p = none → p ≠ st := fun {p} h z => by rw [z, hst] at h; cases h
    have hi : i < s'.length := (List.getElem?_eq_some_iff.mp hb).1
    have hbm : b ∈ s' := List.mem_of_getElem? hb
    have hVB := validS_take hV.vs.valid hb
    have b12 := hV.len b hbm
    have few := hV.few
    have hui : us[i]? = some (us[i]'(by omega)) := List.getElem?_eq_getElem _
    have hRB := hUR i b _ hb hui
    obtain ⟨tb, d, l, u, hv, hT, hD, hLk, hTn⟩ := id hRB
    rw [hv] at hui hRB
    have hUH := hid_le _ _ hU
    refine ⟨_, rfl, _, rfl, a, us, _, .ref tb, rfl, rfl, sl hUH, atI_nat hui, tb, _, rfl, SqT.of (hid_le _ _ hT), rfl, _, _, rfl, _, _, rfl, _, _, rfl, _, _, rfl, rfl, ?_⟩
    refine ⟨_, rfl, _, rfl, a, us, _, .ref tb, rfl, rfl, sl hUH, atI_nat hui, st, o, .ref tb, b, _, rfl, hst, hRB, hVB, b12, fun L db D dct H1 e1 hL hLl hdb hDb hdct => ?_⟩
    refine ⟨L, _, rfl, sl hLl, rfl, _, _, rfl, _, _, rfl, _, _, rfl, _, _, rfl, rfl, ?_⟩
    -- found
    refine ⟨_, rfl, _, rfl, _, rfl, a, us, rfl, sl (e1 _ _ hUH), fun p1 hp1 => ?_⟩
    rw [cut_to]
    have E1 := Same.new (o := .lst (us.take i)) hp1
    refine ⟨_, rfl, _, rfl, _, rfl, _, rfl, by show 4 ≤ sizeLine; decide, fun T hTn' => ?_⟩
    have ET := Same.new (o := .tup [.ref db, .ref l, .ref D, vn (b.cnt / 2)]) hTn'
    refine ⟨by show 1 ≤ sizeLine; decide, fun p2 hp2 => ?_⟩
    have E2 := Same.new (o := .lst [.ref T]) hp2
    refine ⟨p1, p2, _, _, rfl, rfl, E2 _ _ (ET _ _ upd_same), upd_same, ?_, fun p3 hp3 => ?_⟩
    · rw [List.length_take]
      exact Nat.le_trans (show _ ≤ 3 + 1 by simp; omega) (by decide)
    have E3 := Same.new (o := .lst (us.take i ++ [.ref T])) hp3
    have e3 := ((((e1.trans E1).trans ET).trans E2).trans E3)
    refine ⟨_, rfl, _, rfl, _, _, rfl, rfl, _, rfl, a, us, rfl, sl (e3 _ _ hUH), fun p4 hp4 => ?_⟩
    have ecut : cutV us (some ((i : Int) + 1)) none = us.drop (i + 1) := cut_from us (i + 1)
    rw [ecut]
    have E4 := Same.new (o := .lst (us.drop (i + 1))) hp4
    refine ⟨p3, p4, _, _, rfl, rfl, E4 _ _ upd_same, upd_same, ?_, fun p5 hp5 => ?_⟩
    · rw [List.length_append, List.length_take, List.length_drop]
      exact Nat.le_trans (show _ ≤ 8 by simp; omega) (by decide)
    have e4 := e3.trans E4
    have hTst : T ≠ st := hne ((e1.trans E1).free hTn')
    have e14 := (((E1.trans ET).trans E2).trans E3).trans E4
    have hT4 := E4 _ _ (E3 _ _ (E2 T _ upd_same))
    generalize upd (upd (upd (upd (upd H1 p1 _) T _) p2 _) p3 _) p4 _ = G4 at *
    have h5st : p5 ≠ st := hne (e4.free hp5)
    -- items, before the list itself
    have it0 : Items (fun b v => RB b (hid st G4) v) us s' := ⟨hul, fun j b v x y => (hUR j b v x y).mono (hid_mono e4)⟩
    have itT : RB (dblB b) (hid st G4) (.ref T) := ⟨T, db, l, D, rfl, by rw [hid_at hTst]; exact hT4, hdb.mono (hid_mono e14), hLk.mono (hid_mono e4), hDb.mono (hid_mono e14)⟩
    have it5 : Items (fun b v => RB b (hid st G4) v) (us.take i ++ [.ref T] ++ us.drop (i + 1)) (s'.take i ++ [dblB b] ++ s'.drop (i + 1)) := ((it0.take i).app (.one itT)).app (it0.drop (i + 1))
    have E5 := Same.new (o := .lst (us.take i ++ [.ref T] ++ us.drop (i + 1))) hp5
    have e5 := e4.trans E5
    have h5 : upd G4 p5 (.lst (us.take i ++ [.ref T] ++ us.drop (i + 1))) p5 = some (.lst (us.take i ++ [.ref T] ++ us.drop (i + 1))) := upd_same
    generalize upd G4 p5 _ = G5 at *
    refine ⟨fun σ' H' => σ'[10]? = some (some (.ref p5)) ∧ Same H H' ∧ IsS (hid st H') p5 (dblS s' i b), ?_, fun σ' H' ⟨g1, g2, g3⟩ => ⟨_, g1, k p5 H' g2 (e4.free hp5) g3⟩⟩
    generalize hs : List.set _ 10 (some (V.ref p5)) = σ0
    obtain rfl : σ0 = [some (.ref a), some (vn i), some (.ref d), some (.ref l), some (.ref u), some (vn b.cnt), some (.ref db), some (.ref D), some (.ref dct), some (vn (b.cnt / 2)), some (.ref p5), none, none, none, none, none, none] := by
      rw [← hs]
      rfl
    clear hs
    refine ⟨_, rfl, _, _, rfl, rfl, _, rfl, a, _, rfl, .inl (sl (e5 _ _ hUH)), _, _, rfl, rfl, _, rfl, if_dec (fun h => ?_) (fun h => ?_)⟩
    rotate_left
    · have hnone : s'[i + 1]? = none := List.getElem?_eq_none (by omega)
      refine ⟨rfl, e5, ?_⟩
      unfold dblS
      rw [hnone]
      exact ⟨_, by rw [hid_at h5st]; exact h5, it5.1, fun j x v y z => (it5.2 j x v y z).mono (hid_mono E5)⟩
    have hi1 : i + 1 < s'.length := by omega
    have hc : s'[i + 1]? = some s'[i + 1] := List.getElem?_eq_getElem hi1
    have huc : us[i + 1]? = some (us[i + 1]'(by omega)) := List.getElem?_eq_getElem _
    have hRC := hUR _ _ _ hc huc
    have hVC := validS_take hV.vs.valid hc
    have hprev : prevZ (s'.take (i + 1)) 0 = nz b.base := by
      unfold prevZ
      rw [take_snoc hb, List.getLast?_concat]
    rw [hprev] at hVC
    generalize s'[i + 1] = c at *
    obtain ⟨tc, cd, cl, cu, hvc, hTc, hDc, ⟨cus, hCU, hcul, hCUR⟩, hTnc⟩ := hRC
    rw [hvc] at huc
    have e5' := (hid_le (l := st)).trans e5
    refine ⟨_, rfl, _, rfl, _, _, rfl, rfl, a, us, ((i + 1 : Nat) : Int), .ref tc, rfl, rfl, sl (e5 _ _ hUH), atI_nat huc, tc, _, rfl, SqT.of (e5' _ _ hTc), rfl, _, _, rfl, _, _, rfl, _, _, rfl, _, _, rfl, rfl, ?_⟩
    generalize hs : List.set _ 14 (some (vn c.cnt)) = σ0
    obtain rfl : σ0 = [some (.ref a), some (vn i), some (.ref d), some (.ref l), some (.ref u), some (vn b.cnt), some (.ref db), some (.ref D), some (.ref dct), some (vn (b.cnt / 2)), some (.ref p5), some (.ref cd), some (.ref cl), some (.ref cu), some (vn c.cnt), none, none] := by
      rw [← hs]
      rfl
    clear hs
    have hdct5 := hdct.mono (e14.trans E5)
    have lc40 : c.link.length ≤ 40 := by
      have := hVC.link.len
      have := nz_le c.base
      have := hVC.most
      omega
    refine ⟨_, rfl, _, rfl, cl, rfl, ⟨_, sl (e5' _ _ hCU)⟩, fun D2 hD2 => ?_⟩
    refine lc_obj walk_list (fun i y Hh => ∃ p T, c.link[i]? = some p ∧ y = .ref T ∧ T ≠ st ∧ Hh T = some (.tup [vn p.1, vn ((laterF b p.2).getD 0)])) (fun i y Ha Hb e ⟨p, T, h1, h2, h3, h4⟩ => ⟨p, T, h1, h2, h3, e _ _ h4⟩) (by omega) hD2 (fun H' e => sl (e _ _ (e5' _ _ hCU))) (fun j x H7 H8 Ky Kn hj e' hne' yy ky => ?_) fun H7 ys e7 hys hyl hyR => ?_
    · obtain ⟨rfl, hx⟩ := yy
      have hi2 : j < c.link.length := by omega
      have hp : c.link[j]? = some c.link[j] := List.getElem?_eq_getElem hi2
      obtain ⟨T', rfl, hTt⟩ := hCUR j _ _ hp hx
      obtain ⟨z, hz⟩ := later_some hVB (hVC.link.lt _ (List.getElem_mem hi2)).2
      have hg := (hdct5.mono e').get c.link[j].2
      rw [hz] at hg
      refine ⟨Same.refl _, T', _, rfl, SqT.of ((e5'.trans e') _ _ hTt), rfl, _, _, rfl, _, _, rfl, rfl, rfl, _, rfl, _, rfl, _, rfl, dct, vn z, rfl, hg, by show 2 ≤ sizeLine; decide, fun T2 hT2 => ?_⟩
      refine ky _ (Same.new hT2) _ ⟨c.link[j], T2, hp, rfl, hne ((e5.trans e').free hT2), ?_⟩
      rw [hid_at (fun z => hne' (by rw [← z]; exact hT2)), upd_same, hz]
      rfl
    · have e57 := e5.trans e7
      have h57 := e7 _ _ h5
      refine ⟨_, rfl, _, rfl, by show 4 ≤ sizeLine; decide, fun T2 hT2 => ?_⟩
      have EX := Same.new (o := .tup [.ref cd, .ref D2, .ref cu, vn c.cnt]) hT2
      have hT2st : T2 ≠ st := hne (e57.free hT2)
      have nT2 : T2 ≠ p5 := fun z => by rw [z, h57] at hT2; cases hT2
      have nD2 : D2 ≠ p5 := fun z => by rw [z, h5] at hD2; cases hD2
      have hlen5 : (us.take i ++ [V.ref T] ++ us.drop (i + 1)).length = s'.length := by
        rw [it5.1, List.length_append, List.length_append, List.length_take, List.length_drop]
        simp
        omega
      have hix : ixN (us.take i ++ [V.ref T] ++ us.drop (i + 1)).length ((i : Int) + 1) = some (i + 1) := by
        rw [hlen5]
        unfold ixN
        rw [if_pos (by omega), if_pos (by omega)]
        rfl
      refine ⟨_, rfl, _, rfl, _, _, rfl, rfl, p5, _, _, i + 1, rfl, rfl, EX _ _ h57, hix, ?_⟩
      have EF : Same G4 (upd (upd H7 T2 (.tup [.ref cd, .ref D2, .ref cu, vn c.cnt])) p5 (HO.lst ((us.take i ++ [V.ref T] ++ us.drop (i + 1)).set (i + 1) (V.ref T2)))) := Same.mut ((E5.trans e7).trans EX) hp5
      refine ⟨rfl, e4.trans EF, ?_⟩
      unfold dblS
      rw [hc]
      have it6 := (it5.mono (fun x v h => h.mono (hid_mono EF))).set (i + 1) (u := .ref T2) (x := ⟨c.base, mapL b c.link, c.turn, c.cnt⟩) ⟨T2, cd, D2, cu, rfl, ?_, hDc.mono (hid_mono (e4.trans EF)), ⟨ys, ?_, ?_, fun j p v hp hv => ?_⟩, hTnc.mono (hid_mono (e4.trans EF))⟩
      · exact ⟨_, by rw [hid_at h5st]; exact upd_same, it6.1, it6.2⟩
      · rw [hid_at hT2st, upd_ne nT2, upd_same]
      · rw [hid_at (hne (e5.free hD2)), upd_ne nD2]
        exact EX _ _ hys
      · rw [hyl, hcul]
        exact (List.length_map ..).symm
      · obtain ⟨p', T', h1, rfl, h3, h4⟩ := hyR j v hv
        unfold mapL at hp
        rw [List.getElem?_map, h1] at hp
        cases hp
        have h4' := hid_le _ _ h4
        refine ⟨T', rfl, ?_⟩
        rw [hid_at h3, upd_ne (fun z => by rw [z, h57] at h4'; cases h4')]
        exact EX _ _ h4'
def sp_law_with_split_block : Sp := fun vs H Q _ => ∃ (st a : Addr) (s : List Blk) (i : Nat) (b : Blk), vs = [.ref st, .ref a, vn i] ∧ IsSt H st ∧ IsS (hid st H) a s ∧ VL s ∧ s[i]? = some b ∧
  ∀ p f H', SameBut st H H' → H p = none → IsSt H' st → 1 ≤ f → f < b.cnt → IsS (hid st H') p (splS s i b f) → Q (.ref p) H'
theorem sc_law_with_split_block : FnScope ["_law_stream_here", "_law_sequence_here", "_law_at", "_law_distances_here", "_law_link", "_law_turn", "_law_many", "_law_first", "_law_parts"] ["_law_stream_here", "_law_sequence_here", "_law_at"] (defScope s_law_with_split_block) := C8.fnScope_by (by decide +kernel)
theorem c_law_with_split_block {P : Program} {w : World} {K : PySem.W.Frag} {mg : Str → Option Value} {base : Heap} (t : Tx K mg) : C8.Cal P w K mg base 2 "_law_with_split_block" sp_law_with_split_block [] := by
  obtain ⟨fd, F⟩ := t.f_law_with_split_block
  have nd := sc_law_with_split_block.nd
  refine ⟨_, fd, ["_law_stream_here", "_law_sequence_here", "_law_at"], [], F.ok sc_law_with_split_block (fun vs H Q E h => ?_) (fun cdv A outer s H vs Q E hr h => ?_), t.glo_law_with_split_block, F.kp, F.bindsN (fun _ _ _ _ _ _ us hl => match us, hl with | [_, _, _], _ => rfl), .nil⟩
  · obtain ⟨st, a, s', i, b, rfl, hS, ⟨us, hU, hul, hUR⟩, hV, hb, k⟩ := h
    rfl
  · obtain ⟨st, a, s', i, b, rfl, hS, ⟨us, hU, hul, hUR⟩, hV, hb, k⟩ := h
    have hu := hu_of hr
    refine ⟨_, PSs.nox (pss_cons (ps_asg (pe_ix ix_list (pv 1) (pv 2) (fun _ _ => rfl)) (pg_tup rfl (pgs_cons (pg_name (i := 3) nd rfl (Or.inl rfl)) (pgs_cons (pg_name (i := 4) nd rfl (Or.inl rfl)) (pgs_cons (pg_name (i := 5) nd rfl (Or.inl rfl)) (pgs_cons (pg_name (i := 6) nd rfl (Or.inl rfl)) pgs_nil))))))
        (pss_cons (ps_set (i := 7) nd rfl (Or.inl rfl) (pe_op op_add pe_int (C8.pe_c (c_law_draw t) hr (by decide) rfl (pa_cons (pv 0) (pa_cons (pe_op op_subN (pv 6) pe_int) pa_nil)))))
        (pss_cons (ps_set (i := 8) nd rfl (Or.inl rfl) (pe_lst (pa_cons (pe_tup (pa_cons (pv 3) (pa_cons (pv 4) (pa_cons (pv 5) (pa_cons (pv 7) pa_nil))))) (pa_cons (pe_tup (pa_cons (pv 3) (pa_cons (pv 5) (pa_cons (pv 5) (pa_cons (pe_op op_subN (pv 6) (pv 7)) pa_nil))))) pa_nil))))
        (pss_one (ps_ret (pe_op op_cat (pe_op op_cat (pe_slice sl_list (pv 1) po_none (po_some (pv 2))) (pv 8)) (pe_slice sl_list (pv 1) (po_some (pe_op op_add (pv 2) pe_int)) po_none))))))), ?_⟩
    have hi : i < s'.length := (List.getElem?_eq_some_iff.mp hb).1
    have hbm : b ∈ s' := List.mem_of_getElem? hb
    obtain ⟨c1, hf, c2, c3⟩ := hV.cnt b hbm
    have few := hV.few
    have hui : us[i]? = some (us[i]'(by omega)) := List.getElem?_eq_getElem _
    have hRB := hUR i b _ hb hui
    obtain ⟨tb, d, l, u, hv, hT, hD, hLk, hTn⟩ := id hRB
    rw [hv] at hui hRB
    have hUH := hid_le _ _ hU
    refine ⟨_, rfl, _, rfl, a, us, _, .ref tb, rfl, rfl, sl hUH, atI_nat hui, tb, _, rfl, SqT.of (hid_le _ _ hT), rfl, _, _, rfl, _, _, rfl, _, _, rfl, _, _, rfl, rfl, ?_⟩
    refine ⟨_, rfl, _, rfl, b.cnt, 1, rfl, rfl, by omega, st, b.cnt - 1, rfl, hS, by omega, Nat.le_trans (show b.cnt - 1 ≤ 2 * 10 ^ 28 by omega) (by decide), fun r H1 hr sb hS1 => ⟨_, _, rfl, rfl, ?_⟩⟩
    have hx : Same (hid st H) (hid st H1) := sb.hid
    have hU1 : H1 a = some (.lst us) := hid_le _ _ (hx _ _ hU)
    refine ⟨_, rfl, _, rfl, _, rfl, _, rfl, by show 4 ≤ sizeLine; decide, fun T1 hT1 => ?_⟩
    have E1 := Same.new (o := .tup [.ref d, .ref l, .ref u, .int (1 + ((r : Nat) : Int))]) hT1
    refine ⟨_, rfl, _, rfl, _, rfl, _, rfl, _, rfl, b.cnt, 1 + r, rfl, rfl, by omega, by show 4 ≤ sizeLine; decide, fun T2 hT2 => ?_⟩
    have E2 := Same.new (o := .tup [.ref d, .ref u, .ref u, vn (b.cnt - (1 + r))]) hT2
    refine ⟨by show 2 ≤ sizeLine; decide, fun p1 hp1 => ?_⟩
    have E3 := Same.new (o := .lst [.ref T1, .ref T2]) hp1
    have e3 := (E1.trans E2).trans E3
    refine ⟨_, rfl, _, rfl, _, rfl, a, us, rfl, sl (e3 _ _ hU1), fun p2 hp2 => ?_⟩
    rw [cut_to]
    have E4 := Same.new (o := .lst (us.take i)) hp2
    refine ⟨_, rfl, p2, p1, _, _, rfl, rfl, upd_same, E4 _ _ upd_same, ?_, fun p3 hp3 => ?_⟩
    · rw [List.length_take]
      exact Nat.le_trans (show _ ≤ 3 + 2 by simp; omega) (by decide)
    have E5 := Same.new (o := .lst (us.take i ++ [.ref T1, .ref T2])) hp3
    have e5 := (e3.trans E4).trans E5
    refine ⟨_, rfl, _, rfl, _, _, rfl, rfl, _, rfl, a, us, rfl, sl (e5 _ _ hU1), fun p4 hp4 => ?_⟩
    have ecut : cutV us (some ((i : Int) + 1)) none = us.drop (i + 1) := cut_from us (i + 1)
    rw [ecut]
    have E6 := Same.new (o := .lst (us.drop (i + 1))) hp4
    refine ⟨p3, p4, _, _, rfl, rfl, E6 _ _ upd_same, upd_same, ?_, fun p5 hp5 => ?_⟩
    · rw [List.length_append, List.length_take, List.length_drop]
      exact Nat.le_trans (show _ ≤ 8 by simp; omega) (by decide)
    have E7 := Same.new (o := .lst (us.take i ++ [.ref T1, .ref T2] ++ us.drop (i + 1))) hp5
    have e6 := e5.trans E6
    have e7 := e6.trans E7
    have h1st := hS1.ne hT1
    have h2st := (hS1.mono E1).ne hT2
    have h5st := (hS1.mono e6).ne hp5
    have m1 := hx.trans (hid_mono e7)
    have it0 : Items (fun b v => RB b (hid st (upd _ p5 (.lst (us.take i ++ [.ref T1, .ref T2] ++ us.drop (i + 1))))) v) us s' := ⟨hul, fun j b v x y => (hUR j b v x y).mono m1⟩
    have eT1 := ((((E2.trans E3).trans E4).trans E5).trans E6).trans E7
    have eT2 := (((E3.trans E4).trans E5).trans E6).trans E7
    have it5 := ((it0.take i).app ((Items.one (u := .ref T1) (x := ⟨b.base, b.link, b.turn, 1 + r⟩) ⟨T1, d, l, u, rfl, by rw [hid_at h1st]; exact eT1 _ _ upd_same, hD.mono m1, hLk.mono m1, hTn.mono m1⟩).app (Items.one (u := .ref T2) (x := ⟨b.base, b.turn, b.turn, b.cnt - (1 + r)⟩) ⟨T2, d, u, u, rfl, by rw [hid_at h2st]; exact eT2 _ _ upd_same, hD.mono m1, hTn.mono m1, hTn.mono m1⟩))).app (it0.drop (i + 1))
    exact k p5 (1 + r) _ (sb.trans (Same.but e7)) (sb.free (e6.free hp5) h5st) (hS1.mono e7) (by omega) (by omega) ⟨_, by rw [hid_at h5st]; exact upd_same, it5.1, it5.2⟩
theorem if_neV {x y : V} {A B : Prop} (h : x = y) (b : B) : if (!decide (x = y)) = true then A else B := by
  rw [decide_eq_true h]
  exact b
theorem IsS.sb {st a : Addr} {H H' : Hp} {s : List Blk} (h : IsS (hid st H) a s) (e : SameBut st H H') : IsS (hid st H') a s := h.mono e.hid
def sp_law_position_holds : Sp := fun vs H Q _ => ∃ (st a b : Addr) (s u : List Blk) (p : Nat), vs = [.ref st, .ref a, .ref b, vn p, vn (tot (boS s))] ∧ IsSt H st ∧ IsS (hid st H) a s ∧ IsS (hid st H) b u ∧ Eqv s u ∧ p < tot (boS s) ∧ tot (boS s) ≤ 10 ^ 40 ∧ ∀ H', SameBut st H H' → IsSt H' st → Q (.bl true) H'
theorem sc_law_position_holds : FnScope ["_law_stream_here", "_law_sequence_here", "_law_other", "_law_position", "_law_size", "_law_later", "_law_many", "_law_cut", "_law_end", "_law_number"] ["_law_stream_here", "_law_sequence_here", "_law_other", "_law_position", "_law_size"] (defScope s_law_position_holds) := C8.fnScope_by (by decide +kernel)
theorem c_law_position_holds {P : Program} {w : World} {K : PySem.W.Frag} {mg : Str → Option Value} {base : Heap} (t : Tx K mg) : C8.Cal P w K mg base 8 "_law_position_holds" sp_law_position_holds [] := by
  obtain ⟨fd, F⟩ := t.f_law_position_holds
  have nd := sc_law_position_holds.nd
  refine ⟨_, fd, ["_law_stream_here", "_law_sequence_here", "_law_other", "_law_position", "_law_size"], [], F.ok sc_law_position_holds (fun vs H Q E h => ?_) (fun cdv A outer s H vs Q E hr h => ?_), t.glo_law_position_holds, F.kp, F.bindsN (fun _ _ _ _ _ _ us hl => match us, hl with | [_, _, _, _, _], _ => rfl), .nil⟩
  · obtain ⟨st, a, b, s', u, p, rfl, hS, hA, hB, E', hp, h40, k⟩ := h
    rfl
  · obtain ⟨st, a, b, s', u, p, rfl, hS, hA, hB, E', hp, h40, k⟩ := h
    have hu := hu_of hr
    have hu64 := hu64_of hr
    refine ⟨_, PSs.nox (pss_cons (ps_if (pt_cmpR op_ne (C8.pe_c (c_distance_at t) hr (by decide) rfl (pa_cons (pv 1) (pa_cons (pv 3) pa_nil))) (C8.pe_c (c_distance_at t) hr (by decide) rfl (pa_cons (pv 2) (pa_cons (pv 3) pa_nil))) (nomark _)) (pss_one (ps_ret pe_bl)) pss_nil)
        (pss_cons (ps_if (pt_cmpR op_ne (C8.pe_c (c_count_before t) hr (by decide) rfl (pa_cons (pv 1) (pa_cons (pv 3) pa_nil))) (C8.pe_c (c_count_before t) hr (by decide) rfl (pa_cons (pv 2) (pa_cons (pv 3) pa_nil))) (nomark _)) (pss_one (ps_ret pe_bl)) pss_nil)
        (pss_cons (ps_if (pt_cmpR op_ne (C8.pe_c (c_count_total t) hr (by decide) rfl (pa_cons (pv 1) (pa_cons (pv 3) pa_nil))) (C8.pe_c (c_count_total t) hr (by decide) rfl (pa_cons (pv 2) (pa_cons (pv 3) pa_nil))) (nomark _)) (pss_one (ps_ret pe_bl)) pss_nil)
        (pss_cons (ps_if (pt_cmpR op_ne (C8.pe_c (c_new_before t) hr (by decide) rfl (pa_cons (pv 1) (pa_cons (pv 3) pa_nil))) (C8.pe_c (c_new_before t) hr (by decide) rfl (pa_cons (pv 2) (pa_cons (pv 3) pa_nil))) (nomark _)) (pss_one (ps_ret pe_bl)) pss_nil)
        (pss_cons (ps_set (i := 5) nd rfl (Or.inl rfl) (C8.pe_c (c_law_draw t) hr (by decide) rfl (pa_cons (pv 0) (pa_cons (pv 4) pa_nil))))
        (pss_cons (ps_if (pt_cmpR op_ne (C8.pe_c (c_same_symbol t) hr (by decide) rfl (pa_cons (pv 1) (pa_cons (pv 3) (pa_cons (pv 5) pa_nil)))) (C8.pe_c (c_same_symbol t) hr (by decide) rfl (pa_cons (pv 2) (pa_cons (pv 3) (pa_cons (pv 5) pa_nil)))) (nomark _)) (pss_one (ps_ret pe_bl)) pss_nil)
        (pss_cons (ps_set (i := 6) nd rfl (Or.inl rfl) (pe_callB (call_min2 rfl) (by rfl) t.free_min (by decide +kernel) (pa_cons (pe_op op_subN (pv 4) (pv 3)) (pa_cons (pe_op op_add pe_int (C8.pe_c (c_law_draw t) hr (by decide) rfl (pa_cons (pv 0) (pa_cons pe_int pa_nil)))) pa_nil))))
        (pss_cons (ps_set (i := 7) nd rfl (Or.inl rfl) (C8.pe_c (c_window_at t) hr (by decide) rfl (pa_cons (pv 1) (pa_cons (pv 3) (pa_cons (pv 6) pa_nil)))))
        (pss_cons (ps_if (pt_cmpR (op_neD hu64) (C8.pe_c (c_window_at t) hr (by decide) rfl (pa_cons (pv 2) (pa_cons (pv 3) (pa_cons (pv 6) pa_nil)))) (pv 7) (nomark _)) (pss_one (ps_ret pe_bl)) pss_nil)
        (pss_cons (ps_set (i := 8) nd rfl (Or.inl rfl) (pe_callB (call_min2 rfl) (by rfl) t.free_min (by decide +kernel) (pa_cons (pv 4) (pa_cons (pe_op op_add (pv 3) (C8.pe_c (c_law_draw t) hr (by decide) rfl (pa_cons (pv 0) (pa_cons pe_int pa_nil)))) pa_nil))))
        (pss_cons (ps_if (pt_cmpR op_ne (C8.pe_c (c_count_matches t) hr (by decide) rfl (pa_cons (pv 1) (pa_cons (pv 7) (pa_cons (pv 8) pa_nil)))) (C8.pe_c (c_count_matches t) hr (by decide) rfl (pa_cons (pv 2) (pa_cons (pv 7) (pa_cons (pv 8) pa_nil)))) (nomark _)) (pss_one (ps_ret pe_bl)) pss_nil)
        (pss_cons (ps_set (i := 9) nd rfl (Or.inl rfl) (C8.pe_c (c_law_draw t) hr (by decide) rfl (pa_cons (pv 0) (pa_cons pe_int pa_nil))))
        (pss_one (ps_ret (pe_cmpR op_eq (C8.pe_c (c_nth_occurrence t) hr (by decide) rfl (pa_cons (pv 1) (pa_cons (pv 3) (pa_cons (pv 9) pa_nil)))) (C8.pe_c (c_nth_occurrence t) hr (by decide) rfl (pa_cons (pv 2) (pa_cons (pv 3) (pa_cons (pv 9) pa_nil)))) (nomark _)))))))))))))))), ?_⟩
    have hpu : p < tot (boS u) := by rw [← E'.n]; exact hp
    have a0 := hA.mono hid_le
    have b0 := hB.mono hid_le
    refine ⟨_, rfl, _, rfl, a, s', p, rfl, a0, E'.v1, hp, fun H1 e1 => ⟨_, rfl, _, rfl, b, u, p, rfl, b0.mono e1, E'.v2, hpu, fun H2 e2 => ⟨rfl, _, rfl, if_neV (by rw [E'.d p hp]) ?_⟩⟩⟩
    have e02 := e1.trans e2
    refine ⟨_, rfl, _, rfl, a, s', p, rfl, a0.mono e02, E'.v1, hp, fun H3 e3 => ⟨_, rfl, _, rfl, b, u, p, rfl, b0.mono (e02.trans e3), E'.v2, hpu, fun H4 e4 => ⟨rfl, _, rfl, if_neV (by rw [E'.before hp]) ?_⟩⟩⟩
    have e04 := (e02.trans e3).trans e4
    refine ⟨_, rfl, _, rfl, a, s', p, rfl, a0.mono e04, E'.v1, hp, fun H5 e5 => ⟨_, rfl, _, rfl, b, u, p, rfl, b0.mono (e04.trans e5), E'.v2, hpu, fun H6 e6 => ⟨rfl, _, rfl, if_neV (by rw [E'.total hp]) ?_⟩⟩⟩
    have e06 := (e04.trans e5).trans e6
    refine ⟨_, rfl, _, rfl, a, s', p, rfl, a0.mono e06, E'.v1, by omega, fun H7 e7 => ⟨_, rfl, _, rfl, b, u, p, rfl, b0.mono (e06.trans e7), E'.v2, by omega, fun H8 e8 => ⟨rfl, _, rfl, if_neV (by rw [E'.new (Nat.le_of_lt hp)]) ?_⟩⟩⟩
    have e08 := (e06.trans e7).trans e8
    refine ⟨_, rfl, _, rfl, st, tot (boS s'), rfl, hS.mono e08, by omega, h40, fun q H9 hq sb9 hS9 => ?_⟩
    have sb09 := (Same.but e08).trans sb9
    have a9 := hA.sb sb09
    have b9 := hB.sb sb09
    refine ⟨_, rfl, _, rfl, _, rfl, a, s', p, q, rfl, a9.mono hid_le, E'.v1, hp, hq, fun H10 e10 => ⟨_, rfl, _, rfl, _, rfl, b, u, p, q, rfl, (b9.mono hid_le).mono e10, E'.v2, hpu, by rw [← E'.n]; exact hq, fun H11 e11 => ⟨rfl, _, rfl, if_neV (by rw [E'.same hp hq]) ?_⟩⟩⟩
    have e911 := e10.trans e11
    refine ⟨_, rfl, _, rfl, tot (boS s'), p, rfl, rfl, by omega, _, rfl, st, 9, rfl, hS9.mono e911, by decide, by decide, fun r H12 hr sb12 hS12 => ⟨_, _, rfl, rfl, _, _, rfl, ?_⟩⟩
    have em : (if (1 : Int) + ((r : Nat) : Int) < ((tot (boS s') - p : Nat) : Int) then (1 : Int) + ((r : Nat) : Int) else ((tot (boS s') - p : Nat) : Int)) = ((min (tot (boS s') - p) (1 + r) : Nat) : Int) := by split <;> omega
    rw [em]
    generalize hn : min (tot (boS s') - p) (1 + r) = n at *
    have sb012 := (sb09.trans (Same.but e911)).trans sb12
    have a12 := (hA.sb sb012).mono hid_le
    have b12 := (hB.sb sb012).mono hid_le
    have hpn : p + n ≤ tot (boS s') := by omega
    refine ⟨_, rfl, _, rfl, _, rfl, a, s', p, n, rfl, a12, E'.v1, hpn, by omega, fun c H13 e13 hc hcL => ?_⟩
    refine ⟨_, rfl, _, rfl, _, rfl, b, u, p, n, rfl, b12.mono e13, E'.v2, by rw [← E'.n]; exact hpn, by omega, fun c2 H14 e14 hc2 hcL2 => ?_⟩
    refine ⟨_, rfl, .list (HB.nd (win (dAt (boS u)) p n)), .list (HB.nd (win (dAt (boS s')) p n)), nd_dp hcL2, nd_dp (hcL.mono e14), nd_shaped _, nd_shaped _, _, rfl, ?_⟩
    rw [nd_eqv, decide_eq_true (E'.win hpn).symm]
    refine iteF ?_
    have e1214 := e13.trans e14
    have hS14 := hS12.mono e1214
    refine ⟨_, rfl, _, rfl, _, rfl, st, 60, rfl, hS14, by decide, by decide, fun r2 H15 hr2 sb15 hS15 => ⟨_, _, rfl, rfl, _, _, rfl, ?_⟩⟩
    have em2 : (if (p : Int) + ((r2 : Nat) : Int) < ((tot (boS s') : Nat) : Int) then (p : Int) + ((r2 : Nat) : Int) else ((tot (boS s') : Nat) : Int)) = ((min (tot (boS s')) (p + r2) : Nat) : Int) := by split <;> omega
    rw [em2]
    generalize hm : min (tot (boS s')) (p + r2) = m at *
    have sb015 := (sb012.trans (Same.but e1214)).trans sb15
    have a15 := (hA.sb sb015).mono hid_le
    have b15 := (hB.sb sb015).mono hid_le
    have cst : c ≠ st := hS12.ne hc
    have c15 : IsL H15 c (win (dAt (boS s')) p n) := sb15 _ _ cst (hcL.mono e14)
    have hVw := win_valid E'.v1 hpn
    have wl : (win (dAt (boS s')) p n).length = n := win_len
    refine ⟨_, rfl, _, rfl, _, rfl, a, c, s', _, m, rfl, a15, E'.v1, c15, hVw, by omega, by omega, by omega, fun H16 e16 => ⟨_, rfl, _, rfl, _, rfl, b, c, u, _, m, rfl, b15.mono e16, E'.v2, c15.mono e16, hVw, by omega, by omega, by rw [← E'.n]; omega, fun H17 e17 => ⟨rfl, _, rfl, if_neV (by rw [E'.matches_ (by omega) (by omega)]) ?_⟩⟩⟩
    have e1517 := e16.trans e17
    refine ⟨_, rfl, st, 5, rfl, hS15.mono e1517, by decide, by decide, fun r3 H18 hr3 sb18 hS18 => ?_⟩
    have sb018 := (sb015.trans (Same.but e1517)).trans sb18
    have a18 := (hA.sb sb018).mono hid_le
    have b18 := (hB.sb sb018).mono hid_le
    refine ⟨_, rfl, _, rfl, _, rfl, a, s', p, r3, rfl, a18, E'.v1, hp, fun o ho H19 e19 => ⟨_, rfl, _, rfl, _, rfl, b, u, p, r3, rfl, b18.mono e19, E'.v2, hpu, fun o2 ho2 H20 e20 => ?_⟩⟩
    have eo := E'.nth hp ho ho2
    subst eo
    refine ⟨by cases o <;> rfl, ?_⟩
    rw [decide_eq_true rfl]
    exact k H20 (sb018.trans (Same.but (e19.trans e20))) (hS18.mono (e19.trans e20))
end HB
namespace HB
open PySem PySem.Spec PyProof.Rows L2
def sp_law_equivalent : Sp := fun vs H Q _ => ∃ (st a b : Addr) (s u : List Blk), vs = [.ref st, .ref a, .ref b] ∧ IsSt H st ∧ IsS (hid st H) a s ∧ IsS (hid st H) b u ∧ Eqv s u ∧ ∀ H', SameBut st H H' → IsSt H' st → Q (.bl true) H'
theorem sc_law_equivalent : FnScope ["_law_stream_here", "_law_sequence_here", "_law_other", "_law_size", "_law_turn", "_law_position", "_law_number"] ["_law_stream_here", "_law_sequence_here", "_law_other"] (defScope s_law_equivalent) := C8.fnScope_by (by decide +kernel)
theorem c_law_equivalent {P : Program} {w : World} {K : PySem.W.Frag} {mg : Str → Option Value} {base : Heap} (t : Tx K mg) : C8.Cal P w K mg base 9 "_law_equivalent" sp_law_equivalent [] := by
  obtain ⟨fd, F⟩ := t.f_law_equivalent
  have nd := sc_law_equivalent.nd
  refine ⟨_, fd, ["_law_stream_here", "_law_sequence_here", "_law_other"], [], F.ok sc_law_equivalent (fun vs H Q E h => ?_) (fun cdv A outer s H vs Q E hr h => ?_), t.glo_law_equivalent, F.kp, F.bindsN (fun _ _ _ _ _ _ us hl => match us, hl with | [_, _, _], _ => rfl), .nil⟩
  · obtain ⟨st, a, b, s', u, rfl, hS, hA, hB, E', k⟩ := h
    rfl
  · obtain ⟨st, a, b, s', u, rfl, hS, hA, hB, E', k⟩ := h
    have hu := hu_of hr
    refine ⟨_, PSs.nox (pss_cons (ps_set (i := 3) nd rfl (Or.inl rfl) (C8.pe_c (c_total_length t) hr (by decide) rfl (pa_cons (pv 1) pa_nil)))
        (pss_cons (ps_if (pt_cmpR op_ne (C8.pe_c (c_total_length t) hr (by decide) rfl (pa_cons (pv 2) pa_nil)) (pv 3) (nomark _)) (pss_one (ps_ret pe_bl)) pss_nil)
        (pss_cons (ps_if (pt_cmpR op_notN (C8.pe_c (c_first_difference t) hr (by decide) rfl (pa_cons (pv 1) (pa_cons (pv 2) pa_nil))) pe_non (nomark _)) (pss_one (ps_ret pe_bl)) pss_nil)
        (pss_cons (ps_for PassesOwn.never rfl (pi_range1 (by rfl) t.free_range (pa_cons pe_int pa_nil)) (pg_name (i := 4) nd rfl (Or.inl rfl)) (pss_cons (ps_set (i := 5) nd rfl (Or.inl rfl) (C8.pe_c (c_law_draw t) hr (by decide) rfl (pa_cons (pv 0) (pa_cons (pe_ix ix_list (pe_lst (pa_cons (pe_callB (call_min2 rfl) (by rfl) t.free_min (by decide +kernel) (pa_cons (pv 3) (pa_cons pe_int pa_nil))) (pa_cons (pv 3) pa_nil))) (C8.pe_c (c_law_draw t) hr (by decide) rfl (pa_cons (pv 0) (pa_cons pe_int pa_nil))) (fun _ _ => rfl)) pa_nil))))
        (pss_one (ps_if (pt_not (pt_val (C8.pe_c (c_law_position_holds t) hr (by decide) rfl (pa_cons (pv 0) (pa_cons (pv 1) (pa_cons (pv 2) (pa_cons (pv 5) (pa_cons (pv 3) pa_nil)))))))) (pss_one (ps_ret pe_bl)) pss_nil))))
        (pss_cons (ps_set (i := 6) nd rfl (Or.inl rfl) (C8.pe_c (c_law_draw t) hr (by decide) rfl (pa_cons (pv 0) (pa_cons pe_int pa_nil))))
        (pss_one (ps_ret (pe_cmpR op_eq (C8.pe_c (c_nth_new t) hr (by decide) rfl (pa_cons (pv 1) (pa_cons (pv 6) pa_nil))) (C8.pe_c (c_nth_new t) hr (by decide) rfl (pa_cons (pv 2) (pa_cons (pv 6) pa_nil))) (nomark _))))))))), ?_⟩
    obtain ⟨t1, t40⟩ := tot_small E'.v1
    have a0 := hA.mono hid_le
    have b0 := hB.mono hid_le
    refine ⟨_, rfl, a, s', rfl, a0, E'.v1, fun H1 e1 => ?_⟩
    refine ⟨_, rfl, b, u, rfl, b0.mono e1, E'.v2, fun H2 e2 => ⟨_, rfl, rfl, _, rfl, if_neV (by rw [E'.n]) ?_⟩⟩
    have e02 := e1.trans e2
    refine ⟨_, rfl, _, rfl, a, b, s', u, rfl, a0.mono e02, E'.v1, b0.mono e02, E'.v2, fun p h _ => E'.d p h, fun H3 e3 => ?_⟩
    rw [if_pos E'.n]
    refine ⟨rfl, _, rfl, iteF ?_⟩
    have e03 := e02.trans e3
    refine ⟨_, rfl, by decide, by decide, ?_⟩
    rw [show ((3 : Int)).toNat = 3 from rfl]
    refine for_it walk_rangeN (fun i σ H' => ∃ (v4 v5 : Option V), σ = [some (.ref st), some (.ref a), some (.ref b), some (vn (tot (boS s'))), v4, v5, none] ∧ SameBut st H H' ∧ IsSt H' st) ⟨none, none, rfl, Same.but e03, hS.mono e03⟩ (fun _ _ _ _ _ => True.intro) ?_ ?_
    · rintro i x σ H4 H5 hi ⟨v4, v5, rfl, sb, hS5⟩ ⟨rfl, rfl⟩
      have em : (if ((50 : Int)) < ((tot (boS s') : Nat) : Int) then (50 : Int) else ((tot (boS s') : Nat) : Int)) = ((min (tot (boS s')) 50 : Nat) : Int) := by split <;> omega
      refine ⟨_, rfl, _, rfl, _, _, rfl, ?_⟩
      rw [em]
      refine ⟨_, rfl, by show 2 ≤ sizeLine; decide, fun q hq => ?_⟩
      have eq := Same.new (o := .lst [.int ((min (tot (boS s')) 50 : Nat) : Int), vn (tot (boS s'))]) hq
      have hqst := hS5.ne hq
      refine ⟨_, rfl, st, 2, rfl, hS5.mono eq, by decide, by decide, fun r H6 hr sb6 hS6 => ?_⟩
      have hq6 := sb6 _ _ hqst (upd_same (H := H5) (a := q) (o := .lst [.int ((min (tot (boS s')) 50 : Nat) : Int), vn (tot (boS s'))]))
      obtain ⟨mx, hmx, m1, m2⟩ : ∃ x : Nat, atI [V.int ((min (tot (boS s')) 50 : Nat) : Int), vn (tot (boS s'))] (r : Int) = some (vn x) ∧ 1 ≤ x ∧ x ≤ tot (boS s') := by
        have : r = 0 ∨ r = 1 := by omega
        rcases this with rfl | rfl
        · exact ⟨min (tot (boS s')) 50, rfl, by omega, by omega⟩
        · exact ⟨tot (boS s'), rfl, t1, Nat.le_refl _⟩
      refine ⟨q, _, _, vn mx, rfl, rfl, sl hq6, hmx, st, mx, rfl, hS6, m1, by omega, fun p H7 hp sb7 hS7 => ?_⟩
      have sb07 := ((sb.trans (Same.but eq)).trans sb6).trans sb7
      refine ⟨_, rfl, _, rfl, _, rfl, _, rfl, _, rfl, st, a, b, s', u, p, rfl, hS7, hA.sb sb07, hB.sb sb07, E', by omega, t40, fun H8 sb8 hS8 => ⟨_, rfl, iteF ?_⟩⟩
      exact ⟨_, _, rfl, sb07.trans sb8, hS8⟩
    · rintro σ H4 ⟨v4, v5, rfl, sb, hS5⟩
      refine ⟨_, rfl, st, 9, rfl, hS5, by decide, by decide, fun n H6 hn sb6 hS6 => ?_⟩
      have sb06 := sb.trans sb6
      refine ⟨_, rfl, _, rfl, a, s', n, rfl, (hA.sb sb06).mono hid_le, E'.v1, fun H7 e7 => ⟨_, rfl, _, rfl, b, u, n, rfl, ((hB.sb sb06).mono hid_le).mono e7, E'.v2, fun H8 e8 => ?_⟩⟩
      rw [← E'.nthNew n]
      refine ⟨by cases nthNew (boS s') n <;> rfl, ?_⟩
      rw [decide_eq_true rfl]
      exact k H8 (sb06.trans (Same.but (e7.trans e8))) (hS6.mono (e7.trans e8))
end HB
namespace HB
open PySem PySem.Spec PyProof.Rows L2
def sp_law_holds : Sp := fun vs H Q _ => ∃ st : Addr, vs = [.ref st] ∧ IsSt H st ∧ ∀ H', SameBut st H H' → Q (.bl true) H'
theorem sc_law_holds : FnScope ["_law_stream_here", "_law_sequence_here", "_law_at"] ["_law_stream_here"] (defScope s_law_holds) := C8.fnScope_by (by decide +kernel)
theorem c_law_holds {P : Program} {w : World} {K : PySem.W.Frag} {mg : Str → Option Value} {base : Heap} (t : Tx K mg) : C8.Cal P w K mg base 10 "_law_holds" sp_law_holds [] := by
  obtain ⟨fd, F⟩ := t.f_law_holds
  have nd := sc_law_holds.nd
  refine ⟨_, fd, ["_law_stream_here"], [], F.ok sc_law_holds (fun vs H Q E h => ?_) (fun cdv A outer s H vs Q E hr h => ?_), t.glo_law_holds, F.kp, F.bindsN (fun _ _ _ _ _ _ us hl => match us, hl with | [_], _ => rfl), .nil⟩
  · obtain ⟨st, rfl, hS, k⟩ := h
    rfl
  · obtain ⟨st, rfl, hS, k⟩ := h
    have hu := hu_of hr
    refine ⟨_, PSs.nox (pss_cons (ps_set (i := 1) nd rfl (Or.inl rfl) (C8.pe_c (c_law_sequence t) hr (by decide) rfl (pa_cons (pv 0) pa_nil)))
        (pss_cons (ps_set (i := 2) nd rfl (Or.inl rfl) (C8.pe_c (c_law_draw t) hr (by decide) rfl (pa_cons (pv 0) (pa_cons (pe_callB call_len_seq (by rfl) t.free_len (by decide +kernel) (pa_cons (pv 1) pa_nil)) pa_nil))))
        (pss_cons (ps_if (pt_not (pt_val (C8.pe_c (c_law_equivalent t) hr (by decide) rfl (pa_cons (pv 0) (pa_cons (pv 1) (pa_cons (C8.pe_c (c_law_with_double_block t) hr (by decide) rfl (pa_cons (pv 1) (pa_cons (pv 2) pa_nil))) pa_nil)))))) (pss_one (ps_ret pe_bl)) pss_nil)
        (pss_cons (ps_if (pt_not (pt_val (C8.pe_c (c_law_equivalent t) hr (by decide) rfl (pa_cons (pv 0) (pa_cons (pv 1) (pa_cons (C8.pe_c (c_law_with_split_block t) hr (by decide) rfl (pa_cons (pv 0) (pa_cons (pv 1) (pa_cons (pv 2) pa_nil)))) pa_nil)))))) (pss_one (ps_ret pe_bl)) pss_nil)
        (pss_one (ps_ret (pe_cmpR op_eq (C8.pe_c (c_first_difference t) hr (by decide) rfl (pa_cons (pv 1) (pa_cons (pe_op op_cat (pv 1) (pe_lst (pa_cons (pe_tup (pa_cons (pe_lst (pa_cons pe_int pa_nil)) (pa_cons (pe_lst pa_nil) (pa_cons (pe_lst pa_nil) (pa_cons pe_int pa_nil))))) pa_nil))) pa_nil))) (C8.pe_c (c_total_length t) hr (by decide) rfl (pa_cons (pv 1) pa_nil)) (nomark _)))))))), ?_⟩
    refine ⟨_, rfl, st, rfl, hS, fun a s' H1 sb1 ha hS1 hA1 hV => ?_⟩
    obtain ⟨us, hU, hul, hUR⟩ := id hA1
    have h1 := hV.vs.one
    have few := hV.few
    refine ⟨_, rfl, _, rfl, a, _, rfl, .inl (sl (hid_le _ _ hU)), st, s'.length, by rw [hul] <;> rfl, hS1, h1, Nat.le_trans few (by decide), fun i H2 hi sb2 hS2 => ?_⟩
    have hb : s'[i]? = some s'[i] := List.getElem?_eq_getElem hi
    generalize s'[i] = b at *
    have hA2 := hA1.sb sb2
    obtain ⟨x1, x2, hst2, x4⟩ := id hS2
    -- doubled
    refine ⟨_, rfl, _, rfl, _, rfl, _, rfl, st, a, _, s', i, b, rfl, hst2, hA2, hV, hb, fun p H3 e3 hp hP => ?_⟩
    refine ⟨st, a, p, s', _, rfl, hS2.mono e3, hA2.mono (hid_mono e3), hP, eqv_dbl hV hb, fun H4 sb4 hS4 => ⟨_, rfl, iteF ?_⟩⟩
    have sb24 := (Same.but e3).trans sb4
    have hA4 := hA2.sb sb24
    -- split
    refine ⟨_, rfl, _, rfl, _, rfl, _, rfl, _, rfl, st, a, s', i, b, rfl, hS4, hA4, hV, hb, fun p2 f H5 sb5 hp2 hS5 f1 f2 hP2 => ?_⟩
    refine ⟨st, a, p2, s', _, rfl, hS5, hA4.sb sb5, hP2, eqv_spl hV hb f1 f2, fun H6 sb6 hS6 => ⟨_, rfl, iteF ?_⟩⟩
    have sb46 := sb5.trans sb6
    have hA6 := (hA4.sb sb46).mono hid_le
    have hU6 : H6 a = some (.lst us) := hid_le _ _ ((sb24.trans sb46).hid _ _ (sb2.hid _ _ hU))
    -- one block more
    obtain ⟨av, an, ad⟩ := add_one hV
    refine ⟨_, rfl, _, rfl, by show 1 ≤ sizeLine; decide, fun q1 hq1 => ⟨Nat.zero_le _, fun q2 hq2 => ⟨Nat.zero_le _, fun q3 hq3 => ⟨by show 4 ≤ sizeLine; decide, fun T hT => ⟨by show 1 ≤ sizeLine; decide, fun q4 hq4 => ?_⟩⟩⟩⟩⟩
    have E1 := Same.new (o := .lst [.int 0]) hq1
    have E2 := Same.new (o := .lst []) hq2
    have E3 := Same.new (o := .lst []) hq3
    have E4 := Same.new (o := .tup [.ref q1, .ref q2, .ref q3, .int 1]) hT
    have E5 := Same.new (o := .lst [.ref T]) hq4
    have e5 := (((E1.trans E2).trans E3).trans E4).trans E5
    have g1 := E5 _ _ (E4 _ _ (E3 _ _ (E2 q1 _ upd_same)))
    have g2 := E5 _ _ (E4 _ _ (E3 q2 _ upd_same))
    have g3 := E5 _ _ (E4 q3 _ upd_same)
    have g4 := E5 T _ upd_same
    have g5 : upd (upd (upd (upd (upd H6 q1 (.lst [.int 0])) q2 (.lst [])) q3 (.lst [])) T (.tup [.ref q1, .ref q2, .ref q3, .int 1])) q4 (.lst [.ref T]) q4 = some (.lst [.ref T]) := upd_same
    generalize upd (upd (upd (upd (upd H6 q1 _) q2 _) q3 _) T _) q4 _ = G at *
    refine ⟨a, q4, us, _, rfl, rfl, e5 _ _ hU6, g5, ?_, fun q5 hq5 => ?_⟩
    · exact Nat.le_trans (show _ ≤ 8 by rw [hul]; simp; omega) (by decide)
    have E6 := Same.new (o := .lst (us ++ [.ref T])) hq5
    obtain ⟨us', hU', hul', hUR'⟩ := hA6
    rw [hU6] at hU'
    cases hU'
    have it : Items (fun b v => RB b (upd G q5 (.lst (us ++ [.ref T]))) v) (us ++ [.ref T]) (s' ++ [⟨[0], [], [], 1⟩]) :=
      Items.app ⟨hul, fun j b v x y => (hUR' j b v x y).mono (e5.trans E6)⟩ (.one ⟨T, q1, q2, q3, rfl, E6 _ _ g4, E6 _ _ g1, ⟨[], E6 _ _ g2, rfl, fun i p v h => by simp at h⟩, ⟨[], E6 _ _ g3, rfl, fun i p v h => by simp at h⟩⟩)
    have hSS : IsS H6 a s' := ⟨us, hU6, hul, hUR'⟩
    refine ⟨a, q5, s', s' ++ [⟨[0], [], [], 1⟩], rfl, hSS.mono (e5.trans E6), hV.vs, ⟨_, upd_same, it.1, it.2⟩, av, fun p hp _ => ad p hp, fun H7 e7 => ?_⟩
    rw [an, if_neg (by omega), show min (tot (boS s')) (tot (boS s') + 1) = tot (boS s') by omega]
    have e07 := (e5.trans E6).trans e7
    refine ⟨_, rfl, a, s', rfl, hSS.mono e07, hV.vs, fun H8 e8 => ⟨rfl, ?_⟩⟩
    show Q (V.bl (decide (vn _ = vn _))) H8
    rw [decide_eq_true rfl]
    exact k H8 (((sb1.trans sb2).trans (sb24.trans sb46)).trans (Same.but (e07.trans e8)))
end HB
namespace HB
open PySem PySem.Spec PyProof.Rows L2
def sp_law (K : PySem.W.Frag) : Sp := fun vs H Q _ => ∃ (a : Addr) (ks : List Int), vs = [.ref a] ∧ SqL K H a (ks.map V.int) ∧ ∀ H', Same H H' → Q (.bl true) H'
theorem sc_law : FnScope ["_law_script", "_law_cells", "_law_k", "_law_cell"] ["_law_script"] (defScope s_law) := C8.fnScope_by (by decide +kernel)
theorem fn_law {P : Program} {w : World} {K : PySem.W.Frag} {mg : Str → Option Value} (t : Tx K mg) : ∃ fd, (∀ (s : Shared) (v : Value), BindsTo s fd ⟨[v], []⟩ [("_law_script", v)]) ∧ ∀ base : Heap, FnOk P w K mg base CX0 11 (He.ga K "law") fd ["_law_script"] (sp_law K) := by
  obtain ⟨fd, F⟩ := t.f_law
  have nd := sc_law.nd
  have b := FunD.bindsA (ps := ["_law_script"]) F fun _ _ _ _ _ _ us hl => match us, hl with | [_], _ => rfl
  refine ⟨fd, fun s v => b s [v] rfl, fun base => F.ok sc_law (fun vs H Q E h => ?_) (fun cdv A outer s H vs Q E hr h => ?_)⟩
  · obtain ⟨a, ks, rfl, hL, k⟩ := h
    rfl
  · obtain ⟨a, ks, rfl, hL, k⟩ := h
    have hu := hu_of hr
    have hu64 := hu64_of hr
    refine ⟨_, PSs.nox (pss_cons (ps_set (i := 1) nd rfl (Or.inl rfl) (pe_slice sl_list (pe_op op_cat (pe_slice sl_list (pv 0) po_none (po_some pe_int)) (pe_lst (pa_cons pe_int pa_nil))) po_none (po_some (pe_callB (call_max2 rfl) (by rfl) t.free_max (by decide +kernel) (pa_cons pe_int (pa_cons (pe_callB (call_min2 rfl) (by rfl) t.free_min (by decide +kernel) (pa_cons pe_int (pa_cons (pe_callB call_len_seq (by rfl) t.free_len (by decide +kernel) (pa_cons (pv 0) pa_nil)) pa_nil))) pa_nil))))))
        (pss_one (ps_ret (pe_cmpR (op_eqD hu64) (pe_lc (own := [("_law_k", 2), ("_law_cell", 3)]) (g := (gTup K 2 (gCons (gName 2) (gCons (gName 3) gNil)))) (tt := (tNot (tB (tCall sp_law_holds [] E0 (tCons (tCall sp_law_stream [] E0 (tCons (tVar 3) (tCons (tVar 2) tNil))) tNil))))) (te := (tVar 2)) rfl nd  (pi_enum (by rfl) t.free_enumerate (pa_cons (pv 1) pa_nil)) (blkOk_by (by kernel_rfl)) (fun _ _ _ _ _ => (pg_tup rfl (pgs_cons (pg_name (i := 2) nd rfl (Or.inl rfl)) (pgs_cons (pg_name (i := 3) nd rfl (Or.inl rfl)) pgs_nil)))) (fun _ _ _ _ _ => (pts_one (pt_not (pt_val (C8.pe_c (c_law_holds t) hr (by decide) rfl (pa_cons (C8.pe_c (c_law_stream t) hr (by decide) rfl (pa_cons (pv 3) (pa_cons (pv 2) pa_nil))) pa_nil)))))) (fun _ _ _ _ _ => (pv 2))) (pe_lst pa_nil) (nomark _))))), ?_⟩
    refine ⟨_, rfl, _, rfl, a, _, rfl, hL, fun p1 hp1 => ?_⟩
    have ec1 : cutV (ks.map V.int) none (some ((6 : Nat) : Int)) = (ks.take 6).map V.int := by rw [cut_to, List.map_take]
    rw [show cutV (ks.map V.int) none (some 6) = (ks.take 6).map V.int from ec1]
    have E1 := Same.new (o := .lst ((ks.take 6).map V.int)) hp1
    refine ⟨by show 1 ≤ sizeLine; decide, fun p2 hp2 => ?_⟩
    have E2 := Same.new (o := .lst [V.int 0]) hp2
    refine ⟨p1, p2, _, _, rfl, rfl, E2 _ _ upd_same, upd_same, ?_, fun p3 hp3 => ?_⟩
    · rw [List.length_map, List.length_take]
      exact Nat.le_trans (show _ ≤ 7 by simp; omega) (by decide)
    have e3' : (ks.take 6).map V.int ++ [V.int 0] = (ks.take 6 ++ [0]).map V.int := by rw [List.map_append]; rfl
    rw [e3']
    have E3 := Same.new (o := .lst ((ks.take 6 ++ [0]).map V.int)) hp3
    have e3 := (E1.trans E2).trans E3
    refine ⟨_, rfl, a, _, rfl, .inl (e3.seq hL), _, _, rfl, _, _, rfl, _, rfl, p3, _, rfl, sl upd_same, fun p4 hp4 => ?_⟩
    rw [List.length_map]
    have em : (if (if ((ks.length : Nat) : Int) < 6 then ((ks.length : Nat) : Int) else 6) > 1 then (if ((ks.length : Nat) : Int) < 6 then ((ks.length : Nat) : Int) else 6) else 1) = ((max 1 (min 6 ks.length) : Nat) : Int) := by
      split <;> split <;> omega
    rw [em, cut_to, ← List.map_take]
    have l7 : ((ks.take 6 ++ [0]).take (max 1 (min 6 ks.length))).length ≤ 6 := by
      rw [List.length_take]
      omega
    generalize (ks.take 6 ++ [0]).take (max 1 (min 6 ks.length)) = cs at *
    have E4 := Same.new (o := .lst (cs.map V.int)) hp4
    have e4 := e3.trans E4
    have h4 : upd _ p4 (.lst (cs.map V.int)) p4 = some (.lst (cs.map V.int)) := upd_same (H := (upd (upd (upd H p1 (.lst ((ks.take 6).map V.int))) p2 (.lst [V.int 0])) p3 (.lst ((ks.take 6 ++ [0]).map V.int))))
    generalize upd (upd (upd (upd H p1 _) p2 _) p3 _) p4 _ = G at *
    refine ⟨_, rfl, p4, _, rfl, sl h4, fun D hD => ?_⟩
    refine lc_val walk_enum (fun _ => none) (by rw [List.length_map]; omega) hD (fun H' e => sl (e _ _ h4)) (fun i x H2 H3 Ky Kn hi e y ky kn => ?_) fun H5 e5 hl => ?_
    · obtain ⟨T, y, z, rfl, hT, rfl, hy, hz⟩ := y
      cases hy
      have hz : (cs.map V.int)[i]? = some z := hz
      rw [List.getElem?_map] at hz
      obtain ⟨c, hc, rfl⟩ := Option.map_eq_some_iff.mp hz
      rw [List.length_map] at hi
      refine ⟨Same.new hT, T, _, rfl, SqT.of upd_same, rfl, _, _, rfl, _, _, rfl, rfl, rfl, ?_⟩
      refine ⟨_, rfl, _, rfl, c, i, rfl, by omega, fun st H4 e4 hst hS => ⟨st, rfl, hS, fun H5 sb => ⟨true, rfl, iteF (kn H5 (fun p o h => ?_) rfl)⟩⟩⟩
      exact sb p o (ne_of_none h hst) (e4 p o h)
    have hnil : (List.range (cs.map V.int).length).filterMap (fun _ => (none : Option V)) = [] := by
      generalize (cs.map V.int).length = n
      induction n with
      | zero => rfl
      | succ n ih => rw [fm_snoc, ih]; rfl
    rw [hnil] at hl
    refine ⟨Nat.zero_le _, fun q hq => ?_⟩
    have eq := Same.new (o := .lst []) hq
    refine ⟨.list (HB.nd []), .list (HB.nd []), nd_dp (show IsL _ D [] from eq _ _ hl), nd_dp (show IsL _ q [] from upd_same), nd_shaped _, nd_shaped _, ?_⟩
    rw [nd_eqv, decide_eq_true rfl]
    exact k _ ((e4.trans e5).trans eq)
end HB
/-! the end -/
namespace HB
open PySem PySem.Spec PyProof.Rows L2
theorem tx_of {K : PySem.W.Frag} {h : Heap} {mg : Str → Option Value} (X : K.In h) (G : h.Ns mainGlobals mg) (c : He.SaysD fa fn K) (b : bcB K = true) : Tx K mg := by
  obtain ⟨b1, b2⟩ := He.ba b
  exact ⟨c, ⟨h, X, G⟩, He.eqO_ok b1, of_decide_eq_true b2⟩
end HB
open PySem PySem.W PySem.Calls PyProof.Rows
theorem PySem.Challenge.cw_howfarback_k62_whole_repeated_blocks_holds : PySem.Challenge.rw_howfarback_k62_whole_repeated_blocks.Holds := by
  w_on; o_law
  refine HandSHeadRun.head_any (r := HB.R) (q := view HB.R.prog [76]) (H := HB.hk) (ob := HB.ob) (M := 16000) (loose := HB.loose) (d := HandSHeadRun.topDef HB.R.prog 76) (kwd := []) HB.ob_eq
    (by kernel_rfl) (fun s => by kernel_rfl) HB.run (by kernel_rfl) (by kernel_rfl) (by kernel_rfl) (by rfl) (by first | assumption | decide +kernel) (by decide +kernel) ⟨rfl, rfl, rfl, rfl, rfl, by decide +kernel⟩ ?hw ?hc
  case hw => w_witness2
  case hc =>
    refine L2.walk_ofE (l := PySem.Challenge.rw_howfarback_k62_whole_repeated_blocks) (n := 63) (k := 11) (x := "_law_script") (CX := L2.CX0) rfl (by decide) (by kernel_rfl) ⟨rfl, by decide, by decide⟩ ?F (fun _ _ _ _ z => z)
    intro w mg fa h Y G hmg0
    obtain ⟨K, KX, c, hb⟩ := Y
    have t : HB.Tx K mg := HB.tx_of KX G c hb
    have hmg : mg ("law" : PySem.Str) = some (.ref fa) := by
      have e : (HandSHeadRun.topDef HB.R.prog 76).name = ("law" : PySem.Str) := by kernel_rfl
      rw [← e]
      exact hmg0
    have e := hmg.symm.trans t.glo_law
    cases e
    obtain ⟨fd, hB, hF⟩ := HB.fn_law (P := PySem.Challenge.rw_howfarback_k62_whole_repeated_blocks.prog) (w := w) t
    exact ⟨K, fd, HB.sp_law K, KX, hB, fun H a ns hl _ hS => ⟨a, ns, rfl, hS, fun _ _ => rfl⟩, fun base _ _ => hF base⟩
