import PyProof.Rows.All
import Wide.All
import OpenK.AllK
import Wide.FinOn
import KE.KStateDown
import Lean
import HandS.Base
import HandS.Call
import HandS.Ends
import HandS.More
import HandS.Words
import HandS.WordsExc
import HandS.Defaults
import HandS.Head0
import HandS.Head1
import HandS.Head2
import HandS.HeadEnd
import HandS.HeadHook1
import HandS.HeadHook2
import HandS.ForMost
import HandS.Walk
import HandS.Wide
import HandS.IsInst
import HandS.DictComp
import HandS.DictTup
import HandS.Deep
import HandS.TupMul
import HandS.TupAny
import HandS.Remove
import HandS.StrMore
import HandS.SortInts
import HandS.Zip
import HandS.Conv
import HandS.Lambda
import KE.GoesEnum
import KE.GoesMore
import KE.SortData
import KE.KSortTup
import PyProof.ListStr
import PyProof.CollectStr
import HandS.WordsDict
import PyProof.WalkInts
import PyProof.StrWalks
import KE.KDictSum
import KE.KEqDeep
import KE.KDictZip
import HandS.HeadWalk
import HandS.EndTab
import KE.KNestM
import PySem.Challenge.RW_webreckon_k76_whole_cuts_ways_and_two_si
set_option Elab.async false
set_option linter.all false
set_option maxRecDepth 100000
set_option maxHeartbeats 0
namespace Wr
open PySem PySem.Spec PyProof.Rows L2

/-! the text: each def by its place -/
def topS (i : Nat) : Stmt := PySem.Challenge.pw_webreckon_k76_whole_cuts_ways_and_two_si.main.body.getD i (.Pass ⟨0, 0, 0, 0⟩)
abbrev s_is_integer : Stmt := topS 17
abbrev s_is_between : Stmt := topS 18
abbrev s_first_wrong : Stmt := topS 19
abbrev s_common_divisor : Stmt := topS 20
abbrev s_fraction : Stmt := topS 21
abbrev s_minus : Stmt := topS 22
abbrev s_times : Stmt := topS 23
abbrev s_are_letters : Stmt := topS 26
abbrev s_are_places : Stmt := topS 27
abbrev s_is_tie : Stmt := topS 28
abbrev s_wrong_tie : Stmt := topS 29
abbrev s_Web_init : Stmt := inClass (topS 30) 0
abbrev s_Web_len : Stmt := inClass (topS 30) 2
abbrev s_check_web : Stmt := topS 31
abbrev s_is_place : Stmt := topS 32
abbrev s_check_place : Stmt := topS 33
abbrev s_herds_of : Stmt := topS 34
abbrev s_wrong_in : Stmt := topS 36
abbrev s_check_lot : Stmt := topS 37
abbrev s_every_tie : Stmt := topS 38
abbrev s_ties_of : Stmt := topS 39
abbrev s_pieces_of : Stmt := topS 40
abbrev s_rank_of : Stmt := topS 41
abbrev s_spare_of : Stmt := topS 42
abbrev s_without : Stmt := topS 43
abbrev s_is_free_lot : Stmt := topS 44
abbrev s_is_round : Stmt := topS 45
abbrev s_ends_at : Stmt := topS 46
abbrev s_is_even_lot : Stmt := topS 47
abbrev s_herd_lot : Stmt := topS 48
abbrev s_all_herds : Stmt := topS 49
abbrev s_every_lot : Stmt := topS 50
abbrev s_two_sided_lots : Stmt := topS 51
abbrev s_check_both : Stmt := topS 52
abbrev s_pieces : Stmt := topS 53
abbrev s_is_two_sided : Stmt := topS 54
abbrev s_all_rings : Stmt := topS 55
abbrev s_rings : Stmt := topS 56
abbrev s_came_by : Stmt := topS 58
abbrev s_lot_to : Stmt := topS 59
abbrev s_filled : Stmt := topS 61
abbrev s_both_ways : Stmt := topS 62
abbrev s_carried_by : Stmt := topS 63
abbrev s_width_of : Stmt := topS 64
abbrev s_amount_of : Stmt := topS 65
abbrev s_ones : Stmt := topS 66
abbrev s_apart_counted : Stmt := topS 67
abbrev s_line_along : Stmt := topS 68
abbrev s_apart_ways : Stmt := topS 69
abbrev s_check_rooms : Stmt := topS 70
abbrev s_check_unlike : Stmt := topS 71
abbrev s_check_ends : Stmt := topS 72
abbrev s_joined_of : Stmt := topS 73
abbrev s_amount : Stmt := topS 74
abbrev s_narrowest : Stmt := topS 75
abbrev s_count_apart : Stmt := topS 76
abbrev s_apart : Stmt := topS 77
abbrev s_joined_by : Stmt := topS 78
abbrev s_least_herds : Stmt := topS 79
abbrev s_power : Stmt := topS 81
abbrev s_counts_of : Stmt := topS 83
abbrev s_summed_at : Stmt := topS 84
abbrev s_dyes_counted : Stmt := topS 85
abbrev s_count_dyes : Stmt := topS 86
abbrev s_least_dyes : Stmt := topS 87
abbrev s_laplacian : Stmt := topS 89
abbrev s_shared_out : Stmt := topS 90
abbrev s_solved : Stmt := topS 91
abbrev s_reduced : Stmt := topS 92
abbrev s_heights_solved : Stmt := topS 94
abbrev s_pull_heights : Stmt := topS 95
abbrev s_pull_of : Stmt := topS 96
abbrev s_check_two : Stmt := topS 97
abbrev s_pull : Stmt := topS 98
abbrev s_law_bag : Stmt := topS 100
abbrev s_law_draw : Stmt := topS 101
abbrev s_law_one : Stmt := topS 102
abbrev s_law_web : Stmt := topS 103
abbrev s_law_made : Stmt := topS 104
abbrev s_law_width : Stmt := topS 105
abbrev s_law_herds : Stmt := topS 106
abbrev s_law_right : Stmt := topS 107
abbrev s_law : Stmt := topS 108
def d_is_integer : He.DefD := ⟨("is_integer", none), "is_integer", "is_integer", defArgs s_is_integer, defBody s_is_integer, defScope s_is_integer, [], []⟩
def d_is_between : He.DefD := ⟨("is_between", none), "is_between", "is_between", defArgs s_is_between, defBody s_is_between, defScope s_is_between, [], []⟩
def d_first_wrong : He.DefD := ⟨("first_wrong", none), "first_wrong", "first_wrong", defArgs s_first_wrong, defBody s_first_wrong, defScope s_first_wrong, [], []⟩
def d_common_divisor : He.DefD := ⟨("common_divisor", none), "common_divisor", "common_divisor", defArgs s_common_divisor, defBody s_common_divisor, defScope s_common_divisor, [], []⟩
def d_fraction : He.DefD := ⟨("fraction", none), "fraction", "fraction", defArgs s_fraction, defBody s_fraction, defScope s_fraction, [], []⟩
def d_minus : He.DefD := ⟨("minus", none), "minus", "minus", defArgs s_minus, defBody s_minus, defScope s_minus, [], []⟩
def d_times : He.DefD := ⟨("times", none), "times", "times", defArgs s_times, defBody s_times, defScope s_times, [], []⟩
def d_are_letters : He.DefD := ⟨("are_letters", none), "are_letters", "are_letters", defArgs s_are_letters, defBody s_are_letters, defScope s_are_letters, [], []⟩
def d_are_places : He.DefD := ⟨("are_places", none), "are_places", "are_places", defArgs s_are_places, defBody s_are_places, defScope s_are_places, [], []⟩
def d_is_tie : He.DefD := ⟨("is_tie", none), "is_tie", "is_tie", defArgs s_is_tie, defBody s_is_tie, defScope s_is_tie, [], []⟩
def d_wrong_tie : He.DefD := ⟨("wrong_tie", none), "wrong_tie", "wrong_tie", defArgs s_wrong_tie, defBody s_wrong_tie, defScope s_wrong_tie, [], []⟩
def d_Web_init : He.DefD := ⟨("Web", some "__init__"), "__init__", "Web.__init__", defArgs s_Web_init, defBody s_Web_init, defScope s_Web_init, [], []⟩
def d_Web_len : He.DefD := ⟨("Web", some "__len__"), "__len__", "Web.__len__", defArgs s_Web_len, defBody s_Web_len, defScope s_Web_len, [], []⟩
def d_check_web : He.DefD := ⟨("check_web", none), "check_web", "check_web", defArgs s_check_web, defBody s_check_web, defScope s_check_web, [], []⟩
def d_is_place : He.DefD := ⟨("is_place", none), "is_place", "is_place", defArgs s_is_place, defBody s_is_place, defScope s_is_place, [], []⟩
def d_check_place : He.DefD := ⟨("check_place", none), "check_place", "check_place", defArgs s_check_place, defBody s_check_place, defScope s_check_place, [], []⟩
def d_herds_of : He.DefD := ⟨("herds_of", none), "herds_of", "herds_of", defArgs s_herds_of, defBody s_herds_of, defScope s_herds_of, [], []⟩
def d_wrong_in : He.DefD := ⟨("wrong_in", none), "wrong_in", "wrong_in", defArgs s_wrong_in, defBody s_wrong_in, defScope s_wrong_in, [], []⟩
def d_check_lot : He.DefD := ⟨("check_lot", none), "check_lot", "check_lot", defArgs s_check_lot, defBody s_check_lot, defScope s_check_lot, [], []⟩
def d_every_tie : He.DefD := ⟨("every_tie", none), "every_tie", "every_tie", defArgs s_every_tie, defBody s_every_tie, defScope s_every_tie, [], []⟩
def d_ties_of : He.DefD := ⟨("ties_of", none), "ties_of", "ties_of", defArgs s_ties_of, defBody s_ties_of, defScope s_ties_of, [], []⟩
def d_pieces_of : He.DefD := ⟨("pieces_of", none), "pieces_of", "pieces_of", defArgs s_pieces_of, defBody s_pieces_of, defScope s_pieces_of, [], []⟩
def d_rank_of : He.DefD := ⟨("rank_of", none), "rank_of", "rank_of", defArgs s_rank_of, defBody s_rank_of, defScope s_rank_of, [], []⟩
def d_spare_of : He.DefD := ⟨("spare_of", none), "spare_of", "spare_of", defArgs s_spare_of, defBody s_spare_of, defScope s_spare_of, [], []⟩
def d_without : He.DefD := ⟨("without", none), "without", "without", defArgs s_without, defBody s_without, defScope s_without, [], []⟩
def d_is_free_lot : He.DefD := ⟨("is_free_lot", none), "is_free_lot", "is_free_lot", defArgs s_is_free_lot, defBody s_is_free_lot, defScope s_is_free_lot, [], []⟩
def d_is_round : He.DefD := ⟨("is_round", none), "is_round", "is_round", defArgs s_is_round, defBody s_is_round, defScope s_is_round, [], []⟩
def d_ends_at : He.DefD := ⟨("ends_at", none), "ends_at", "ends_at", defArgs s_ends_at, defBody s_ends_at, defScope s_ends_at, [], []⟩
def d_is_even_lot : He.DefD := ⟨("is_even_lot", none), "is_even_lot", "is_even_lot", defArgs s_is_even_lot, defBody s_is_even_lot, defScope s_is_even_lot, [], []⟩
def d_herd_lot : He.DefD := ⟨("herd_lot", none), "herd_lot", "herd_lot", defArgs s_herd_lot, defBody s_herd_lot, defScope s_herd_lot, [], []⟩
def d_all_herds : He.DefD := ⟨("all_herds", none), "all_herds", "all_herds", defArgs s_all_herds, defBody s_all_herds, defScope s_all_herds, [], []⟩
def d_every_lot : He.DefD := ⟨("every_lot", none), "every_lot", "every_lot", defArgs s_every_lot, defBody s_every_lot, defScope s_every_lot, [], []⟩
def d_two_sided_lots : He.DefD := ⟨("two_sided_lots", none), "two_sided_lots", "two_sided_lots", defArgs s_two_sided_lots, defBody s_two_sided_lots, defScope s_two_sided_lots, [], []⟩
def d_check_both : He.DefD := ⟨("check_both", none), "check_both", "check_both", defArgs s_check_both, defBody s_check_both, defScope s_check_both, [], []⟩
def d_pieces : He.DefD := ⟨("pieces", none), "pieces", "pieces", defArgs s_pieces, defBody s_pieces, defScope s_pieces, [], []⟩
def d_is_two_sided : He.DefD := ⟨("is_two_sided", none), "is_two_sided", "is_two_sided", defArgs s_is_two_sided, defBody s_is_two_sided, defScope s_is_two_sided, [], []⟩
def d_all_rings : He.DefD := ⟨("all_rings", none), "all_rings", "all_rings", defArgs s_all_rings, defBody s_all_rings, defScope s_all_rings, [], []⟩
def d_rings : He.DefD := ⟨("rings", none), "rings", "rings", defArgs s_rings, defBody s_rings, defScope s_rings, [], []⟩
def d_came_by : He.DefD := ⟨("came_by", none), "came_by", "came_by", defArgs s_came_by, defBody s_came_by, defScope s_came_by, [], []⟩
def d_lot_to : He.DefD := ⟨("lot_to", none), "lot_to", "lot_to", defArgs s_lot_to, defBody s_lot_to, defScope s_lot_to, [], []⟩
def d_filled : He.DefD := ⟨("filled", none), "filled", "filled", defArgs s_filled, defBody s_filled, defScope s_filled, [], []⟩
def d_both_ways : He.DefD := ⟨("both_ways", none), "both_ways", "both_ways", defArgs s_both_ways, defBody s_both_ways, defScope s_both_ways, [], []⟩
def d_carried_by : He.DefD := ⟨("carried_by", none), "carried_by", "carried_by", defArgs s_carried_by, defBody s_carried_by, defScope s_carried_by, [], []⟩
def d_width_of : He.DefD := ⟨("width_of", none), "width_of", "width_of", defArgs s_width_of, defBody s_width_of, defScope s_width_of, [], []⟩
def d_amount_of : He.DefD := ⟨("amount_of", none), "amount_of", "amount_of", defArgs s_amount_of, defBody s_amount_of, defScope s_amount_of, [], []⟩
def d_ones : He.DefD := ⟨("ones", none), "ones", "ones", defArgs s_ones, defBody s_ones, defScope s_ones, [], []⟩
def d_apart_counted : He.DefD := ⟨("apart_counted", none), "apart_counted", "apart_counted", defArgs s_apart_counted, defBody s_apart_counted, defScope s_apart_counted, [], []⟩
def d_line_along : He.DefD := ⟨("line_along", none), "line_along", "line_along", defArgs s_line_along, defBody s_line_along, defScope s_line_along, [], []⟩
def d_apart_ways : He.DefD := ⟨("apart_ways", none), "apart_ways", "apart_ways", defArgs s_apart_ways, defBody s_apart_ways, defScope s_apart_ways, [], []⟩
def d_check_rooms : He.DefD := ⟨("check_rooms", none), "check_rooms", "check_rooms", defArgs s_check_rooms, defBody s_check_rooms, defScope s_check_rooms, [], []⟩
def d_check_unlike : He.DefD := ⟨("check_unlike", none), "check_unlike", "check_unlike", defArgs s_check_unlike, defBody s_check_unlike, defScope s_check_unlike, [], []⟩
def d_check_ends : He.DefD := ⟨("check_ends", none), "check_ends", "check_ends", defArgs s_check_ends, defBody s_check_ends, defScope s_check_ends, [], []⟩
def d_joined_of : He.DefD := ⟨("joined_of", none), "joined_of", "joined_of", defArgs s_joined_of, defBody s_joined_of, defScope s_joined_of, [], []⟩
def d_amount : He.DefD := ⟨("amount", none), "amount", "amount", defArgs s_amount, defBody s_amount, defScope s_amount, [], []⟩
def d_narrowest : He.DefD := ⟨("narrowest", none), "narrowest", "narrowest", defArgs s_narrowest, defBody s_narrowest, defScope s_narrowest, [], []⟩
def d_count_apart : He.DefD := ⟨("count_apart", none), "count_apart", "count_apart", defArgs s_count_apart, defBody s_count_apart, defScope s_count_apart, [], []⟩
def d_apart : He.DefD := ⟨("apart", none), "apart", "apart", defArgs s_apart, defBody s_apart, defScope s_apart, [], []⟩
def d_joined_by : He.DefD := ⟨("joined_by", none), "joined_by", "joined_by", defArgs s_joined_by, defBody s_joined_by, defScope s_joined_by, [], []⟩
def d_least_herds : He.DefD := ⟨("least_herds", none), "least_herds", "least_herds", defArgs s_least_herds, defBody s_least_herds, defScope s_least_herds, [], []⟩
def d_power : He.DefD := ⟨("power", none), "power", "power", defArgs s_power, defBody s_power, defScope s_power, [], []⟩
def d_counts_of : He.DefD := ⟨("counts_of", none), "counts_of", "counts_of", defArgs s_counts_of, defBody s_counts_of, defScope s_counts_of, [], []⟩
def d_summed_at : He.DefD := ⟨("summed_at", none), "summed_at", "summed_at", defArgs s_summed_at, defBody s_summed_at, defScope s_summed_at, [], []⟩
def d_dyes_counted : He.DefD := ⟨("dyes_counted", none), "dyes_counted", "dyes_counted", defArgs s_dyes_counted, defBody s_dyes_counted, defScope s_dyes_counted, [], []⟩
def d_count_dyes : He.DefD := ⟨("count_dyes", none), "count_dyes", "count_dyes", defArgs s_count_dyes, defBody s_count_dyes, defScope s_count_dyes, [], []⟩
def d_least_dyes : He.DefD := ⟨("least_dyes", none), "least_dyes", "least_dyes", defArgs s_least_dyes, defBody s_least_dyes, defScope s_least_dyes, [], []⟩
def d_laplacian : He.DefD := ⟨("laplacian", none), "laplacian", "laplacian", defArgs s_laplacian, defBody s_laplacian, defScope s_laplacian, [], []⟩
def d_shared_out : He.DefD := ⟨("shared_out", none), "shared_out", "shared_out", defArgs s_shared_out, defBody s_shared_out, defScope s_shared_out, [], []⟩
def d_solved : He.DefD := ⟨("solved", none), "solved", "solved", defArgs s_solved, defBody s_solved, defScope s_solved, [], []⟩
def d_reduced : He.DefD := ⟨("reduced", none), "reduced", "reduced", defArgs s_reduced, defBody s_reduced, defScope s_reduced, [], []⟩
def d_heights_solved : He.DefD := ⟨("heights_solved", none), "heights_solved", "heights_solved", defArgs s_heights_solved, defBody s_heights_solved, defScope s_heights_solved, [], []⟩
def d_pull_heights : He.DefD := ⟨("pull_heights", none), "pull_heights", "pull_heights", defArgs s_pull_heights, defBody s_pull_heights, defScope s_pull_heights, [], []⟩
def d_pull_of : He.DefD := ⟨("pull_of", none), "pull_of", "pull_of", defArgs s_pull_of, defBody s_pull_of, defScope s_pull_of, [], []⟩
def d_check_two : He.DefD := ⟨("check_two", none), "check_two", "check_two", defArgs s_check_two, defBody s_check_two, defScope s_check_two, [], []⟩
def d_pull : He.DefD := ⟨("pull", none), "pull", "pull", defArgs s_pull, defBody s_pull, defScope s_pull, [], []⟩
def d_law_bag : He.DefD := ⟨("_law_bag", none), "_law_bag", "_law_bag", defArgs s_law_bag, defBody s_law_bag, defScope s_law_bag, [], []⟩
def d_law_draw : He.DefD := ⟨("_law_draw", none), "_law_draw", "_law_draw", defArgs s_law_draw, defBody s_law_draw, defScope s_law_draw, [], []⟩
def d_law_one : He.DefD := ⟨("_law_one", none), "_law_one", "_law_one", defArgs s_law_one, defBody s_law_one, defScope s_law_one, [], []⟩
def d_law_web : He.DefD := ⟨("_law_web", none), "_law_web", "_law_web", defArgs s_law_web, defBody s_law_web, defScope s_law_web, [], []⟩
def d_law_made : He.DefD := ⟨("_law_made", none), "_law_made", "_law_made", defArgs s_law_made, defBody s_law_made, defScope s_law_made, [], []⟩
def d_law_width : He.DefD := ⟨("_law_width", none), "_law_width", "_law_width", defArgs s_law_width, defBody s_law_width, defScope s_law_width, [], []⟩
def d_law_herds : He.DefD := ⟨("_law_herds", none), "_law_herds", "_law_herds", defArgs s_law_herds, defBody s_law_herds, defScope s_law_herds, [], []⟩
def d_law_right : He.DefD := ⟨("_law_right", none), "_law_right", "_law_right", defArgs s_law_right, defBody s_law_right, defScope s_law_right, [], []⟩
def d_law : He.DefD := ⟨("law", none), "law", "law", defArgs s_law, defBody s_law, defScope s_law, [], []⟩
def fn0 : List He.DefD := [d_is_integer, d_is_between, d_first_wrong, d_common_divisor, d_fraction, d_minus, d_times, d_are_letters, d_are_places, d_is_tie, d_wrong_tie, d_Web_init, d_Web_len, d_check_web, d_is_place, d_check_place, d_herds_of, d_wrong_in, d_check_lot, d_every_tie, d_ties_of, d_pieces_of, d_rank_of, d_spare_of, d_without, d_is_free_lot, d_is_round, d_ends_at, d_is_even_lot, d_herd_lot]
def fn1 : List He.DefD := [d_all_herds, d_every_lot, d_two_sided_lots, d_check_both, d_pieces, d_is_two_sided, d_all_rings, d_rings, d_came_by, d_lot_to, d_filled, d_both_ways, d_carried_by, d_width_of, d_amount_of, d_ones, d_apart_counted, d_line_along, d_apart_ways, d_check_rooms, d_check_unlike, d_check_ends, d_joined_of, d_amount, d_narrowest, d_count_apart, d_apart, d_joined_by, d_least_herds, d_power]
def fn2 : List He.DefD := [d_counts_of, d_summed_at, d_dyes_counted, d_count_dyes, d_least_dyes, d_laplacian, d_shared_out, d_solved, d_reduced, d_heights_solved, d_pull_heights, d_pull_of, d_check_two, d_pull, d_law_bag, d_law_draw, d_law_one, d_law_web, d_law_made, d_law_width, d_law_herds, d_law_right, d_law]
def fn : List He.DefD := fn0 ++ (fn1 ++ (fn2))
def fa1 : List He.Fa := [.glo "Web", .free "len", .free "isinstance", .free "list", .free "tuple", .free "sorted", .free "sum", .free "all", .free "min", .free "max", .free "abs", .free "range", .free "enumerate", .free "zip", .free "int", .free "str", .free "dict", .free "bool", .int "MOST_PLACES" 7, .int "MOST_TIES" 11, .int "MOST_ROOM" 1000000000000, .int "MOST_HEAP" 1000000, .str "LETTERS" "abcdefgh", .cls "Web", .noat "Web" "places", .noat "Web" "ties", .mkr "Web", .meth "Web" "__len__"]
def fa : List He.Fa := fa1 ++ fn.filterMap fun d => match d.at_.2 with
  | none => some (.glo d.at_.1)
  | some _ => none
def nm0 : List PySem.Str := ["ShapeError", "InvalidPlaces", "InvalidTies", "InvalidText", "InvalidLot", "InvalidNumber", "InvalidRooms", "NotAWeb", "QuestionError", "UnknownPlace", "Refused", "MOST_PLACES", "MOST_TIES", "MOST_ROOM", "MOST_HEAP", "is_integer", "is_between", "first_wrong", "common_divisor", "fraction", "minus", "times", "LETTERS", "are_letters", "are_places", "is_tie", "wrong_tie", "Web", "check_web", "is_place"]
def nm1 : List PySem.Str := ["check_place", "herds_of", "wrong_in", "check_lot", "every_tie", "ties_of", "pieces_of", "rank_of", "spare_of", "without", "is_free_lot", "is_round", "ends_at", "is_even_lot", "herd_lot", "all_herds", "every_lot", "two_sided_lots", "check_both", "pieces", "is_two_sided", "all_rings", "rings", "came_by", "lot_to", "filled", "both_ways", "carried_by", "width_of", "amount_of"]
def nm2 : List PySem.Str := ["ones", "apart_counted", "line_along", "apart_ways", "check_rooms", "check_unlike", "check_ends", "joined_of", "amount", "narrowest", "count_apart", "apart", "joined_by", "least_herds", "power", "counts_of", "summed_at", "dyes_counted", "count_dyes", "least_dyes", "laplacian", "shared_out", "solved", "reduced", "heights_solved", "pull_heights", "pull_of", "check_two", "pull", "_law_bag"]
def nm3 : List PySem.Str := ["_law_draw", "_law_one", "_law_web", "_law_made", "_law_width", "_law_herds", "_law_right"]
def nm : List PySem.Str := nm0 ++ nm1 ++ nm2 ++ nm3
/-! what the top has left, by names -/
structure Xt (K : PySem.W.Frag) : Prop where
  iA : PySem.W.findIn K (.ref (He.ga K "Web")) "__class__" = some (some (.builtin "object.__class__"))
  iN : PySem.W.specialIn K (.builtin "object.__class__") "__get__" = some (some (.builtin "getset_descriptor.__get__"))
  iT : PySem.W.takesIn K (.builtin "object.__class__") = some true
  iM : PySem.W.mroIn K (He.ga K "Web") (.type "object") = some true
structure Tx (K : PySem.W.Frag) (mg : Str → Option Value) (C : Addr) : Prop where
  fns : ∀ (i : Nat) (d : He.DefD), fn[i]? = some d → ∃ fd, FunD K d.name d.qual d.params d.body d.scope (d.dvs K) (d.kws K) (He.fAd K d.at_) fd
  glo : ∀ (i : Nat) (d : He.DefD), fn[i]? = some d → d.at_.2 = none → mg d.at_.1 = some (.ref (He.fAd K d.at_))
  web : mg "Web" = some (.ref C)
  cl : Cls K C
  nP : NoAttr K C "places"
  nT : NoAttr K C "ties"
  mkw : Mk K C (He.ma K C "__init__")
  ml : Meth K C "__len__" (He.ma K C "__len__")
  eC : C = He.ga K "Web"
  iA : PySem.W.findIn K (.ref C) "__class__" = some (some (.builtin "object.__class__"))
  iN : PySem.W.specialIn K (.builtin "object.__class__") "__get__" = some (some (.builtin "getset_descriptor.__get__"))
  iT : PySem.W.takesIn K (.builtin "object.__class__") = some true
  iM : PySem.W.mroIn K C (.type "object") = some true
  xlen : mg "len" = none
  xisinstance : mg "isinstance" = none
  xlist : mg "list" = none
  xtuple : mg "tuple" = none
  xsorted : mg "sorted" = none
  xsum : mg "sum" = none
  xall : mg "all" = none
  xmin : mg "min" = none
  xmax : mg "max" = none
  xabs : mg "abs" = none
  xrange : mg "range" = none
  xenumerate : mg "enumerate" = none
  xzip : mg "zip" = none
  xint : mg "int" = none
  xstr : mg "str" = none
  xdict : mg "dict" = none
  xbool : mg "bool" = none
  iMOST_PLACES : ∃ t, mg "MOST_PLACES" = some (.int 7 t)
  iMOST_TIES : ∃ t, mg "MOST_TIES" = some (.int 11 t)
  iMOST_ROOM : ∃ t, mg "MOST_ROOM" = some (.int 1000000000000 t)
  iMOST_HEAP : ∃ t, mg "MOST_HEAP" = some (.int 1000000 t)
  sLETTERS : ∃ t, mg "LETTERS" = some (.str "abcdefgh" t)
theorem Tx.of {K : PySem.W.Frag} {h : Heap} {mg : Str → Option Value} (X : K.In h) (G : h.Ns mainGlobals mg) (c : He.SaysD fa fn K) (x : Xt K) : Tx K mg (He.ga K "Web") where
  fns := fun i d hd => c.def_ i hd
  glo := fun i d hd hn => by
    have m : He.Fa.glo d.at_.1 ∈ fa := List.mem_append_right _ (List.mem_filterMap.mpr ⟨d, List.mem_of_getElem? hd, by rw [hn]⟩)
    obtain ⟨j, hj⟩ := List.getElem?_of_mem m
    have e : He.fAd K d.at_ = He.ga K d.at_.1 := by
      unfold He.fAd
      rw [hn]
    rw [e]
    exact He.glo_ok X G (c.fact j hj)
  web := He.glo_ok X G (c.fact 0 rfl)
  cl := He.cls_ok (c.fact 23 rfl)
  nP := He.noat_ok (c.fact 24 rfl)
  nT := He.noat_ok (c.fact 25 rfl)
  mkw := He.mkr_ok (c.fact 26 rfl)
  ml := He.meth_ok (c.fact 27 rfl)
  eC := rfl
  iA := x.iA
  iN := x.iN
  iT := x.iT
  iM := x.iM
  xlen := He.free_ok X G (c.fact 1 rfl)
  xisinstance := He.free_ok X G (c.fact 2 rfl)
  xlist := He.free_ok X G (c.fact 3 rfl)
  xtuple := He.free_ok X G (c.fact 4 rfl)
  xsorted := He.free_ok X G (c.fact 5 rfl)
  xsum := He.free_ok X G (c.fact 6 rfl)
  xall := He.free_ok X G (c.fact 7 rfl)
  xmin := He.free_ok X G (c.fact 8 rfl)
  xmax := He.free_ok X G (c.fact 9 rfl)
  xabs := He.free_ok X G (c.fact 10 rfl)
  xrange := He.free_ok X G (c.fact 11 rfl)
  xenumerate := He.free_ok X G (c.fact 12 rfl)
  xzip := He.free_ok X G (c.fact 13 rfl)
  xint := He.free_ok X G (c.fact 14 rfl)
  xstr := He.free_ok X G (c.fact 15 rfl)
  xdict := He.free_ok X G (c.fact 16 rfl)
  xbool := He.free_ok X G (c.fact 17 rfl)
  iMOST_PLACES := He.int_ok X G (c.fact 18 rfl)
  iMOST_TIES := He.int_ok X G (c.fact 19 rfl)
  iMOST_ROOM := He.int_ok X G (c.fact 20 rfl)
  iMOST_HEAP := He.int_ok X G (c.fact 21 rfl)
  sLETTERS := He.str_ok X G (c.fact 22 rfl)
end Wr
set_option maxHeartbeats 0
namespace Wr
open PySem PySem.Spec PyProof.Rows L2

abbrev R : PySem.W.OpenRow := PySem.W.OpenLaw.row PySem.Challenge.rw_webreckon_k76_whole_cuts_ways_and_two_si
/-! the addresses that are looked at: the module's names, their code, the class Web, its methods and their code -/
def refsA (g : Addr → Option Obj) (a : Addr) : List Addr := match g a with
  | some o => He.refsD o
  | none => []
def refsF (g : Addr → Option Obj) (as : List Addr) : List Addr := as.flatMap fun a => match g a with
  | some ⟨_, _, .func fd, _⟩ => He.refV fd.code
  | _ => []
def asW (g : Addr → Option Obj) : List Addr :=
  let l1 := refsA g mainGlobals
  let l2 := refsA g (He.ga (He.frG g [mainGlobals]) "Web")
  let l3 := l2.flatMap (refsA g)
  mainGlobals :: (l1 ++ (l2 ++ (l3 ++ (refsF g l1 ++ refsF g l3))))
/-! what is looked at beside: the code object of check_rooms, its table; how the class Web answers -/
def isBl (v : Option (Option Value)) (n : String) : Bool := match v with
  | some (some (.builtin m)) => m == n
  | _ => false
theorem isBl_ok {v : Option (Option Value)} {n : String} (h : isBl v n = true) : v = some (some (.builtin n)) := by
  unfold isBl at h
  split at h
  · rw [eq_of_beq h]
  · cases h
def isTr (v : Option Bool) : Bool := match v with
  | some b => b
  | none => false
theorem isTr_ok {v : Option Bool} (h : isTr v = true) : v = some true := by
  unfold isTr at h
  split at h
  · rw [h]
  · cases h
def xtB (K : PySem.W.Frag) : Bool := isBl (PySem.W.findIn K (.ref (He.ga K "Web")) "__class__") "object.__class__" && (isBl (PySem.W.specialIn K (.builtin "object.__class__") "__get__") "getset_descriptor.__get__" && (isTr (PySem.W.takesIn K (.builtin "object.__class__")) && isTr (PySem.W.mroIn K (He.ga K "Web") (.type "object"))))
theorem xtB_ok {K : PySem.W.Frag} (h : xtB K = true) : Xt K := by
  unfold xtB at h
  rw [Bool.and_eq_true, Bool.and_eq_true, Bool.and_eq_true] at h
  exact ⟨isBl_ok h.1, isBl_ok h.2.1, isTr_ok h.2.2.1, isTr_ok h.2.2.2⟩
def codeV (K : PySem.W.Frag) : Option Addr := match K.lookup (He.fAd K d_check_rooms.at_) with
  | some ⟨_, _, .func fd, _⟩ => (match fd.code with
    | .ref c => some c
    | _ => none)
  | _ => none
theorem codeV_ok {K : PySem.W.Frag} {c : Addr} (h : codeV K = some c) : ∃ (oc : Value) (od : Option Addr) (fd : FuncData) (osl : Array (Option Value)), K.lookup (He.fAd K d_check_rooms.at_) = some ⟨oc, od, .func fd, osl⟩ ∧ fd.code = .ref c := by
  unfold codeV at h
  split at h
  · rename_i oc od fd osl e
    split at h
    · rename_i c' e2
      rw [Option.some.inj h] at e2
      exact ⟨oc, od, fd, osl, e, e2⟩
    · cases h
  · cases h
def tabV (K : PySem.W.Frag) (c : Addr) : Addr := match K.lookup c with
  | some ⟨_, _, .fields vs, _⟩ => (match (vs[11]? : Option Value) with
    | some (.ref P) => P
    | _ => 0)
  | _ => 0
def emptyO : Option Obj → Bool
  | some ⟨.none, none, .fields fs, sl⟩ => fs.isEmpty && sl.isEmpty
  | _ => false
theorem emptyO_ok {o : Option Obj} (h : emptyO o = true) : o = some { cls := .none, data := .fields #[] } := by
  unfold emptyO at h
  split at h
  · rw [Bool.and_eq_true, Array.isEmpty_iff, Array.isEmpty_iff] at h
    rw [h.1, h.2]
  · cases h
def tbB (g : Addr → Option Obj) (K : PySem.W.Frag) : Bool := match codeV K with
  | some c => PySem.W.codeHdIn K c (tabV K c) && (emptyO (g (tabV K c)) && (K.lookup (tabV K c)).isNone)
  | none => false
theorem tbB_ok {g : Addr → Option Obj} {K : PySem.W.Frag} (h : tbB g K = true) : ∃ c P : Addr, codeV K = some c ∧ PySem.W.codeHdIn K c P = true ∧ g P = some { cls := .none, data := .fields #[] } ∧ K.lookup P = none := by
  unfold tbB at h
  split at h
  · rename_i c e
    rw [Bool.and_eq_true, Bool.and_eq_true] at h
    exact ⟨c, tabV K c, e, h.1, emptyO_ok h.2.1, Option.isNone_iff_eq_none.mp h.2.2⟩
  · cases h
def obF (g : Addr → Option Obj) (K : PySem.W.Frag) : He.AlD × Bool := (He.obsD fa fn K, tbB g K && xtB K)
def SaysW (h : Heap) (K : PySem.W.Frag) : Prop := K.In h ∧ He.SaysD fa fn K ∧ Xt K ∧ ∃ c P : Addr, codeV K = some c ∧ PySem.W.codeHdIn K c P = true ∧ h.get? P = some { cls := .none, data := .fields #[] } ∧ K.lookup P = none
def hk : PySem.W.Hook where
  α := He.AlD × Bool
  obs := fun s => obF s.heap.get? (He.frG s.heap.get? (asW s.heap.get?))
  val := fun _ => (He.valD fn, true)
  says := fun _ h => ∃ K : PySem.W.Frag, SaysW h K
  of := fun _ _ e => by
    have e1 := congrArg (fun z : He.AlD × Bool => z.1) e
    have e2 : (tbB _ _ && xtB _) = true := congrArg (fun z : He.AlD × Bool => z.2) e
    rw [Bool.and_eq_true] at e2
    exact ⟨_, He.frG_in, e1, xtB_ok e2.2, tbB_ok e2.1⟩
  keeps := fun _ _ _ ⟨K, hK, c, x, c1, P, h1, h2, h3, h4⟩ k => ⟨K, PySem.W.Frag.In.keeps hK k, c, x, c1, P, h1, h2, k _ _ h3, h4⟩
def ob (s : PySem.W.SharedT) : He.AlD × Bool := obF (HandSHeadRun.getT s) (He.frG (HandSHeadRun.getT s) (asW (HandSHeadRun.getT s)))
theorem ob_eq (s : PySem.W.SharedT) : ob s = hk.obs s.abs := by
  have e : HandSHeadRun.getT s = s.abs.heap.get? := funext (HandSHeadRun.getT_eq s)
  unfold ob
  rw [e]
  rfl
theorem run (w : World) : HandSHeadRun.RunEq R (PySem.W.view R.prog [108]) hk ob 5700 nm w := by
  intro os
  kernel_rfl
end Wr
set_option maxHeartbeats 4000000
/-! A small reckoning over plain data: a value stands for a datum D in a heap; an expression's reading gives a datum; what is owned (may change) stands apart. -/
namespace Wr
open PySem L2

/-! ### heaps -/
/-- a table of code objects -/
def isT : HO → Bool
  | .tbl _ => true
  | _ => false
/-- all but the tables stay -/
def Sub (H H' : Hp) : Prop := ∀ a o, H a = some o → isT o = false → H' a = some o
theorem Sub.refl (H : Hp) : Sub H H := fun _ _ h _ => h
theorem Sub.trans {H H1 H2 : Hp} (a : Sub H H1) (b : Sub H1 H2) : Sub H H2 := fun c o h n => b c o (a c o h n) n
def lamQ : Str := "check_rooms.<locals>.<lambda>"
/-- the same, the tables have grown well -/
structure Same (H H' : Hp) : Prop where
  sub : Sub H H'
  dom : ∀ a, H a ≠ none → H' a ≠ none
  tabs : ∀ P, LamX.TabS H P lamQ → LamX.TabS H' P lamQ
instance {H H' : Hp} : CoeFun (Same H H') (fun _ => ∀ a o, H a = some o → isT o = false → H' a = some o) := ⟨fun e => e.sub⟩
theorem Same.refl (H : Hp) : Same H H := ⟨Sub.refl H, fun _ h => h, fun _ h => h⟩
theorem Same.trans {H H1 H2 : Hp} (a : Same H H1) (b : Same H1 H2) : Same H H2 := ⟨a.sub.trans b.sub, fun c h => b.dom c (a.dom c h), fun P h => b.tabs P (a.tabs P h)⟩
theorem Same.of {H H' : Hp} (e : L2.Same H H') : Same H H' := ⟨fun a o h _ => e a o h, fun a h z => (by
  cases q : H a with
  | none => exact h q
  | some o =>
    rw [e a o q] at z
    cases z), fun P h => LamX.TabS.ext h e⟩
theorem Same.free {H H' : Hp} (e : Same H H') {p : Addr} (h : H' p = none) : H p = none := by
  cases q : H p with
  | none => rfl
  | some o => exact absurd h (e.dom p (by rw [q]; exact fun z => by cases z))
def isX : HO → Bool
  | .tbl _ => true
  | .ext _ => true
  | _ => false
theorem tabS_chg {H : Hp} {p : Addr} {o u : HO} (h : H p = some u) (hu : isX u = false) {P : Addr} {q : Str} (t : LamX.TabS H P q) : LamX.TabS (upd H p o) P q := by
  obtain ⟨ps, h1, h2, h3⟩ := t
  have nP : P ≠ p := fun z => by
    rw [z, h] at h1
    cases h1
    cases hu
  refine ⟨ps, by rw [upd_ne nP]; exact h1, h2, fun pos cv hc => ?_⟩
  obtain ⟨c, e1, e2⟩ := h3 pos cv hc
  refine ⟨c, e1, ?_⟩
  rw [upd_ne]
  · exact e2
  · intro z
    rw [z, h] at e2
    unfold LamX.CodeO at e2
    cases e2
    cases hu
/-- what is new may change -/
theorem Same.chg {H1 H4 : Hp} {p : Addr} {o u : HO} (e : Same H1 H4) (n : H1 p = none) (h : H4 p = some u) (hu : isX u = false) : Same H1 (upd H4 p o) :=
  ⟨fun a x hx nt => by
    rw [upd_ne (ne_of_none hx n)]
    exact e.sub a x hx nt, fun a ha => by
    by_cases z : a = p
    · rw [z, upd_same]
      exact fun z => by cases z
    · rw [upd_ne z]
      exact e.dom a ha, fun P t => tabS_chg h hu (e.tabs P t)⟩
structure Cn where
  cls : Addr
  tab : Addr
  lam : Addr → Addr → Heap → Prop
def hide (O : List Addr) (H : Hp) : Hp := fun a => if a ∈ O then none else H a
theorem hide_le {O : List Addr} {H : Hp} : Sub (hide O H) H := fun a o h _ => by
  unfold hide at h
  split at h
  · cases h
  · exact h
theorem hide_mono {O : List Addr} {H H' : Hp} (e : Same H H') : Sub (hide O H) (hide O H') := fun a o h nt => by
  unfold hide at h ⊢
  split at h
  · cases h
  · rename_i n
    rw [if_neg n]
    exact e a o h nt
theorem hide_sub {O O' : List Addr} {H : Hp} (s : ∀ a, a ∈ O → a ∈ O') : Sub (hide O' H) (hide O H) := fun a o h _ => by
  unfold hide at h ⊢
  split at h
  · cases h
  · rename_i n
    rw [if_neg fun z => n (s a z)]
    exact h
theorem hide_at {O : List Addr} {H : Hp} {a : Addr} (n : a ∉ O) : hide O H a = H a := by
  unfold hide
  rw [if_neg n]
theorem hide_in {O : List Addr} {H : Hp} {a : Addr} (n : a ∈ O) : hide O H a = none := by
  unfold hide
  rw [if_pos n]
theorem hide_nil {H : Hp} : hide [] H = H := by
  funext a
  exact hide_at (by simp)
def Dom (O : List Addr) (H : Hp) : Prop := ∀ l ∈ O, H l ≠ none
theorem Dom.mono {O : List Addr} {H H' : Hp} (d : Dom O H) (e : Same H H') : Dom O H' := fun l hl => e.dom l (d l hl)
theorem Dom.out {O : List Addr} {H : Hp} (d : Dom O H) {p : Addr} (h : H p = none) : p ∉ O := fun z => d p z h
theorem same_new {H : Hp} {p : Addr} {o : HO} (h : H p = none) : Same H (upd H p o) := .of fun a u e => by
  rw [upd_ne (ne_of_none e h)]
  exact e
/-- what is hidden may change -/
theorem hide_mut {O : List Addr} {H : Hp} {p : Addr} {o : HO} (h : p ∈ O) : hide O (upd H p o) = hide O H := by
  funext a
  unfold hide
  split
  · rfl
  · rename_i n
    exact upd_ne fun z => n (z ▸ h)

/-! ### data -/
inductive D where
  | v (x : V)
  | lst (l : List D)
  | tup (l : List D)
  | web (p : Str) (ts : List Str)
  | dic (ks : List Str) (ds : List D)
  | fn
  | scr (K : PySem.W.Frag) (ns : List Int)
abbrev D.i (n : Int) : D := .v (.int n)
abbrev D.s (x : Str) : D := .v (.str x)
abbrev D.b (x : Bool) : D := .v (.bl x)
abbrev D.n : D := .v .non
def webF (p : Str) (t : Addr) : List (Str × V) := [("places", .str p), ("ties", .ref t)]
def zipK (ks : List Str) (vs : List V) : List (Key × V) := (ks.map Sum.inr).zip vs

section
variable (C : Cn)
mutual
def Rep (H : Hp) : D → V → Prop
  | .v x, u => u = x
  | .lst l, u => ∃ a vs, u = .ref a ∧ H a = some (.lst vs) ∧ RepL H l vs
  | .tup l, u => ∃ a vs, u = .ref a ∧ H a = some (.tup vs) ∧ RepL H l vs
  | .web p ts, u => ∃ a dx t, u = .ref a ∧ H a = some (.ins C.cls dx (webF p t)) ∧ H t = some (.tup (ts.map V.str))
  | .dic ks ds, u => ∃ a vs, u = .ref a ∧ H a = some (.dK (zipK ks vs)) ∧ ks.length = ds.length ∧ RepL H ds vs
  | .fn, u => ∃ f c, u = .ref f ∧ H f = some (.ext (C.lam f c)) ∧ H c = some (LamX.CodeO c lamQ)
  | .scr K ns, u => ∃ a, u = .ref a ∧ SqL K H a (ns.map V.int)
def RepL (H : Hp) : List D → List V → Prop
  | [], vs => vs = []
  | d :: l, vs => ∃ v r, vs = v :: r ∧ Rep H d v ∧ RepL H l r
end
end
section
variable {C : Cn} {H H' : Hp}
theorem sqL_mono (e : Sub H H') {K : PySem.W.Frag} {a : Addr} {xs : List V} (h : SqL K H a xs) : SqL K H' a xs := by
  rcases h with (h | ⟨o, h⟩) | h
  · exact .inl (.inl (e _ _ h rfl))
  · exact .inl (.inr ⟨o, e _ _ h rfl⟩)
  · exact .inr h
mutual
theorem Rep.mono (e : Sub H H') : ∀ {d : D} {v : V}, Rep C H d v → Rep C H' d v
  | .v x, u, h => by
    unfold Rep at h ⊢
    exact h
  | .lst l, u, h => by
    unfold Rep at h ⊢
    obtain ⟨a, vs, h1, h2, h3⟩ := h
    exact ⟨a, vs, h1, e _ _ h2 rfl, RepL.mono e h3⟩
  | .tup l, u, h => by
    unfold Rep at h ⊢
    obtain ⟨a, vs, h1, h2, h3⟩ := h
    exact ⟨a, vs, h1, e _ _ h2 rfl, RepL.mono e h3⟩
  | .web p ts, u, h => by
    unfold Rep at h ⊢
    obtain ⟨a, dx, t, h1, h2, h3⟩ := h
    exact ⟨a, dx, t, h1, e _ _ h2 rfl, e _ _ h3 rfl⟩
  | .dic ks ds, u, h => by
    unfold Rep at h ⊢
    obtain ⟨a, vs, h1, h2, h3, h4⟩ := h
    exact ⟨a, vs, h1, e _ _ h2 rfl, h3, RepL.mono e h4⟩
  | .fn, u, h => by
    unfold Rep at h ⊢
    obtain ⟨f, c, h1, h2, h3⟩ := h
    exact ⟨f, c, h1, e _ _ h2 rfl, e _ _ h3 (by unfold LamX.CodeO; rfl)⟩
  | .scr K ns, u, h => by
    unfold Rep at h ⊢
    obtain ⟨a, h1, h2⟩ := h
    exact ⟨a, h1, sqL_mono e h2⟩
theorem RepL.mono (e : Sub H H') : ∀ {l : List D} {vs : List V}, RepL C H l vs → RepL C H' l vs
  | [], vs, h => by
    unfold RepL at h ⊢
    exact h
  | d :: l, vs, h => by
    unfold RepL at h ⊢
    obtain ⟨v, r, h1, h2, h3⟩ := h
    exact ⟨v, r, h1, Rep.mono e h2, RepL.mono e h3⟩
end
theorem rep_v {x u : V} : Rep C H (.v x) u ↔ u = x := by
  unfold Rep
  exact Iff.rfl
theorem rep_lst {l : List D} {u : V} : Rep C H (.lst l) u ↔ ∃ a vs, u = .ref a ∧ H a = some (.lst vs) ∧ RepL C H l vs := by
  rw [Rep]
theorem rep_tup {l : List D} {u : V} : Rep C H (.tup l) u ↔ ∃ a vs, u = .ref a ∧ H a = some (.tup vs) ∧ RepL C H l vs := by
  rw [Rep]
theorem rep_fn {u : V} : Rep C H .fn u ↔ ∃ f c, u = .ref f ∧ H f = some (.ext (C.lam f c)) ∧ H c = some (LamX.CodeO c lamQ) := by
  rw [Rep]
theorem rep_scr {K : PySem.W.Frag} {ns : List Int} {u : V} : Rep C H (.scr K ns) u ↔ ∃ a, u = .ref a ∧ SqL K H a (ns.map V.int) := by
  rw [Rep]
theorem rep_web {p : Str} {ts : List Str} {u : V} : Rep C H (.web p ts) u ↔ ∃ a dx t, u = .ref a ∧ H a = some (.ins C.cls dx (webF p t)) ∧ H t = some (.tup (ts.map V.str)) := by
  rw [Rep]
theorem rep_dic {ks : List Str} {ds : List D} {u : V} : Rep C H (.dic ks ds) u ↔ ∃ a vs, u = .ref a ∧ H a = some (.dK (zipK ks vs)) ∧ ks.length = ds.length ∧ RepL C H ds vs := by
  rw [Rep]
theorem repL_nil {vs : List V} : RepL C H [] vs ↔ vs = [] := by
  unfold RepL
  exact Iff.rfl
theorem repL_cons {d : D} {l : List D} {vs : List V} : RepL C H (d :: l) vs ↔ ∃ v r, vs = v :: r ∧ Rep C H d v ∧ RepL C H l r := by
  rw [RepL]
theorem RepL.cons {d : D} {l : List D} {v : V} {r : List V} (h : Rep C H d v) (t : RepL C H l r) : RepL C H (d :: l) (v :: r) := repL_cons.mpr ⟨v, r, rfl, h, t⟩
theorem RepL.nil : RepL C H [] [] := repL_nil.mpr rfl
theorem RepL.length : ∀ {l : List D} {vs : List V}, RepL C H l vs → vs.length = l.length
  | [], vs, h => by
    rw [repL_nil.mp h]
    rfl
  | d :: l, vs, h => by
    obtain ⟨v, r, rfl, _, h3⟩ := repL_cons.mp h
    rw [List.length_cons, List.length_cons, RepL.length h3]
theorem RepL.get : ∀ {l : List D} {vs : List V} {i : Nat} {d : D}, RepL C H l vs → l[i]? = some d → ∃ v, vs[i]? = some v ∧ Rep C H d v
  | [], vs, i, d, h, e => by simp at e
  | c :: l, vs, 0, d, h, e => by
    obtain ⟨v, r, rfl, h2, h3⟩ := repL_cons.mp h
    have e : c = d := by simpa using e
    exact ⟨v, rfl, e ▸ h2⟩
  | c :: l, vs, i + 1, d, h, e => by
    obtain ⟨v, r, rfl, h2, h3⟩ := repL_cons.mp h
    have e : l[i]? = some d := by simpa using e
    obtain ⟨w, h4, h5⟩ := RepL.get h3 e
    exact ⟨w, by simpa using h4, h5⟩
theorem RepL.getV {l : List D} {vs : List V} {i : Nat} {v : V} (h : RepL C H l vs) (e : vs[i]? = some v) : ∃ d, l[i]? = some d ∧ Rep C H d v := by
  have hi : i < l.length := by
    rw [← h.length]
    exact (List.getElem?_eq_some_iff.mp e).1
  obtain ⟨w, h1, h2⟩ := h.get (List.getElem?_eq_getElem hi)
  rw [e] at h1
  cases h1
  exact ⟨_, List.getElem?_eq_getElem hi, h2⟩
theorem RepL.append : ∀ {l m : List D} {vs ws : List V}, RepL C H l vs → RepL C H m ws → RepL C H (l ++ m) (vs ++ ws)
  | [], m, vs, ws, h, h' => by
    rw [repL_nil.mp h]
    exact h'
  | d :: l, m, vs, ws, h, h' => by
    obtain ⟨v, r, rfl, h2, h3⟩ := repL_cons.mp h
    exact RepL.cons h2 (RepL.append h3 h')
theorem RepL.take : ∀ {l : List D} {vs : List V} (n : Nat), RepL C H l vs → RepL C H (l.take n) (vs.take n)
  | _, _, 0, _ => RepL.nil
  | [], vs, n + 1, h => by
    rw [repL_nil.mp h]
    exact RepL.nil
  | d :: l, vs, n + 1, h => by
    obtain ⟨v, r, rfl, h2, h3⟩ := repL_cons.mp h
    exact RepL.cons h2 (RepL.take n h3)
theorem RepL.drop : ∀ {l : List D} {vs : List V} (n : Nat), RepL C H l vs → RepL C H (l.drop n) (vs.drop n)
  | _, _, 0, h => h
  | [], vs, n + 1, h => by
    rw [repL_nil.mp h]
    exact RepL.nil
  | d :: l, vs, n + 1, h => by
    obtain ⟨v, r, rfl, h2, h3⟩ := repL_cons.mp h
    exact RepL.drop n h3
theorem RepL.reverse {l : List D} {vs : List V} (h : RepL C H l vs) : RepL C H l.reverse vs.reverse := by
  induction l generalizing vs with
  | nil =>
    rw [repL_nil.mp h]
    exact RepL.nil
  | cons d l ih =>
    obtain ⟨v, r, rfl, h2, h3⟩ := repL_cons.mp h
    rw [List.reverse_cons, List.reverse_cons]
    exact (ih h3).append (RepL.cons h2 RepL.nil)
theorem RepL.set : ∀ {l : List D} {vs : List V} (i : Nat) {d : D} {v : V}, RepL C H l vs → Rep C H d v → RepL C H (l.set i d) (vs.set i v)
  | [], vs, i, d, v, h, h' => by
    rw [repL_nil.mp h]
    exact RepL.nil
  | c :: l, vs, 0, d, v, h, h' => by
    obtain ⟨x, r, rfl, h2, h3⟩ := repL_cons.mp h
    exact RepL.cons h' h3
  | c :: l, vs, i + 1, d, v, h, h' => by
    obtain ⟨x, r, rfl, h2, h3⟩ := repL_cons.mp h
    exact RepL.cons h2 (RepL.set i h3 h')
theorem RepL.rep {l : List D} {vs : List V} (h : RepL C H l vs) : ∀ k : Nat, RepL C H (List.replicate k l).flatten (List.replicate k vs).flatten
  | 0 => RepL.nil
  | k + 1 => by
    rw [List.replicate_succ, List.replicate_succ, List.flatten_cons, List.flatten_cons]
    exact h.append (RepL.rep h k)
/-- flat data -/
theorem repL_flat {α : Type} {f : α → V} : ∀ {xs : List α} {vs : List V}, RepL C H (xs.map fun x => D.v (f x)) vs ↔ vs = xs.map f
  | [], vs => by
    rw [List.map_nil, List.map_nil]
    exact repL_nil
  | x :: xs, vs => by
    rw [List.map_cons, List.map_cons, repL_cons]
    constructor
    · rintro ⟨v, r, rfl, h2, h3⟩
      rw [rep_v.mp h2, repL_flat.mp h3]
    · rintro rfl
      exact ⟨_, _, rfl, rep_v.mpr rfl, repL_flat.mpr rfl⟩
theorem RepL.one {d : D} {v : V} (h : Rep C H d v) : RepL C H [d] [v] := RepL.cons h RepL.nil
end
/-- ints, texts, as data -/
abbrev dI (l : List Int) : List D := l.map fun x => D.v (.int x)
abbrev dN (l : List Nat) : List D := l.map fun x => D.v (.int ((x : Nat) : Int))
abbrev dS (l : List Str) : List D := l.map fun x => D.v (.str x)
abbrev dB (l : List Bool) : List D := l.map fun x => D.v (.bl x)
end Wr
set_option maxHeartbeats 4000000
namespace Wr
open PySem L2
/-! ### what a def's names hold, and what is owned -/
inductive SV where
  | no
  | im (d : D)
  | ptr (l : Addr)
inductive OO where
  | lst (xs : List SV)
  | dic (ks : List Str) (xs : List SV)
structure En where
  Om : List (Addr × OO)
  De : List SV
def En.keys (G : En) : List Addr := G.Om.map (·.1)
section
variable (C : Cn)
def sv (H : Hp) : SV → Option V → Prop
  | .no, _ => True
  | .im d, o => ∃ v, o = some v ∧ Rep C H d v
  | .ptr l, o => o = some (.ref l)
def SVs (H : Hp) : List SV → St → Prop
  | [], σ => σ = []
  | s :: l, σ => ∃ o r, σ = o :: r ∧ sv C H s o ∧ SVs H l r
def ooOk (Hk H : Hp) (l : Addr) : OO → Prop
  | .lst xs => ∃ vs : List V, H l = some (.lst vs) ∧ SVs C Hk xs (vs.map some)
  | .dic ks xs => ∃ vs : List V, H l = some (.dK (zipK ks vs)) ∧ ks.length = xs.length ∧ SVs C Hk xs (vs.map some)
structure GamE (O : List Addr) (H : Hp) (G : En) (σ : St) : Prop where
  sub : ∀ l ∈ G.keys, l ∈ O
  dom : Dom O H
  nd : G.keys.Nodup
  ok : ∀ p ∈ G.Om, ooOk C (hide O H) H p.1 p.2
  sl : SVs C (hide O H) G.De σ
  tb : LamX.TabS H C.tab lamQ
end
section
variable {C : Cn} {H H' : Hp} {O : List Addr} {G : En} {σ : St}
theorem sv.mono (e : Sub H H') {s : SV} {o : Option V} (h : sv C H s o) : sv C H' s o := by
  cases s with
  | no => trivial
  | im d =>
    obtain ⟨v, h1, h2⟩ := h
    exact ⟨v, h1, h2.mono e⟩
  | ptr l => exact h
theorem SVs.mono (e : Sub H H') : ∀ {l : List SV} {σ : St}, SVs C H l σ → SVs C H' l σ
  | [], _, h => h
  | s :: l, _, h => by
    obtain ⟨o, r, h1, h2, h3⟩ := h
    exact ⟨o, r, h1, h2.mono e, SVs.mono e h3⟩
theorem SVs.get : ∀ {l : List SV} {σ : St} {i : Nat} {s : SV}, SVs C H l σ → l[i]? = some s → ∃ o, σ[i]? = some o ∧ sv C H s o
  | [], _, _, _, _, e => by simp at e
  | c :: l, _, 0, s, h, e => by
    obtain ⟨o, r, rfl, h2, h3⟩ := h
    have e : c = s := by simpa using e
    exact ⟨o, rfl, e ▸ h2⟩
  | c :: l, _, i + 1, s, h, e => by
    obtain ⟨o, r, rfl, h2, h3⟩ := h
    obtain ⟨o', a, b⟩ := SVs.get (i := i) h3 (by simpa using e)
    exact ⟨o', by simpa using a, b⟩
theorem SVs.set : ∀ {l : List SV} {σ : St} (i : Nat) {s : SV} {o : Option V}, SVs C H l σ → sv C H s o → SVs C H (l.set i s) (σ.set i o)
  | [], σ, i, s, o, h, _ => by
    have h : σ = [] := h
    subst h
    exact rfl
  | c :: l, _, 0, s, o, h, h' => by
    obtain ⟨x, r, rfl, h2, h3⟩ := h
    exact ⟨o, r, rfl, h', h3⟩
  | c :: l, _, i + 1, s, o, h, h' => by
    obtain ⟨x, r, rfl, h2, h3⟩ := h
    exact ⟨x, _, rfl, h2, SVs.set i h3 h'⟩
theorem SVs.length : ∀ {l : List SV} {σ : St}, SVs C H l σ → σ.length = l.length
  | [], σ, h => by
    have h : σ = [] := h
    subst h
    rfl
  | c :: l, _, h => by
    obtain ⟨o, r, rfl, h2, h3⟩ := h
    rw [List.length_cons, List.length_cons, SVs.length h3]
theorem SVs.append : ∀ {l m : List SV} {σ τ : St}, SVs C H l σ → SVs C H m τ → SVs C H (l ++ m) (σ ++ τ)
  | [], _, σ, _, h, h' => by
    have h : σ = [] := h
    subst h
    exact h'
  | c :: l, m, _, τ, h, h' => by
    obtain ⟨o, r, rfl, h2, h3⟩ := h
    exact ⟨o, r ++ τ, rfl, h2, SVs.append h3 h'⟩
/-- data, as what names hold -/
theorem svs_im : ∀ {ds : List D} {vs : List V}, SVs C H (ds.map SV.im) (vs.map some) ↔ RepL C H ds vs
  | [], vs => by
    rw [repL_nil]
    constructor
    · intro h
      have h : vs.map some = [] := h
      simpa using h
    · rintro rfl
      exact rfl
  | d :: ds, vs => by
    rw [repL_cons]
    constructor
    · rintro ⟨o, r, h1, ⟨v, h2, h3⟩, h4⟩
      cases vs with
      | nil => simp at h1
      | cons x xs =>
        simp only [List.map_cons, List.cons.injEq] at h1
        obtain ⟨e1, e2⟩ := h1
        subst e1 e2
        cases h2
        exact ⟨_, xs, rfl, h3, svs_im.mp h4⟩
    · rintro ⟨v, r, rfl, h2, h3⟩
      exact ⟨some v, r.map some, rfl, ⟨v, rfl, h2⟩, svs_im.mpr h3⟩
theorem svs_no (H : Hp) : ∀ n : Nat, SVs C H (List.replicate n SV.no) (List.replicate n none)
  | 0 => rfl
  | n + 1 => ⟨none, _, rfl, trivial, svs_no H n⟩
theorem ooOk.mono {Hk Hk2 : Hp} {l : Addr} {x : OO} (e : Sub H H') (ek : Sub Hk Hk2) (h : ooOk C Hk H l x) : ooOk C Hk2 H' l x := by
  cases x with
  | lst xs =>
    obtain ⟨vs, h1, h2⟩ := h
    exact ⟨vs, e _ _ h1 rfl, h2.mono ek⟩
  | dic ks xs =>
    obtain ⟨vs, h1, h2, h3⟩ := h
    exact ⟨vs, e _ _ h1 rfl, h2, h3.mono ek⟩
theorem GamE.mono (g : GamE C O H G σ) (e : Same H H') : GamE C O H' G σ :=
  ⟨g.sub, g.dom.mono e, g.nd, fun p hp => (g.ok p hp).mono e.sub (hide_mono e), g.sl.mono (hide_mono e), e.tabs _ g.tb⟩
/-- one more is owned from without -/
theorem GamE.more (g : GamE C O H G σ) {p : Addr} {o : HO} (n : H p = none) (e : Same H H') (hp : H' p = some o) : GamE C (p :: O) H' G σ := by
  have ek : Sub (hide O H) (hide (p :: O) H') := fun a u h nt => by
    have ha := hide_le a u h nt
    have nO : a ∉ O := fun z => by
      rw [hide_in z] at h
      cases h
    have np : a ≠ p := ne_of_none ha n
    rw [hide_at (by simp [nO, np])]
    exact e a u ha nt
  refine ⟨fun l hl => List.mem_cons_of_mem _ (g.sub l hl), fun l hl => ?_, g.nd, fun q hq => (g.ok q hq).mono e.sub ek, g.sl.mono ek, e.tabs _ g.tb⟩
  rcases List.mem_cons.mp hl with rfl | hl
  · rw [hp]
    exact fun z => nomatch z
  · exact g.dom.mono e l hl
end
/-! ### readings -/
section
variable (C : Cn)
/-- te gives a datum of which R holds -/
def EvR (te : TE) (G : En) (R : D → Prop) : Prop := ∀ (O : List Addr) (H : Hp) (σ : St), GamE C O H G σ → ∀ Q : VK, (∀ d v H', R d → Same H H' → Rep C (hide O H') d v → Q v H') → te σ H Q
abbrev EvD (te : TE) (G : En) (d : D) : Prop := EvR C te G (· = d)
/-- te gives a new list of these -/
def EvF (te : TE) (G : En) (ds : List D) : Prop := ∀ (O : List Addr) (H : Hp) (σ : St), GamE C O H G σ → ∀ Q : VK,
  (∀ p vs H', H p = none → Same H H' → H' p = some (.lst vs) → RepL C (hide (p :: O) H') ds vs → Q (.ref p) H') → te σ H Q
def EvT (tt : TT) (G : En) (b : Bool) : Prop := ∀ (O : List Addr) (H : Hp) (σ : St), GamE C O H G σ → ∀ Q : Bool → Hp → Prop, (∀ H', Same H H' → Q b H') → tt σ H Q
def EvA (ta : TA) (G : En) (R : List D → Prop) : Prop := ∀ (O : List Addr) (H : Hp) (σ : St), GamE C O H G σ → ∀ Q : List V → Hp → Prop, (∀ ds vs H', R ds → Same H H' → RepL C (hide O H') ds vs → Q vs H') → ta σ H Q
def EvO (to : TO) (G : En) (o : Option Int) : Prop := ∀ (O : List Addr) (H : Hp) (σ : St), GamE C O H G σ → ∀ Q : Option Int → Hp → Prop, (∀ H', Same H H' → Q o H') → to σ H Q
/-- operations, calls, on data -/
def RR (r : R2) (x y : D) (R : D → Prop) : Prop := ∀ (O : List Addr) (H : Hp) (a b : V), Dom O H → Rep C (hide O H) x a → Rep C (hide O H) y b → ∀ Q : VK, (∀ d v H', R d → Same H H' → Rep C (hide O H') d v → Q v H') → r a b H Q
def CR (r : List V → Hp → VK → Prop) (ds : List D) (R : D → Prop) : Prop := ∀ (O : List Addr) (H : Hp) (vs : List V), Dom O H → RepL C (hide O H) ds vs → ∀ Q : VK, (∀ d v H', R d → Same H H' → Rep C (hide O H') d v → Q v H') → r vs H Q
/-- .. that make a new list -/
def RF (r : R2) (x y : D) (ds : List D) : Prop := ∀ (O : List Addr) (H : Hp) (a b : V), Dom O H → Rep C (hide O H) x a → Rep C (hide O H) y b → ∀ Q : VK,
  (∀ p vs H', H p = none → Same H H' → H' p = some (.lst vs) → RepL C (hide (p :: O) H') ds vs → Q (.ref p) H') → r a b H Q
def CF (r : List V → Hp → VK → Prop) (xs ds : List D) : Prop := ∀ (O : List Addr) (H : Hp) (us : List V), Dom O H → RepL C (hide O H) xs us → ∀ Q : VK,
  (∀ p vs H', H p = none → Same H H' → H' p = some (.lst vs) → RepL C (hide (p :: O) H') ds vs → Q (.ref p) H') → r us H Q
end
section
variable {C : Cn} {G : En} {te ta tb tc : TE} {tt tu : TT} {R R1 R2 : D → Prop} {d : D} {r r' : L2.R2}
theorem EvR.imp (h : EvR C te G R) (i : ∀ d, R d → R1 d) : EvR C te G R1 := fun O H σ g Q q => h O H σ g Q fun d v H' hr => q d v H' (i d hr)
theorem EvR.to {d' : D} (h : EvD C te G d) (e : d = d') : EvD C te G d' := e ▸ h
theorem EvD.rel (h : EvD C te G d) (i : R d) : EvR C te G R := h.imp fun _ e => e ▸ i
theorem EvF.dat {ds : List D} (h : EvF C te G ds) : EvD C te G (.lst ds) := fun O H σ g Q q => h O H σ g Q fun p vs H' np e hp hr =>
  q _ _ H' rfl e (rep_lst.mpr ⟨p, vs, rfl, by rw [hide_at (g.dom.out np)]; exact hp, hr.mono (hide_sub fun a ha => List.mem_cons_of_mem _ ha)⟩)
theorem EvF.to {ds es : List D} (h : EvF C te G ds) (e : ds = es) : EvF C te G es := e ▸ h
theorem EvT.to {b b' : Bool} (h : EvT C tt G b) (e : b = b') : EvT C tt G b' := e ▸ h
theorem ev_var {i : Nat} (h : G.De[i]? = some (.im d)) (hr : R d) : EvR C (tVar i) G R := fun O H σ g Q q => by
  obtain ⟨o, h1, v, rfl, h2⟩ := g.sl.get h
  exact ⟨v, h1, q d v H hr (Same.refl H) h2⟩
theorem ev_v {i : Nat} (h : G.De[i]? = some (.im d)) : EvD C (tVar i) G d := ev_var h rfl
theorem ev_c {x : V} : EvD C (tC x) G (.v x) := fun O H σ g Q q => q _ x H rfl (Same.refl H) (rep_v.mpr rfl)
theorem ev_op {r : L2.R2} (ha : EvR C ta G R1) (hb : EvR C tb G R2) (hr : ∀ x y, R1 x → R2 y → RR C r x y R) : EvR C (tOp r ta tb) G R := fun O H σ g Q q =>
  ha O H σ g _ fun x a H1 rx e1 hx => hb O H1 σ (g.mono e1) _ fun y b H2 ry e2 hy =>
    hr x y rx ry O H2 a b (g.dom.mono (e1.trans e2)) (hx.mono (hide_mono e2)) hy Q fun d v H3 hd e3 hv => q d v H3 hd ((e1.trans e2).trans e3) hv
theorem ev_opD {r : L2.R2} {x y : D} (ha : EvD C ta G x) (hb : EvD C tb G y) (hr : RR C r x y R) : EvR C (tOp r ta tb) G R := ev_op ha hb fun _ _ e1 e2 => e1 ▸ e2 ▸ hr
theorem ev_opF {r : L2.R2} {x y : D} {ds : List D} (ha : EvD C ta G x) (hb : EvD C tb G y) (hr : RF C r x y ds) : EvF C (tOp r ta tb) G ds := fun O H σ g Q q =>
  ha O H σ g _ fun x' a H1 rx e1 hx => hb O H1 σ (g.mono e1) _ fun y' b H2 ry e2 hy => by
    subst rx ry
    exact hr O H2 a b (g.dom.mono (e1.trans e2)) (hx.mono (hide_mono e2)) hy Q fun p vs H3 np e3 hp hv => q p vs H3 ((e1.trans e2).free np) ((e1.trans e2).trans e3) hp hv
theorem ev_un {r : V → Hp → VK → Prop} {x y : V} (ha : EvD C ta G (.v x)) (hr : ∀ (H : Hp) (Q : VK), Q y H → r x H Q) (h : R (.v y)) : EvR C (tUn r ta) G R := fun O H σ g Q q =>
  ha O H σ g _ fun x' a H1 rx e1 hx => by
    subst rx
    rw [rep_v.mp hx]
    exact hr H1 Q (q _ _ H1 h e1 (rep_v.mpr rfl))
/-! ### arguments -/
theorem ea_nil : EvA C tNil G (· = []) := fun O H σ g Q q => q [] [] H rfl (Same.refl H) RepL.nil
theorem ea_cons {tr : TA} {RA : List D → Prop} (h : EvR C te G R) (hr : EvA C tr G RA) : EvA C (tCons te tr) G (fun l => ∃ d ds, l = d :: ds ∧ R d ∧ RA ds) := fun O H σ g Q q =>
  h O H σ g _ fun d v H1 rd e1 hd => hr O H1 σ (g.mono e1) _ fun ds vs H2 ra e2 hds => q (d :: ds) (v :: vs) H2 ⟨d, ds, rfl, rd, ra⟩ (e1.trans e2) (.cons (hd.mono (hide_mono e2)) hds)
theorem EvA.imp {ta : TA} {RA RB : List D → Prop} (h : EvA C ta G RA) (i : ∀ ds, RA ds → RB ds) : EvA C ta G RB := fun O H σ g Q q => h O H σ g Q fun ds vs H' hr => q ds vs H' (i ds hr)
theorem ea_c {tr : TA} {ds : List D} (h : EvD C te G d) (hr : EvA C tr G (· = ds)) : EvA C (tCons te tr) G (· = d :: ds) := (ea_cons h hr).imp fun l ⟨x, xs, e, e1, e2⟩ => by rw [e, e1, e2]
theorem ea1 (h : EvD C te G d) : EvA C (tCons te tNil) G (· = [d]) := ea_c h ea_nil
theorem ea2 {d1 d2 : D} (h1 : EvD C ta G d1) (h2 : EvD C tb G d2) : EvA C (tCons ta (tCons tb tNil)) G (· = [d1, d2]) := ea_c h1 (ea1 h2)
theorem ea3 {d1 d2 d3 : D} (h1 : EvD C ta G d1) (h2 : EvD C tb G d2) (h3 : EvD C tc G d3) : EvA C (tCons ta (tCons tb (tCons tc tNil))) G (· = [d1, d2, d3]) := ea_c h1 (ea2 h2 h3)
/-! ### calls of built-ins -/
theorem ev_cb {t : TA} {r : List V → Hp → VK → Prop} {RA : List D → Prop} (ha : EvA C t G RA) (hr : ∀ ds, RA ds → CR C r ds R) : EvR C (tCB r t) G R := fun O H σ g Q q =>
  ha O H σ g _ fun ds vs H1 ra e1 hx => hr ds ra O H1 vs (g.dom.mono e1) hx Q fun d v H2 hd e2 hv => q d v H2 hd (e1.trans e2) hv
theorem ev_cbD {t : TA} {r : List V → Hp → VK → Prop} {ds : List D} (ha : EvA C t G (· = ds)) (hr : CR C r ds R) : EvR C (tCB r t) G R := ev_cb ha fun _ e => e ▸ hr
theorem ev_cbF {t : TA} {r : List V → Hp → VK → Prop} {xs ds : List D} (ha : EvA C t G (· = xs)) (hr : CF C r xs ds) : EvF C (tCB r t) G ds := fun O H σ g Q q =>
  ha O H σ g _ fun xs' vs H1 ra e1 hx => by
    subst ra
    exact hr O H1 vs (g.dom.mono e1) hx Q fun p vs H2 np e2 hp hv => q p vs H2 (e1.free np) (e1.trans e2) hp hv
/-! ### displays -/
theorem ev_tup {t : TA} {RA : List D → Prop} (h : EvA C t G RA) (hl : ∀ ds, RA ds → ds.length ≤ 100000) (hr : ∀ ds, RA ds → R (.tup ds)) : EvR C (tTup t) G R := fun O H σ g Q q =>
  h O H σ g _ fun ds vs H1 ra e1 hx => ⟨by rw [hx.length]; exact Nat.le_trans (hl ds ra) (by decide), fun p np => by
    have nO : p ∉ O := (g.dom.mono e1).out np
    exact q _ _ _ (hr ds ra) (e1.trans (same_new np)) (rep_tup.mpr ⟨p, vs, rfl, by rw [hide_at nO]; exact upd_same, hx.mono (hide_mono (same_new np))⟩)⟩
theorem ev_tupD {t : TA} {ds : List D} (h : EvA C t G (· = ds)) (hl : ds.length ≤ 100000 := by first | decide | simp) : EvD C (tTup t) G (.tup ds) := ev_tup h (fun _ e => e ▸ hl) fun _ e => e ▸ rfl
theorem hide_new {O : List Addr} {H : Hp} {p : Addr} {o : HO} (np : H p = none) : Sub (hide O H) (hide (p :: O) (upd H p o)) := fun a u h nt => by
  have ha := hide_le a u h nt
  have nO : a ∉ O := fun z => by
    rw [hide_in z] at h
    cases h
  have ne : a ≠ p := ne_of_none ha np
  rw [hide_at (by simp [nO, ne]), upd_ne ne]
  exact ha
theorem ev_lst {t : TA} {ds : List D} (h : EvA C t G (· = ds)) (hl : ds.length ≤ 100000 := by first | decide | simp) : EvF C (tLst t) G ds := fun O H σ g Q q =>
  h O H σ g _ fun xs vs H1 ra e1 hx => ⟨by rw [hx.length, ra]; exact Nat.le_trans hl (by decide), fun p np => by
    subst ra
    exact q p vs _ (e1.free np) (e1.trans (same_new np)) upd_same (hx.mono (hide_new np))⟩
/-! ### tests, and, or, not, if -/
theorem et_test {b : Bool} (h : EvD C te G (.b b)) : EvT C (tTest te) G b := fun O H σ g Q q => h O H σ g _ fun d v H1 e e1 hv => by
  subst e
  exact ⟨b, rep_v.mp hv, q H1 e1⟩
theorem et_B {b : Bool} (h : EvD C te G (.b b)) : EvT C (tB te) G b := fun O H σ g Q q => h O H σ g _ fun d v H1 e e1 hv => by
  subst e
  exact ⟨b, rep_v.mp hv, q H1 e1⟩
theorem et_and {a b : Bool} (h1 : EvT C tt G a) (h2 : a = true → EvT C tu G b) : EvT C (tAnd tt tu) G (a && b) := fun O H σ g Q q => h1 O H σ g _ fun H1 e1 => by
  cases a with
  | true =>
    show tu σ H1 Q
    exact h2 rfl O H1 σ (g.mono e1) Q fun H2 e2 => q H2 (e1.trans e2)
  | false =>
    show Q false H1
    exact q H1 e1
theorem et_or {a b : Bool} (h1 : EvT C tt G a) (h2 : a = false → EvT C tu G b) : EvT C (tOr tt tu) G (a || b) := fun O H σ g Q q => h1 O H σ g _ fun H1 e1 => by
  cases a with
  | false =>
    show tu σ H1 Q
    exact h2 rfl O H1 σ (g.mono e1) Q fun H2 e2 => q H2 (e1.trans e2)
  | true =>
    show Q true H1
    exact q H1 e1
theorem et_not {a : Bool} (h1 : EvT C tt G a) : EvT C (tNot tt) G (!a) := fun O H σ g Q q => h1 O H σ g _ fun H1 e1 => q H1 e1
theorem et_yes : EvT C tYes G true := fun O H σ g Q q => q H (Same.refl H)
theorem ev_andV {a b : Bool} (h1 : EvD C ta G (.b a)) (h2 : a = true → EvD C tb G (.b b)) : EvD C (tAndV ta tb) G (.b (a && b)) := fun O H σ g Q q => h1 O H σ g _ fun d v H1 e e1 hv => by
  subst e
  refine ⟨a, rep_v.mp hv, ?_⟩
  cases a with
  | true =>
    show tb σ H1 Q
    exact h2 rfl O H1 σ (g.mono e1) Q fun d v H2 e e2 hv => q d v H2 e (e1.trans e2) hv
  | false =>
    show Q (.bl false) H1
    exact q _ _ H1 rfl e1 (rep_v.mpr rfl)
theorem ev_orV {a b : Bool} (h1 : EvD C ta G (.b a)) (h2 : a = false → EvD C tb G (.b b)) : EvD C (tOrV ta tb) G (.b (a || b)) := fun O H σ g Q q => h1 O H σ g _ fun d v H1 e e1 hv => by
  subst e
  refine ⟨a, rep_v.mp hv, ?_⟩
  cases a with
  | false =>
    show tb σ H1 Q
    exact h2 rfl O H1 σ (g.mono e1) Q fun d v H2 e e2 hv => q d v H2 e (e1.trans e2) hv
  | true =>
    show Q (.bl true) H1
    exact q _ _ H1 rfl e1 (rep_v.mpr rfl)
theorem ev_notV {a : Bool} (h1 : EvD C ta G (.b a)) : EvD C (tNotV ta) G (.b (!a)) := fun O H σ g Q q => h1 O H σ g _ fun d v H1 e e1 hv => by
  subst e
  exact ⟨a, rep_v.mp hv, q _ _ H1 rfl e1 (rep_v.mpr rfl)⟩
theorem ev_if {b : Bool} (h : EvT C tt G b) (h1 : b = true → EvR C ta G R) (h2 : b = false → EvR C tb G R) : EvR C (tIf tt ta tb) G R := fun O H σ g Q q => h O H σ g _ fun H1 e1 => by
  cases b with
  | true =>
    show ta σ H1 Q
    exact h1 rfl O H1 σ (g.mono e1) Q fun d v H2 e e2 hv => q d v H2 e (e1.trans e2) hv
  | false =>
    show tb σ H1 Q
    exact h2 rfl O H1 σ (g.mono e1) Q fun d v H2 e e2 hv => q d v H2 e (e1.trans e2) hv
/-- a < b < c -/
theorem ev_chain {x y z : V} {a b : Bool} (ha : EvD C ta G (.v x)) (hb : EvD C tb G (.v y)) (hc : a = true → EvD C tc G (.v z)) (h1 : ∀ (H : Hp) (Q : VK), Q (.bl a) H → r x y H Q)
    (h2 : ∀ (H : Hp) (Q : VK), Q (.bl b) H → r' y z H Q) : EvD C (tChain r r' ta tb tc) G (.b (a && b)) := fun O H σ g Q q =>
  ha O H σ g _ fun d v H1 e e1 hv => hb O H1 σ (g.mono e1) _ fun d' v' H2 e' e2 hv' => by
    subst e e'
    rw [rep_v.mp hv, rep_v.mp hv']
    refine h1 H2 _ ⟨a, rfl, ?_⟩
    cases a with
    | true =>
      refine hc rfl O H2 σ (g.mono (e1.trans e2)) _ fun d'' v'' H3 e'' e3 hv'' => ?_
      subst e''
      rw [rep_v.mp hv'']
      exact h2 H3 Q (q _ _ H3 rfl ((e1.trans e2).trans e3) (rep_v.mpr rfl))
    | false => exact q _ _ H2 rfl (e1.trans e2) (rep_v.mpr rfl)
/-! ### fields -/
theorem plc : (webF p t).lookup ("places" : Str) = some (V.str p) := by
  unfold webF
  rw [List.lookup_cons]
  have e : (("places" : Str) == ("places" : Str)) = true := beq_self_eq_true _
  rw [e]
theorem tsl : (webF p t).lookup ("ties" : Str) = some (V.ref t) := by
  unfold webF
  rw [List.lookup_cons]
  have e : (("ties" : Str) == ("places" : Str)) = false := by decide +kernel
  rw [e]
  show (List.lookup ("ties" : Str) [(("ties" : Str), V.ref t)]) = some (V.ref t)
  rw [List.lookup_cons]
  have e2 : (("ties" : Str) == ("ties" : Str)) = true := beq_self_eq_true _
  rw [e2]
theorem ev_places {K : PySem.W.Frag} {p : Str} {ts : List Str} (cl : Cls K C.cls) (nF : NoAttr K C.cls "places") (h : EvD C te G (.web p ts)) : EvD C (tFld K te "places") G (.s p) := fun O H σ g Q q =>
  h O H σ g _ fun d v H1 e e1 hv => by
    subst e
    obtain ⟨a, dx, t, rfl, h2, h3⟩ := rep_web.mp hv
    exact ⟨a, C.cls, dx, _, _, rfl, hide_le _ _ h2 rfl, cl, nF, plc, q _ _ H1 rfl e1 (rep_v.mpr rfl)⟩
theorem ev_ties {K : PySem.W.Frag} {p : Str} {ts : List Str} (cl : Cls K C.cls) (nF : NoAttr K C.cls "ties") (h : EvD C te G (.web p ts)) : EvD C (tFld K te "ties") G (.tup (dS ts)) := fun O H σ g Q q =>
  h O H σ g _ fun d v H1 e e1 hv => by
    subst e
    obtain ⟨a, dx, t, rfl, h2, h3⟩ := rep_web.mp hv
    exact ⟨a, C.cls, dx, _, _, rfl, hide_le _ _ h2 rfl, cl, nF, tsl, q _ _ H1 rfl e1 (rep_tup.mpr ⟨t, _, rfl, h3, repL_flat.mpr rfl⟩)⟩
end
end Wr
set_option maxHeartbeats 4000000
/-! enumerate(tuple) -/
namespace Wr
open PySem PySem.Spec PyProof.Rows L2
open Sem (wp)
theorem meets_enumT {v : Value} {o : Obj} {H : Heap → Prop} (B : Begins v o H) :
    Meets (Builtin.«enumerate.__new__» ⟨[.type "enumerate", v], []⟩) (fun _ R s => H s.heap ∧
      R (.ok (.ret (.ref (s.heap.push o).objs.size))) { s with heap := (s.heap.push o).push { cls := .type "enumerate", data := .fields #[.none, .bool false, .ref s.heap.objs.size, rawInt 0, .none, .none] } }) :=
  .of_wp fun prog w A R s h => by
    obtain ⟨hp, g, d, tk, os⟩ := s; obtain ⟨h1, h⟩ := h
    have hsub := sub_enumerate
    have q1 : ∀ {A' : Around} {E : Value → Shared → Prop} {Q : Value → Shared → Prop}, Q (.ref hp.objs.size) ⟨hp.push o, g, d, tk, os⟩ → wpAny (model prog w) A' (pyIter v) Q E ⟨hp, g, d, tk, os⟩ :=
      fun q => B.iter prog w _ _ ⟨hp, g, d, tk, os⟩ _ h1 q
    wp_walk using q1
    refine wpAny_stack_any fun st => wpAny_pure ?_
    split
    · rename_i c _ _ _ _ _
      cases (c == Value.type "enumerate")
      · wp_walk using q1
        exact ⟨_, rfl, h⟩
      · wp_walk using q1
        exact ⟨_, rfl, h⟩
    · wp_walk using q1
      exact ⟨_, rfl, h⟩
theorem call_enumT {prog : Program} {w : World} {A : Around} {E : Value → Shared → Prop} {s : Shared} {v : Value} {o : Obj} {H : Heap → Prop} {Q : Value → Shared → Prop} (B : Begins v o H) (h1 : H s.heap)
    (h : ∀ h', IsEnum h' (s.heap.objs.size + 1) s.heap.objs.size 0 .none → h'.get? s.heap.objs.size = some o → h'.objs.size = s.heap.objs.size + 2 →
      (∀ b o, s.heap.get? b = some o → h'.get? b = some o) → Q (.ref (s.heap.objs.size + 1)) { s with heap := h' }) :
    wpAny (model prog w) A (call (.type "enumerate") [v]) Q E s := by
  refine callType_new F.called_enumerate (by decide) (F.typeCall_enumerate_1 _) (F.newCall_enumerate_1 _) (fun obj => F.args_object_init_2 obj _) F.entry_enumerate_new
    (meets_enumT B) ⟨h1, ?_⟩
  have hz : (s.heap.push o).objs.size = s.heap.objs.size + 1 := Heap.size_push ..
  show _ ∧ _
  rw [hz]
  have he : IsEnum ((s.heap.push o).push { cls := .type "enumerate", data := .fields #[.none, .bool false, .ref s.heap.objs.size, rawInt 0, .none, .none] }) (s.heap.objs.size + 1) s.heap.objs.size 0 .none := by
    have := Heap.get?_push_size (s.heap.push o) (o := { cls := .type "enumerate", data := .fields #[.none, .bool false, .ref s.heap.objs.size, rawInt 0, .none, .none] }) rfl
    rw [hz] at this; exact this
  refine ⟨⟨_, he, rfl⟩, h _ he (Heap.get?_push_of_some _ (Heap.get?_push_size _ B.free)) (by rw [Heap.size_push, hz]) fun b o x => Heap.get?_push_of_some _ (Heap.get?_push_of_some _ x)⟩

def IteT (K : PySem.W.Frag) (a : Addr) : It :=
  ⟨fun i H => ∃ (xs : List V) (x : V), SqT K H a xs ∧ xs[i]? = some x, fun i H v H' => ∃ T x, v = .ref T ∧ H T = none ∧ H' = upd H T (.tup [.int (i : Nat), x]) ∧ ∀ xs, SqT K H a xs → xs[i]? = some x, fun i H => ∃ xs : List V, SqT K H a xs ∧ xs.length ≤ i⟩
theorem turn_enumT {P : Program} {w : World} {K : PySem.W.Frag} {elts : List Expr} {kk : Nat} {tpos : Pos} (a e it : Addr) (hne : e ≠ it) (hea : e ≠ a) (hia : a ≠ it) :
    Turn P w K (.Tuple elts kk tpos) (IteT K a) [e, it] e (fun i h => (∃ old, IsEnum h e it ((i : Nat) : Int) old) ∧ h.IsTupleIter it a i) where
  mem := by simp
  obj := fun i h st b hb => by
    obtain ⟨⟨old, he⟩, ⟨o, ho, hc, hd⟩⟩ := st
    have e' : b = e ∨ b = it := by simpa using hb
    rcases e' with z | z
    · rw [z]; exact ⟨_, he, fun v q => nomatch q⟩
    · rw [z]; exact ⟨o, ho, fun v q => by rw [hd] at q; cases q⟩
  keep := fun i h h' st k => let ⟨⟨old, he⟩, hi⟩ := st; ⟨⟨old, k e (by simp) _ he⟩, hi.at fun o q => k it (by simp) o q⟩
  item := by
    intro X hP hw hK hc i pins s σ H E I hf st hg
    subst hP hw hK
    obtain ⟨⟨old, he⟩, hit⟩ := st
    obtain ⟨xs, x, hq, hx⟩ := hg
    obtain ⟨its, rv, p, hz⟩ := I.tuple hq
    obtain ⟨u, hu, ru⟩ := rv.get hx
    have hel : e < s.heap.objs.size := Heap.lt_size he
    have hil : it < s.heap.objs.size := by obtain ⟨_, q, _⟩ := hit; exact Heap.lt_size q
    have hd1 : X.A.in1.handled = none := I.ok.hd hc
    have Dr := Draws.tuple (prog := X.prog) (w := X.w) hd1 it a hia its.toArray
    have hil2 : i < its.toArray.size := by
      have := (List.getElem?_eq_some_iff.mp hu).1
      simpa using this
    refine wpAny_pyNext_enum_itemD Dr he ⟨hit, p⟩ hil2 hne (by simp [hne, hea]) fun y h' tk hy ho hit' hT hsz hk => ?_
    have ey : y = u := by
      have q : its.toArray[i]? = some u := by simpa using hu
      rw [q] at hy
      exact (Option.some.inj hy).symm
    subst ey
    refine ⟨_, rfl, wpAny_letOwnedTupleGo_enum (s := { s with heap := h', toks := tk + 1 }) ho fun h'' he' sb => ?_⟩
    have hT2 : h''.get? s.heap.objs.size = some { cls := .type "tuple", data := .seq #[.int i tk, y] } := (sb.2 _ (Nat.ne_of_gt hel)).trans hT
    have new : ObjOk X.prog X.w (upd H s.heap.objs.size (.tup [.int (i : Nat), x])) h'' s.heap.objs.size (.tup [.int (i : Nat), x]) :=
      ⟨by show 2 ≤ sizeLine; decide, [.int i tk, y], .cons ⟨_, rfl⟩ (.cons ru .nil), ⟨_, hT2, rfl, _, rfl⟩⟩
    have I1 : Inv X pins σ (upd H s.heap.objs.size (.tup [.int (i : Nat), x])) { s with heap := h'', toks := tk + 1 } :=
      I.turnedNew (ch := [e, it]) (fun b ob hb q => (sb.2 b (fun z => hb (by simp [z]))).trans (hk b ob (fun z => hb (by simp [z])) (fun z => hb (by simp [z])) q)) hf (Nat.le_refl _) new
    refine ⟨.ref s.heap.objs.size, _, I1, rfl, ⟨_, x, rfl, I.hok.fresh (Nat.le_refl _), rfl, fun ys hy => by rw [I.tuple_inj hy hq]; exact hx⟩, ⟨⟨y, ?_⟩, hit'.1.at fun o q => (sb.2 it (Ne.symm hne)).trans q⟩, fun b hb => ?_⟩
    · have e1 : ((i + 1 : Nat) : Int) = (i : Int) + 1 := by omega
      rw [e1]; exact he'
    · have hb' : b < s.heap.objs.size := by
        have e' : b = e ∨ b = it := by simpa using hb
        rcases e' with z | z
        · rw [z]; exact hel
        · rw [z]; exact hil
      rw [upd_ne (Nat.ne_of_lt hb')]
      exact (hf b hb).1
  done := by
    intro X hP hw hK hc i pins s σ H E I hf st hg
    subst hP hw hK
    obtain ⟨⟨old, he⟩, hit⟩ := st
    obtain ⟨xs, hq, hx⟩ := hg
    obtain ⟨its, rv, p, hz⟩ := I.tuple hq
    obtain ⟨f0, f1, f2, f3, f4, f5⟩ := hf it (by simp)
    have hl := rv.length
    have hd1 : X.A.in1.handled = none := I.ok.hd hc
    have D0 := Draws.tuple (prog := X.prog) (w := X.w) hd1 it a hia its.toArray
    have Dr : Draws X.prog X.w X.A.in1 it [it, a] i (fun i v => its.toArray[i]? = some v) (fun j h => j = i ∧ h.IsTupleIter it a i ∧ h.IsTuple a its.toArray) := by
      refine ⟨fun j h st => let ⟨o, ho, _⟩ := st.2.1; ⟨o, ho⟩, fun j h h' st k => ⟨st.1, st.2.1.at fun o e => k it (by simp) o e, st.2.2.at fun o e => k a (by simp) o e⟩, fun j s Q E hj st _ => ?_, fun s Q E st hE => ?_⟩
      · exact absurd st.1 (Nat.ne_of_lt hj)
      · refine wpAny_nextOf_tuple_end hd1 st.2.1 st.2.2 ?_ hE
        have : its.length ≤ i := by omega
        simpa using this
    exact wpAny_pyNext_enum_endD Dr he ⟨rfl, hit, p⟩ fun h' eb => ⟨rfl, I.turned (t' := s.toks) (fun b o hb q => eb b o hb q) f0 f1 f3 f4 f5⟩
  self := fun A i s Q E st h => let ⟨⟨_, he⟩, _⟩ := st; wpAny_pyIter_enum he h
def iEnumT (K : PySem.W.Frag) (ta : TA) : TI := fun σ H R => ta σ H fun vs H1 => ∃ a xs, vs = [.ref a] ∧ SqT K H1 a xs ∧ R (IteT K a) H1
theorem pi_enumT {X : Cx} {e : Expr} {ta : TA} {p pos tpos : Pos} {elts : List Expr} {kk : Nat} (hg : Gl X "enumerate") (hm : X.mg "enumerate" = none) (ha : PA X [e] ta) (hs : starEach [e] X.env = [(false, eval e X.env)] := by rfl) :
    PI X (.Tuple elts kk tpos) (.Call (.Name "enumerate" p) [e] [] pos) (iEnumT X.K ta) := by
  refine ⟨fun pins s σ H R I h => ?_⟩
  refine Call_ (ld_blt I hg hm boot_enumerate (PyProof.Rows.callWith_type1 (thn (ha.run pos pins s σ H _ I h) fun us s1 ⟨vs, H1, I1, r1, q1⟩ => ?_) hs rfl))
  obtain ⟨a, xs, ex, hq, q⟩ := q1
  subst ex
  cases r1 with
  | cons r rr =>
    cases rr
    cases r
    obtain ⟨its, rv, p', hz⟩ := I1.tuple hq
    obtain ⟨oa, hoa, _⟩ := id p'
    have hal := Heap.lt_size hoa
    refine call_enumT (begins_tuple a its.toArray) p' fun h' he hit hsz hk => wpAny_pyIter_enum he ?_
    have I2 : Inv X pins σ H1 { s1 with heap := h' } := I1.kept (t' := s1.toks) hk
    refine ⟨s1.heap.objs.size + 1, [s1.heap.objs.size + 1, s1.heap.objs.size], _, _, H1, rfl, I2, turn_enumT a (s1.heap.objs.size + 1) s1.heap.objs.size (Nat.succ_ne_self _) (Nat.ne_of_gt (Nat.lt_succ_of_lt hal)) (Nat.ne_of_lt hal), ⟨⟨.none, he⟩, ⟨_, hit, rfl, rfl⟩⟩, fun b hb => ?_, q⟩
    have e' : b = s1.heap.objs.size + 1 ∨ b = s1.heap.objs.size := by simpa using hb
    have hle : s1.heap.objs.size ≤ b := by
      rcases e' with z | z
      · rw [z]; exact Nat.le_add_right _ _
      · rw [z]; exact Nat.le_refl _
    exact I1.fpOk hle (I1.hok.fresh hle)
end Wr
set_option maxHeartbeats 4000000
namespace Wr
open PySem L2
/-! ### what is walked -/
section
variable (C : Cn)
/-- an iterator that gives these, whatever comes to pass elsewhere -/
def WalkD (J : It) (Hk : Hp) (ds : List D) : Prop := ∀ (O : List Addr) (H : Hp), Sub Hk (hide O H) → Dom O H →
  (∀ i d, ds[i]? = some d → J.go i H ∧ ∀ x H', J.yld i H x H' → Same H H' ∧ Rep C (hide O H') d x) ∧ J.stop ds.length H
def EvI (wi : TI) (G : En) (ds : List D) : Prop := ∀ (O : List Addr) (H : Hp) (σ : L2.St), GamE C O H G σ → ∀ R : It → Hp → Prop, (∀ J H', Same H H' → WalkD C J (hide O H') ds → R J H') → wi σ H R
end
section
variable {C : Cn} {K : PySem.W.Frag} {G : En} {tl te ta tb : TE} {ds es : List D}
theorem EvI.to (h : EvI C wi G ds) (e : ds = es) : EvI C wi G es := e ▸ h
theorem hide_back {O : List Addr} {H : Hp} {a : Addr} {o : HO} (h : hide O H a = some o) : a ∉ O := fun z => by
  rw [hide_in z] at h
  cases h
theorem ei_list (h : EvD C tl G (.lst ds)) : EvI C (iList K tl) G ds := fun O H σ g R r => h O H σ g _ fun d v H1 e e1 hv => by
  subst e
  obtain ⟨a, vs, rfl, h2, h3⟩ := rep_lst.mp hv
  refine ⟨a, rfl, ⟨vs, SqL.of (hide_le _ _ h2 rfl)⟩, r _ H1 e1 fun O' H' s' d' => ⟨fun i d hd => ?_, ?_⟩⟩
  · have ha := hide_le _ _ (s' _ _ h2 rfl) rfl
    obtain ⟨x, hx, rx⟩ := h3.get hd
    refine ⟨⟨vs, x, SqL.of ha, hx⟩, fun y H'' hy => ?_⟩
    obtain ⟨rfl, hy⟩ := hy
    have := hy vs (SqL.of ha)
    rw [hx] at this
    cases this
    exact ⟨Same.refl _, rx.mono s'⟩
  · exact ⟨vs, SqL.of (hide_le _ _ (s' _ _ h2 rfl) rfl), by rw [h3.length]; exact Nat.le_refl _⟩
theorem ei_tup (h : EvD C tl G (.tup ds)) : EvI C (iTup K tl) G ds := fun O H σ g R r => h O H σ g _ fun d v H1 e e1 hv => by
  subst e
  obtain ⟨a, vs, rfl, h2, h3⟩ := rep_tup.mp hv
  refine ⟨a, rfl, ⟨vs, SqT.of (hide_le _ _ h2 rfl)⟩, r _ H1 e1 fun O' H' s' d' => ⟨fun i d hd => ?_, ?_⟩⟩
  · have ha := hide_le _ _ (s' _ _ h2 rfl) rfl
    obtain ⟨x, hx, rx⟩ := h3.get hd
    refine ⟨⟨vs, x, SqT.of ha, hx⟩, fun y H'' hy => ?_⟩
    obtain ⟨rfl, hy⟩ := hy
    have := hy vs (SqT.of ha)
    rw [hx] at this
    cases this
    exact ⟨Same.refl _, rx.mono s'⟩
  · exact ⟨vs, SqT.of (hide_le _ _ (s' _ _ h2 rfl) rfl), by rw [h3.length]; exact Nat.le_refl _⟩
def signs (z : Str) : List D := z.cps.toList.map fun c => D.s ⟨#[c]⟩
theorem ei_str {z : Str} (h : EvD C te G (.s z)) : EvI C (iStr te) G (signs z) := fun O H σ g R r => h O H σ g _ fun d v H1 e e1 hv => by
  subst e
  refine ⟨z, rep_v.mp hv, r _ H1 e1 fun O' H' s' d' => ⟨fun i d hd => ?_, ?_⟩⟩
  · unfold signs at hd
    rw [List.getElem?_map] at hd
    cases hc : z.cps.toList[i]? with
    | none =>
      rw [hc] at hd
      cases hd
    | some c =>
      rw [hc] at hd
      have hd : D.s ⟨#[c]⟩ = d := Option.some.inj hd
      have hi := (List.getElem?_eq_some_iff.mp hc).1
      have hc2 : z.cps[i]? = some c := by simpa using hc
      have hi2 : i < z.cps.size := by simpa using hi
      refine ⟨hi2, fun y H'' hy => ?_⟩
      obtain ⟨rfl, c', hc', rfl⟩ := hy
      rw [hc2] at hc'
      cases hc'
      exact ⟨Same.refl _, hd ▸ rep_v.mpr rfl⟩
  · show z.cps.size ≤ (signs z).length
    unfold signs
    simp
theorem ei_rng1 {ta : TA} {n : Int} (h : EvA C ta G (· = [D.i n])) (hn : n ≤ 2 ^ 60 := by decide) (hn0 : -(2 ^ 60) ≤ n := by omega) : EvI C (iRng1 ta) G ((List.range n.toNat).map fun i => D.i (i : Nat)) := fun O H σ g R r => h O H σ g _ fun ds vs H1 e e1 hv => by
  subst e
  obtain ⟨v, q, rfl, h1, h2⟩ := repL_cons.mp hv
  rw [rep_v.mp h1, repL_nil.mp h2]
  refine ⟨n, rfl, by omega, by omega, r _ H1 e1 fun O' H' s' d' => ⟨fun i d hd => ?_, ?_⟩⟩
  · rw [List.getElem?_map] at hd
    have hi : i < n.toNat := by
      cases hc : (List.range n.toNat)[i]? with
      | none =>
        rw [hc] at hd
        cases hd
      | some c => simpa using (List.getElem?_eq_some_iff.mp hc).1
    rw [List.getElem?_range hi] at hd
    have hd : D.i (i : Nat) = d := Option.some.inj hd
    refine ⟨hi, fun y H'' hy => ?_⟩
    obtain ⟨rfl, rfl⟩ := hy
    refine ⟨Same.refl _, hd ▸ rep_v.mpr ?_⟩
    rw [Int.zero_add]
  · show n.toNat ≤ _
    simp
theorem ei_rng2 {ta : TA} {a b : Int} (h : EvA C ta G (· = [D.i a, D.i b])) (hn : -(2 ^ 60) ≤ a ∧ a ≤ 2 ^ 60 ∧ -(2 ^ 60) ≤ b ∧ b ≤ 2 ^ 60) : EvI C (iRng2 ta) G ((List.range (b - a).toNat).map fun i => D.i (a + (i : Nat))) := fun O H σ g R r => h O H σ g _ fun ds vs H1 e e1 hv => by
  subst e
  obtain ⟨v, q, rfl, h1, h2⟩ := repL_cons.mp hv
  obtain ⟨v', q', rfl, h3, h4⟩ := repL_cons.mp h2
  rw [rep_v.mp h1, rep_v.mp h3, repL_nil.mp h4]
  refine ⟨a, b, rfl, by omega, r _ H1 e1 fun O' H' s' d' => ⟨fun i d hd => ?_, ?_⟩⟩
  · rw [List.getElem?_map] at hd
    have hi : i < (b - a).toNat := by
      cases hc : (List.range (b - a).toNat)[i]? with
      | none =>
        rw [hc] at hd
        cases hd
      | some c => simpa using (List.getElem?_eq_some_iff.mp hc).1
    rw [List.getElem?_range hi] at hd
    have hd : D.i (a + (i : Nat)) = d := Option.some.inj hd
    refine ⟨hi, fun y H'' hy => ?_⟩
    obtain ⟨rfl, rfl⟩ := hy
    exact ⟨Same.refl _, hd ▸ rep_v.mpr rfl⟩
  · show (b - a).toNat ≤ _
    simp
/-- a new pair -/
theorem pair_new {O : List Addr} {H : Hp} {T : Addr} {x y : V} {d e : D} (dm : Dom O H) (n : H T = none) (hx : Rep C (hide O H) d x) (hy : Rep C (hide O H) e y) : Same H (upd H T (.tup [x, y])) ∧ Rep C (hide O (upd H T (.tup [x, y]))) (.tup [d, e]) (.ref T) :=
  ⟨same_new n, rep_tup.mpr ⟨T, [x, y], rfl, by rw [hide_at (dm.out n)]; exact upd_same, .cons (hx.mono (hide_mono (same_new n))) (.one (hy.mono (hide_mono (same_new n))))⟩⟩
def enumD (ds : List D) : List D := ds.mapIdx fun i d => D.tup [D.i (i : Nat), d]
theorem enumD_get {ds : List D} {i : Nat} {d : D} (h : (enumD ds)[i]? = some d) : ∃ e, ds[i]? = some e ∧ d = D.tup [D.i (i : Nat), e] := by
  unfold enumD at h
  rw [List.getElem?_mapIdx] at h
  cases hc : ds[i]? with
  | none =>
    rw [hc] at h
    cases h
  | some c =>
    rw [hc] at h
    exact ⟨c, rfl, (Option.some.inj h).symm⟩
theorem enumD_len (ds : List D) : (enumD ds).length = ds.length := by
  unfold enumD
  rw [List.length_mapIdx]
theorem ei_enum {ta : TA} (h : EvA C ta G (· = [D.lst ds])) : EvI C (iEnum K ta) G (enumD ds) := fun O H σ g R r => h O H σ g _ fun es vs H1 e e1 hv => by
  subst e
  obtain ⟨v, q, rfl, h1, h2⟩ := repL_cons.mp hv
  rw [repL_nil.mp h2]
  obtain ⟨a, vs, rfl, h2, h3⟩ := rep_lst.mp h1
  refine ⟨a, vs, rfl, SqL.of (hide_le _ _ h2 rfl), r _ H1 e1 fun O' H' s' d' => ⟨fun i d hd => ?_, ?_⟩⟩
  · have ha := hide_le _ _ (s' _ _ h2 rfl) rfl
    obtain ⟨e, he, rfl⟩ := enumD_get hd
    obtain ⟨x, hx, rx⟩ := h3.get he
    refine ⟨⟨vs, x, SqL.of ha, hx⟩, fun y H'' hy => ?_⟩
    obtain ⟨T, x', rfl, hT, rfl, hy⟩ := hy
    have := hy vs (SqL.of ha)
    rw [hx] at this
    cases this
    exact pair_new d' hT (rep_v.mpr rfl) (rx.mono s')
  · exact ⟨vs, SqL.of (hide_le _ _ (s' _ _ h2 rfl) rfl), by rw [h3.length, enumD_len]; exact Nat.le_refl _⟩
theorem ei_enumT {ta : TA} (h : EvA C ta G (· = [D.tup ds])) : EvI C (iEnumT K ta) G (enumD ds) := fun O H σ g R r => h O H σ g _ fun es vs H1 e e1 hv => by
  subst e
  obtain ⟨v, q, rfl, h1, h2⟩ := repL_cons.mp hv
  rw [repL_nil.mp h2]
  obtain ⟨a, vs, rfl, h2, h3⟩ := rep_tup.mp h1
  refine ⟨a, vs, rfl, SqT.of (hide_le _ _ h2 rfl), r _ H1 e1 fun O' H' s' d' => ⟨fun i d hd => ?_, ?_⟩⟩
  · have ha := hide_le _ _ (s' _ _ h2 rfl) rfl
    obtain ⟨e, he, rfl⟩ := enumD_get hd
    obtain ⟨x, hx, rx⟩ := h3.get he
    refine ⟨⟨vs, x, SqT.of ha, hx⟩, fun y H'' hy => ?_⟩
    obtain ⟨T, x', rfl, hT, rfl, hy⟩ := hy
    have := hy vs (SqT.of ha)
    rw [hx] at this
    cases this
    exact pair_new d' hT (rep_v.mpr rfl) (rx.mono s')
  · exact ⟨vs, SqT.of (hide_le _ _ (s' _ _ h2 rfl) rfl), by rw [h3.length, enumD_len]; exact Nat.le_refl _⟩
def zipD (ds es : List D) : List D := (ds.zip es).map fun p => D.tup [p.1, p.2]
theorem zipD_get {ds es : List D} {i : Nat} {d : D} (h : (zipD ds es)[i]? = some d) : ∃ x y, ds[i]? = some x ∧ es[i]? = some y ∧ d = D.tup [x, y] := by
  unfold zipD at h
  rw [List.getElem?_map] at h
  cases hc : (ds.zip es)[i]? with
  | none =>
    rw [hc] at h
    cases h
  | some c =>
    rw [hc] at h
    obtain ⟨h1, h2⟩ := List.getElem?_zip_eq_some.mp hc
    exact ⟨c.1, c.2, h1, h2, (Option.some.inj h).symm⟩
theorem zipD_len (ds es : List D) : (zipD ds es).length = min ds.length es.length := by
  unfold zipD
  rw [List.length_map, List.length_zip]
theorem ei_zip {ta : TA} (h : EvA C ta G (· = [D.lst ds, D.lst es])) : EvI C (RZ.iZipA K ta) G (zipD ds es) := fun O H σ g R r => h O H σ g _ fun fs vs H1 e e1 hv => by
  subst e
  obtain ⟨v, q, rfl, h1, h2⟩ := repL_cons.mp hv
  obtain ⟨v', q', rfl, h3, h4⟩ := repL_cons.mp h2
  rw [repL_nil.mp h4]
  obtain ⟨a, xs, rfl, ha, hx⟩ := rep_lst.mp h1
  obtain ⟨b, ys, rfl, hb, hy⟩ := rep_lst.mp h3
  refine ⟨a, b, xs, ys, rfl, .inl ⟨SqL.of (hide_le _ _ ha rfl), SqL.of (hide_le _ _ hb rfl), r _ H1 e1 fun O' H' s' d' => ⟨fun i d hd => ?_, ?_⟩⟩⟩
  · have ha' := hide_le _ _ (s' _ _ ha rfl) rfl
    have hb' := hide_le _ _ (s' _ _ hb rfl) rfl
    obtain ⟨d1, d2, e1, e2, rfl⟩ := zipD_get hd
    obtain ⟨x, hx1, rx⟩ := hx.get e1
    obtain ⟨y, hy1, ry⟩ := hy.get e2
    refine ⟨⟨xs, ys, x, y, SqL.of ha', SqL.of hb', hx1, hy1⟩, fun z H'' hz => ?_⟩
    obtain ⟨T, x', y', rfl, hT, rfl, f1, f2⟩ := hz
    have := f1 xs (SqL.of ha')
    rw [hx1] at this
    cases this
    have := f2 ys (SqL.of hb')
    rw [hy1] at this
    cases this
    exact pair_new d' hT (rx.mono s') (ry.mono s')
  · refine ⟨xs, ys, SqL.of (hide_le _ _ (s' _ _ ha rfl) rfl), SqL.of (hide_le _ _ (s' _ _ hb rfl) rfl), ?_⟩
    rw [hx.length, hy.length, zipD_len]
    omega
theorem ei_zipT {ta : TA} (h : EvA C ta G (· = [D.tup ds, D.tup es])) : EvI C (RZ.iZipA K ta) G (zipD ds es) := fun O H σ g R r => h O H σ g _ fun fs vs H1 e e1 hv => by
  subst e
  obtain ⟨v, q, rfl, h1, h2⟩ := repL_cons.mp hv
  obtain ⟨v', q', rfl, h3, h4⟩ := repL_cons.mp h2
  rw [repL_nil.mp h4]
  obtain ⟨a, xs, rfl, ha, hx⟩ := rep_tup.mp h1
  obtain ⟨b, ys, rfl, hb, hy⟩ := rep_tup.mp h3
  refine ⟨a, b, xs, ys, rfl, .inr ⟨SqT.of (hide_le _ _ ha rfl), SqT.of (hide_le _ _ hb rfl), r _ H1 e1 fun O' H' s' d' => ⟨fun i d hd => ?_, ?_⟩⟩⟩
  · have ha' := hide_le _ _ (s' _ _ ha rfl) rfl
    have hb' := hide_le _ _ (s' _ _ hb rfl) rfl
    obtain ⟨d1, d2, e1, e2, rfl⟩ := zipD_get hd
    obtain ⟨x, hx1, rx⟩ := hx.get e1
    obtain ⟨y, hy1, ry⟩ := hy.get e2
    refine ⟨⟨xs, ys, x, y, SqT.of ha', SqT.of hb', hx1, hy1⟩, fun z H'' hz => ?_⟩
    obtain ⟨T, x', y', rfl, hT, rfl, f1, f2⟩ := hz
    have := f1 xs (SqT.of ha')
    rw [hx1] at this
    cases this
    have := f2 ys (SqT.of hb')
    rw [hy1] at this
    cases this
    exact pair_new d' hT (rx.mono s') (ry.mono s')
  · refine ⟨xs, ys, SqT.of (hide_le _ _ (s' _ _ ha rfl) rfl), SqT.of (hide_le _ _ (s' _ _ hb rfl) rfl), ?_⟩
    rw [hx.length, hy.length, zipD_len]
    omega
end
/-! ### targets -/
/-- (a, b) = a text of two signs -/
def gStr2 (t : TGs) : TG := fun v σ H Q => ∃ a b : Nat, v = .str ⟨#[a, b]⟩ ∧ t [.str ⟨#[a]⟩, .str ⟨#[b]⟩] σ H Q
/-- g puts d into the names at js as u tells -/
def EvG (C : Cn) (g : TG) (js : List Nat) (d : D) (u : List SV → List SV) : Prop := ∀ (O : List Addr) (H : Hp) (De : List SV) (σ : L2.St) (x : V), Rep C (hide O H) d x → SVs C (hide O H) De σ → ∀ Q : L2.St → Hp → Prop,
  (∀ σ', SVs C (hide O H) (u De) σ' → σ'.length = σ.length → (∀ j, σ'[j]? ≠ σ[j]? → j ∈ js) → Q σ' H) → g x σ H Q
section
variable {C : Cn} {K : PySem.W.Frag}
theorem wipe_get {σ : L2.St} {j : Nat} : ∀ {vs : List Nat}, (wipe σ vs)[j]? = if j ∈ vs ∧ j < σ.length then some none else σ[j]?
  | [] => by
    rw [if_neg (by simp)]
    rfl
  | v :: vs => by
    unfold wipe
    by_cases h : v = j
    · subst h
      by_cases hl : v < σ.length
      · rw [List.getElem?_set_self (by rw [wipe_length]; exact hl), if_pos ⟨List.mem_cons_self .., hl⟩]
      · rw [List.getElem?_eq_none (by rw [List.length_set, wipe_length]; omega), if_neg (fun z => hl z.2), List.getElem?_eq_none (by omega)]
    · rw [List.getElem?_set_ne h, wipe_get]
      have e : (j ∈ v :: vs ∧ j < σ.length) ↔ (j ∈ vs ∧ j < σ.length) := by
        rw [List.mem_cons]
        constructor
        · rintro ⟨z | z, l⟩
          · exact absurd z.symm h
          · exact ⟨z, l⟩
        · rintro ⟨z, l⟩
          exact ⟨.inr z, l⟩
      simp only [e]
theorem wipe_eq {σ σ' : L2.St} {vs : List Nat} (hl : σ'.length = σ.length) (h : ∀ j, σ'[j]? ≠ (wipe σ vs)[j]? → j ∈ vs) : wipe σ' vs = wipe σ vs := by
  apply List.ext_getElem?
  intro j
  rw [wipe_get, wipe_get, hl]
  by_cases hj : j ∈ vs ∧ j < σ.length
  · rw [if_pos hj, if_pos hj]
  · rw [if_neg hj, if_neg hj]
    refine Classical.byContradiction fun q => ?_
    have m := h j (by rw [wipe_get, if_neg hj]; exact q)
    by_cases l : j < σ.length
    · exact hj ⟨m, l⟩
    · exact q (by rw [List.getElem?_eq_none (by omega), List.getElem?_eq_none (by omega)])
theorem set_same {σ : L2.St} {i j : Nat} {o : Option V} (h : (σ.set i o)[j]? ≠ σ[j]?) : j ∈ [i] := by
  refine List.mem_singleton.mpr (Classical.byContradiction fun q => h ?_)
  rw [List.getElem?_set_ne (Ne.symm q)]
theorem sv_im {H : Hp} {d : D} {v : V} (h : Rep C H d v) : sv C H (.im d) (some v) := ⟨v, rfl, h⟩
theorem eg_name {i : Nat} {d : D} : EvG C (gName i) [i] d (·.set i (.im d)) := fun O H De σ x hx hs Q q =>
  q _ (hs.set i (sv_im hx)) (List.length_set ..) fun _ h => set_same h
theorem set2_same {σ : L2.St} {i j k : Nat} {o p : Option V} (h : ((σ.set i o).set k p)[j]? ≠ σ[j]?) : j ∈ [i, k] := by
  refine Classical.byContradiction fun q => h ?_
  have q1 : i ≠ j := fun z => q (by simp [z])
  have q2 : k ≠ j := fun z => q (by simp [z])
  rw [List.getElem?_set_ne q2, List.getElem?_set_ne q1]
theorem eg_pair {i j : Nat} {d e : D} : EvG C (gTup K 2 (gCons (gName i) (gCons (gName j) gNil))) [i, j] (.tup [d, e]) (fun l => (l.set i (.im d)).set j (.im e)) := fun O H De σ x hx hs Q q => by
  obtain ⟨a, vs, rfl, h2, h3⟩ := rep_tup.mp hx
  obtain ⟨v, r, rfl, h4, h5⟩ := repL_cons.mp h3
  obtain ⟨v', r', rfl, h6, h7⟩ := repL_cons.mp h5
  rw [repL_nil.mp h7] at h2
  have hl : ((σ.set i (some v)).set j (some v')).length = σ.length := by rw [List.length_set, List.length_set]
  exact ⟨a, [v, v'], rfl, SqT.of (hide_le _ _ h2 rfl), rfl, v, [v'], rfl, v', [], rfl, rfl, q _ ((hs.set i (sv_im h4)).set j (sv_im h6)) hl fun _ h => set2_same h⟩
theorem eg_str2 {i j : Nat} {a b : Nat} : EvG C (gStr2 (gCons (gName i) (gCons (gName j) gNil))) [i, j] (.s ⟨#[a, b]⟩) (fun l => (l.set i (.im (.s ⟨#[a]⟩))).set j (.im (.s ⟨#[b]⟩))) := fun O H De σ x hx hs Q q => by
  have hl : ((σ.set i (some (V.str ⟨#[a]⟩))).set j (some (V.str ⟨#[b]⟩))).length = σ.length := by rw [List.length_set, List.length_set]
  exact ⟨a, b, rep_v.mp hx, _, _, rfl, _, _, rfl, rfl, q _ ((hs.set i (sv_im (rep_v.mpr rfl))).set j (sv_im (rep_v.mpr rfl))) hl fun _ h => set2_same h⟩
end
/-! ### comprehensions -/
def wipeD (l : List SV) : List Nat → List SV
  | [] => l
  | v :: vs => (wipeD l vs).set v .no
def En.un (G : En) (vs : List Nat) : En := { G with De := wipeD G.De vs }
def En.set (G : En) (i : Nat) (s : SV) : En := { G with De := G.De.set i s }
def En.up (G : En) (u : List SV → List SV) : En := { G with De := u G.De }
section
variable {C : Cn} {K : PySem.W.Frag}
theorem SVs.wipe {H : Hp} {De : List SV} {σ : L2.St} (h : SVs C H De σ) : ∀ vs : List Nat, SVs C H (wipeD De vs) (L2.wipe σ vs)
  | [] => h
  | v :: vs => SVs.set v (s := .no) (o := none) (SVs.wipe h vs) (by trivial)
theorem take_filter_map {α β : Type} {xs : List α} {p : α → Bool} {f : α → β} {i : Nat} {x : α} (h : xs[i]? = some x) :
    ((xs.take (i + 1)).filter p).map f = if p x = true then ((xs.take i).filter p).map f ++ [f x] else ((xs.take i).filter p).map f := by
  rw [List.take_add_one, h, List.filter_append, List.map_append]
  show _ ++ ([x].filter p).map f = _
  rw [List.filter_cons]
  split <;> simp
theorem same_out {O : List Addr} {H1 H2 : Hp} {D : Addr} (hD : H1 D = none) (e : Same H1 H2) : Sub (hide O H1) (hide (D :: O) H2) := fun a o h nt => by
  have ha := hide_le _ _ h nt
  have nO := hide_back h
  have ne : a ≠ D := ne_of_none ha hD
  rw [hide_at (by simp [nO, ne])]
  exact e _ _ ha nt
/-- the state in a comprehension's turn -/
theorem GamE.turn {O : List Addr} {H1 H2 : Hp} {D : Addr} {o : HO} {G : En} {σ σ' : L2.St} {vs : List Nat} {u : List SV → List SV} (g : GamE C O H1 G σ) (hD : H1 D = none) (e : Same H1 H2) (h2 : H2 D = some o) (hs : SVs C (hide (D :: O) H2) (u (wipeD G.De vs)) σ') :
    GamE C (D :: O) H2 ((G.un vs).up u) σ' := by
  have m := g.more hD e h2
  exact ⟨m.sub, m.dom, m.nd, m.ok, hs, m.tb⟩
/-- [elt for target in iter if ..]: xs is walked (each as A tells), those that pass p give f -/
theorem ev_lc {α : Type} {wi : TI} {g : TG} {tt : TT} {te : TE} {vs js : List Nat} {G : En} (xs : List α) (A : α → D) (p : α → Bool) (f : α → D) (u : α → List SV → List SV) (hi : EvI C wi G (xs.map A)) (hg : ∀ x ∈ xs, EvG C g js (A x) (u x)) (hlen : xs.length ≤ 100000)
    (ht : ∀ x ∈ xs, EvT C tt ((G.un vs).up (u x)) (p x)) (he : ∀ x ∈ xs, p x = true → EvD C te ((G.un vs).up (u x)) (f x)) (hj : ∀ j ∈ js, j ∈ vs := by decide) : EvF C (tLc wi g tt te vs) G ((xs.filter p).map f) := by
  intro O H σ gm Q q
  refine hi O H σ gm _ fun J H1 e1 w => fun Dl hD => ?_
  have gm1 := gm.mono e1
  let Pv : Nat → Hp → Prop := fun i H' => Same H1 H' ∧ ∃ acc, H' Dl = some (.lst acc) ∧ RepL C (hide (Dl :: O) H') (((xs.take i).filter p).map f) acc
  refine ⟨fun i m H' => m = xs.length - i ∧ i ≤ xs.length ∧ Pv i H', ⟨xs.length, by simp, Nat.zero_le _, same_new hD, [], upd_same, RepL.nil⟩, ?_⟩
  rintro i m H' ⟨rfl, hi', e2, acc, hacc, hr⟩
  have dm : Dom (Dl :: O) H' := (gm1.more hD e2 hacc).dom
  obtain ⟨w1, w2⟩ := w (Dl :: O) H' (same_out hD e2) dm
  by_cases hlt : i < xs.length
  · have hx : xs[i]? = some xs[i] := List.getElem?_eq_getElem hlt
    have hxm : xs[i] ∈ xs := List.getElem_mem hlt
    obtain ⟨go, yl⟩ := w1 i (A xs[i]) (by rw [List.getElem?_map, hx]; rfl)
    refine .inr ⟨go, Pv (i + 1), fun H'' pv => ⟨xs.length - (i + 1), by omega, rfl, hlt, pv⟩, fun x H2 hy => ?_⟩
    obtain ⟨e3, rx⟩ := yl x H2 hy
    have e13 := e2.trans e3
    have hD2 : H2 Dl = some (.lst acc) := e3 _ _ hacc rfl
    refine hg _ hxm (Dl :: O) H2 (wipeD G.De vs) (wipe σ vs) x rx ((gm1.sl.mono (same_out hD e13)).wipe vs) _ fun σ2 hs2 hl2 hc2 => ?_
    refine ⟨wipe_eq (hl2.trans (wipe_length ..)) fun j hj' => hj j (hc2 j hj'), ?_⟩
    have gt : GamE C (Dl :: O) H2 ((G.un vs).up (u xs[i])) σ2 := gm1.turn hD e13 hD2 hs2
    refine ht _ hxm _ _ _ gt _ fun H3 e4 => ?_
    have e14 := e13.trans e4
    cases hp : p xs[i] with
    | true =>
      refine he _ hxm hp _ _ _ (gt.mono e4) _ fun d y H4 hd e5 ry => ?_
      subst hd
      have e15 := e14.trans e5
      have hD4 : H4 Dl = some (.lst acc) := e5 _ _ (e4 _ _ hD2 rfl) rfl
      refine ⟨acc, hD4, ?_, e15.chg hD hD4 rfl, acc ++ [y], upd_same, ?_⟩
      · have := hr.length
        have l2 : (((xs.take i).filter p).map f).length ≤ i := by
          rw [List.length_map]
          refine Nat.le_trans (List.length_filter_le ..) ?_
          rw [List.length_take]
          omega
        exact Nat.lt_of_le_of_lt (show acc.length ≤ 100000 by omega) (by decide)
      · rw [hide_mut (List.mem_cons_self ..), take_filter_map hx, if_pos hp]
        exact (hr.mono (hide_mono ((e3.trans e4).trans e5))).append (.one ry)
    | false =>
      show Pv (i + 1) H3
      refine ⟨e14, acc, e4 _ _ hD2 rfl, ?_⟩
      rw [take_filter_map hx, if_neg (by rw [hp]; decide)]
      exact hr.mono (hide_mono (e3.trans e4))
  · have ei : i = xs.length := by omega
    subst ei
    rw [List.take_length] at hr
    rw [List.length_map] at w2
    exact .inl ⟨w2, q Dl acc H' (e1.free hD) (e1.trans e2) hacc hr⟩
/-- without tests -/
theorem ev_map {α : Type} {wi : TI} {g : TG} {te : TE} {vs js : List Nat} {G : En} (xs : List α) (A : α → D) (f : α → D) (u : α → List SV → List SV) (hi : EvI C wi G (xs.map A)) (hg : ∀ x ∈ xs, EvG C g js (A x) (u x)) (hlen : xs.length ≤ 100000)
    (he : ∀ x ∈ xs, EvD C te ((G.un vs).up (u x)) (f x)) (hj : ∀ j ∈ js, j ∈ vs := by decide) : EvF C (tLc wi g tYes te vs) G (xs.map f) := by
  have h := ev_lc (C := C) (tt := tYes) (vs := vs) xs A (fun _ => true) f u hi hg hlen (fun _ _ => et_yes) (fun x hx _ => he x hx) hj
  rwa [List.filter_eq_self.mpr (fun _ _ => rfl)] at h
end
end Wr
set_option maxHeartbeats 4000000
namespace Wr
open PySem L2
/-! ### statements -/
section
variable (C : Cn)
structure GamS (H0 : Hp) (O0 : List Addr) (H : Hp) (G : En) (σ : L2.St) : Prop where
  same : Same H0 H
  dom0 : ∀ l ∈ O0, H0 l ≠ none
  own : ∀ l ∈ G.keys, H0 l = none
  e : GamE C (G.keys ++ O0) H G σ
abbrev kn (G : En) (O0 : List Addr) (H : Hp) : Hp := hide (G.keys ++ O0) H
def SD (t : TS) (G : En) (N : En → Prop) (R : D → En → Prop) : Prop := ∀ (H0 : Hp) (O0 : List Addr) (H : Hp) (σ : L2.St) (E : Ends), GamS C H0 O0 H G σ →
  (∀ G' σ' H', N G' → GamS C H0 O0 H' G' σ' → Sub (kn G O0 H) (kn G' O0 H') → E.nx σ' H') →
  (∀ d v G' σ' H', R d G' → GamS C H0 O0 H' G' σ' → Rep C (kn G' O0 H') d v → E.rt v H') → t E σ H
end
section
variable {C : Cn} {K : PySem.W.Frag} {G G1 : En} {N M : En → Prop} {R : D → En → Prop} {P : D → Prop} {t u : TS} {te ta tb ti : TE} {tc : TT} {i : Nat} {d : D} {ds : List D}
theorem GamS.mono {H0 H H' : Hp} {O0 : List Addr} {σ : L2.St} (g : GamS C H0 O0 H G σ) (e : Same H H') : GamS C H0 O0 H' G σ := ⟨g.same.trans e, g.dom0, g.own, g.e.mono e⟩
theorem GamS.set {H0 H : Hp} {O0 : List Addr} {σ : L2.St} (g : GamS C H0 O0 H G σ) {i : Nat} {s : SV} {o : Option V} (h : sv C (kn G O0 H) s o) : GamS C H0 O0 H (G.set i s) (σ.set i o) :=
  ⟨g.same, g.dom0, g.own, ⟨g.e.sub, g.e.dom, g.e.nd, g.e.ok, g.e.sl.set i h, g.e.tb⟩⟩
theorem SD.imp {N' : En → Prop} {R' : D → En → Prop} (h : SD C t G N R) (hn : ∀ G', N G' → N' G') (hr : ∀ d G', R d G' → R' d G') : SD C t G N' R' := fun H0 O0 H σ E g n r =>
  h H0 O0 H σ E g (fun G' σ' H' q => n G' σ' H' (hn G' q)) fun d v G' σ' H' q => r d v G' σ' H' (hr d G' q)
theorem sd_next (h : N G) : SD C tNext G N R := fun H0 O0 H σ E g n r => n G σ H h g (Sub.refl _)
theorem sd_seq (h1 : SD C t G M R) (h2 : ∀ G', M G' → SD C u G' N R) : SD C (tSeq t u) G N R := fun H0 O0 H σ E g n r =>
  h1 H0 O0 H σ { E with nx := u E } g (fun G' σ' H' q g' s' => h2 G' q H0 O0 H' σ' E g' (fun G'' σ'' H'' q' g'' s'' => n G'' σ'' H'' q' g'' (s'.trans s'')) r) r
theorem sd_seq1 (h1 : SD C t G (· = G1) R) (h2 : SD C u G1 N R) : SD C (tSeq t u) G N R := sd_seq h1 fun _ e => e ▸ h2
theorem sd_asgR (h : EvR C te G P) (k : ∀ d, P d → N (G.set i (.im d))) : SD C (tAsg te (gName i)) G N R := fun H0 O0 H σ E g n r =>
  h _ H σ g.e _ fun d v H' hd e hv => n _ _ H' (k d hd) ((g.mono e).set (sv_im hv)) (hide_mono e)
theorem sq_asgR (h : EvR C te G P) (k : ∀ d, P d → SD C u (G.set i (.im d)) N R) : SD C (tSeq (tAsg te (gName i)) u) G N R := sd_seq (M := fun G' => ∃ d, P d ∧ G' = G.set i (.im d)) (sd_asgR h fun d hd => ⟨d, hd, rfl⟩) fun G' ⟨d, hd, e⟩ => e ▸ k d hd
theorem sd_asg (h : EvD C te G d) (k : N (G.set i (.im d))) : SD C (tAsg te (gName i)) G N R := sd_asgR h fun _ e => e ▸ k
theorem sq_asg (h : EvD C te G d) (k : SD C u (G.set i (.im d)) N R) : SD C (tSeq (tAsg te (gName i)) u) G N R := sq_asgR h fun _ e => e ▸ k
theorem sd_retR (h : EvR C te G P) (k : ∀ d, P d → R d G) : SD C (tRet te) G N R := fun H0 O0 H σ E g n r =>
  h _ H σ g.e _ fun d v H' hd e hv => r d v G σ H' (k d hd) (g.mono e) hv
theorem sd_ret (h : EvD C te G d) (k : R d G) : SD C (tRet te) G N R := sd_retR h fun _ e => e ▸ k
theorem sd_drop (h : EvR C te G P) (k : N G) : SD C (tDrop te) G N R := fun H0 O0 H σ E g n r =>
  h _ H σ g.e _ fun d v H' hd e hv => n G σ H' k (g.mono e) (hide_mono e)
theorem sq_drop (h : EvR C te G P) (k : SD C u G N R) : SD C (tSeq (tDrop te) u) G N R := sd_seq1 (sd_drop h rfl) k
theorem sd_if {b : Bool} (h : EvT C tc G b) (h1 : b = true → SD C t G N R) (h2 : b = false → SD C u G N R) : SD C (tIfS tc t u) G N R := fun H0 O0 H σ E g n r => h _ H σ g.e _ fun H' e => by
  cases b with
  | true =>
    show t E σ H'
    exact h1 rfl H0 O0 H' σ E (g.mono e) (fun G' σ' H'' q g' s' => n G' σ' H'' q g' ((hide_mono e).trans s')) r
  | false =>
    show u E σ H'
    exact h2 rfl H0 O0 H' σ E (g.mono e) (fun G' σ' H'' q g' s' => n G' σ' H'' q g' ((hide_mono e).trans s')) r
/-- an if that is not taken -/
theorem sq_no (h : EvT C tc G false) (k : SD C u G N R) : SD C (tSeq (tIfS tc t tNext) u) G N R := sd_seq1 (sd_if h (fun z => nomatch z) fun _ => sd_next rfl) k
theorem sd_no (h : EvT C tc G false) (k : N G) : SD C (tIfS tc t tNext) G N R := sd_if h (fun z => nomatch z) fun _ => sd_next k
theorem sq_if {b : Bool} (h : EvT C tc G b) (h1 : b = true → SD C t G M R) (h2 : b = false → M G) (k : ∀ G', M G' → SD C u G' N R) : SD C (tSeq (tIfS tc t tNext) u) G N R :=
  sd_seq (sd_if h h1 fun z => sd_next (h2 z)) k
/-- an if that leaves the def -/
theorem sq_ifr {b : Bool} (h : EvT C tc G b) (h1 : b = true → SD C t G (fun _ => False) R) (h2 : b = false → SD C u G N R) : SD C (tSeq (tIfS tc t tNext) u) G N R :=
  sq_if (M := fun G' => b = false ∧ G' = G) h (fun z => (h1 z).imp (fun _ q => q.elim) fun _ _ q => q) (fun z => ⟨z, rfl⟩) fun G' ⟨z, e⟩ => e ▸ h2 z
/-! ### what is owned -/
def En.own (G : En) (p : Addr) (x : OO) : En := { G with Om := (p, x) :: G.Om }
def En.put (G : En) (l : Addr) (x : OO) : En := { G with Om := G.Om.map fun q => if q.1 = l then (l, x) else q }
theorem put_keys (G : En) (l : Addr) (x : OO) : (G.put l x).keys = G.keys := by
  unfold En.put En.keys
  rw [List.map_map]
  refine List.map_congr_left fun q _ => ?_
  show (if q.1 = l then (l, x) else q).1 = q.1
  split
  · rename_i h
    exact h.symm
  · rfl
theorem sq_ownF (h : EvF C te G ds) (k : ∀ p, p ∉ G.keys → SD C u ((G.own p (.lst (ds.map .im))).set i (.ptr p)) N R) : SD C (tSeq (tAsg te (gName i)) u) G N R := fun H0 O0 H σ E g n r =>
  h _ H σ g.e _ fun p vs H' np e hp hr => by
    have nk : p ∉ G.keys ++ O0 := g.e.dom.out np
    have nk1 : p ∉ G.keys := fun z => nk (List.mem_append_left _ z)
    have g' := g.e.more np e hp
    refine k p nk1 H0 O0 H' _ E ⟨g.same.trans e, g.dom0, fun l hl => ?_, ⟨fun l hl => ?_, g'.dom, List.nodup_cons.mpr ⟨nk1, g.e.nd⟩, fun q hq => ?_, g'.sl.set i rfl, g'.tb⟩⟩ (fun G' σ' H'' q g'' s' => n G' σ' H'' q g'' ((same_out np e).trans s')) r
    · rcases List.mem_cons.mp (show l ∈ p :: G.keys from hl) with z | z
      · rw [z]
        exact g.same.free np
      · exact g.own l z
    · exact List.mem_append_left _ (show l ∈ p :: G.keys from hl)
    · rcases List.mem_cons.mp (show q ∈ (p, OO.lst (ds.map SV.im)) :: G.Om from hq) with z | z
      · rw [z]
        exact ⟨vs, hp, svs_im.mpr hr⟩
      · exact g'.ok q z
/-- what an owned thing is -/
def En.at (G : En) (l : Addr) (x : OO) : Prop := (l, x) ∈ G.Om
theorem En.at_own {p : Addr} {x : OO} : (G.own p x).at p x := List.mem_cons_self ..
theorem En.at_put {l : Addr} {x y : OO} (h : G.at l y) : (G.put l x).at l x := List.mem_map.mpr ⟨_, h, if_pos rfl⟩
theorem En.at_put_ne {l m : Addr} {x y : OO} (h : G.at l y) (n : l ≠ m) : (G.put m x).at l y := List.mem_map.mpr ⟨_, h, if_neg n⟩
theorem En.at_set {l : Addr} {x : OO} {s : SV} (h : G.at l x) : (G.set i s).at l x := h
/-- an owned thing has changed -/
theorem GamS.put {H0 H H' : Hp} {O0 : List Addr} {σ : L2.St} (g : GamS C H0 O0 H G σ) {l : Addr} {x y : OO} {o : HO} (hl : G.at l x) (e : H' = upd H l o) (ho : ooOk C (kn G O0 H) H' l y) : GamS C H0 O0 H' (G.put l y) σ ∧ kn (G.put l y) O0 H' = kn G O0 H := by
  have hk : l ∈ G.keys := List.mem_map.mpr ⟨_, hl, rfl⟩
  have hin : l ∈ G.keys ++ O0 := List.mem_append_left _ hk
  have ek : kn (G.put l y) O0 H' = kn G O0 H := by
    show hide ((G.put l y).keys ++ O0) H' = _
    rw [put_keys, e]
    exact hide_mut hin
  obtain ⟨u, hu, hx⟩ : ∃ u, H l = some u ∧ isX u = false := by
    have z := g.e.ok _ hl
    cases x with
    | lst xs =>
      obtain ⟨vs, h1, _⟩ := z
      exact ⟨_, h1, rfl⟩
    | dic ks xs =>
      obtain ⟨vs, h1, _⟩ := z
      exact ⟨_, h1, rfl⟩
  refine ⟨⟨by rw [e]; exact g.same.chg (g.own l hk) hu hx, g.dom0, fun m hm => g.own m (by rwa [put_keys] at hm), ⟨fun m hm => List.mem_append_left _ hm, fun m hm => ?_, by rw [put_keys]; exact g.e.nd, fun q hq => ?_, ?_, by rw [e]; exact tabS_chg hu hx g.e.tb⟩⟩, ek⟩
  · rw [put_keys] at hm
    rw [e]
    by_cases z : m = l
    · rw [z, upd_same]
      exact fun z => nomatch z
    · rw [upd_ne z]
      exact g.e.dom m hm
  · show ooOk C (kn (G.put l y) O0 H') H' q.1 q.2
    rw [ek]
    obtain ⟨q0, hq0, rfl⟩ := List.mem_map.mp hq
    by_cases z : q0.1 = l
    · rw [if_pos z]
      exact ho
    · rw [if_neg z]
      have old := g.e.ok q0 hq0
      cases hx : q0.2 with
      | lst xs =>
        rw [hx] at old
        obtain ⟨vs, h1, h2⟩ := old
        exact ⟨vs, by rw [e, upd_ne z]; exact h1, h2⟩
      | dic ks xs =>
        rw [hx] at old
        obtain ⟨vs, h1, h2, h3⟩ := old
        exact ⟨vs, by rw [e, upd_ne z]; exact h1, h2, h3⟩
  · show SVs C (kn (G.put l y) O0 H') G.De σ
    rw [ek]
    exact g.e.sl
theorem GamS.get {H0 H : Hp} {O0 : List Addr} {σ : L2.St} (g : GamS C H0 O0 H G σ) {l : Addr} {xs : List SV} (hl : G.at l (.lst xs)) : ∃ vs : List V, H l = some (.lst vs) ∧ SVs C (kn G O0 H) xs (vs.map some) := g.e.ok _ hl
theorem SVs.mlen {H : Hp} {xs : List SV} {vs : List V} (h : SVs C H xs (vs.map some)) : vs.length = xs.length := by
  have := h.length
  simpa using this
/-- xs.append(e), owned -/
theorem sd_app {l : Addr} {xs : List SV} (hi : G.De[i]? = some (.ptr l)) (hl : G.at l (.lst xs)) (h : EvR C te G P) (hz : xs.length < 100000) (k : ∀ d, P d → N (G.put l (.lst (xs ++ [.im d])))) :
    SD C (tDrop (tBM K "list" rAppend (tVar i) (tCons te tNil))) G N R := fun H0 O0 H σ E g n r => by
  obtain ⟨o, h1, h2⟩ := g.e.sl.get hi
  have h2 : o = some (.ref l) := h2
  subst h2
  obtain ⟨vs, hv, hs⟩ := g.get hl
  refine ⟨.ref l, h1, .inl ⟨rfl, vs, SqL.of hv⟩, ?_⟩
  refine h _ H σ g.e _ fun d v H' hd e rv => ?_
  have g' := g.mono e
  have hv' := e _ _ hv rfl
  obtain ⟨g2, ek⟩ := g'.put (y := .lst (xs ++ [.im d])) hl rfl ⟨vs ++ [v], upd_same, by
    rw [List.map_append]
    exact (hs.mono (hide_mono e)).append ⟨some v, [], rfl, sv_im rv, rfl⟩⟩
  refine ⟨l, vs, v, rfl, rfl, hv', Nat.lt_of_lt_of_le (by rw [hs.mlen]; exact hz) (by decide), n _ σ _ (k d hd) g2 ?_⟩
  rw [ek]
  exact hide_mono e
theorem sq_app {l : Addr} {xs : List SV} (hi : G.De[i]? = some (.ptr l)) (hl : G.at l (.lst xs)) (h : EvR C te G P) (hz : xs.length < 100000) (k : ∀ d, P d → SD C u (G.put l (.lst (xs ++ [.im d]))) N R) :
    SD C (tSeq (tDrop (tBM K "list" rAppend (tVar i) (tCons te tNil))) u) G N R :=
  sd_seq (M := fun G' => ∃ d, P d ∧ G' = G.put l (.lst (xs ++ [.im d]))) (sd_app hi hl h hz fun d hd => ⟨d, hd, rfl⟩) fun G' ⟨d, hd, e⟩ => e ▸ k d hd
/-- xs[i] = e, owned: the value, then the list, then the place -/
theorem sd_setitem {l : Addr} {xs : List SV} {j : Nat} (hi : G.De[i]? = some (.ptr l)) (hl : G.at l (.lst xs)) (h : EvR C te G P) (hx : EvD C ti G (.i (j : Int))) (hz : j < xs.length) (k : ∀ d, P d → N (G.put l (.lst (xs.set j (.im d))))) :
    SD C (tAsg te (gSub (tVar i) ti rSetL)) G N R := fun H0 O0 H σ E g n r => by
  obtain ⟨o, h1, h2⟩ := g.e.sl.get hi
  have h2 : o = some (.ref l) := h2
  subst h2
  obtain ⟨vs, hv, hs⟩ := g.get hl
  refine h _ H σ g.e _ fun d v H1 hd e1 rv => ?_
  refine ⟨.ref l, h1, ?_⟩
  refine hx _ H1 σ (g.e.mono e1) _ fun d' w H2 hd' e2 rw' => ?_
  subst hd'
  have e := e1.trans e2
  have g' := g.mono e
  have hv' := e _ _ hv rfl
  have rv' := rv.mono (hide_mono e2)
  obtain ⟨g2, ek⟩ := g'.put (y := .lst (xs.set j (.im d))) hl rfl ⟨vs.set j v, upd_same, by
    rw [List.map_set]
    exact (hs.mono (hide_mono e)).set j (sv_im rv')⟩
  have hj : ixN vs.length (j : Int) = some j := by
    unfold ixN
    rw [if_pos (by omega), if_pos (by rw [hs.mlen]; omega)]
    rfl
  refine ⟨l, vs, (j : Int), j, rfl, rep_v.mp rw', hv', hj, n _ σ _ (k d hd) g2 ?_⟩
  rw [ek]
  exact hide_mono e
/-! ### loops -/
theorem sd_for {α : Type} {wi : TI} {g : TG} {tb : TS} {js : List Nat} (xs : List α) (A : α → D) (w : α → List SV → List SV) (Pv : Nat → En → Prop) (hi : EvI C wi G (xs.map A)) (hg : ∀ x ∈ xs, EvG C g js (A x) (w x)) (h0 : Pv 0 G)
    (hs : ∀ i x G', xs[i]? = some x → Pv i G' → SD C tb (G'.up (w x)) (Pv (i + 1)) R) (hd : ∀ G', Pv xs.length G' → N G') : SD C (tFor wi g tb) G N R := fun H0 O0 H σ E gm n r => by
  refine hi _ H σ gm.e _ fun J H1 e1 wk => ?_
  let W : Nat → L2.St → Hp → Prop := fun i σ' H' => ∃ G', Pv i G' ∧ GamS C H0 O0 H' G' σ' ∧ Sub (kn G O0 H1) (kn G' O0 H')
  refine ⟨fun i m σ' H' => m = xs.length - i ∧ i ≤ xs.length ∧ W i σ' H', ⟨xs.length, by simp, Nat.zero_le _, G, h0, gm.mono e1, Sub.refl _⟩, ?_⟩
  rintro i m σ' H' ⟨rfl, hi', G', pv, g', s'⟩
  obtain ⟨w1, w2⟩ := wk _ H' s' g'.e.dom
  by_cases hlt : i < xs.length
  · have hx : xs[i]? = some xs[i] := List.getElem?_eq_getElem hlt
    have hxm : xs[i] ∈ xs := List.getElem_mem hlt
    obtain ⟨go, yl⟩ := w1 i (A xs[i]) (by rw [List.getElem?_map, hx]; rfl)
    refine .inr ⟨go, W (i + 1), fun σ'' H'' pv' => ⟨xs.length - (i + 1), by omega, rfl, hlt, pv'⟩, fun x H2 hy => ?_⟩
    obtain ⟨e3, rx⟩ := yl x H2 hy
    have g2 := g'.mono e3
    refine hg _ hxm _ H2 G'.De σ' x rx g2.e.sl _ fun σ2 hs2 hl2 hc2 => ?_
    have g3 : GamS C H0 O0 H2 (G'.up (w xs[i])) σ2 := ⟨g2.same, g2.dom0, g2.own, ⟨g2.e.sub, g2.e.dom, g2.e.nd, g2.e.ok, hs2, g2.e.tb⟩⟩
    have s3 : Sub (kn G' O0 H') (kn (G'.up (w xs[i])) O0 H2) := hide_mono e3
    exact hs i _ G' hx pv H0 O0 H2 σ2 _ g3 (fun G4 σ4 H4 q4 g4 s4 => ⟨G4, q4, g4, s'.trans (s3.trans s4)⟩) r
  · have ei : i = xs.length := by omega
    subst ei
    rw [List.length_map] at w2
    exact .inl ⟨w2, n G' σ' H' (hd G' pv) g' (Sub.trans (hide_mono e1) s')⟩
theorem sq_for {α : Type} {wi : TI} {g : TG} {tb : TS} {js : List Nat} (xs : List α) (A : α → D) (w : α → List SV → List SV) (Pv : Nat → En → Prop) (hi : EvI C wi G (xs.map A)) (hg : ∀ x ∈ xs, EvG C g js (A x) (w x)) (h0 : Pv 0 G)
    (hs : ∀ i x G', xs[i]? = some x → Pv i G' → SD C tb (G'.up (w x)) (Pv (i + 1)) R) (hd : ∀ G', Pv xs.length G' → SD C u G' N R) : SD C (tSeq (tFor wi g tb) u) G N R :=
  sd_seq (sd_for xs A w Pv hi hg h0 hs fun _ h => h) hd
theorem sd_while {tb : TS} (W : Nat → En → Prop) (m0 : Nat) (h0 : W m0 G)
    (hs : ∀ m G', W m G' → ∃ b, EvT C tc G' b ∧ (b = true → SD C tb G' (fun G2 => ∃ m', m' < m ∧ W m' G2) R) ∧ (b = false → N G')) : SD C (tWhile tc tb) G N R := fun H0 O0 H σ E gm n r => by
  let V : Nat → L2.St → Hp → Prop := fun m σ' H' => ∃ G', W m G' ∧ GamS C H0 O0 H' G' σ' ∧ Sub (kn G O0 H) (kn G' O0 H')
  refine ⟨V, ⟨m0, G, h0, gm, Sub.refl _⟩, ?_⟩
  rintro m σ' H' ⟨G', w', g', s'⟩
  obtain ⟨b, hb, h1, h2⟩ := hs m G' w'
  refine hb _ H' σ' g'.e _ fun H1 e1 => ?_
  have s1 : Sub (kn G O0 H) (kn G' O0 H1) := s'.trans (hide_mono e1)
  cases b with
  | true =>
    refine ⟨fun σ2 H2 => ∃ m', m' < m ∧ V m' σ2 H2, fun _ _ h => h, ?_⟩
    exact h1 rfl H0 O0 H1 σ' _ (g'.mono e1) (fun G2 σ2 H2 ⟨m', l, q⟩ g2 s2 => ⟨m', l, G2, q, g2, s1.trans s2⟩) r
  | false => exact n G' σ' H1 (h2 rfl) (g'.mono e1) s1
theorem sq_while {tb : TS} (W : Nat → En → Prop) (m0 : Nat) (h0 : W m0 G)
    (hs : ∀ m G', W m G' → ∃ b, EvT C tc G' b ∧ (b = true → SD C tb G' (fun G2 => ∃ m', m' < m ∧ W m' G2) R) ∧ (b = false → M G')) (k : ∀ G', M G' → SD C u G' N R) : SD C (tSeq (tWhile tc tb) u) G N R :=
  sd_seq (sd_while W m0 h0 hs) k
/-- what stands may be seen otherwise -/
theorem sd_conv (h : ∀ H0 O0 H σ, GamS C H0 O0 H G σ → GamS C H0 O0 H G1 σ ∧ Sub (kn G O0 H) (kn G1 O0 H)) (k : SD C t G1 N R) : SD C t G N R := fun H0 O0 H σ E g n r =>
  k H0 O0 H σ E (h _ _ _ _ g).1 (fun G' σ' H' q g' s' => n G' σ' H' q g' ((h _ _ _ _ g).2.trans s')) r
/-- an owned list of data is from now on a datum -/
def En.frz (G : En) (l : Addr) (ds : List D) : En := { Om := G.Om.filter fun q => q.1 ≠ l, De := G.De.map fun s => match s with
  | .ptr m => if m = l then .im (.lst ds) else .ptr m
  | s => s }
theorem SVs.map {H : Hp} {f : SV → SV} (h : ∀ s o, sv C H s o → sv C H (f s) o) : ∀ {l : List SV} {σ : L2.St}, SVs C H l σ → SVs C H (l.map f) σ
  | [], _, q => q
  | s :: l, _, q => by
    obtain ⟨o, r, rfl, h2, h3⟩ := q
    exact ⟨o, r, rfl, h s o h2, SVs.map h h3⟩
theorem frz_ok {l : Addr} {ds : List D} (hl : G.at l (.lst (ds.map .im))) (H0 : Hp) (O0 : List Addr) (H : Hp) (σ : L2.St) (g : GamS C H0 O0 H G σ) : GamS C H0 O0 H (G.frz l ds) σ ∧ Sub (kn G O0 H) (kn (G.frz l ds) O0 H) := by
  have hk : l ∈ G.keys := List.mem_map.mpr ⟨_, hl, rfl⟩
  have kk : ∀ a, a ∈ (G.frz l ds).keys → a ∈ G.keys ∧ a ≠ l := fun a ha => by
    obtain ⟨q, hq, rfl⟩ := List.mem_map.mp ha
    obtain ⟨h1, h2⟩ := List.mem_filter.mp hq
    exact ⟨List.mem_map.mpr ⟨q, h1, rfl⟩, by simpa using h2⟩
  have sk : Sub (kn G O0 H) (kn (G.frz l ds) O0 H) := hide_sub fun a ha => by
    rcases List.mem_append.mp ha with z | z
    · exact List.mem_append_left _ (kk a z).1
    · exact List.mem_append_right _ z
  have nl : l ∉ (G.frz l ds).keys ++ O0 := fun z => by
    rcases List.mem_append.mp z with z | z
    · exact (kk l z).2 rfl
    · exact g.dom0 l z (g.own l hk)
  obtain ⟨vs, hv, hs⟩ := g.get hl
  have rl : Rep C (kn (G.frz l ds) O0 H) (.lst ds) (.ref l) := rep_lst.mpr ⟨l, vs, rfl, (hide_at nl).trans hv, (svs_im.mp hs).mono sk⟩
  refine ⟨⟨g.same, g.dom0, fun m hm => g.own m (kk m hm).1, ⟨fun m hm => List.mem_append_left _ hm, fun m hm => ?_, ?_, fun q hq => ?_, ?_, g.e.tb⟩⟩, sk⟩
  · rcases List.mem_append.mp hm with z | z
    · exact g.e.dom m (List.mem_append_left _ (kk m z).1)
    · exact g.e.dom m (List.mem_append_right _ z)
  · show ((G.Om.filter fun q => q.1 ≠ l).map (·.1)).Nodup
    exact g.e.nd.sublist ((List.filter_sublist).map _)
  · have h1 := (List.mem_filter.mp hq).1
    exact (g.e.ok q h1).mono (Sub.refl _) sk
  · refine SVs.map (fun s o h => ?_) (g.e.sl.mono sk)
    cases s with
    | no => exact h
    | im d => exact h
    | ptr m =>
      show sv C _ (if m = l then .im (.lst ds) else .ptr m) o
      by_cases z : m = l
      · rw [if_pos z]
        have h : o = some (.ref m) := h
        subst z
        exact ⟨_, h, rl⟩
      · rw [if_neg z]
        exact h
theorem sd_frz {l : Addr} {ds : List D} (hl : G.at l (.lst (ds.map .im))) (k : SD C t (G.frz l ds) N R) : SD C t G N R := sd_conv (frz_ok hl) k
end
/-! ### promises -/
section
variable (C : Cn)
def spT {α : Type} (A : α → List D) (pre : α → Prop) (post : α → D → Prop) : Sp := fun vs H Q _ => ∃ (O : List Addr) (x : α), LamX.TabS H C.tab lamQ ∧ Dom O H ∧ RepL C (hide O H) (A x) vs ∧ pre x ∧ ∀ d v H', post x d → Same H H' → Rep C (hide O H') d v → Q v H'
def En0 (n : Nat) (ds : List D) : En := ⟨[], ds.map .im ++ List.replicate (n - ds.length) .no⟩
end
section
variable {C : Cn} {K : PySem.W.Frag} {G : En} {R : D → Prop} {α : Type} {A : α → List D} {pre : α → Prop} {post : α → D → Prop}
theorem sp_len {n : Nat} (h : ∀ x, (A x).length = n) : ∀ vs H Q E, spT C A pre post vs H Q E → vs.length = n := fun vs H Q E ⟨O, x, _, _, r, _⟩ => by
  rw [r.length, h]
theorem sp_run {t : TS} {N : List Str} (hs : ∀ x, pre x → SD C t (En0 N.length (A x)) (fun _ => post x D.n) (fun d _ => post x d)) : ∀ vs H Q E, spT C A pre post vs H Q E → t { nx := fun _ H' => Q .non H', rt := Q } (start N vs) H := fun vs H Q E ⟨O, x, tb, dm, r, hp, q⟩ => by
  have g : GamS C H O H (En0 N.length (A x)) (start N vs) := by
    refine ⟨Same.refl _, dm, (fun l hl => (List.not_mem_nil hl).elim), ⟨(fun l hl => (List.not_mem_nil hl).elim), dm, List.nodup_nil, (fun p hp => (List.not_mem_nil hp).elim), ?_, tb⟩⟩
    show SVs C (hide O H) ((A x).map .im ++ List.replicate (N.length - (A x).length) .no) (vs.map some ++ List.replicate (N.length - vs.length) none)
    rw [r.length]
    exact (svs_im.mpr r).append (svs_no _ _)
  exact hs x hp H O H _ _ g (fun G' σ' H' h g' _ => q _ _ H' h g'.same (rep_v.mpr rfl)) fun d v G' σ' H' h g' rv => q d v H' h g'.same (rv.mono (hide_sub fun a ha => List.mem_append_right _ ha))
theorem ev_call {t : TA} {RA : List D → Prop} (ha : EvA C t G RA) (h : ∀ ds, RA ds → ∃ x, ds = A x ∧ pre x ∧ ∀ d, post x d → R d) : EvR C (tCall (spT C A pre post) [] E0 t) G R := fun O H σ g Q q =>
  ha O H σ g _ fun ds vs H1 hr e1 rv => by
    obtain ⟨x, rfl, hp, hd⟩ := h ds hr
    rw [List.append_nil]
    exact ⟨O, x, e1.tabs _ g.tb, g.dom.mono e1, rv, hp, fun d v H' hd' e2 r2 => q d v H' (hd d hd') (e1.trans e2) r2⟩
theorem ev_callD {t : TA} (x : α) (ha : EvA C t G (· = A x)) (hp : pre x) (hd : ∀ d, post x d → R d) : EvR C (tCall (spT C A pre post) [] E0 t) G R := ev_call ha fun _ e => ⟨x, e, hp, hd⟩
end
/-- a def of the module, by its name -/
structure Has (P : Program) (w : World) (K : PySem.W.Frag) (mg : Str → Option Value) (base : Heap) (k : Nat) (x : Str) (ps : List Str) (sp : Sp) : Prop where
  ex : ∃ (f : Addr) (fd : FuncData), FnOk P w K mg base CX0 k f fd ps sp ∧ mg x = some (.ref f) ∧ PySem.W.keepIn K (.ref f) = true ∧ Binds K fd ps []
theorem Has.mono {P : Program} {w : World} {K : PySem.W.Frag} {mg : Str → Option Value} {base : Heap} {j k : Nat} {x : Str} {ps : List Str} {sp : Sp} (h : Has P w K mg base j x ps sp) (l : j ≤ k) : Has P w K mg base k x ps sp := by
  obtain ⟨f, fd, F, m, kp, b⟩ := h.ex
  exact ⟨f, fd, F.mono l, m, kp, b⟩
section
variable {X : Cx} {k : Nat} {x : Str} {ps : List Str} {sp : Sp} {e : Expr} {es : List Expr} {t : TA} {p pos : Pos}
theorem pe_has (h : Has X.prog X.w X.K X.mg X.base k x ps sp) (hr : Room k X.A) (hg : Gl X x) (ha : PA X (e :: es) t) (hdb : (x == ("__debug__" : Str)) = false := by decide)
    (hs : starEach (e :: es) X.env = (false, eval e X.env) :: starEach es X.env := by rfl) (hpl : (backTo pos (starEach es X.env)).any (·.1) = false := by rfl) : PE X (.Call (.Name x p) (e :: es) [] pos) (tCall sp [] E0 t) := by
  refine ⟨fun pins s σ H Q I q => ?_⟩
  obtain ⟨f, fd, F, m, kp, b⟩ := h.ex
  exact (pe_call F hr hg m kp b .nil pass0 ha hdb hs hpl).run pins s σ H Q I q
end
end Wr
set_option maxHeartbeats 4000000
namespace Wr
open PySem L2
theorem sz5 {n : Nat} (h : n ≤ 100000) : n ≤ sizeLine := Nat.le_trans h (by decide)
section
variable {C : Cn} {K : PySem.W.Frag} {G : En} {te ta tb tc : TE} {R : D → Prop} {d : D} {ds es : List D} {r : L2.R2}
/-! ### flat operations -/
theorem rr_v {x y z : V} (h : ∀ (H : Hp) (Q : VK), Q z H → r x y H Q) : RR C r (.v x) (.v y) (· = .v z) := fun O H a b dm ha hb Q q => by
  rw [rep_v.mp ha, rep_v.mp hb]
  exact h H Q (q _ _ H rfl (Same.refl H) (rep_v.mpr rfl))
theorem rr_I0 {g : Int → Int → V} {a b : Int} : RR C (rI0 g) (.i a) (.i b) (· = .v (g a b)) := rr_v fun H Q q => ⟨a, b, rfl, rfl, q⟩
theorem rr_I {P : Int → Int → Prop} {g : Int → Int → V} {a b : Int} (h : P a b) : RR C (rI P g) (.i a) (.i b) (· = .v (g a b)) := rr_v fun H Q q => ⟨a, b, rfl, rfl, h, q⟩
theorem rr_eqI {a b : Int} : RR C rEq (.i a) (.i b) (· = .b (decide (a = b))) := rr_v fun H Q q => ⟨rfl, by
  have e : decide (V.int a = V.int b) = decide (a = b) := by
    by_cases h : a = b
    · rw [h, decide_eq_true rfl, decide_eq_true rfl]
    · rw [decide_eq_false h, decide_eq_false fun z => h (V.int.inj z)]
  rw [e]
  exact q⟩
theorem rr_neI {a b : Int} : RR C rNe (.i a) (.i b) (· = .b (!decide (a = b))) := rr_v fun H Q q => ⟨rfl, by
  have e : decide (V.int a = V.int b) = decide (a = b) := by
    by_cases h : a = b
    · rw [h, decide_eq_true rfl, decide_eq_true rfl]
    · rw [decide_eq_false h, decide_eq_false fun z => h (V.int.inj z)]
  rw [e]
  exact q⟩
theorem dec_strD {a b : Str} : decide (V.str a = V.str b) = decide (a = b) := by
  by_cases h : a = b
  · rw [h, decide_eq_true rfl, decide_eq_true rfl]
  · rw [decide_eq_false h, decide_eq_false fun z => h (V.str.inj z)]
theorem rr_eqS {a b : Str} : RR C rEq (.s a) (.s b) (· = .b (decide (a = b))) := rr_v fun H Q q => ⟨rfl, by
  rw [dec_strD]
  exact q⟩
theorem rr_neS {a b : Str} : RR C rNe (.s a) (.s b) (· = .b (!decide (a = b))) := rr_v fun H Q q => ⟨rfl, by
  rw [dec_strD]
  exact q⟩
theorem rr_neB {a b : Bool} : RR C rNe (.b a) (.b b) (· = .b (a != b)) := rr_v fun H Q q => ⟨rfl, by
  have e : (!decide (V.bl a = V.bl b)) = (a != b) := by cases a <;> cases b <;> rfl
  rw [e]
  exact q⟩
theorem rr_eqB {a b : Bool} : RR C rEq (.b a) (.b b) (· = .b (a == b)) := rr_v fun H Q q => ⟨rfl, by
  have e : decide (V.bl a = V.bl b) = (a == b) := by cases a <;> cases b <;> rfl
  rw [e]
  exact q⟩
/-- comparisons of anything with None -/
def isNone : D → Bool
  | .v .non => true
  | _ => false
theorem rep_none {H : Hp} {d : D} {v : V} (h : Rep C H d v) : decide (v = .non) = isNone d := by
  cases d with
  | v x =>
    rw [rep_v.mp h]
    cases x <;> rfl
  | lst l =>
    obtain ⟨a, vs, rfl, _⟩ := rep_lst.mp h
    rfl
  | tup l =>
    obtain ⟨a, vs, rfl, _⟩ := rep_tup.mp h
    rfl
  | web p ts =>
    obtain ⟨a, vs, t, rfl, _⟩ := rep_web.mp h
    rfl
  | dic ks ds =>
    obtain ⟨a, vs, rfl, _⟩ := rep_dic.mp h
    rfl
  | fn =>
    obtain ⟨a, c, rfl, _⟩ := rep_fn.mp h
    rfl
  | scr K ns =>
    obtain ⟨a, rfl, _⟩ := rep_scr.mp h
    rfl
theorem rr_isN {d : D} : RR C (fun x y H Q => y = .non ∧ Q (.bl (decide (x = .non))) H) d D.n (· = .b (isNone d)) := fun O H a b dm ha hb Q q => ⟨rep_v.mp hb, by
  rw [rep_none ha]
  exact q _ _ H rfl (Same.refl H) (rep_v.mpr rfl)⟩
theorem rr_notN {d : D} : RR C (fun x y H Q => y = .non ∧ Q (.bl (!decide (x = .non))) H) d D.n (· = .b (!isNone d)) := fun O H a b dm ha hb Q q => ⟨rep_v.mp hb, by
  rw [rep_none ha]
  exact q _ _ H rfl (Same.refl H) (rep_v.mpr rfl)⟩
theorem rr_inS {c : Nat} {z : Str} : RR C (fun x y H Q => ∃ (c : Nat) (z : Str), x = .str ⟨#[c]⟩ ∧ y = .str z ∧ Q (.bl (decide (c ∈ z.cps.toList))) H) (.s ⟨#[c]⟩) (.s z) (· = .b (decide (c ∈ z.cps.toList))) := rr_v fun H Q q => ⟨c, z, rfl, rfl, q⟩
theorem rr_leS {a b : Str} : RR C (fun x y H Q => ∃ i j, x = .str i ∧ y = .str j ∧ Q (.bl (!decide (j.cps.toList < i.cps.toList))) H) (.s a) (.s b) (· = .b (!decide (b.cps.toList < a.cps.toList))) := rr_v fun H Q q => ⟨a, b, rfl, rfl, q⟩
theorem rr_addS {a b : Str} (h : a.length + b.length ≤ 100000) : RR C (fun x y H Q => ∃ i j, x = .str i ∧ y = .str j ∧ i.length + j.length ≤ sizeLine ∧ Q (.str (i ++ j)) H) (.s a) (.s b) (· = .s (a ++ b)) := rr_v fun H Q q => ⟨a, b, rfl, rfl, sz5 h, q⟩
/-! ### in, over flat things -/
theorem rr_in {neg : Bool} {x : V} {xs : List V} (hx : flatV x = true) (hf : xs.all flatV = true) : RR C (rIn K neg) (.v x) (.lst (xs.map D.v)) (· = .b (if neg then !inV x xs else inV x xs)) := fun O H a b dm ha hb Q q => by
  obtain ⟨l, vs, rfl, h1, h2⟩ := rep_lst.mp hb
  have e : vs = xs := by
    have := (repL_flat (f := fun x => x)).mp h2
    simpa using this
  rw [rep_v.mp ha]
  exact ⟨l, vs, rfl, .inl (SqL.of (hide_le _ _ h1 rfl)), hx, e ▸ hf, e ▸ q _ _ H rfl (Same.refl H) (rep_v.mpr rfl)⟩
theorem eqV_str {a b : Str} : eqV (.str a) (.str b) = decide (a = b) := by
  unfold eqV
  by_cases h : a = b <;> simp [h]
theorem inV_str {x : Str} {l : List Str} : inV (.str x) (l.map V.str) = decide (x ∈ l) := by
  unfold inV
  induction l with
  | nil => simp
  | cons a l ih =>
    rw [List.map_cons, List.any_cons, ih, eqV_str]
    by_cases h : a = x
    · subst h
      simp
    · have h' : ¬ x = a := fun z => h z.symm
      simp [h, h']
theorem flat_strs {l : List Str} : (l.map V.str).all flatV = true := by
  rw [List.all_map]
  exact List.all_eq_true.mpr fun _ _ => rfl
theorem flat_ints {l : List Int} : (l.map V.int).all flatV = true := by
  rw [List.all_map]
  exact List.all_eq_true.mpr fun _ _ => rfl
theorem eqV_int {a b : Int} : eqV (.int a) (.int b) = decide (a = b) := by
  unfold eqV
  by_cases h : a = b <;> simp [h]
theorem inV_int {x : Int} {l : List Int} : inV (.int x) (l.map V.int) = decide (x ∈ l) := by
  unfold inV
  induction l with
  | nil => simp
  | cons a l ih =>
    rw [List.map_cons, List.any_cons, ih, eqV_int]
    by_cases h : a = x
    · subst h
      simp
    · have h' : ¬ x = a := fun z => h z.symm
      simp [h, h']
theorem rr_inStrs {x : Str} {l : List Str} : RR C (rIn K false) (.s x) (.lst (dS l)) (· = .b (decide (x ∈ l))) := by
  have h := rr_in (C := C) (K := K) (neg := false) (x := .str x) (xs := l.map V.str) rfl flat_strs
  rw [if_neg Bool.false_ne_true, inV_str, List.map_map] at h
  exact h
theorem rr_niStrs {x : Str} {l : List Str} : RR C (rIn K true) (.s x) (.lst (dS l)) (· = .b (!decide (x ∈ l))) := by
  have h := rr_in (C := C) (K := K) (neg := true) (x := .str x) (xs := l.map V.str) rfl flat_strs
  rw [if_pos rfl, inV_str, List.map_map] at h
  exact h
theorem rr_inInts {x : Int} {l : List Int} : RR C (rIn K false) (.i x) (.lst (dI l)) (· = .b (decide (x ∈ l))) := by
  have h := rr_in (C := C) (K := K) (neg := false) (x := .int x) (xs := l.map V.int) rfl flat_ints
  rw [if_neg Bool.false_ne_true, inV_int, List.map_map] at h
  exact h
theorem rr_niInts {x : Int} {l : List Int} : RR C (rIn K true) (.i x) (.lst (dI l)) (· = .b (!decide (x ∈ l))) := by
  have h := rr_in (C := C) (K := K) (neg := true) (x := .int x) (xs := l.map V.int) rfl flat_ints
  rw [if_pos rfl, inV_int, List.map_map] at h
  exact h
/-! ### items, slices, +, * -/
theorem repL_at {H : Hp} {vs : List V} {i : Int} (h : RepL C H ds vs) (e : atI ds i = some d) : ∃ v, atI vs i = some v ∧ Rep C H d v := by
  unfold atI at e ⊢
  rw [h.length]
  cases q : ixN ds.length i with
  | none =>
    rw [q] at e
    cases e
  | some j =>
    rw [q] at e
    exact h.get e
theorem rr_ixL {i : Int} (h : atI ds i = some d) (hr : R d) : RR C (rIxL K) (.lst ds) (.i i) R := fun O H a b dm ha hb Q q => by
  obtain ⟨l, vs, rfl, h1, h2⟩ := rep_lst.mp ha
  obtain ⟨v, e, rv⟩ := repL_at h2 h
  exact ⟨l, vs, i, v, rfl, rep_v.mp hb, SqL.of (hide_le _ _ h1 rfl), e, q _ _ H hr (Same.refl H) rv⟩
theorem rr_ixT {i : Int} (h : atI ds i = some d) (hr : R d) : RR C (rIxT K) (.tup ds) (.i i) R := fun O H a b dm ha hb Q q => by
  obtain ⟨l, vs, rfl, h1, h2⟩ := rep_tup.mp ha
  obtain ⟨v, e, rv⟩ := repL_at h2 h
  exact ⟨l, vs, i, v, rfl, rep_v.mp hb, SqT.of (hide_le _ _ h1 rfl), e, q _ _ H hr (Same.refl H) rv⟩
theorem rr_ixS {z : Str} {i : Int} {c : Nat} (hz : z.length ≤ 100000) (h : atI z.cps.toList i = some c) : RR C rIxS (.s z) (.i i) (· = .s ⟨#[c]⟩) := rr_v fun H Q q => ⟨z, i, c, rfl, rfl, sz5 hz, h, q⟩
theorem atI_n {α : Type} {xs : List α} {j : Nat} {x : α} (h : xs[j]? = some x) : atI xs (j : Int) = some x := atI_nat h
theorem rf_cat (h : ds.length + es.length ≤ 100000) : RF C rCat (.lst ds) (.lst es) (ds ++ es) := fun O H a b dm ha hb Q q => by
  obtain ⟨l, vs, rfl, h1, h2⟩ := rep_lst.mp ha
  obtain ⟨m, ws, rfl, h3, h4⟩ := rep_lst.mp hb
  refine ⟨l, m, vs, ws, rfl, rfl, hide_le _ _ h1 rfl, hide_le _ _ h3 rfl, ?_, fun p np => q p (vs ++ ws) _ np (same_new np) upd_same ((h2.append h4).mono (hide_new np))⟩
  rw [h2.length, h4.length]
  exact sz5 h
theorem rr_catT (h : ds.length + es.length ≤ 100000) : RR C (rCatA K) (.tup ds) (.tup es) (· = .tup (ds ++ es)) := fun O H a b dm ha hb Q q => by
  obtain ⟨l, vs, rfl, h1, h2⟩ := rep_tup.mp ha
  obtain ⟨m, ws, rfl, h3, h4⟩ := rep_tup.mp hb
  have e1 := h2.length
  have e2 := h4.length
  refine ⟨l, m, vs, ws, rfl, rfl, SqT.of (hide_le _ _ h1 rfl), SqT.of (hide_le _ _ h3 rfl), ?_, fun z => ?_, fun _ z => ?_, fun _ _ p np => ?_⟩
  · rw [e1, e2]
    exact sz5 h
  · subst z
    have : ds = [] := List.length_eq_zero_iff.mp e1.symm
    subst this
    exact q _ _ H rfl (Same.refl H) hb
  · subst z
    have : es = [] := List.length_eq_zero_iff.mp e2.symm
    subst this
    exact q _ _ H rfl (Same.refl H) (by rwa [List.append_nil])
  · exact q _ _ _ rfl (same_new np) (rep_tup.mpr ⟨p, _, rfl, by rw [hide_at (dm.out np)]; exact upd_same, (h2.append h4).mono (hide_mono (same_new np))⟩)
theorem rf_rep {n : Int} (h : ds.length * n.toNat ≤ 100000) (h1 : n ≤ 100000) (h0 : -100000 ≤ n) : RF C rRep (.lst ds) (.i n) (List.replicate n.toNat ds).flatten := fun O H a b dm ha hb Q q => by
  obtain ⟨l, vs, rfl, h2, h3⟩ := rep_lst.mp ha
  refine ⟨l, n, vs, rfl, rep_v.mp hb, hide_le _ _ h2 rfl, by omega, by omega, ?_, fun p np => q p _ _ np (same_new np) upd_same ((h3.rep n.toNat).mono (hide_new np))⟩
  rw [h3.length]
  exact sz5 h
def cutA {α : Type} (xs : List α) (lo hi : Option Int) : List α := (xs.drop (HT.sIx xs.length 0 lo)).take (HT.sIx xs.length xs.length hi - HT.sIx xs.length 0 lo)
theorem RepL.cut {H : Hp} {vs : List V} (h : RepL C H ds vs) (lo hi : Option Int) : RepL C H (cutA ds lo hi) (cutV vs lo hi) := by
  unfold cutA cutV
  rw [h.length]
  exact (h.drop _).take _
theorem eo_no : EvO C tNoPart G none := fun O H σ g Q q => q H (Same.refl H)
theorem eo_i {n : Int} (h : EvD C te G (.i n)) : EvO C (tPart te) G (some n) := fun O H σ g Q q => h O H σ g _ fun d v H1 e e1 hv => by
  subst e
  exact ⟨n, rep_v.mp hv, q H1 e1⟩
theorem ev_slL {tl th : TO} {lo hi : Option Int} (h : EvD C te G (.lst ds)) (hl : EvO C tl G lo) (hh : EvO C th G hi) : EvF C (tSl (rSlL K) te tl th) G (cutA ds lo hi) := fun O H σ g Q q =>
  h O H σ g _ fun d v H1 e e1 hv => hl O H1 σ (g.mono e1) _ fun H2 e2 => hh O H2 σ (g.mono (e1.trans e2)) _ fun H3 e3 => by
    subst e
    obtain ⟨l, vs, rfl, h1, h2⟩ := rep_lst.mp hv
    have e23 := e2.trans e3
    refine ⟨l, vs, rfl, SqL.of (e23 _ _ (hide_le _ _ h1 rfl) rfl), fun p np => ?_⟩
    exact q p _ _ ((e1.trans e23).free np) ((e1.trans e23).trans (same_new np)) upd_same (((h2.cut lo hi).mono (hide_mono e23)).mono (hide_new np))
theorem ev_slS {tl th : TO} {lo hi : Option Int} {z : Str} (hz : z.length ≤ 100000) (h : EvD C te G (.s z)) (hl : EvO C tl G lo) (hh : EvO C th G hi) : EvD C (tSl rSlS te tl th) G (.s (cutS z lo hi)) := fun O H σ g Q q =>
  h O H σ g _ fun d v H1 e e1 hv => hl O H1 σ (g.mono e1) _ fun H2 e2 => hh O H2 σ (g.mono (e1.trans e2)) _ fun H3 e3 => by
    subst e
    exact ⟨z, rep_v.mp hv, sz5 hz, q _ _ H3 rfl ((e1.trans e2).trans e3) (rep_v.mpr rfl)⟩
/-! ### calls of built-ins -/
theorem cr1 {r : List V → Hp → VK → Prop} {x z : V} (h : ∀ (H : Hp) (Q : VK), Q z H → r [x] H Q) : CR C r [.v x] (· = .v z) := fun O H vs dm hv Q q => by
  obtain ⟨v, t, rfl, h1, h2⟩ := repL_cons.mp hv
  rw [rep_v.mp h1, repL_nil.mp h2]
  exact h H Q (q _ _ H rfl (Same.refl H) (rep_v.mpr rfl))
theorem cr2 {r : List V → Hp → VK → Prop} {x y z : V} (h : ∀ (H : Hp) (Q : VK), Q z H → r [x, y] H Q) : CR C r [.v x, .v y] (· = .v z) := fun O H vs dm hv Q q => by
  obtain ⟨v, t, rfl, h1, h2⟩ := repL_cons.mp hv
  obtain ⟨v', t', rfl, h3, h4⟩ := repL_cons.mp h2
  rw [rep_v.mp h1, rep_v.mp h3, repL_nil.mp h4]
  exact h H Q (q _ _ H rfl (Same.refl H) (rep_v.mpr rfl))
def rLen (K : PySem.W.Frag) : List V → Hp → VK → Prop := fun xs H Q => ∃ x n, xs = [x] ∧ LenV K x H n ∧ Q (.int n) H
theorem call_lenR {X : Cx} : CallR X (.builtin "len") (rLen X.K) := call_len
theorem cr_lenL : CR C (rLen K) [.lst ds] (· = .i ds.length) := fun O H vs dm hv Q q => by
  obtain ⟨v, t, rfl, h1, h2⟩ := repL_cons.mp hv
  obtain ⟨a, xs, rfl, h3, h4⟩ := rep_lst.mp h1
  rw [repL_nil.mp h2]
  exact ⟨_, xs.length, rfl, .inl ⟨xs, SqL.of (hide_le _ _ h3 rfl), rfl⟩, q _ _ H rfl (Same.refl H) (rep_v.mpr (by rw [h4.length]))⟩
theorem cr_lenT : CR C (rLen K) [.tup ds] (· = .i ds.length) := fun O H vs dm hv Q q => by
  obtain ⟨v, t, rfl, h1, h2⟩ := repL_cons.mp hv
  obtain ⟨a, xs, rfl, h3, h4⟩ := rep_tup.mp h1
  rw [repL_nil.mp h2]
  exact ⟨_, xs.length, rfl, .inr ⟨xs, SqT.of (hide_le _ _ h3 rfl), rfl⟩, q _ _ H rfl (Same.refl H) (rep_v.mpr (by rw [h4.length]))⟩
theorem cr_lenS {z : Str} (h : z.length ≤ 100000) : CR C (rLen K) [.s z] (· = .i z.length) := cr1 fun H Q q => ⟨_, z.length, rfl, ⟨sz5 h, rfl⟩, q⟩
theorem cr_sumD {ns : List Int} : CR C (rSum K) [.lst (dI ns)] (· = .i ns.sum) := fun O H vs dm hv Q q => by
  obtain ⟨v, t, rfl, h1, h2⟩ := repL_cons.mp hv
  obtain ⟨a, xs, rfl, h3, h4⟩ := rep_lst.mp h1
  rw [repL_nil.mp h2]
  rw [repL_flat.mp h4] at h3
  exact ⟨a, ns, rfl, SqL.of (hide_le _ _ h3 rfl), q _ _ H rfl (Same.refl H) (rep_v.mpr rfl)⟩
theorem cr_allD {bs : List Bool} : CR C (rAll K) [.lst (dB bs)] (· = .b (bs.all id)) := fun O H vs dm hv Q q => by
  obtain ⟨v, t, rfl, h1, h2⟩ := repL_cons.mp hv
  obtain ⟨a, xs, rfl, h3, h4⟩ := rep_lst.mp h1
  rw [repL_nil.mp h2]
  rw [repL_flat.mp h4] at h3
  exact ⟨a, bs, rfl, SqL.of (hide_le _ _ h3 rfl), q _ _ H rfl (Same.refl H) (rep_v.mpr rfl)⟩
/-- the least of ints -/
def leastI : List Int → Int
  | [] => 0
  | [x] => x
  | x :: l => min x (leastI l)
theorem leastI_mem : ∀ {l : List Int}, l ≠ [] → leastI l ∈ l
  | [], h => absurd rfl h
  | [x], _ => List.mem_singleton.mpr rfl
  | x :: y :: l, _ => by
    have ih := leastI_mem (l := y :: l) (fun z => nomatch z)
    show min x (leastI (y :: l)) ∈ x :: y :: l
    by_cases h : x ≤ leastI (y :: l)
    · rw [Int.min_eq_left h]
      exact List.mem_cons_self ..
    · rw [Int.min_eq_right (by omega)]
      exact List.mem_cons_of_mem _ ih
theorem leastI_le : ∀ {l : List Int} {y : Int}, y ∈ l → leastI l ≤ y
  | [], _, h => by simp at h
  | [x], y, h => by
    have : y = x := by simpa using h
    subst this
    exact Int.le_refl _
  | x :: z :: l, y, h => by
    show min x (leastI (z :: l)) ≤ y
    rcases List.mem_cons.mp h with e | h
    · subst e
      omega
    · have := leastI_le h
      omega
theorem cr_minD {ns : List Int} (h : ns ≠ []) : CR C (rMin K) [.lst (dI ns)] (· = .i (leastI ns)) := fun O H vs dm hv Q q => by
  obtain ⟨v, t, rfl, h1, h2⟩ := repL_cons.mp hv
  obtain ⟨a, xs, rfl, h3, h4⟩ := rep_lst.mp h1
  rw [repL_nil.mp h2]
  rw [repL_flat.mp h4] at h3
  refine ⟨a, ns, rfl, SqL.of (hide_le _ _ h3 rfl), List.length_pos_iff.mpr h, fun m hm hle => ?_⟩
  have e : m = leastI ns := Int.le_antisymm (hle _ (leastI_mem h)) (leastI_le hm)
  rw [e]
  exact q _ _ H rfl (Same.refl H) (rep_v.mpr rfl)
/-- list(xs), tuple(xs) -/
def rListOf (K : PySem.W.Frag) : List V → Hp → VK → Prop := fun xs H Q => ∃ p ys, xs = [.ref p] ∧ (SqL K H p ys ∨ SqT K H p ys) ∧ ∀ l, H l = none → Q (.ref l) (upd H l (.lst ys))
def rTupOf (K : PySem.W.Frag) : List V → Hp → VK → Prop := fun xs H Q => ∃ p ys, xs = [.ref p] ∧ ((SqL K H p ys ∧ ∀ l, H l = none → Q (.ref l) (upd H l (.tup ys))) ∨ (SqT K H p ys ∧ Q (.ref p) H))
theorem call_listR {X : Cx} : CallR X (.type "list") (rListOf X.K) := call_list_of
theorem call_tupR {X : Cx} : CallR X (.type "tuple") (rTupOf X.K) := call_tuple_of
theorem cf_list : CF C (rListOf K) [.lst ds] ds := fun O H vs dm hv Q q => by
  obtain ⟨v, t, rfl, h1, h2⟩ := repL_cons.mp hv
  obtain ⟨a, xs, rfl, h3, h4⟩ := rep_lst.mp h1
  rw [repL_nil.mp h2]
  exact ⟨a, xs, rfl, .inl (SqL.of (hide_le _ _ h3 rfl)), fun p np => q p xs _ np (same_new np) upd_same (h4.mono (hide_new np))⟩
theorem cf_listT : CF C (rListOf K) [.tup ds] ds := fun O H vs dm hv Q q => by
  obtain ⟨v, t, rfl, h1, h2⟩ := repL_cons.mp hv
  obtain ⟨a, xs, rfl, h3, h4⟩ := rep_tup.mp h1
  rw [repL_nil.mp h2]
  exact ⟨a, xs, rfl, .inr (SqT.of (hide_le _ _ h3 rfl)), fun p np => q p xs _ np (same_new np) upd_same (h4.mono (hide_new np))⟩
theorem cr_tup : CR C (rTupOf K) [.lst ds] (· = .tup ds) := fun O H vs dm hv Q q => by
  obtain ⟨v, t, rfl, h1, h2⟩ := repL_cons.mp hv
  obtain ⟨a, xs, rfl, h3, h4⟩ := rep_lst.mp h1
  rw [repL_nil.mp h2]
  exact ⟨a, xs, rfl, .inl ⟨SqL.of (hide_le _ _ h3 rfl), fun p np => q _ _ _ rfl (same_new np) (rep_tup.mpr ⟨p, xs, rfl, by rw [hide_at (dm.out np)]; exact upd_same, h4.mono (hide_mono (same_new np))⟩)⟩⟩
/-- tuple([..]), the list made on the way -/
theorem ev_tupOf (h : EvD C te G (.lst ds)) : EvD C (tCB (rTupOf K) (tCons te tNil)) G (.tup ds) := ev_cbD (ea1 h) cr_tup
theorem ev_sumOf {ns : List Int} (h : EvD C te G (.lst (dI ns))) : EvD C (tCB (rSum K) (tCons te tNil)) G (.i ns.sum) := ev_cbD (ea1 h) cr_sumD
theorem ev_allOf {bs : List Bool} (h : EvD C te G (.lst (dB bs))) : EvD C (tCB (rAll K) (tCons te tNil)) G (.b (bs.all id)) := ev_cbD (ea1 h) cr_allD
theorem ev_lenL (h : EvD C te G (.lst ds)) : EvD C (tCB (rLen K) (tCons te tNil)) G (.i ds.length) := ev_cbD (ea1 h) cr_lenL
theorem ev_lenT (h : EvD C te G (.tup ds)) : EvD C (tCB (rLen K) (tCons te tNil)) G (.i ds.length) := ev_cbD (ea1 h) cr_lenT
theorem ev_lenS {z : Str} (hz : z.length ≤ 100000) (h : EvD C te G (.s z)) : EvD C (tCB (rLen K) (tCons te tNil)) G (.i z.length) := ev_cbD (ea1 h) (cr_lenS hz)
/-! ### isinstance -/
theorem cr_isi {d : D} {c : V} {u t : Value} {b : Bool} (hc : ClsV c u) (hk : PySem.W.kitOne K t u = some b) (ht : ∀ (H : Hp) (v : V), Rep C H d v → TyX K H v t) (hm : ∀ (H H' : Hp) (v : V), Sub H H' → TyX K H v t → TyX K H' v t) : CR C (rIsi K) [d, .v c] (· = .b b) := fun O H vs dm hv Q q => by
  obtain ⟨v, r, rfl, h1, h2⟩ := repL_cons.mp hv
  obtain ⟨v', r', rfl, h3, h4⟩ := repL_cons.mp h2
  rw [rep_v.mp h3, repL_nil.mp h4]
  exact ⟨v, c, t, u, b, rfl, hc, hm _ _ _ hide_le (ht _ _ h1), hk, q _ _ H rfl (Same.refl H) (rep_v.mpr rfl)⟩
theorem cr_isiI {i : Int} {T : String} {b : Bool} (hk : kitB "int" T = some b) : CR C (rIsi K) [.i i, .v (.ty T)] (· = .b b) := fun O H vs dm hv Q q => by
  obtain ⟨v, r, rfl, h1, h2⟩ := repL_cons.mp hv
  obtain ⟨v', r', rfl, h3, h4⟩ := repL_cons.mp h2
  rw [rep_v.mp h1, rep_v.mp h3, repL_nil.mp h4]
  exact ⟨_, _, _, _, b, rfl, .ty T, .base (.int i), kit_ty hk, q _ _ H rfl (Same.refl H) (rep_v.mpr rfl)⟩
theorem cr_isiS {z : Str} {T : String} {b : Bool} (hk : kitB "str" T = some b) : CR C (rIsi K) [.s z, .v (.ty T)] (· = .b b) := fun O H vs dm hv Q q => by
  obtain ⟨v, r, rfl, h1, h2⟩ := repL_cons.mp hv
  obtain ⟨v', r', rfl, h3, h4⟩ := repL_cons.mp h2
  rw [rep_v.mp h1, rep_v.mp h3, repL_nil.mp h4]
  exact ⟨_, _, _, _, b, rfl, .ty T, .base (.str z), kit_ty hk, q _ _ H rfl (Same.refl H) (rep_v.mpr rfl)⟩
theorem cr_isiT {T : String} {b : Bool} (hk : kitB "tuple" T = some b) : CR C (rIsi K) [.tup ds, .v (.ty T)] (· = .b b) := fun O H vs dm hv Q q => by
  obtain ⟨v, r, rfl, h1, h2⟩ := repL_cons.mp hv
  obtain ⟨v', r', rfl, h3, h4⟩ := repL_cons.mp h2
  obtain ⟨a, xs, rfl, h5, h6⟩ := rep_tup.mp h1
  rw [rep_v.mp h3, repL_nil.mp h4]
  exact ⟨_, _, _, _, b, rfl, .ty T, .base (.tup (hide_le _ _ h5 rfl)), kit_ty hk, q _ _ H rfl (Same.refl H) (rep_v.mpr rfl)⟩
end
end Wr
set_option maxHeartbeats 4000000
namespace Wr
open PySem L2
/-- a def of the module keeps its promise, by its body's reading -/
theorem fn_has {P : Program} {w : World} {K : PySem.W.Frag} {mg : Str → Option Value} {base : Heap} {C : Cn} (T : Tx K mg C.cls) (i : Nat) {d : He.DefD} (hi : fn[i]? = some d) (hn : d.at_.2 = none) {N ps : List Str} {k : Nat} {α : Type} {A : α → List D} {pre : α → Prop} {post : α → D → Prop}
    (S : FnScope N ps d.scope) (h1 : d.dfl = []) (h2 : d.kwd = [])
    (bnd : ∀ (kV doc pm : Value) (an : Option Addr) (cdv ct : Value) (us : List Value), us.length = ps.length → bindArgs (PySem.W.fnOf d.name d.qual d.params d.body d.scope .none kV doc pm an cdv ct) ⟨us, []⟩ = pure (ps.zip us)) (len : ∀ x, (A x).length = ps.length)
    (body : ∀ (cdv : Value) (A' : Around) (outer : List Env) (s : Shared) (H : Hp) (E : XK), Room k (A'.deeper (PyProof.Rows.envOfC d.qual d.scope s.heap.objs.size (He.fAd K d.at_) cdv)) →
      ∃ t, PSs (cxOf CX0 P w K mg base N d.qual d.scope (He.fAd K d.at_) cdv A' outer s H E).nox d.body t ∧ ∀ x, pre x → SD C t (En0 N.length (A x)) (fun _ => post x D.n) (fun r _ => post x r)) :
    Has P w K mg base (k + 1) d.at_.1 ps (spT C A pre post) := by
  obtain ⟨fd, F⟩ := T.fns i d hi
  have e1 : d.dvs K = [] := by
    unfold He.DefD.dvs
    rw [h1]
    rfl
  have e2 : d.kws K = [] := by
    unfold He.DefD.kws
    rw [h2]
    rfl
  rw [e1, e2] at F
  refine ⟨_, fd, F.ok S (sp_len len) (fun cdv A' outer s H vs Q E hr h => ?_), T.glo i d hi hn, F.kp, F.bindsN bnd⟩
  obtain ⟨t, ht, q⟩ := body cdv A' outer s H E hr
  exact ⟨t, ht.nox, sp_run q vs H Q E h⟩
end Wr
set_option maxHeartbeats 4000000
namespace Wr
open PySem L2
theorem bt_len : bootBuiltins "len" = some (.builtin "len") := by first | exact PyProof.Rows.boot_len | exact PySem.boot_len | exact PyProof.boot_len | decide +kernel
theorem bt_isinstance : bootBuiltins "isinstance" = some (.builtin "isinstance") := by first | exact PyProof.Rows.boot_isinstance | exact PySem.boot_isinstance | exact PyProof.boot_isinstance | decide +kernel
theorem bt_list : bootBuiltins "list" = some (.type "list") := by first | exact PyProof.Rows.boot_list | exact PySem.boot_list | exact PyProof.boot_list | decide +kernel
theorem bt_tuple : bootBuiltins "tuple" = some (.type "tuple") := by first | exact PyProof.Rows.boot_tuple | exact PySem.boot_tuple | exact PyProof.boot_tuple | decide +kernel
theorem bt_sorted : bootBuiltins "sorted" = some (.builtin "sorted") := by first | exact PyProof.Rows.boot_sorted | exact PySem.boot_sorted | exact PyProof.boot_sorted | decide +kernel
theorem bt_sum : bootBuiltins "sum" = some (.builtin "sum") := by first | exact PyProof.Rows.boot_sum | exact PySem.boot_sum | exact PyProof.boot_sum | decide +kernel
theorem bt_all : bootBuiltins "all" = some (.builtin "all") := by first | exact PyProof.Rows.boot_all | exact PySem.boot_all | exact PyProof.boot_all | decide +kernel
theorem bt_min : bootBuiltins "min" = some (.builtin "min") := by first | exact PyProof.Rows.boot_min | exact PySem.boot_min | exact PyProof.boot_min | decide +kernel
theorem bt_max : bootBuiltins "max" = some (.builtin "max") := by first | exact PyProof.Rows.boot_max | exact PySem.boot_max | exact PyProof.boot_max | decide +kernel
theorem bt_abs : bootBuiltins "abs" = some (.builtin "abs") := by first | exact PyProof.Rows.boot_abs | exact PySem.boot_abs | exact PyProof.boot_abs | decide +kernel
theorem bt_int : bootBuiltins "int" = some (.type "int") := by first | exact PyProof.Rows.boot_int | exact PySem.boot_int | exact PyProof.boot_int | decide +kernel
theorem bt_str : bootBuiltins "str" = some (.type "str") := by first | exact PyProof.Rows.boot_str | exact PySem.boot_str | exact PyProof.boot_str | decide +kernel
theorem bt_dict : bootBuiltins "dict" = some (.type "dict") := by first | exact PyProof.Rows.boot_dict | exact PySem.boot_dict | exact PyProof.boot_dict | decide +kernel
theorem bt_bool : bootBuiltins "bool" = some (.type "bool") := by first | exact PyProof.Rows.boot_bool | exact PySem.boot_bool | exact PyProof.boot_bool | decide +kernel
section
variable {X : Cx}
theorem pe_globI {x : PySem.Str} {pos : Pos} {i : Int} (hg : Gl X x) (h : ∃ t, X.mg x = some (.int i t)) (hd : (x == ("__debug__" : PySem.Str)) = false := by decide) : PE X (.Name x pos) (tC (.int i)) := by
  refine ⟨fun pins s σ H Q I q => ?_⟩
  obtain ⟨t, ht⟩ := h
  exact (pe_glob (v := .int i) hg ht ⟨t, rfl⟩ hd).run pins s σ H Q I q
theorem pe_globS {x : PySem.Str} {pos : Pos} {z : PySem.Str} (hg : Gl X x) (h : ∃ t, X.mg x = some (.str z t)) (hd : (x == ("__debug__" : PySem.Str)) = false := by decide) : PE X (.Name x pos) (tC (.str z)) := by
  refine ⟨fun pins s σ H Q I q => ?_⟩
  obtain ⟨t, ht⟩ := h
  exact (pe_glob (v := .str z) hg ht ⟨t, rfl⟩ hd).run pins s σ H Q I q
def CDivWN (_ j : Int) : Prop := j ≠ 0 ∧ j.natAbs.log2 < 9000
theorem op_fdivWN : OpR X (binaryOp .FloorDiv) (rI CDivWN fun i j => .int (i.fdiv j)) := opI fun i j _ _ _ _ _ hc q => PyProof.Rows.floordiv_int hc.1 q (.inl (PyProof.noPylong_of_log2 hc.2))
end
section
variable {C : Cn} {K : PySem.W.Frag} {G : En} {N : En → Prop} {R : D → En → Prop} {u : TS} {ta : TA} {i j : Nat} {d e : D}
theorem rr_mod {a b : Int} (h : 0 < b) : RR C (rI (fun _ j => 0 < j) fun i j => .int (i % j)) (.i a) (.i b) (· = .i (a % b)) := rr_I h
theorem rr_mulW {a b : Int} (h : CMulW a b) : RR C (rI CMulW fun i j => .int (i * j)) (.i a) (.i b) (· = .i (a * b)) := rr_I h
theorem rr_fdiv {a b : Int} (h : CDivWN a b) : RR C (rI CDivWN fun i j => .int (i.fdiv j)) (.i a) (.i b) (· = .i (a.fdiv b)) := rr_I h
theorem rr_add {a b : Int} : RR C (rI0 fun i j => .int (i + j)) (.i a) (.i b) (· = .i (a + b)) := rr_I0
theorem rr_sub {a b : Int} : RR C (rI0 fun i j => .int (i - j)) (.i a) (.i b) (· = .i (a - b)) := rr_I0
theorem rr_lt {a b : Int} : RR C (rI0 fun i j => .bl (decide (i < j))) (.i a) (.i b) (· = .b (decide (a < b))) := rr_I0
theorem rr_gt {a b : Int} : RR C (rI0 fun i j => .bl (decide (j < i))) (.i a) (.i b) (· = .b (decide (b < a))) := rr_I0
theorem ev_add {ta tb : TE} {a b : Int} (h1 : EvD C ta G (.i a)) (h2 : EvD C tb G (.i b)) : EvD C (tOp (rI0 fun i j => .int (i + j)) ta tb) G (.i (a + b)) := ev_opD h1 h2 rr_add
theorem ev_sub {ta tb : TE} {a b : Int} (h1 : EvD C ta G (.i a)) (h2 : EvD C tb G (.i b)) : EvD C (tOp (rI0 fun i j => .int (i - j)) ta tb) G (.i (a - b)) := ev_opD h1 h2 rr_sub
theorem ev_neg {ta : TE} {a : Int} (h1 : EvD C ta G (.i a)) : EvD C (tUn (rU fun i => .int (-i)) ta) G (.i (-a)) := ev_un h1 (fun H Q q => ⟨a, rfl, q⟩) rfl
theorem sd_par (h : EvA C ta G (· = [d, e])) (k : N ((G.set i (.im d)).set j (.im e))) : SD C (tPar i j ta) G N R := fun H0 O0 H σ E g n r =>
  h _ H σ g.e _ fun ds vs H' hd e1 hv => by
    subst hd
    obtain ⟨v, t, rfl, h1, h2⟩ := repL_cons.mp hv
    obtain ⟨v', t', rfl, h3, h4⟩ := repL_cons.mp h2
    rw [repL_nil.mp h4]
    exact ⟨v, v', rfl, n _ _ H' k (((g.mono e1).set (sv_im h1)).set (sv_im h3)) (hide_mono e1)⟩
theorem sq_par (h : EvA C ta G (· = [d, e])) (k : SD C u ((G.set i (.im d)).set j (.im e)) N R) : SD C (tSeq (tPar i j ta) u) G N R := sd_seq1 (sd_par h rfl) k
end
end Wr
set_option maxHeartbeats 4000000
namespace Wr
open PySem L2
section
variable {X : Cx} {K : PySem.W.Frag}
theorem k_ix_list (k : X.K = K) : IxR X (rIxL K) := k ▸ ix_list
theorem k_ix_tup (k : X.K = K) : IxR X (rIxT K) := k ▸ ix_tup
theorem k_sl_list (k : X.K = K) : SlR X (rSlL K) := k ▸ sl_list
theorem k_op_catA (k : X.K = K) : OpR X (binaryOp .Add) (rCatA K) := k ▸ op_catA
theorem k_op_in_seq (k : X.K = K) : OpR X (compareOp .In) (rIn K false) := k ▸ op_in_seq
theorem k_op_notIn_seq (k : X.K = K) : OpR X (compareOp .NotIn) (rIn K true) := k ▸ op_notIn_seq
theorem k_call_len (k : X.K = K) : CallR X (.builtin "len") (rLen K) := k ▸ call_lenR
theorem k_call_tup (k : X.K = K) : CallR X (.type "tuple") (rTupOf K) := k ▸ call_tupR
theorem k_call_list (k : X.K = K) : CallR X (.type "list") (rListOf K) := k ▸ call_listR
theorem k_cr_sum (hc : X.calm = true) (k : X.K = K) : CallR X (.builtin "sum") (rSum K) := k ▸ cr_sum hc
theorem k_cr_all (hc : X.calm = true) (k : X.K = K) : CallR X (.builtin "all") (rAll K) := k ▸ cr_all hc
theorem k_cr_min (hc : X.calm = true) (k : X.K = K) : CallR X (.builtin "min") (rMin K) := k ▸ L2.cr_min hc
theorem k_mt_index (k : X.K = K) : MtR X "list.index" (rIndex K) := k ▸ mt_index
theorem k_pe_fld {e : Expr} {f : Str} {pos : Pos} {ta : TE} (k : X.K = K) (he : PE X e ta) (hb : attributeBase e f X.env (eval e X.env) = eval e X.env) : PE X (.Attribute e f pos) (tFld K ta f) := k ▸ pe_fld he hb
theorem k_pe_bm {o e : Expr} {es : List Expr} {to : TE} {t : TA} {name : Str} {apos cpos : Pos} {T id : String} {r : V → List V → Hp → VK → Prop} (k : X.K = K) (pa : PlainAttrs T) (slot : Slot T name id) (hty : typeOf (.builtin id) = pure (.type "method_descriptor")) (hm : MtR X id r) (ho : PE X o to) (ha : PA X (e :: es) t)
    (hbase : attributeBase o name X.env (eval o X.env) = eval o X.env := by rfl)
    (hfew : ((backTo cpos (starEach (e :: es) X.env)).all (fun x => !x.1) && (backToKw cpos (keywordEach [] X.env)).all (fun x => x.1.isSome)
      && decide ((e :: es).length + ([] : List Keyword).length + (if ([] : List Keyword).isEmpty then 0 else 1) < 30)) = true := by rfl)
    (hline : (apos.endLine == cpos.line) = true := by rfl) (hs : starEach (e :: es) X.env = (false, eval e X.env) :: starEach es X.env := by rfl) (hplain : (backTo cpos (starEach es X.env)).any (·.1) = false := by rfl) : PE X (.Call (.Attribute o name apos) (e :: es) [] cpos) (tBM K T r to t) := k ▸ pe_bm pa slot hty hm ho ha hbase hfew hline hs hplain
theorem k_pi_list {tg l : Expr} {tl : TE} (k : X.K = K) (hl : PE X l tl) : PI X tg l (iList K tl) := k ▸ pi_list hl
theorem k_pi_tup {tg l : Expr} {tl : TE} (k : X.K = K) (hl : PE X l tl) : PI X tg l (iTup K tl) := k ▸ pi_tup hl
theorem k_pi_enum {e : Expr} {ta : TA} {p pos tpos : Pos} {elts : List Expr} {kk : Nat} (k : X.K = K) (hg : Gl X "enumerate") (hm : X.mg "enumerate" = none) (ha : PA X [e] ta) (hs : starEach [e] X.env = [(false, eval e X.env)] := by rfl) :
    PI X (.Tuple elts kk tpos) (.Call (.Name "enumerate" p) [e] [] pos) (iEnum K ta) := k ▸ pi_enum hg hm ha hs
theorem k_pi_enumT {e : Expr} {ta : TA} {p pos tpos : Pos} {elts : List Expr} {kk : Nat} (k : X.K = K) (hg : Gl X "enumerate") (hm : X.mg "enumerate" = none) (ha : PA X [e] ta) (hs : starEach [e] X.env = [(false, eval e X.env)] := by rfl) :
    PI X (.Tuple elts kk tpos) (.Call (.Name "enumerate" p) [e] [] pos) (iEnumT K ta) := k ▸ pi_enumT hg hm ha hs
theorem k_pi_zip {e e2 : Expr} {ta : TA} {p pos tpos : Pos} {elts : List Expr} {kk : Nat} (k : X.K = K) (hg : Gl X "zip") (hm : X.mg "zip" = none) (ha : PA X [e, e2] ta)
    (hs : starEach [e, e2] X.env = (false, eval e X.env) :: starEach [e2] X.env := by rfl) (hpl : (backTo pos (starEach [e2] X.env)).any (·.1) = false := by rfl) :
    PI X (.Tuple elts kk tpos) (.Call (.Name "zip" p) [e, e2] [] pos) (RZ.iZipA K ta) := k ▸ RZ.pi_zipA hg hm ha hs hpl
end
/-- a state of names, seen as it is -/
theorem sd_st {C : Cn} {t : TS} {G G1 : En} {N : En → Prop} {R : D → En → Prop} (e : G = G1) (k : SD C t G1 N R) : SD C t G N R := e ▸ k
end Wr
set_option maxHeartbeats 4000000
namespace PySem.SeqAt
open PySem PyProof PyProof.Rows PySem.Spec
theorem call_tup_lt {A : Around} {s : Shared} {prog : Program} {w : World} {E : Value → Shared → Prop} {Q : Value → Shared → Prop} {l b : Addr} {items items2 : Array Value} {e r : Nat → Bool} (hl : s.heap.IsTuple l items) (hb : s.heap.IsTuple b items2)
    (he : ∀ j (h1 : j < items.size) (h2 : j < items2.size), EqAt A.in1 s items[j] items2[j] (e j)) (hr : ∀ j (h1 : j < items.size) (h2 : j < items2.size), e j = false → RcLt A.in1 s items[j] items2[j] (r j))
    (h : Q (.bool (firstLt e r (decide (items.size < items2.size)) (List.range (min items.size items2.size)))) s) : wpAny (model prog w) A (call (.builtin "tuple.__lt__") [.ref l, .ref b]) Q E s := by
  obtain ⟨⟨cls, dd, data, sl⟩, ho, hc, n, hd⟩ := id hl
  obtain ⟨⟨cls2, dd2, data2, sl2⟩, ho2, hc2, n2, hd2⟩ := id hb
  simp only at hc hd hc2 hd2
  subst hc hd hc2 hd2
  exact call_meets F.slot_tuple_lt ⟨_, ho, rfl⟩ F.entry_tuple_lt (F.args_tuple_lt_2 _ _) (tuple_ltAt l b items items2 n n2 dd dd2 sl sl2 e r) ⟨ho, ho2, he, hr, h⟩
end PySem.SeqAt
namespace PySem.W
open PySem PySem.Calls PyProof.Rows PySem.SeqAt
section
variable {prog : Program} {w : World} {A : Around} {E : Value → Shared → Prop} {s : Shared}
theorem oneLt_tup {xs ys : List PyData} {a b : Value} {as bs : List Addr} {Q : Bool → Shared → Prop} (ra : Reads s.heap a (.tuple xs) as) (rb : Reads s.heap b (.tuple ys) bs) (h : alike (.tuple xs) (.tuple ys) = true)
    (hu : A.units + min (PyData.tuple xs).depth (PyData.tuple ys).depth < cLine) (hq : Q (dataLt (.tuple xs) (.tuple ys)) s) : wpAny (model prog w) A (oneLt' true a b) Q E s := by
  have hal : alikeAll xs ys = true := by simpa [alike] using h
  cases ra with
  | @tuple l o vs n _ as₁ h1 h2 h3 h4 =>
    cases rb with
    | @tuple l' o' vs' n' _ bs₁ k1 k2 k3 k4 =>
      have n1 : vs.size = xs.length := by simpa using ReadsAll.length _ _ _ h4
      have n2 : vs'.size = ys.length := by simpa using ReadsAll.length _ _ _ k4
      rw [dataLt_tuple, ← firstLt_toks xs ys hal, ← n1, ← n2] at hq
      rw [oneLt'_eq]
      simp only [if_true]
      refine wpAny_bind (wpAny_cRoomFor (room_here hu) ?_)
      refine wpAny_bind (wpAny_callSpecialIfBound?_slot (T := "tuple") ⟨_, h1, h2⟩ F.slot_tuple_lt (call_tup_lt (e := pairEq xs ys) (r := fun j => dataLt (xs.getD j .none) (ys.getD j .none)) ⟨_, h1, h2, _, h3⟩ ⟨_, k1, k2, _, k3⟩ (fun j j1 j2 => ?_) (fun j j1 j2 hj => ?_) ?_))
      · have := eqAt_alikeAll xs ys A.in1 s vs.toList vs'.toList _ _ h4 k4 hal (room_in hu) j (by simpa using j1) (by simpa using j2)
        simpa using this
      · have := rcLt_alikeAll xs ys A.in1 s vs.toList vs'.toList _ _ h4 k4 hal (room_in hu) j (by simpa using j1) (by simpa using j2) hj
        simpa using this
      · exact wpAny_truthy_bool hq
theorem mapM_ex {α β : Type} {M : Model} {f : α → Sem β} : ∀ (l : List α), (∀ v ∈ l, ∃ r, ∀ (Q' : β → Shared → Prop), Q' r s → wpAny M A (f v) Q' E s) → ∃ rs : List β, rs.length = l.length ∧ ∀ (Q : List β → Shared → Prop), Q rs s → wpAny M A (l.mapM f) Q E s
  | [], _ => ⟨[], rfl, fun Q h => by rw [List.mapM_nil]; exact wpAny_pure h⟩
  | x :: l, hf => by
    obtain ⟨r, hr⟩ := hf x (.head _)
    obtain ⟨rs, e, h⟩ := mapM_ex l fun v hv => hf v (.tail _ hv)
    refine ⟨r :: rs, by rw [List.length_cons, List.length_cons, e], fun Q q => ?_⟩
    rw [List.mapM_cons]
    exact wpAny_bind (hr _ (wpAny_bind (h _ (wpAny_pure q))))
theorem first_tup {a : Value} {xs : List PyData} {as : List Addr} (r : Reads s.heap a (.tuple xs) as) : ∃ o : Option Value, (xs = [] → o = none) ∧ ∀ (Q' : Option Value → Shared → Prop), Q' o s → wpAny (model prog w) A (firstOfTuple' a) Q' E s := by
  have lk := looks_reads (M := model prog w) r
  cases r with
  | @tuple l o vs n _ as₁ h1 h2 h3 h4 =>
    have n1 : vs.size = xs.length := by simpa using ReadsAll.length _ _ _ h4
    refine ⟨vs[0]?, fun e => ?_, fun Q' q => ?_⟩
    · subst e
      have : vs.size = 0 := n1
      rw [Array.getElem?_eq_none (by omega)]
    · rw [kas_first_eq]
      refine wpAny_bind (lk.here ?_)
      rw [if_neg (by simp [dataType])]
      exact wpAny_bind (listItems_at h1 h3 (wpAny_pure q))
theorem tups_kind {vs : List Value} {ds : List PyData} {Q : SortKind → Shared → Prop} (e : EachIs (fun v d => ∃ as, Reads s.heap v d as) vs ds) (ht : ∀ d, d ∈ ds → ∃ xs, d = .tuple xs) (h0 : ds[0]? = some (.tuple [])) (h : Q oneType' s) :
    wpAny (model prog w) A (keyKind' vs.toArray) Q E s := by
  cases e with
  | nil => exact absurd h0 (by simp)
  | @cons v d vs ds r t =>
    have ed : d = .tuple [] := by simpa using h0
    subst ed
    obtain ⟨as, r⟩ := r
    obtain ⟨o, ho, hf⟩ := first_tup (prog := prog) (w := w) (A := A) (E := E) r
    have ho := ho rfl
    subst ho
    obtain ⟨rs, el, hm⟩ := mapM_ex (A := A) (E := E) (s := s) (M := model prog w) (f := firstOfTuple') vs fun v hv => by
      obtain ⟨d, hd, as, r⟩ := t.left v hv
      obtain ⟨xs, rfl⟩ := ht d (List.mem_cons_of_mem _ hd)
      obtain ⟨o, _, hf⟩ := first_tup (prog := prog) (w := w) (A := A) (E := E) r
      exact ⟨o, hf⟩
    rw [keyKind'_eq, List.mapM_toArray, map_eq_pure_bind, List.mapM_cons]
    refine wpAny_bind (wpAny_bind (wpAny_bind (hf _ (wpAny_bind (hm _ (wpAny_pure (wpAny_pure ?_)))))))
    rw [if_neg (by simp), if_neg (by simp)]
    rw [oneTypeOnly'_eq, List.mapM_toArray, map_eq_pure_bind]
    refine wpAny_bind (wpAny_bind (wpAny_bind (kas_mapM (r := Value.type "tuple") _ (fun u hu Q' hq => ?_) (wpAny_pure ?_))))
    · rcases List.mem_cons.mp hu with z | z
      · subst z
        exact (looks_reads r).here hq
      · obtain ⟨d, hd, as, r⟩ := t.left u z
        obtain ⟨xs, rfl⟩ := ht d (List.mem_cons_of_mem _ hd)
        exact (looks_reads r).here hq
    · have hall : ((List.map (fun _ => Value.type "tuple") (v :: vs)).toArray.all fun x => x == Value.type "tuple") = true := by
        simp only [List.all_toArray, List.all_map, List.all_eq_true]
        intro _ _
        rfl
      have h0' : (List.map (fun _ => Value.type "tuple") (v :: vs)).toArray[0]? = some (Value.type "tuple") := by simp
      rw [h0']
      simp only [hall, if_true]
      exact wpAny_pure (wpAny_pure h)
theorem SortsAt.tups {vs : List Value} {ds : List PyData} (e : EachIs (fun v d => ∃ as, Reads s.heap v d as) vs ds) (hal : AllAlike ds) (ht : ∀ d, d ∈ ds → ∃ xs, d = .tuple xs) (h0 : ds[0]? = some (.tuple [])) (hu : ∀ d, d ∈ ds → A.units + d.depth < cLine) : SortsAt prog w A s (dataKind s.heap ds) vs := by
  have room : ∀ {d d' : PyData}, d ∈ ds → A.units + min d.depth d'.depth < cLine := fun {d d'} hd => Nat.lt_of_le_of_lt (Nat.add_le_add_left (Nat.min_le_left _ _) _) (hu d hd)
  refine ⟨fun v hv => ?_, oneType', ?_, fun h2 E Q hq => tups_kind e ht h0 hq⟩
  · obtain ⟨d, hd, as, r⟩ := e.left v hv
    exact ⟨_, dataKind_some hal hd r⟩
  · intro E x y a b Q ha hb hq
    obtain ⟨d, as, hd, ra, rfl⟩ := dataKind_inv ha
    obtain ⟨d', as', hd', rb, rfl⟩ := dataKind_inv hb
    have hr := room (d' := d') hd
    have hh := hal d hd d' hd'
    obtain ⟨xs, rfl⟩ := ht d hd
    obtain ⟨ys, rfl⟩ := ht d' hd'
    rw [keyLt'_oneType]
    exact oneLt_tup ra rb hh hr hq
theorem sorted_tups {β : Type} {vs : List Value} {bs : List β} {enc : β → PyData} {R : Value → β → Prop} {l : Addr} {Q : Value → Shared → Prop} (hl : s.heap.IsList l vs.toArray) (e : EachIs R vs bs) (er : EachIs (fun v b => ∃ as, Reads s.heap v (enc b) as) vs bs) (hal : AllAlike (bs.map enc)) (ht : ∀ d, d ∈ bs.map enc → ∃ xs, d = .tuple xs) (h0 : (bs.map enc)[0]? = some (.tuple [])) (hL : bs.length ≤ sizeLine)
    (hu : ∀ b, b ∈ bs → A.units + 2 + (enc b).depth < cLine) (h : ∀ out, out.length = bs.length → EachIs R out (bs.mergeSort (dataLe false enc)) → Q (.ref (s.heap.objs.size + 1)) { s with heap := sortedAll s.heap vs (List.toArray out) }) :
    wpAny (model prog w) A (call (.builtin "sorted") [.ref l]) Q E s := by
  have er' : EachIs (fun v b => ∃ as, Reads (sortingHeap (copyHeap s.heap vs) (s.heap.objs.size + 1) vs) v (enc b) as) vs bs := er.mono fun _ _ ⟨as, r⟩ => ⟨as, PyProof.Rows.Reads.keeps (fun _ _ => sorting_copy_old) r⟩
  exact sorted_vals hl (SortsAt.tups (s := { s with heap := sortingHeap (copyHeap s.heap vs) (s.heap.objs.size + 1) vs }) (each_map (R := fun v d => ∃ as, Reads (sortingHeap (copyHeap s.heap vs) (s.heap.objs.size + 1) vs) v d as) enc er') hal ht h0 (bound_map hu)) (by rw [e.length]; exact hL)
    (h _ (by rw [sortVals_length false rfl]; exact e.length) (sortVals_data false e er' hal))
end
end PySem.W
set_option maxHeartbeats 4000000
namespace Wr
open PySem L2
mutual
def encD : D → PyData
  | .v (.int n) => .int n
  | .v (.str z) => .str z
  | .v (.bl b) => .bool b
  | .v _ => .none
  | .lst l => .list (encL l)
  | .tup l => .tuple (encL l)
  | .web _ _ => .none
  | .dic _ _ => .none
  | .fn => .none
  | .scr _ _ => .none
def encL : List D → List PyData
  | [] => []
  | d :: l => encD d :: encL l
end
mutual
def shpD : D → Bool
  | .v (.int _) => true
  | .v (.str _) => true
  | .v (.bl _) => true
  | .v .non => true
  | .v _ => false
  | .lst l => shpL l
  | .tup l => shpL l
  | .web _ _ => false
  | .dic _ _ => false
  | .fn => false
  | .scr _ _ => false
def shpL : List D → Bool
  | [] => true
  | d :: l => shpD d && shpL l
end
theorem encL_map : ∀ l : List D, encL l = l.map encD
  | [] => rfl
  | d :: l => by
    rw [encL, encL_map l]
    rfl
section
variable {C : Cn} {K : PySem.W.Frag} {H : Hp}
mutual
theorem rep_dp : ∀ (d : D) (v : V), shpD d = true → Rep C H d v → Dp K H v (encD d)
  | .v x, u, s, h => by
    rw [rep_v.mp h]
    cases x <;> first | exact Dp.non | exact Dp.int _ | exact Dp.str _ | exact Dp.bl _ | (exact absurd s (by simp [shpD]))
  | .lst l, u, s, h => by
    obtain ⟨a, vs, rfl, h2, h3⟩ := rep_lst.mp h
    rw [encD]
    exact .lst (SqL.of h2) (repL_dp l vs (by simpa [shpD] using s) h3)
  | .tup l, u, s, h => by
    obtain ⟨a, vs, rfl, h2, h3⟩ := rep_tup.mp h
    rw [encD]
    exact .tup (SqT.of h2) (repL_dp l vs (by simpa [shpD] using s) h3)
  | .web _ _, _, s, _ => absurd s (by simp [shpD])
  | .dic _ _, _, s, _ => absurd s (by simp [shpD])
  | .fn, _, s, _ => absurd s (by simp [shpD])
  | .scr _ _, _, s, _ => absurd s (by simp [shpD])
theorem repL_dp : ∀ (l : List D) (vs : List V), shpL l = true → RepL C H l vs → DpAll K H vs (encL l)
  | [], vs, _, h => by
    rw [repL_nil.mp h]
    exact .nil
  | d :: l, vs, s, h => by
    obtain ⟨v, r, rfl, h2, h3⟩ := repL_cons.mp h
    rw [shpL, Bool.and_eq_true] at s
    exact .cons (rep_dp d v s.1 h2) (repL_dp l r s.2 h3)
end
end
/-- can be sorted -/
def SrtOk (es : List PyData) : Prop := PySem.W.AllAlike es ∧ (PySem.W.Sortable es ∨ (∀ d ∈ es, ∃ xs, d = .tuple xs) ∧ es[0]? = some (.tuple [])) ∧ ∀ d ∈ es, d.depth ≤ 10
def sortZ (xs : List V) (es : List PyData) : List V := ((xs.zip es).mergeSort (PySem.W.dataLe false Prod.snd)).map Prod.fst
def rSorted (K : PySem.W.Frag) : List V → Hp → VK → Prop := fun vs H Q => ∃ a xs es, vs = [V.ref a] ∧ SqL K H a xs ∧ DpAll K H xs es ∧ SrtOk es ∧ ∀ p, H p = none → Q (.ref p) (upd H p (.lst (sortZ xs es)))
theorem dp_len {K : PySem.W.Frag} {H : Hp} : ∀ {xs : List V} {es : List PyData}, DpAll K H xs es → xs.length = es.length
  | [], [], _ => rfl
  | _ :: xs, _ :: es, .cons _ h => by rw [List.length_cons, List.length_cons, dp_len h]
open PySem.Spec PyProof.Rows in
theorem each_zip {X : Cx} {pins : List (Addr × Obj)} {σ : L2.St} {H : Hp} {s : Shared} (I : Inv X pins σ H s) : ∀ {xs : List V} {es : List PyData} {its : List Value}, DpAll X.K H xs es → Vals xs its →
    PySem.W.EachIs (fun v (b : V × PyData) => RelV b.1 v) its (xs.zip es) ∧ PySem.W.EachIs (fun v (b : V × PyData) => ∃ as, PySem.Reads s.heap v b.2 as) its (xs.zip es)
  | [], [], _, _, r => by
    cases r
    exact ⟨.nil, .nil⟩
  | x :: xs, e :: es, _, .cons h1 h2, r => by
    cases r with
    | cons r1 r2 =>
      obtain ⟨q1, q2⟩ := each_zip I h2 r2
      exact ⟨.cons r1 q1, .cons (Dp.reads I _ _ _ h1 r1) q2⟩
theorem vals_of_each {β : Type} : ∀ {out : List Value} {bs : List (V × β)}, PySem.W.EachIs (fun v (b : V × β) => RelV b.1 v) out bs → Vals (bs.map Prod.fst) out
  | _, _, .nil => .nil
  | _, _, .cons h t => .cons h (vals_of_each t)
open PySem.Spec PyProof.Rows in
theorem call_sortR {X : Cx} (hu : X.A.units + 64 < cLine) : CallR X (.builtin "sorted") (rSorted X.K) := by
  intro pins s σ H vs us Q I r h
  obtain ⟨a, xs, es, rfl, hs, hd, hok, q⟩ := h
  obtain ⟨its, rv, hl, hz⟩ := I.list hs
  rw [Vals.ref1 r]
  obtain ⟨e1, e2⟩ := each_zip I hd rv
  have em : (xs.zip es).map Prod.snd = es := List.map_snd_zip (by rw [(dp_len hd)]; exact Nat.le_refl _)
  have hL : (xs.zip es).length ≤ sizeLine := by
    rw [List.length_zip, (dp_len hd), Nat.min_self, ← (dp_len hd)]
    exact hz
  have hU : ∀ b, b ∈ xs.zip es → X.A.units + 2 + b.2.depth < cLine := fun b hb => by
    have := hok.2.2 b.2 (by rw [← em]; exact List.mem_map.mpr ⟨b, hb, rfl⟩)
    omega
  have fin : ∀ out : List Value, out.length = (xs.zip es).length → PySem.W.EachIs (fun v (b : V × PyData) => RelV b.1 v) out ((xs.zip es).mergeSort (PySem.W.dataLe false Prod.snd)) → ∃ v H', Inv X pins σ H' { s with heap := sortedAll s.heap its out.toArray } ∧ RelV v (Value.ref (s.heap.objs.size + 1)) ∧ Q v H' := by
    intro out ho eo
    obtain ⟨ep, he'⟩ := PyProof.Rows.sortedAll_at s.heap its out.toArray
    have rv' := vals_of_each eo
    have hlen : (sortZ xs es).length ≤ sizeLine := by
      unfold sortZ
      rw [List.length_map, List.length_mergeSort]
      exact hL
    exact ⟨.ref _, upd H (s.heap.objs.size + 1) (.lst (sortZ xs es)), I.laid (t' := s.toks) (fun _ _ => PyProof.Rows.sortedAll_old) (Nat.le_succ _) ⟨hlen, out, ep, rv', he'⟩, rfl, q _ (I.hok.fresh (Nat.le_succ _))⟩
  rcases hok.2.1 with hk | ⟨ht, h0⟩
  · exact PySem.W.sorted_data hl.isList e1 e2 (by rw [em]; exact hok.1) (by rw [em]; exact hk) hL hU fin
  · exact PySem.W.sorted_tups hl.isList e1 e2 (by rw [em]; exact hok.1) (by rw [em]; exact ht) (by rw [em]; exact h0) hL hU fin
theorem k_call_sort {X : Cx} {K : PySem.W.Frag} (hu : X.A.units + 64 < cLine) (k : X.K = K) : CallR X (.builtin "sorted") (rSorted K) := k ▸ call_sortR hu
/-! as data -/
def sortD (l : List D) : List D := l.mergeSort (PySem.W.dataLe false encD)
theorem repL_zip {C : Cn} {H : Hp} : ∀ {l : List D} {vs : List V} {b : V × D}, RepL C H l vs → b ∈ vs.zip l → Rep C H b.2 b.1
  | [], vs, b, h, hb => by simp at hb
  | d :: l, vs, b, h, hb => by
    obtain ⟨v, r, rfl, h2, h3⟩ := repL_cons.mp h
    rw [List.zip_cons_cons] at hb
    rcases List.mem_cons.mp hb with z | z
    · rw [z]
      exact h2
    · exact repL_zip h3 z
theorem repL_of_zip {C : Cn} {H : Hp} : ∀ {m : List (V × D)}, (∀ b ∈ m, Rep C H b.2 b.1) → RepL C H (m.map Prod.snd) (m.map Prod.fst)
  | [], _ => RepL.nil
  | b :: m, h => RepL.cons (h b (List.mem_cons_self ..)) (repL_of_zip fun c hc => h c (List.mem_cons_of_mem _ hc))
theorem repL_sort {C : Cn} {H : Hp} {l : List D} {vs : List V} (h : RepL C H l vs) : RepL C H (sortD l) (sortZ vs (encL l)) := by
  have hl := h.length
  let m := (vs.zip l).mergeSort (PySem.W.dataLe false fun b : V × D => encD b.2)
  have e1 : m.map Prod.snd = sortD l := by
    show List.map Prod.snd (List.mergeSort _ _) = _
    have e := List.map_mergeSort (l := vs.zip l) (f := Prod.snd) (r := PySem.W.dataLe false fun b : V × D => encD b.2) (s := PySem.W.dataLe false encD) (fun a _ b _ => rfl)
    rw [List.map_snd_zip (by omega)] at e
    exact e
  have e2 : m.map Prod.fst = sortZ vs (encL l) := by
    have : vs.zip (encL l) = (vs.zip l).map fun b => (b.1, encD b.2) := by
      rw [encL_map]
      show vs.zip (l.map encD) = _
      rw [List.zip_map_right]
      rfl
    unfold sortZ
    have e := List.map_mergeSort (l := vs.zip l) (f := fun b : V × D => (b.1, encD b.2)) (r := PySem.W.dataLe false fun b : V × D => encD b.2) (s := PySem.W.dataLe false Prod.snd) (fun a _ b _ => rfl)
    rw [this, ← e, List.map_map]
    rfl
  rw [← e1, ← e2]
  exact repL_of_zip fun b hb => repL_zip h ((List.mergeSort_perm _ _).mem_iff.mp hb)
theorem cf_sort {C : Cn} {K : PySem.W.Frag} {l : List D} (hs : shpL l = true) (ok : SrtOk (encL l)) : CF C (rSorted K) [.lst l] (sortD l) := fun O H us dm hv Q q => by
  obtain ⟨v, t, rfl, h1, h2⟩ := repL_cons.mp hv
  obtain ⟨a, xs, rfl, h3, h4⟩ := rep_lst.mp h1
  rw [repL_nil.mp h2]
  exact ⟨a, xs, encL l, rfl, SqL.of (hide_le _ _ h3 rfl), repL_dp l xs hs (h4.mono hide_le), ok, fun p np => q p _ _ np (same_new np) upd_same ((repL_sort h4).mono (hide_new np))⟩
theorem sortD_perm (l : List D) : (sortD l).Perm l := List.mergeSort_perm _ _
end Wr
set_option maxHeartbeats 4000000
namespace Wr
open PySem L2
def srtC (l : List Nat) : List Nat := l.mergeSort (PySem.W.dataLe false fun c => .str ⟨#[c]⟩)
theorem srtC_perm (l : List Nat) : (srtC l).Perm l := List.mergeSort_perm _ _
section
open PySem.Spec PyProof.Rows PySem.W PySem.Calls
variable {prog : Program} {w : World} {A : Around} {E : Value → Shared → Prop} {s : Shared}
theorem sorted_text {Q : Value → Shared → Prop} (hh : A.in1.handled = none) (x : Str) (t : Tok) (hz : x.cps.size ≤ sizeLine) (hu : A.units + 10 < cLine)
    (h : ∀ (h1 : Heap) (s' : Shared) (p : Addr) (out : List Value) (ep : Nat), (∀ b o, s.heap.get? b = some o → h1.get? b = some o) → (∀ b o, h1.get? b = some o → s'.heap.get? b = some o) → s'.gens = s.gens → s'.drawn = s.drawn → s'.os = s.os → h1.objs.size ≤ p → s'.heap.get? p = some (seqObj "list" out.toArray ep) →
      EachIs (fun v (c : Nat) => RelV (.str ⟨#[c]⟩) v) out (srtC x.cps.toList) → Q (.ref p) s') : wpAny (model prog w) A (call (.builtin "sorted") [.str x t]) Q E s := by
  refine Calls.call_function_entry kind_sorted plain_sorted entry_sorted (args_sorted1 _) ?_
  unfold Builtin.«sorted»
  refine wpAny_bind (m := checkCount "sorted" 1 1 _) (wpAny_pure ?_)
  refine wpAny_bind (wpAny_collect_str hh x t (fun s1 acc k1 g1 d1 o1 hacc => ?_) hz)
  have hlen : acc.toList.length = x.cps.toList.length := by
    rw [Array.length_toList, Array.length_toList]
    exact hacc.1
  have e1 : EachIs (fun v (c : Nat) => RelV (.str ⟨#[c]⟩) v) acc.toList x.cps.toList := by
    have : ∀ (l : List Value) (m : List Nat), l.length = m.length → (∀ (i : Nat) (v : Value), l[i]? = some v → ∃ c : Nat, m[i]? = some c ∧ RelV (.str ⟨#[c]⟩) v) → EachIs (fun v (c : Nat) => RelV (.str ⟨#[c]⟩) v) l m := by
      intro l
      induction l with
      | nil =>
        intro m hl _
        cases m with
        | nil => exact .nil
        | cons => simp at hl
      | cons v l ih =>
        intro m hl hf
        cases m with
        | nil => simp at hl
        | cons c m =>
          obtain ⟨c', q1, q2⟩ := hf 0 v rfl
          have : c = c' := by simpa using q1
          subst this
          exact .cons q2 (ih m (by simpa using hl) fun i u q => hf (i + 1) u (by simpa using q))
    refine this _ _ hlen fun i v hv => ?_
    obtain ⟨c, tk, q1, q2⟩ := hacc.2 i v (by simpa using hv)
    exact ⟨c, by simpa using q1, tk, q2⟩
  have e2 : ∀ h' : Heap, EachIs (fun v (c : Nat) => ∃ as, Reads h' v (PyData.str ⟨#[c]⟩) as ∧ s1.heap.objs.size ∉ as) acc.toList x.cps.toList := fun h' => e1.mono fun v c ⟨tk, q⟩ => ⟨[], by rw [q]; exact .str _ _, by simp⟩
  refine wpAny_bind (wpAny_newList ?_ (by rw [hlen, Array.length_toList]; exact hz))
  have hob : (s1.heap.push (seqObj "list" acc.toList.toArray 0)).get? s1.heap.objs.size = some (seqObj "list" acc.toList.toArray 0) := Heap.get?_push_size _ rfl
  show wpAny _ _ _ _ _ { s1 with heap := s1.heap.push (seqObj "list" acc.toList.toArray 0) }
  refine wpAny_bind (wpAny_holding (list_sort_data (s := { s1 with heap := s1.heap.push (seqObj "list" acc.toList.toArray 0) }) (enc := fun c : Nat => PyData.str ⟨#[c]⟩) hob e1 (e2 _) (AllAlike.of fun b b' => by simp [alike]) (Sortable.others fun b => ⟨by simp, by simp⟩) (by rw [Array.length_toList]; exact hz) (fun b hb => ?_) fun out ho eo => ?_))
  · have e : (PyData.str ⟨#[b]⟩).depth = 0 := by simp [PyData.depth]
    rw [e]
    have e : A.in1.units = A.units + 1 := rfl
    rw [e]
    omega
  · obtain ⟨ep, hat⟩ := sortedHeap_at (vs := acc.toList) (out := out.toArray) hob
    refine wpAny_pure ⟨_, rfl, h s1.heap _ _ out ep k1 (fun b o q => ?_) g1 d1 o1 (Nat.le_refl _) hat eo⟩
    have hlt := Heap.lt_size q
    refine (sortedHeap_old (Nat.ne_of_lt hlt) ?_).trans (Heap.get?_push_of_some _ q)
    rw [Heap.size_push]
    exact Nat.lt_succ_of_lt hlt
end
section
variable {X : Cx}
open PySem.Spec PyProof.Rows in
theorem vals_signs {out : List Value} {l : List Nat} (h : PySem.W.EachIs (fun v (c : Nat) => RelV (.str ⟨#[c]⟩) v) out l) : Vals (l.map fun c => V.str ⟨#[c]⟩) out := by
  induction h with
  | nil => exact .nil
  | cons h t ih => exact .cons h ih
open PySem.Spec PyProof.Rows in
theorem call_sortS (hc : X.calm = true) (hu : X.A.units + 64 < cLine) : CallR X (.builtin "sorted") (fun vs H Q => ∃ x : Str, vs = [.str x] ∧ x.cps.size ≤ 100000 ∧ ∀ p, H p = none → Q (.ref p) (upd H p (.lst ((srtC x.cps.toList).map fun c => V.str ⟨#[c]⟩)))) := by
  intro pins s σ H vs us Q I r h
  obtain ⟨x, rfl, hz, q⟩ := h
  obtain ⟨u, eu, tk, rx⟩ := vals1 r
  subst eu rx
  refine sorted_text (I.ok.hd hc) x tk (sz5 hz) (by omega) fun h1 s' p out ep k1 k g d o hp hat eo => ?_
  have es : s' = { s with heap := s'.heap, toks := s'.toks } := by
    cases s'
    cases s
    simp only at g d o
    subst g d o
    rfl
  have hl : ((srtC x.cps.toList).map fun c => V.str ⟨#[c]⟩).length ≤ sizeLine := by
    rw [List.length_map, (srtC_perm _).length_eq, Array.length_toList]
    exact sz5 hz
  rw [es]
  have I1 : Inv X pins σ H { s with heap := h1 } := I.kept (t' := s.toks) k1
  have new : ObjOk X.prog X.w (upd H p (.lst ((srtC x.cps.toList).map fun c => V.str ⟨#[c]⟩))) s'.heap p (.lst ((srtC x.cps.toList).map fun c => V.str ⟨#[c]⟩)) := ⟨hl, out, ep, vals_signs eo, hat⟩
  exact ⟨.ref p, _, I1.laid (t' := s'.toks) k hp new, rfl, q p (I1.hok.fresh hp)⟩
open PySem.Spec PyProof.Rows in
theorem call_listS (hc : X.calm = true) : CallR X (.type "list") (fun vs H Q => ∃ x : Str, vs = [.str x] ∧ x.cps.size ≤ 100000 ∧ ∀ p, H p = none → Q (.ref p) (upd H p (.lst (x.cps.toList.map fun c => V.str ⟨#[c]⟩)))) := by
  intro pins s σ H vs us Q I r h
  obtain ⟨x, rfl, hz, q⟩ := h
  obtain ⟨u, eu, tk, rx⟩ := vals1 r
  subst eu rx
  refine call_list_str (I.ok.hd hc) x tk (fun h' tk' acc c' k hS hacc => ?_) (sz5 hz)
  have hl : (x.cps.toList.map fun c => V.str ⟨#[c]⟩).length ≤ sizeLine := by
    rw [List.length_map, Array.length_toList]
    exact sz5 hz
  have rv : Vals (x.cps.toList.map fun c => V.str ⟨#[c]⟩) acc.toList := by
    refine vals_of_at (by rw [List.length_map, Array.length_toList, Array.length_toList]; exact hacc.1.symm) fun j y v h1 h2 => ?_
    obtain ⟨c, u, q1, q2⟩ := hacc.2 j v (by simpa using h2)
    rw [List.getElem?_map, show x.cps.toList[j]? = some c from by simpa using q1] at h1
    cases h1
    exact ⟨u, q2⟩
  refine ⟨.ref _, _, I.laid (o := .lst (x.cps.toList.map fun c => V.str ⟨#[c]⟩)) k (Nat.le_refl _) ⟨hl, acc.toList, c', rv, ?_⟩, rfl, q _ (I.hok.fresh (Nat.le_refl _))⟩
  rw [Array.toArray_toList]
  exact hS
end
section
variable {C : Cn}
theorem cf_sortS {x : Str} (hz : x.cps.size ≤ 100000) : CF C (fun vs H Q => ∃ x : Str, vs = [.str x] ∧ x.cps.size ≤ 100000 ∧ ∀ p, H p = none → Q (.ref p) (upd H p (.lst ((srtC x.cps.toList).map fun c => V.str ⟨#[c]⟩)))) [.s x] ((srtC x.cps.toList).map fun c => D.s ⟨#[c]⟩) := fun O H us dm hv Q q => by
  obtain ⟨v, t, rfl, h1, h2⟩ := repL_cons.mp hv
  rw [repL_nil.mp h2, rep_v.mp h1]
  exact ⟨x, rfl, hz, fun p np => q p _ _ np (same_new np) upd_same (repL_flat.mpr rfl)⟩
theorem cf_listS {x : Str} (hz : x.cps.size ≤ 100000) : CF C (fun vs H Q => ∃ x : Str, vs = [.str x] ∧ x.cps.size ≤ 100000 ∧ ∀ p, H p = none → Q (.ref p) (upd H p (.lst (x.cps.toList.map fun c => V.str ⟨#[c]⟩)))) [.s x] (x.cps.toList.map fun c => D.s ⟨#[c]⟩) := fun O H us dm hv Q q => by
  obtain ⟨v, t, rfl, h1, h2⟩ := repL_cons.mp hv
  rw [repL_nil.mp h2, rep_v.mp h1]
  exact ⟨x, rfl, hz, fun p np => q p _ _ np (same_new np) upd_same (repL_flat.mpr rfl)⟩
end
end Wr
set_option maxHeartbeats 4000000
namespace Wr
open PySem L2
/-! ### dicts, as data -/
def dgetD : List Str → List D → Str → Option D
  | k :: ks, d :: ds, x => if k = x then some d else dgetD ks ds x
  | _, _, _ => none
def dgetV : List Str → List V → Str → Option V
  | k :: ks, d :: ds, x => if k = x then some d else dgetV ks ds x
  | _, _, _ => none
theorem dget_some : ∀ {ks : List Str} {ds : List D} {x : Str}, ks.length = ds.length → ((dgetD ks ds x).isSome = decide (x ∈ ks))
  | [], [], x, _ => by simp [dgetD]
  | k :: ks, d :: ds, x, h => by
    rw [dgetD]
    by_cases e : k = x
    · rw [if_pos e]
      simp [e]
    · rw [if_neg e, dget_some (by simpa using h)]
      have e' : ¬ x = k := fun z => e z.symm
      simp [e']
theorem valV_zip : ∀ {ks : List Str} {vs : List V} {x : Str}, valV (zipK ks vs) (.inr x) = dgetV ks vs x
  | [], vs, x => by
    show valV ([] : List (Key × V)) _ = _
    rw [dgetV]
    · rfl
    · intro _ _ _ _ h
      cases h
  | k :: ks, [], x => by
    show valV ([] : List (Key × V)) _ = _
    rw [dgetV]
    · rfl
    · intro _ _ _ _ _ h
      cases h
  | k :: ks, v :: vs, x => by
    show valV ((Sum.inr k, v) :: zipK ks vs) _ = _
    rw [dgetV]
    by_cases e : k = x
    · rw [if_pos e, valV_pos (by rw [e])]
    · rw [if_neg e, valV_neg (fun z => e (Sum.inr.inj z))]
      exact valV_zip
section
variable {C : Cn} {H : Hp}
theorem repL_dget : ∀ {ks : List Str} {ds : List D} {vs : List V} {x : Str}, RepL C H ds vs → (match dgetD ks ds x, dgetV ks vs x with | some d, some v => Rep C H d v | none, none => True | _, _ => False)
  | [], ds, vs, x, h => by
    cases ds <;> cases vs <;> simp [dgetD, dgetV]
  | k :: ks, [], vs, x, h => by
    rw [repL_nil.mp h]
    simp [dgetD, dgetV]
  | k :: ks, d :: ds, vs, x, h => by
    obtain ⟨v, r, rfl, h2, h3⟩ := repL_cons.mp h
    rw [dgetD, dgetV]
    by_cases e : k = x
    · rw [if_pos e, if_pos e]
      exact h2
    · rw [if_neg e, if_neg e]
      exact repL_dget h3
theorem rep_dget {ks : List Str} {ds : List D} {u : V} {x : Str} (h : Rep C H (.dic ks ds) u) : ∃ a, u = .ref a ∧ IsD H a ∧ ∃ o, DGet H a (.str x) o ∧ (match dgetD ks ds x, o with | some d, some v => Rep C H d v | none, none => True | _, _ => False) := by
  obtain ⟨a, vs, rfl, h2, h3, h4⟩ := rep_dic.mp h
  refine ⟨a, rfl, .inl ⟨_, .of h2⟩, dgetV ks vs x, ?_, repL_dget h4⟩
  have := DGet.k (k := .inr x) h2
  rw [valV_zip] at this
  exact this
end
theorem isD_mono {H H' : Hp} {a : Addr} (e : Sub H H') (h : IsD H a) : IsD H' a := by
  rcases h with ⟨k, h | ⟨o, h⟩⟩ | ⟨k, h | ⟨o, h⟩⟩
  · exact .inl ⟨k, .inl (e _ _ h rfl)⟩
  · exact .inl ⟨k, .inr ⟨o, e _ _ h rfl⟩⟩
  · exact .inr ⟨k, .inl (e _ _ h rfl)⟩
  · exact .inr ⟨k, .inr ⟨o, e _ _ h rfl⟩⟩
theorem dget_mono {H H' : Hp} {a : Addr} {x : Str} {o : Option V} (e : Sub H H') (h : DGet H a (.str x) o) : DGet H' a (.str x) o := by
  rcases h with ⟨kvs, k, h1 | ⟨u, h1⟩, h2, h3⟩ | ⟨kvs, k, b, _, h2, _⟩
  · exact .inl ⟨kvs, k, .inl (e _ _ h1 rfl), h2, h3⟩
  · exact .inl ⟨kvs, k, .inr ⟨u, e _ _ h1 rfl⟩, h2, h3⟩
  · cases h2
section
variable {C : Cn} {K : PySem.W.Frag} {G : En} {td ty te tx : TE} {R : D → Prop} {d : D} {ks : List Str} {ds : List D} {k : Str}
theorem ev_dget (h1 : EvD C td G (.dic ks ds)) (h2 : EvD C ty G (.s k)) (e : dgetD ks ds k = some d) (hr : R d) : EvR C (tDGet td ty) G R := fun O H σ g Q q =>
  h1 O H σ g _ fun x v H1 hx e1 hv => h2 O H1 σ (g.mono e1) _ fun y u H2 hy e2 hu => by
    subst hx hy
    rw [rep_v.mp hu]
    obtain ⟨a, rfl, _, o, g1, m⟩ := rep_dget (x := k) (hv.mono (hide_mono e2))
    rw [e] at m
    cases o with
    | none => exact m.elim
    | some v => exact ⟨a, v, rfl, dget_mono hide_le g1, q d v H2 hr (e1.trans e2) m⟩
theorem ev_dget1 (h1 : EvD C td G (.dic ks ds)) (h2 : EvD C ty G (.s k)) (hr : R ((dgetD ks ds k).getD D.n)) : EvR C (tDGet1 td ty) G R := fun O H σ g Q q =>
  h1 O H σ g _ fun x v H1 hx e1 hv => by
    subst hx
    obtain ⟨a, rfl, i, _⟩ := rep_dget (x := k) hv
    refine ⟨a, rfl, isD_mono hide_le i, h2 O H1 σ (g.mono e1) _ fun y u H2 hy e2 hu => ?_⟩
    subst hy
    rw [rep_v.mp hu]
    obtain ⟨a', ea, _, o, g1, m⟩ := rep_dget (x := k) (hv.mono (hide_mono e2))
    cases ea
    refine ⟨o, dget_mono hide_le g1, q _ _ H2 hr (e1.trans e2) ?_⟩
    cases o with
    | none =>
      cases z : dgetD ks ds k with
      | none => exact rep_v.mpr rfl
      | some d =>
        rw [z] at m
        exact m.elim
    | some v =>
      cases z : dgetD ks ds k with
      | none =>
        rw [z] at m
        exact m.elim
      | some d =>
        rw [z] at m
        exact m
theorem ev_dget2 {x : V} (h1 : EvD C td G (.dic ks ds)) (h2 : EvD C ty G (.s k)) (h3 : EvD C tx G (.v x)) (hr : R ((dgetD ks ds k).getD (.v x))) : EvR C (tDGet2 td ty tx) G R := fun O H σ g Q q =>
  h1 O H σ g _ fun _ v H1 hx e1 hv => by
    subst hx
    obtain ⟨a, rfl, i, _⟩ := rep_dget (x := k) hv
    refine ⟨a, rfl, isD_mono hide_le i, h2 O H1 σ (g.mono e1) _ fun y u H2 hy e2 hu => h3 O H2 σ (g.mono (e1.trans e2)) _ fun z w H3 hz e3 hw => ?_⟩
    subst hy hz
    rw [rep_v.mp hu, rep_v.mp hw]
    obtain ⟨a', ea, _, o, g1, m⟩ := rep_dget (x := k) (hv.mono (hide_mono (e2.trans e3)))
    cases ea
    refine ⟨o, dget_mono hide_le g1, q _ _ H3 hr ((e1.trans e2).trans e3) ?_⟩
    cases o with
    | none =>
      cases z : dgetD ks ds k with
      | none => exact rep_v.mpr rfl
      | some d =>
        rw [z] at m
        exact m.elim
    | some v =>
      cases z : dgetD ks ds k with
      | none =>
        rw [z] at m
        exact m.elim
      | some d =>
        rw [z] at m
        exact m
theorem ev_dnotin (hl : ks.length = ds.length) (h2 : EvD C ty G (.s k)) (h1 : EvD C td G (.dic ks ds)) : EvD C (tDNotIn ty td) G (.b (!decide (k ∈ ks))) := fun O H σ g Q q =>
  h2 O H σ g _ fun y u H1 hy e1 hu => h1 O H1 σ (g.mono e1) _ fun x v H2 hx e2 hv => by
    subst hx hy
    rw [rep_v.mp hu]
    obtain ⟨a, rfl, _, o, g1, m⟩ := rep_dget (x := k) hv
    refine ⟨a, o, rfl, dget_mono hide_le g1, q _ _ H2 rfl (e1.trans e2) (rep_v.mpr ?_)⟩
    rw [← dget_some hl]
    cases o with
    | none =>
      cases z : dgetD ks ds k with
      | none => rfl
      | some d =>
        rw [z] at m
        exact m.elim
    | some v =>
      cases z : dgetD ks ds k with
      | none =>
        rw [z] at m
        exact m.elim
      | some d => rfl
theorem cr_lenD : CR C (fun xs H Q => ∃ a kvs, xs = [V.ref a] ∧ H a = some (.dK kvs) ∧ Q (.int kvs.length) H) [.dic ks ds] (· = .i ks.length) := fun O H vs dm hv Q q => by
  obtain ⟨v, t, rfl, h1, h2⟩ := repL_cons.mp hv
  obtain ⟨a, ws, rfl, h3, hl, h4⟩ := rep_dic.mp h1
  rw [repL_nil.mp h2]
  refine ⟨a, _, rfl, hide_le _ _ h3 rfl, q _ _ H rfl (Same.refl H) (rep_v.mpr ?_)⟩
  have e : (zipK ks ws).length = ks.length := by
    unfold zipK
    rw [List.length_zip, List.length_map, h4.length, hl, Nat.min_self]
  rw [e]
theorem cf_listD : CF C rListD [.dic ks ds] (dS ks) := fun O H vs dm hv Q q => by
  obtain ⟨v, t, rfl, h1, h2⟩ := repL_cons.mp hv
  obtain ⟨a, ws, rfl, h3, hl, h4⟩ := rep_dic.mp h1
  rw [repL_nil.mp h2]
  refine ⟨a, _, rfl, hide_le _ _ h3 rfl, fun p np => q p _ _ np (same_new np) upd_same (repL_flat.mpr ?_)⟩
  have e : ∀ (ks : List Str) (ws : List V), ks.length = ws.length → (zipK ks ws).map (fun kv => kV kv.1) = ks.map V.str := by
    intro ks
    induction ks with
    | nil => intro ws _; rfl
    | cons k ks ih =>
      intro ws h
      cases ws with
      | nil => simp at h
      | cons w ws =>
        show V.str k :: (zipK ks ws).map (fun kv => kV kv.1) = _
        rw [ih ws (by simpa using h)]
        rfl
  exact e ks ws (by rw [hl, h4.length])
/-- {k: x} -/
theorem ev_disp1 {x : V} (h1 : EvD C ty G (.s k)) (h2 : EvD C tx G (.v x)) : EvD C (tDisp [(ty, tx)]) G (.dic [k] [.v x]) := fun O H σ g Q q p np => by
  have e0 : Same H (upd H p (.dK [])) := same_new np
  show ty σ _ _
  refine h1 O _ σ (g.mono e0) _ fun y u H1 hy e1 hu => h2 O H1 σ (g.mono (e0.trans e1)) _ fun z w H2 hz e2 hw => ?_
  subst hy hz
  rw [rep_v.mp hu, rep_v.mp hw]
  have hp : H2 p = some (.dK []) := e2 _ _ (e1 _ _ upd_same rfl) rfl
  refine ⟨hp, [(.inr k, x)], rfl, by simp, ?_⟩
  have s : Same H (upd H2 p (.dK (mergeK [] [((.inr k : Key), x)]))) := ((e0.trans e1).trans e2).chg np hp rfl
  refine q _ _ _ rfl s (rep_dic.mpr ⟨p, [x], rfl, ?_, rfl, RepL.one (rep_v.mpr rfl)⟩)
  rw [hide_at (g.dom.out np)]
  exact upd_same
/-! ### join, count, index, in, ==, of any data -/
theorem ev_join {to : TE} {z : Str} {ys : List Str} (h1 : EvD C to G (.s z)) (h2 : EvD C te G (.lst (dS ys))) (hl : (ys.map (·.length)).sum + ys.length * z.length ≤ 100000) :
    EvD C (tM1 (fun x xs H Q => ∃ a p, ∃ ys : List Str, x = .str a ∧ xs = [.ref p] ∧ (SqL K H p (ys.map V.str) ∨ SqT K H p (ys.map V.str)) ∧ (ys.map (·.length)).sum + ys.length * a.length ≤ 16777216 ∧ Q (.str (Txt.join a ys)) H) to te) G (.s (Txt.join z ys)) := fun O H σ g Q q =>
  h1 O H σ g _ fun x v H1 hx e1 hv => by
    subst hx
    rw [rep_v.mp hv]
    refine ⟨⟨z, rfl⟩, h2 O H1 σ (g.mono e1) _ fun y u H2 hy e2 hu => ?_⟩
    subst hy
    obtain ⟨p, vs, rfl, h3, h4⟩ := rep_lst.mp hu
    rw [repL_flat.mp h4] at h3
    exact ⟨z, p, ys, rfl, rfl, .inl (SqL.of (hide_le _ _ h3 rfl)), by omega, q _ _ H2 rfl (e1.trans e2) (rep_v.mpr rfl)⟩
theorem ev_bmS {r : V → List V → Hp → VK → Prop} {to : TE} {z : Str} {y x : V} (h1 : EvD C to G (.s z)) (h2 : EvD C te G (.v y)) (h : ∀ (H : Hp) (Q : VK), Q x H → r (.str z) [y] H Q) : EvD C (tBM K "str" r to (tCons te tNil)) G (.v x) := fun O H σ g Q q =>
  h1 O H σ g _ fun d v H1 hx e1 hv => by
    subst hx
    rw [rep_v.mp hv]
    refine ⟨rfl, h2 O H1 σ (g.mono e1) _ fun d2 u H2 hy e2 hu => ?_⟩
    subst hy
    rw [rep_v.mp hu]
    exact h H2 Q (q _ _ H2 rfl (e1.trans e2) (rep_v.mpr rfl))
theorem ev_indexS {to : TE} {ys : List Str} {y : Str} {j : Nat} (h1 : EvD C to G (.lst (dS ys))) (h2 : EvD C te G (.s y)) (hj : ys[j]? = some y) (hn : ∀ m z, m < j → ys[m]? = some z → z ≠ y) : EvD C (tBM K "list" (rIndex K) to (tCons te tNil)) G (.i (j : Nat)) := fun O H σ g Q q =>
  h1 O H σ g _ fun d v H1 hx e1 hv => by
    subst hx
    obtain ⟨a, vs, rfl, h3, h4⟩ := rep_lst.mp hv
    rw [repL_flat.mp h4] at h3
    refine ⟨.inl ⟨rfl, _, SqL.of (hide_le _ _ h3 rfl)⟩, h2 O H1 σ (g.mono e1) _ fun d2 u H2 hy e2 hu => ?_⟩
    subst hy
    rw [rep_v.mp hu]
    refine ⟨a, ys.map V.str, .str y, j, .str y, rfl, rfl, SqL.of (e2 _ _ (hide_le _ _ h3 rfl) rfl), rfl, flat_strs, by rw [List.getElem?_map, hj]; rfl, by rw [eqV_str]; simp, fun m z' hm hz => ?_, q _ _ H2 rfl (e1.trans e2) (rep_v.mpr rfl)⟩
    rw [List.getElem?_map] at hz
    cases hc : ys[m]? with
    | none =>
      rw [hc] at hz
      cases hz
    | some c =>
      rw [hc] at hz
      cases hz
      rw [eqV_str]
      exact decide_eq_false (hn m c hm hc)
theorem rr_inD {x : D} {xs : List D} (s1 : shpD x = true) (s2 : shpL xs = true) (z1 : PySem.SeqAt.shaped (encD x) = true) (z2 : PySem.SeqAt.shaped (.list (encL xs)) = true) : RR C (rInD K) x (.lst xs) (· = .b ((encL xs).any fun z => PyData.eqv z (encD x))) := fun O H a b dm ha hb Q q =>
  ⟨encD x, encL xs, rep_dp _ _ s1 (ha.mono hide_le), by
    have := rep_dp (K := K) (.lst xs) b (by rw [shpD]; exact s2) (hb.mono hide_le)
    rw [encD] at this
    exact this, z1, z2, q _ _ H rfl (Same.refl H) (rep_v.mpr rfl)⟩
theorem rr_neD {x y : D} (s1 : shpD x = true) (s2 : shpD y = true) (z1 : PySem.SeqAt.shaped (encD x) = true) (z2 : PySem.SeqAt.shaped (encD y) = true) : RR C (rNeD K) x y (· = .b (!PyData.eqv (encD x) (encD y))) := fun O H a b dm ha hb Q q =>
  ⟨encD x, encD y, rep_dp _ _ s1 (ha.mono hide_le), rep_dp _ _ s2 (hb.mono hide_le), z1, z2, q _ _ H rfl (Same.refl H) (rep_v.mpr rfl)⟩
theorem rr_eqD {x y : D} (s1 : shpD x = true) (s2 : shpD y = true) (z1 : PySem.SeqAt.shaped (encD x) = true) (z2 : PySem.SeqAt.shaped (encD y) = true) : RR C (rEqD K) x y (· = .b (PyData.eqv (encD x) (encD y))) := fun O H a b dm ha hb Q q =>
  ⟨encD x, encD y, rep_dp _ _ s1 (ha.mono hide_le), rep_dp _ _ s2 (hb.mono hide_le), z1, z2, q _ _ H rfl (Same.refl H) (rep_v.mpr rfl)⟩
/-- tuple(range(n)) -/
theorem ev_tupRg {n : Nat} (h : EvD C te G (.i n)) (hn : n ≤ 1000) : EvD C (tTupRg (tRg1 te)) G (.tup (dN (List.range n))) := fun O H σ g Q q =>
  h O H σ g _ fun d v H1 hx e1 hv => by
    subst hx
    refine ⟨n, rep_v.mp hv, ⟨by omega, by omega, by omega, by omega, by omega⟩, fun p np => ?_⟩
    refine q _ _ _ rfl (e1.trans (same_new np)) (rep_tup.mpr ⟨p, _, rfl, by rw [hide_at ((g.dom.mono e1).out np)]; exact upd_same, ?_⟩)
    unfold dN
    refine repL_flat.mpr ?_
    unfold rgV
    simp
/-! ### what is owned may be read as if it were frozen -/
def flatD (d : D) : Prop := ∃ x, d = .v x
theorem GamE.frz {O : List Addr} {H : Hp} {σ : L2.St} {l : Addr} {es : List D} (hl : G.at l (.lst (es.map .im))) (g : GamE C O H G σ) : GamE C (O.filter fun a => a ≠ l) H (G.frz l es) σ := by
  have hk : l ∈ G.keys := List.mem_map.mpr ⟨_, hl, rfl⟩
  have kk : ∀ a, a ∈ (G.frz l es).keys → a ∈ G.keys ∧ a ≠ l := fun a ha => by
    obtain ⟨q, hq, rfl⟩ := List.mem_map.mp ha
    obtain ⟨h1, h2⟩ := List.mem_filter.mp hq
    exact ⟨List.mem_map.mpr ⟨q, h1, rfl⟩, by simpa using h2⟩
  have sk : Sub (hide O H) (hide (O.filter fun a => a ≠ l) H) := hide_sub fun a ha => (List.mem_filter.mp ha).1
  have nl : l ∉ O.filter fun a => a ≠ l := fun z => by simpa using (List.mem_filter.mp z).2
  obtain ⟨vs, hv, hs⟩ := g.ok _ hl
  have rl : Rep C (hide (O.filter fun a => a ≠ l) H) (.lst es) (.ref l) := rep_lst.mpr ⟨l, vs, rfl, (hide_at nl).trans hv, (svs_im.mp hs).mono sk⟩
  refine ⟨fun a ha => List.mem_filter.mpr ⟨g.sub a (kk a ha).1, by simpa using (kk a ha).2⟩, fun a ha => g.dom a (List.mem_filter.mp ha).1, ?_, fun q hq => ?_, ?_, g.tb⟩
  · show ((G.Om.filter fun q => q.1 ≠ l).map (·.1)).Nodup
    exact g.nd.sublist ((List.filter_sublist).map _)
  · exact (g.ok q (List.mem_filter.mp hq).1).mono (Sub.refl _) sk
  · refine SVs.map (fun s o h => ?_) (g.sl.mono sk)
    cases s with
    | no => exact h
    | im d => exact h
    | ptr m =>
      show sv C _ (if m = l then .im (.lst es) else .ptr m) o
      by_cases z : m = l
      · rw [if_pos z]
        have h : o = some (.ref m) := h
        subst z
        exact ⟨_, h, rl⟩
      · rw [if_neg z]
        exact h
theorem ev_frz {l : Addr} {es : List D} (hl : G.at l (.lst (es.map .im))) (hf : ∀ d, R d → flatD d) (h : EvR C te (G.frz l es) R) : EvR C te G R := fun O H σ g Q q =>
  h _ H σ (g.frz hl) Q fun d v H1 hd e1 hv => by
    obtain ⟨x, rfl⟩ := hf d hd
    exact q _ _ H1 hd e1 (rep_v.mpr (rep_v.mp hv))
theorem ev_frzD {l : Addr} {es : List D} {x : V} (hl : G.at l (.lst (es.map .im))) (h : EvD C te (G.frz l es) (.v x)) : EvD C te G (.v x) := ev_frz hl (fun _ e => ⟨x, e⟩) h
theorem et_frz {l : Addr} {es : List D} {tt : TT} {b : Bool} (hl : G.at l (.lst (es.map .im))) (h : EvT C tt (G.frz l es) b) : EvT C tt G b := fun O H σ g Q q => h _ H σ (g.frz hl) Q q
theorem ef_frz {l : Addr} {es : List D} {xs : List V} (hl : G.at l (.lst (es.map .im))) (h : EvF C te (G.frz l es) (xs.map D.v)) : EvF C te G (xs.map D.v) := fun O H σ g Q q =>
  h _ H σ (g.frz hl) Q fun p vs H1 np e1 hp hv => q p vs H1 np e1 hp (repL_flat (f := fun x => x) |>.mpr (repL_flat (f := fun x => x) |>.mp hv))
theorem GamE.frzK {O : List Addr} {H : Hp} {σ : L2.St} {l : Addr} {es : List D} {gl : List SV} (hl : G.at l (.dic ks (es.map .im))) (g : GamE C O H G σ)
    (hg : gl = G.De.map fun s => match s with | .ptr m => if m = l then .im (.dic ks es) else .ptr m | s => s) : GamE C (O.filter fun a => a ≠ l) H { Om := G.Om.filter fun q => q.1 ≠ l, De := gl } σ := by
  have kk : ∀ a, a ∈ (G.Om.filter fun q => q.1 ≠ l).map (·.1) → a ∈ G.keys ∧ a ≠ l := fun a ha => by
    obtain ⟨q, hq, rfl⟩ := List.mem_map.mp ha
    obtain ⟨h1, h2⟩ := List.mem_filter.mp hq
    exact ⟨List.mem_map.mpr ⟨q, h1, rfl⟩, by simpa using h2⟩
  have sk : Sub (hide O H) (hide (O.filter fun a => a ≠ l) H) := hide_sub fun a ha => (List.mem_filter.mp ha).1
  have nl : l ∉ O.filter fun a => a ≠ l := fun z => by simpa using (List.mem_filter.mp z).2
  obtain ⟨vs, hv, he, hs⟩ := g.ok _ hl
  have rl : Rep C (hide (O.filter fun a => a ≠ l) H) (.dic ks es) (.ref l) := rep_dic.mpr ⟨l, vs, rfl, (hide_at nl).trans hv, by rw [he, List.length_map], (svs_im.mp hs).mono sk⟩
  refine ⟨fun a ha => List.mem_filter.mpr ⟨g.sub a (kk a ha).1, by simpa using (kk a ha).2⟩, fun a ha => g.dom a (List.mem_filter.mp ha).1, ?_, fun q hq => ?_, ?_, g.tb⟩
  · show ((G.Om.filter fun q => q.1 ≠ l).map (·.1)).Nodup
    exact g.nd.sublist ((List.filter_sublist).map _)
  · exact (g.ok q (List.mem_filter.mp hq).1).mono (Sub.refl _) sk
  · show SVs C _ gl σ
    rw [hg]
    refine SVs.map (fun s o h => ?_) (g.sl.mono sk)
    cases s with
    | no => exact h
    | im d => exact h
    | ptr m =>
      show sv C _ (if m = l then .im (.dic ks es) else .ptr m) o
      by_cases z : m = l
      · rw [if_pos z]
        have h : o = some (.ref m) := h
        subst z
        exact ⟨_, h, rl⟩
      · rw [if_neg z]
        exact h
end
end Wr
set_option maxHeartbeats 4000000
namespace Wr
open PySem PySem.Spec PyProof.Rows L2
/-! ### min, max of two texts -/
section
variable {prog : Program} {w : World} {A : Around} {E : Value → Shared → Prop} {s : Shared}
theorem two_items {a b : Value} (hh : A.handled = none) {op : CmpOp} {bt : Nat → Nat → Bool} (hc : CmpOf prog w A.in1 op (fun i v => (#[a, b] : Array Value)[i]? = some v) bt) {Q : Value → Shared → Prop}
    (h : ∀ h' tk, (∀ c o, s.heap.get? c = some o → h'.get? c = some o) → Q (if bt 1 0 then b else a) { s with heap := h', toks := tk }) :
    wpAny (model prog w) A.in1 (pyIter (.ref s.heap.objs.size)) (fun it s₂ => ∃ I fp wr n P St bt, it = .ref I ∧ Walks prog w A.in1 I fp wr n P St ∧ St 0 s₂.heap ∧ (∀ b ∈ fp, b < s₂.heap.objs.size) ∧ 0 < n ∧ CmpOf prog w A.in1 op P bt ∧
      ∀ v h' tk, P (argBest bt (n - 1)) v → (∀ b o, b ∉ wr → s₂.heap.get? b = some o → h'.get? b = some o) → Q v { s₂ with heap := h', toks := tk }) E
      { s with heap := s.heap.push { cls := .type "tuple", data := .seq #[a, b] } } := by
  have hT : (s.heap.push { cls := .type "tuple", data := .seq #[a, b] }).IsTuple s.heap.objs.size #[a, b] := ⟨_, Heap.get?_push_size _ rfl, rfl, 0, rfl⟩
  refine wpAny_pyIter_tuple hT ?_
  have hsz : (s.heap.push { cls := .type "tuple", data := .seq #[a, b] }).objs.size = s.heap.objs.size + 1 := Heap.size_push ..
  refine ⟨_, [_, s.heap.objs.size], [_], _, _, _, bt, rfl, Walks.tuple (A := A.in1) hh _ s.heap.objs.size (by rw [hsz]; exact Nat.ne_of_lt (Nat.lt_succ_self _)) #[a, b],
    ⟨⟨_, Heap.get?_push_size _ rfl, rfl, rfl⟩, hT.push _⟩, fun c hc => ?_, Nat.succ_pos 1, hc, fun v h' tk hP hk => ?_⟩
  · show c < ((s.heap.push _).push _).objs.size
    rw [Heap.size_push, hsz]
    rcases List.mem_cons.mp hc with rfl | hc
    · rw [hsz]; exact Nat.lt_succ_self _
    · rcases List.mem_cons.mp hc with rfl | hc
      · exact Nat.lt_succ_of_lt (Nat.lt_succ_self _)
      · cases hc
  · have hold : ∀ c o, s.heap.get? c = some o → h'.get? c = some o := fun c o e => by
      refine hk c o (fun hm => ?_) (Heap.get?_push_of_some _ (Heap.get?_push_of_some _ e))
      rcases List.mem_cons.mp hm with e1 | hm
      · have := Heap.lt_size e; rw [e1, hsz] at this; exact Nat.lt_irrefl _ (Nat.lt_of_succ_lt this)
      · cases hm
    have hq := h h' tk hold
    have hP' : (#[a, b] : Array Value)[argBest bt 1]? = some v := hP
    have e : argBest bt 1 = if bt 1 0 then 1 else 0 := by
      simp [argBest]
    rw [e] at hP'
    cases c : bt 1 0 with
    | true =>
      rw [c] at hq hP'
      have : b = v := by simpa using hP'
      rw [← this]
      exact hq
    | false =>
      rw [c] at hq hP'
      have : a = v := by simpa using hP'
      rw [← this]
      exact hq
theorem cmp_strs_lt {x y : Str} {t u : Tok} : CmpOf prog w A .Lt (fun i v => (#[Value.str x t, Value.str y u] : Array Value)[i]? = some v) (fun i j => decide ((if i = 0 then x else y).cps.toList < (if j = 0 then x else y).cps.toList)) := fun i j vi vj s Q E hi hj h => by
  have f : ∀ (i : Nat) (vi : Value), (#[Value.str x t, Value.str y u] : Array Value)[i]? = some vi → ∃ t', vi = .str (if i = 0 then x else y) t' := fun i vi hi => by
    match i, hi with
    | 0, hi => exact ⟨t, by simpa using hi.symm⟩
    | 1, hi => exact ⟨u, by simpa using hi.symm⟩
    | i + 2, hi => simp at hi
  obtain ⟨t1, rfl⟩ := f i vi hi
  obtain ⟨t2, rfl⟩ := f j vj hj
  exact richCompare_gives (op := .Lt) (typeIs_str s _ _) (typeIs_str s _ _) F.slot_str_lt F.entry_str_lt (F.args_str_lt_2 _ _) (gives_str_lt _ _ _ _) (fun x => nomatch x) h
theorem cmp_strs_gt {x y : Str} {t u : Tok} : CmpOf prog w A .Gt (fun i v => (#[Value.str x t, Value.str y u] : Array Value)[i]? = some v) (fun i j => decide ((if j = 0 then x else y).cps.toList < (if i = 0 then x else y).cps.toList)) := fun i j vi vj s Q E hi hj h => by
  have f : ∀ (i : Nat) (vi : Value), (#[Value.str x t, Value.str y u] : Array Value)[i]? = some vi → ∃ t', vi = .str (if i = 0 then x else y) t' := fun i vi hi => by
    match i, hi with
    | 0, hi => exact ⟨t, by simpa using hi.symm⟩
    | 1, hi => exact ⟨u, by simpa using hi.symm⟩
    | i + 2, hi => simp at hi
  obtain ⟨t1, rfl⟩ := f i vi hi
  obtain ⟨t2, rfl⟩ := f j vj hj
  exact richCompare_gives (op := .Gt) (typeIs_str s _ _) (typeIs_str s _ _) F.slot_str_gt F.entry_str_gt (F.args_str_gt_2 _ _) (gives_str_gt _ _ _ _) (fun x => nomatch x) h
end
section
variable {X : Cx}
theorem call_minS (hc : X.calm = true) : CallR X (.builtin "min") (fun xs H Q => ∃ i j, xs = [.str i, .str j] ∧ Q (.str (if j.cps.toList < i.cps.toList then j else i)) H) := by
  intro pins s σ H xs us Q I r h
  obtain ⟨i, j, rfl, q⟩ := h
  obtain ⟨u, w', rfl, ⟨t, rfl⟩, ⟨t', rfl⟩⟩ := vals2 r
  refine call_min_two (two_items (A := X.A) (I.ok.hd hc) cmp_strs_lt fun h' tk k => ⟨_, H, I.kept k, ?_, q⟩)
  show ∃ t'', (if decide (j.cps.toList < i.cps.toList) = true then Value.str j t' else Value.str i t) = Value.str (if j.cps.toList < i.cps.toList then j else i) t''
  by_cases hj : j.cps.toList < i.cps.toList
  · rw [if_pos hj, if_pos (decide_eq_true hj)]; exact ⟨_, rfl⟩
  · rw [if_neg hj, if_neg (by rw [decide_eq_false hj]; exact Bool.false_ne_true)]; exact ⟨_, rfl⟩
theorem call_maxS (hc : X.calm = true) : CallR X (.builtin "max") (fun xs H Q => ∃ i j, xs = [.str i, .str j] ∧ Q (.str (if i.cps.toList < j.cps.toList then j else i)) H) := by
  intro pins s σ H xs us Q I r h
  obtain ⟨i, j, rfl, q⟩ := h
  obtain ⟨u, w', rfl, ⟨t, rfl⟩, ⟨t', rfl⟩⟩ := vals2 r
  refine call_max_two (two_items (A := X.A) (I.ok.hd hc) cmp_strs_gt fun h' tk k => ⟨_, H, I.kept k, ?_, q⟩)
  show ∃ t'', (if decide (i.cps.toList < j.cps.toList) = true then Value.str j t' else Value.str i t) = Value.str (if i.cps.toList < j.cps.toList then j else i) t''
  by_cases hj : i.cps.toList < j.cps.toList
  · rw [if_pos hj, if_pos (decide_eq_true hj)]; exact ⟨_, rfl⟩
  · rw [if_neg hj, if_neg (by rw [decide_eq_false hj]; exact Bool.false_ne_true)]; exact ⟨_, rfl⟩
/-- z.index(a sign), there -/
theorem mt_sindex : MtR X "str.index" (fun x xs H Q => ∃ (a b : Str) (k : Nat), x = .str a ∧ xs = [.str b] ∧ Txt.index0 a b = some k ∧ Q (.int (k : Nat)) H) := by
  intro pins s σ H x xs v us Q I rx rs h
  obtain ⟨a, b, k, rfl, rfl, hk, q⟩ := h
  obtain ⟨t, rfl⟩ := rx
  cases rs with
  | cons r1 rs =>
    cases rs
    obtain ⟨u, rfl⟩ := r1
    unfold Txt.index0 at hk
    cases e : Builtin.Str.occurrences a b 0 a.length 1 with
    | nil =>
      rw [e] at hk
      cases hk
    | cons k' rest =>
      rw [e] at hk
      cases hk
      exact PySem.SC.index e ⟨.int (k : Nat), H, I.tok _, ⟨_, rfl⟩, q⟩
end
/-! ### [::-1] of a pair, of a text of two signs -/
section
variable {prog : Program} {w : World} {A : Around} {E : Value → Shared → Prop} {s : Shared}
theorem applied_rev2 {sl : Addr} {u : Tok} {Q : Int × Int × Nat → Shared → Prop} (hs : s.heap.IsSliceOf sl .none .none (.int (-1) u)) (h : Q (1, -1, 2) s) : wpAny (model prog w) A (Builtin.Slice.sliceApplied (.ref sl) (pure (2 : Int))) Q E s := by
  obtain ⟨os, hos, hcs, hds⟩ := id hs
  unfold Builtin.Slice.sliceApplied Builtin.Slice.sliceFields
  refine wpAny_bind (wpAny_bind (wpAny_field hos hds (x := .none) rfl (wpAny_bind (wpAny_field hos hds (x := .none) rfl (wpAny_bind (wpAny_field hos hds (x := .int (-1) u) rfl (wpAny_pure ?_)))))))
  refine wpAny_bind (HT.slicePart_ (IsPart.int (-1) u) ?_)
  show wpAny _ _ (if ((-1 : Int) == 0) = true then _ else _) _ _ s
  rw [if_neg (by decide)]
  refine wpAny_bind (HT.slicePart_ IsPart.none (wpAny_bind (HT.slicePart_ IsPart.none (wpAny_bind (wpAny_pure ?_)))))
  exact wpAny_pure h
theorem getItem_rev2 {t sl : Addr} {a b : Value} {u : Tok} {Q : Value → Shared → Prop} (ht : IsTup s.heap t #[a, b]) (hs : s.heap.IsSliceOf sl .none .none (.int (-1) u))
    (h : Q (.ref s.heap.objs.size) { s with heap := s.heap.push { cls := .type "tuple", data := .seq #[b, a] } }) : wpAny (model prog w) A (getItem (.ref t) (.ref sl)) Q E s := by
  have htake : sizeOk (.seq #[b, a]) := by
    show (#[b, a] : Array Value).size ≤ sizeLine
    rw [sizeLine_eq]
    show 2 ≤ _
    decide
  obtain ⟨os, hos, hcs, hds⟩ := id hs
  have hTs : s.TypeIs (.ref sl) "slice" := ⟨os, hos, hcs⟩
  unfold getItem
  try with_reducible refine wpAny_holding ?_
  first | refine wpAny_bind (wpAny_pure ?_) | skip
  refine wpAny_bind (wpAny_sequenceKey ht.typeIs (by decide) ?_)
  refine wpAny_bind (wpAny_callSpecial?_slot (name := Str.ofString "__getitem__") ht.typeIs PyProof.Rows.slot_tuple_getitem
    (wpAny_call_entry PyProof.Rows.slot_tuple_getitem ht.typeIs entry_tuple_getitem ?_ (args_tuple_getitem _ _)))
  show wpAny _ _ (Builtin.Tuple.tupleItemsOf (.ref t) >>= _) _ _ s
  refine wpAny_bind (tupleItemsOf_ ht ?_)
  refine wpAny_bind (wpAny_typeOf hTs ?_)
  rw [if_pos (by decide)]
  refine wpAny_bind (applied_rev2 hs ?_)
  show wpAny _ _ (if ((1 : Int) == 0 && (-1 : Int) == 1 && (2 : Nat) == (#[a, b] : Array Value).size) = true then _ else _) _ _ s
  rw [if_neg (by simp)]
  have e : ((List.range 2).filterMap fun (m : Nat) => (#[a, b] : Array Value)[((1 : Int) + (m : Int) * (-1)).toNat]?).toArray = #[b, a] := rfl
  rw [e]
  first
    | exact wpAny_bind (m := Builtin.Tuple.tupleExact _) (wpAny_newObj_type (wpAny_pure ⟨_, rfl, wpAny_pure h⟩) htake)
    | exact wpAny_bind (m := Builtin.Tuple.tupleExact _) (wpAny_newObj_type (wpAny_bind (wpAny_pure (wpAny_pure ⟨_, rfl, wpAny_pure h⟩))) htake)
    | exact wpAny_bind (wpAny_bind (m := Builtin.Tuple.tupleExact _) (wpAny_newObj_type (wpAny_pure (wpAny_pure ⟨_, rfl, wpAny_pure h⟩)) htake))
    | exact wpAny_bind (wpAny_bind (m := Builtin.Tuple.tupleExact _) (wpAny_newObj_type (wpAny_pure ⟨_, rfl, wpAny_pure h⟩) htake))
end
section
variable {X : Cx} {K : PySem.W.Frag}
def tRevT (K : PySem.W.Frag) (te : TE) : TE := fun σ H Q => te σ H fun x H1 => ∃ a u v, x = .ref a ∧ SqT K H1 a [u, v] ∧ ∀ p, H1 p = none → Q (.ref p) (upd H1 p (.tup [v, u]))
theorem pe_revT (k : X.K = K) {e : Expr} {te : TE} {k1 : Nat} {p1 p2 p3 pos : Pos} (he : PE X e te) : PE X (.Subscript e (.Slice none none (some (.UnaryOp .USub (.Constant (.int 1) k1 p1) p2)) p3) pos) (tRevT K te) := by
  subst k
  refine ⟨fun pins s σ H Q I h => ?_⟩
  refine Subscript_ (thn (he.run pins s σ H _ I h) fun v s1 ⟨x, H1, I1, r1, q1⟩ => ?_)
  obtain ⟨a, u1, u2, ex, hx, q⟩ := q1
  subst ex
  cases r1
  have hst : PO X (some (.UnaryOp .USub (.Constant (.int 1) k1 p1) p2)) (tPart (tUn (rU fun i => .int (-i)) (tC (.int 1)))) := po_some (pe_un un_neg pe_int)
  refine wpAny_Slice (thn (po_none.run pins s1 σ H1 (fun o H2 => o = none ∧ H2 = H1) I1 ⟨rfl, rfl⟩) fun vl s2 ⟨l, H2, I2, pl, el, e2⟩ => ?_)
  subst el e2
  refine thn (po_none.run pins s2 σ H2 (fun o H3 => o = none ∧ H3 = H2) I2 ⟨rfl, rfl⟩) fun vu s3 ⟨u, H3, I3, pu, eu, e3⟩ => ?_
  subst eu e3
  refine thn (hst.run pins s3 σ H3 (fun o H4 => o = some (-1) ∧ H4 = H3) I3 ⟨1, rfl, -1, rfl, rfl, rfl⟩) fun vs s4 ⟨o, H4, I4, ps, eo, e4⟩ => ?_
  subst eo e4
  cases pl
  cases pu
  cases ps with
  | int _ tk =>
  have I5 : Inv X pins σ H4 { s4 with heap := s4.heap.push { cls := .type "slice", data := .fields #[.none, .none, .int (-1) tk] } } := I4.kept (t' := s4.toks) fun b ob q => Heap.get?_push_of_some _ q
  obtain ⟨its, r, ht, hz⟩ := I5.tuple hx
  cases r with
  | cons r1 rr =>
  cases rr with
  | cons r2 rr =>
  cases rr
  rename_i w1 w2
  show wpAny (model X.prog X.w) X.A (subscriptTail e (.Slice none none (some (.UnaryOp .USub (.Constant (.int 1) k1 p1) p2)) p3) (.ref a) (.ref s4.heap.objs.size)) (EP X pins σ Q) X.xe { s4 with heap := s4.heap.push { cls := .type "slice", data := .fields #[.none, .none, .int (-1) tk] } }
  refine tail_any (ops := [.ref a, .ref s4.heap.objs.size]) ht.typeIs PyProof.Rows.slot_tuple_getitem.lookup ?_ (by with_unfolding_all rfl)
  refine getItem_rev2 (a := w1) (b := w2) (u := tk) ht (Heap.IsSliceOf.new _ .none .none (.int (-1) tk)) ?_
  refine ⟨.ref _, _, I5.laid (t' := s4.toks) (o := .tup [u2, u1]) (fun b ob q => Heap.get?_push_of_some _ q) (Nat.le_refl _) ?_, rfl, q _ (I5.hok.fresh (Nat.le_refl _))⟩
  exact ⟨by rw [sizeLine_eq]; show 2 ≤ _; decide, [w2, w1], .cons r2 (.cons r1 .nil), IsTup.new _ _⟩
def tRevS (te : TE) : TE := fun σ H Q => te σ H fun x H1 => ∃ a b : Nat, x = .str ⟨#[a, b]⟩ ∧ Q (.str ⟨#[b, a]⟩) H1
theorem pe_revS {e : Expr} {te : TE} {k1 : Nat} {p1 p2 p3 pos : Pos} (he : PE X e te) : PE X (.Subscript e (.Slice none none (some (.UnaryOp .USub (.Constant (.int 1) k1 p1) p2)) p3) pos) (tRevS te) := by
  refine ⟨fun pins s σ H Q I h => ?_⟩
  refine Subscript_ (thn (he.run pins s σ H _ I h) fun v s1 ⟨x, H1, I1, r1, q1⟩ => ?_)
  obtain ⟨a, b, ex, q⟩ := q1
  subst ex
  obtain ⟨t1, rfl⟩ := r1
  have hst : PO X (some (.UnaryOp .USub (.Constant (.int 1) k1 p1) p2)) (tPart (tUn (rU fun i => .int (-i)) (tC (.int 1)))) := po_some (pe_un un_neg pe_int)
  refine wpAny_Slice (thn (po_none.run pins s1 σ H1 (fun o H2 => o = none ∧ H2 = H1) I1 ⟨rfl, rfl⟩) fun vl s2 ⟨l, H2, I2, pl, el, e2⟩ => ?_)
  subst el e2
  refine thn (po_none.run pins s2 σ H2 (fun o H3 => o = none ∧ H3 = H2) I2 ⟨rfl, rfl⟩) fun vu s3 ⟨u, H3, I3, pu, eu, e3⟩ => ?_
  subst eu e3
  refine thn (hst.run pins s3 σ H3 (fun o H4 => o = some (-1) ∧ H4 = H3) I3 ⟨1, rfl, -1, rfl, rfl, rfl⟩) fun vs s4 ⟨o, H4, I4, ps, eo, e4⟩ => ?_
  subst eo e4
  cases pl
  cases pu
  cases ps with
  | int _ tk =>
  have I5 : Inv X pins σ H4 { s4 with heap := s4.heap.push { cls := .type "slice", data := .fields #[.none, .none, .int (-1) tk] } } := I4.kept (t' := s4.toks) fun b ob q => Heap.get?_push_of_some _ q
  show wpAny (model X.prog X.w) X.A (subscriptTail e (.Slice none none (some (.UnaryOp .USub (.Constant (.int 1) k1 p1) p2)) p3) (.str ⟨#[a, b]⟩ t1) (.ref s4.heap.objs.size)) (EP X pins σ Q) X.xe { s4 with heap := s4.heap.push { cls := .type "slice", data := .fields #[.none, .none, .int (-1) tk] } }
  refine tail_any (ops := [.ref s4.heap.objs.size, .str ⟨#[a, b]⟩ t1]) (typeIs_str _ _ _) PySem.F.slot_str_getitem.lookup ?_ (by with_unfolding_all rfl)
  obtain ⟨os, hos, hcs, hds⟩ := Heap.IsSliceOf.new s4.heap .none .none (.int (-1) tk)
  refine wpAny_getItem_str_slice (l := none) (u := none) (st := some (-1, tk)) ⟨os, hos, hcs, hds⟩ rfl ?_
  have ek : PySem.Builtin.Str.strSliceIndices none none (-1) 2 = [1, 0] := by decide +kernel
  have em : PySem.sliceMade ⟨#[a, b]⟩ t1 none none (some (-1, tk)) = Made.str ⟨#[b, a]⟩ := by
    unfold PySem.sliceMade PySem.slicePicked
    show (if ((-1 : Int) == 1 && (PySem.Builtin.Str.strSliceIndices none none (-1) 2).length == 2) = true then _ else Made.str ⟨((PySem.Builtin.Str.strSliceIndices none none (-1) 2).filterMap ((#[a, b] : Array Nat)[·]?)).toArray⟩) = _
    rw [ek, if_neg (by decide)]
    rfl
  rw [em]
  exact ⟨by rw [sizeLine_eq]; show 2 ≤ _; decide, .str _, H4, I5.tok _, ⟨_, rfl⟩, q⟩
end
section
variable {C : Cn} {G : En} {te : TE}
theorem ev_revT {K : PySem.W.Frag} {x y : D} (h : EvD C te G (.tup [x, y])) : EvD C (tRevT K te) G (.tup [y, x]) := fun O H σ g Q q => h O H σ g _ fun d v H1 e e1 hv => by
  subst e
  obtain ⟨a, vs, rfl, h2, h3⟩ := rep_tup.mp hv
  obtain ⟨v1, r, rfl, h4, h5⟩ := repL_cons.mp h3
  obtain ⟨v2, r', rfl, h6, h7⟩ := repL_cons.mp h5
  rw [repL_nil.mp h7] at h2
  refine ⟨a, v1, v2, rfl, SqT.of (hide_le _ _ h2 rfl), fun p np => ?_⟩
  obtain ⟨s1, s2⟩ := pair_new (g.dom.mono e1) np h6 h4
  exact q _ _ _ rfl (e1.trans s1) s2
theorem ev_revS {a b : Nat} (h : EvD C te G (.s ⟨#[a, b]⟩)) : EvD C (tRevS te) G (.s ⟨#[b, a]⟩) := fun O H σ g Q q => h O H σ g _ fun d v H1 e e1 hv => by
  subst e
  exact ⟨a, b, rep_v.mp hv, q _ _ H1 rfl e1 (rep_v.mpr rfl)⟩
end
end Wr
set_option maxHeartbeats 4000000
namespace Wr
open PySem PySem.Spec PyProof.Rows L2
theorem tup_mul1 (l : Addr) (items : Array Value) (n : Nat) (dd : Option Addr) (sl : Array (Option Value)) (u : Tok) :
    Meets (Builtin.«tuple.__mul__» ⟨[.ref l, .int 1 u], []⟩) (fun _ R s => s.heap.get? l = some { cls := .type "tuple", dict := dd, data := .seq items n, slots := sl } ∧ R (.ok (.ret (Value.ref l))) s) :=
  .of_wp fun prog w A R s h => by
    obtain ⟨hp, g, d, tk, os⟩ := s
    obtain ⟨hl, h⟩ := h
    have f1 := AutoSeq1.idx_int
    have c0 : (decide ((1 : Int) < -(2 ^ 63)) || decide ((1 : Int) ≥ 2 ^ 63)) = false := by decide
    have c1 : (items.isEmpty || (1 : Int) == 1) = true := by simp
    wp_walk using wpAny_loadPart' hl
    repeat (first
      | (refine wpAny_ite_false (decide_eq_false (by rw [c0]; exact Bool.false_ne_true)) ?_; wp_walk using wpAny_loadPart' hl)
      | (refine wpAny_ite_true (decide_eq_true c1) ?_; wp_walk using wpAny_loadPart' hl)
      | (rw [if_pos c1]; wp_walk using wpAny_loadPart' hl))
    exact ⟨_, rfl, h⟩
theorem tup_mul0 (l : Addr) (items : Array Value) (hi : items.isEmpty = false) (n : Nat) (dd : Option Addr) (sl : Array (Option Value)) (u : Tok) :
    Meets (Builtin.«tuple.__mul__» ⟨[.ref l, .int 0 u], []⟩) (fun _ R s => s.heap.get? l = some { cls := .type "tuple", dict := dd, data := .seq items n, slots := sl } ∧
      R (.ok (.ret (Value.ref s.heap.objs.size))) { s with heap := s.heap.push { cls := Value.type "tuple", data := Data.seq #[] }, toks := s.toks }) :=
  .of_wp fun prog w A R s h => by
    obtain ⟨hp, g, d, tk, os⟩ := s
    obtain ⟨hl, h⟩ := h
    have f1 := AutoSeq1.idx_int
    have c0 : (decide ((0 : Int) < -(2 ^ 63)) || decide ((0 : Int) ≥ 2 ^ 63)) = false := by decide
    have c1 : (items.isEmpty || (0 : Int) == 1) = false := by rw [hi]; rfl
    have c2 : (decide ((0 : Int) ≤ 0) || items.isEmpty) = true := by simp
    wp_walk using wpAny_loadPart' hl
    repeat (first
      | (refine wpAny_ite_false (decide_eq_false (by rw [c0]; exact Bool.false_ne_true)) ?_; wp_walk using wpAny_loadPart' hl)
      | (refine wpAny_ite_false (decide_eq_false (by rw [c1]; exact Bool.false_ne_true)) ?_; wp_walk using wpAny_loadPart' hl)
      | (rw [if_pos c2]; wp_walk using wpAny_loadPart' hl))
    exact ⟨_, rfl, h⟩
/-- (x,) * n -/
def rRep1 (K : PySem.W.Frag) : L2.R2 := fun x y H Q => ∃ l k v, x = .ref l ∧ y = .int k ∧ SqT K H l [v] ∧ 0 ≤ k ∧ k ≤ 1000 ∧ (k = 1 → Q (.ref l) H) ∧ (k ≠ 1 → ∀ p, H p = none → Q (.ref p) (upd H p (.tup (List.replicate k.toNat v))))
section
variable {X : Cx} {K : PySem.W.Frag}
theorem rep_flat1 {α : Type} (v : α) : ∀ n : Nat, (List.replicate n [v]).flatten = List.replicate n v
  | 0 => rfl
  | n + 1 => by
    rw [List.replicate_succ, List.flatten_cons, rep_flat1 v n, List.replicate_succ]
    rfl
theorem op_rep1 (k : X.K = K) : OpR X (binaryOp .Mult) (rRep1 K) := by
  subst k
  intro pins s σ H x y v u Q I rx ry h
  obtain ⟨l, k, z, rfl, rfl, hT, h0, h1, q1, q2⟩ := h
  by_cases hk : 2 ≤ k
  · refine op_repT pins s σ H (.ref l) (.int k) v u Q I rx ry ⟨l, k, [z], rfl, rfl, hT, (fun e => by cases e), hk, h1, by show 1 ≤ 1000; decide, fun p np => ?_⟩
    rw [rep_flat1]
    exact q2 (by omega) p np
  · cases rx
    obtain ⟨t, rfl⟩ := ry
    obtain ⟨its, r, ⟨⟨cls, dd, data, sl⟩, ho, hc, n, hd⟩, hs⟩ := I.tuple hT
    simp only at hc hd
    subst hc hd
    have hk2 : k = 0 ∨ k = 1 := by omega
    rcases hk2 with rfl | rfl
    · have hi : its.toArray.isEmpty = false := by
        cases r with
        | cons r1 rr => cases rr; rfl
      refine wpAny_binaryOp_repeat_ref (T := "tuple") (U := "int") (by decide) ⟨_, ho, rfl⟩ (fun s' => typeIs_int s' 0 t) noFill_tuple_mul F.fills_int_mul F.slot_int_rmul repeat_tuple F.slot_int_index.lookup
        (call_meets F.slot_int_rmul (typeIs_int s 0 t) F.entry_int_rmul (F.args_int_rmul_2 _ _) (int_rmul_tuple 0 t l its.toArray n dd sl)
          ⟨ho, rfl, ⟨_, ho, rfl⟩, call_meets F.slot_tuple_mul ⟨_, ho, rfl⟩ F.entry_tuple_mul (F.args_tuple_mul_2 _ _) (tup_mul0 l its.toArray hi n dd sl t) ⟨ho, ?_⟩⟩)
      refine ⟨.ref s.heap.objs.size, _, I.laid (t' := s.toks) (o := .tup []) (fun b ob q => Heap.get?_push_of_some _ q) (Nat.le_refl _) ?_, rfl, q2 (by decide) _ (I.hok.fresh (Nat.le_refl _))⟩
      exact ⟨Nat.zero_le _, [], .nil, IsTup.new _ _⟩
    · refine wpAny_binaryOp_repeat_ref (T := "tuple") (U := "int") (by decide) ⟨_, ho, rfl⟩ (fun s' => typeIs_int s' 1 t) noFill_tuple_mul F.fills_int_mul F.slot_int_rmul repeat_tuple F.slot_int_index.lookup
        (call_meets F.slot_int_rmul (typeIs_int s 1 t) F.entry_int_rmul (F.args_int_rmul_2 _ _) (int_rmul_tuple 1 t l its.toArray n dd sl)
          ⟨ho, rfl, ⟨_, ho, rfl⟩, call_meets F.slot_tuple_mul ⟨_, ho, rfl⟩ F.entry_tuple_mul (F.args_tuple_mul_2 _ _) (tup_mul1 l its.toArray n dd sl t) ⟨ho, ?_⟩⟩)
      exact ⟨.ref l, H, I, rfl, q1 rfl⟩
theorem rr_rep1 {C : Cn} {d : D} {n : Nat} (hn : n ≤ 1000) : RR C (rRep1 K) (.tup [d]) (.i n) (· = .tup (List.replicate n d)) := fun O H a b dm ha hb Q q => by
  obtain ⟨l, vs, rfl, h1, h2⟩ := rep_tup.mp ha
  obtain ⟨v, r, rfl, h3, h4⟩ := repL_cons.mp h2
  rw [repL_nil.mp h4] at h1
  refine ⟨l, n, v, rfl, rep_v.mp hb, SqT.of (hide_le _ _ h1 rfl), by omega, by omega, fun e => ?_, fun e p np => ?_⟩
  · have e : n = 1 := by omega
    subst e
    exact q _ _ H rfl (Same.refl H) ha
  · rw [Int.toNat_natCast]
    refine q _ _ _ rfl (same_new np) (rep_tup.mpr ⟨p, _, rfl, by rw [hide_at (dm.out np)]; exact upd_same, ?_⟩)
    have h3' := h3.mono (hide_mono (same_new (o := .tup (List.replicate n v)) np))
    have : ∀ m : Nat, RepL C (hide O (upd H p (.tup (List.replicate n v)))) (List.replicate m d) (List.replicate m v) := fun m => by
      induction m with
      | zero => exact RepL.nil
      | succ m ih =>
        rw [List.replicate_succ, List.replicate_succ]
        exact RepL.cons h3' ih
    exact this n
end
/-! ### len(web), isinstance(web, Web) -/
section
variable {X : Cx} {C f : Addr} {k : Nat} {fd : FuncData} {sp : Sp}
theorem call_lenW (F : FnOk X.prog X.w X.K X.mg X.base CX0 k f fd ["self"] sp) (M : Meth X.K C "__len__" f) (hr : Room (k + 1) X.A) (hb : Binds X.K fd ["self"] []) :
    CallR X (.builtin "len") (fun vs H Q => ∃ a dx fs, vs = [.ref a] ∧ H a = some (.ins C dx fs) ∧ sp [.ref a] H (fun v H' => ∃ n : Nat, v = .int n ∧ n < 1000000 ∧ Q (.int n) H') (fun _ _ _ => False)) := by
  intro pins s σ H vs us Q I r h
  obtain ⟨a, dx, fs, rfl, ea, hsp⟩ := h
  obtain ⟨u, eu, rx⟩ := vals1 r
  subst eu
  obtain rfl : u = Value.ref a := rx
  obtain ⟨mA, O, _⟩ := ins_get I.hok ea
  obtain ⟨od, J, _⟩ := O.look
  refine Calls.call_function_entry kind_len plain_len entry_len (args_len1 _) ?_
  unfold Builtin.«len»
  refine wpAny_bind (m := oneArg "len" _) (wpAny_pure ?_)
  have run : wpAny (model X.prog X.w) X.A.in1 (call (.ref f) [.ref a]) (EP X pins σ (fun v H' => ∃ n : Nat, v = .int n ∧ n < 1000000 ∧ Q (.int n) H')) X.xe s := by
    refine wpAny_call (codeAny_mono (F.run X.A.in1 X.stack s H ⟨[.ref a], []⟩ [.ref a] [.ref a] _ _ hr.in1 I.env0.in1 (hb s [.ref a] I.kIn rfl) (.cons rfl .nil) hsp) fun r s' hq => ?_)
    cases r with
    | error e => exact pass0 pins σ H s e s' I hq
    | ok fl =>
      cases fl with
      | ret u => exact I.after hq
      | next => exact False.elim hq
      | brk => exact False.elim hq
      | cont => exact False.elim hq
  refine wpAny_bind (m := callSpecial? (.ref a) (Str.ofString "__len__")) (PySem.W.special_fn I.kIn J M.at_ (beq_iff_eq.mp M.fn) (wpAny_mono run (fun r s' hr => ?_) fun _ _ y => y))
  obtain ⟨v, H', I', rv, n, rfl, hn, q⟩ := hr
  obtain ⟨t, rfl⟩ := rv
  refine wpAny_bind (wpAny_holding (wpAny_pure ?_))
  refine wpAny_bind (wpAny_letGo ?_)
  show wpAny _ _ (if (n : Int) < 0 then _ else _) _ _ _
  rw [if_neg (by omega)]
  show wpAny _ _ (if (n : Int) ≥ 2 ^ 63 then _ else _) _ _ _
  rw [if_neg (by omega)]
  exact wpAny_bind (wpAny_mkInt (wpAny_pure ⟨_, rfl, .int n, H', I'.tok _, ⟨_, rfl⟩, q⟩))
end
end Wr
set_option maxHeartbeats 4000000
namespace Wr
open PySem L2
def st (l : List Nat) : Str := ⟨l.toArray⟩
theorem st_toList (l : List Nat) : (st l).cps.toList = l := by simp [st]
theorem st_size (l : List Nat) : (st l).cps.size = l.length := by simp [st]
theorem st_len (l : List Nat) : (st l).length = l.length := by
  show (st l).cps.size = _
  exact st_size l
theorem st_inj {a b : List Nat} : st a = st b ↔ a = b := by
  constructor
  · intro h
    have := congrArg (fun z : Str => z.cps.toList) h
    simpa [st_toList] using this
  · rintro rfl; rfl
theorem st_app (a b : List Nat) : st a ++ st b = st (a ++ b) := by
  show (⟨(st a).cps ++ (st b).cps⟩ : Str) = _
  simp [st]
theorem st_dec {a b : List Nat} : decide (st a = st b) = decide (a = b) := by
  by_cases h : a = b
  · rw [decide_eq_true h, decide_eq_true (st_inj.mpr h)]
  · rw [decide_eq_false h, decide_eq_false fun z => h (st_inj.mp z)]
theorem signs_st (l : List Nat) : signs (st l) = l.map fun c => D.s (st [c]) := by
  unfold signs
  rw [st_toList]
  rfl
theorem cut_tail (l : List Nat) : cutS (st l) (some 1) none = st l.tail := by
  unfold cutS
  have h1 : HT.sIx (st l).length 0 (some 1) = min 1 l.length := by
    have := HT.sIx_nat (st l).length 0 1
    rw [st_len] at this
    rw [st_len]
    exact this
  rw [h1, st_toList]
  show st (List.take ((st l).length - min 1 l.length) (List.drop (min 1 l.length) l)) = _
  rw [st_len]
  congr 1
  cases l with
  | nil => rfl
  | cons a l =>
    rw [List.take_of_length_le (by rw [List.length_drop]; exact Nat.le_refl _)]
    rw [show min 1 (a :: l).length = 1 from by simp only [List.length_cons]; omega]
    rfl
theorem cut_last (l : List Nat) : cutS (st l) none (some (-1)) = st l.dropLast := by
  unfold cutS
  have h1 : HT.sIx (st l).length (st l).length (some (-1)) = l.length - 1 := by
    show (if (-1 : Int) < 0 then ((-1 : Int) + ((st l).length : Int)).toNat else min (-1 : Int).toNat (st l).length) = _
    rw [if_pos (by decide), st_len]
    omega
  rw [h1, st_toList]
  show st (List.take (l.length - 1 - 0) (List.drop 0 l)) = _
  rw [List.drop_zero, Nat.sub_zero, List.dropLast_eq_take]
theorem cut_take (l : List Nat) (k : Nat) : cutS (st l) none (some (k : Int)) = st (l.take k) := by
  unfold cutS
  rw [HT.sIx_nat, st_toList, st_len]
  show st (List.take (min k l.length - 0) (List.drop 0 l)) = _
  rw [List.drop_zero, Nat.sub_zero]
  congr 1
  by_cases h : k ≤ l.length
  · rw [Nat.min_eq_left h]
  · rw [Nat.min_eq_right (by omega), List.take_of_length_le (Nat.le_refl _), List.take_of_length_le (by omega)]
theorem join_st (ls : List (List Nat)) : Txt.join (st []) (ls.map st) = st ls.flatten := by
  have h : (Str.join (st []) (ls.map st)).cps.toList = ls.flatten := by
    have := TL.tl_join (st []) (ls.map st)
    have e : (ls.map st).map TL.tl = ls := by
      rw [List.map_map]
      have : TL.tl ∘ st = id := funext st_toList
      rw [this, List.map_id]
    rw [e] at this
    rw [show (Str.join (st []) (ls.map st)).cps.toList = TL.tl (Str.join (st []) (ls.map st)) from rfl, this]
    have : ∀ ls : List (List Nat), TL.joinL (TL.tl (st [])) ls = ls.flatten := by
      intro ls
      induction ls with
      | nil => rfl
      | cons p r ih =>
        cases r with
        | nil => simp [TL.joinL]
        | cons q r =>
          show p ++ (TL.tl (st []) ++ TL.joinL (TL.tl (st [])) (q :: r)) = _
          rw [ih]
          simp [st, TL.tl]
    exact this ls
  have e : Txt.join (st []) (ls.map st) = Str.join (st []) (ls.map st) := eq_of_beq (PyProof.Rows.join_plain_closes _ _)
  rw [e]
  cases hh : Str.join (st []) (ls.map st) with
  | mk cps =>
    rw [hh] at h
    have h : cps.toList = ls.flatten := h
    unfold st
    rw [← h]
/-! ### webs -/
abbrev Tie := Nat × Nat
abbrev W := List Nat × List Tie
def letters (n : Nat) : List Nat := (List.range n).map (97 + ·)
def tS (t : Tie) : Str := st [t.1, t.2]
def dW (x : W) : D := .web (st x.1) (x.2.map tS)
structure WOk (x : W) : Prop where
  pl : ∃ n, 1 ≤ n ∧ n ≤ 5 ∧ x.1 = letters n
  ts : ∀ t ∈ x.2, t.1 ∈ x.1 ∧ t.2 ∈ x.1 ∧ t.1 ≤ t.2
  nt : x.2.length ≤ 7
theorem WOk.lt {x : W} (h : WOk x) {c : Nat} (hc : c ∈ x.1) : 97 ≤ c ∧ c < 102 := by
  obtain ⟨n, h1, h2, e⟩ := h.pl
  rw [e] at hc
  unfold letters at hc
  obtain ⟨i, hi, rfl⟩ := List.mem_map.mp hc
  have := List.mem_range.mp hi
  omega
theorem WOk.len {x : W} (h : WOk x) : 1 ≤ x.1.length ∧ x.1.length ≤ 5 := by
  obtain ⟨n, h1, h2, e⟩ := h.pl
  rw [e]
  unfold letters
  rw [List.length_map, List.length_range]
  exact ⟨h1, h2⟩
theorem WOk.sorted {x : W} (h : WOk x) : x.1.Pairwise (· < ·) := by
  obtain ⟨n, h1, h2, e⟩ := h.pl
  rw [e]
  unfold letters
  rw [List.pairwise_map]
  exact List.pairwise_lt_range.imp fun h => by omega
theorem WOk.nodup {x : W} (h : WOk x) : x.1.Nodup := h.sorted.imp fun h => by omega
def lettersAll : List Nat := [97, 98, 99, 100, 101]
theorem mem_lettersAll {c : Nat} (h : 97 ≤ c ∧ c < 102) : c ∈ lettersAll := by
  unfold lettersAll
  simp only [List.mem_cons, List.not_mem_nil, or_false]
  omega
def occ (c : Nat) (t : Tie) : Nat := (if t.1 = c then 1 else 0) + (if t.2 = c then 1 else 0)
theorem count_fin : ∀ u ∈ lettersAll, ∀ v ∈ lettersAll, ∀ c ∈ lettersAll, Txt.count (st [u, v]) (st [c]) = (occ c (u, v) : Int) := by decide +kernel
theorem count_tie {u v c : Nat} (hu : 97 ≤ u ∧ u < 102) (hv : 97 ≤ v ∧ v < 102) (hc : 97 ≤ c ∧ c < 102) : Txt.count (tS (u, v)) (st [c]) = (occ c (u, v) : Int) :=
  count_fin u (mem_lettersAll hu) v (mem_lettersAll hv) c (mem_lettersAll hc)
theorem index_fin : ∀ n ∈ List.range 6, ∀ k ∈ List.range n, Txt.index0 (st (letters n)) (st [97 + k]) = some k := by decide +kernel
/-- the place's index -/
theorem index_pl {n k : Nat} (hn : n ≤ 5) (hk : k < n) : Txt.index0 (st (letters n)) (st [97 + k]) = some k := index_fin n (List.mem_range.mpr (by omega)) k (List.mem_range.mpr hk)
section
variable {C : Cn} {K : PySem.W.Frag} {G : En} {te : TE} {x : W} {mg : PySem.Str → Option Value}
theorem evw_places (T : Cls K C.cls) (nP : NoAttr K C.cls "places") (h : EvD C te G (dW x)) : EvD C (tFld K te "places") G (.s (st x.1)) := ev_places T nP h
theorem evw_ties (T : Cls K C.cls) (nT : NoAttr K C.cls "ties") (h : EvD C te G (dW x)) : EvD C (tFld K te "ties") G (.tup (x.2.map fun t => D.s (tS t))) := (ev_ties T nT h).to (by unfold dS; rw [List.map_map]; rfl)
end
end Wr
set_option maxHeartbeats 4000000
namespace Wr
open PySem PySem.Spec PyProof.Rows L2
/-! ### a, b = a text of two signs -/
section
variable {prog : Program} {w : World} {A : Around} {E : Value → Shared → Prop} {s : Shared}
theorem unpackItems_str2 {a b : Nat} {t : Tok} {Q : List Value → Shared → Prop} (hh : A.handled = none)
    (hQ : ∀ h' tk t1 t2, (∀ c o, s.heap.get? c = some o → h'.get? c = some o) → Q [.str ⟨#[a]⟩ t1, .str ⟨#[b]⟩ t2] { s with heap := h', toks := tk }) : wpAny (model prog w) A (unpackItems (.str ⟨#[a, b]⟩ t) 2 none) Q E s := by
  unfold unpackItems
  refine wpAny_bind ?_
  unfold notIterableAtAll
  refine wpAny_bind (wpAny_specialOf (T := "str") (v := .str ⟨#[a, b]⟩ t) rfl F.slot_str_iter.lookup ?_)
  refine wpAny_pure ?_
  simp only [Bool.false_eq_true, if_false]
  refine wpAny_bind (wpAny_holding (wpAny_pyIter_str fun o St W hst => ?_))
  have Wk := W A hh
  have step : ∀ (i : Nat) (s1 : Shared), i < 2 → St i s1.heap → ∀ (R : Option Value → Shared → Prop), (∀ v h' tk, SignAt ⟨#[a, b]⟩ i v → St (i + 1) h' → (∀ c o, c ∉ [s.heap.objs.size] → s1.heap.get? c = some o → h'.get? c = some o) → R (some v) { s1 with heap := h', toks := tk }) → wpAny (model prog w) A (pyNext (.ref s.heap.objs.size)) R E s1 := fun i s1 hi st R h => Wk.item i s1 R E hi st h
  have old : ∀ c o, s.heap.get? c = some o → c ∉ [s.heap.objs.size] := fun c o e hm => by
    rw [List.mem_singleton.mp hm] at e
    exact Nat.lt_irrefl _ (Heap.lt_size e)
  refine wpAny_bind (wpAny_holding ?_)
  show wpAny _ _ (pyNext (.ref s.heap.objs.size) >>= _) _ E _
  refine wpAny_bind (step 0 _ (by decide) hst _ fun v1 h1 tk1 p1 st1 k1 => ?_)
  obtain ⟨c1, t1, q1, rfl⟩ := p1
  have : a = c1 := by simpa using q1
  subst this
  refine wpAny_bind (wpAny_holding ?_)
  show wpAny _ _ (pyNext (.ref s.heap.objs.size) >>= _) _ E _
  refine wpAny_bind (step 1 _ (by decide) st1 _ fun v2 h2 tk2 p2 st2 k2 => ?_)
  obtain ⟨c2, t2, q2, rfl⟩ := p2
  have : b = c2 := by simpa using q2
  subst this
  refine wpAny_bind (wpAny_holding ?_)
  show wpAny _ _ (pure []) _ E _
  refine wpAny_pure (wpAny_pure (wpAny_pure ?_))
  rw [if_neg (by simp)]
  refine wpAny_bind (wpAny_holding (Wk.done _ _ _ st2 fun h3 tk3 k3 => ?_))
  simp only [Option.isSome_none, Bool.false_eq_true, if_false]
  refine wpAny_pure (hQ h3 tk3 t1 t2 fun c o e => ?_)
  have n := old c o e
  exact k3 c o n (k2 c o n (k1 c o n (Heap.get?_push_of_some _ e)))
end
section
variable {X : Cx} {pos : Pos}
theorem pg_str2 {es : List Expr} {k : Nat} {t : TGs} (hc : X.calm = true) (h : PGs X es t)
    (hn : (assignEach es X.env).length = 2 := by rfl) (hst : (assignEach es X.env).findIdx? (·.1) = none := by rfl) : PG X (.Tuple es k pos) (gStr2 t) := by
  refine ⟨fun pins s σ H v u Q I r hw => ?_⟩
  obtain ⟨a, b, e1, hw⟩ := hw
  subst e1
  obtain ⟨tk, rfl⟩ := r
  rw [PyProof.Rows.assign_Tuple]
  refine wpAny_bind (wpAny_standAt ?_)
  unfold unpack
  rw [hn, hst]
  refine wpAny_bind (wpAny_holding (unpackItems_str2 (I.ok.hd hc) fun h' tk' t1 t2 hx => ?_))
  have I1 : Inv X pins σ H { s with heap := h', toks := tk' } := I.kept hx
  exact h.run pins _ σ H [.str ⟨#[a]⟩, .str ⟨#[b]⟩] _ Q I1 (.cons ⟨t1, rfl⟩ (.cons ⟨t2, rfl⟩ .nil)) hw
/-- xs[i], the value that an augmented assignment reads -/
def gtL (K : PySem.W.Frag) : V → V → Hp → VK → Prop := fun o i H Q => ∃ p xs k j z, o = .ref p ∧ i = .int k ∧ SqL K H p xs ∧ 0 ≤ k ∧ k.toNat = j ∧ xs[j]? = some z ∧ Q z H
theorem pget_list : PGet X (gtL X.K) := by
  intro pins s σ H o i ov iv Q I ro ri h
  obtain ⟨p, xs, k, j, z, rfl, rfl, hq, h0, rfl, hz, q⟩ := h
  cases ro
  obtain ⟨t, rfl⟩ := ri
  obtain ⟨its, r, pl, hz'⟩ := I.list hq
  obtain ⟨w, ew, rw'⟩ := r.get hz
  refine wpAny_getItem_list (x := w) pl.isList h0 ?_ (by simpa using ew) ⟨z, H, I, rw', q⟩
  have := (List.getElem?_eq_some_iff.mp hz).1
  have hn := line63
  omega
theorem k_pget_list {K : PySem.W.Frag} (k : X.K = K) : PGet X (gtL K) := k ▸ pget_list
end
section
variable {C : Cn} {K : PySem.W.Frag} {G : En} {N : En → Prop} {R : D → En → Prop} {u : TS} {te ti to : TE} {i : Nat}
theorem sd_augL {f : Int → Int → Int} {l : Addr} {xs : List SV} {j : Nat} {a v : Int} (hi : G.De[i]? = some (.ptr l)) (hl : G.at l (.lst xs)) (hx : EvD C ti G (.i (j : Int))) (h : EvD C te G (.i v)) (hj : xs[j]? = some (.im (.i a))) (k : N (G.put l (.lst (xs.set j (.im (.i (f a v))))))) :
    SD C (tAugS (tVar i) ti te (gtL K) (ipI f) rSetL) G N R := fun H0 O0 H σ E g n r => by
  obtain ⟨o, h1, h2⟩ := g.e.sl.get hi
  have h2 : o = some (.ref l) := h2
  subst h2
  obtain ⟨vs, hv, hs⟩ := g.get hl
  refine ⟨.ref l, h1, ?_⟩
  refine hx _ H σ g.e _ fun d w H1 hd e1 rw' => ?_
  subst hd
  obtain ⟨z, hz, sz⟩ := hs.get hj
  obtain ⟨za, e3, rz⟩ := sz
  subst e3
  rw [rep_v.mp rz] at hz
  have hz' : vs[j]? = some (.int a) := by
    rw [List.getElem?_map] at hz
    cases q : vs[j]? with
    | none =>
      rw [q] at hz
      cases hz
    | some c =>
      rw [q] at hz
      exact Option.some.inj hz
  refine ⟨l, vs, (j : Int), j, .int a, rfl, rep_v.mp rw', SqL.of (e1 _ _ hv rfl), by omega, by omega, hz', ?_⟩
  refine h _ H1 σ (g.e.mono e1) _ fun d' y H2 hd' e2 ry => ?_
  subst hd'
  refine ⟨a, v, rfl, rep_v.mp ry, ?_⟩
  have e := e1.trans e2
  have hv' := e _ _ hv rfl
  have hjl : j < vs.length := (List.getElem?_eq_some_iff.mp hz').1
  obtain ⟨g2, ek⟩ := (g.mono e).put (y := .lst (xs.set j (.im (.i (f a v))))) hl rfl ⟨vs.set j (.int (f a v)), upd_same, by
    rw [List.map_set]
    exact (hs.mono (hide_mono e)).set j (sv_im (rep_v.mpr rfl))⟩
  have hjx : ixN vs.length (j : Int) = some j := by
    unfold ixN
    rw [if_pos (by omega), if_pos (by omega)]
    rfl
  refine ⟨l, vs, (j : Int), j, rfl, rep_v.mp rw', hv', hjx, n _ σ _ k g2 ?_⟩
  rw [ek]
  exact hide_mono e
/-! ### owned dicts -/
theorem zipK_app {ks : List Str} {vs : List V} {k : Str} {v : V} (h : ks.length = vs.length) : zipK (ks ++ [k]) (vs ++ [v]) = zipK ks vs ++ [(.inr k, v)] := by
  unfold zipK
  rw [List.map_append, List.zip_append (by rw [List.length_map]; exact h)]
  rfl
theorem dgetV_none : ∀ {ks : List Str} {vs : List V} {x : Str}, x ∉ ks → dgetV ks vs x = none
  | [], vs, x, _ => by cases vs <;> simp [dgetV]
  | k :: ks, [], x, _ => by simp [dgetV]
  | k :: ks, v :: vs, x, h => by
    rw [dgetV, if_neg (fun z => h (by simp [z]))]
    exact dgetV_none fun z => h (List.mem_cons_of_mem _ z)
theorem GamS.getD {H0 H : Hp} {O0 : List Addr} {σ : L2.St} (g : GamS C H0 O0 H G σ) {l : Addr} {ks : List Str} {xs : List SV} (hl : G.at l (.dic ks xs)) : ∃ vs : List V, H l = some (.dK (zipK ks vs)) ∧ ks.length = xs.length ∧ SVs C (kn G O0 H) xs (vs.map some) := g.e.ok _ hl
/-- d[k] = v, k new -/
theorem sd_dput {l : Addr} {ks : List Str} {xs : List SV} {k : Str} {P : D → Prop} {ty tv : TE} (hi : G.De[i]? = some (.ptr l)) (hl : G.at l (.dic ks xs)) (hv : EvR C tv G P) (hk : EvD C ty G (.s k)) (hn : k ∉ ks) (hz : ks.length < 100000) (kk : ∀ d, P d → N (G.put l (.dic (ks ++ [k]) (xs ++ [.im d])))) :
    SD C (sDPut (tVar i) ty tv) G N R := fun H0 O0 H σ E g n r => by
  obtain ⟨o, h1, h2⟩ := g.e.sl.get hi
  have h2 : o = some (.ref l) := h2
  subst h2
  obtain ⟨vs, hvs, hlen, hs⟩ := g.getD hl
  refine hv _ H σ g.e _ fun d w H1 hd e1 rv => ?_
  refine ⟨.ref l, h1, ?_⟩
  refine hk _ H1 σ (g.e.mono e1) _ fun d' y H2 hd' e2 ry => ?_
  subst hd'
  have e := e1.trans e2
  have hv' := e _ _ hvs rfl
  have hvl : ks.length = vs.length := by rw [hlen, hs.mlen]
  have hput : putK (zipK ks vs) (.inr k) w = zipK (ks ++ [k]) (vs ++ [w]) := by
    rw [putK_new w (by rw [valV_zip, dgetV_none hn]), zipK_app hvl]
  have hz' : (zipK ks vs).length < sizeLine := by
    unfold zipK
    rw [List.length_zip, List.length_map, hvl, Nat.min_self, ← hvl]
    exact Nat.lt_of_lt_of_le hz (by decide)
  obtain ⟨g2, ek⟩ := (g.mono e).put (y := .dic (ks ++ [k]) (xs ++ [.im d])) (o := .dK (zipK (ks ++ [k]) (vs ++ [w]))) hl rfl ⟨vs ++ [w], upd_same, by rw [List.length_append, List.length_append, hlen]; rfl, by
    rw [List.map_append]
    exact (hs.mono (hide_mono e)).append ⟨some w, [], rfl, sv_im (rv.mono (hide_mono e2)), rfl⟩⟩
  refine ⟨l, upd H2 l (.dK (zipK (ks ++ [k]) (vs ++ [w]))), rfl, ?_, n _ σ _ (kk d hd) g2 ?_⟩
  · rw [rep_v.mp ry, ← hput]
    exact DPut.k (k := .inr k) hv' hz'
  · rw [ek]
    exact hide_mono e
/-- k not in d, d owned -/
theorem ev_dnotinO {l : Addr} {ks : List Str} {xs : List SV} {k : Str} {ty : TE} (hi : G.De[i]? = some (.ptr l)) (hl : G.at l (.dic ks xs)) (hk : EvD C ty G (.s k)) : EvD C (tDNotIn ty (tVar i)) G (.b (!decide (k ∈ ks))) := fun O H σ g Q q =>
  hk O H σ g _ fun d y H1 hd e1 ry => by
    subst hd
    rw [rep_v.mp ry]
    obtain ⟨o, h1, h2⟩ := g.sl.get hi
    have h2 : o = some (.ref l) := h2
    subst h2
    obtain ⟨vs, hvs, hlen, hs⟩ := g.ok _ hl
    have hvl : ks.length = vs.length := by rw [hlen, hs.mlen]
    refine ⟨.ref l, h1, l, dgetV ks vs k, rfl, ?_, q _ _ H1 rfl e1 (rep_v.mpr ?_)⟩
    · have := DGet.k (k := .inr k) (e1 _ _ hvs rfl)
      rw [valV_zip] at this
      exact this
    · have : ∀ (ks : List Str) (vs : List V), ks.length = vs.length → (dgetV ks vs k).isSome = decide (k ∈ ks) := by
        intro ks
        induction ks with
        | nil =>
          intro vs _
          cases vs <;> simp [dgetV]
        | cons a ks ih =>
          intro vs h
          cases vs with
          | nil => simp at h
          | cons v vs =>
            rw [dgetV]
            by_cases z : a = k
            · rw [if_pos z]
              simp [z]
            · rw [if_neg z, ih vs (by simpa using h)]
              have z' : ¬ k = a := fun y => z y.symm
              simp [z']
      rw [this ks vs hvl]
/-- a new dict -/
def EvDc (C : Cn) (te : TE) (G : En) (ks : List Str) (ds : List D) : Prop := ∀ (O : List Addr) (H : Hp) (σ : L2.St), GamE C O H G σ → ∀ Q : VK,
  (∀ p vs H', H p = none → Same H H' → H' p = some (.dK (zipK ks vs)) → ks.length = ds.length → RepL C (hide (p :: O) H') ds vs → Q (.ref p) H') → te σ H Q
theorem EvDc.dat {ks : List Str} {ds : List D} (h : EvDc C te G ks ds) : EvD C te G (.dic ks ds) := fun O H σ g Q q => h O H σ g Q fun p vs H' np e hp hl hr =>
  q _ _ H' rfl e (rep_dic.mpr ⟨p, vs, rfl, by rw [hide_at (g.dom.out np)]; exact hp, hl, hr.mono (hide_sub fun a ha => List.mem_cons_of_mem _ ha)⟩)
/-- {k: v for x in xs}, the keys all different -/
theorem ev_dc {α : Type} {wi : TI} {g : TG} {tk tv : TE} {vs js : List Nat} (xs : List α) (A : α → D) (fk : α → Str) (f : α → D) (u : α → List SV → List SV) (hi : EvI C wi G (xs.map A)) (hg : ∀ x ∈ xs, EvG C g js (A x) (u x)) (hlen : xs.length ≤ 100000) (hnd : (xs.map fk).Nodup)
    (hk : ∀ x ∈ xs, EvD C tk ((G.un vs).up (u x)) (.s (fk x))) (he : ∀ x ∈ xs, EvD C tv ((G.un vs).up (u x)) (f x)) (hj : ∀ j ∈ js, j ∈ vs := by decide) : EvDc C (tDc wi g tYes tk tv vs) G (xs.map fk) (xs.map f) := by
  intro O H σ gm Q q
  refine hi O H σ gm _ fun J H1 e1 w => fun Dl hD => ?_
  have gm1 := gm.mono e1
  let Pv : Nat → Hp → Prop := fun i H' => Same H1 H' ∧ ∃ acc, H' Dl = some (.dK (zipK ((xs.take i).map fk) acc)) ∧ RepL C (hide (Dl :: O) H') ((xs.take i).map f) acc
  refine ⟨fun i m H' => m = xs.length - i ∧ i ≤ xs.length ∧ Pv i H', ⟨xs.length, by simp, Nat.zero_le _, same_new hD, [], upd_same, RepL.nil⟩, ?_⟩
  rintro i m H' ⟨rfl, hi', e2, acc, hacc, hr⟩
  have dm : Dom (Dl :: O) H' := (gm1.more hD e2 hacc).dom
  obtain ⟨w1, w2⟩ := w (Dl :: O) H' (same_out hD e2) dm
  by_cases hlt : i < xs.length
  · have hx : xs[i]? = some xs[i] := List.getElem?_eq_getElem hlt
    have hxm : xs[i] ∈ xs := List.getElem_mem hlt
    obtain ⟨go, yl⟩ := w1 i (A xs[i]) (by rw [List.getElem?_map, hx]; rfl)
    refine .inr ⟨go, Pv (i + 1), fun H'' pv => ⟨xs.length - (i + 1), by omega, rfl, hlt, pv⟩, fun x H2 hy => ?_⟩
    obtain ⟨e3, rx⟩ := yl x H2 hy
    have e13 := e2.trans e3
    have hD2 := e3 _ _ hacc rfl
    refine hg _ hxm (Dl :: O) H2 (wipeD G.De vs) (wipe σ vs) x rx ((gm1.sl.mono (same_out hD e13)).wipe vs) _ fun σ2 hs2 hl2 hc2 => ?_
    refine ⟨wipe_eq (hl2.trans (wipe_length ..)) fun j hj' => hj j (hc2 j hj'), ?_⟩
    have gt : GamE C (Dl :: O) H2 ((G.un vs).up (u xs[i])) σ2 := gm1.turn hD e13 hD2 hs2
    show tk σ2 H2 _
    refine hk _ hxm _ _ _ gt _ fun dk y H3 hdk e4 ry => ?_
    subst hdk
    refine he _ hxm _ _ _ (gt.mono e4) _ fun d z H4 hd e5 rz => ?_
    subst hd
    have hD4 := e5 _ _ (e4 _ _ hD2 rfl) rfl
    have hal : acc.length = i := by
      rw [hr.length, List.length_map, List.length_take]
      omega
    have hkl : ((xs.take i).map fk).length = acc.length := by
      rw [hal, List.length_map, List.length_take]
      omega
    refine ⟨_, .inr (fk xs[i]), rep_v.mp ry, hD4, ?_, ((e2.trans e3).trans (e4.trans e5)).chg hD hD4 rfl, acc ++ [z], ?_, ?_⟩
    · unfold zipK
      rw [List.length_zip, List.length_map, hkl, Nat.min_self, hal]
      exact Nat.lt_of_lt_of_le hlt (Nat.le_trans hlen (by decide))
    · rw [upd_same, List.take_add_one, hx, List.map_append]
      show some (HO.dK _) = some (HO.dK (zipK (_ ++ [fk xs[i]]) (acc ++ [z])))
      rw [zipK_app hkl, putK_new z]
      rw [valV_zip]
      refine dgetV_none fun hm => ?_
      obtain ⟨y', hy', e'⟩ := List.mem_map.mp hm
      obtain ⟨j, hj1, hj2⟩ := List.mem_take_iff_getElem.mp hy'
      have hjl : j < xs.length := by omega
      have e1' : (xs.map fk)[j]'(by rw [List.length_map]; exact hjl) = (xs.map fk)[i]'(by rw [List.length_map]; exact hlt) := by
        rw [List.getElem_map, List.getElem_map, hj2]
        exact e'
      exact List.pairwise_iff_getElem.mp hnd j i (by rw [List.length_map]; exact hjl) (by rw [List.length_map]; exact hlt) (by omega) e1'
    · rw [hide_mut (List.mem_cons_self ..), List.take_add_one, hx, List.map_append]
      exact (hr.mono (hide_mono ((e3.trans e4).trans e5))).append (.one (rz.mono (Sub.refl _)))
  · have ei : i = xs.length := by omega
    subst ei
    rw [List.take_length] at hr hacc
    rw [List.length_map] at w2
    exact .inl ⟨w2, q Dl acc H' (e1.free hD) (e1.trans e2) hacc (by rw [List.length_map, List.length_map]) hr⟩
/-- a, b = a new dict that is owned, a datum -/
theorem sq_parDc {tb : TE} {j : Nat} {ks : List Str} {ds : List D} {d : D} (h1 : EvDc C te G ks ds) (h2 : EvD C tb G d) (k : ∀ p, p ∉ G.keys → SD C u (((G.own p (.dic ks (ds.map .im))).set i (.ptr p)).set j (.im d)) N R) :
    SD C (tSeq (tPar i j (tCons te (tCons tb tNil))) u) G N R := fun H0 O0 H σ E g n r =>
  h1 _ H σ g.e _ fun p vs H1 np e hp hl hr => by
    have nk : p ∉ G.keys ++ O0 := g.e.dom.out np
    have nk1 : p ∉ G.keys := fun z => nk (List.mem_append_left _ z)
    have g1 := g.e.more np e hp
    refine h2 _ H1 σ g1 _ fun d' y H2 hd e2 ry => ?_
    subst hd
    refine ⟨.ref p, y, rfl, ?_⟩
    have g2 := g1.mono e2
    have hp2 := e2 _ _ hp rfl
    refine k p nk1 H0 O0 H2 _ E ⟨(g.same.trans e).trans e2, g.dom0, fun l hl => ?_, ⟨fun l hl => ?_, g2.dom, List.nodup_cons.mpr ⟨nk1, g.e.nd⟩, fun q hq => ?_, (g2.sl.set i (s := .ptr p) (o := some (.ref p)) rfl).set j (sv_im ry), g2.tb⟩⟩ (fun G' σ' H'' q g'' s' => n G' σ' H'' q g'' ((same_out np (e.trans e2)).trans s')) r
    · rcases List.mem_cons.mp (show l ∈ p :: G.keys from hl) with z | z
      · rw [z]
        exact g.same.free np
      · exact g.own l z
    · exact List.mem_append_left _ (show l ∈ p :: G.keys from hl)
    · rcases List.mem_cons.mp (show q ∈ (p, OO.dic ks (ds.map SV.im)) :: G.Om from hq) with z | z
      · rw [z]
        exact ⟨vs, hp2, by rw [hl, List.length_map], svs_im.mpr (hr.mono (hide_mono e2))⟩
      · exact g2.ok q z
theorem sq_ownDc {ks : List Str} {ds : List D} (h : EvDc C te G ks ds) (k : ∀ p, p ∉ G.keys → SD C u ((G.own p (.dic ks (ds.map .im))).set i (.ptr p)) N R) : SD C (tSeq (tAsg te (gName i)) u) G N R := fun H0 O0 H σ E g n r =>
  h _ H σ g.e _ fun p vs H' np e hp hl hr => by
    have nk : p ∉ G.keys ++ O0 := g.e.dom.out np
    have nk1 : p ∉ G.keys := fun z => nk (List.mem_append_left _ z)
    have g' := g.e.more np e hp
    refine k p nk1 H0 O0 H' _ E ⟨g.same.trans e, g.dom0, fun l hl => ?_, ⟨fun l hl => ?_, g'.dom, List.nodup_cons.mpr ⟨nk1, g.e.nd⟩, fun q hq => ?_, g'.sl.set i rfl, g'.tb⟩⟩ (fun G' σ' H'' q g'' s' => n G' σ' H'' q g'' ((same_out np e).trans s')) r
    · rcases List.mem_cons.mp (show l ∈ p :: G.keys from hl) with z | z
      · rw [z]
        exact g.same.free np
      · exact g.own l z
    · exact List.mem_append_left _ (show l ∈ p :: G.keys from hl)
    · rcases List.mem_cons.mp (show q ∈ (p, OO.dic ks (ds.map SV.im)) :: G.Om from hq) with z | z
      · rw [z]
        exact ⟨vs, hp, by rw [hl, List.length_map], svs_im.mpr hr⟩
      · exact g'.ok q z
/-- an owned dict of data is from now on a datum -/
def En.frzK (G : En) (l : Addr) (ks : List Str) (ds : List D) : En := { Om := G.Om.filter fun q => q.1 ≠ l, De := G.De.map fun s => match s with
  | .ptr m => if m = l then .im (.dic ks ds) else .ptr m
  | s => s }
theorem sd_frzK {t : TS} {l : Addr} {ks : List Str} {ds : List D} (hl : G.at l (.dic ks (ds.map .im))) (k : SD C t (G.frzK l ks ds) N R) : SD C t G N R := by
  refine sd_conv (fun H0 O0 H σ g => ?_) k
  have hk : l ∈ G.keys := List.mem_map.mpr ⟨_, hl, rfl⟩
  have kk : ∀ a, a ∈ (G.frzK l ks ds).keys → a ∈ G.keys ∧ a ≠ l := fun a ha => by
    obtain ⟨q, hq, rfl⟩ := List.mem_map.mp ha
    obtain ⟨h1, h2⟩ := List.mem_filter.mp hq
    exact ⟨List.mem_map.mpr ⟨q, h1, rfl⟩, by simpa using h2⟩
  have sk : Sub (kn G O0 H) (kn (G.frzK l ks ds) O0 H) := hide_sub fun a ha => by
    rcases List.mem_append.mp ha with z | z
    · exact List.mem_append_left _ (kk a z).1
    · exact List.mem_append_right _ z
  have nl : l ∉ (G.frzK l ks ds).keys ++ O0 := fun z => by
    rcases List.mem_append.mp z with z | z
    · exact (kk l z).2 rfl
    · exact g.dom0 l z (g.own l hk)
  obtain ⟨vs, hv, hlen, hs⟩ := g.getD hl
  have rl : Rep C (kn (G.frzK l ks ds) O0 H) (.dic ks ds) (.ref l) := rep_dic.mpr ⟨l, vs, rfl, (hide_at nl).trans hv, by rw [hlen, List.length_map], (svs_im.mp hs).mono sk⟩
  refine ⟨⟨g.same, g.dom0, fun m hm => g.own m (kk m hm).1, ⟨fun m hm => List.mem_append_left _ hm, fun m hm => ?_, ?_, fun q hq => ?_, ?_, g.e.tb⟩⟩, sk⟩
  · rcases List.mem_append.mp hm with z | z
    · exact g.e.dom m (List.mem_append_left _ (kk m z).1)
    · exact g.e.dom m (List.mem_append_right _ z)
  · show ((G.Om.filter fun q => q.1 ≠ l).map (·.1)).Nodup
    exact g.e.nd.sublist ((List.filter_sublist).map _)
  · have h1 := (List.mem_filter.mp hq).1
    exact (g.e.ok q h1).mono (Sub.refl _) sk
  · refine SVs.map (fun s o h => ?_) (g.e.sl.mono sk)
    cases s with
    | no => exact h
    | im d => exact h
    | ptr m =>
      show sv C _ (if m = l then .im (.dic ks ds) else .ptr m) o
      by_cases z : m = l
      · rw [if_pos z]
        have h : o = some (.ref m) := h
        subst z
        exact ⟨_, h, rl⟩
      · rw [if_neg z]
        exact h
end
end Wr
set_option maxHeartbeats 4000000
namespace Wr
open PySem L2
/-! ### walks of what is told by a relation -/
def EvIR (C : Cn) (wi : TI) (G : En) (P : List D → Prop) : Prop := ∀ (O : List Addr) (H : Hp) (σ : L2.St), GamE C O H G σ → ∀ R : It → Hp → Prop, (∀ J H' ds, P ds → Same H H' → WalkD C J (hide O H') ds → R J H') → wi σ H R
section
variable {C : Cn} {K : PySem.W.Frag} {G : En} {tl te ta tb : TE} {R : D → Prop} {N : En → Prop} {RS : D → En → Prop}
theorem ei_listR {P : List D → Prop} (h : EvR C tl G (fun d => ∃ ds, P ds ∧ d = .lst ds)) : EvIR C (iList K tl) G P := fun O H σ g R r => h O H σ g _ fun d v H1 e e1 hv => by
  obtain ⟨ds, hP, rfl⟩ := e
  obtain ⟨a, vs, rfl, h2, h3⟩ := rep_lst.mp hv
  refine ⟨a, rfl, ⟨vs, SqL.of (hide_le _ _ h2 rfl)⟩, r _ H1 ds hP e1 fun O' H' s' d' => ⟨fun i d hd => ?_, ?_⟩⟩
  · have ha := hide_le _ _ (s' _ _ h2 rfl) rfl
    obtain ⟨x, hx, rx⟩ := h3.get hd
    refine ⟨⟨vs, x, SqL.of ha, hx⟩, fun y H'' hy => ?_⟩
    obtain ⟨rfl, hy⟩ := hy
    have := hy vs (SqL.of ha)
    rw [hx] at this
    cases this
    exact ⟨Same.refl _, rx.mono s'⟩
  · exact ⟨vs, SqL.of (hide_le _ _ (s' _ _ h2 rfl) rfl), by rw [h3.length]; exact Nat.le_refl _⟩
theorem ei_tupR {P : List D → Prop} (h : EvR C tl G (fun d => ∃ ds, P ds ∧ d = .tup ds)) : EvIR C (iTup K tl) G P := fun O H σ g R r => h O H σ g _ fun d v H1 e e1 hv => by
  obtain ⟨ds, hP, rfl⟩ := e
  obtain ⟨a, vs, rfl, h2, h3⟩ := rep_tup.mp hv
  refine ⟨a, rfl, ⟨vs, SqT.of (hide_le _ _ h2 rfl)⟩, r _ H1 ds hP e1 fun O' H' s' d' => ⟨fun i d hd => ?_, ?_⟩⟩
  · have ha := hide_le _ _ (s' _ _ h2 rfl) rfl
    obtain ⟨x, hx, rx⟩ := h3.get hd
    refine ⟨⟨vs, x, SqT.of ha, hx⟩, fun y H'' hy => ?_⟩
    obtain ⟨rfl, hy⟩ := hy
    have := hy vs (SqT.of ha)
    rw [hx] at this
    cases this
    exact ⟨Same.refl _, rx.mono s'⟩
  · exact ⟨vs, SqT.of (hide_le _ _ (s' _ _ h2 rfl) rfl), by rw [h3.length]; exact Nat.le_refl _⟩
theorem sd_forR {α : Type} {wi : TI} {g : TG} {tb : TS} {js : List Nat} (Px : List α → Prop) (A : α → D) (w : α → List SV → List SV) (Pv : List α → Nat → En → Prop) (hi : EvIR C wi G (fun ds => ∃ xs, Px xs ∧ ds = xs.map A)) (hg : ∀ xs, Px xs → ∀ x ∈ xs, EvG C g js (A x) (w x)) (h0 : ∀ xs, Px xs → Pv xs 0 G)
    (hs : ∀ xs, Px xs → ∀ i x G', xs[i]? = some x → Pv xs i G' → SD C tb (G'.up (w x)) (Pv xs (i + 1)) RS) (hd : ∀ xs, Px xs → ∀ G', Pv xs xs.length G' → N G') : SD C (tFor wi g tb) G N RS := fun H0 O0 H σ E gm n r => by
  refine hi _ H σ gm.e _ fun J H1 ds hds e1 wk => ?_
  obtain ⟨xs, hP, rfl⟩ := hds
  have hg := hg xs hP
  have h0 := h0 xs hP
  have hs := hs xs hP
  have hd := hd xs hP
  generalize Pv xs = Pv at *
  let W : Nat → L2.St → Hp → Prop := fun i σ' H' => ∃ G', Pv i G' ∧ GamS C H0 O0 H' G' σ' ∧ Sub (kn G O0 H1) (kn G' O0 H')
  refine ⟨fun i m σ' H' => m = xs.length - i ∧ i ≤ xs.length ∧ W i σ' H', ⟨xs.length, by simp, Nat.zero_le _, G, h0, gm.mono e1, Sub.refl _⟩, ?_⟩
  rintro i m σ' H' ⟨rfl, hi', G', pv, g', s'⟩
  obtain ⟨w1, w2⟩ := wk _ H' s' g'.e.dom
  by_cases hlt : i < xs.length
  · have hx : xs[i]? = some xs[i] := List.getElem?_eq_getElem hlt
    have hxm : xs[i] ∈ xs := List.getElem_mem hlt
    obtain ⟨go, yl⟩ := w1 i (A xs[i]) (by rw [List.getElem?_map, hx]; rfl)
    refine .inr ⟨go, W (i + 1), fun σ'' H'' pv' => ⟨xs.length - (i + 1), by omega, rfl, hlt, pv'⟩, fun x H2 hy => ?_⟩
    obtain ⟨e3, rx⟩ := yl x H2 hy
    have g2 := g'.mono e3
    refine hg _ hxm _ H2 G'.De σ' x rx g2.e.sl _ fun σ2 hs2 hl2 hc2 => ?_
    have g3 : GamS C H0 O0 H2 (G'.up (w xs[i])) σ2 := ⟨g2.same, g2.dom0, g2.own, ⟨g2.e.sub, g2.e.dom, g2.e.nd, g2.e.ok, hs2, g2.e.tb⟩⟩
    have s3 : Sub (kn G' O0 H') (kn (G'.up (w xs[i])) O0 H2) := hide_mono e3
    exact hs i _ G' hx pv H0 O0 H2 σ2 _ g3 (fun G4 σ4 H4 q4 g4 s4 => ⟨G4, q4, g4, s'.trans (s3.trans s4)⟩) r
  · have ei : i = xs.length := by omega
    subst ei
    rw [List.length_map] at w2
    exact .inl ⟨w2, n G' σ' H' (hd G' pv) g' (Sub.trans (hide_mono e1) s')⟩
theorem sq_forR {α : Type} {wi : TI} {g : TG} {tb u : TS} {js : List Nat} (Px : List α → Prop) (A : α → D) (w : α → List SV → List SV) (Pv : List α → Nat → En → Prop) (hi : EvIR C wi G (fun ds => ∃ xs, Px xs ∧ ds = xs.map A)) (hg : ∀ xs, Px xs → ∀ x ∈ xs, EvG C g js (A x) (w x)) (h0 : ∀ xs, Px xs → Pv xs 0 G)
    (hs : ∀ xs, Px xs → ∀ i x G', xs[i]? = some x → Pv xs i G' → SD C tb (G'.up (w x)) (Pv xs (i + 1)) RS) (hd : ∀ xs, Px xs → ∀ G', Pv xs xs.length G' → SD C u G' N RS) : SD C (tSeq (tFor wi g tb) u) G N RS :=
  sd_seq (M := fun G' => ∃ xs, Px xs ∧ Pv xs xs.length G') (sd_forR Px A w Pv hi hg h0 hs fun xs h G' p => ⟨xs, h, p⟩) fun G' ⟨xs, h, p⟩ => hd xs h G' p
theorem ev_lcR {α : Type} {wi : TI} {g : TG} {tt : TT} {te : TE} {vs js : List Nat} {G : En} (Px : List α → Prop) (A : α → D) (p : α → Bool) (f : α → D) (u : α → List SV → List SV) (hi : EvIR C wi G (fun ds => ∃ xs, Px xs ∧ ds = xs.map A)) (hg : ∀ xs, Px xs → ∀ x ∈ xs, EvG C g js (A x) (u x)) (hlen : ∀ xs, Px xs → xs.length ≤ 100000)
    (ht : ∀ xs, Px xs → ∀ x ∈ xs, EvT C tt ((G.un vs).up (u x)) (p x)) (he : ∀ xs, Px xs → ∀ x ∈ xs, p x = true → EvD C te ((G.un vs).up (u x)) (f x)) (hj : ∀ j ∈ js, j ∈ vs := by decide) : EvR C (tLc wi g tt te vs) G (fun d => ∃ xs, Px xs ∧ d = .lst ((xs.filter p).map f)) := by
  intro O H σ gm Q q
  refine hi O H σ gm _ fun J H1 ds hds e1 w => fun Dl hD => ?_
  obtain ⟨xs, hP, rfl⟩ := hds
  have hg := hg xs hP
  have hlen := hlen xs hP
  have ht := ht xs hP
  have he := he xs hP
  have gm1 := gm.mono e1
  let Pv : Nat → Hp → Prop := fun i H' => Same H1 H' ∧ ∃ acc, H' Dl = some (.lst acc) ∧ RepL C (hide (Dl :: O) H') (((xs.take i).filter p).map f) acc
  refine ⟨fun i m H' => m = xs.length - i ∧ i ≤ xs.length ∧ Pv i H', ⟨xs.length, by simp, Nat.zero_le _, same_new hD, [], upd_same, RepL.nil⟩, ?_⟩
  rintro i m H' ⟨rfl, hi', e2, acc, hacc, hr⟩
  have dm : Dom (Dl :: O) H' := (gm1.more hD e2 hacc).dom
  obtain ⟨w1, w2⟩ := w (Dl :: O) H' (same_out hD e2) dm
  by_cases hlt : i < xs.length
  · have hx : xs[i]? = some xs[i] := List.getElem?_eq_getElem hlt
    have hxm : xs[i] ∈ xs := List.getElem_mem hlt
    obtain ⟨go, yl⟩ := w1 i (A xs[i]) (by rw [List.getElem?_map, hx]; rfl)
    refine .inr ⟨go, Pv (i + 1), fun H'' pv => ⟨xs.length - (i + 1), by omega, rfl, hlt, pv⟩, fun x H2 hy => ?_⟩
    obtain ⟨e3, rx⟩ := yl x H2 hy
    have e13 := e2.trans e3
    have hD2 : H2 Dl = some (.lst acc) := e3 _ _ hacc rfl
    refine hg _ hxm (Dl :: O) H2 (wipeD G.De vs) (wipe σ vs) x rx ((gm1.sl.mono (same_out hD e13)).wipe vs) _ fun σ2 hs2 hl2 hc2 => ?_
    refine ⟨wipe_eq (hl2.trans (wipe_length ..)) fun j hj' => hj j (hc2 j hj'), ?_⟩
    have gt : GamE C (Dl :: O) H2 ((G.un vs).up (u xs[i])) σ2 := gm1.turn hD e13 hD2 hs2
    refine ht _ hxm _ _ _ gt _ fun H3 e4 => ?_
    have e14 := e13.trans e4
    cases hp : p xs[i] with
    | true =>
      refine he _ hxm hp _ _ _ (gt.mono e4) _ fun d y H4 hd e5 ry => ?_
      subst hd
      have e15 := e14.trans e5
      have hD4 : H4 Dl = some (.lst acc) := e5 _ _ (e4 _ _ hD2 rfl) rfl
      refine ⟨acc, hD4, ?_, e15.chg hD hD4 rfl, acc ++ [y], upd_same, ?_⟩
      · have := hr.length
        have l2 : (((xs.take i).filter p).map f).length ≤ i := by
          rw [List.length_map]
          refine Nat.le_trans (List.length_filter_le ..) ?_
          rw [List.length_take]
          omega
        exact Nat.lt_of_le_of_lt (show acc.length ≤ 100000 by omega) (by decide)
      · rw [hide_mut (List.mem_cons_self ..), take_filter_map hx, if_pos hp]
        exact (hr.mono (hide_mono ((e3.trans e4).trans e5))).append (.one ry)
    | false =>
      show Pv (i + 1) H3
      refine ⟨e14, acc, e4 _ _ hD2 rfl, ?_⟩
      rw [take_filter_map hx, if_neg (by rw [hp]; decide)]
      exact hr.mono (hide_mono (e3.trans e4))
  · have ei : i = xs.length := by omega
    subst ei
    rw [List.take_length] at hr
    rw [List.length_map] at w2
    refine .inl ⟨w2, q _ _ H' ⟨xs, hP, rfl⟩ (e1.trans e2) (rep_lst.mpr ⟨Dl, acc, rfl, ?_, hr.mono (hide_sub fun a ha => List.mem_cons_of_mem _ ha)⟩)⟩
    rw [hide_at (gm1.dom.out hD)]
    exact hacc
theorem ea1R (h : EvR C te G R) : EvA C (tCons te tNil) G (fun l => ∃ d, l = [d] ∧ R d) := (ea_cons h ea_nil).imp fun l ⟨d, ds, e, r, z⟩ => ⟨d, by rw [e, z], r⟩
theorem ev_cb1R {r : List V → Hp → VK → Prop} {R' : D → Prop} (h : EvR C te G R) (hr : ∀ d, R d → CR C r [d] R') : EvR C (tCB r (tCons te tNil)) G R' := ev_cb (ea1R h) fun ds ⟨d, e, rd⟩ => e ▸ hr d rd
theorem CR.imp {r : List V → Hp → VK → Prop} {ds : List D} {R R' : D → Prop} (h : CR C r ds R) (i : ∀ d, R d → R' d) : CR C r ds R' := fun O H vs dm hv Q q => h O H vs dm hv Q fun d v H' hd => q d v H' (i d hd)
/-- a function that makes a new list, as a datum -/
theorem CF.cr {r : List V → Hp → VK → Prop} {xs ds : List D} (h : CF C r xs ds) : CR C r xs (· = .lst ds) := fun O H vs dm hv Q q => h O H vs dm hv Q fun p us H' np e hp hr =>
  q _ _ H' rfl e (rep_lst.mpr ⟨p, us, rfl, by rw [hide_at (dm.out np)]; exact hp, hr.mono (hide_sub fun a ha => List.mem_cons_of_mem _ ha)⟩)
end
end Wr
set_option maxHeartbeats 4000000
namespace Wr
open PySem L2
/-! ### defs that change a list of ints that they are handed -/
theorem hide_some {O : List Addr} {H : Hp} {a : Addr} {o : HO} (h : hide O H a = some o) : H a = some o := by
  unfold hide at h
  split at h
  · cases h
  · exact h
theorem tabS_hide {H : Hp} {l : Addr} {u : HO} (h : H l = some u) (hu : isX u = false) {P : Addr} {q : Str} (t : LamX.TabS H P q) : LamX.TabS (hide [l] H) P q := by
  obtain ⟨ps, h1, h2, h3⟩ := t
  have at_ : ∀ {a : Addr} {o : HO}, H a = some o → isX o = true → hide [l] H a = some o := fun {a o} ha hx => by
    rw [hide_at]
    · exact ha
    · intro z
      rw [List.mem_singleton.mp z, h] at ha
      cases ha
      rw [hu] at hx
      cases hx
  refine ⟨ps, at_ h1 rfl, h2, fun pos cv hc => ?_⟩
  obtain ⟨c, e1, e2⟩ := h3 pos cv hc
  exact ⟨c, e1, at_ e2 (by unfold LamX.CodeO; rfl)⟩
theorem same_hide {H : Hp} {O : List Addr} : Same (hide O H) H := .of fun a o h => hide_some h
section
variable {C : Cn} {G : En} {N : En → Prop} {R : D → En → Prop}
theorem GamS.mut {H0 H H' : Hp} {O0 : List Addr} {σ : L2.St} (g : GamS C H0 O0 H G σ) {l : Addr} {xs : List SV} {ns : List Int} (hl : G.at l (.lst xs)) (e : Same (hide [l] H) H') (hv : H' l = some (.lst (ns.map V.int))) :
    GamS C H0 O0 H' (G.put l (.lst ((dI ns).map .im))) σ ∧ Sub (kn G O0 H) (kn (G.put l (.lst ((dI ns).map .im))) O0 H') := by
  have hk : l ∈ G.keys := List.mem_map.mpr ⟨_, hl, rfl⟩
  have hin : l ∈ G.keys ++ O0 := List.mem_append_left _ hk
  obtain ⟨vs, hu, _⟩ := g.e.ok _ hl
  have one : ∀ {a : Addr} {o : HO}, H a = some o → a ≠ l → hide [l] H a = some o := fun {a o} ha ne => by
    rw [hide_at (by simpa using ne)]
    exact ha
  have kk : (G.put l (.lst ((dI ns).map .im))).keys = G.keys := put_keys ..
  have sk : Sub (kn G O0 H) (kn (G.put l (.lst ((dI ns).map .im))) O0 H') := fun a o h nt => by
    show hide ((G.put l _).keys ++ O0) H' a = some o
    rw [kk]
    have hn := hide_back h
    rw [hide_at hn]
    exact e.sub a o (one (hide_some h) fun z => hn (z ▸ hin)) nt
  refine ⟨⟨⟨fun a o h nt => ?_, fun a h => ?_, fun P t => e.tabs P (tabS_hide hu rfl (g.same.tabs P t))⟩, g.dom0, fun m hm => g.own m (by rwa [kk] at hm), ⟨fun m hm => List.mem_append_left _ hm, fun m hm => ?_, by rw [kk]; exact g.e.nd, fun q hq => ?_, g.e.sl.mono sk, e.tabs _ (tabS_hide hu rfl g.e.tb)⟩⟩, sk⟩
  · exact e.sub a o (one (g.same.sub a o h nt) fun z => by rw [z, g.own l hk] at h; cases h) nt
  · refine e.dom a ?_
    rw [hide_at]
    · exact g.same.dom a h
    · intro z
      rw [List.mem_singleton.mp z, g.own l hk] at h
      exact h rfl
  · rw [kk] at hm
    by_cases z : m = l
    · rw [z, hv]
      exact fun z => nomatch z
    · refine e.dom m ?_
      rw [hide_at (by simpa using z)]
      exact g.e.dom m hm
  · obtain ⟨q0, hq0, rfl⟩ := List.mem_map.mp hq
    by_cases z : q0.1 = l
    · rw [if_pos z]
      exact ⟨ns.map V.int, hv, svs_im.mpr (repL_flat.mpr rfl)⟩
    · rw [if_neg z]
      have old := g.e.ok q0 hq0
      cases hx : q0.2 with
      | lst xs =>
        rw [hx] at old
        obtain ⟨vs, h1, h2⟩ := old
        exact ⟨vs, e.sub _ _ (one h1 z) rfl, h2.mono sk⟩
      | dic ks xs =>
        rw [hx] at old
        obtain ⟨vs, h1, h2, h3⟩ := old
        exact ⟨vs, e.sub _ _ (one h1 z) rfl, h2, h3.mono sk⟩
end
section
variable (C : Cn)
def spM {α : Type} (AS : α → Addr → List SV) (M : α → List Int) (pre : α → Prop) (post : α → D → List Int → Prop) : Sp := fun vs H Q _ => ∃ (O : List Addr) (x : α) (l : Addr), LamX.TabS H C.tab lamQ ∧ Dom O H ∧ l ∉ O ∧ H l = some (.lst ((M x).map V.int)) ∧ SVs C (hide (l :: O) H) (AS x l) (vs.map some) ∧ pre x ∧
  ∀ d v ns H', post x d ns → Same (hide [l] H) H' → H' l = some (.lst (ns.map V.int)) → Rep C (hide (l :: O) H') d v → Q v H'
def EvM (te : TE) (G : En) (R : D → En → Prop) : Prop := ∀ (H0 : Hp) (O0 : List Addr) (H : Hp) (σ : L2.St), GamS C H0 O0 H G σ → ∀ Q : VK, (∀ d v G' H', R d G' → GamS C H0 O0 H' G' σ → Sub (kn G O0 H) (kn G' O0 H') → Rep C (kn G' O0 H') d v → Q v H') → te σ H Q
def EvSA (ta : TA) (G : En) (ss : List SV) : Prop := ∀ (O : List Addr) (H : Hp) (σ : L2.St), GamE C O H G σ → ∀ Q : List V → Hp → Prop, (∀ vs H', Same H H' → SVs C (hide O H') ss (vs.map some) → Q vs H') → ta σ H Q
end
section
variable {C : Cn} {K : PySem.W.Frag} {G : En} {N : En → Prop} {R R1 : D → En → Prop} {P : D → Prop} {α : Type} {AS : α → Addr → List SV} {M : α → List Int} {pre : α → Prop} {post : α → D → List Int → Prop} {te ta tb : TE} {t u : TS} {i : Nat}
theorem spM_len {n : Nat} (h : ∀ x l, (AS x l).length = n) : ∀ vs H Q E, spM C AS M pre post vs H Q E → vs.length = n := fun vs H Q E ⟨O, x, l, _, _, _, _, r, _⟩ => by
  have := r.length
  rw [List.length_map, h] at this
  exact this
theorem spM_run {N : List Str} (hs : ∀ x l, pre x → SD C t ⟨[(l, .lst ((dI (M x)).map .im))], AS x l ++ List.replicate (N.length - (AS x l).length) .no⟩ (fun G' => ∃ ns, post x D.n ns ∧ G'.at l (.lst ((dI ns).map .im))) (fun d G' => ∃ ns, post x d ns ∧ G'.at l (.lst ((dI ns).map .im)))) :
    ∀ vs H Q E, spM C AS M pre post vs H Q E → t { nx := fun _ H' => Q .non H', rt := Q } (start N vs) H := fun vs H Q E ⟨O, x, l, tb, dm, nl, hv, r, hp, q⟩ => by
  have hl := r.length
  rw [List.length_map] at hl
  have g : GamS C (hide [l] H) O H ⟨[(l, .lst ((dI (M x)).map .im))], AS x l ++ List.replicate (N.length - (AS x l).length) .no⟩ (start N vs) := by
    refine ⟨same_hide, fun a ha => ?_, fun m hm => ?_, ⟨fun m hm => List.mem_append_left _ hm, fun m hm => ?_, by simp [En.keys], fun p hp => ?_, ?_, tb⟩⟩
    · rw [hide_at (fun z => nl (by rw [← List.mem_singleton.mp z]; exact ha))]
      exact dm a ha
    · have : m = l := by simpa [En.keys] using hm
      rw [this]
      exact hide_in (by simp)
    · rcases List.mem_append.mp hm with z | z
      · have : m = l := by simpa [En.keys] using z
        rw [this, hv]
        exact fun z => nomatch z
      · exact dm m z
    · rw [List.mem_singleton.mp hp]
      exact ⟨(M x).map V.int, hv, svs_im.mpr (repL_flat.mpr rfl)⟩
    · show SVs C (hide (l :: O) H) (AS x l ++ List.replicate (N.length - (AS x l).length) .no) (vs.map some ++ List.replicate (N.length - vs.length) none)
      rw [hl]
      exact r.append (svs_no _ _)
  have fin : ∀ d v G' σ' H', (∃ ns, post x d ns ∧ G'.at l (.lst ((dI ns).map .im))) → GamS C (hide [l] H) O H' G' σ' → Rep C (kn G' O H') d v → Q v H' := fun d v G' σ' H' ⟨ns, hpost, hat⟩ g' rv => by
    obtain ⟨ws, h1, h2⟩ := g'.get hat
    have e := repL_flat.mp (svs_im.mp h2)
    subst e
    have hk : l ∈ G'.keys := List.mem_map.mpr ⟨_, hat, rfl⟩
    refine q d v ns H' hpost g'.same h1 (rv.mono (hide_sub fun a ha => ?_))
    rcases List.mem_cons.mp ha with z | z
    · rw [z]
      exact List.mem_append_left _ hk
    · exact List.mem_append_right _ z
  exact hs x l hp (hide [l] H) O H _ _ g (fun G' σ' H' h g' _ => fin D.n .non G' σ' H' h g' (rep_v.mpr rfl)) fun d v G' σ' H' h g' rv => fin d v G' σ' H' h g' rv
theorem es_nil : EvSA C tNil G [] := fun O H σ g Q q => q [] H (Same.refl H) rfl
theorem es_im {tr : TA} {d : D} {ss : List SV} (h : EvD C te G d) (hr : EvSA C tr G ss) : EvSA C (tCons te tr) G (.im d :: ss) := fun O H σ g Q q =>
  h O H σ g _ fun d' v H1 hd e1 hv => hr O H1 σ (g.mono e1) _ fun vs H2 e2 hs => by
    subst hd
    exact q (v :: vs) H2 (e1.trans e2) ⟨some v, _, rfl, sv_im (hv.mono (hide_mono e2)), hs⟩
theorem es_ptr {tr : TA} {l : Addr} {ss : List SV} (h : G.De[i]? = some (.ptr l)) (hr : EvSA C tr G ss) : EvSA C (tCons (tVar i) tr) G (.ptr l :: ss) := fun O H σ g Q q => by
  obtain ⟨o, h1, h2⟩ := g.sl.get h
  have h2 : o = some (.ref l) := h2
  subst h2
  exact ⟨.ref l, h1, hr O H σ g _ fun vs H2 e2 hs => q (.ref l :: vs) H2 e2 ⟨some (.ref l), _, rfl, rfl, hs⟩⟩
theorem em_of (h : EvR C te G P) : EvM C te G (fun d G' => P d ∧ G' = G) := fun H0 O0 H σ g Q q => h _ H σ g.e Q fun d v H' hd e hv => q d v G H' ⟨hd, rfl⟩ (g.mono e) (hide_mono e) hv
theorem EvM.imp {R' : D → En → Prop} (h : EvM C te G R) (i : ∀ d G', R d G' → R' d G') : EvM C te G R' := fun H0 O0 H σ g Q q => h H0 O0 H σ g Q fun d v G' H' hr => q d v G' H' (i d G' hr)
theorem em_op {r : L2.R2} {Ra : D → En → Prop} {Rb : D → D → En → Prop} (ha : EvM C ta G Ra) (hb : ∀ x G', Ra x G' → EvM C tb G' (Rb x)) (hr : ∀ x y G1 G2, Ra x G1 → Rb x y G2 → RR C r x y (fun d => R d G2)) : EvM C (tOp r ta tb) G R := fun H0 O0 H σ g Q q =>
  ha H0 O0 H σ g _ fun x a G1 H1 rx g1 s1 hx => hb x G1 rx H0 O0 H1 σ g1 _ fun y b G2 H2 ry g2 s2 hy =>
    hr x y G1 G2 rx ry _ H2 a b g2.e.dom (hx.mono s2) hy Q fun d v H3 hd e3 hv => q d v G2 H3 hd (g2.mono e3) ((s1.trans s2).trans (hide_mono e3)) hv
theorem em_cb1 {r : List V → Hp → VK → Prop} (h : EvM C te G R1) (hr : ∀ d G', R1 d G' → CR C r [d] (fun d' => R d' G')) : EvM C (tCB r (tCons te tNil)) G R := fun H0 O0 H σ g Q q =>
  h H0 O0 H σ g _ fun x a G1 H1 rx g1 s1 hx => hr x G1 rx _ H1 [a] g1.e.dom (RepL.one hx) Q fun d v H3 hd e3 hv => q d v G1 H3 hd (g1.mono e3) (s1.trans (hide_mono e3)) hv
theorem em_callM {t : TA} (x : α) {l : Addr} (ha : EvSA C t G (AS x l)) (hl : G.at l (.lst ((dI (M x)).map .im))) (hp : pre x) : EvM C (tCall (spM C AS M pre post) [] E0 t) G (fun d G' => ∃ ns, post x d ns ∧ G' = G.put l (.lst ((dI ns).map .im))) := fun H0 O0 H σ g Q q =>
  ha _ H σ g.e _ fun vs H1 e1 hs => by
    have g1 := g.mono e1
    have hk : l ∈ G.keys := List.mem_map.mpr ⟨_, hl, rfl⟩
    obtain ⟨ws, h1, h2⟩ := g1.get hl
    have e := repL_flat.mp (svs_im.mp h2)
    subst e
    have sub1 : ∀ a, a ∈ l :: (G.keys ++ O0).filter (fun a => a ≠ l) → a ∈ G.keys ++ O0 := fun a ha => by
      rcases List.mem_cons.mp ha with z | z
      · rw [z]
        exact List.mem_append_left _ hk
      · exact (List.mem_filter.mp z).1
    have sub2 : ∀ a, a ∈ G.keys ++ O0 → a ∈ l :: (G.keys ++ O0).filter (fun a => a ≠ l) := fun a ha => by
      by_cases z : a = l
      · rw [z]
        exact List.mem_cons_self ..
      · exact List.mem_cons_of_mem _ (List.mem_filter.mpr ⟨ha, by simpa using z⟩)
    rw [List.append_nil]
    refine ⟨(G.keys ++ O0).filter fun a => a ≠ l, x, l, g1.e.tb, fun a ha => g1.e.dom a (List.mem_filter.mp ha).1, fun z => by simpa using (List.mem_filter.mp z).2, h1, hs.mono (hide_sub sub1), hp, fun d v ns H' hd e2 hv rv => ?_⟩
    obtain ⟨g2, s2⟩ := g1.mut hl e2 hv
    refine q d v _ H' ⟨ns, hd, rfl⟩ g2 (Sub.trans (hide_mono e1) s2) (rv.mono ?_)
    show Sub _ (hide ((G.put l _).keys ++ O0) H')
    rw [put_keys]
    exact hide_sub sub2
theorem sd_retM (h : EvM C te G R) : SD C (tRet te) G N R := fun H0 O0 H σ E g n r => h H0 O0 H σ g _ fun d v G' H' hd g' s hv => r d v G' σ H' hd g' hv
theorem sd_asgM (h : EvM C te G R1) (k : ∀ d G', R1 d G' → N (G'.set i (.im d))) : SD C (tAsg te (gName i)) G N R := fun H0 O0 H σ E g n r => h H0 O0 H σ g _ fun d v G' H' hd g' s hv => n _ _ H' (k d G' hd) (g'.set (sv_im hv)) s
theorem sq_asgM (h : EvM C te G R1) (k : ∀ d G', R1 d G' → SD C u (G'.set i (.im d)) N R) : SD C (tSeq (tAsg te (gName i)) u) G N R := sd_seq (M := fun G' => ∃ d G1, R1 d G1 ∧ G' = G1.set i (.im d)) (sd_asgM h fun d G' hd => ⟨d, G', hd, rfl⟩) fun G' ⟨d, G1, hd, e⟩ => e ▸ k d G1 hd
/-- a flat value that is told with a change stands first -/
theorem sd_hoist (F : TE → TS) (hF : ∀ te E σ H, F te E σ H = te σ H (fun v H1 => F (tC v) E σ H1)) {RV : V → En → Prop} (h : EvM C te G (fun d G' => ∃ x, d = .v x ∧ RV x G')) (k : ∀ x G', RV x G' → SD C (F (tC x)) G' N R) : SD C (F te) G N R := fun H0 O0 H σ E g n r => by
  rw [hF]
  refine h H0 O0 H σ g _ fun d v G' H' hd g' s hv => ?_
  obtain ⟨x, rfl, hx⟩ := hd
  rw [rep_v.mp hv]
  exact k x G' hx H0 O0 H' σ E g' (fun G2 σ2 H2 q g2 s2 => n G2 σ2 H2 q g2 (s.trans s2)) r
theorem sd_orF {tt tu : TT} (h : EvT C tt G false) (k : SD C (tIfS tu t u) G N R) : SD C (tIfS (tOr tt tu) t u) G N R := fun H0 O0 H σ E g n r =>
  h _ H σ g.e _ fun H' e => k H0 O0 H' σ E (g.mono e) (fun G' σ' H'' q g' s' => n G' σ' H'' q g' (Sub.trans (hide_mono e) s')) r
theorem sd_andT {tt tu : TT} (h : EvT C tt G true) (k : SD C (tIfS tu t u) G N R) : SD C (tIfS (tAnd tt tu) t u) G N R := fun H0 O0 H σ E g n r =>
  h _ H σ g.e _ fun H' e => k H0 O0 H' σ E (g.mono e) (fun G' σ' H'' q g' s' => n G' σ' H'' q g' (Sub.trans (hide_mono e) s')) r
/-- xs.append(e), e with a change -/
theorem sd_appM {l : Addr} {xs : List SV} (hi : G.De[i]? = some (.ptr l)) (hl : G.at l (.lst xs)) (h : EvM C te G R1) (hz : xs.length < 100000) (ha : ∀ d G', R1 d G' → G'.at l (.lst xs)) (k : ∀ d G', R1 d G' → N (G'.put l (.lst (xs ++ [.im d])))) :
    SD C (tDrop (tBM K "list" rAppend (tVar i) (tCons te tNil))) G N R := fun H0 O0 H σ E g n r => by
  obtain ⟨o, h1, h2⟩ := g.e.sl.get hi
  have h2 : o = some (.ref l) := h2
  subst h2
  obtain ⟨vs, hv, hs⟩ := g.get hl
  refine ⟨.ref l, h1, .inl ⟨rfl, vs, SqL.of hv⟩, ?_⟩
  refine h H0 O0 H σ g _ fun d v G' H' hd g' s rv => ?_
  obtain ⟨vs', hv', hs'⟩ := g'.get (ha d G' hd)
  obtain ⟨g2, ek⟩ := g'.put (y := .lst (xs ++ [.im d])) (ha d G' hd) rfl ⟨vs' ++ [v], upd_same, by
    rw [List.map_append]
    exact hs'.append ⟨some v, [], rfl, sv_im rv, rfl⟩⟩
  refine ⟨l, vs', v, rfl, rfl, hv', Nat.lt_of_lt_of_le (by rw [hs'.mlen]; exact hz) (by decide), n _ σ _ (k d G' hd) g2 ?_⟩
  rw [ek]
  exact s
/-- ns.remove(k), k there -/
theorem sd_rem {l : Addr} {ns : List Int} {k : Int} (hi : G.De[i]? = some (.ptr l)) (hl : G.at l (.lst ((dI ns).map .im))) (h : EvD C te G (.i k)) (hk : k ∈ ns) (kk : N (G.put l (.lst ((dI (ns.erase k)).map .im)))) : SD C (tDrop (tRemX K (fun _ _ _ _ => False) (tVar i) te)) G N R := fun H0 O0 H σ E g n r => by
  obtain ⟨o, h1, h2⟩ := g.e.sl.get hi
  have h2 : o = some (.ref l) := h2
  subst h2
  obtain ⟨vs, hv, hs⟩ := g.get hl
  have e := repL_flat.mp (svs_im.mp hs)
  subst e
  refine ⟨.ref l, h1, .inl ⟨rfl, _, SqL.of hv⟩, ?_⟩
  refine h _ H σ g.e _ fun d v H' hd e rv => ?_
  subst hd
  have hv' := e _ _ hv rfl
  obtain ⟨g2, ek⟩ := (g.mono e).put (y := .lst ((dI (ns.erase k)).map .im)) (o := .lst ((ns.erase k).map V.int)) hl rfl ⟨(ns.erase k).map V.int, upd_same, svs_im.mpr (repL_flat.mpr rfl)⟩
  refine ⟨l, ns, k, rfl, rep_v.mp rv, hv', fun _ => n _ σ _ kk g2 ?_, fun z => absurd hk z⟩
  rw [ek]
  exact hide_mono e
end
/-- a def of the module with any promise -/
theorem fn_hasS {P : Program} {w : World} {K : PySem.W.Frag} {mg : Str → Option Value} {base : Heap} {C : Cn} (T : Tx K mg C.cls) (i : Nat) {d : He.DefD} (hi : fn[i]? = some d) (hn : d.at_.2 = none) {N ps : List Str} {k : Nat} {sp : Sp}
    (S : FnScope N ps d.scope) (h1 : d.dfl = []) (h2 : d.kwd = [])
    (bnd : ∀ (kV doc pm : Value) (an : Option Addr) (cdv ct : Value) (us : List Value), us.length = ps.length → bindArgs (PySem.W.fnOf d.name d.qual d.params d.body d.scope .none kV doc pm an cdv ct) ⟨us, []⟩ = pure (ps.zip us)) (len : ∀ vs H Q E, sp vs H Q E → vs.length = ps.length)
    (body : ∀ (cdv : Value) (A' : Around) (outer : List Env) (s : Shared) (H : Hp) (E : XK), Room k (A'.deeper (PyProof.Rows.envOfC d.qual d.scope s.heap.objs.size (He.fAd K d.at_) cdv)) →
      ∃ t, PSs (cxOf CX0 P w K mg base N d.qual d.scope (He.fAd K d.at_) cdv A' outer s H E).nox d.body t ∧ ∀ vs Q E', sp vs H Q E' → t { nx := fun _ H' => Q .non H', rt := Q } (start N vs) H) :
    Has P w K mg base (k + 1) d.at_.1 ps sp := by
  obtain ⟨fd, F⟩ := T.fns i d hi
  have e1 : d.dvs K = [] := by
    unfold He.DefD.dvs
    rw [h1]
    rfl
  have e2 : d.kws K = [] := by
    unfold He.DefD.kws
    rw [h2]
    rfl
  rw [e1, e2] at F
  refine ⟨_, fd, F.ok S len (fun cdv A' outer s H vs Q E hr h => ?_), T.glo i d hi hn, F.kp, F.bindsN bnd⟩
  obtain ⟨t, ht, q⟩ := body cdv A' outer s H E hr
  exact ⟨t, ht.nox, q vs Q E h⟩
end Wr
set_option maxHeartbeats 4000000
namespace Wr
open PySem L2
abbrev N_is_integer : List PySem.Str := ["value"]
theorem sc_is_integer : FnScope N_is_integer ["value"] (defScope s_is_integer) := ⟨rfl, rfl, rfl, by decide +kernel, rfl, by decide +kernel, by decide +kernel⟩
def sp_is_integer (C : Cn) : Sp := spT C (fun n : Int => [D.i n]) (fun _ => True) (fun _ d => d = .b true)
theorem has_is_integer {P : Program} {w : World} {K : PySem.W.Frag} {mg : PySem.Str → Option Value} {base : Heap} {C : Cn} (T : Tx K mg C.cls) : Has P w K mg base 1 "is_integer" ["value"] (sp_is_integer C) := by
  refine fn_has T 0 (d := d_is_integer) rfl rfl (N := N_is_integer) sc_is_integer rfl rfl (fun _ _ _ _ _ _ us hl => match us, hl with | [_], _ => rfl) (fun _ => rfl) (fun cdv A' outer s H E hr => ⟨_, (pss_one (ps_ret (pe_and (pe_callB call_isi (by rfl) T.xisinstance bt_isinstance (pa_cons (pv 0) (pa_cons (pe_bltn (v := .ty "int") (by rfl) T.xint bt_int rfl) pa_nil))) (pe_one (pe_not (pe_callB call_isi (by rfl) T.xisinstance bt_isinstance (pa_cons (pv 0) (pa_cons (pe_bltn (v := .ty "bool") (by rfl) T.xbool bt_bool rfl) pa_nil)))))))), fun x hx => ?_⟩)
  exact sd_ret (ev_andV (ev_cbD (ea2 (ev_v rfl) ev_c) (cr_isiI (b := true) (by decide +kernel))) fun _ => ev_notV (ev_cbD (ea2 (ev_v rfl) ev_c) (cr_isiI (b := false) (by decide +kernel)))) rfl
abbrev N_is_between : List PySem.Str := ["value", "least", "most"]
theorem sc_is_between : FnScope N_is_between ["value", "least", "most"] (defScope s_is_between) := ⟨rfl, rfl, rfl, by decide +kernel, rfl, by decide +kernel, by decide +kernel⟩
def sp_is_between (C : Cn) : Sp := spT C (fun x : Int × Int × Int => [D.i x.1, D.i x.2.1, D.i x.2.2]) (fun _ => True) (fun x d => d = .b (decide (x.2.1 ≤ x.1) && decide (x.1 ≤ x.2.2)))
theorem has_is_between {P : Program} {w : World} {K : PySem.W.Frag} {mg : PySem.Str → Option Value} {base : Heap} {C : Cn} (T : Tx K mg C.cls) : Has P w K mg base 2 "is_between" ["value", "least", "most"] (sp_is_between C) := by
  refine fn_has T 1 (d := d_is_between) rfl rfl (N := N_is_between) sc_is_between rfl rfl (fun _ _ _ _ _ _ us hl => match us, hl with | [_, _, _], _ => rfl) (fun _ => rfl) (fun cdv A' outer s H E hr => ⟨_, (pss_one (ps_ret (pe_and (pe_has (has_is_integer T) (hr.mono (by decide)) (by rfl) (pa_cons (pv 0) pa_nil)) (pe_one (pe_chain op_le op_le (pv 1) (pv 0) (pv 2)))))), fun x hx => ?_⟩)
  exact sd_ret (ev_andV (ev_callD x.1 (ea1 (ev_v rfl)) trivial fun _ h => h) fun _ => ev_chain (ev_v rfl) (ev_v rfl) (fun _ => ev_v rfl) (fun H Q q => ⟨_, _, rfl, rfl, q⟩) (fun H Q q => ⟨_, _, rfl, rfl, q⟩)) rfl
abbrev N_common_divisor : List PySem.Str := ["one", "other"]
theorem sc_common_divisor : FnScope N_common_divisor ["one", "other"] (defScope s_common_divisor) := ⟨rfl, rfl, rfl, by decide +kernel, rfl, by decide +kernel, by decide +kernel⟩
def sp_common_divisor (C : Cn) : Sp := spT C (fun x : Int × Int => [D.i x.1, D.i x.2]) (fun _ => True) (fun x d => d = .i (Int.gcd x.1 x.2))
theorem abs_if (n : Int) : (if n < 0 then -n else n) = (n.natAbs : Int) := by
  split <;> omega
theorem has_common_divisor {P : Program} {w : World} {K : PySem.W.Frag} {mg : PySem.Str → Option Value} {base : Heap} {C : Cn} (T : Tx K mg C.cls) : Has P w K mg base 1 "common_divisor" ["one", "other"] (sp_common_divisor C) := by
  refine fn_has T 3 (d := d_common_divisor) rfl rfl (N := N_common_divisor) sc_common_divisor rfl rfl (fun _ _ _ _ _ _ us hl => match us, hl with | [_, _], _ => rfl) (fun _ => rfl) (fun cdv A' outer s H E hr => ⟨_, (pss_cons (ps_par (i := 0) (j := 1) rfl sc_common_divisor.nd rfl rfl (by decide) rfl rfl (pa_cons (pe_callB call_abs (by rfl) T.xabs bt_abs (pa_cons (pv 0) pa_nil)) (pa_cons (pe_callB call_abs (by rfl) T.xabs bt_abs (pa_cons (pv 1) pa_nil)) pa_nil)) (by rfl))
      (pss_cons (ps_while PassesOwn.never (pt_cmpR op_ne (pv 1) pe_int (nomark _)) (pss_one (ps_par (i := 0) (j := 1) rfl sc_common_divisor.nd rfl rfl (by decide) rfl rfl (pa_cons (pv 1) (pa_cons (pe_op op_mod (pv 0) (pv 1)) pa_nil)) (by rfl))))
      (pss_one (ps_ret (pv 0))))), fun x hx => ?_⟩)
  show SD C _ ⟨[], [.im (.i x.1), .im (.i x.2)]⟩ _ _
  refine sq_par (d := .i (x.1.natAbs : Int)) (e := .i (x.2.natAbs : Int)) (ea2 (ev_cbD (ea1 (ev_v rfl)) (cr1 fun H Q q => ⟨_, rfl, by rw [abs_if]; exact q⟩)) (ev_cbD (ea1 (ev_v rfl)) (cr1 fun H Q q => ⟨_, rfl, by rw [abs_if]; exact q⟩))) ?_
  refine sq_while (M := fun G => G = ⟨[], [.im (.i (Int.gcd x.1 x.2)), .im (.i 0)]⟩) (fun m G => ∃ a b : Nat, G = ⟨[], [.im (.i a), .im (.i b)]⟩ ∧ Nat.gcd a b = Int.gcd x.1 x.2 ∧ m = b) _ ⟨x.1.natAbs, x.2.natAbs, rfl, rfl, rfl⟩ ?_ ?_
  · rintro m G ⟨a, b, rfl, hg, rfl⟩
    refine ⟨!decide ((m : Int) = 0), et_test (ev_opD (ev_v rfl) ev_c rr_neI), fun h => ?_, fun h => ?_⟩
    · have hb : 0 < m := by
        have : ¬ (m : Int) = 0 := by simpa using h
        omega
      refine sd_par (d := .i (m : Nat)) (e := .i ((a % m : Nat) : Int)) (ea2 (ev_v rfl) (ev_opD (ev_v rfl) (ev_v rfl) (rr_mod (by omega)))) ?_
      refine ⟨a % m, Nat.mod_lt _ hb, m, a % m, rfl, ?_, rfl⟩
      rw [Nat.gcd_comm, ← Nat.gcd_rec, Nat.gcd_comm]
      exact hg
    · have hb : m = 0 := by
        have : (m : Int) = 0 := by simpa using h
        omega
      subst hb
      rw [← hg, Nat.gcd_zero_right]
      rfl
  · rintro G rfl
    exact sd_ret (ev_v rfl) rfl
end Wr
set_option maxHeartbeats 4000000
namespace Wr
open PySem L2
/-! ### small ints, fractions -/
def Sm (k : Nat) (n : Int) : Prop := n.natAbs < 2 ^ k
theorem Sm.mul {a b : Nat} {x y : Int} (h : Sm a x) (h' : Sm b y) : Sm (a + b) (x * y) := by
  unfold Sm at *
  rw [Int.natAbs_mul, Nat.pow_add]
  exact Nat.mul_lt_mul'' h h'
theorem Sm.sub {k : Nat} {x y : Int} (h : Sm k x) (h' : Sm k y) : Sm (k + 1) (x - y) := by
  unfold Sm at *
  rw [Nat.pow_succ]
  omega
theorem Sm.mono {k j : Nat} {x : Int} (h : Sm k x) (l : k ≤ j) : Sm j x := Nat.lt_of_lt_of_le h (Nat.pow_le_pow_right (by decide) l)
theorem lg_lt {n k : Nat} (h : n < 2 ^ k) (hk : 0 < k) : n.log2 < k := by
  by_cases z : n = 0
  · subst z
    simpa using hk
  · exact (Nat.log2_lt z).mpr h
theorem Sm.cmul {k j : Nat} {x y : Int} (h : Sm k x) (h' : Sm j y) (l : k + j ≤ 900000) : CMulW x y := by
  have h1 := lg_lt (k := k + 1) (Nat.lt_of_lt_of_le h (Nat.pow_le_pow_right (by decide) (Nat.le_succ k))) (Nat.succ_pos k)
  have h2 := lg_lt (k := j + 1) (Nat.lt_of_lt_of_le h' (Nat.pow_le_pow_right (by decide) (Nat.le_succ j))) (Nat.succ_pos j)
  unfold CMulW
  omega
abbrev Fr := Int × Int
def dF (x : Fr) : D := .tup [D.i x.1, D.i x.2]
def FOk (k : Nat) (x : Fr) : Prop := 0 < x.2 ∧ Sm k x.1 ∧ Sm k x.2
theorem FOk.mono {k j : Nat} {x : Fr} (h : FOk k x) (l : k ≤ j) : FOk j x := ⟨h.1, h.2.1.mono l, h.2.2.mono l⟩
def fcom (t b : Int) : Int := (Int.gcd t b : Int) * (if 0 < b then 1 else -1)
def frac (t b : Int) : Fr := (t.fdiv (fcom t b), b.fdiv (fcom t b))
theorem fcom_ne {t b : Int} (h : b ≠ 0) : fcom t b ≠ 0 := by
  have g : 0 < Int.gcd t b := Int.gcd_pos_of_ne_zero_right _ h
  unfold fcom
  split <;> omega
theorem fcom_dvdT {t b : Int} : fcom t b ∣ t := by
  unfold fcom
  split
  · rw [Int.mul_one]; exact Int.gcd_dvd_left ..
  · rw [Int.mul_neg, Int.mul_one, Int.neg_dvd]; exact Int.gcd_dvd_left ..
theorem fcom_dvdB {t b : Int} : fcom t b ∣ b := by
  unfold fcom
  split
  · rw [Int.mul_one]; exact Int.gcd_dvd_right ..
  · rw [Int.mul_neg, Int.mul_one, Int.neg_dvd]; exact Int.gcd_dvd_right ..
theorem fcom_sm {t b : Int} {k : Nat} (h : b ≠ 0) (s : Sm k b) : Sm k (fcom t b) :=
  Nat.lt_of_le_of_lt (Nat.le_of_dvd (by omega) (Int.natAbs_dvd_natAbs.mpr fcom_dvdB)) s
theorem frac_top {t b : Int} : (frac t b).1 * fcom t b = t := Int.fdiv_mul_cancel fcom_dvdT
theorem frac_bot {t b : Int} : (frac t b).2 * fcom t b = b := Int.fdiv_mul_cancel fcom_dvdB
theorem frac_pos {t b : Int} (h : b ≠ 0) : 0 < (frac t b).2 := by
  have e := frac_bot (t := t) (b := b)
  have g : 0 < (Int.gcd t b : Int) := by
    have : 0 < Int.gcd t b := Int.gcd_pos_of_ne_zero_right _ h
    omega
  unfold fcom at e
  refine Int.not_le.mp fun n => ?_
  split at e
  · rename_i hb
    rw [Int.mul_one] at e
    have := Int.mul_nonneg (Int.neg_nonneg_of_nonpos n) (Int.le_of_lt g)
    rw [Int.neg_mul] at this
    omega
  · rename_i hb
    simp only [Int.mul_neg, Int.mul_one] at e
    have := Int.mul_nonneg (Int.neg_nonneg_of_nonpos n) (Int.le_of_lt g)
    rw [Int.neg_mul] at this
    omega
theorem sm_div {k : Nat} {x y c : Int} (h : x * c = y) (hc : c ≠ 0) (s : Sm k y) : Sm k x := by
  unfold Sm at *
  rw [← h, Int.natAbs_mul] at s
  exact Nat.lt_of_le_of_lt (Nat.le_mul_of_pos_right _ (by omega)) s
theorem frac_ok {t b : Int} {k : Nat} (h : b ≠ 0) (s : Sm k t) (s' : Sm k b) : FOk k (frac t b) := ⟨frac_pos h, sm_div frac_top (fcom_ne h) s, sm_div frac_bot (fcom_ne h) s'⟩
theorem frac_val {t b : Int} (h : b ≠ 0) : (frac t b).1 * b = t * (frac t b).2 := by
  have e1 := frac_top (t := t) (b := b)
  have e2 := frac_bot (t := t) (b := b)
  have hc := fcom_ne (t := t) h
  refine Int.eq_of_mul_eq_mul_right hc ?_
  calc (frac t b).1 * b * fcom t b = ((frac t b).1 * fcom t b) * b := by rw [Int.mul_right_comm]
    _ = t * b := by rw [e1]
    _ = t * ((frac t b).2 * fcom t b) := by rw [e2]
    _ = t * (frac t b).2 * fcom t b := by rw [Int.mul_assoc]
def fsub (x y : Fr) : Fr := frac (x.1 * y.2 - y.1 * x.2) (x.2 * y.2)
def fmul (x y : Fr) : Fr := frac (x.1 * y.1) (x.2 * y.2)
def fshr (x y : Fr) : Fr := frac (x.1 * y.2) (x.2 * y.1)
theorem pos_ne {a b : Int} (h : 0 < a) (h' : 0 < b) : a * b ≠ 0 := Int.ne_of_gt (Int.mul_pos h h')
theorem fmul_ok {j k : Nat} {x y : Fr} (h : FOk j x) (h' : FOk k y) : FOk (j + k) (fmul x y) := frac_ok (pos_ne h.1 h'.1) (h.2.1.mul h'.2.1) (h.2.2.mul h'.2.2)
theorem fsub_ok {j k : Nat} {x y : Fr} (h : FOk j x) (h' : FOk k y) : FOk (j + k + 1) (fsub x y) := frac_ok (pos_ne h.1 h'.1) ((h.2.1.mul h'.2.2).sub (Nat.add_comm k j ▸ h'.2.1.mul h.2.2)) ((h.2.2.mul h'.2.2).mono (Nat.le_succ _))
theorem fshr_ok {j k : Nat} {x y : Fr} (h : FOk j x) (h' : FOk k y) (n : y.1 ≠ 0) : FOk (j + k) (fshr x y) := frac_ok (Int.mul_ne_zero (Int.ne_of_gt h.1) n) (h.2.1.mul h'.2.2) (h.2.2.mul h'.2.1)
section
variable {C : Cn} {K : PySem.W.Frag} {G : En} {te : TE} {x : Fr}
theorem ev_f0 (h : EvD C te G (dF x)) : EvD C (tOp (rIxT K) te (tC (.int 0))) G (.i x.1) := ev_opD h ev_c (rr_ixT rfl rfl)
theorem ev_f1 (h : EvD C te G (dF x)) : EvD C (tOp (rIxT K) te (tC (.int 1))) G (.i x.2) := ev_opD h ev_c (rr_ixT rfl rfl)
end
abbrev N_fraction : List PySem.Str := ["top", "bottom", "common"]
theorem sc_fraction : FnScope N_fraction ["top", "bottom"] (defScope s_fraction) := ⟨rfl, rfl, rfl, by decide +kernel, rfl, by decide +kernel, by decide +kernel⟩
def sp_fraction (C : Cn) : Sp := spT C (fun x : Int × Int => [D.i x.1, D.i x.2]) (fun x => x.2 ≠ 0 ∧ Sm 8000 x.2) (fun x d => d = dF (frac x.1 x.2))
theorem has_fraction {P : Program} {w : World} {K : PySem.W.Frag} {mg : PySem.Str → Option Value} {base : Heap} {C : Cn} (T : Tx K mg C.cls) : Has P w K mg base 2 "fraction" ["top", "bottom"] (sp_fraction C) := by
  refine fn_has T 4 (d := d_fraction) rfl rfl (N := N_fraction) sc_fraction rfl rfl (fun _ _ _ _ _ _ us hl => match us, hl with | [_, _], _ => rfl) (fun _ => rfl) (fun cdv A' outer s H E hr => ⟨_, (pss_cons (ps_set (i := 2) sc_fraction.nd rfl (.inl rfl) (pe_op op_mulW (pe_has (has_common_divisor T) (hr.mono (by decide)) (by rfl) (pa_cons (pv 0) (pa_cons (pv 1) pa_nil))) (pe_ifExp (pt_cmpR op_gt (pv 1) pe_int (nomark _)) pe_int (pe_un un_neg pe_int))))
      (pss_one (ps_ret (pe_tup (pa_cons (pe_op op_fdivWN (pv 0) (pv 2)) (pa_cons (pe_op op_fdivWN (pv 1) (pv 2)) pa_nil)))))), fun x hx => ?_⟩)
  show SD C _ ⟨[], [.im (.i x.1), .im (.i x.2), .no]⟩ _ _
  refine sq_asg (d := .i (fcom x.1 x.2)) (ev_opD (y := .i (if 0 < x.2 then 1 else -1)) (ev_callD (R := (· = .i (Int.gcd x.1 x.2))) (x.1, x.2) (ea2 (ev_v rfl) (ev_v rfl)) trivial fun _ h => h) ?_ (rr_mulW ?_)) ?_
  · refine ev_if (et_test (ev_opD (ev_v rfl) ev_c rr_gt)) (fun h => ?_) (fun h => ?_)
    · rw [if_pos (of_decide_eq_true h)]
      exact ev_c
    · rw [if_neg (of_decide_eq_false h)]
      exact ev_neg ev_c
  · have g : Sm 8000 (Int.gcd x.1 x.2 : Int) := Nat.lt_of_le_of_lt (Nat.le_of_dvd (by have := hx.1; omega) (Int.natAbs_dvd_natAbs.mpr (Int.gcd_dvd_right ..))) hx.2
    refine g.cmul (j := 1) ?_ (by decide)
    split <;> (show _ < 2 ^ 1) <;> decide
  · have c : CDivWN x.1 (fcom x.1 x.2) := ⟨fcom_ne hx.1, lg_lt (Nat.lt_trans (fcom_sm hx.1 hx.2) (Nat.pow_lt_pow_right (by decide) (by decide))) (by decide)⟩
    exact sd_ret (ev_tupD (ea2 (ev_opD (ev_v rfl) (ev_v rfl) (rr_fdiv c)) (ev_opD (ev_v rfl) (ev_v rfl) (rr_fdiv c)))) rfl
abbrev N_minus : List PySem.Str := ["one", "other"]
theorem sc_minus : FnScope N_minus ["one", "other"] (defScope s_minus) := ⟨rfl, rfl, rfl, by decide +kernel, rfl, by decide +kernel, by decide +kernel⟩
def sp_minus (C : Cn) : Sp := spT C (fun x : Fr × Fr => [dF x.1, dF x.2]) (fun x => FOk 4000 x.1 ∧ FOk 4000 x.2) (fun x d => d = dF (fsub x.1 x.2))
theorem has_minus {P : Program} {w : World} {K : PySem.W.Frag} {mg : PySem.Str → Option Value} {base : Heap} {C : Cn} (T : Tx K mg C.cls) : Has P w K mg base 3 "minus" ["one", "other"] (sp_minus C) := by
  refine fn_has T 5 (d := d_minus) rfl rfl (N := N_minus) sc_minus rfl rfl (fun _ _ _ _ _ _ us hl => match us, hl with | [_, _], _ => rfl) (fun _ => rfl) (fun cdv A' outer s H E hr => ⟨_, (pss_one (ps_ret (pe_has (has_fraction T) (hr.mono (by decide)) (by rfl) (pa_cons (pe_op op_sub (pe_op op_mulW (pe_ix (k_ix_tup (K := K) rfl) (pv 0) pe_int (fun _ _ => rfl)) (pe_ix (k_ix_tup (K := K) rfl) (pv 1) pe_int (fun _ _ => rfl))) (pe_op op_mulW (pe_ix (k_ix_tup (K := K) rfl) (pv 1) pe_int (fun _ _ => rfl)) (pe_ix (k_ix_tup (K := K) rfl) (pv 0) pe_int (fun _ _ => rfl)))) (pa_cons (pe_op op_mulW (pe_ix (k_ix_tup (K := K) rfl) (pv 0) pe_int (fun _ _ => rfl)) (pe_ix (k_ix_tup (K := K) rfl) (pv 1) pe_int (fun _ _ => rfl))) pa_nil))))), fun x hx => ?_⟩)
  have h1 := hx.1
  have h2 := hx.2
  refine sd_retR (P := (· = dF (fsub x.1 x.2))) (ev_callD (_, _) (ea2 (ev_sub (ev_opD (ev_f0 (ev_v rfl)) (ev_f1 (ev_v rfl)) (rr_mulW (h1.2.1.cmul h2.2.2 (by decide)))) (ev_opD (ev_f0 (ev_v rfl)) (ev_f1 (ev_v rfl)) (rr_mulW (h2.2.1.cmul h1.2.2 (by decide))))) (ev_opD (ev_f1 (ev_v rfl)) (ev_f1 (ev_v rfl)) (rr_mulW (h1.2.2.cmul h2.2.2 (by decide))))) ⟨pos_ne h1.1 h2.1, h1.2.2.mul h2.2.2⟩ fun _ h => h) fun _ h => h
abbrev N_times : List PySem.Str := ["one", "other"]
theorem sc_times : FnScope N_times ["one", "other"] (defScope s_times) := ⟨rfl, rfl, rfl, by decide +kernel, rfl, by decide +kernel, by decide +kernel⟩
def sp_times (C : Cn) : Sp := spT C (fun x : Fr × Fr => [dF x.1, dF x.2]) (fun x => FOk 4000 x.1 ∧ FOk 4000 x.2) (fun x d => d = dF (fmul x.1 x.2))
theorem has_times {P : Program} {w : World} {K : PySem.W.Frag} {mg : PySem.Str → Option Value} {base : Heap} {C : Cn} (T : Tx K mg C.cls) : Has P w K mg base 3 "times" ["one", "other"] (sp_times C) := by
  refine fn_has T 6 (d := d_times) rfl rfl (N := N_times) sc_times rfl rfl (fun _ _ _ _ _ _ us hl => match us, hl with | [_, _], _ => rfl) (fun _ => rfl) (fun cdv A' outer s H E hr => ⟨_, (pss_one (ps_ret (pe_has (has_fraction T) (hr.mono (by decide)) (by rfl) (pa_cons (pe_op op_mulW (pe_ix (k_ix_tup (K := K) rfl) (pv 0) pe_int (fun _ _ => rfl)) (pe_ix (k_ix_tup (K := K) rfl) (pv 1) pe_int (fun _ _ => rfl))) (pa_cons (pe_op op_mulW (pe_ix (k_ix_tup (K := K) rfl) (pv 0) pe_int (fun _ _ => rfl)) (pe_ix (k_ix_tup (K := K) rfl) (pv 1) pe_int (fun _ _ => rfl))) pa_nil))))), fun x hx => ?_⟩)
  have h1 := hx.1
  have h2 := hx.2
  refine sd_retR (P := (· = dF (fmul x.1 x.2))) (ev_callD (_, _) (ea2 (ev_opD (ev_f0 (ev_v rfl)) (ev_f0 (ev_v rfl)) (rr_mulW (h1.2.1.cmul h2.2.1 (by decide)))) (ev_opD (ev_f1 (ev_v rfl)) (ev_f1 (ev_v rfl)) (rr_mulW (h1.2.2.cmul h2.2.2 (by decide))))) ⟨pos_ne h1.1 h2.1, h1.2.2.mul h2.2.2⟩ fun _ h => h) fun _ h => h
abbrev N_shared_out : List PySem.Str := ["one", "other"]
theorem sc_shared_out : FnScope N_shared_out ["one", "other"] (defScope s_shared_out) := ⟨rfl, rfl, rfl, by decide +kernel, rfl, by decide +kernel, by decide +kernel⟩
def sp_shared_out (C : Cn) : Sp := spT C (fun x : Fr × Fr => [dF x.1, dF x.2]) (fun x => FOk 4000 x.1 ∧ FOk 4000 x.2 ∧ x.2.1 ≠ 0) (fun x d => d = dF (fshr x.1 x.2))
theorem has_shared_out {P : Program} {w : World} {K : PySem.W.Frag} {mg : PySem.Str → Option Value} {base : Heap} {C : Cn} (T : Tx K mg C.cls) : Has P w K mg base 3 "shared_out" ["one", "other"] (sp_shared_out C) := by
  refine fn_has T 66 (d := d_shared_out) rfl rfl (N := N_shared_out) sc_shared_out rfl rfl (fun _ _ _ _ _ _ us hl => match us, hl with | [_, _], _ => rfl) (fun _ => rfl) (fun cdv A' outer s H E hr => ⟨_, (pss_one (ps_ret (pe_has (has_fraction T) (hr.mono (by decide)) (by rfl) (pa_cons (pe_op op_mulW (pe_ix (k_ix_tup (K := K) rfl) (pv 0) pe_int (fun _ _ => rfl)) (pe_ix (k_ix_tup (K := K) rfl) (pv 1) pe_int (fun _ _ => rfl))) (pa_cons (pe_op op_mulW (pe_ix (k_ix_tup (K := K) rfl) (pv 0) pe_int (fun _ _ => rfl)) (pe_ix (k_ix_tup (K := K) rfl) (pv 1) pe_int (fun _ _ => rfl))) pa_nil))))), fun x hx => ?_⟩)
  have h1 := hx.1
  have h2 := hx.2.1
  refine sd_retR (P := (· = dF (fshr x.1 x.2))) (ev_callD (_, _) (ea2 (ev_opD (ev_f0 (ev_v rfl)) (ev_f1 (ev_v rfl)) (rr_mulW (h1.2.1.cmul h2.2.2 (by decide)))) (ev_opD (ev_f1 (ev_v rfl)) (ev_f0 (ev_v rfl)) (rr_mulW (h1.2.2.cmul h2.2.1 (by decide))))) ⟨Int.mul_ne_zero (Int.ne_of_gt h1.1) hx.2.2, h1.2.2.mul h2.2.1⟩ fun _ h => h) fun _ h => h
abbrev N_reduced : List PySem.Str := ["row", "lead", "at", "own", "other"]
theorem sc_reduced : FnScope N_reduced ["row", "lead", "at"] (defScope s_reduced) := ⟨rfl, rfl, rfl, by decide +kernel, rfl, by decide +kernel, by decide +kernel⟩
def redu (row lead : List Fr) (at_ : Nat) : List Fr := (row.zip lead).map fun p => fsub p.1 (fmul (row.getD at_ (0, 1)) p.2)
def sp_reduced (C : Cn) : Sp := spT C (fun x : List Fr × List Fr × Nat => [.lst (x.1.map dF), .lst (x.2.1.map dF), D.i x.2.2]) (fun x => x.2.2 < x.1.length ∧ x.1.length ≤ 1000 ∧ (∀ f ∈ x.1, FOk 1000 f) ∧ ∀ f ∈ x.2.1, FOk 2000 f) (fun x d => d = .lst ((redu x.1 x.2.1 x.2.2).map dF))
theorem zipD_map {α β : Type} (f : α → D) (g : β → D) (l : List α) (m : List β) : zipD (l.map f) (m.map g) = (l.zip m).map fun p => D.tup [f p.1, g p.2] := by
  unfold zipD
  rw [List.zip_map, List.map_map]
  rfl
theorem has_reduced {P : Program} {w : World} {K : PySem.W.Frag} {mg : PySem.Str → Option Value} {base : Heap} {C : Cn} (T : Tx K mg C.cls) : Has P w K mg base 4 "reduced" ["row", "lead", "at"] (sp_reduced C) := by
  refine fn_has T 68 (d := d_reduced) rfl rfl (N := N_reduced) sc_reduced rfl rfl (fun _ _ _ _ _ _ us hl => match us, hl with | [_, _, _], _ => rfl) (fun _ => rfl) (fun cdv A' outer s H E hr => ⟨_, (pss_one (ps_ret (pe_lc (own := [("own", 3), ("other", 4)]) (g := gTup K 2 (gCons (gName 3) (gCons (gName 4) gNil))) (tt := tYes) rfl sc_reduced.nd (k_pi_zip (K := K) rfl (by rfl) T.xzip (pa_cons (pv 0) (pa_cons (pv 1) pa_nil))) (blkOk_by (own := [("own", 3), ("other", 4)]) (N := N_reduced) (sc := defScope s_reduced) (by decide +kernel)) (fun _ _ _ _ _ => (pg_tup rfl (pgs_cons (pg_name (i := 3) sc_reduced.nd rfl (.inl rfl)) (pgs_cons (pg_name (i := 4) sc_reduced.nd rfl (.inl rfl)) pgs_nil)))) (fun _ _ _ _ _ => pts_nil) (fun _ _ _ _ _ => (pe_has (has_minus T) (hr.mono (by decide)) (by rfl) (pa_cons (pv 3) (pa_cons (pe_has (has_times T) (hr.mono (by decide)) (by rfl) (pa_cons (pe_ix (k_ix_list (K := K) rfl) (pv 0) (pv 2) (fun _ _ => rfl)) (pa_cons (pv 4) pa_nil))) pa_nil))))))), fun x hx => ?_⟩)
  obtain ⟨row, lead, at_⟩ := x
  obtain ⟨h1, h2, h3, h4⟩ := hx
  simp only at h1 h2 h3 h4
  show SD C _ ⟨[], [.im (.lst (row.map dF)), .im (.lst (lead.map dF)), .im (.i at_), .no, .no]⟩ _ _
  have hz : ∀ p ∈ row.zip lead, FOk 1000 p.1 ∧ FOk 2000 p.2 := fun p hp => ⟨h3 _ (List.of_mem_zip hp).1, h4 _ (List.of_mem_zip hp).2⟩
  have hg : FOk 1000 (row.getD at_ (0, 1)) := by
    rw [List.getD_eq_getElem?_getD, List.getElem?_eq_getElem h1]
    exact h3 _ (List.getElem_mem h1)
  have ha : atI (row.map dF) (at_ : Int) = some (dF (row.getD at_ (0, 1))) := by
    refine atI_n ?_
    rw [List.getElem?_map, List.getD_eq_getElem?_getD, List.getElem?_eq_getElem h1]
    rfl
  refine sd_ret (d := .lst ((redu row lead at_).map dF)) ?_ rfl
  unfold redu
  rw [List.map_map]
  refine (ev_map (C := C) (js := [3, 4]) (row.zip lead) (fun p => D.tup [dF p.1, dF p.2]) _ (fun p l => (l.set 3 (.im (dF p.1))).set 4 (.im (dF p.2))) ((ei_zip (ea2 (ev_v rfl) (ev_v rfl))).to (zipD_map ..)) (fun p _ => eg_pair) ?_ fun p hp => ?_).dat
  · rw [List.length_zip]
    omega
  · have hp := hz p hp
    refine ev_callD (p.1, fmul (row.getD at_ (0, 1)) p.2) (ea2 (ev_v rfl) (ev_callD (row.getD at_ (0, 1), p.2) (ea2 (ev_opD (ev_v rfl) (ev_v rfl) (rr_ixL ha rfl)) (ev_v rfl)) ⟨hg.mono (by decide), hp.2.mono (by decide)⟩ fun _ h => h)) ⟨hp.1.mono (by decide), (fmul_ok hg hp.2).mono (by decide)⟩ fun _ h => h
abbrev N_power : List PySem.Str := ["number", "many", "found", "turn"]
theorem sc_power : FnScope N_power ["number", "many"] (defScope s_power) := ⟨rfl, rfl, rfl, by decide +kernel, rfl, by decide +kernel, by decide +kernel⟩
def sp_power (C : Cn) : Sp := spT C (fun x : Int × Nat => [D.i x.1, D.i x.2]) (fun x => Sm 20 x.1 ∧ x.2 ≤ 1000) (fun x d => d = .i (x.1 ^ x.2))
theorem Sm.pow {k : Nat} {x : Int} (h : Sm k x) (n : Nat) : Sm (k * n + 1) (x ^ n) := by
  induction n with
  | zero =>
    show _ < 2 ^ _
    simp
  | succ n ih =>
    rw [Int.pow_succ, Nat.mul_succ, Nat.add_right_comm]
    exact ih.mul h
theorem has_power {P : Program} {w : World} {K : PySem.W.Frag} {mg : PySem.Str → Option Value} {base : Heap} {C : Cn} (T : Tx K mg C.cls) : Has P w K mg base 1 "power" ["number", "many"] (sp_power C) := by
  refine fn_has T 59 (d := d_power) rfl rfl (N := N_power) sc_power rfl rfl (fun _ _ _ _ _ _ us hl => match us, hl with | [_, _], _ => rfl) (fun _ => rfl) (fun cdv A' outer s H E hr => ⟨_, (pss_cons (ps_set (i := 2) sc_power.nd rfl (.inl rfl) pe_int)
      (pss_cons (ps_for PassesOwn.never rfl (pi_range1 (by rfl) T.xrange (pa_cons (pv 1) pa_nil)) (pg_name (i := 3) sc_power.nd rfl (.inl rfl)) (pss_one (ps_set (i := 2) sc_power.nd rfl (.inl rfl) (pe_op op_mulW (pv 2) (pv 0)))))
      (pss_one (ps_ret (pv 2))))), fun x hx => ?_⟩)
  obtain ⟨b, n⟩ := x
  obtain ⟨h1, h2⟩ := hx
  simp only at h1 h2
  show SD C _ ⟨[], [.im (.i b), .im (.i n), .no, .no]⟩ _ _
  refine sq_asg (d := .i 1) ev_c ?_
  refine sq_for (C := C) (js := [3]) (List.range n) (fun i => D.i (i : Nat)) (fun i l => l.set 3 (.im (.i (i : Nat)))) (fun i G => ∃ s, G = ⟨[], [.im (.i b), .im (.i n), .im (.i (b ^ i)), s]⟩) ((ei_rng1 (ea1 (ev_v rfl)) (by omega)).to (by simp)) (fun _ _ => eg_name) ⟨.no, by rw [Int.pow_zero]; rfl⟩ ?_ ?_
  · rintro i x G hi ⟨s, rfl⟩
    have hi' : i < n := by simpa using (List.getElem?_eq_some_iff.mp hi).1
    refine sd_asg (d := .i (b ^ (i + 1))) ((ev_opD (ev_v rfl) (ev_v rfl) (rr_mulW ?_)).to (by rw [Int.pow_succ])) ⟨_, rfl⟩
    refine (h1.pow i).cmul h1 ?_
    have : 20 * i ≤ 20 * 1000 := Nat.mul_le_mul_left _ (by omega)
    omega
  · rintro G ⟨s, rfl⟩
    refine sd_ret (ev_v rfl) ?_
    rw [List.length_range]
end Wr
set_option maxHeartbeats 4000000
namespace Wr
open PySem L2
/-! ### the class Web -/
structure HasM (P : Program) (w : World) (K : PySem.W.Frag) (mg : PySem.Str → Option Value) (base : Heap) (k : Nat) (f : Addr) (ps : List PySem.Str) (sp : Sp) : Prop where
  ex : ∃ fd : FuncData, FnOk P w K mg base CX0 k f fd ps sp ∧ Binds K fd ps []
theorem fn_hasM {P : Program} {w : World} {K : PySem.W.Frag} {mg : PySem.Str → Option Value} {base : Heap} {C : Addr} (T : Tx K mg C) (i : Nat) {d : He.DefD} (hi : fn[i]? = some d) {f : Addr} (hf : He.fAd K d.at_ = f) {N ps : List PySem.Str} {k : Nat} {sp : Sp}
    (S : FnScope N ps d.scope) (h1 : d.dfl = []) (h2 : d.kwd = [])
    (bnd : ∀ (kV doc pm : Value) (an : Option Addr) (cdv ct : Value) (us : List Value), us.length = ps.length → bindArgs (PySem.W.fnOf d.name d.qual d.params d.body d.scope .none kV doc pm an cdv ct) ⟨us, []⟩ = pure (ps.zip us)) (len : ∀ vs H Q E, sp vs H Q E → vs.length = ps.length)
    (body : ∀ (cdv : Value) (A' : Around) (outer : List Env) (s : Shared) (H : Hp) (E : XK), Room k (A'.deeper (PyProof.Rows.envOfC d.qual d.scope s.heap.objs.size (He.fAd K d.at_) cdv)) →
      ∃ t, PSs (cxOf CX0 P w K mg base N d.qual d.scope (He.fAd K d.at_) cdv A' outer s H E).nox d.body t ∧ ∀ vs Q E', sp vs H Q E' → t { nx := fun _ H' => Q .non H', rt := Q } (start N vs) H) :
    HasM P w K mg base (k + 1) f ps sp := by
  subst hf
  obtain ⟨fd, F⟩ := T.fns i d hi
  have e1 : d.dvs K = [] := by
    unfold He.DefD.dvs
    rw [h1]
    rfl
  have e2 : d.kws K = [] := by
    unfold He.DefD.kws
    rw [h2]
    rfl
  rw [e1, e2] at F
  refine ⟨fd, F.ok S len (fun cdv A' outer s H vs Q E hr h => ?_), F.bindsN bnd⟩
  obtain ⟨t, ht, q⟩ := body cdv A' outer s H E hr
  exact ⟨t, ht.nox, q vs Q E h⟩
abbrev N_Web_len : List PySem.Str := ["self"]
theorem sc_Web_len : FnScope N_Web_len ["self"] (defScope s_Web_len) := ⟨rfl, rfl, rfl, by decide +kernel, rfl, by decide +kernel, by decide +kernel⟩
abbrev WebT := PySem.Str × List PySem.Str
def sp_Web_len (C : Cn) : Sp := spT C (fun x : WebT => [.web x.1 x.2]) (fun _ => True) (fun x d => d = .i x.2.length)
theorem has_Web_len {P : Program} {w : World} {K : PySem.W.Frag} {mg : PySem.Str → Option Value} {base : Heap} {C : Cn} (T : Tx K mg C.cls) : HasM P w K mg base 1 (He.ma K C.cls "__len__") ["self"] (sp_Web_len C) := by
  refine fn_hasM T 12 (d := d_Web_len) rfl (by rw [T.eC]; rfl) (N := N_Web_len) sc_Web_len rfl rfl (fun _ _ _ _ _ _ us hl => match us, hl with | [_], _ => rfl) (sp_len fun _ => rfl) (fun cdv A' outer s H E hr => ⟨_, (pss_one (ps_ret (pe_callB (k_call_len (K := K) rfl) (by rfl) T.xlen bt_len (pa_cons (k_pe_fld (K := K) rfl (pv 0) rfl) pa_nil)))) , fun vs Q E' h => sp_run (fun x hx => ?_) vs H Q E' h⟩)
  show SD C _ ⟨[], [.im (.web x.1 x.2)]⟩ _ _
  refine sd_ret ((ev_lenT (ev_ties T.cl T.nT (ev_v rfl))).to ?_) rfl
  rw [List.length_map]
/-- len(web) -/
def rLenW (C : Cn) (sp : Sp) : List V → Hp → VK → Prop := fun vs H Q => ∃ a dx fs, vs = [.ref a] ∧ H a = some (.ins C.cls dx fs) ∧ sp [.ref a] H (fun v H' => ∃ n : Nat, v = .int n ∧ n < 1000000 ∧ Q (.int n) H') (fun _ _ _ => False)
theorem k_call_lenW {X : Cx} {C : Cn} {k : Nat} {sp : Sp} (h : HasM X.prog X.w X.K X.mg X.base k (He.ma X.K C.cls "__len__") ["self"] sp) (M : Meth X.K C.cls "__len__" (He.ma X.K C.cls "__len__")) (hr : Room (k + 1) X.A) : CallR X (.builtin "len") (rLenW C sp) := by
  obtain ⟨fd, F, b⟩ := h.ex
  exact call_lenW F M hr b
theorem ev_lenW {C : Cn} {G : En} {te : TE} {x : WebT} (hn : x.2.length < 1000) (h : EvD C te G (.web x.1 x.2)) : EvD C (tCB (rLenW C (sp_Web_len C)) (tCons te tNil)) G (.i x.2.length) := fun O H σ g Q q => h O H σ g _ fun d v H1 e e1 hv => by
  subst e
  obtain ⟨a, dx, t, rfl, h2, h3⟩ := rep_web.mp hv
  refine ⟨a, dx, _, rfl, hide_le _ _ h2 rfl, O, x, e1.tabs _ g.tb, g.dom.mono e1, RepL.one hv, trivial, fun d v H' hd e2 rv => ?_⟩
  subst hd
  exact ⟨x.2.length, rep_v.mp rv, by omega, q _ _ H' rfl (e1.trans e2) (rep_v.mpr rfl)⟩
/-- isinstance(web, Web) -/
theorem cr_isiW {K : PySem.W.Frag} {mg : PySem.Str → Option Value} {C : Cn} (T : Tx K mg C.cls) {x : WebT} : CR C (rIsi K) [.web x.1 x.2, .v (.ref C.cls)] (· = .b true) :=
  cr_isi (t := .ref C.cls) (ClsV.own C.cls) (by unfold PySem.W.kitOne; rw [if_pos (by exact beq_self_eq_true _)]) (fun H v h => by
    obtain ⟨a, dx, t, rfl, h2, h3⟩ := rep_web.mp h
    exact .base (.ins h2 T.cl T.iA T.iN T.iT T.iM)) (fun H H' v e h => by
    cases h with
    | base h =>
      cases h with
      | ins ea cl ha hn ht hm => exact .base (.ins (e _ _ ea rfl) cl ha hn ht hm))
abbrev N_check_web : List PySem.Str := ["web"]
theorem sc_check_web : FnScope N_check_web ["web"] (defScope s_check_web) := ⟨rfl, rfl, rfl, by decide +kernel, rfl, by decide +kernel, by decide +kernel⟩
def sp_check_web (C : Cn) : Sp := spT C (fun x : WebT => [.web x.1 x.2]) (fun _ => True) (fun x d => d = .n)
theorem has_check_web {P : Program} {w : World} {K : PySem.W.Frag} {mg : PySem.Str → Option Value} {base : Heap} {C : Cn} (T : Tx K mg C.cls) : Has P w K mg base 1 "check_web" ["web"] (sp_check_web C) := by
  refine fn_has T 13 (d := d_check_web) rfl rfl (N := N_check_web) sc_check_web rfl rfl (fun _ _ _ _ _ _ us hl => match us, hl with | [_], _ => rfl) (fun _ => rfl) (fun cdv A' outer s H E hr => ⟨_, (pss_one (ps_if (pt_not (pt_val (pe_callB call_isi (by rfl) T.xisinstance bt_isinstance (pa_cons (pv 0) (pa_cons (pe_glob (v := .ref C.cls) (by rfl) T.web rfl) pa_nil))))) (pss_one ps_never) pss_nil)), fun x hx => ?_⟩)
  show SD C _ ⟨[], [.im (.web x.1 x.2)]⟩ _ _
  exact sd_no (et_not (et_test (ev_cbD (ea2 (ev_v rfl) ev_c) (cr_isiW T)))) rfl
abbrev N_is_place : List PySem.Str := ["web", "value"]
theorem sc_is_place : FnScope N_is_place ["web", "value"] (defScope s_is_place) := ⟨rfl, rfl, rfl, by decide +kernel, rfl, by decide +kernel, by decide +kernel⟩
def sp_is_place (C : Cn) : Sp := spT C (fun x : WebT × Nat => [.web x.1.1 x.1.2, .s ⟨#[x.2]⟩]) (fun x => x.2 ∈ x.1.1.cps.toList) (fun x d => d = .b true)
theorem has_is_place {P : Program} {w : World} {K : PySem.W.Frag} {mg : PySem.Str → Option Value} {base : Heap} {C : Cn} (T : Tx K mg C.cls) : Has P w K mg base 3 "is_place" ["web", "value"] (sp_is_place C) := by
  refine fn_has T 14 (d := d_is_place) rfl rfl (N := N_is_place) sc_is_place rfl rfl (fun _ _ _ _ _ _ us hl => match us, hl with | [_, _], _ => rfl) (fun _ => rfl) (fun cdv A' outer s H E hr => ⟨_, (pss_one (ps_ret (pe_and (pe_callB call_isi (by rfl) T.xisinstance bt_isinstance (pa_cons (pv 1) (pa_cons (pe_bltn (v := .ty "str") (by rfl) T.xstr bt_str rfl) pa_nil))) (pe_and (pe_cmpR op_eq (pe_callB (k_call_len (K := K) rfl) (by rfl) T.xlen bt_len (pa_cons (pv 1) pa_nil)) pe_int (nomark _)) (pe_one (pe_cmpR op_in_sign (pv 1) (k_pe_fld (K := K) rfl (pv 0) rfl) rfl)))))), fun x hx => ?_⟩)
  show SD C _ ⟨[], [.im (.web x.1.1 x.1.2), .im (.s ⟨#[x.2]⟩)]⟩ _ _
  refine sd_ret ((ev_andV (a := true) (b := true) (ev_cbD (ea2 (ev_v rfl) ev_c) (cr_isiS (b := true) (by decide +kernel))) fun _ => ev_andV (a := true) (b := true) (ev_opD (y := .i 1) (ev_lenS (by show 1 ≤ 100000; decide) (ev_v rfl)) ev_c (rr_eqI (b := 1))) fun _ => ?_)) rfl
  refine (ev_opD (ev_v rfl) (ev_places T.cl T.nP (ev_v rfl)) rr_inS).to ?_
  rw [decide_eq_true hx]
abbrev N_check_place : List PySem.Str := ["web", "place"]
theorem sc_check_place : FnScope N_check_place ["web", "place"] (defScope s_check_place) := ⟨rfl, rfl, rfl, by decide +kernel, rfl, by decide +kernel, by decide +kernel⟩
def sp_check_place (C : Cn) : Sp := spT C (fun x : WebT × Nat => [.web x.1.1 x.1.2, .s ⟨#[x.2]⟩]) (fun x => x.2 ∈ x.1.1.cps.toList) (fun x d => d = .n)
theorem has_check_place {P : Program} {w : World} {K : PySem.W.Frag} {mg : PySem.Str → Option Value} {base : Heap} {C : Cn} (T : Tx K mg C.cls) : Has P w K mg base 4 "check_place" ["web", "place"] (sp_check_place C) := by
  refine fn_has T 15 (d := d_check_place) rfl rfl (N := N_check_place) sc_check_place rfl rfl (fun _ _ _ _ _ _ us hl => match us, hl with | [_, _], _ => rfl) (fun _ => rfl) (fun cdv A' outer s H E hr => ⟨_, (pss_one (ps_if (pt_not (pt_val (pe_has (has_is_place T) (hr.mono (by decide)) (by rfl) (pa_cons (pv 0) (pa_cons (pv 1) pa_nil))))) (pss_one ps_never) pss_nil)), fun x hx => ?_⟩)
  show SD C _ ⟨[], [.im (.web x.1.1 x.1.2), .im (.s ⟨#[x.2]⟩)]⟩ _ _
  exact sd_no (et_not (a := true) (et_B (ev_callD x (ea2 (ev_v rfl) (ev_v rfl)) hx fun _ h => h))) rfl
end Wr
set_option maxHeartbeats 4000000
namespace Wr
open PySem L2
section
variable {C : Cn} {K : PySem.W.Frag} {G : En} {ta te ti : TE} {x : W} {t : Tie} {c : Nat} {h : List Nat}
theorem rr_inL : RR C (fun x y H Q => ∃ (c : Nat) (z : PySem.Str), x = .str ⟨#[c]⟩ ∧ y = .str z ∧ Q (.bl (decide (c ∈ z.cps.toList))) H) (.s (st [c])) (.s (st h)) (· = .b (decide (c ∈ h))) := by
  have q := rr_inS (C := C) (c := c) (z := st h)
  rw [st_toList] at q
  exact q
theorem ev_t0 (h : EvD C te G (.s (tS t))) : EvD C (tOp rIxS te (tC (.int 0))) G (.s (st [t.1])) := ev_opD h ev_c (rr_ixS (by show 2 ≤ 100000; decide) rfl)
theorem ev_t1 (h : EvD C te G (.s (tS t))) : EvD C (tOp rIxS te (tC (.int 1))) G (.s (st [t.2])) := ev_opD h ev_c (rr_ixS (by show 2 ≤ 100000; decide) rfl)
def tieAt (x : W) (i : Nat) : Tie := x.2.getD i (0, 0)
theorem tieAt_get {i : Nat} (h : i < x.2.length) : x.2[i]? = some (tieAt x i) := by
  unfold tieAt
  rw [List.getD_eq_getElem?_getD, List.getElem?_eq_getElem h]
  rfl
theorem tieAt_mem {i : Nat} (h : i < x.2.length) : tieAt x i ∈ x.2 := List.mem_of_getElem? (tieAt_get h)
theorem ev_tieAt {i : Nat} (hi : i < x.2.length) (h : EvD C te G (.tup (x.2.map fun t => D.s (tS t)))) (h2 : EvD C ti G (.i i)) : EvD C (tOp (rIxT K) te ti) G (.s (tS (tieAt x i))) :=
  ev_opD h h2 (rr_ixT (atI_n (by rw [List.getElem?_map, tieAt_get hi]; rfl)) rfl)
/-- the walk of range(n) -/
theorem enumD_map {α : Type} (f : α → D) (l : List α) (d : α) : enumD (l.map f) = (List.range l.length).map fun i => D.tup [D.i (i : Nat), f (l.getD i d)] := by
  apply List.ext_getElem?
  intro i
  unfold enumD
  rw [List.getElem?_mapIdx, List.getElem?_map, List.getElem?_map]
  by_cases h : i < l.length
  · rw [List.getElem?_eq_getElem h, List.getElem?_range h]
    show some (D.tup [D.i (i : Nat), f l[i]]) = some (D.tup [D.i (i : Nat), f (l.getD i d)])
    rw [List.getD_eq_getElem?_getD, List.getElem?_eq_getElem h]
    rfl
  · rw [List.getElem?_eq_none (by omega), List.getElem?_eq_none (by rw [List.length_range]; omega)]
    rfl
end
/-! ### lots -/
abbrev N_ties_of : List PySem.Str := ["web", "lot", "index"]
theorem sc_ties_of : FnScope N_ties_of ["web", "lot"] (defScope s_ties_of) := ⟨rfl, rfl, rfl, by decide +kernel, rfl, by decide +kernel, by decide +kernel⟩
def sp_ties_of (C : Cn) : Sp := spT C (fun x : W × List Nat => [dW x.1, .tup (dN x.2)]) (fun x => (∀ i ∈ x.2, i < x.1.2.length) ∧ x.2.length ≤ 1000) (fun x d => d = .lst (x.2.map fun i => D.s (tS (tieAt x.1 i))))
theorem has_ties_of {P : Program} {w : World} {K : PySem.W.Frag} {mg : PySem.Str → Option Value} {base : Heap} {C : Cn} (T : Tx K mg C.cls) : Has P w K mg base 1 "ties_of" ["web", "lot"] (sp_ties_of C) := by
  refine fn_has T 20 (d := d_ties_of) rfl rfl (N := N_ties_of) sc_ties_of rfl rfl (fun _ _ _ _ _ _ us hl => match us, hl with | [_, _], _ => rfl) (fun _ => rfl) (fun cdv A' outer s H E hr => ⟨_, (pss_one (ps_ret (pe_lc (own := [("index", 2)]) (g := gName 2) (tt := tYes) rfl sc_ties_of.nd (k_pi_tup (K := K) rfl (pv 1)) (blkOk_by (own := [("index", 2)]) (N := N_ties_of) (sc := defScope s_ties_of) (by decide +kernel)) (fun _ _ _ _ _ => (pg_name (i := 2) sc_ties_of.nd rfl (.inl rfl))) (fun _ _ _ _ _ => pts_nil) (fun _ _ _ _ _ => (pe_ix (k_ix_tup (K := K) rfl) (k_pe_fld (K := K) rfl (pv 0) rfl) (pv 2) (fun _ _ => rfl)))))), fun x hx => ?_⟩)
  obtain ⟨x, lot⟩ := x
  show SD C _ ⟨[], [.im (dW x), .im (.tup (dN lot)), .no]⟩ _ _
  refine sd_ret (ev_map (C := C) (js := [2]) lot (fun i => D.i (i : Nat)) _ (fun i l => l.set 2 (.im (.i (i : Nat)))) (ei_tup (ev_v rfl)) (fun _ _ => eg_name) (Nat.le_trans hx.2 (by decide)) fun i hi => ?_).dat rfl
  exact ev_tieAt (hx.1 i hi) (evw_ties T.cl T.nT (ev_v rfl)) (ev_v rfl)
abbrev N_without : List PySem.Str := ["lot", "index", "own"]
theorem sc_without : FnScope N_without ["lot", "index"] (defScope s_without) := ⟨rfl, rfl, rfl, by decide +kernel, rfl, by decide +kernel, by decide +kernel⟩
def sp_without (C : Cn) : Sp := spT C (fun x : List Nat × Nat => [.tup (dN x.1), .i x.2]) (fun x => x.1.length ≤ 1000) (fun x d => d = .tup (dN (x.1.filter fun i => !decide (i = x.2))))
theorem has_without {P : Program} {w : World} {K : PySem.W.Frag} {mg : PySem.Str → Option Value} {base : Heap} {C : Cn} (T : Tx K mg C.cls) : Has P w K mg base 1 "without" ["lot", "index"] (sp_without C) := by
  refine fn_has T 24 (d := d_without) rfl rfl (N := N_without) sc_without rfl rfl (fun _ _ _ _ _ _ us hl => match us, hl with | [_, _], _ => rfl) (fun _ => rfl) (fun cdv A' outer s H E hr => ⟨_, (pss_one (ps_ret (pe_callTy (k_call_tup (K := K) rfl) (by rfl) T.xtuple bt_tuple (pa_cons (pe_lc (own := [("own", 2)]) (g := gName 2) rfl sc_without.nd (k_pi_tup (K := K) rfl (pv 0)) (blkOk_by (own := [("own", 2)]) (N := N_without) (sc := defScope s_without) (by decide +kernel)) (fun _ _ _ _ _ => (pg_name (i := 2) sc_without.nd rfl (.inl rfl))) (fun _ _ _ _ _ => (pts_one (pt_cmpR op_ne (pv 2) (pv 1) (nomark _)))) (fun _ _ _ _ _ => (pv 2))) pa_nil)))), fun x hx => ?_⟩)
  obtain ⟨lot, j⟩ := x
  show SD C _ ⟨[], [.im (.tup (dN lot)), .im (.i j), .no]⟩ _ _
  refine sd_ret (ev_cbD (ea1 (ev_lc (C := C) (js := [2]) lot (fun i => D.i (i : Nat)) (fun i => !decide (i = j)) (fun i => D.i (i : Nat)) (fun i l => l.set 2 (.im (.i (i : Nat)))) (ei_tup (ev_v rfl)) (fun _ _ => eg_name) (by exact Nat.le_trans hx (by decide)) (fun i hi => ?_) (fun i hi _ => ev_v rfl)).dat) cr_tup) rfl
  refine (et_test (ev_opD (ev_v rfl) (ev_v rfl) rr_neI)).to ?_
  by_cases e : i = j
  · subst e
    simp
  · have : ¬ (i : Int) = (j : Int) := by omega
    simp [e, this]
def crosses (h : List Nat) (t : Tie) : Bool := decide (t.1 ∈ h) != decide (t.2 ∈ h)
def lotOf (x : W) (h : List Nat) : List Nat := (List.range x.2.length).filter fun i => crosses h (tieAt x i)
abbrev N_herd_lot : List PySem.Str := ["web", "herd", "index", "tie"]
theorem sc_herd_lot : FnScope N_herd_lot ["web", "herd"] (defScope s_herd_lot) := ⟨rfl, rfl, rfl, by decide +kernel, rfl, by decide +kernel, by decide +kernel⟩
def sp_herd_lot (C : Cn) : Sp := spT C (fun x : W × List Nat => [dW x.1, .s (st x.2)]) (fun x => x.1.2.length ≤ 1000) (fun x d => d = .tup (dN (lotOf x.1 x.2)))
theorem has_herd_lot {P : Program} {w : World} {K : PySem.W.Frag} {mg : PySem.Str → Option Value} {base : Heap} {C : Cn} (T : Tx K mg C.cls) : Has P w K mg base 1 "herd_lot" ["web", "herd"] (sp_herd_lot C) := by
  refine fn_has T 29 (d := d_herd_lot) rfl rfl (N := N_herd_lot) sc_herd_lot rfl rfl (fun _ _ _ _ _ _ us hl => match us, hl with | [_, _], _ => rfl) (fun _ => rfl) (fun cdv A' outer s H E hr => ⟨_, (pss_one (ps_ret (pe_callTy (k_call_tup (K := K) rfl) (by rfl) T.xtuple bt_tuple (pa_cons (pe_lc (own := [("index", 2), ("tie", 3)]) (g := gTup K 2 (gCons (gName 2) (gCons (gName 3) gNil))) rfl sc_herd_lot.nd (k_pi_enumT (K := K) rfl (by rfl) T.xenumerate (pa_cons (k_pe_fld (K := K) rfl (pv 0) rfl) pa_nil)) (blkOk_by (own := [("index", 2), ("tie", 3)]) (N := N_herd_lot) (sc := defScope s_herd_lot) (by decide +kernel)) (fun _ _ _ _ _ => (pg_tup rfl (pgs_cons (pg_name (i := 2) sc_herd_lot.nd rfl (.inl rfl)) (pgs_cons (pg_name (i := 3) sc_herd_lot.nd rfl (.inl rfl)) pgs_nil)))) (fun _ _ _ _ _ => (pts_one (pt_cmpR op_ne (pe_cmpR op_in_sign (pe_ix ix_str (pv 3) pe_int (fun _ _ => rfl)) (pv 1) rfl) (pe_cmpR op_in_sign (pe_ix ix_str (pv 3) pe_int (fun _ _ => rfl)) (pv 1) rfl) (nomark _)))) (fun _ _ _ _ _ => (pv 2))) pa_nil)))), fun x hx => ?_⟩)
  obtain ⟨x, h⟩ := x
  show SD C _ ⟨[], [.im (dW x), .im (.s (st h)), .no, .no]⟩ _ _
  refine sd_ret (ev_cbD (ea1 (ev_lc (C := C) (js := [2, 3]) (List.range x.2.length) (fun i => D.tup [D.i (i : Nat), .s (tS (tieAt x i))]) (fun i => crosses h (tieAt x i)) (fun i => D.i (i : Nat)) (fun i l => (l.set 2 (.im (.i (i : Nat)))).set 3 (.im (.s (tS (tieAt x i)))))
    ((ei_enumT (ea1 (evw_ties T.cl T.nT (ev_v rfl)))).to (enumD_map (fun t : Tie => D.s (tS t)) x.2 (0, 0))) (fun _ _ => eg_pair) (by rw [List.length_range]; exact Nat.le_trans hx (by decide)) (fun i hi => ?_) (fun i hi _ => ev_v rfl)).dat) cr_tup) rfl
  exact et_test (ev_opD (ev_opD (ev_t0 (ev_v rfl)) (ev_v rfl) rr_inL) (ev_opD (ev_t1 (ev_v rfl)) (ev_v rfl) rr_inL) rr_neB)
def dP (t : Tie) : D := .tup [.s (st [t.1]), .s (st [t.2])]
def swp (t : Tie) : Tie := (t.2, t.1)
def both (x : W) : List Tie := x.2 ++ x.2.map swp
abbrev N_both_ways : List PySem.Str := ["web", "tie"]
theorem sc_both_ways : FnScope N_both_ways ["web"] (defScope s_both_ways) := ⟨rfl, rfl, rfl, by decide +kernel, rfl, by decide +kernel, by decide +kernel⟩
def sp_both_ways (C : Cn) : Sp := spT C (fun x : W => [dW x]) (fun x => x.2.length ≤ 1000) (fun x d => d = .lst ((both x).map dP))
theorem has_both_ways {P : Program} {w : World} {K : PySem.W.Frag} {mg : PySem.Str → Option Value} {base : Heap} {C : Cn} (T : Tx K mg C.cls) : Has P w K mg base 1 "both_ways" ["web"] (sp_both_ways C) := by
  refine fn_has T 41 (d := d_both_ways) rfl rfl (N := N_both_ways) sc_both_ways rfl rfl (fun _ _ _ _ _ _ us hl => match us, hl with | [_], _ => rfl) (fun _ => rfl) (fun cdv A' outer s H E hr => ⟨_, (pss_one (ps_ret (pe_op op_cat (pe_lc (own := [("tie", 1)]) (g := gName 1) (tt := tYes) rfl sc_both_ways.nd (k_pi_tup (K := K) rfl (k_pe_fld (K := K) rfl (pv 0) rfl)) (blkOk_by (own := [("tie", 1)]) (N := N_both_ways) (sc := defScope s_both_ways) (by decide +kernel)) (fun _ _ _ _ _ => (pg_name (i := 1) sc_both_ways.nd rfl (.inl rfl))) (fun _ _ _ _ _ => pts_nil) (fun _ _ _ _ _ => (pe_tup (pa_cons (pe_ix ix_str (pv 1) pe_int (fun _ _ => rfl)) (pa_cons (pe_ix ix_str (pv 1) pe_int (fun _ _ => rfl)) pa_nil))))) (pe_lc (own := [("tie", 1)]) (g := gName 1) (tt := tYes) rfl sc_both_ways.nd (k_pi_tup (K := K) rfl (k_pe_fld (K := K) rfl (pv 0) rfl)) (blkOk_by (own := [("tie", 1)]) (N := N_both_ways) (sc := defScope s_both_ways) (by decide +kernel)) (fun _ _ _ _ _ => (pg_name (i := 1) sc_both_ways.nd rfl (.inl rfl))) (fun _ _ _ _ _ => pts_nil) (fun _ _ _ _ _ => (pe_tup (pa_cons (pe_ix ix_str (pv 1) pe_int (fun _ _ => rfl)) (pa_cons (pe_ix ix_str (pv 1) pe_int (fun _ _ => rfl)) pa_nil)))))))), fun x hx => ?_⟩)
  show SD C _ ⟨[], [.im (dW x), .no]⟩ _ _
  refine sd_ret (d := .lst ((both x).map dP)) ?_ rfl
  unfold both
  rw [List.map_append, List.map_map]
  refine (ev_opF (ev_map (C := C) (js := [1]) x.2 (fun t => D.s (tS t)) dP (fun t l => l.set 1 (.im (.s (tS t)))) (ei_tup (evw_ties T.cl T.nT (ev_v rfl))) (fun _ _ => eg_name) (by exact Nat.le_trans hx (by decide)) fun t ht => ?_).dat
    (ev_map (C := C) (js := [1]) x.2 (fun t => D.s (tS t)) (dP ∘ swp) (fun t l => l.set 1 (.im (.s (tS t)))) (ei_tup (evw_ties T.cl T.nT (ev_v rfl))) (fun _ _ => eg_name) (by exact Nat.le_trans hx (by decide)) fun t ht => ?_).dat (rf_cat ?_)).dat
  · exact ev_tupD (ea2 (ev_t0 (ev_v rfl)) (ev_t1 (ev_v rfl)))
  · exact ev_tupD (ea2 (ev_t1 (ev_v rfl)) (ev_t0 (ev_v rfl)))
  · rw [List.length_map, List.length_map]
    have : x.2.length ≤ 1000 := hx
    omega
abbrev N_ones : List PySem.Str := ["web"]
theorem sc_ones : FnScope N_ones ["web"] (defScope s_ones) := ⟨rfl, rfl, rfl, by decide +kernel, rfl, by decide +kernel, by decide +kernel⟩
def dOnes (n : Nat) : D := .tup (List.replicate n (D.i 1))
def sp_ones (C : Cn) : Sp := spT C (fun x : W => [dW x]) (fun x => x.2.length < 1000) (fun x d => d = dOnes x.2.length)
theorem ev_lenX {C : Cn} {G : En} {te : TE} {x : W} (hn : x.2.length < 1000) (h : EvD C te G (dW x)) : EvD C (tCB (rLenW C (sp_Web_len C)) (tCons te tNil)) G (.i x.2.length) := by
  have := ev_lenW (x := (st x.1, x.2.map tS)) (by rw [List.length_map]; exact hn) h
  rw [List.length_map] at this
  exact this
theorem has_ones {P : Program} {w : World} {K : PySem.W.Frag} {mg : PySem.Str → Option Value} {base : Heap} {C : Cn} (T : Tx K mg C.cls) : Has P w K mg base 3 "ones" ["web"] (sp_ones C) := by
  refine fn_has T 45 (d := d_ones) rfl rfl (N := N_ones) sc_ones rfl rfl (fun _ _ _ _ _ _ us hl => match us, hl with | [_], _ => rfl) (fun _ => rfl) (fun cdv A' outer s H E hr => ⟨_, (pss_one (ps_ret (pe_op (op_rep1 (K := K) rfl) (pe_tup (pa_cons pe_int pa_nil)) (pe_callB (k_call_lenW (has_Web_len T) T.ml (hr.mono (by decide))) (by rfl) T.xlen bt_len (pa_cons (pv 0) pa_nil))))), fun x hx => ?_⟩)
  show SD C _ ⟨[], [.im (dW x)]⟩ _ _
  exact sd_ret (ev_opD (ev_tupD (ea1 ev_c)) (ev_lenX hx (ev_v rfl)) (rr_rep1 (by omega))) rfl
abbrev N_width_of : List PySem.Str := ["web", "rooms", "herd", "index"]
theorem sc_width_of : FnScope N_width_of ["web", "rooms", "herd"] (defScope s_width_of) := ⟨rfl, rfl, rfl, by decide +kernel, rfl, by decide +kernel, by decide +kernel⟩
def sp_width_of (C : Cn) : Sp := spT C (fun x : W × List Nat => [dW x.1, dOnes x.1.2.length, .s (st x.2)]) (fun x => x.1.2.length ≤ 1000) (fun x d => d = .i (lotOf x.1 x.2).length)
theorem has_width_of {P : Program} {w : World} {K : PySem.W.Frag} {mg : PySem.Str → Option Value} {base : Heap} {C : Cn} (T : Tx K mg C.cls) : Has P w K mg base 2 "width_of" ["web", "rooms", "herd"] (sp_width_of C) := by
  refine fn_has T 43 (d := d_width_of) rfl rfl (N := N_width_of) sc_width_of rfl rfl (fun _ _ _ _ _ _ us hl => match us, hl with | [_, _, _], _ => rfl) (fun _ => rfl) (fun cdv A' outer s H E hr => ⟨_, (pss_one (ps_ret (pe_callB (k_cr_sum (K := K) rfl rfl) (by rfl) T.xsum bt_sum (pa_cons (pe_lc (own := [("index", 3)]) (g := gName 3) (tt := tYes) rfl sc_width_of.nd (k_pi_tup (K := K) rfl (pe_has (has_herd_lot T) (hr.mono (by decide)) (by rfl) (pa_cons (pv 0) (pa_cons (pv 2) pa_nil)))) (blkOk_by (own := [("index", 3)]) (N := N_width_of) (sc := defScope s_width_of) (by decide +kernel)) (fun _ _ _ _ _ => (pg_name (i := 3) sc_width_of.nd rfl (.inl rfl))) (fun _ _ _ _ _ => pts_nil) (fun _ _ _ _ _ => (pe_ix (k_ix_tup (K := K) rfl) (pv 1) (pv 3) (fun _ _ => rfl)))) pa_nil)))), fun x hx => ?_⟩)
  obtain ⟨x, h⟩ := x
  show SD C _ ⟨[], [.im (dW x), .im (dOnes x.2.length), .im (.s (st h)), .no]⟩ _ _
  have hx : x.2.length ≤ 1000 := hx
  have hl : (lotOf x h).length ≤ 1000 := Nat.le_trans (List.length_filter_le ..) (by rw [List.length_range]; exact hx)
  refine sd_ret ((ev_cbD (ea1 ((ev_map (C := C) (js := [3]) (lotOf x h) (fun i => D.i (i : Nat)) (fun _ => D.i 1) (fun i l => l.set 3 (.im (.i (i : Nat)))) (ei_tup (ev_callD (R := (· = .tup (dN (lotOf x h)))) (x, h) (ea2 (ev_v rfl) (ev_v rfl)) hx fun _ h => h)) (fun _ _ => eg_name) (by omega) (fun i hi => ?_)).dat.to ?_)) (cr_sumD (ns := (lotOf x h).map fun _ => (1 : Int)))).to ?_) rfl
  · have hi : i < x.2.length := List.mem_range.mp (List.mem_filter.mp hi).1
    refine ev_opD (ev_v rfl) (ev_v rfl) (rr_ixT (atI_n ?_) rfl)
    rw [List.getElem?_replicate, if_pos hi]
  · unfold dI
    rw [List.map_map]
    rfl
  · congr 2
    have : ∀ l : List Nat, (l.map fun _ => (1 : Int)).sum = l.length := by
      intro l
      induction l with
      | nil => rfl
      | cons a l ih =>
        rw [List.map_cons, List.sum_cons, ih, List.length_cons]
        omega
    exact this _
abbrev N_every_tie : List PySem.Str := ["web"]
theorem sc_every_tie : FnScope N_every_tie ["web"] (defScope s_every_tie) := ⟨rfl, rfl, rfl, by decide +kernel, rfl, by decide +kernel, by decide +kernel⟩
def sp_every_tie (C : Cn) : Sp := spT C (fun x : W => [dW x]) (fun x => x.2.length < 1000) (fun x d => d = .tup (dN (List.range x.2.length)))
theorem has_every_tie {P : Program} {w : World} {K : PySem.W.Frag} {mg : PySem.Str → Option Value} {base : Heap} {C : Cn} (T : Tx K mg C.cls) : Has P w K mg base 3 "every_tie" ["web"] (sp_every_tie C) := by
  refine fn_has T 19 (d := d_every_tie) rfl rfl (N := N_every_tie) sc_every_tie rfl rfl (fun _ _ _ _ _ _ us hl => match us, hl with | [_], _ => rfl) (fun _ => rfl) (fun cdv A' outer s H E hr => ⟨_, (pss_one (ps_ret (pe_tupRg rfl (by rfl) T.xtuple (prg_1 (by rfl) T.xrange (pe_callB (k_call_lenW (has_Web_len T) T.ml (hr.mono (by decide))) (by rfl) T.xlen bt_len (pa_cons (pv 0) pa_nil)))))), fun x hx => ?_⟩)
  show SD C _ ⟨[], [.im (dW x)]⟩ _ _
  exact sd_ret (ev_tupRg (ev_lenX hx (ev_v rfl)) (by omega)) rfl
def endsOf (x : W) (lot : List Nat) (c : Nat) : Nat := (lot.map fun i => occ c (tieAt x i)).sum
abbrev N_ends_at : List PySem.Str := ["web", "lot", "place", "tie"]
theorem sc_ends_at : FnScope N_ends_at ["web", "lot", "place"] (defScope s_ends_at) := ⟨rfl, rfl, rfl, by decide +kernel, rfl, by decide +kernel, by decide +kernel⟩
def sp_ends_at (C : Cn) : Sp := spT C (fun x : W × List Nat × Nat => [dW x.1, .tup (dN x.2.1), .s (st [x.2.2])]) (fun x => WOk x.1 ∧ (∀ i ∈ x.2.1, i < x.1.2.length) ∧ x.2.1.length ≤ 1000 ∧ x.2.2 ∈ x.1.1) (fun x d => d = .i (endsOf x.1 x.2.1 x.2.2))
theorem has_ends_at {P : Program} {w : World} {K : PySem.W.Frag} {mg : PySem.Str → Option Value} {base : Heap} {C : Cn} (T : Tx K mg C.cls) : Has P w K mg base 2 "ends_at" ["web", "lot", "place"] (sp_ends_at C) := by
  refine fn_has T 27 (d := d_ends_at) rfl rfl (N := N_ends_at) sc_ends_at rfl rfl (fun _ _ _ _ _ _ us hl => match us, hl with | [_, _, _], _ => rfl) (fun _ => rfl) (fun cdv A' outer s H E hr => ⟨_, (pss_one (ps_ret (pe_callB (k_cr_sum (K := K) rfl rfl) (by rfl) T.xsum bt_sum (pa_cons (pe_lc (own := [("tie", 3)]) (g := gName 3) (tt := tYes) rfl sc_ends_at.nd (k_pi_list (K := K) rfl (pe_has (has_ties_of T) (hr.mono (by decide)) (by rfl) (pa_cons (pv 0) (pa_cons (pv 1) pa_nil)))) (blkOk_by (own := [("tie", 3)]) (N := N_ends_at) (sc := defScope s_ends_at) (by decide +kernel)) (fun _ _ _ _ _ => (pg_name (i := 3) sc_ends_at.nd rfl (.inl rfl))) (fun _ _ _ _ _ => pts_nil) (fun _ _ _ _ _ => (k_pe_bm (K := K) rfl PySem.F.plainAttrs_str PySem.F.slot_str_count PySem.F.type_str_count mt_count (pv 3) (pa_cons (pv 2) pa_nil)))) pa_nil)))), fun x hx => ?_⟩)
  obtain ⟨x, lot, c⟩ := x
  obtain ⟨ok, hi, hl, hc⟩ := hx
  simp only at ok hi hl hc
  show SD C _ ⟨[], [.im (dW x), .im (.tup (dN lot)), .im (.s (st [c])), .no]⟩ _ _
  refine sd_ret ((ev_cbD (ea1 ((ev_map (C := C) (js := [3]) lot (fun i => D.s (tS (tieAt x i))) (fun i => D.i (occ c (tieAt x i))) (fun i l => l.set 3 (.im (.s (tS (tieAt x i))))) (ei_list (ev_callD (R := (· = .lst (lot.map fun i => D.s (tS (tieAt x i))))) (x, lot) (ea2 (ev_v rfl) (ev_v rfl)) ⟨hi, hl⟩ fun _ h => h)) (fun _ _ => eg_name) (by omega) (fun i hm => ?_)).dat.to ?_)) (cr_sumD (ns := lot.map fun i => (occ c (tieAt x i) : Int)))).to ?_) rfl
  · have m := tieAt_mem (hi i hm)
    have q := ok.ts _ m
    refine ev_bmS (ev_v rfl) (ev_v rfl) fun H Q q' => ⟨_, _, rfl, rfl, ?_⟩
    rw [count_tie (ok.lt q.1) (ok.lt q.2.1) (ok.lt hc)]
    exact q'
  · unfold dI
    rw [List.map_map]
    rfl
  · congr 2
    unfold endsOf
    have : ∀ l : List Nat, (l.map fun i => (occ c (tieAt x i) : Int)).sum = ((l.map fun i => occ c (tieAt x i)).sum : Nat) := by
      intro l
      induction l with
      | nil => rfl
      | cons a l ih =>
        rw [List.map_cons, List.sum_cons, ih, List.map_cons, List.sum_cons]
        omega
    exact this _
abbrev N_is_even_lot : List PySem.Str := ["web", "lot", "place"]
theorem sc_is_even_lot : FnScope N_is_even_lot ["web", "lot"] (defScope s_is_even_lot) := ⟨rfl, rfl, rfl, by decide +kernel, rfl, by decide +kernel, by decide +kernel⟩
def evenLot (x : W) (lot : List Nat) : Bool := (x.1.map fun c => decide (endsOf x lot c % 2 = 0)).all id
def sp_is_even_lot (C : Cn) : Sp := spT C (fun x : W × List Nat => [dW x.1, .tup (dN x.2)]) (fun x => WOk x.1 ∧ (∀ i ∈ x.2, i < x.1.2.length) ∧ x.2.length ≤ 1000) (fun x d => d = .b (evenLot x.1 x.2))
theorem has_is_even_lot {P : Program} {w : World} {K : PySem.W.Frag} {mg : PySem.Str → Option Value} {base : Heap} {C : Cn} (T : Tx K mg C.cls) : Has P w K mg base 3 "is_even_lot" ["web", "lot"] (sp_is_even_lot C) := by
  refine fn_has T 28 (d := d_is_even_lot) rfl rfl (N := N_is_even_lot) sc_is_even_lot rfl rfl (fun _ _ _ _ _ _ us hl => match us, hl with | [_, _], _ => rfl) (fun _ => rfl) (fun cdv A' outer s H E hr => ⟨_, (pss_one (ps_ret (pe_callB (k_cr_all (K := K) rfl rfl) (by rfl) T.xall bt_all (pa_cons (pe_lc (own := [("place", 2)]) (g := gName 2) (tt := tYes) rfl sc_is_even_lot.nd (pi_str (k_pe_fld (K := K) rfl (pv 0) rfl)) (blkOk_by (own := [("place", 2)]) (N := N_is_even_lot) (sc := defScope s_is_even_lot) (by decide +kernel)) (fun _ _ _ _ _ => (pg_name (i := 2) sc_is_even_lot.nd rfl (.inl rfl))) (fun _ _ _ _ _ => pts_nil) (fun _ _ _ _ _ => (pe_cmpR op_eq (pe_op op_mod (pe_has (has_ends_at T) (hr.mono (by decide)) (by rfl) (pa_cons (pv 0) (pa_cons (pv 1) (pa_cons (pv 2) pa_nil)))) pe_int) pe_int (nomark _)))) pa_nil)))), fun x hx => ?_⟩)
  obtain ⟨x, lot⟩ := x
  obtain ⟨ok, hi, hl⟩ := hx
  simp only at ok hi hl
  show SD C _ ⟨[], [.im (dW x), .im (.tup (dN lot)), .no]⟩ _ _
  refine sd_ret (ev_cbD (ea1 ((ev_map (C := C) (js := [2]) x.1 (fun c => D.s (st [c])) (fun c => D.b (decide (endsOf x lot c % 2 = 0))) (fun c l => l.set 2 (.im (.s (st [c])))) ((ei_str (evw_places T.cl T.nP (ev_v rfl))).to (signs_st _)) (fun _ _ => eg_name) (by have := ok.len; omega) (fun c hc => ?_)).dat.to ?_)) (cr_allD (bs := x.1.map fun c => decide (endsOf x lot c % 2 = 0)))) rfl
  · refine (ev_opD (ev_opD (ev_callD (R := (· = .i (endsOf x lot c))) (x, lot, c) (ea3 (ev_v rfl) (ev_v rfl) (ev_v rfl)) ⟨ok, hi, hl, hc⟩ fun _ h => h) ev_c (rr_mod (by decide))) ev_c rr_eqI).to ?_
    congr 1
    have e : ((endsOf x lot c : Int) % 2 = 0) = (endsOf x lot c % 2 = 0) := by
      apply propext
      omega
    simp only [e]
  · unfold dB
    rw [List.map_map]
    rfl
end Wr
set_option maxHeartbeats 4000000
namespace Wr
open PySem L2
theorem snocInd {α : Type} {motive : List α → Prop} (l : List α) (nil : motive []) (append : ∀ (l : List α) (c : α), motive l → motive (l ++ [c])) : motive l := by
  have h : ∀ l : List α, motive l.reverse := by
    intro l
    induction l with
    | nil => exact nil
    | cons a l ih =>
      rw [List.reverse_cons]
      exact append _ _ ih
  have := h l.reverse
  rwa [List.reverse_reverse] at this
theorem LETTERS_eq : ("abcdefgh" : PySem.Str) = st (letters 8) := by decide +kernel
theorem letters_nodup (n : Nat) : (letters n).Nodup := by
  unfold letters
  rw [List.Nodup, List.pairwise_map]
  exact List.pairwise_lt_range.imp fun h => by omega
theorem letters_len (n : Nat) : (letters n).length = n := by
  unfold letters
  rw [List.length_map, List.length_range]
theorem letters_mem {n c : Nat} : c ∈ letters n ↔ 97 ≤ c ∧ c < 97 + n := by
  unfold letters
  rw [List.mem_map]
  constructor
  · rintro ⟨i, hi, rfl⟩
    have := List.mem_range.mp hi
    omega
  · rintro ⟨h1, h2⟩
    exact ⟨c - 97, List.mem_range.mpr (by omega), by omega⟩
theorem st1_inj {a b : Nat} (h : st [a] = st [b]) : a = b := by
  have := st_inj.mp h
  simpa using this
theorem dB_all_true {α : Type} (l : List α) : (l.map fun _ => true).all id = true := by
  rw [List.all_map]
  exact List.all_eq_true.mpr fun _ _ => rfl
abbrev N_are_letters : List PySem.Str := ["value", "letter"]
theorem sc_are_letters : FnScope N_are_letters ["value"] (defScope s_are_letters) := ⟨rfl, rfl, rfl, by decide +kernel, rfl, by decide +kernel, by decide +kernel⟩
def sp_are_letters (C : Cn) : Sp := spT C (fun n : Nat => [.s (st (letters n))]) (fun n => n ≤ 5) (fun x d => d = .b true)
theorem has_are_letters {P : Program} {w : World} {K : PySem.W.Frag} {mg : PySem.Str → Option Value} {base : Heap} {C : Cn} (T : Tx K mg C.cls) : Has P w K mg base 3 "are_letters" ["value"] (sp_are_letters C) := by
  refine fn_has T 7 (d := d_are_letters) rfl rfl (N := N_are_letters) sc_are_letters rfl rfl (fun _ _ _ _ _ _ us hl => match us, hl with | [_], _ => rfl) (fun _ => rfl) (fun cdv A' outer s H E hr => ⟨_, (pss_cons (ps_if (PW.pt (pw_or (pt_not (pt_val (pe_callB call_isi (by rfl) T.xisinstance bt_isinstance (pa_cons (pv 0) (pa_cons (pe_bltn (v := .ty "str") (by rfl) T.xstr bt_str rfl) pa_nil))))) (pw_or1 (pt_cmpR op_ne (pe_callB call_lenD (by rfl) T.xlen bt_len (pa_cons (pe_dc (own := [("letter", 1)]) (g := gName 1) (tt := tYes) rfl sc_are_letters.nd (pi_str (pv 0)) (blkOk_by (own := [("letter", 1)]) (N := N_are_letters) (sc := defScope s_are_letters) (by decide +kernel)) (fun _ _ _ _ _ => (pg_name (i := 1) sc_are_letters.nd rfl (.inl rfl))) (fun _ _ _ _ _ => pts_nil) (fun _ _ _ _ _ => (pv 1)) (fun _ _ _ _ _ => pe_bl)) pa_nil)) (pe_callB (k_call_len (K := K) rfl) (by rfl) T.xlen bt_len (pa_cons (pv 0) pa_nil)) (nomark _))))) (pss_one (ps_ret pe_bl)) pss_nil)
      (pss_one (ps_ret (pe_callB (k_cr_all (K := K) rfl rfl) (by rfl) T.xall bt_all (pa_cons (pe_lc (own := [("letter", 1)]) (g := gName 1) (tt := tYes) rfl sc_are_letters.nd (pi_str (pv 0)) (blkOk_by (own := [("letter", 1)]) (N := N_are_letters) (sc := defScope s_are_letters) (by decide +kernel)) (fun _ _ _ _ _ => (pg_name (i := 1) sc_are_letters.nd rfl (.inl rfl))) (fun _ _ _ _ _ => pts_nil) (fun _ _ _ _ _ => (pe_cmpR op_in_sign (pv 1) (pe_globS rfl T.sLETTERS) rfl))) pa_nil))))), fun x hx => ?_⟩)
  show SD C _ ⟨[], [.im (.s (st (letters x))), .no]⟩ _ _
  have hx : x ≤ 5 := hx
  have hl := letters_len x
  refine sq_no ((et_or (a := false) (b := false) (et_not (a := true) (et_B (ev_cbD (ea2 (ev_v rfl) ev_c) (cr_isiS (b := true) (by decide +kernel))))) fun _ => et_test ?_)) ?_
  · refine (ev_opD (x := .i ((letters x).map fun c => st [c]).length) (y := .i (st (letters x)).length) (ev_cbD (ea1 (ev_dc (C := C) (js := [1]) (letters x) (fun c => D.s (st [c])) (fun c => st [c]) (fun _ => .b true) (fun c l => l.set 1 (.im (.s (st [c])))) ((ei_str (ev_v rfl)).to (signs_st _)) (fun _ _ => eg_name) (by omega) ?_ (fun _ _ => ev_v rfl) (fun _ _ => ev_c)).dat) cr_lenD) (ev_lenS (by rw [st_len]; omega) (ev_v rfl)) rr_neI).to ?_
    · rw [List.Nodup, List.pairwise_map]
      exact (letters_nodup x).imp fun h e => h (st1_inj e)
    · rw [st_len, List.length_map]
      simp
  · refine sd_ret ((ev_cbD (ea1 ((ev_map (C := C) (js := [1]) (letters x) (fun c => D.s (st [c])) (fun _ => .b true) (fun c l => l.set 1 (.im (.s (st [c])))) ((ei_str (ev_v rfl)).to (signs_st _)) (fun _ _ => eg_name) (by omega) (fun c hc => ?_)).dat.to ?_)) (cr_allD (bs := (letters x).map fun _ => true))).to ?_) rfl
    · rw [LETTERS_eq]
      refine (ev_opD (ev_v rfl) ev_c rr_inL).to ?_
      rw [decide_eq_true]
      rw [letters_mem] at hc ⊢
      omega
    · unfold dB
      rw [List.map_map]
      rfl
    · rw [dB_all_true]
theorem srtC_id {l : List Nat} (h : l.Pairwise (· < ·)) : srtC l = l := by
  unfold srtC
  rw [PySem.W.dataLe_str]
  refine List.mergeSort_of_pairwise (h.imp fun {a b} hab => ?_)
  refine decide_eq_true ?_
  show [a] ≤ [b]
  refine Std.not_lt.mp fun z => ?_
  rw [List.cons_lt_cons_iff] at z
  rcases z with z | ⟨z, z2⟩
  · omega
  · exact absurd z2 (by simp)
theorem letters_sorted (n : Nat) : (letters n).Pairwise (· < ·) := by
  unfold letters
  rw [List.pairwise_map]
  exact List.pairwise_lt_range.imp fun h => by omega
theorem shp_signs (l : List Nat) : shpL (l.map fun c => D.s (st [c])) = true := by
  induction l with
  | nil => rfl
  | cons a l ih =>
    rw [List.map_cons, shpL, ih]
    rfl
abbrev N_are_places : List PySem.Str := ["value"]
theorem sc_are_places : FnScope N_are_places ["value"] (defScope s_are_places) := ⟨rfl, rfl, rfl, by decide +kernel, rfl, by decide +kernel, by decide +kernel⟩
def sp_are_places (C : Cn) : Sp := spT C (fun n : Nat => [.s (st (letters n))]) (fun n => 1 ≤ n ∧ n ≤ 5) (fun x d => d = .b true)
theorem shaped_letters : ∀ n ∈ List.range 6, PySem.SeqAt.shaped (encD (.lst ((letters n).map fun c => D.s (st [c])))) = true ∧ PyData.eqv (encD (.lst ((letters n).map fun c => D.s (st [c])))) (encD (.lst ((letters n).map fun c => D.s (st [c])))) = true := by decide +kernel
theorem has_are_places {P : Program} {w : World} {K : PySem.W.Frag} {mg : PySem.Str → Option Value} {base : Heap} {C : Cn} (T : Tx K mg C.cls) : Has P w K mg base 4 "are_places" ["value"] (sp_are_places C) := by
  refine fn_has T 8 (d := d_are_places) rfl rfl (N := N_are_places) sc_are_places rfl rfl (fun _ _ _ _ _ _ us hl => match us, hl with | [_], _ => rfl) (fun _ => rfl) (fun cdv A' outer s H E hr => ⟨_, (pss_one (ps_ret (pe_and (pe_has (has_are_letters T) (hr.mono (by decide)) (by rfl) (pa_cons (pv 0) pa_nil)) (pe_and (pe_chain op_lt op_le pe_int (pe_callB (k_call_len (K := K) rfl) (by rfl) T.xlen bt_len (pa_cons (pv 0) pa_nil)) (pe_globI rfl T.iMOST_PLACES)) (pe_one (pe_cmpR (op_eqD hr.units) (pe_callTy (call_listS rfl) (by rfl) T.xlist bt_list (pa_cons (pv 0) pa_nil)) (pe_callB (call_sortS rfl hr.units) (by rfl) T.xsorted bt_sorted (pa_cons (pv 0) pa_nil)) (nomark _))))))), fun x hx => ?_⟩)
  obtain ⟨h1, h2⟩ := hx
  show SD C _ ⟨[], [.im (.s (st (letters x)))]⟩ _ _
  have hl := letters_len x
  have sh := shaped_letters x (List.mem_range.mpr (by omega))
  refine sd_ret ((ev_andV (a := true) (b := true) (ev_callD (R := (· = .b true)) x (ea1 (ev_v rfl)) h2 fun _ h => h) fun _ => ev_andV (a := true) (b := true) ?_ fun _ => ?_)) rfl
  · refine (ev_chain (x := .int 0) (y := .int (st (letters x)).length) (z := .int 7) (a := true) (b := true) ev_c (ev_lenS (by rw [st_len]; omega) (ev_v rfl)) (fun _ => ev_c) (fun H Q q => ⟨_, _, rfl, rfl, ?_⟩) (fun H Q q => ⟨_, _, rfl, rfl, ?_⟩))
    · rw [st_len, hl]
      show Q (V.bl (decide ((0 : Int) < (x : Nat)))) H
      rw [decide_eq_true (by omega)]
      exact q
    · rw [st_len, hl]
      show Q (V.bl (decide ((x : Nat) ≤ (7 : Int)))) H
      rw [decide_eq_true (by omega)]
      exact q
  · refine (ev_opD (x := .lst ((letters x).map fun c => D.s (st [c]))) (y := .lst ((letters x).map fun c => D.s (st [c]))) ?_ ?_ (rr_eqD (by rw [shpD]; exact shp_signs _) (by rw [shpD]; exact shp_signs _) sh.1 sh.1)).to ?_
    · refine (ev_cbF (ea1 (ev_v rfl)) (cf_listS (x := st (letters x)) (by rw [st_size]; omega))).dat.to ?_
      rw [st_toList]
      rfl
    · refine (ev_cbF (ea1 (ev_v rfl)) (cf_sortS (x := st (letters x)) (by rw [st_size]; omega))).dat.to ?_
      rw [st_toList, srtC_id (letters_sorted x)]
      rfl
    · rw [sh.2]
abbrev N_is_tie : List PySem.Str := ["places", "value"]
theorem sc_is_tie : FnScope N_is_tie ["places", "value"] (defScope s_is_tie) := ⟨rfl, rfl, rfl, by decide +kernel, rfl, by decide +kernel, by decide +kernel⟩
def sp_is_tie (C : Cn) : Sp := spT C (fun x : List Nat × Tie => [.s (st x.1), .s (tS x.2)]) (fun x => x.2.1 ∈ x.1 ∧ x.2.2 ∈ x.1 ∧ x.2.1 ≤ x.2.2) (fun x d => d = .b true)
theorem has_is_tie {P : Program} {w : World} {K : PySem.W.Frag} {mg : PySem.Str → Option Value} {base : Heap} {C : Cn} (T : Tx K mg C.cls) : Has P w K mg base 3 "is_tie" ["places", "value"] (sp_is_tie C) := by
  refine fn_has T 9 (d := d_is_tie) rfl rfl (N := N_is_tie) sc_is_tie rfl rfl (fun _ _ _ _ _ _ us hl => match us, hl with | [_, _], _ => rfl) (fun _ => rfl) (fun cdv A' outer s H E hr => ⟨_, (pss_cons (ps_if (PW.pt (pw_or (pt_not (pt_val (pe_callB call_isi (by rfl) T.xisinstance bt_isinstance (pa_cons (pv 1) (pa_cons (pe_bltn (v := .ty "str") (by rfl) T.xstr bt_str rfl) pa_nil))))) (pw_or1 (pt_cmpR op_ne (pe_callB (k_call_len (K := K) rfl) (by rfl) T.xlen bt_len (pa_cons (pv 1) pa_nil)) pe_int (nomark _))))) (pss_one (ps_ret pe_bl)) pss_nil)
      (pss_one (ps_ret (pe_and (pe_cmpR op_in_sign (pe_ix ix_str (pv 1) pe_int (fun _ _ => rfl)) (pv 0) rfl) (pe_and (pe_cmpR op_in_sign (pe_ix ix_str (pv 1) pe_int (fun _ _ => rfl)) (pv 0) rfl) (pe_one (pe_cmpR op_le_str (pe_ix ix_str (pv 1) pe_int (fun _ _ => rfl)) (pe_ix ix_str (pv 1) pe_int (fun _ _ => rfl)) (nomark _)))))))), fun x hx => ?_⟩)
  obtain ⟨l, t⟩ := x
  obtain ⟨h1, h2, h3⟩ := hx
  simp only at h1 h2 h3
  show SD C _ ⟨[], [.im (.s (st l)), .im (.s (tS t))]⟩ _ _
  refine sq_no ((et_or (a := false) (b := false) (et_not (a := true) (et_B (ev_cbD (ea2 (ev_v rfl) ev_c) (cr_isiS (b := true) (by decide +kernel))))) fun _ => et_test ?_)) ?_
  · exact (ev_opD (x := .i 2) (ev_lenS (z := tS t) (by show 2 ≤ 100000; decide) (ev_v rfl)) ev_c rr_neI)
  · refine sd_ret (ev_andV (a := true) (b := true) ((ev_opD (ev_t0 (ev_v rfl)) (ev_v rfl) rr_inL).to (by rw [decide_eq_true h1])) fun _ => ev_andV (a := true) (b := true) ((ev_opD (ev_t1 (ev_v rfl)) (ev_v rfl) rr_inL).to (by rw [decide_eq_true h2])) fun _ => (ev_opD (ev_t0 (ev_v rfl)) (ev_t1 (ev_v rfl)) rr_leS).to ?_) rfl
    rw [st_toList, st_toList, decide_eq_false]
    · rfl
    · rw [List.cons_lt_cons_iff]
      rintro (z | ⟨z, z2⟩)
      · omega
      · exact absurd z2 (by simp)
abbrev N_wrong_tie : List PySem.Str := ["places", "ties", "index", "tie"]
theorem sc_wrong_tie : FnScope N_wrong_tie ["places", "ties"] (defScope s_wrong_tie) := ⟨rfl, rfl, rfl, by decide +kernel, rfl, by decide +kernel, by decide +kernel⟩
def sp_wrong_tie (C : Cn) : Sp := spT C (fun x : W => [.s (st x.1), .tup (x.2.map fun t => D.s (tS t))]) WOk (fun x d => d = .n)
theorem has_wrong_tie {P : Program} {w : World} {K : PySem.W.Frag} {mg : PySem.Str → Option Value} {base : Heap} {C : Cn} (T : Tx K mg C.cls) : Has P w K mg base 4 "wrong_tie" ["places", "ties"] (sp_wrong_tie C) := by
  refine fn_has T 10 (d := d_wrong_tie) rfl rfl (N := N_wrong_tie) sc_wrong_tie rfl rfl (fun _ _ _ _ _ _ us hl => match us, hl with | [_, _], _ => rfl) (fun _ => rfl) (fun cdv A' outer s H E hr => ⟨_, (pss_cons (ps_for PassesOwn.never rfl (k_pi_enumT (K := K) rfl (by rfl) T.xenumerate (pa_cons (pv 1) pa_nil)) (pg_tup rfl (pgs_cons (pg_name (i := 2) sc_wrong_tie.nd rfl (.inl rfl)) (pgs_cons (pg_name (i := 3) sc_wrong_tie.nd rfl (.inl rfl)) pgs_nil))) (pss_one (ps_if (PW.pt (pw_or (pt_cmpR op_eq (pv 2) (pe_globI rfl T.iMOST_TIES) (nomark _)) (pw_or1 (pt_not (pt_val (pe_has (has_is_tie T) (hr.mono (by decide)) (by rfl) (pa_cons (pv 0) (pa_cons (pv 3) pa_nil)))))))) (pss_one (ps_ret (pv 2))) pss_nil)))
      (pss_one (ps_ret pe_non))), fun x hx => ?_⟩)
  show SD C _ ⟨[], [.im (.s (st x.1)), .im (.tup (x.2.map fun t => D.s (tS t))), .no, .no]⟩ _ _
  have nt := WOk.nt hx
  refine sq_for (C := C) (js := [2, 3]) (List.range x.2.length) (fun i => D.tup [D.i (i : Nat), .s (tS (tieAt x i))]) (fun i l => (l.set 2 (.im (.i (i : Nat)))).set 3 (.im (.s (tS (tieAt x i))))) (fun i G => ∃ a b, G = ⟨[], [.im (.s (st x.1)), .im (.tup (x.2.map fun t => D.s (tS t))), a, b]⟩)
    ((ei_enumT (ea1 (ev_v rfl))).to (enumD_map (fun t : Tie => D.s (tS t)) x.2 (0, 0))) (fun _ _ => eg_pair) ⟨.no, .no, rfl⟩ ?_ ?_
  · rintro i j G hi ⟨a, b, rfl⟩
    have hj : j < x.2.length := List.mem_range.mp (List.mem_of_getElem? hi)
    refine sd_no (et_or (a := false) (b := false) (et_test ((ev_opD (ev_v rfl) ev_c rr_eqI).to ?_)) fun _ => et_not (a := true) (et_B (ev_callD (R := (· = .b true)) (x.1, tieAt x j) (ea2 (ev_v rfl) (ev_v rfl)) (WOk.ts hx _ (tieAt_mem hj)) fun _ h => h))) ⟨_, _, rfl⟩
    rw [decide_eq_false (by omega)]
  · rintro G ⟨a, b, rfl⟩
    exact sd_ret ev_c rfl
abbrev N_all_herds : List PySem.Str := ["web", "found", "place", "herd"]
theorem sc_all_herds : FnScope N_all_herds ["web"] (defScope s_all_herds) := ⟨rfl, rfl, rfl, by decide +kernel, rfl, by decide +kernel, by decide +kernel⟩
def herdsA (l : List Nat) : List (List Nat) := l.foldl (fun acc c => acc ++ acc.map fun h => h ++ [c]) [[]]
theorem herdsA_snoc (l : List Nat) (c : Nat) : herdsA (l ++ [c]) = herdsA l ++ (herdsA l).map fun h => h ++ [c] := by
  unfold herdsA
  rw [List.foldl_append]
  rfl
theorem herdsA_len (l : List Nat) : (herdsA l).length = 2 ^ l.length := by
  induction l using snocInd with
  | nil => rfl
  | append l c ih =>
    rw [herdsA_snoc, List.length_append, List.length_map, ih, List.length_append]
    show _ = 2 ^ (l.length + 1)
    rw [Nat.pow_succ]
    omega
theorem herdsA_short {l h : List Nat} (hm : h ∈ herdsA l) : h.length ≤ l.length := by
  induction l using snocInd generalizing h with
  | nil =>
    have : h = [] := by simpa [herdsA] using hm
    rw [this]
    exact Nat.le_refl _
  | append l c ih =>
    rw [herdsA_snoc] at hm
    rw [List.length_append]
    rcases List.mem_append.mp hm with m | m
    · exact Nat.le_trans (ih m) (Nat.le_add_right _ _)
    · obtain ⟨g, hg, rfl⟩ := List.mem_map.mp m
      rw [List.length_append]
      exact Nat.add_le_add_right (ih hg) _
def sp_all_herds (C : Cn) : Sp := spT C (fun x : W => [dW x]) WOk (fun x d => d = .lst ((herdsA x.1.dropLast).map fun h => D.s (st h)))
theorem has_all_herds {P : Program} {w : World} {K : PySem.W.Frag} {mg : PySem.Str → Option Value} {base : Heap} {C : Cn} (T : Tx K mg C.cls) : Has P w K mg base 1 "all_herds" ["web"] (sp_all_herds C) := by
  refine fn_has T 30 (d := d_all_herds) rfl rfl (N := N_all_herds) sc_all_herds rfl rfl (fun _ _ _ _ _ _ us hl => match us, hl with | [_], _ => rfl) (fun _ => rfl) (fun cdv A' outer s H E hr => ⟨_, (pss_cons (ps_set (i := 1) sc_all_herds.nd rfl (.inl rfl) (pe_lst (pa_cons pe_str pa_nil)))
      (pss_cons (ps_for PassesOwn.never rfl (pi_str (pe_slice sl_str (k_pe_fld (K := K) rfl (pv 0) rfl) po_none (po_some (pe_un un_neg pe_int)))) (pg_name (i := 2) sc_all_herds.nd rfl (.inr rfl)) (pss_one (ps_set (i := 1) sc_all_herds.nd rfl (.inl rfl) (pe_op op_cat (pv 1) (pe_lc (own := [("herd", 3)]) (g := gName 3) (tt := tYes) rfl sc_all_herds.nd (k_pi_list (K := K) rfl (pv 1)) (blkOk_by (own := [("herd", 3)]) (N := N_all_herds) (sc := defScope s_all_herds) (by decide +kernel)) (fun _ _ _ _ _ => (pg_name (i := 3) sc_all_herds.nd rfl (.inl rfl))) (fun _ _ _ _ _ => pts_nil) (fun _ _ _ _ _ => (pe_op op_add_str (pv 3) (pv 2))))))))
      (pss_one (ps_ret (pv 1))))), fun x hx => ?_⟩)
  have len := WOk.len hx
  show SD C _ ⟨[], [.im (dW x), .no, .no, .no]⟩ _ _
  have hd : x.1.dropLast.length ≤ 4 := by rw [List.length_dropLast]; omega
  refine sq_asg (d := .lst ((herdsA []).map fun h => D.s (st h))) (ev_lst (ea1 ev_c)).dat ?_
  refine sq_for (C := C) (js := [2]) x.1.dropLast (fun c => D.s (st [c])) (fun c l => l.set 2 (.im (.s (st [c])))) (fun i G => ∃ a, G = ⟨[], [.im (dW x), .im (.lst ((herdsA (x.1.dropLast.take i)).map fun h => D.s (st h))), a, .no]⟩)
    ((ei_str (ev_slS (by rw [st_len]; omega) (evw_places T.cl T.nP (ev_v rfl)) eo_no (eo_i (ev_neg ev_c)))).to (by rw [cut_last, signs_st])) (fun _ _ => eg_name) ⟨.no, rfl⟩ ?_ ?_
  · rintro i c G hi ⟨a, rfl⟩
    have hil : i < x.1.dropLast.length := (List.getElem?_eq_some_iff.mp hi).1
    have hL : (herdsA (x.1.dropLast.take i)).length ≤ 16 := by
      rw [herdsA_len, List.length_take]
      exact Nat.le_trans (Nat.pow_le_pow_right (by decide : 0 < 2) (show min i x.1.dropLast.length ≤ 4 by omega)) (by decide)
    have hS : ∀ h ∈ herdsA (x.1.dropLast.take i), h.length ≤ 4 := fun h hh => Nat.le_trans (herdsA_short hh) (by rw [List.length_take]; omega)
    refine sd_asg (d := .lst ((herdsA (x.1.dropLast.take (i + 1))).map fun h => D.s (st h))) ?_ ⟨_, rfl⟩
    rw [List.take_add_one, hi]
    show EvD _ _ _ (.lst ((herdsA (_ ++ [c])).map _))
    rw [herdsA_snoc, List.map_append, List.map_map]
    refine (ev_opF (ev_v rfl) (ev_map (C := C) (js := [3]) (herdsA (x.1.dropLast.take i)) (fun h => D.s (st h)) ((fun h => D.s (st h)) ∘ fun h => h ++ [c]) (fun h l => l.set 3 (.im (.s (st h)))) (ei_list (ev_v rfl)) (fun _ _ => eg_name) (by omega) (fun h hh => ?_)).dat (rf_cat (by rw [List.length_map, List.length_map]; omega))).dat
    have h4 := hS h hh
    refine (ev_opD (ev_v rfl) (ev_v rfl) (rr_addS (by rw [st_len, st_len]; show h.length + 1 ≤ _; omega))).to ?_
    rw [st_app]
    rfl
  · rintro G ⟨a, rfl⟩
    rw [List.take_length]
    exact sd_ret (ev_v rfl) rfl
abbrev N_summed_at : List PySem.Str := ["counts", "number", "index", "own"]
theorem sc_summed_at : FnScope N_summed_at ["counts", "number"] (defScope s_summed_at) := ⟨rfl, rfl, rfl, by decide +kernel, rfl, by decide +kernel, by decide +kernel⟩
def sumAt (cs : List Int) (k : Int) : Int := ((List.range cs.length).map fun i => cs.getD i 0 * k ^ i).sum
def sp_summed_at (C : Cn) : Sp := spT C (fun x : List Int × Int => [.lst (dI x.1), .i x.2]) (fun x => Sm 20 x.2 ∧ x.1.length ≤ 100 ∧ ∀ c ∈ x.1, Sm 100 c) (fun x d => d = .i (sumAt x.1 x.2))
theorem has_summed_at {P : Program} {w : World} {K : PySem.W.Frag} {mg : PySem.Str → Option Value} {base : Heap} {C : Cn} (T : Tx K mg C.cls) : Has P w K mg base 2 "summed_at" ["counts", "number"] (sp_summed_at C) := by
  refine fn_has T 61 (d := d_summed_at) rfl rfl (N := N_summed_at) sc_summed_at rfl rfl (fun _ _ _ _ _ _ us hl => match us, hl with | [_, _], _ => rfl) (fun _ => rfl) (fun cdv A' outer s H E hr => ⟨_, (pss_one (ps_ret (pe_callB (k_cr_sum (K := K) rfl rfl) (by rfl) T.xsum bt_sum (pa_cons (pe_lc (own := [("index", 2), ("own", 3)]) (g := gTup K 2 (gCons (gName 2) (gCons (gName 3) gNil))) (tt := tYes) rfl sc_summed_at.nd (k_pi_enum (K := K) rfl (by rfl) T.xenumerate (pa_cons (pv 0) pa_nil)) (blkOk_by (own := [("index", 2), ("own", 3)]) (N := N_summed_at) (sc := defScope s_summed_at) (by decide +kernel)) (fun _ _ _ _ _ => (pg_tup rfl (pgs_cons (pg_name (i := 2) sc_summed_at.nd rfl (.inl rfl)) (pgs_cons (pg_name (i := 3) sc_summed_at.nd rfl (.inl rfl)) pgs_nil)))) (fun _ _ _ _ _ => pts_nil) (fun _ _ _ _ _ => (pe_op op_mulW (pv 3) (pe_has (has_power T) (hr.mono (by decide)) (by rfl) (pa_cons (pv 1) (pa_cons (pv 2) pa_nil)))))) pa_nil)))), fun x hx => ?_⟩)
  obtain ⟨cs, k⟩ := x
  obtain ⟨h1, h2, h3⟩ := hx
  simp only at h1 h2 h3
  show SD C _ ⟨[], [.im (.lst (dI cs)), .im (.i k), .no, .no]⟩ _ _
  refine sd_ret (ev_cbD (ea1 ((ev_map (C := C) (js := [2, 3]) (List.range cs.length) (fun i => D.tup [D.i (i : Nat), .i (cs.getD i 0)]) (fun i => D.i (cs.getD i 0 * k ^ i)) (fun i l => (l.set 2 (.im (.i (i : Nat)))).set 3 (.im (.i (cs.getD i 0)))) ((ei_enum (ea1 (ev_v rfl))).to (enumD_map (fun n : Int => D.i n) cs 0)) (fun _ _ => eg_pair) (by rw [List.length_range]; omega) (fun i hi => ?_)).dat.to ?_)) (cr_sumD (ns := (List.range cs.length).map fun i => cs.getD i 0 * k ^ i))) rfl
  · have hi : i < cs.length := List.mem_range.mp hi
    have hc : Sm 100 (cs.getD i 0) := by
      rw [List.getD_eq_getElem?_getD, List.getElem?_eq_getElem hi]
      exact h3 _ (List.getElem_mem hi)
    refine ev_opD (ev_v rfl) (ev_callD (R := (· = .i (k ^ i))) (k, i) (ea2 (ev_v rfl) (ev_v rfl)) ⟨h1, by show i ≤ 1000; omega⟩ fun _ h => h) (rr_mulW (hc.cmul (h1.pow i) (by omega)))
  · unfold dI
    rw [List.map_map]
    rfl
end Wr
set_option maxHeartbeats 4000000
namespace Wr
open PySem L2
/-! ### herds -/
def hits (t : Tie) (h : List Nat) : Bool := decide (t.1 ∈ h) || decide (t.2 ∈ h)
def hStep (f : List (List Nat)) (t : Tie) : List (List Nat) := srtC (f.filter (hits t)).flatten :: f.filter fun h => !decide (h ∈ f.filter (hits t))
def herdsF (l : List Nat) (ts : List Tie) : List (List Nat) := ts.foldl hStep (l.map fun c => [c])
theorem hStep_eq (f : List (List Nat)) (t : Tie) : hStep f t = srtC (f.filter (hits t)).flatten :: f.filter fun h => !hits t h := by
  unfold hStep
  congr 1
  refine List.filter_congr fun h hm => ?_
  congr 1
  have : h ∈ f.filter (hits t) ↔ hits t h = true := by
    rw [List.mem_filter]
    exact ⟨fun z => z.2, fun z => ⟨hm, z⟩⟩
  by_cases z : hits t h = true
  · rw [decide_eq_true (this.mpr z), z]
  · rw [decide_eq_false fun y => z (this.mp y)]
    simpa using z
theorem hStep_flat (f : List (List Nat)) (t : Tie) : (hStep f t).flatten.Perm f.flatten := by
  rw [hStep_eq, List.flatten_cons]
  refine ((srtC_perm _).append_right _).trans ?_
  rw [← List.flatten_append]
  exact (List.filter_append_perm (hits t) f).flatten
theorem hStep_len (f : List (List Nat)) (t : Tie) : (hStep f t).length ≤ f.length + 1 := by
  unfold hStep
  rw [List.length_cons]
  exact Nat.succ_le_succ (List.length_filter_le ..)
theorem herdsF_snoc (l : List Nat) (ts : List Tie) (t : Tie) : herdsF l (ts ++ [t]) = hStep (herdsF l ts) t := by
  unfold herdsF
  rw [List.foldl_append]
  rfl
theorem flat_ones (l : List Nat) : (l.map fun c => [c]).flatten = l := by
  induction l with
  | nil => rfl
  | cons a l ih => rw [List.map_cons, List.flatten_cons, ih]; rfl
theorem herdsF_flat (l : List Nat) (ts : List Tie) : (herdsF l ts).flatten.Perm l := by
  induction ts using snocInd with
  | nil =>
    show (l.map fun c => [c]).flatten.Perm l
    rw [flat_ones]
  | append ts t ih =>
    rw [herdsF_snoc]
    exact (hStep_flat _ _).trans ih
theorem herdsF_len (l : List Nat) (ts : List Tie) : (herdsF l ts).length ≤ l.length + ts.length := by
  induction ts using snocInd with
  | nil =>
    show (l.map fun c => [c]).length ≤ _
    rw [List.length_map]
    exact Nat.le_add_right ..
  | append ts t ih =>
    rw [herdsF_snoc, List.length_append]
    exact Nat.le_trans (hStep_len _ _) (Nat.succ_le_succ ih)
theorem dS_st (l : List (List Nat)) : dS (l.map st) = l.map fun h => D.s (st h) := by
  unfold dS
  rw [List.map_map]
  rfl
theorem mem_st {h : List Nat} {l : List (List Nat)} : decide (st h ∈ l.map st) = decide (h ∈ l) := by
  by_cases z : h ∈ l
  · rw [decide_eq_true z, decide_eq_true (List.mem_map.mpr ⟨h, z, rfl⟩)]
  · rw [decide_eq_false z, decide_eq_false]
    intro y
    obtain ⟨g, hg, e⟩ := List.mem_map.mp y
    exact z (st_inj.mp e ▸ hg)
theorem sum_len (l : List (List Nat)) : ((l.map st).map (·.length)).sum = l.flatten.length := by
  rw [List.map_map, List.length_flatten]
  exact congrArg List.sum (List.map_congr_left fun h _ => st_len h)
theorem shp_strs (l : List (List Nat)) : shpL (l.map fun h => D.s (st h)) = true := by
  induction l with
  | nil => rfl
  | cons a l ih =>
    rw [List.map_cons, shpL, ih]
    rfl
theorem srt_strs (l : List (List Nat)) : SrtOk (encL (l.map fun h => D.s (st h))) := by
  have e : encL (l.map fun h => D.s (st h)) = l.map fun h => PyData.str (st h) := by
    rw [encL_map, List.map_map]
    rfl
  rw [e]
  refine ⟨PySem.W.AllAlike.of fun b b' => by simp [PySem.W.alike], .inl (PySem.W.Sortable.others fun b => ⟨by simp, by simp⟩), fun d hd => ?_⟩
  obtain ⟨h, _, rfl⟩ := List.mem_map.mp hd
  simp [PyData.depth]
theorem sortD_strs (l : List (List Nat)) : ∃ m : List (List Nat), m.Perm l ∧ sortD (l.map fun h => D.s (st h)) = m.map fun h => D.s (st h) := by
  obtain ⟨m, h1, h2⟩ := L2.perm_lift (fun h => D.s (st h)) (sortD_perm (l.map fun h => D.s (st h))) l rfl
  exact ⟨m, h1, h2.symm⟩
def dHs (l : List (List Nat)) : D := .lst (l.map fun h => D.s (st h))
abbrev N_herds_of : List PySem.Str := ["places", "ties", "found", "one", "other", "joined", "whole", "herd"]
theorem sc_herds_of : FnScope N_herds_of ["places", "ties"] (defScope s_herds_of) := ⟨rfl, rfl, rfl, by decide +kernel, rfl, by decide +kernel, by decide +kernel⟩
def sp_herds_of (C : Cn) : Sp := spT C (fun x : W => [.s (st x.1), .lst (x.2.map fun t => D.s (tS t))]) (fun x => x.1.length ≤ 100 ∧ x.2.length ≤ 100) (fun x d => ∃ m, m.Perm (herdsF x.1 x.2) ∧ d = dHs m)
theorem has_herds_of {P : Program} {w : World} {K : PySem.W.Frag} {mg : PySem.Str → Option Value} {base : Heap} {C : Cn} (T : Tx K mg C.cls) : Has P w K mg base 1 "herds_of" ["places", "ties"] (sp_herds_of C) := by
  refine fn_has T 16 (d := d_herds_of) rfl rfl (N := N_herds_of) sc_herds_of rfl rfl (fun _ _ _ _ _ _ us hl => match us, hl with | [_, _], _ => rfl) (fun _ => rfl) (fun cdv A' outer s H E hr => ⟨_, (pss_cons (ps_set (i := 2) sc_herds_of.nd rfl (.inl rfl) (pe_callTy (call_listS rfl) (by rfl) T.xlist bt_list (pa_cons (pv 0) pa_nil)))
      (pss_cons (ps_for PassesOwn.never rfl (k_pi_list (K := K) rfl (pv 1)) (pg_str2 rfl (pgs_cons (pg_name (i := 3) sc_herds_of.nd rfl (.inr rfl)) (pgs_cons (pg_name (i := 4) sc_herds_of.nd rfl (.inr rfl)) pgs_nil))) (pss_cons (ps_set (i := 5) sc_herds_of.nd rfl (.inr rfl) (pe_lc (own := [("herd", 7)]) (g := gName 7) rfl sc_herds_of.nd (k_pi_list (K := K) rfl (pv 2)) (blkOk_by (own := [("herd", 7)]) (N := N_herds_of) (sc := defScope s_herds_of) (by decide +kernel)) (fun _ _ _ _ _ => (pg_name (i := 7) sc_herds_of.nd rfl (.inl rfl))) (fun _ _ _ _ _ => (pts_one (PW.pt (pw_or (pt_cmpR op_in_sign (pv 3) (pv 7) rfl) (pw_or1 (pt_cmpR op_in_sign (pv 4) (pv 7) rfl)))))) (fun _ _ _ _ _ => (pv 7))))
      (pss_cons (ps_set (i := 6) sc_herds_of.nd rfl (.inl rfl) (pe_join pe_str (pe_callB (call_sortS rfl hr.units) (by rfl) T.xsorted bt_sorted (pa_cons (pe_join pe_str (pv 5)) pa_nil))))
      (pss_one (ps_set (i := 2) sc_herds_of.nd rfl (.inl rfl) (pe_op op_cat (pe_lst (pa_cons (pv 6) pa_nil)) (pe_lc (own := [("herd", 7)]) (g := gName 7) rfl sc_herds_of.nd (k_pi_list (K := K) rfl (pv 2)) (blkOk_by (own := [("herd", 7)]) (N := N_herds_of) (sc := defScope s_herds_of) (by decide +kernel)) (fun _ _ _ _ _ => (pg_name (i := 7) sc_herds_of.nd rfl (.inl rfl))) (fun _ _ _ _ _ => (pts_one (pt_cmpR (k_op_notIn_seq (K := K) rfl) (pv 7) (pv 5) (by rfl)))) (fun _ _ _ _ _ => (pv 7)))))))))
      (pss_one (ps_ret (pe_callB (k_call_sort (K := K) hr.units rfl) (by rfl) T.xsorted bt_sorted (pa_cons (pv 2) pa_nil)))))), fun x hx => ?_⟩)
  obtain ⟨h1, h2⟩ := hx
  show SD C _ ⟨[], [.im (.s (st x.1)), .im (.lst (x.2.map fun t => D.s (tS t))), .no, .no, .no, .no, .no, .no]⟩ _ _
  refine sq_asg (d := dHs (herdsF x.1 [])) ((ev_cbF (ea1 (ev_v rfl)) (cf_listS (x := st x.1) (by rw [st_size]; omega))).dat.to ?_) ?_
  · rw [st_toList]
    show D.lst (x.1.map _) = D.lst ((x.1.map _).map _)
    rw [List.map_map]
    rfl
  refine sq_for (C := C) (js := [3, 4]) x.2 (fun t => D.s (tS t)) (fun t l => (l.set 3 (.im (.s ⟨#[t.1]⟩))).set 4 (.im (.s ⟨#[t.2]⟩))) (fun i G => ∃ a b c e, G = ⟨[], [.im (.s (st x.1)), .im (.lst (x.2.map fun t => D.s (tS t))), .im (dHs (herdsF x.1 (x.2.take i))), a, b, c, e, .no]⟩)
    (ei_list (ev_v rfl)) (fun t _ => eg_str2 (a := t.1) (b := t.2)) ⟨.no, .no, .no, .no, rfl⟩ ?_ ?_
  · rintro i t G hi ⟨a, b, c, e, rfl⟩
    have hil : i < x.2.length := (List.getElem?_eq_some_iff.mp hi).1
    have hf := (herdsF_flat x.1 (x.2.take i)).length_eq
    have hl := herdsF_len x.1 (x.2.take i)
    rw [List.length_take] at hl
    generalize hF : herdsF x.1 (x.2.take i) = F at hf hl
    have hj : (F.filter (hits t)).flatten.length ≤ 100 := by
      have := ((List.filter_append_perm (hits t) F).flatten).length_eq
      rw [List.flatten_append, List.length_append] at this
      omega
    refine sq_asg (d := .lst (dS ((F.filter (hits t)).map st))) ?_ ?_
    · rw [dS_st]
      exact (ev_lc (C := C) (js := [7]) F (fun h => D.s (st h)) (hits t) (fun h => D.s (st h)) (fun h l => l.set 7 (.im (.s (st h)))) (ei_list (ev_v rfl)) (fun _ _ => eg_name) (by omega) (fun h hm => et_or (et_test (ev_opD (x := .s (st [t.1])) (ev_v rfl) (ev_v rfl) rr_inL)) fun _ => et_test (ev_opD (x := .s (st [t.2])) (ev_v rfl) (ev_v rfl) rr_inL)) (fun h hm _ => ev_v rfl)).dat
    refine sq_asg (d := .s (st (srtC (F.filter (hits t)).flatten))) ?_ ?_
    · have q1 := ev_cbF (C := C) (G := ⟨[], [.im (.s (st x.1)), .im (.lst (x.2.map fun t => D.s (tS t))), .im (dHs F), .im (.s ⟨#[t.1]⟩), .im (.s ⟨#[t.2]⟩), .im (.lst (dS ((F.filter (hits t)).map st))), e, .no]⟩) (ea1 (ev_join (K := K) (z := st []) (ys := (F.filter (hits t)).map st) ev_c (ev_v (i := 5) rfl) (by rw [sum_len, st_len]; show _ + _ * 0 ≤ _; omega))) (cf_sortS (x := Txt.join (st []) ((F.filter (hits t)).map st)) (by rw [join_st, st_size]; omega))
      have q2 := q1.dat.to (d' := .lst (dS ((srtC (F.filter (hits t)).flatten).map fun c => st [c]))) (by
        rw [join_st, st_toList]
        unfold dS
        rw [List.map_map]
        rfl)
      have e0 : (srtC (F.filter (hits t)).flatten).map (fun c => st [c]) = ((srtC (F.filter (hits t)).flatten).map fun c => [c]).map st := by
        rw [List.map_map]
        rfl
      have hs := (srtC_perm (F.filter (hits t)).flatten).length_eq
      refine (ev_join (K := K) (z := st []) ev_c q2 ?_).to ?_
      · rw [e0, sum_len, flat_ones, st_len]
        show _ + _ * 0 ≤ _
        omega
      · rw [e0, join_st, flat_ones]
    refine sd_asg (d := dHs (herdsF x.1 (x.2.take (i + 1)))) ?_ ⟨_, _, _, _, rfl⟩
    have ht : x.2.take (i + 1) = x.2.take i ++ [t] := by
      rw [List.take_add_one, hi]
      rfl
    rw [ht, herdsF_snoc, hF]
    unfold dHs hStep
    rw [List.map_cons]
    refine (ev_opF (ev_lst (ea1 (ev_v rfl))).dat (ev_lc (C := C) (js := [7]) F (fun h => D.s (st h)) (fun h => !decide (h ∈ F.filter (hits t))) (fun h => D.s (st h)) (fun h l => l.set 7 (.im (.s (st h)))) (ei_list (ev_v rfl)) (fun _ _ => eg_name) (by omega) (fun h hm => ?_) (fun h hm _ => ev_v rfl)).dat (rf_cat ?_)).dat
    · refine (et_test (ev_opD (ev_v rfl) (ev_v rfl) rr_niStrs)).to ?_
      rw [mem_st]
    · rw [List.length_map]
      have := List.length_filter_le (fun h => !decide (h ∈ F.filter (hits t))) F
      show 1 + _ ≤ _
      omega
  · rintro G ⟨a, b, c, e, rfl⟩
    rw [List.take_length]
    obtain ⟨m, hm, e2⟩ := sortD_strs (herdsF x.1 x.2)
    refine sd_ret (d := dHs m) ((ev_cbF (ea1 (ev_v rfl)) (cf_sort (shp_strs _) (srt_strs _))).dat.to ?_) ⟨m, hm, rfl⟩
    rw [e2]
    rfl
end Wr
set_option maxHeartbeats 4000000
namespace Wr
open PySem L2
def LOk (x : W) (lot : List Nat) : Prop := (∀ i ∈ lot, i < x.2.length) ∧ lot.length ≤ 100
def herdsL (x : W) (lot : List Nat) : List (List Nat) := herdsF x.1 (lot.map (tieAt x))
abbrev N_pieces_of : List PySem.Str := ["web", "lot"]
theorem sc_pieces_of : FnScope N_pieces_of ["web", "lot"] (defScope s_pieces_of) := ⟨rfl, rfl, rfl, by decide +kernel, rfl, by decide +kernel, by decide +kernel⟩
def sp_pieces_of (C : Cn) : Sp := spT C (fun x : W × List Nat => [dW x.1, .tup (dN x.2)]) (fun x => WOk x.1 ∧ LOk x.1 x.2) (fun x d => ∃ m : List (List Nat), m.Perm (herdsL x.1 x.2) ∧ d = dHs m)
theorem has_pieces_of {P : Program} {w : World} {K : PySem.W.Frag} {mg : PySem.Str → Option Value} {base : Heap} {C : Cn} (T : Tx K mg C.cls) : Has P w K mg base 2 "pieces_of" ["web", "lot"] (sp_pieces_of C) := by
  refine fn_has T 21 (d := d_pieces_of) rfl rfl (N := N_pieces_of) sc_pieces_of rfl rfl (fun _ _ _ _ _ _ us hl => match us, hl with | [_, _], _ => rfl) (fun _ => rfl) (fun cdv A' outer s H E hr => ⟨_, (pss_one (ps_ret (pe_has (has_herds_of T) (hr.mono (by decide)) (by rfl) (pa_cons (k_pe_fld (K := K) rfl (pv 0) rfl) (pa_cons (pe_has (has_ties_of T) (hr.mono (by decide)) (by rfl) (pa_cons (pv 0) (pa_cons (pv 1) pa_nil))) pa_nil))))), fun x hx => ?_⟩)
  obtain ⟨x, lot⟩ := x
  obtain ⟨ok, lk⟩ := hx
  simp only at ok lk
  have h5 : x.1.length ≤ 5 := ok.len.2
  show SD C _ ⟨[], [.im (dW x), .im (.tup (dN lot))]⟩ _ _
  refine sd_retR (P := fun d => ∃ m : List (List Nat), m.Perm (herdsL x lot) ∧ d = dHs m) (ev_callD (x.1, lot.map (tieAt x)) (ea2 (evw_places (x := x) T.cl T.nP (ev_v rfl)) (ev_callD (x, lot) (ea2 (ev_v rfl) (ev_v rfl)) ⟨lk.1, Nat.le_trans lk.2 (by decide)⟩ fun d h => ?_)) ⟨by show x.1.length ≤ 100; omega, by show (lot.map _).length ≤ 100; rw [List.length_map]; exact lk.2⟩ fun _ h => h) fun _ h => h
  rw [h, List.map_map]
  rfl
def rankL (x : W) (lot : List Nat) : Int := x.1.length - (herdsL x lot).length
abbrev N_rank_of : List PySem.Str := ["web", "lot"]
theorem sc_rank_of : FnScope N_rank_of ["web", "lot"] (defScope s_rank_of) := ⟨rfl, rfl, rfl, by decide +kernel, rfl, by decide +kernel, by decide +kernel⟩
def sp_rank_of (C : Cn) : Sp := spT C (fun x : W × List Nat => [dW x.1, .tup (dN x.2)]) (fun x => WOk x.1 ∧ LOk x.1 x.2) (fun x d => d = .i (rankL x.1 x.2))
theorem ev_lenHs {C : Cn} {K : PySem.W.Frag} {G : En} {te : TE} {F : List (List Nat)} (h : EvR C te G (fun d => ∃ m : List (List Nat), m.Perm F ∧ d = dHs m)) : EvD C (tCB (rLen K) (tCons te tNil)) G (.i F.length) :=
  ev_cb1R h fun d ⟨m, hm, e⟩ => by
    subst e
    have := cr_lenL (C := C) (K := K) (ds := m.map fun h => D.s (st h))
    rw [List.length_map, hm.length_eq] at this
    exact this
theorem has_rank_of {P : Program} {w : World} {K : PySem.W.Frag} {mg : PySem.Str → Option Value} {base : Heap} {C : Cn} (T : Tx K mg C.cls) : Has P w K mg base 3 "rank_of" ["web", "lot"] (sp_rank_of C) := by
  refine fn_has T 22 (d := d_rank_of) rfl rfl (N := N_rank_of) sc_rank_of rfl rfl (fun _ _ _ _ _ _ us hl => match us, hl with | [_, _], _ => rfl) (fun _ => rfl) (fun cdv A' outer s H E hr => ⟨_, (pss_one (ps_ret (pe_op op_sub (pe_callB (k_call_len (K := K) rfl) (by rfl) T.xlen bt_len (pa_cons (k_pe_fld (K := K) rfl (pv 0) rfl) pa_nil)) (pe_callB (k_call_len (K := K) rfl) (by rfl) T.xlen bt_len (pa_cons (pe_has (has_pieces_of T) (hr.mono (by decide)) (by rfl) (pa_cons (pv 0) (pa_cons (pv 1) pa_nil))) pa_nil))))), fun x hx => ?_⟩)
  obtain ⟨x, lot⟩ := x
  show SD C _ ⟨[], [.im (dW x), .im (.tup (dN lot))]⟩ _ _
  have ok : WOk x := hx.1
  have len := ok.len
  refine sd_ret ((ev_sub (ev_lenS (by rw [st_len]; omega) (evw_places T.cl T.nP (ev_v rfl))) (ev_lenHs (F := herdsL x lot) (ev_callD (x, lot) (ea2 (ev_v rfl) (ev_v rfl)) hx fun _ h => h))).to ?_) rfl
  rw [st_len]
  rfl
def spareL (x : W) (lot : List Nat) : Int := lot.length - rankL x lot
abbrev N_spare_of : List PySem.Str := ["web", "lot"]
theorem sc_spare_of : FnScope N_spare_of ["web", "lot"] (defScope s_spare_of) := ⟨rfl, rfl, rfl, by decide +kernel, rfl, by decide +kernel, by decide +kernel⟩
def sp_spare_of (C : Cn) : Sp := spT C (fun x : W × List Nat => [dW x.1, .tup (dN x.2)]) (fun x => WOk x.1 ∧ LOk x.1 x.2) (fun x d => d = .i (spareL x.1 x.2))
theorem has_spare_of {P : Program} {w : World} {K : PySem.W.Frag} {mg : PySem.Str → Option Value} {base : Heap} {C : Cn} (T : Tx K mg C.cls) : Has P w K mg base 4 "spare_of" ["web", "lot"] (sp_spare_of C) := by
  refine fn_has T 23 (d := d_spare_of) rfl rfl (N := N_spare_of) sc_spare_of rfl rfl (fun _ _ _ _ _ _ us hl => match us, hl with | [_, _], _ => rfl) (fun _ => rfl) (fun cdv A' outer s H E hr => ⟨_, (pss_one (ps_ret (pe_op op_sub (pe_callB (k_call_len (K := K) rfl) (by rfl) T.xlen bt_len (pa_cons (pv 1) pa_nil)) (pe_has (has_rank_of T) (hr.mono (by decide)) (by rfl) (pa_cons (pv 0) (pa_cons (pv 1) pa_nil)))))), fun x hx => ?_⟩)
  obtain ⟨x, lot⟩ := x
  show SD C _ ⟨[], [.im (dW x), .im (.tup (dN lot))]⟩ _ _
  refine sd_ret ((ev_sub (ev_lenT (ev_v rfl)) (ev_callD (R := (· = .i (rankL x lot))) (x, lot) (ea2 (ev_v rfl) (ev_v rfl)) hx fun _ h => h)).to ?_) rfl
  rw [List.length_map]
  rfl
abbrev N_is_free_lot : List PySem.Str := ["web", "lot"]
theorem sc_is_free_lot : FnScope N_is_free_lot ["web", "lot"] (defScope s_is_free_lot) := ⟨rfl, rfl, rfl, by decide +kernel, rfl, by decide +kernel, by decide +kernel⟩
def freeL (x : W) (lot : List Nat) : Bool := decide (spareL x lot = 0)
def sp_is_free_lot (C : Cn) : Sp := spT C (fun x : W × List Nat => [dW x.1, .tup (dN x.2)]) (fun x => WOk x.1 ∧ LOk x.1 x.2) (fun x d => d = .b (freeL x.1 x.2))
theorem has_is_free_lot {P : Program} {w : World} {K : PySem.W.Frag} {mg : PySem.Str → Option Value} {base : Heap} {C : Cn} (T : Tx K mg C.cls) : Has P w K mg base 5 "is_free_lot" ["web", "lot"] (sp_is_free_lot C) := by
  refine fn_has T 25 (d := d_is_free_lot) rfl rfl (N := N_is_free_lot) sc_is_free_lot rfl rfl (fun _ _ _ _ _ _ us hl => match us, hl with | [_, _], _ => rfl) (fun _ => rfl) (fun cdv A' outer s H E hr => ⟨_, (pss_one (ps_ret (pe_cmpR op_eq (pe_has (has_spare_of T) (hr.mono (by decide)) (by rfl) (pa_cons (pv 0) (pa_cons (pv 1) pa_nil))) pe_int (nomark _)))), fun x hx => ?_⟩)
  obtain ⟨x, lot⟩ := x
  show SD C _ ⟨[], [.im (dW x), .im (.tup (dN lot))]⟩ _ _
  exact sd_ret (ev_opD (ev_callD (R := (· = .i (spareL x lot))) (x, lot) (ea2 (ev_v rfl) (ev_v rfl)) hx fun _ h => h) ev_c rr_eqI) rfl
abbrev N_is_round : List PySem.Str := ["web", "lot", "index"]
theorem sc_is_round : FnScope N_is_round ["web", "lot"] (defScope s_is_round) := ⟨rfl, rfl, rfl, by decide +kernel, rfl, by decide +kernel, by decide +kernel⟩
def wout (lot : List Nat) (j : Nat) : List Nat := lot.filter fun i => !decide (i = j)
def roundL (x : W) (lot : List Nat) : Bool := decide (spareL x lot = 1) && (lot.map fun j => freeL x (wout lot j)).all id
def sp_is_round (C : Cn) : Sp := spT C (fun x : W × List Nat => [dW x.1, .tup (dN x.2)]) (fun x => WOk x.1 ∧ LOk x.1 x.2) (fun x d => d = .b (roundL x.1 x.2))
theorem has_is_round {P : Program} {w : World} {K : PySem.W.Frag} {mg : PySem.Str → Option Value} {base : Heap} {C : Cn} (T : Tx K mg C.cls) : Has P w K mg base 6 "is_round" ["web", "lot"] (sp_is_round C) := by
  refine fn_has T 26 (d := d_is_round) rfl rfl (N := N_is_round) sc_is_round rfl rfl (fun _ _ _ _ _ _ us hl => match us, hl with | [_, _], _ => rfl) (fun _ => rfl) (fun cdv A' outer s H E hr => ⟨_, (pss_one (ps_ret (pe_and (pe_cmpR op_eq (pe_has (has_spare_of T) (hr.mono (by decide)) (by rfl) (pa_cons (pv 0) (pa_cons (pv 1) pa_nil))) pe_int (nomark _)) (pe_one (pe_callB (k_cr_all (K := K) rfl rfl) (by rfl) T.xall bt_all (pa_cons (pe_lc (own := [("index", 2)]) (g := gName 2) (tt := tYes) rfl sc_is_round.nd (k_pi_tup (K := K) rfl (pv 1)) (blkOk_by (own := [("index", 2)]) (N := N_is_round) (sc := defScope s_is_round) (by decide +kernel)) (fun _ _ _ _ _ => (pg_name (i := 2) sc_is_round.nd rfl (.inl rfl))) (fun _ _ _ _ _ => pts_nil) (fun _ _ _ _ _ => (pe_has (has_is_free_lot T) (hr.mono (by decide)) (by rfl) (pa_cons (pv 0) (pa_cons (pe_has (has_without T) (hr.mono (by decide)) (by rfl) (pa_cons (pv 1) (pa_cons (pv 2) pa_nil))) pa_nil))))) pa_nil)))))), fun x hx => ?_⟩)
  obtain ⟨x, lot⟩ := x
  obtain ⟨ok, lk⟩ := hx
  simp only at ok lk
  show SD C _ ⟨[], [.im (dW x), .im (.tup (dN lot)), .no]⟩ _ _
  have hl := lk.2
  refine sd_ret (ev_andV (ev_opD (ev_callD (R := (· = .i (spareL x lot))) (x, lot) (ea2 (ev_v rfl) (ev_v rfl)) ⟨ok, lk⟩ fun _ h => h) ev_c rr_eqI) fun _ => ev_cbD (ea1 ((ev_map (C := C) (js := [2]) lot (fun i => D.i (i : Nat)) (fun j => D.b (freeL x (wout lot j))) (fun i l => l.set 2 (.im (.i (i : Nat)))) (ei_tup (ev_v rfl)) (fun _ _ => eg_name) (by omega) (fun j hj => ?_)).dat.to ?_)) (cr_allD (bs := lot.map fun j => freeL x (wout lot j)))) rfl
  · have hw : LOk x (wout lot j) := ⟨fun i hi => lk.1 i (List.mem_filter.mp hi).1, Nat.le_trans (List.length_filter_le ..) hl⟩
    exact ev_callD (R := (· = .b (freeL x (wout lot j)))) (x, wout lot j) (ea2 (ev_v rfl) (ev_callD (R := (· = .tup (dN (wout lot j)))) (lot, j) (ea2 (ev_v rfl) (ev_v rfl)) (Nat.le_trans hl (by decide)) fun _ h => h)) ⟨ok, hw⟩ fun _ h => h
  · unfold dB
    rw [List.map_map]
    rfl
def whole (x : W) : List Nat := List.range x.2.length
theorem whole_ok {x : W} (ok : WOk x) : LOk x (whole x) := ⟨fun i hi => List.mem_range.mp hi, by unfold whole; rw [List.length_range]; have := ok.nt; omega⟩
abbrev N_wrong_in : List PySem.Str := ["web", "lot", "last", "place", "index"]
theorem sc_wrong_in : FnScope N_wrong_in ["web", "lot"] (defScope s_wrong_in) := ⟨rfl, rfl, rfl, by decide +kernel, rfl, by decide +kernel, by decide +kernel⟩
def sp_wrong_in (C : Cn) : Sp := spT C (fun x : W => [dW x, .tup (dN (whole x))]) WOk (fun x d => d = .n)
theorem has_wrong_in {P : Program} {w : World} {K : PySem.W.Frag} {mg : PySem.Str → Option Value} {base : Heap} {C : Cn} (T : Tx K mg C.cls) : Has P w K mg base 3 "wrong_in" ["web", "lot"] (sp_wrong_in C) := by
  refine fn_has T 17 (d := d_wrong_in) rfl rfl (N := N_wrong_in) sc_wrong_in rfl rfl (fun _ _ _ _ _ _ us hl => match us, hl with | [_, _], _ => rfl) (fun _ => rfl) (fun cdv A' outer s H E hr => ⟨_, (pss_cons (ps_set (i := 2) sc_wrong_in.nd rfl (.inl rfl) (pe_un un_neg pe_int))
      (pss_cons (ps_for PassesOwn.never rfl (k_pi_enumT (K := K) rfl (by rfl) T.xenumerate (pa_cons (pv 1) pa_nil)) (pg_tup rfl (pgs_cons (pg_name (i := 3) sc_wrong_in.nd rfl (.inl rfl)) (pgs_cons (pg_name (i := 4) sc_wrong_in.nd rfl (.inl rfl)) pgs_nil))) (pss_cons (ps_if (pt_not (pt_val (pe_has (has_is_between T) (hr.mono (by decide)) (by rfl) (pa_cons (pv 4) (pa_cons (pe_op op_add (pv 2) pe_int) (pa_cons (pe_op op_sub (pe_callB (k_call_lenW (has_Web_len T) T.ml (hr.mono (by decide))) (by rfl) T.xlen bt_len (pa_cons (pv 0) pa_nil)) pe_int) pa_nil)))))) (pss_one (ps_ret (pv 3))) pss_nil)
      (pss_one (ps_set (i := 2) sc_wrong_in.nd rfl (.inl rfl) (pv 4)))))
      (pss_one (ps_ret pe_non)))), fun x hx => ?_⟩)
  have nt := WOk.nt hx
  show SD C _ ⟨[], [.im (dW x), .im (.tup (dN (whole x))), .no, .no, .no]⟩ _ _
  refine sq_asg (d := .i (-1)) (ev_neg ev_c) ?_
  refine sq_for (C := C) (js := [3, 4]) (List.range x.2.length) (fun i => D.tup [D.i (i : Nat), .i (i : Nat)]) (fun i l => (l.set 3 (.im (.i (i : Nat)))).set 4 (.im (.i (i : Nat)))) (fun i G => ∃ a b, G = ⟨[], [.im (dW x), .im (.tup (dN (whole x))), .im (.i ((i : Int) - 1)), a, b]⟩)
    ((ei_enumT (ea1 (ev_v rfl))).to ?_) (fun _ _ => eg_pair) ⟨.no, .no, rfl⟩ ?_ ?_
  · unfold whole dN
    rw [enumD_map (fun i : Nat => D.i (i : Nat)) (List.range x.2.length) 0, List.length_range]
    refine List.map_congr_left fun i hi => ?_
    rw [List.getD_eq_getElem?_getD, List.getElem?_range (List.mem_range.mp hi)]
    rfl
  · rintro i j G hi ⟨a, b, rfl⟩
    have hj : i < x.2.length ∧ i = j := by
      have h1 := (List.getElem?_eq_some_iff.mp hi).1
      rw [List.length_range] at h1
      rw [List.getElem?_range h1] at hi
      exact ⟨h1, Option.some.inj hi⟩
    obtain ⟨hj, rfl⟩ := hj
    refine sq_no (et_not (a := true) (et_B ((ev_callD (R := (· = .b (decide ((i : Int) - 1 + 1 ≤ i) && decide ((i : Int) ≤ x.2.length - 1)))) ((i : Int), (i : Int) - 1 + 1, (x.2.length : Int) - 1) (ea3 (ev_v rfl) (ev_add (ev_v rfl) ev_c) (ev_sub (ev_lenX (by omega) (ev_v rfl)) ev_c)) trivial fun _ h => h).to ?_))) ?_
    · rw [decide_eq_true (by omega), decide_eq_true (by omega)]
      rfl
    · refine sd_asg (d := .i (i : Nat)) (ev_v rfl) ⟨.im (.i (i : Nat)), .im (.i (i : Nat)), ?_⟩
      have e : (((i + 1 : Nat) : Int) - 1) = (i : Int) := by omega
      rw [e]
      rfl
  · rintro G ⟨a, b, rfl⟩
    exact sd_ret ev_c rfl
abbrev N_check_lot : List PySem.Str := ["web", "lot", "wrong"]
theorem sc_check_lot : FnScope N_check_lot ["web", "lot"] (defScope s_check_lot) := ⟨rfl, rfl, rfl, by decide +kernel, rfl, by decide +kernel, by decide +kernel⟩
def sp_check_lot (C : Cn) : Sp := spT C (fun x : W => [dW x, .tup (dN (whole x))]) WOk (fun x d => d = .n)
theorem has_check_lot {P : Program} {w : World} {K : PySem.W.Frag} {mg : PySem.Str → Option Value} {base : Heap} {C : Cn} (T : Tx K mg C.cls) : Has P w K mg base 4 "check_lot" ["web", "lot"] (sp_check_lot C) := by
  refine fn_has T 18 (d := d_check_lot) rfl rfl (N := N_check_lot) sc_check_lot rfl rfl (fun _ _ _ _ _ _ us hl => match us, hl with | [_, _], _ => rfl) (fun _ => rfl) (fun cdv A' outer s H E hr => ⟨_, (pss_cons (ps_if (pt_not (pt_val (pe_callB call_isi (by rfl) T.xisinstance bt_isinstance (pa_cons (pv 1) (pa_cons (pe_bltn (v := .ty "tuple") (by rfl) T.xtuple bt_tuple rfl) pa_nil))))) (pss_one ps_never) pss_nil)
      (pss_cons (ps_set (i := 2) sc_check_lot.nd rfl (.inl rfl) (pe_has (has_wrong_in T) (hr.mono (by decide)) (by rfl) (pa_cons (pv 0) (pa_cons (pv 1) pa_nil))))
      (pss_one (ps_if (pt_cmpR op_notN (pv 2) pe_non (nomark _)) (pss_one ps_never) pss_nil)))), fun x hx => ?_⟩)
  show SD C _ ⟨[], [.im (dW x), .im (.tup (dN (whole x))), .no]⟩ _ _
  refine sq_no (et_not (a := true) (et_B (ev_cbD (ea2 (ev_v rfl) ev_c) (cr_isiT (b := true) (by decide +kernel))))) ?_
  refine sq_asg (d := .n) (ev_callD x (ea2 (ev_v rfl) (ev_v rfl)) hx fun _ h => h) ?_
  exact sd_no ((et_test (ev_opD (ev_v rfl) ev_c rr_notN)).to rfl) rfl
abbrev N_check_both : List PySem.Str := ["web", "lot"]
theorem sc_check_both : FnScope N_check_both ["web", "lot"] (defScope s_check_both) := ⟨rfl, rfl, rfl, by decide +kernel, rfl, by decide +kernel, by decide +kernel⟩
def sp_check_both (C : Cn) : Sp := spT C (fun x : W => [dW x, .tup (dN (whole x))]) WOk (fun x d => d = .n)
theorem has_check_both {P : Program} {w : World} {K : PySem.W.Frag} {mg : PySem.Str → Option Value} {base : Heap} {C : Cn} (T : Tx K mg C.cls) : Has P w K mg base 5 "check_both" ["web", "lot"] (sp_check_both C) := by
  refine fn_has T 33 (d := d_check_both) rfl rfl (N := N_check_both) sc_check_both rfl rfl (fun _ _ _ _ _ _ us hl => match us, hl with | [_, _], _ => rfl) (fun _ => rfl) (fun cdv A' outer s H E hr => ⟨_, (pss_cons (ps_expr (pe_has (has_check_web T) (hr.mono (by decide)) (by rfl) (pa_cons (pv 0) pa_nil)))
      (pss_one (ps_expr (pe_has (has_check_lot T) (hr.mono (by decide)) (by rfl) (pa_cons (pv 0) (pa_cons (pv 1) pa_nil)))))), fun x hx => ?_⟩)
  show SD C _ ⟨[], [.im (dW x), .im (.tup (dN (whole x)))]⟩ _ _
  refine sq_drop (P := fun _ => True) (ev_callD (st x.1, x.2.map tS) (ea1 (ev_v rfl)) trivial fun _ _ => trivial) ?_
  exact sd_drop (P := fun _ => True) (ev_callD x (ea2 (ev_v rfl) (ev_v rfl)) hx fun _ _ => trivial) rfl
abbrev N_pieces : List PySem.Str := ["web", "lot"]
theorem sc_pieces : FnScope N_pieces ["web", "lot"] (defScope s_pieces) := ⟨rfl, rfl, rfl, by decide +kernel, rfl, by decide +kernel, by decide +kernel⟩
def sp_pieces (C : Cn) : Sp := spT C (fun x : W => [dW x, .tup (dN (whole x))]) WOk (fun x d => ∃ m : List (List Nat), m.Perm (herdsL x (whole x)) ∧ d = .tup (m.map fun h => D.s (st h)))
theorem has_pieces {P : Program} {w : World} {K : PySem.W.Frag} {mg : PySem.Str → Option Value} {base : Heap} {C : Cn} (T : Tx K mg C.cls) : Has P w K mg base 6 "pieces" ["web", "lot"] (sp_pieces C) := by
  refine fn_has T 34 (d := d_pieces) rfl rfl (N := N_pieces) sc_pieces rfl rfl (fun _ _ _ _ _ _ us hl => match us, hl with | [_, _], _ => rfl) (fun _ => rfl) (fun cdv A' outer s H E hr => ⟨_, (pss_cons (ps_expr (pe_has (has_check_both T) (hr.mono (by decide)) (by rfl) (pa_cons (pv 0) (pa_cons (pv 1) pa_nil))))
      (pss_one (ps_ret (pe_callTy (k_call_tup (K := K) rfl) (by rfl) T.xtuple bt_tuple (pa_cons (pe_has (has_pieces_of T) (hr.mono (by decide)) (by rfl) (pa_cons (pv 0) (pa_cons (pv 1) pa_nil))) pa_nil))))), fun x hx => ?_⟩)
  show SD C _ ⟨[], [.im (dW x), .im (.tup (dN (whole x)))]⟩ _ _
  refine sq_drop (P := fun _ => True) (ev_callD x (ea2 (ev_v rfl) (ev_v rfl)) hx fun _ _ => trivial) ?_
  refine sd_retR (P := fun d => ∃ m : List (List Nat), m.Perm (herdsL x (whole x)) ∧ d = .tup (m.map fun h => D.s (st h))) (ev_cb1R (ev_callD (R := fun d => ∃ m : List (List Nat), m.Perm (herdsL x (whole x)) ∧ d = dHs m) (x, whole x) (ea2 (ev_v rfl) (ev_v rfl)) ⟨hx, whole_ok hx⟩ fun _ h => h) fun d ⟨m, hm, e⟩ => ?_) fun _ h => h
  subst e
  exact CR.imp cr_tup fun d h => ⟨m, hm, h⟩
abbrev N_every_lot : List PySem.Str := ["web", "found", "index", "lot"]
theorem sc_every_lot : FnScope N_every_lot ["web"] (defScope s_every_lot) := ⟨rfl, rfl, rfl, by decide +kernel, rfl, by decide +kernel, by decide +kernel⟩
def dLs (l : List (List Nat)) : D := .lst (l.map fun l => D.tup (dN l))
def lotsA (x : W) : List (List Nat) := herdsA (List.range x.2.length)
def sp_every_lot (C : Cn) : Sp := spT C (fun x : W => [dW x]) WOk (fun x d => ∃ m : List (List Nat), m.Perm (lotsA x) ∧ d = dLs m)
theorem shp_tupN (l : List Nat) : shpD (.tup (dN l)) = true := by
  rw [shpD]
  induction l with
  | nil => rfl
  | cons a l ih =>
    show shpL (D.v (.int (a : Int)) :: dN l) = true
    rw [shpL, ih]
    rfl
theorem shp_lots (l : List (List Nat)) : shpL (l.map fun l => D.tup (dN l)) = true := by
  induction l with
  | nil => rfl
  | cons a l ih => rw [List.map_cons, shpL, shp_tupN, ih]; rfl
theorem enc_dN (l : List Nat) : encL (dN l) = (l.map fun i : Nat => (i : Int)).map PyData.int := by
  rw [encL_map]
  unfold dN
  rw [List.map_map, List.map_map]
  rfl
theorem enc_lots (l : List (List Nat)) : encL (l.map fun l => D.tup (dN l)) = l.map fun l => PyData.tuple ((l.map fun i : Nat => (i : Int)).map PyData.int) := by
  rw [encL_map, List.map_map]
  refine List.map_congr_left fun a _ => ?_
  show encD (.tup (dN a)) = _
  rw [encD, enc_dN]
theorem srt_lots (l : List (List Nat)) (h0 : l[0]? = some []) : SrtOk (encL (l.map fun l => D.tup (dN l))) := by
  rw [enc_lots]
  refine ⟨PySem.W.AllAlike.of fun b b' => ?_, .inr ⟨fun d hd => ?_, ?_⟩, fun d hd => ?_⟩
  · have := PySem.W.alike_ints (b.map fun i : Nat => (i : Int)) (b'.map fun i : Nat => (i : Int))
    simpa [PySem.W.alike] using this
  · obtain ⟨a, _, rfl⟩ := List.mem_map.mp hd
    exact ⟨_, rfl⟩
  · rw [List.getElem?_map, h0]
    rfl
  · obtain ⟨a, _, rfl⟩ := List.mem_map.mp hd
    have := PySem.W.depth_ints (a.map fun i : Nat => (i : Int))
    simp only [PyData.depth]
    omega
theorem herdsA_head (l : List Nat) : (herdsA l)[0]? = some [] := by
  induction l using snocInd with
  | nil => rfl
  | append l c ih =>
    rw [herdsA_snoc, List.getElem?_append_left]
    · exact ih
    · exact (List.getElem?_eq_some_iff.mp ih).1
theorem sortD_lots (l : List (List Nat)) : ∃ m : List (List Nat), m.Perm l ∧ sortD (l.map fun l => D.tup (dN l)) = m.map fun l => D.tup (dN l) := by
  obtain ⟨m, h1, h2⟩ := L2.perm_lift (fun l => D.tup (dN l)) (sortD_perm (l.map fun l => D.tup (dN l))) l rfl
  exact ⟨m, h1, h2.symm⟩
theorem has_every_lot {P : Program} {w : World} {K : PySem.W.Frag} {mg : PySem.Str → Option Value} {base : Heap} {C : Cn} (T : Tx K mg C.cls) : Has P w K mg base 4 "every_lot" ["web"] (sp_every_lot C) := by
  refine fn_has T 31 (d := d_every_lot) rfl rfl (N := N_every_lot) sc_every_lot rfl rfl (fun _ _ _ _ _ _ us hl => match us, hl with | [_], _ => rfl) (fun _ => rfl) (fun cdv A' outer s H E hr => ⟨_, (pss_cons (ps_set (i := 1) sc_every_lot.nd rfl (.inl rfl) (pe_lst (pa_cons (pe_tup pa_nil) pa_nil)))
      (pss_cons (ps_for PassesOwn.never rfl (k_pi_tup (K := K) rfl (pe_has (has_every_tie T) (hr.mono (by decide)) (by rfl) (pa_cons (pv 0) pa_nil))) (pg_name (i := 2) sc_every_lot.nd rfl (.inr rfl)) (pss_one (ps_set (i := 1) sc_every_lot.nd rfl (.inl rfl) (pe_op op_cat (pv 1) (pe_lc (own := [("lot", 3)]) (g := gName 3) (tt := tYes) rfl sc_every_lot.nd (k_pi_list (K := K) rfl (pv 1)) (blkOk_by (own := [("lot", 3)]) (N := N_every_lot) (sc := defScope s_every_lot) (by decide +kernel)) (fun _ _ _ _ _ => (pg_name (i := 3) sc_every_lot.nd rfl (.inl rfl))) (fun _ _ _ _ _ => pts_nil) (fun _ _ _ _ _ => (pe_op (k_op_catA (K := K) rfl) (pv 3) (pe_tup (pa_cons (pv 2) pa_nil)))))))))
      (pss_one (ps_ret (pe_callB (k_call_sort (K := K) hr.units rfl) (by rfl) T.xsorted bt_sorted (pa_cons (pv 1) pa_nil)))))), fun x hx => ?_⟩)
  have nt := WOk.nt hx
  show SD C _ ⟨[], [.im (dW x), .no, .no, .no]⟩ _ _
  refine sq_asg (d := dLs (herdsA [])) (ev_lst (ea1 (ev_tupD ea_nil))).dat ?_
  refine sq_for (C := C) (js := [2]) (List.range x.2.length) (fun i => D.i (i : Nat)) (fun i l => l.set 2 (.im (.i (i : Nat)))) (fun i G => ∃ a, G = ⟨[], [.im (dW x), .im (dLs (herdsA (List.range i))), a, .no]⟩)
    (ei_tup (ev_callD (R := (· = .tup (dN (List.range x.2.length)))) x (ea1 (ev_v rfl)) (by show x.2.length < 1000; omega) fun _ h => h)) (fun _ _ => eg_name) ⟨.no, rfl⟩ ?_ ?_
  · rintro i j G hi ⟨a, rfl⟩
    have hj : i < x.2.length ∧ i = j := by
      have h1 := (List.getElem?_eq_some_iff.mp hi).1
      rw [List.length_range] at h1
      rw [List.getElem?_range h1] at hi
      exact ⟨h1, Option.some.inj hi⟩
    obtain ⟨hj, rfl⟩ := hj
    have hL : (herdsA (List.range i)).length ≤ 128 := by
      rw [herdsA_len, List.length_range]
      exact Nat.le_trans (Nat.pow_le_pow_right (by decide : 0 < 2) (show i ≤ 7 by omega)) (by decide)
    refine sd_asg (d := dLs (herdsA (List.range (i + 1)))) ?_ ⟨_, rfl⟩
    unfold dLs
    rw [List.range_succ, herdsA_snoc, List.map_append, List.map_map]
    refine (ev_opF (ev_v rfl) (ev_map (C := C) (js := [3]) (herdsA (List.range i)) (fun l => D.tup (dN l)) ((fun l => D.tup (dN l)) ∘ fun h => h ++ [i]) (fun h l => l.set 3 (.im (.tup (dN h)))) (ei_list (ev_v rfl)) (fun _ _ => eg_name) (by omega) (fun h hh => ?_)).dat (rf_cat (by rw [List.length_map, List.length_map]; omega))).dat
    have h4 := herdsA_short hh
    rw [List.length_range] at h4
    refine (ev_opD (ev_v rfl) (ev_tupD (ea1 (ev_v rfl))) (rr_catT (by rw [List.length_map]; show _ + 1 ≤ _; omega))).to ?_
    show D.tup _ = D.tup (dN (h ++ [i]))
    unfold dN
    rw [List.map_append]
    rfl
  · rintro G ⟨a, rfl⟩
    rw [List.length_range]
    obtain ⟨m, hm, e2⟩ := sortD_lots (herdsA (List.range x.2.length))
    refine sd_ret (d := dLs m) ((ev_cbF (ea1 (ev_v rfl)) (cf_sort (shp_lots _) (srt_lots _ (herdsA_head _)))).dat.to ?_) ⟨m, hm, rfl⟩
    rw [e2]
    rfl
end Wr
set_option maxHeartbeats 4000000
namespace Wr
open PySem L2
theorem put_one {p : Addr} {x y : OO} {De : List SV} : (⟨[(p, y)], De⟩ : En).put p x = ⟨[(p, x)], De⟩ := by simp [En.put]
theorem herdsF_le {l : List Nat} {ts : List Tie} (h : ∀ t ∈ ts, t.1 ∈ l) : (herdsF l ts).length ≤ l.length := by
  induction ts using snocInd with
  | nil =>
    show (l.map fun c => [c]).length ≤ _
    rw [List.length_map]
    exact Nat.le_refl _
  | append ts t ih =>
    have ih := ih fun t ht => h t (List.mem_append_left _ ht)
    rw [herdsF_snoc, hStep_eq, List.length_cons]
    have ht := h t (List.mem_append_right _ (List.mem_singleton.mpr rfl))
    have hm : t.1 ∈ (herdsF l ts).flatten := (herdsF_flat l ts).mem_iff.mpr ht
    obtain ⟨g, hg, hg2⟩ := List.mem_flatten.mp hm
    have hf : g ∈ (herdsF l ts).filter (hits t) := List.mem_filter.mpr ⟨hg, by unfold hits; rw [decide_eq_true hg2]; rfl⟩
    have h1 : 0 < ((herdsF l ts).filter (hits t)).length := List.length_pos_of_mem hf
    have h2 := (List.filter_append_perm (hits t) (herdsF l ts)).length_eq
    rw [List.length_append] at h2
    omega
theorem herdsL_le {x : W} (ok : WOk x) {lot : List Nat} (lk : ∀ i ∈ lot, i < x.2.length) : (herdsL x lot).length ≤ x.1.length := herdsF_le fun t ht => by
  obtain ⟨i, hi, rfl⟩ := List.mem_map.mp ht
  exact (ok.ts _ (tieAt_mem (lk i hi))).1
def sgn (lot : List Nat) : Int := if lot.length % 2 = 1 then -1 else 1
def cnt (x : W) (ls : List (List Nat)) (j : Nat) : Int := (ls.map fun lot => if (herdsL x lot).length = j then sgn lot else 0).sum
def cnts (x : W) (ls : List (List Nat)) : List Int := (List.range (x.1.length + 1)).map (cnt x ls)
theorem sum_perm {a b : List Int} (h : a.Perm b) : a.sum = b.sum := by
  induction h with
  | nil => rfl
  | cons x _ ih => rw [List.sum_cons, List.sum_cons, ih]
  | swap x y l =>
    simp only [List.sum_cons]
    omega
  | trans _ _ ih1 ih2 => exact ih1.trans ih2
theorem cnts_perm (x : W) {a b : List (List Nat)} (h : a.Perm b) : cnts x a = cnts x b := by
  unfold cnts
  refine List.map_congr_left fun j _ => ?_
  unfold cnt
  exact sum_perm (h.map _)
theorem cnt_snoc (x : W) (ls : List (List Nat)) (lot : List Nat) (j : Nat) : cnt x (ls ++ [lot]) j = cnt x ls j + if (herdsL x lot).length = j then sgn lot else 0 := by
  unfold cnt
  rw [List.map_append, List.sum_append]
  simp
theorem cnts_get (x : W) (ls : List (List Nat)) {j : Nat} (h : j ≤ x.1.length) : (cnts x ls)[j]? = some (cnt x ls j) := by
  unfold cnts
  rw [List.getElem?_map, List.getElem?_range (by omega)]
  rfl
theorem cnts_snoc (x : W) (ls : List (List Nat)) (lot : List Nat) : cnts x (ls ++ [lot]) = (cnts x ls).set (herdsL x lot).length (cnt x ls (herdsL x lot).length + sgn lot) := by
  apply List.ext_getElem?
  intro j
  by_cases hj : j < x.1.length + 1
  · rw [cnts_get x _ (by omega), cnt_snoc]
    by_cases e : (herdsL x lot).length = j
    · subst e
      rw [List.getElem?_set_self (by unfold cnts; rw [List.length_map, List.length_range]; exact hj), if_pos rfl]
    · rw [List.getElem?_set_ne e, if_neg e, cnts_get x _ (by omega), Int.add_zero]
  · have h1 : ∀ l, (cnts x l).length = x.1.length + 1 := fun l => by unfold cnts; rw [List.length_map, List.length_range]
    rw [List.getElem?_eq_none (by rw [h1]; omega), List.getElem?_eq_none (by rw [List.length_set, h1]; omega)]
theorem cnt_bound (x : W) (ls : List (List Nat)) (j : Nat) : (cnt x ls j).natAbs ≤ ls.length := by
  induction ls using snocInd with
  | nil => exact Nat.le_refl _
  | append ls lot ih =>
    rw [cnt_snoc, List.length_append]
    have : (if (herdsL x lot).length = j then sgn lot else 0).natAbs ≤ 1 := by
      split
      · unfold sgn
        split <;> decide
      · decide
    show _ ≤ ls.length + 1
    omega
theorem lotsA_ok {x : W} (ok : WOk x) {lot : List Nat} (h : lot ∈ lotsA x) : LOk x lot := by
  have nt := ok.nt
  have hl := herdsA_short h
  rw [List.length_range] at hl
  refine ⟨?_, by omega⟩
  unfold lotsA at h
  have : ∀ (n : Nat) (lot : List Nat), lot ∈ herdsA (List.range n) → ∀ i ∈ lot, i < n := by
    intro n
    induction n with
    | zero =>
      intro lot h i hi
      have : lot = [] := by simpa [herdsA] using h
      rw [this] at hi
      exact absurd hi (List.not_mem_nil)
    | succ n ih =>
      intro lot h i hi
      rw [List.range_succ, herdsA_snoc] at h
      rcases List.mem_append.mp h with h | h
      · exact Nat.lt_succ_of_lt (ih lot h i hi)
      · obtain ⟨g, hg, rfl⟩ := List.mem_map.mp h
        rcases List.mem_append.mp hi with z | z
        · exact Nat.lt_succ_of_lt (ih g hg i z)
        · rw [List.mem_singleton.mp z]
          exact Nat.lt_succ_self _
  exact this _ _ h
theorem lotsA_len {x : W} (ok : WOk x) : (lotsA x).length ≤ 128 := by
  unfold lotsA
  rw [herdsA_len, List.length_range]
  exact Nat.le_trans (Nat.pow_le_pow_right (by decide : 0 < 2) ok.nt) (by decide)
abbrev N_counts_of : List PySem.Str := ["web", "found", "lot"]
theorem sc_counts_of : FnScope N_counts_of ["web"] (defScope s_counts_of) := ⟨rfl, rfl, rfl, by decide +kernel, rfl, by decide +kernel, by decide +kernel⟩
def cntsW (x : W) : List Int := cnts x (lotsA x)
def sp_counts_of (C : Cn) : Sp := spT C (fun x : W => [dW x]) WOk (fun x d => d = .lst (dI (cntsW x)))
theorem cnts_nil (x : W) : cnts x [] = List.replicate (x.1.length + 1) 0 := by
  unfold cnts
  have : cnt x [] = fun _ => (0 : Int) := rfl
  rw [this, List.map_const', List.length_range]
theorem has_counts_of {P : Program} {w : World} {K : PySem.W.Frag} {mg : PySem.Str → Option Value} {base : Heap} {C : Cn} (T : Tx K mg C.cls) : Has P w K mg base 5 "counts_of" ["web"] (sp_counts_of C) := by
  refine fn_has T 60 (d := d_counts_of) rfl rfl (N := N_counts_of) sc_counts_of rfl rfl (fun _ _ _ _ _ _ us hl => match us, hl with | [_], _ => rfl) (fun _ => rfl) (fun cdv A' outer s H E hr => ⟨_, (pss_cons (ps_set (i := 1) sc_counts_of.nd rfl (.inl rfl) (pe_op op_rep (pe_lst (pa_cons pe_int pa_nil)) (pe_op op_add (pe_callB (k_call_len (K := K) rfl) (by rfl) T.xlen bt_len (pa_cons (k_pe_fld (K := K) rfl (pv 0) rfl) pa_nil)) pe_int)))
      (pss_cons (ps_for PassesOwn.never rfl (k_pi_list (K := K) rfl (pe_has (has_every_lot T) (hr.mono (by decide)) (by rfl) (pa_cons (pv 0) pa_nil))) (pg_name (i := 2) sc_counts_of.nd rfl (.inl rfl)) (pss_one (ps_augS (pv 1) (pe_callB (k_call_len (K := K) rfl) (by rfl) T.xlen bt_len (pa_cons (pe_has (has_pieces_of T) (hr.mono (by decide)) (by rfl) (pa_cons (pv 0) (pa_cons (pv 2) pa_nil))) pa_nil)) (k_pget_list (K := K) rfl) (pe_ifExp (pt_cmpR op_eq (pe_op op_mod (pe_callB (k_call_len (K := K) rfl) (by rfl) T.xlen bt_len (pa_cons (pv 2) pa_nil)) pe_int) pe_int (nomark _)) (pe_un un_neg pe_int) pe_int) ip_add set_list)))
      (pss_one (ps_ret (pv 1))))), fun x hx => ?_⟩)
  have len := WOk.len hx
  have ok : WOk x := hx
  show SD C _ ⟨[], [.im (dW x), .no, .no]⟩ _ _
  refine sq_ownF (ds := dI (cnts x [])) ((ev_opF (x := .lst [.i 0]) (ev_lst (ea1 ev_c)).dat (ev_add (ev_lenS (by rw [st_len]; omega) (evw_places T.cl T.nP (ev_v rfl))) ev_c) (rf_rep ?_ ?_ ?_)).to ?_) fun p _ => ?_
  · rw [st_len]
    show 1 * _ ≤ _
    omega
  · rw [st_len]
    omega
  · omega
  · rw [st_len, cnts_nil, rep_flat1]
    have : ((x.1.length : Int) + 1).toNat = x.1.length + 1 := by omega
    rw [this]
    unfold dI
    rw [List.map_replicate]
  refine sq_forR (C := C) (js := [2]) (fun m : List (List Nat) => m.Perm (lotsA x)) (fun l => D.tup (dN l)) (fun l s => s.set 2 (.im (.tup (dN l)))) (fun m i G => ∃ a, G = ⟨[(p, .lst ((dI (cnts x (m.take i))).map .im))], [.im (dW x), .ptr p, a]⟩)
    (ei_listR (ev_callD (R := fun d => ∃ ds, (∃ m : List (List Nat), m.Perm (lotsA x) ∧ ds = m.map fun l => D.tup (dN l)) ∧ d = .lst ds) x (ea1 (ev_v rfl)) hx fun d ⟨m, hm, e⟩ => ⟨_, ⟨m, hm, rfl⟩, e⟩)) (fun _ _ _ _ => eg_name) (fun m hm => ⟨.no, rfl⟩) ?_ ?_
  · rintro m hm i lot G hi ⟨a, rfl⟩
    have hil : i < m.length := (List.getElem?_eq_some_iff.mp hi).1
    have lk : LOk x lot := lotsA_ok ok (hm.mem_iff.mp (List.mem_of_getElem? hi))
    have hle := herdsL_le ok lk.1
    have ht : m.take (i + 1) = m.take i ++ [lot] := by
      rw [List.take_add_one, hi]
      rfl
    refine sd_augL (l := p) (xs := (dI (cnts x (m.take i))).map .im) (j := (herdsL x lot).length) (a := cnt x (m.take i) (herdsL x lot).length) (v := sgn lot) rfl (List.mem_singleton.mpr rfl)
      (ev_lenHs (F := herdsL x lot) (ev_callD (x, lot) (ea2 (ev_v rfl) (ev_v rfl)) ⟨ok, lk⟩ fun _ h => h)) ?_ ?_ ⟨.im (.tup (dN lot)), ?_⟩
    · unfold sgn
      have hb : decide ((((dN lot).length : Nat) : Int) % 2 = 1) = decide (lot.length % 2 = 1) := by
        have : (dN lot).length = lot.length := List.length_map ..
        rw [this]
        by_cases h : lot.length % 2 = 1
        · rw [decide_eq_true h, decide_eq_true (by omega)]
        · rw [decide_eq_false h, decide_eq_false (by omega)]
      refine ev_if (et_test ((ev_opD (ev_opD (ev_lenT (ev_v rfl)) ev_c (rr_mod (by decide))) ev_c rr_eqI).to (by rw [hb]))) (fun h => ?_) (fun h => ?_)
      · rw [if_pos (of_decide_eq_true h)]
        exact ev_neg ev_c
      · rw [if_neg (of_decide_eq_false h)]
        exact ev_c
    · unfold dI
      rw [List.getElem?_map, List.getElem?_map, cnts_get x _ hle]
      rfl
    · show (En.put ⟨[(p, _)], _⟩ p _) = _
      rw [put_one, ht, cnts_snoc]
      unfold dI
      rw [List.map_set, List.map_set]
      rfl
  · rintro m hm G ⟨a, rfl⟩
    rw [List.take_length]
    refine sd_frz (l := p) (ds := dI (cnts x m)) (List.mem_singleton.mpr rfl) (sd_st (G1 := ⟨[], [.im (dW x), .im (.lst (dI (cnts x m))), match a with | .ptr q => if q = p then .im (.lst (dI (cnts x m))) else .ptr q | s => s]⟩) ?_ ?_)
    · simp [En.frz] <;> rfl
    · refine sd_ret (ev_v rfl) ?_
      unfold cntsW
      rw [cnts_perm x hm]
abbrev N_dyes_counted : List PySem.Str := ["web", "number"]
theorem sc_dyes_counted : FnScope N_dyes_counted ["web", "number"] (defScope s_dyes_counted) := ⟨rfl, rfl, rfl, by decide +kernel, rfl, by decide +kernel, by decide +kernel⟩
def sp_dyes_counted (C : Cn) : Sp := spT C (fun x : W × Int => [dW x.1, .i x.2]) (fun x => WOk x.1 ∧ Sm 20 x.2) (fun x d => d = .i (sumAt (cntsW x.1) x.2))
theorem cntsW_sm {x : W} (ok : WOk x) : (cntsW x).length ≤ 100 ∧ ∀ c ∈ cntsW x, Sm 100 c := by
  unfold cntsW
  refine ⟨?_, fun c hc => ?_⟩
  · unfold cnts
    rw [List.length_map, List.length_range]
    have := ok.len
    omega
  · unfold cnts at hc
    obtain ⟨j, _, rfl⟩ := List.mem_map.mp hc
    have h1 := cnt_bound x (lotsA x) j
    have h2 := lotsA_len ok
    exact Nat.lt_of_le_of_lt (Nat.le_trans h1 h2) (by decide)
theorem has_dyes_counted {P : Program} {w : World} {K : PySem.W.Frag} {mg : PySem.Str → Option Value} {base : Heap} {C : Cn} (T : Tx K mg C.cls) : Has P w K mg base 6 "dyes_counted" ["web", "number"] (sp_dyes_counted C) := by
  refine fn_has T 62 (d := d_dyes_counted) rfl rfl (N := N_dyes_counted) sc_dyes_counted rfl rfl (fun _ _ _ _ _ _ us hl => match us, hl with | [_, _], _ => rfl) (fun _ => rfl) (fun cdv A' outer s H E hr => ⟨_, (pss_one (ps_ret (pe_has (has_summed_at T) (hr.mono (by decide)) (by rfl) (pa_cons (pe_has (has_counts_of T) (hr.mono (by decide)) (by rfl) (pa_cons (pv 0) pa_nil)) (pa_cons (pv 1) pa_nil))))), fun x hx => ?_⟩)
  obtain ⟨x, k⟩ := x
  obtain ⟨ok, hk⟩ := hx
  simp only at ok hk
  show SD C _ ⟨[], [.im (dW x), .im (.i k)]⟩ _ _
  exact sd_retR (P := (· = .i (sumAt (cntsW x) k))) (ev_callD (cntsW x, k) (ea2 (ev_callD (R := (· = .lst (dI (cntsW x)))) x (ea1 (ev_v rfl)) ok fun _ h => h) (ev_v rfl)) ⟨hk, cntsW_sm ok⟩ fun _ h => h) fun _ h => h
theorem sm20 {k : Int} (h : k.natAbs ≤ 1000) : Sm 20 k := Nat.lt_of_le_of_lt h (by decide)
abbrev N_count_dyes : List PySem.Str := ["web", "number"]
theorem sc_count_dyes : FnScope N_count_dyes ["web", "number"] (defScope s_count_dyes) := ⟨rfl, rfl, rfl, by decide +kernel, rfl, by decide +kernel, by decide +kernel⟩
def sp_count_dyes (C : Cn) : Sp := spT C (fun x : W × Int => [dW x.1, .i x.2]) (fun x => WOk x.1 ∧ 1 ≤ x.2 ∧ x.2 ≤ 1000) (fun x d => d = .i (sumAt (cntsW x.1) x.2))
theorem has_count_dyes {P : Program} {w : World} {K : PySem.W.Frag} {mg : PySem.Str → Option Value} {base : Heap} {C : Cn} (T : Tx K mg C.cls) : Has P w K mg base 7 "count_dyes" ["web", "number"] (sp_count_dyes C) := by
  refine fn_has T 63 (d := d_count_dyes) rfl rfl (N := N_count_dyes) sc_count_dyes rfl rfl (fun _ _ _ _ _ _ us hl => match us, hl with | [_, _], _ => rfl) (fun _ => rfl) (fun cdv A' outer s H E hr => ⟨_, (pss_cons (ps_expr (pe_has (has_check_web T) (hr.mono (by decide)) (by rfl) (pa_cons (pv 0) pa_nil)))
      (pss_cons (ps_if (pt_not (pt_val (pe_has (has_is_between T) (hr.mono (by decide)) (by rfl) (pa_cons (pv 1) (pa_cons pe_int (pa_cons (pe_globI rfl T.iMOST_HEAP) pa_nil)))))) (pss_one ps_never) pss_nil)
      (pss_one (ps_ret (pe_has (has_dyes_counted T) (hr.mono (by decide)) (by rfl) (pa_cons (pv 0) (pa_cons (pv 1) pa_nil))))))), fun x hx => ?_⟩)
  obtain ⟨x, k⟩ := x
  obtain ⟨ok, h1, h2⟩ := hx
  simp only at ok h1 h2
  show SD C _ ⟨[], [.im (dW x), .im (.i k)]⟩ _ _
  refine sq_drop (P := fun _ => True) (ev_callD (st x.1, x.2.map tS) (ea1 (ev_v rfl)) trivial fun _ _ => trivial) ?_
  refine sq_no (et_not (a := true) (et_B ((ev_callD (R := (· = .b (decide ((1 : Int) ≤ k) && decide (k ≤ (1000000 : Int))))) (k, (1 : Int), (1000000 : Int)) (ea3 (ev_v rfl) ev_c ev_c) trivial fun _ h => h).to ?_))) ?_
  · rw [decide_eq_true h1, decide_eq_true (by omega)]
    rfl
  · exact sd_retR (P := (· = .i (sumAt (cntsW x) k))) (ev_callD (x, k) (ea2 (ev_v rfl) (ev_v rfl)) ⟨ok, sm20 (by omega)⟩ fun _ h => h) fun _ h => h
abbrev N_least_dyes : List PySem.Str := ["web", "counts", "found", "number"]
theorem sc_least_dyes : FnScope N_least_dyes ["web"] (defScope s_least_dyes) := ⟨rfl, rfl, rfl, by decide +kernel, rfl, by decide +kernel, by decide +kernel⟩
def goodK (x : W) : List Nat := (List.range x.1.length).filter fun i => decide (0 < sumAt (cntsW x) (1 + (i : Int)))
def leastK (x : W) : D := match goodK x with
  | [] => .n
  | i :: _ => .i (1 + (i : Nat))
def sp_least_dyes (C : Cn) : Sp := spT C (fun x : W => [dW x]) WOk (fun x d => d = leastK x)
theorem shp_ints (l : List Int) : shpL (dI l) = true := by
  induction l with
  | nil => rfl
  | cons a l ih =>
    show shpL (D.v (.int a) :: dI l) = true
    rw [shpL, ih]
    rfl
theorem enc_dI (l : List Int) : encL (dI l) = l.map PyData.int := by
  rw [encL_map]
  unfold dI
  rw [List.map_map]
  rfl
theorem shaped_ints (l : List Int) : PySem.SeqAt.shaped (encD (.lst (dI l))) = true := by
  rw [encD, enc_dI]
  have h := PySem.W.depth_ints l
  have h2 : PyData.canLayAll0 (l.map PyData.int) = true := by
    induction l with
    | nil => simp [PyData.canLayAll0]
    | cons a l ih =>
      have := ih (PySem.W.depth_ints l)
      simp [PyData.canLayAll0, PyData.canLay0, this]
  show ((PyData.list (l.map .int)).canLay0 && decide ((PyData.list (l.map .int)).depth ≤ 64)) = true
  rw [Bool.and_eq_true]
  refine ⟨by simp only [PyData.canLay0]; exact h2, decide_eq_true ?_⟩
  simp only [PyData.depth]
  omega
theorem ne_nil_ints (l : List Int) : (!PyData.eqv (encD (.lst (dI l))) (encD (.lst []))) = !decide (l = []) := by
  rw [encD, enc_dI, encD, encL]
  cases l with
  | nil => simp [PyData.eqv, PyData.eqvAll]
  | cons a l => simp [PyData.eqv, PyData.eqvAll]
/-- xs != [] -/
theorem ev_neNil {C : Cn} {K : PySem.W.Frag} {G : En} {te tn : TE} {l : List Int} (h : EvD C te G (.lst (dI l))) (hn : EvD C tn G (.lst [])) : EvD C (tOp (rNeD K) te tn) G (.b (!decide (l = []))) := by
  refine (ev_opD h hn (rr_neD (by rw [shpD]; exact shp_ints l) (by rfl) (shaped_ints l) (shaped_ints []))).to ?_
  rw [ne_nil_ints]
theorem has_least_dyes {P : Program} {w : World} {K : PySem.W.Frag} {mg : PySem.Str → Option Value} {base : Heap} {C : Cn} (T : Tx K mg C.cls) : Has P w K mg base 6 "least_dyes" ["web"] (sp_least_dyes C) := by
  refine fn_has T 64 (d := d_least_dyes) rfl rfl (N := N_least_dyes) sc_least_dyes rfl rfl (fun _ _ _ _ _ _ us hl => match us, hl with | [_], _ => rfl) (fun _ => rfl) (fun cdv A' outer s H E hr => ⟨_, (pss_cons (ps_expr (pe_has (has_check_web T) (hr.mono (by decide)) (by rfl) (pa_cons (pv 0) pa_nil)))
      (pss_cons (ps_set (i := 1) sc_least_dyes.nd rfl (.inr rfl) (pe_has (has_counts_of T) (hr.mono (by decide)) (by rfl) (pa_cons (pv 0) pa_nil)))
      (pss_cons (ps_setLc (i := 2) (own := [("number", 3)]) (g := gName 3) rfl sc_least_dyes.nd rfl rfl (sw_true rfl rfl rfl (by decide +kernel)) (pi_range2 (by rfl) T.xrange (pa_cons pe_int (pa_cons (pe_op op_add (pe_callB (k_call_len (K := K) rfl) (by rfl) T.xlen bt_len (pa_cons (k_pe_fld (K := K) rfl (pv 0) rfl) pa_nil)) pe_int) pa_nil))) (blkOk_by (own := [("number", 3)]) (N := N_least_dyes) (sc := defScope s_least_dyes) (by decide +kernel)) (fun _ _ _ _ _ => (pg_name (i := 3) sc_least_dyes.nd rfl (.inl rfl))) (fun _ _ _ _ _ => (pts_one (pt_cmpR op_gt (pe_has (has_summed_at T) (hr.mono (by decide)) (by rfl) (pa_cons (pv 1) (pa_cons (pv 3) pa_nil))) pe_int (nomark _)))) (fun _ _ _ _ _ => (pv 3)))
      (pss_one (ps_ret (pe_ifExp (pt_cmpR (op_neD hr.units) (pv 2) (pe_lst pa_nil) (nomark _)) (pe_ix (k_ix_list (K := K) rfl) (pv 2) pe_int (fun _ _ => rfl)) pe_non)))))), fun x hx => ?_⟩)
  have len := WOk.len hx
  have ok : WOk x := hx
  show SD C _ ⟨[], [.im (dW x), .no, .no, .no]⟩ _ _
  refine sq_drop (P := fun _ => True) (ev_callD (st x.1, x.2.map tS) (ea1 (ev_v rfl)) trivial fun _ _ => trivial) ?_
  refine sq_asg (d := .lst (dI (cntsW x))) (ev_callD x (ea1 (ev_v rfl)) ok fun _ h => h) ?_
  have e1 : (((x.1.length : Int) + 1) - 1).toNat = x.1.length := by omega
  refine sq_asg (d := .lst (dI ((goodK x).map fun i : Nat => 1 + (i : Int)))) ((ev_lc (C := C) (js := [3]) (List.range x.1.length) (fun i => D.i (1 + (i : Nat))) (fun i => decide (0 < sumAt (cntsW x) (1 + (i : Int)))) (fun i => D.i (1 + (i : Nat))) (fun i l => l.set 3 (.im (.i (1 + (i : Nat)))))
    ((ei_rng2 (a := 1) (b := (x.1.length : Int) + 1) (ea2 ev_c ((ev_add (ev_lenS (by rw [st_len]; omega) (evw_places T.cl T.nP (ev_v rfl))) ev_c).to (by rw [st_len]))) (by omega)).to (by rw [e1])) (fun _ _ => eg_name) (by rw [List.length_range]; omega) (fun i hi => ?_) (fun i hi _ => ev_v rfl)).dat.to ?_) ?_
  · have hi := List.mem_range.mp hi
    refine et_test (ev_opD (ev_callD (R := (· = .i (sumAt (cntsW x) (1 + (i : Int))))) (cntsW x, 1 + (i : Int)) (ea2 (ev_v rfl) (ev_v rfl)) ⟨?_, cntsW_sm ok⟩ fun _ h => h) ev_c rr_gt)
    unfold Sm
    have : (1 + (i : Int)).natAbs ≤ 6 := by omega
    exact Nat.lt_of_le_of_lt this (by decide)
  · unfold goodK dI
    rw [List.map_map]
    rfl
  · refine sd_retR (P := (· = leastK x)) (ev_if (et_test (ev_neNil (ev_v rfl) (ev_lst ea_nil).dat)) (fun h => ?_) (fun h => ?_)) fun _ h => h
    · cases hg : goodK x with
      | nil =>
        rw [hg] at h
        simp at h
      | cons i l =>
        refine ev_opD (ev_v rfl) ev_c (rr_ixL (d := .i (1 + (i : Nat))) (atI_n (j := 0) rfl) ?_)
        unfold leastK
        rw [hg]
    · cases hg : goodK x with
      | nil =>
        refine ev_c.rel ?_
        unfold leastK
        rw [hg]
      | cons i l =>
        rw [hg] at h
        simp at h
abbrev N_all_rings : List PySem.Str := ["web", "lot"]
theorem sc_all_rings : FnScope N_all_rings ["web"] (defScope s_all_rings) := ⟨rfl, rfl, rfl, by decide +kernel, rfl, by decide +kernel, by decide +kernel⟩
def ringOf (x : W) (m : List (List Nat)) : List (List Nat) := m.filter fun lot => evenLot x lot && roundL x lot
def sp_all_rings (C : Cn) : Sp := spT C (fun x : W => [dW x]) WOk (fun x d => ∃ m : List (List Nat), m.Perm (lotsA x) ∧ d = dLs (ringOf x m))
theorem has_all_rings {P : Program} {w : World} {K : PySem.W.Frag} {mg : PySem.Str → Option Value} {base : Heap} {C : Cn} (T : Tx K mg C.cls) : Has P w K mg base 7 "all_rings" ["web"] (sp_all_rings C) := by
  refine fn_has T 36 (d := d_all_rings) rfl rfl (N := N_all_rings) sc_all_rings rfl rfl (fun _ _ _ _ _ _ us hl => match us, hl with | [_], _ => rfl) (fun _ => rfl) (fun cdv A' outer s H E hr => ⟨_, (pss_one (ps_ret (pe_lc (own := [("lot", 1)]) (g := gName 1) rfl sc_all_rings.nd (k_pi_list (K := K) rfl (pe_has (has_every_lot T) (hr.mono (by decide)) (by rfl) (pa_cons (pv 0) pa_nil))) (blkOk_by (own := [("lot", 1)]) (N := N_all_rings) (sc := defScope s_all_rings) (by decide +kernel)) (fun _ _ _ _ _ => (pg_name (i := 1) sc_all_rings.nd rfl (.inl rfl))) (fun _ _ _ _ _ => (pts_one (PW.pt (pw_and (pt_val (pe_has (has_is_even_lot T) (hr.mono (by decide)) (by rfl) (pa_cons (pv 0) (pa_cons (pv 1) pa_nil)))) (pw_and1 (pt_val (pe_has (has_is_round T) (hr.mono (by decide)) (by rfl) (pa_cons (pv 0) (pa_cons (pv 1) pa_nil))))))))) (fun _ _ _ _ _ => (pv 1))))), fun x hx => ?_⟩)
  have ok : WOk x := hx
  show SD C _ ⟨[], [.im (dW x), .no]⟩ _ _
  refine sd_retR (P := fun d => ∃ m : List (List Nat), m.Perm (lotsA x) ∧ d = dLs (ringOf x m)) ?_ fun _ h => h
  refine ev_lcR (C := C) (js := [1]) (fun m : List (List Nat) => m.Perm (lotsA x)) (fun l => D.tup (dN l)) (fun lot => evenLot x lot && roundL x lot) (fun l => D.tup (dN l)) (fun l s => s.set 1 (.im (.tup (dN l))))
    (ei_listR (ev_callD (R := fun d => ∃ ds, (∃ m : List (List Nat), m.Perm (lotsA x) ∧ ds = m.map fun l => D.tup (dN l)) ∧ d = .lst ds) x (ea1 (ev_v rfl)) hx fun d ⟨m, hm, e⟩ => ⟨_, ⟨m, hm, rfl⟩, e⟩)) (fun _ _ _ _ => eg_name) (fun m hm => by rw [hm.length_eq]; have := lotsA_len ok; omega) (fun m hm lot hl => ?_) (fun m hm lot hl _ => ev_v rfl)
  have lk : LOk x lot := lotsA_ok ok (hm.mem_iff.mp hl)
  exact et_and (et_B (ev_callD (R := (· = .b (evenLot x lot))) (x, lot) (ea2 (ev_v rfl) (ev_v rfl)) ⟨ok, lk.1, Nat.le_trans lk.2 (by decide)⟩ fun _ h => h)) fun _ => et_B (ev_callD (R := (· = .b (roundL x lot))) (x, lot) (ea2 (ev_v rfl) (ev_v rfl)) ⟨ok, lk⟩ fun _ h => h)
abbrev N_rings : List PySem.Str := ["web"]
theorem sc_rings : FnScope N_rings ["web"] (defScope s_rings) := ⟨rfl, rfl, rfl, by decide +kernel, rfl, by decide +kernel, by decide +kernel⟩
def sp_rings (C : Cn) : Sp := spT C (fun x : W => [dW x]) WOk (fun x d => ∃ m : List (List Nat), m.Perm (lotsA x) ∧ d = .tup ((ringOf x m).map fun l => D.tup (dN l)))
theorem has_rings {P : Program} {w : World} {K : PySem.W.Frag} {mg : PySem.Str → Option Value} {base : Heap} {C : Cn} (T : Tx K mg C.cls) : Has P w K mg base 8 "rings" ["web"] (sp_rings C) := by
  refine fn_has T 37 (d := d_rings) rfl rfl (N := N_rings) sc_rings rfl rfl (fun _ _ _ _ _ _ us hl => match us, hl with | [_], _ => rfl) (fun _ => rfl) (fun cdv A' outer s H E hr => ⟨_, (pss_cons (ps_expr (pe_has (has_check_web T) (hr.mono (by decide)) (by rfl) (pa_cons (pv 0) pa_nil)))
      (pss_one (ps_ret (pe_callTy (k_call_tup (K := K) rfl) (by rfl) T.xtuple bt_tuple (pa_cons (pe_has (has_all_rings T) (hr.mono (by decide)) (by rfl) (pa_cons (pv 0) pa_nil)) pa_nil))))), fun x hx => ?_⟩)
  show SD C _ ⟨[], [.im (dW x)]⟩ _ _
  refine sq_drop (P := fun _ => True) (ev_callD (st x.1, x.2.map tS) (ea1 (ev_v rfl)) trivial fun _ _ => trivial) ?_
  refine sd_retR (P := fun d => ∃ m : List (List Nat), m.Perm (lotsA x) ∧ d = .tup ((ringOf x m).map fun l => D.tup (dN l))) (ev_cb1R (ev_callD (R := fun d => ∃ m : List (List Nat), m.Perm (lotsA x) ∧ d = dLs (ringOf x m)) x (ea1 (ev_v rfl)) hx fun _ h => h) fun d ⟨m, hm, e⟩ => ?_) fun _ h => h
  subst e
  exact CR.imp cr_tup fun d h => ⟨m, hm, h⟩
end Wr
set_option maxHeartbeats 4000000
namespace Wr
open PySem L2
/-! ### what can be reached -/
def sg (c : Nat) : PySem.Str := st [c]
def oD : Option Nat → D
  | none => .n
  | some i => .i (i : Nat)
structure CamP (wl : List Tie) (b : Nat) (ks : List Nat) (os : List (Option Nat)) : Prop where
  len : ks.length = os.length
  nd : ks.Nodup
  h0 : ks[0]? = some b
  o0 : os[0]? = some none
  arr : ∀ j, 0 < j → j < ks.length → ∃ i u v, os[j]? = some (some i) ∧ wl[i]? = some (u, v) ∧ ks[j]? = some v ∧ u ∈ ks.take j
structure CamOk (wl : List Tie) (b : Nat) (ks : List Nat) (os : List (Option Nat)) : Prop extends CamP wl b ks os where
  cl : ∀ t ∈ wl, t.1 ∈ ks → t.2 ∈ ks
theorem nodup_sub : ∀ {l m : List Nat}, l.Nodup → (∀ a ∈ l, a ∈ m) → l.length ≤ m.length
  | [], m, _, _ => Nat.zero_le _
  | a :: l, m, nd, h => by
    have ha := h a (List.mem_cons_self ..)
    obtain ⟨na, nd'⟩ := List.nodup_cons.mp nd
    have h2 : ∀ c ∈ l, c ∈ m.erase a := fun c hc => (List.mem_erase_of_ne (fun z => na (by rw [← z]; exact hc))).mpr (h c (List.mem_cons_of_mem _ hc))
    have := nodup_sub nd' h2
    have e := List.length_erase_of_mem ha
    have p := List.length_pos_of_mem ha
    rw [List.length_cons]
    omega
theorem CamP.size {wl : List Tie} {b : Nat} {ks : List Nat} {os : List (Option Nat)} (h : CamP wl b ks os) : ks.length ≤ wl.length + 1 := by
  have := nodup_sub (m := b :: wl.map (·.2)) h.nd fun a ha => by
    obtain ⟨j, hj⟩ := List.getElem?_of_mem ha
    by_cases z : j = 0
    · subst z
      rw [h.h0] at hj
      cases hj
      exact List.mem_cons_self ..
    · obtain ⟨i, u, v, _, h2, h3, _⟩ := h.arr j (by omega) (List.getElem?_eq_some_iff.mp hj).1
      rw [h3] at hj
      cases hj
      exact List.mem_cons_of_mem _ (List.mem_map.mpr ⟨_, List.mem_of_getElem? h2, rfl⟩)
  rw [List.length_cons, List.length_map] at this
  exact this
/-- one more is found -/
theorem CamP.add {wl : List Tie} {b : Nat} {ks : List Nat} {os : List (Option Nat)} (h : CamP wl b ks os) {i u v : Nat} (hi : wl[i]? = some (u, v)) (hu : u ∈ ks) (hv : v ∉ ks) : CamP wl b (ks ++ [v]) (os ++ [some i]) := by
  have p0 : 0 < ks.length := List.length_pos_of_mem hu
  have l := h.len
  refine ⟨by rw [List.length_append, List.length_append, h.len]; rfl, ?_, ?_, ?_, fun j h0 hj => ?_⟩
  · rw [List.nodup_append]
    refine ⟨h.nd, by simp, fun a ha c hc => ?_⟩
    rw [List.mem_singleton.mp hc]
    intro z
    exact hv (z ▸ ha)
  · rw [List.getElem?_append_left p0]
    exact h.h0
  · rw [List.getElem?_append_left (by omega)]
    exact h.o0
  · rw [List.length_append] at hj
    by_cases z : j < ks.length
    · obtain ⟨i', u', v', a1, a2, a3, a4⟩ := h.arr j h0 z
      refine ⟨i', u', v', ?_, a2, ?_, ?_⟩
      · rw [List.getElem?_append_left (by omega)]
        exact a1
      · rw [List.getElem?_append_left z]
        exact a3
      · rw [List.take_append_of_le_length (by omega)]
        exact a4
    · have e : j = ks.length := by
        have : j < ks.length + 1 := hj
        omega
      subst e
      refine ⟨i, u, v, ?_, hi, ?_, ?_⟩
      · rw [h.len, List.getElem?_append_right (Nat.le_refl _), Nat.sub_self]
        rfl
      · rw [List.getElem?_append_right (Nat.le_refl _), Nat.sub_self]
        rfl
      · rw [List.take_append_of_le_length (Nat.le_refl _), List.take_length]
        exact hu
theorem sg_nmem {v : Nat} {ks : List Nat} (h : v ∉ ks) : sg v ∉ ks.map sg := fun z => by
  obtain ⟨c, hc, e⟩ := List.mem_map.mp z
  exact h (st1_inj e ▸ hc)
theorem sg_mem {v : Nat} {ks : List Nat} : decide (sg v ∈ ks.map sg) = decide (v ∈ ks) := by
  by_cases z : v ∈ ks
  · rw [decide_eq_true z, decide_eq_true (List.mem_map.mpr ⟨v, z, rfl⟩)]
  · rw [decide_eq_false z, decide_eq_false (sg_nmem z)]
theorem shp_sg (l : List PySem.Str) : shpL (dS l) = true := by
  induction l with
  | nil => rfl
  | cons a l ih =>
    show shpL (D.v (.str a) :: dS l) = true
    rw [shpL, ih]
    rfl
theorem enc_dS (l : List PySem.Str) : encL (dS l) = l.map PyData.str := by
  rw [encL_map]
  unfold dS
  rw [List.map_map]
  rfl
theorem depth_strs (l : List PySem.Str) : PyData.depthAll (l.map PyData.str) = 0 := by
  induction l with
  | nil => simp [PyData.depthAll]
  | cons a l ih => simp [PyData.depthAll, PyData.depth, ih]
theorem shaped_strs (l : List PySem.Str) (ho : ∀ z ∈ l, PyData.strOk z = true) : PySem.SeqAt.shaped (encD (.lst (dS l))) = true := by
  rw [encD, enc_dS]
  have h := depth_strs l
  have h2 : PyData.canLayAll0 (l.map PyData.str) = true := by
    clear h
    induction l with
    | nil => simp [PyData.canLayAll0]
    | cons a l ih =>
      have := ih fun z hz => ho z (List.mem_cons_of_mem _ hz)
      simp [PyData.canLayAll0, PyData.canLay0, this, ho a (List.mem_cons_self ..)]
  show ((PyData.list (l.map .str)).canLay0 && decide ((PyData.list (l.map .str)).depth ≤ 64)) = true
  rw [Bool.and_eq_true]
  refine ⟨by simp only [PyData.canLay0]; exact h2, decide_eq_true ?_⟩
  simp only [PyData.depth]
  omega
theorem ev_neNilS {C : Cn} {K : PySem.W.Frag} {G : En} {te tn : TE} {l : List PySem.Str} (ho : ∀ z ∈ l, PyData.strOk z = true) (h : EvD C te G (.lst (dS l))) (hn : EvD C tn G (.lst [])) : EvD C (tOp (rNeD K) te tn) G (.b (!decide (l = []))) := by
  refine (ev_opD h hn (rr_neD (by rw [shpD]; exact shp_sg l) (by rfl) (shaped_strs l ho) (shaped_strs [] (fun z hz => absurd hz (by simp))))).to ?_
  rw [encD, enc_dS, encD, encL]
  cases l with
  | nil => simp [PyData.eqv, PyData.eqvAll]
  | cons a l => simp [PyData.eqv, PyData.eqvAll]
theorem sg_ok {c : Nat} (h : c < 200) : PyData.strOk (sg c) = true := by
  unfold PyData.strOk sg st
  simp
  omega
theorem CamP.small {wl : List Tie} {b : Nat} {ks : List Nat} {os : List (Option Nat)} (h : CamP wl b ks os) (hb : b < 200) (hw : ∀ t ∈ wl, t.2 < 200) : ∀ c ∈ ks, c < 200 := fun a ha => by
  obtain ⟨j, hj⟩ := List.getElem?_of_mem ha
  by_cases z : j = 0
  · subst z
    rw [h.h0] at hj
    cases hj
    exact hb
  · obtain ⟨i, u, v, _, h2, h3, _⟩ := h.arr j (by omega) (List.getElem?_eq_some_iff.mp hj).1
    rw [h3] at hj
    cases hj
    exact hw _ (List.mem_of_getElem? h2)
abbrev N_came_by : List PySem.Str := ["ways", "begins", "found", "fresh", "later", "here", "index", "way", "place"]
theorem sc_came_by : FnScope N_came_by ["ways", "begins"] (defScope s_came_by) := ⟨rfl, rfl, rfl, by decide +kernel, rfl, by decide +kernel, by decide +kernel⟩
def sp_came_by (C : Cn) : Sp := spT C (fun x : List Tie × Nat => [.lst (x.1.map dP), .lst [.s (sg x.2)]]) (fun x => x.1.length ≤ 1000 ∧ x.2 < 200 ∧ ∀ t ∈ x.1, t.2 < 200) (fun x d => ∃ ks os, CamOk x.1 x.2 ks os ∧ d = .dic (ks.map sg) (os.map oD))
def camS (wl : List Tie) (b p : Nat) (ks : List Nat) (os : List (Option Nat)) (fr : List Nat) (l a1 a2 a3 : SV) : En := ⟨[(p, .dic (ks.map sg) ((os.map oD).map .im))], [.im (.lst (wl.map dP)), .im (.lst [.s (sg b)]), .ptr p, .im (.lst (dS (fr.map sg))), l, a1, a2, a3, .no]⟩
def camT (wl : List Tie) (b p q : Nat) (ks : List Nat) (os : List (Option Nat)) (fr lt : List Nat) (a1 a2 a3 : SV) : En := ⟨[(q, .lst ((dS (lt.map sg)).map .im)), (p, .dic (ks.map sg) ((os.map oD).map .im))], [.im (.lst (wl.map dP)), .im (.lst [.s (sg b)]), .ptr p, .im (.lst (dS (fr.map sg))), .ptr q, a1, a2, a3, .no]⟩
theorem has_came_by {P : Program} {w : World} {K : PySem.W.Frag} {mg : PySem.Str → Option Value} {base : Heap} {C : Cn} (T : Tx K mg C.cls) : Has P w K mg base 1 "came_by" ["ways", "begins"] (sp_came_by C) := by
  refine fn_has T 38 (d := d_came_by) rfl rfl (N := N_came_by) sc_came_by rfl rfl (fun _ _ _ _ _ _ us hl => match us, hl with | [_, _], _ => rfl) (fun _ => rfl) (fun cdv A' outer s H E hr => ⟨_, (pss_cons (ps_par (i := 2) (j := 3) rfl sc_came_by.nd rfl rfl (by decide) rfl rfl (pa_cons (pe_dc (own := [("place", 8)]) (g := gName 8) (tt := tYes) rfl sc_came_by.nd (k_pi_list (K := K) rfl (pv 1)) (blkOk_by (own := [("place", 8)]) (N := N_came_by) (sc := defScope s_came_by) (by decide +kernel)) (fun _ _ _ _ _ => (pg_name (i := 8) sc_came_by.nd rfl (.inl rfl))) (fun _ _ _ _ _ => pts_nil) (fun _ _ _ _ _ => (pv 8)) (fun _ _ _ _ _ => pe_non)) (pa_cons (pe_callTy (k_call_list (K := K) rfl) (by rfl) T.xlist bt_list (pa_cons (pv 1) pa_nil)) pa_nil)) (by rfl))
      (pss_cons (ps_while PassesOwn.never (pt_cmpR (op_neD hr.units) (pv 3) (pe_lst pa_nil) (nomark _)) (pss_cons (ps_set (i := 4) sc_came_by.nd rfl (.inl rfl) (pe_lst pa_nil))
      (pss_cons (ps_for PassesOwn.never rfl (k_pi_list (K := K) rfl (pv 3)) (pg_name (i := 5) sc_came_by.nd rfl (.inl rfl)) (pss_one (ps_for PassesOwn.never rfl (k_pi_enum (K := K) rfl (by rfl) T.xenumerate (pa_cons (pv 0) pa_nil)) (pg_tup rfl (pgs_cons (pg_name (i := 6) sc_came_by.nd rfl (.inl rfl)) (pgs_cons (pg_name (i := 7) sc_came_by.nd rfl (.inl rfl)) pgs_nil))) (pss_one (ps_if (PW.pt (pw_and (pt_cmpR op_eq (pe_ix (k_ix_tup (K := K) rfl) (pv 7) pe_int (fun _ _ => rfl)) (pv 5) (nomark _)) (pw_and1 (pt_cmp (pc_dnotin (hu_of hr) (pe_ix (k_ix_tup (K := K) rfl) (pv 7) pe_int (fun _ _ => rfl)) (pv 2)) rfl)))) (pss_cons (ps_dput (hu_of hr) (pv 2) (pe_ix (k_ix_tup (K := K) rfl) (pv 7) pe_int (fun _ _ => rfl)) (pv 6) rfl)
      (pss_one (ps_expr (k_pe_bm (K := K) rfl PySem.F.plainAttrs_list PySem.F.slot_list_append PySem.F.type_list_append mt_append (pv 4) (pa_cons (pe_ix (k_ix_tup (K := K) rfl) (pv 7) pe_int (fun _ _ => rfl)) pa_nil))))) pss_nil)))))
      (pss_one (ps_set (i := 3) sc_came_by.nd rfl (.inl rfl) (pv 4))))))
      (pss_one (ps_ret (pv 2))))), fun x hx => ?_⟩)
  obtain ⟨wl, b⟩ := x
  obtain ⟨hz, hb2, hw2⟩ := hx
  simp only at hz hb2 hw2
  show SD C _ ⟨[], [.im (.lst (wl.map dP)), .im (.lst [.s (sg b)]), .no, .no, .no, .no, .no, .no, .no]⟩ _ _
  refine sq_parDc (ks := [b].map sg) (ds := [D.n]) (d := .lst (dS ([b].map sg))) (ev_dc (C := C) (js := [8]) [b] (fun c => D.s (sg c)) sg (fun _ => .n) (fun c l => l.set 8 (.im (.s (sg c)))) (ei_list (ev_v rfl)) (fun _ _ => eg_name) (by simp) (by simp) (fun _ _ => ev_v rfl) (fun _ _ => ev_c)) ((ev_cbF (ea1 (ev_v rfl)) (cf_list (ds := [D.s (sg b)]))).dat.to rfl) fun p _ => ?_
  refine sq_while (M := fun G => ∃ ks os l a1 a2 a3, CamOk wl b ks os ∧ G = camS wl b p ks os [] l a1 a2 a3)
    (fun m G => ∃ ks os fr l a1 a2 a3, CamP wl b ks os ∧ (∀ c ∈ fr, c ∈ ks) ∧ (∀ t ∈ wl, t.1 ∈ ks → t.1 ∉ fr → t.2 ∈ ks) ∧ m = 2 * (wl.length + 1 - ks.length) + (if fr = [] then 0 else 1) ∧ G = camS wl b p ks os fr l a1 a2 a3) _
    ⟨[b], [none], [b], .no, .no, .no, .no, ⟨rfl, by simp, rfl, rfl, fun j h0 hj => by simp at hj; omega⟩, fun c hc => hc, fun t ht h1 h2 => absurd h1 h2, rfl, rfl⟩ ?_ ?_
  · rintro m G ⟨ks, os, fr, l, a1, a2, a3, cp, hf, hcl, hm, rfl⟩
    refine ⟨_, et_test (ev_neNilS (l := fr.map sg) (fun z hz => by
      obtain ⟨c, hc, rfl⟩ := List.mem_map.mp hz
      exact sg_ok (cp.small hb2 hw2 c (hf c hc))) (ev_v rfl) (ev_lst ea_nil).dat), fun h => ?_, fun h => ?_⟩
    rotate_left 1
    · have : fr = [] := by
        cases fr with
        | nil => rfl
        | cons a fr => simp at h
      subst this
      exact ⟨ks, os, l, a1, a2, a3, { cp with cl := fun t ht h1 => hcl t ht h1 (List.not_mem_nil) }, rfl⟩
    · have hfr : fr ≠ [] := by
        intro z
        subst z
        simp at h
      refine sq_ownF (ds := []) (ev_lst ea_nil) fun q hq => ?_
      have hqp : q ≠ p := fun z => hq (by rw [z]; exact List.mem_singleton.mpr rfl)
      refine sq_for (C := C) (js := [5]) fr (fun c => D.s (sg c)) (fun c s => s.set 5 (.im (.s (sg c)))) (fun i G => ∃ lt os' a1 a2 a3, CamP wl b (ks ++ lt) (os ++ os') ∧ (∀ t ∈ wl, t.1 ∈ fr.take i → t.2 ∈ ks ++ lt) ∧ G = camT wl b p q (ks ++ lt) (os ++ os') fr lt a1 a2 a3)
        ((ei_list (ev_v rfl)).to (by unfold dS; rw [List.map_map]; rfl)) (fun _ _ => eg_name) ⟨[], [], a1, a2, a3, by rw [List.append_nil, List.append_nil]; exact cp, fun t ht z => absurd z (by simp), by rw [List.append_nil, List.append_nil]; rfl⟩ ?_ ?_
      · rintro i here G hi ⟨lt, os', a1, a2, a3, cp', hc', rfl⟩
        have hmem : here ∈ ks := hf here (List.mem_of_getElem? hi)
        have ht : fr.take (i + 1) = fr.take i ++ [here] := by
          rw [List.take_add_one, hi]
          rfl
        refine sd_for (C := C) (js := [6, 7]) (List.range wl.length) (fun k => D.tup [D.i (k : Nat), dP (wl.getD k (0, 0))]) (fun k s => (s.set 6 (.im (.i (k : Nat)))).set 7 (.im (dP (wl.getD k (0, 0))))) (fun k G => ∃ lt os' a2 a3, CamP wl b (ks ++ lt) (os ++ os') ∧ (∀ t ∈ wl, t.1 ∈ fr.take i → t.2 ∈ ks ++ lt) ∧ (∀ t ∈ wl.take k, t.1 = here → t.2 ∈ ks ++ lt) ∧ G = camT wl b p q (ks ++ lt) (os ++ os') fr lt (.im (.s (sg here))) a2 a3)
          ((ei_enum (ea1 (ev_v rfl))).to (enumD_map dP wl (0, 0))) (fun _ _ => eg_pair) ⟨lt, os', a2, a3, cp', hc', fun t ht z => absurd ht (by simp), rfl⟩ ?_ ?_
        · rintro k k' G hk ⟨lt, os', a2, a3, cp', hc', hk', rfl⟩
          have hkl : k < wl.length ∧ k = k' := by
            have h1 := (List.getElem?_eq_some_iff.mp hk).1
            rw [List.length_range] at h1
            rw [List.getElem?_range h1] at hk
            exact ⟨h1, Option.some.inj hk⟩
          obtain ⟨hkl, rfl⟩ := hkl
          have hw : wl[k]? = some (wl.getD k (0, 0)) := by
            rw [List.getD_eq_getElem?_getD, List.getElem?_eq_getElem hkl]
            rfl
          have htk : wl.take (k + 1) = wl.take k ++ [wl.getD k (0, 0)] := by
            rw [List.take_add_one, hw]
            rfl
          generalize hT : wl.getD k (0, 0) = t at hw htk
          have szk := cp'.size
          refine sd_if (b := decide (t.1 = here) && !decide (t.2 ∈ ks ++ lt)) (et_and (et_test ((ev_opD (ev_opD (x := .tup [.s (sg t.1), .s (sg t.2)]) (ev_v rfl) ev_c (rr_ixT rfl rfl)) (ev_v rfl) rr_eqS).to ?_)) fun _ => et_B ((ev_dnotinO (l := p) (ks := (ks ++ lt).map sg) (xs := ((os ++ os').map oD).map .im) rfl (by unfold camT; exact List.mem_cons_of_mem _ (List.mem_singleton.mpr rfl)) (ev_opD (x := .tup [.s (sg t.1), .s (sg t.2)]) (ev_v rfl) ev_c (rr_ixT rfl rfl))).to ?_)) (fun hb => ?_) (fun hb => ?_)
          · have : decide (sg t.1 = sg here) = decide (t.1 = here) := by
              unfold sg
              rw [st_dec]
              by_cases z : t.1 = here
              · simp [z]
              · simp [z]
            rw [this]
          · rw [sg_mem]
          · rw [Bool.and_eq_true] at hb
            have h1 : t.1 = here := of_decide_eq_true hb.1
            have h2 : t.2 ∉ ks ++ lt := by simpa using hb.2
            refine sd_seq1 (G1 := camT wl b p q (ks ++ (lt ++ [t.2])) (os ++ (os' ++ [some k])) fr lt (.im (.s (sg here))) (.im (.i (k : Nat))) (.im (dP t))) (sd_dput (P := (· = D.i (k : Nat))) (l := p) (ks := (ks ++ lt).map sg) (xs := ((os ++ os').map oD).map .im) (k := sg t.2) rfl (by unfold camT; exact List.mem_cons_of_mem _ (List.mem_singleton.mpr rfl)) (ev_v rfl) (ev_opD (x := .tup [.s (sg t.1), .s (sg t.2)]) (ev_v rfl) ev_c (rr_ixT rfl rfl)) (sg_nmem h2) (by rw [List.length_map]; omega) fun d hd => ?_) ?_
            · subst hd
              unfold camT En.up En.put
              simp only [List.map_cons, List.map_nil, if_neg hqp, if_pos]
              congr 3
              all_goals simp [oD]
            · refine sd_app (l := q) (xs := (dS (lt.map sg)).map .im) (P := (· = D.s (sg t.2))) rfl (by unfold camT; exact List.mem_cons_self ..) (ev_opD (x := .tup [.s (sg t.1), .s (sg t.2)]) (ev_v rfl) ev_c (rr_ixT rfl rfl)) (by rw [List.length_map]; unfold dS; rw [List.length_map, List.length_map]; rw [List.length_append] at szk; omega) fun d hd => ?_
              subst hd
              refine ⟨lt ++ [t.2], os' ++ [some k], .im (.i (k : Nat)), .im (dP t), ?_, fun t' ht' z => ?_, fun t' ht' z => ?_, ?_⟩
              · have := cp'.add hw (h1 ▸ List.mem_append_left _ hmem) h2
                rw [List.append_assoc, List.append_assoc] at this
                exact this
              · have := hc' t' ht' z
                rw [← List.append_assoc]
                exact List.mem_append_left _ this
              · rw [htk] at ht'
                rw [← List.append_assoc]
                rcases List.mem_append.mp ht' with y | y
                · exact List.mem_append_left _ (hk' t' y z)
                · rw [List.mem_singleton.mp y]
                  exact List.mem_append_right _ (List.mem_singleton.mpr rfl)
              · unfold camT En.put
                simp only [List.map_cons, List.map_nil, if_neg (Ne.symm hqp), if_pos]
                congr 3
                simp [dS]
          · refine sd_next ⟨lt, os', .im (.i (k : Nat)), .im (dP t), cp', hc', fun t' ht' z => ?_, rfl⟩
            rw [htk] at ht'
            rcases List.mem_append.mp ht' with y | y
            · exact hk' t' y z
            · rw [List.mem_singleton.mp y] at z ⊢
              rw [decide_eq_true z, Bool.true_and] at hb
              exact Decidable.byContradiction fun n => by
                rw [decide_eq_false n] at hb
                exact absurd hb (by decide)
        · rintro G ⟨lt, os', a2, a3, cp', hc', hk', rfl⟩
          rw [List.length_range, List.take_length] at hk'
          refine ⟨lt, os', _, _, _, cp', fun t ht' z => ?_, rfl⟩
          rw [ht] at z
          rcases List.mem_append.mp z with y | y
          · exact hc' t ht' y
          · exact hk' t ht' (List.mem_singleton.mp y)
      · rintro G ⟨lt, os', a1, a2, a3, cp', hc', rfl⟩
        rw [List.take_length] at hc'
        let fz : SV → SV := fun s => match s with
          | .ptr m => if m = q then .im (.lst (dS (lt.map sg))) else .ptr m
          | s => s
        refine sd_frz (l := q) (ds := dS (lt.map sg)) (by unfold camT; exact List.mem_cons_self ..) (sd_st (G1 := ⟨[(p, .dic ((ks ++ lt).map sg) (((os ++ os').map oD).map .im))], [.im (.lst (wl.map dP)), .im (.lst [.s (sg b)]), .ptr p, .im (.lst (dS (fr.map sg))), .im (.lst (dS (lt.map sg))), fz a1, fz a2, fz a3, .no]⟩) ?_ ?_)
        · unfold camT En.frz
          simp [Ne.symm hqp, fz] <;> exact ⟨by cases a1 <;> rfl, by cases a2 <;> rfl, by cases a3 <;> rfl⟩
        · have sz := cp'.size
          have sz0 := cp.size
          rw [List.length_append] at sz
          refine sd_asg (d := .lst (dS (lt.map sg))) (ev_v rfl) ⟨2 * (wl.length + 1 - (ks ++ lt).length) + (if lt = [] then 0 else 1), ?_, ks ++ lt, os ++ os', lt, .im (.lst (dS (lt.map sg))), fz a1, fz a2, fz a3, cp', fun c hc => List.mem_append_right _ hc, fun t ht' z z2 => ?_, rfl, rfl⟩
          · rw [hm, if_neg hfr, List.length_append]
            cases lt with
            | nil => simp
            | cons a lt =>
              rw [if_neg (by simp)]
              rw [List.length_cons] at sz ⊢
              omega
          · rcases List.mem_append.mp z with y | y
            · by_cases w : t.1 ∈ fr
              · exact hc' t ht' w
              · exact List.mem_append_left _ (hcl t ht' y w)
            · exact absurd y z2
  · rintro G ⟨ks, os, l, a1, a2, a3, ok, rfl⟩
    refine sd_frzK (l := p) (ks := ks.map sg) (ds := os.map oD) (List.mem_singleton.mpr rfl) (sd_ret (d := .dic (ks.map sg) (os.map oD)) (ev_v ?_) ⟨ks, os, ok, rfl⟩)
    unfold camS En.frzK
    simp
end Wr
set_option maxHeartbeats 4000000
namespace Wr
open PySem L2
theorem dget_at : ∀ {ks : List Nat} {ds : List D} {j c : Nat} {d : D}, ks.Nodup → ks[j]? = some c → ds[j]? = some d → dgetD (ks.map sg) ds (sg c) = some d
  | [], ds, j, c, d, _, h, _ => by simp at h
  | k :: ks, [], j, c, d, _, _, h => by simp at h
  | k :: ks, e :: ds, 0, c, d, _, h1, h2 => by
    have h1 : k = c := by simpa using h1
    have h2 : e = d := by simpa using h2
    rw [List.map_cons, dgetD, if_pos (by rw [h1]), h2]
  | k :: ks, e :: ds, j + 1, c, d, nd, h1, h2 => by
    obtain ⟨nk, nd'⟩ := List.nodup_cons.mp nd
    have h1 : ks[j]? = some c := by simpa using h1
    rw [List.map_cons, dgetD, if_neg]
    · exact dget_at nd' h1 (by simpa using h2)
    · intro z
      exact nk (st1_inj z ▸ List.mem_of_getElem? h1)
inductive Trail (wl : List Tie) (b : Nat) : Nat → List Nat → Prop
  | nil : Trail wl b b []
  | cons {i u c : Nat} {is : List Nat} (h : wl[i]? = some (u, c)) (t : Trail wl b u is) : Trail wl b c (i :: is)
theorem CamP.at {wl : List Tie} {b : Nat} {ks : List Nat} {os : List (Option Nat)} (h : CamP wl b ks os) {j c : Nat} (hj : ks[j]? = some c) : (j = 0 ∧ c = b ∧ os[j]? = some none) ∨ ∃ i u j', os[j]? = some (some i) ∧ wl[i]? = some (u, c) ∧ j' < j ∧ ks[j']? = some u := by
  by_cases z : j = 0
  · subst z
    have := h.h0
    rw [hj] at this
    cases this
    exact .inl ⟨rfl, rfl, h.o0⟩
  · obtain ⟨i, u, v, h1, h2, h3, h4⟩ := h.arr j (by omega) (List.getElem?_eq_some_iff.mp hj).1
    rw [hj] at h3
    cases h3
    obtain ⟨j', hj'⟩ := List.getElem?_of_mem h4
    have hlt := (List.getElem?_eq_some_iff.mp hj').1
    rw [List.length_take] at hlt
    rw [List.getElem?_take_of_lt (by omega)] at hj'
    exact .inr ⟨i, u, j', h1, h2, by omega, hj'⟩
structure CamX where
  wl : List Tie
  b : Nat
  ks : List Nat
  os : List (Option Nat)
  g : Nat
abbrev N_lot_to : List PySem.Str := ["ways", "came", "goal", "found"]
theorem sc_lot_to : FnScope N_lot_to ["ways", "came", "goal"] (defScope s_lot_to) := ⟨rfl, rfl, rfl, by decide +kernel, rfl, by decide +kernel, by decide +kernel⟩
def sp_lot_to (C : Cn) : Sp := spT C (fun x : CamX => [.lst (x.wl.map dP), .dic (x.ks.map sg) (x.os.map oD), .s (sg x.g)]) (fun x => CamP x.wl x.b x.ks x.os ∧ x.g ∈ x.ks ∧ x.wl.length ≤ 1000) (fun x d => ∃ is : List Nat, Trail x.wl x.b x.g is ∧ is.Nodup ∧ is.length ≤ x.wl.length ∧ (∀ i ∈ is, i < x.wl.length) ∧ d = .lst (dN is))
theorem has_lot_to {P : Program} {w : World} {K : PySem.W.Frag} {mg : PySem.Str → Option Value} {base : Heap} {C : Cn} (T : Tx K mg C.cls) : Has P w K mg base 1 "lot_to" ["ways", "came", "goal"] (sp_lot_to C) := by
  refine fn_has T 39 (d := d_lot_to) rfl rfl (N := N_lot_to) sc_lot_to rfl rfl (fun _ _ _ _ _ _ us hl => match us, hl with | [_, _, _], _ => rfl) (fun _ => rfl) (fun cdv A' outer s H E hr => ⟨_, (pss_cons (ps_set (i := 3) sc_lot_to.nd rfl (.inl rfl) (pe_lst pa_nil))
      (pss_cons (ps_while PassesOwn.never (pt_cmpR op_notN (pe_dget (hu_of hr) (pv 1) (pv 2) (fun _ _ => rfl)) pe_non (nomark _)) (pss_cons (ps_expr (k_pe_bm (K := K) rfl PySem.F.plainAttrs_list PySem.F.slot_list_append PySem.F.type_list_append mt_append (pv 3) (pa_cons (pe_dget (hu_of hr) (pv 1) (pv 2) (fun _ _ => rfl)) pa_nil)))
      (pss_one (ps_set (i := 2) sc_lot_to.nd rfl (.inl rfl) (pe_ix (k_ix_tup (K := K) rfl) (pe_ix (k_ix_list (K := K) rfl) (pv 0) (pe_dget (hu_of hr) (pv 1) (pv 2) (fun _ _ => rfl)) (fun _ _ => rfl)) pe_int (fun _ _ => rfl))))))
      (pss_one (ps_ret (pv 3))))), fun x hx => ?_⟩)
  obtain ⟨wl, b, ks, os, goal⟩ := x
  obtain ⟨cp, hg, hz⟩ := hx
  simp only at cp hg hz
  show SD C _ ⟨[], [.im (.lst (wl.map dP)), .im (.dic (ks.map sg) (os.map oD)), .im (.s (sg goal)), .no]⟩ _ _
  refine sq_ownF (ds := []) (ev_lst ea_nil) fun p _ => ?_
  obtain ⟨j0, hj0⟩ := List.getElem?_of_mem hg
  refine sq_while (M := fun G => ∃ fd, Trail wl b goal fd ∧ fd.Nodup ∧ fd.length ≤ wl.length ∧ (∀ i ∈ fd, i < wl.length) ∧ G = ⟨[(p, .lst ((dN fd).map .im))], [.im (.lst (wl.map dP)), .im (.dic (ks.map sg) (os.map oD)), .im (.s (sg b)), .ptr p]⟩)
    (fun m G => ∃ fd cur, ks[m]? = some cur ∧ (∀ rest, Trail wl b cur rest → Trail wl b goal (fd ++ rest)) ∧ (∀ i ∈ fd, ∃ u v j', wl[i]? = some (u, v) ∧ ks[j']? = some v ∧ m < j') ∧ fd.Nodup ∧ G = ⟨[(p, .lst ((dN fd).map .im))], [.im (.lst (wl.map dP)), .im (.dic (ks.map sg) (os.map oD)), .im (.s (sg cur)), .ptr p]⟩) j0
    ⟨[], goal, hj0, fun rest h => h, fun i hi => absurd hi (List.not_mem_nil), List.nodup_nil, rfl⟩ ?_ ?_
  · rintro m G ⟨fd, cur, hm, htr, hfd, hnd, rfl⟩
    have hlt : ∀ i ∈ fd, i < wl.length := fun i hi => by
      obtain ⟨u, v, j', h1, _, _⟩ := hfd i hi
      exact (List.getElem?_eq_some_iff.mp h1).1
    have hlen : fd.length ≤ wl.length := by
      have := nodup_sub (m := List.range wl.length) hnd fun i hi => List.mem_range.mpr (hlt i hi)
      rwa [List.length_range] at this
    rcases cp.at hm with ⟨rfl, rfl, ho⟩ | ⟨i, u, j', ho, hw, hjl, hu⟩
    · have hd : dgetD (ks.map sg) (os.map oD) (sg cur) = some (oD none) := dget_at cp.nd hm (by rw [List.getElem?_map, ho]; rfl)
      refine ⟨false, et_test ((ev_opD (x := D.n) (ev_dget (R := (· = D.n)) (ev_v rfl) (ev_v rfl) hd rfl) ev_c rr_notN).to rfl), fun z => absurd z Bool.false_ne_true, fun _ => ⟨fd, ?_, hnd, hlen, hlt, rfl⟩⟩
      have := htr [] .nil
      rwa [List.append_nil] at this
    · have hd : dgetD (ks.map sg) (os.map oD) (sg cur) = some (oD (some i)) := dget_at cp.nd hm (by rw [List.getElem?_map, ho]; rfl)
      refine ⟨true, et_test ((ev_opD (x := D.i (i : Nat)) (ev_dget (R := (· = D.i (i : Nat))) (ev_v rfl) (ev_v rfl) hd rfl) ev_c rr_notN).to rfl), fun _ => ?_, fun z => absurd z (by decide)⟩
      refine sq_app (l := p) (xs := (dN fd).map .im) (P := (· = D.i (i : Nat))) rfl (List.mem_singleton.mpr rfl) (ev_dget (ev_v rfl) (ev_v rfl) hd rfl) (by rw [List.length_map, List.length_map]; omega) fun d hd' => ?_
      subst hd'
      rw [put_one]
      refine sd_asg (d := .s (sg u)) (ev_opD (x := .tup [.s (sg u), .s (sg cur)]) (ev_opD (y := .i (i : Nat)) (ev_v rfl) (ev_dget (R := (· = D.i (i : Nat))) (ev_v rfl) (ev_v rfl) hd rfl) (rr_ixL (atI_n (by rw [List.getElem?_map, hw]; rfl)) rfl)) ev_c (rr_ixT rfl rfl)) ⟨j', hjl, fd ++ [i], u, hu, fun rest hr => ?_, fun i' hi' => ?_, ?_, ?_⟩
      · rw [List.append_assoc]
        exact htr _ (.cons hw hr)
      · rcases List.mem_append.mp hi' with z | z
        · obtain ⟨a, c, j2, h1, h2, h3⟩ := hfd i' z
          exact ⟨a, c, j2, h1, h2, by omega⟩
        · rw [List.mem_singleton.mp z]
          exact ⟨u, cur, m, hw, hm, hjl⟩
      · rw [List.nodup_append]
        refine ⟨hnd, by simp, fun a ha c hc => ?_⟩
        rw [List.mem_singleton.mp hc]
        rintro rfl
        obtain ⟨a', c', j2, h1, h2, h3⟩ := hfd a ha
        rw [hw] at h1
        cases h1
        have e1 := (List.getElem?_eq_some_iff.mp h2)
        have e2 := (List.getElem?_eq_some_iff.mp hm)
        exact List.pairwise_iff_getElem.mp cp.nd m j2 e2.1 e1.1 h3 (by rw [e2.2, e1.2])
      · show (⟨_, _⟩ : En) = _
        congr 3
        simp [dN]
  · rintro G ⟨fd, htr, hnd, hlen, hlt, rfl⟩
    refine sd_frz (l := p) (ds := dN fd) (List.mem_singleton.mpr rfl) (sd_ret (d := .lst (dN fd)) (ev_v ?_) ⟨fd, htr, hnd, hlen, hlt, rfl⟩)
    simp [En.frz]
/-! ### potentials -/
def pot (f : Nat → Int) : List Tie → List Int → Int
  | t :: ps, r :: rs => r * (f t.1 - f t.2) + pot f ps rs
  | _, _ => 0
theorem pot_set (f : Nat → Int) : ∀ (ps : List Tie) (rs : List Int) (i : Nat) (t : Tie) (a s : Int), ps[i]? = some t → rs[i]? = some a → pot f ps (rs.set i (a + s)) = pot f ps rs + s * (f t.1 - f t.2)
  | [], _, i, t, a, s, h, _ => by simp at h
  | _ :: _, [], i, t, a, s, _, h => by simp at h
  | p :: ps, r :: rs, 0, t, a, s, h1, h2 => by
    have h1 : p = t := by simpa using h1
    have h2 : r = a := by simpa using h2
    subst h1 h2
    show (r + s) * _ + pot f ps rs = r * _ + pot f ps rs + _
    rw [Int.add_mul]
    omega
  | p :: ps, r :: rs, i + 1, t, a, s, h1, h2 => by
    have ih := pot_set f ps rs i t a s (by simpa using h1) (by simpa using h2)
    show r * _ + pot f ps (rs.set i (a + s)) = r * _ + pot f ps rs + _
    rw [ih]
    omega
theorem pot_zero (f : Nat → Int) : ∀ (ps : List Tie) (n : Nat), pot f ps (List.replicate n 0) = 0
  | [], n => by
    cases n <;> rfl
  | p :: ps, 0 => rfl
  | p :: ps, n + 1 => by
    rw [List.replicate_succ]
    show 0 * _ + pot f ps (List.replicate n 0) = 0
    rw [pot_zero f ps n, Int.zero_mul]
    rfl
theorem trail_pot (f : Nat → Int) {wl : List Tie} {b c : Nat} {is : List Nat} (t : Trail wl b c is) : (is.map fun i => f (wl.getD i (0, 0)).1 - f (wl.getD i (0, 0)).2).sum = f b - f c := by
  induction t with
  | nil => simp
  | @cons i u c is h t ih =>
    rw [List.map_cons, List.sum_cons, ih, List.getD_eq_getElem?_getD, h]
    show f u - f c + (f b - f u) = _
    omega
/-- steps taken: the arrow's change, at places all different -/
def stepped (r : List Int) (ln : List (Nat × Int)) : List Int := ln.foldl (fun r p => r.set p.1 (r.getD p.1 0 + p.2)) r
theorem stepped_pot (f : Nat → Int) (ps : List Tie) : ∀ (ln : List (Nat × Int)) (r : List Int), r.length = ps.length → (∀ p ∈ ln, p.1 < ps.length) → pot f ps (stepped r ln) = pot f ps r + (ln.map fun p => p.2 * (f (ps.getD p.1 (0, 0)).1 - f (ps.getD p.1 (0, 0)).2)).sum
  | [], r, _, _ => by
    show pot f ps r = pot f ps r + 0
    omega
  | p :: ln, r, hl, h => by
    have h1 := h p (List.mem_cons_self ..)
    have e := stepped_pot f ps ln (r.set p.1 (r.getD p.1 0 + p.2)) (by rw [List.length_set]; exact hl) fun q hq => h q (List.mem_cons_of_mem _ hq)
    show pot f ps (stepped (r.set p.1 (r.getD p.1 0 + p.2)) ln) = _
    rw [e, pot_set f ps r p.1 (ps.getD p.1 (0, 0)) (r.getD p.1 0) p.2, List.map_cons, List.sum_cons]
    · omega
    · rw [List.getD_eq_getElem?_getD, List.getElem?_eq_getElem h1]
      rfl
    · rw [List.getD_eq_getElem?_getD, List.getElem?_eq_getElem (by omega)]
      rfl
theorem stepped_len : ∀ (ln : List (Nat × Int)) (r : List Int), (stepped r ln).length = r.length
  | [], r => rfl
  | p :: ln, r => by
    show (stepped (r.set p.1 _) ln).length = _
    rw [stepped_len, List.length_set]
theorem stepped_get : ∀ (ln : List (Nat × Int)) (r : List Int) (i : Nat), i < r.length → (ln.map (·.1)).Nodup → (stepped r ln).getD i 0 = r.getD i 0 + (match ln.find? (fun p => p.1 = i) with | some p => p.2 | none => 0)
  | [], r, i, _, _ => by
    show r.getD i 0 = r.getD i 0 + 0
    omega
  | p :: ln, r, i, hi, nd => by
    rw [List.map_cons, List.nodup_cons] at nd
    show (stepped (r.set p.1 _) ln).getD i 0 = _
    rw [stepped_get ln _ i (by rw [List.length_set]; exact hi) nd.2, List.find?_cons]
    by_cases z : p.1 = i
    · subst z
      have : ln.find? (fun q => decide (q.1 = p.1)) = none := by
        rw [List.find?_eq_none]
        intro q hq y
        have y : q.1 = p.1 := by simpa using y
        exact nd.1 (y ▸ List.mem_map.mpr ⟨q, hq, rfl⟩)
      rw [this, decide_eq_true rfl]
      rw [List.getD_eq_getElem?_getD, List.getElem?_set_self hi]
      show r.getD p.1 0 + p.2 + 0 = r.getD p.1 0 + p.2
      omega
    · rw [decide_eq_false z]
      congr 1
      rw [List.getD_eq_getElem?_getD, List.getElem?_set_ne z, ← List.getD_eq_getElem?_getD]
end Wr
set_option maxHeartbeats 4000000
namespace Wr
open PySem L2
section
variable {C : Cn} {K : PySem.W.Frag} {G : En} {ti : TE} {i : Nat}
/-- xs[j], xs owned -/
theorem ev_ixO {l : Addr} {xs : List SV} {x : V} {j : Nat} (hi : G.De[i]? = some (.ptr l)) (hl : G.at l (.lst xs)) (hx : EvD C ti G (.i (j : Nat))) (hj : xs[j]? = some (.im (.v x))) : EvD C (tOp (rIxL K) (tVar i) ti) G (.v x) := fun O H σ g Q q => by
  obtain ⟨o, h1, h2⟩ := g.sl.get hi
  have h2 : o = some (.ref l) := h2
  subst h2
  obtain ⟨vs, hv, hs⟩ := g.ok _ hl
  refine ⟨.ref l, h1, hx O H σ g _ fun d w H1 hd e1 rw' => ?_⟩
  subst hd
  obtain ⟨o, h3, v, rfl, rv⟩ := hs.get hj
  have hv3 : vs[j]? = some v := by
    rw [List.getElem?_map] at h3
    cases q : vs[j]? with
    | none =>
      rw [q] at h3
      cases h3
    | some c =>
      rw [q] at h3
      exact Option.some.inj h3
  exact ⟨l, vs, (j : Int), v, rfl, rep_v.mp rw', SqL.of (e1 _ _ hv rfl), atI_n hv3, q _ _ H1 rfl e1 (rep_v.mpr (rep_v.mp rv))⟩
end
/-! ### one round of filling -/
def bits (r : List Int) : Prop := ∀ a ∈ r, a = 0 ∨ a = 1
def prA (ps : List Tie) (i : Nat) : Tie := ps.getD i (0, 0)
def spotsOf (r : List Int) : List Nat := (List.range r.length).filter fun i => decide (r.getD i 0 < 1)
def backsOf (r : List Int) : List Nat := (List.range r.length).filter fun i => decide (0 < r.getD i 0)
def tgOf (r : List Int) : List (Nat × Int) := (spotsOf r).map (fun i => (i, 1)) ++ (backsOf r).map fun i => (i, -1)
def wayOf (ps : List Tie) (p : Nat × Int) : Tie := if p.2 = 1 then prA ps p.1 else swp (prA ps p.1)
def waysOf (ps : List Tie) (r : List Int) : List Tie := (tgOf r).map (wayOf ps)
theorem waysOf_eq (ps : List Tie) (r : List Int) : waysOf ps r = (spotsOf r).map (prA ps) ++ (backsOf r).map (swp ∘ prA ps) := by
  unfold waysOf tgOf
  rw [List.map_append, List.map_map, List.map_map]
  rfl
theorem tg_fst (r : List Int) : ((tgOf r).map (·.1)).Nodup := by
  unfold tgOf
  rw [List.map_append, List.map_map, List.map_map, List.nodup_append]
  have e1 : (Prod.fst ∘ fun i : Nat => (i, (1 : Int))) = id := rfl
  have e2 : (Prod.fst ∘ fun i : Nat => (i, (-1 : Int))) = id := rfl
  rw [e1, e2, List.map_id, List.map_id]
  refine ⟨List.nodup_range.sublist List.filter_sublist, List.nodup_range.sublist List.filter_sublist, fun a ha b hb => ?_⟩
  rintro rfl
  have h1 : r.getD a 0 < 1 := of_decide_eq_true (List.mem_filter.mp ha).2
  have h2 : 0 < r.getD a 0 := of_decide_eq_true (List.mem_filter.mp hb).2
  omega
theorem getD_mem {r : List Int} {i : Nat} (h : i < r.length) : r.getD i 0 ∈ r := by
  rw [List.getD_eq_getElem?_getD, List.getElem?_eq_getElem h]
  exact List.getElem_mem h
theorem tg_ok {r : List Int} (hb : bits r) {p : Nat × Int} (h : p ∈ tgOf r) : p.1 < r.length ∧ ((p.2 = 1 ∧ r.getD p.1 0 = 0) ∨ (p.2 = -1 ∧ r.getD p.1 0 = 1)) := by
  unfold tgOf at h
  rcases List.mem_append.mp h with z | z
  · obtain ⟨i, hi, rfl⟩ := List.mem_map.mp z
    obtain ⟨h1, h2⟩ := List.mem_filter.mp hi
    have h1 := List.mem_range.mp h1
    have h2 : r.getD i 0 < 1 := of_decide_eq_true h2
    refine ⟨h1, .inl ⟨rfl, ?_⟩⟩
    rcases hb _ (getD_mem h1) with q | q
    · exact q
    · omega
  · obtain ⟨i, hi, rfl⟩ := List.mem_map.mp z
    obtain ⟨h1, h2⟩ := List.mem_filter.mp hi
    have h1 := List.mem_range.mp h1
    have h2 : 0 < r.getD i 0 := of_decide_eq_true h2
    refine ⟨h1, .inr ⟨rfl, ?_⟩⟩
    rcases hb _ (getD_mem h1) with q | q
    · omega
    · exact q
theorem way_pot (f : Nat → Int) (ps : List Tie) {r : List Int} (hb : bits r) {p : Nat × Int} (h : p ∈ tgOf r) : p.2 * (f (prA ps p.1).1 - f (prA ps p.1).2) = f (wayOf ps p).1 - f (wayOf ps p).2 := by
  unfold wayOf
  rcases (tg_ok hb h).2 with ⟨e, _⟩ | ⟨e, _⟩
  · rw [e, if_pos rfl]
    omega
  · rw [e, if_neg (by decide)]
    show -1 * _ = f (prA ps p.1).2 - f (prA ps p.1).1
    omega
def lineOf (r : List Int) (is : List Nat) : List (Nat × Int) := is.map fun i => (tgOf r).getD i (0, 0)
theorem line_fst {r : List Int} {is : List Nat} (nd : is.Nodup) (h : ∀ i ∈ is, i < (tgOf r).length) : ((lineOf r is).map (·.1)).Nodup := by
  unfold lineOf
  rw [List.map_map]
  rw [List.Nodup, List.pairwise_map]
  refine List.Pairwise.imp_of_mem (fun {a b} ha hb hab z => hab ?_) nd
  have la := h a ha
  have lb := h b hb
  have z : ((tgOf r).getD a (0, 0)).1 = ((tgOf r).getD b (0, 0)).1 := z
  rw [List.getD_eq_getElem?_getD, List.getD_eq_getElem?_getD, List.getElem?_eq_getElem la, List.getElem?_eq_getElem lb] at z
  have z : ((tgOf r)[a]).1 = ((tgOf r)[b]).1 := z
  have n := List.pairwise_iff_getElem.mp (tg_fst r)
  rcases Nat.lt_trichotomy a b with q | q | q
  · exact absurd (by rw [List.getElem_map, List.getElem_map]; exact z) (n a b (by rw [List.length_map]; exact la) (by rw [List.length_map]; exact lb) q)
  · exact q
  · exact absurd (by rw [List.getElem_map, List.getElem_map]; exact z.symm) (n b a (by rw [List.length_map]; exact lb) (by rw [List.length_map]; exact la) q)
theorem line_mem {r : List Int} {is : List Nat} (h : ∀ i ∈ is, i < (tgOf r).length) {p : Nat × Int} (hp : p ∈ lineOf r is) : p ∈ tgOf r := by
  unfold lineOf at hp
  obtain ⟨i, hi, rfl⟩ := List.mem_map.mp hp
  have := h i hi
  rw [List.getD_eq_getElem?_getD, List.getElem?_eq_getElem this]
  exact List.getElem_mem this
structure FlowP (ps : List Tie) (b g : Nat) (r : List Int) (v : Int) : Prop where
  len : r.length = ps.length
  bits : bits r
  pot : ∀ f : Nat → Int, pot f ps r = v * (f b - f g)
theorem pot_le {f : Nat → Int} (hf : ∀ c, f c = 0 ∨ f c = 1) : ∀ (ps : List Tie) (r : List Int), bits r → pot f ps r ≤ ps.length
  | [], r, _ => by
    cases r <;> exact Int.le_refl _
  | p :: ps, [], _ => by
    show (0 : Int) ≤ _
    omega
  | p :: ps, a :: r, hb => by
    have ih := pot_le hf ps r fun c hc => hb c (List.mem_cons_of_mem _ hc)
    show a * (f p.1 - f p.2) + pot f ps r ≤ _
    rw [List.length_cons]
    rcases hb a (List.mem_cons_self ..) with e | e <;> rw [e] <;> rcases hf p.1 with u | u <;> rcases hf p.2 with w | w <;> rw [u, w] <;> omega
theorem FlowP.le {ps : List Tie} {b g : Nat} {r : List Int} {v : Int} (h : FlowP ps b g r v) (hbg : b ≠ g) : v ≤ ps.length := by
  have h1 := h.pot fun c => if c = b then 1 else 0
  have h2 := pot_le (f := fun c => if c = b then 1 else 0) (fun c => by by_cases z : c = b <;> simp [z]) ps r h.bits
  rw [h1] at h2
  simp only [if_true, if_neg (Ne.symm hbg)] at h2
  omega
theorem FlowP.step {ps : List Tie} {b g : Nat} {r : List Int} {v : Int} (h : FlowP ps b g r v) {is : List Nat} (t : Trail (waysOf ps r) b g is) (nd : is.Nodup) (hi : ∀ i ∈ is, i < (waysOf ps r).length) : FlowP ps b g (stepped r (lineOf r is)) (v + 1) := by
  have hi' : ∀ i ∈ is, i < (tgOf r).length := fun i hm => by
    have := hi i hm
    unfold waysOf at this
    rwa [List.length_map] at this
  refine ⟨by rw [stepped_len]; exact h.len, fun a ha => ?_, fun f => ?_⟩
  · obtain ⟨i, hil, e⟩ := List.getElem_of_mem ha
    rw [stepped_len] at hil
    have e2 : (stepped r (lineOf r is)).getD i 0 = a := by
      rw [List.getD_eq_getElem?_getD, List.getElem?_eq_getElem (by rw [stepped_len]; exact hil)]
      exact e
    rw [← e2, stepped_get _ _ _ hil (line_fst nd hi')]
    cases q : (lineOf r is).find? fun p => decide (p.1 = i) with
    | none =>
      show r.getD i 0 + 0 = 0 ∨ r.getD i 0 + 0 = 1
      rw [Int.add_zero]
      exact h.bits _ (getD_mem hil)
    | some p =>
      have hp := List.mem_of_find?_eq_some q
      have hpi : p.1 = i := by simpa using List.find?_some q
      show r.getD i 0 + p.2 = 0 ∨ r.getD i 0 + p.2 = 1
      rcases (tg_ok h.bits (line_mem hi' hp)).2 with ⟨e3, e4⟩ | ⟨e3, e4⟩ <;> rw [hpi] at e4 <;> rw [e3, e4] <;> decide
  · rw [stepped_pot f ps _ _ h.len fun p hp => by have := (tg_ok h.bits (line_mem hi' hp)).1; rw [h.len] at this; exact this, h.pot f, Int.add_mul]
    congr 1
    rw [Int.one_mul, ← trail_pot f t]
    unfold lineOf
    rw [List.map_map]
    congr 1
    refine List.map_congr_left fun i hm => ?_
    have hl := hi' i hm
    have e1 : (tgOf r).getD i (0, 0) = (tgOf r)[i] := by
      rw [List.getD_eq_getElem?_getD, List.getElem?_eq_getElem hl]
      rfl
    have e2 : (waysOf ps r).getD i (0, 0) = wayOf ps (tgOf r)[i] := by
      unfold waysOf
      rw [List.getD_eq_getElem?_getD, List.getElem?_map, List.getElem?_eq_getElem hl]
      rfl
    show ((tgOf r).getD i (0, 0)).2 * (f (prA ps ((tgOf r).getD i (0, 0)).1).1 - f (prA ps ((tgOf r).getD i (0, 0)).1).2) = _
    rw [e1, e2]
    exact way_pot f ps h.bits (List.getElem_mem hl)
/-- nothing more can be carried -/
structure Stuck (ps : List Tie) (b g : Nat) (r : List Int) (ks : List Nat) : Prop where
  nd : ks.Nodup
  hb : b ∈ ks
  hg : g ∉ ks
  up : ∀ i, i < ps.length → r.getD i 0 = 0 → (prA ps i).1 ∈ ks → (prA ps i).2 ∈ ks
  dn : ∀ i, i < ps.length → r.getD i 0 = 1 → (prA ps i).2 ∈ ks → (prA ps i).1 ∈ ks
  sub : ∀ c ∈ ks, c = b ∨ ∃ t ∈ ps, c = t.1 ∨ c = t.2
structure FilX where
  ps : List Tie
  b : Nat
  g : Nat
theorem prA_mem {ps : List Tie} {i : Nat} (h : i < ps.length) : prA ps i ∈ ps := by
  unfold prA
  rw [List.getD_eq_getElem?_getD, List.getElem?_eq_getElem h]
  exact List.getElem_mem h
theorem stuck_of {ps : List Tie} {b g : Nat} {r : List Int} {v : Int} (h : FlowP ps b g r v) {ks : List Nat} {os : List (Option Nat)} (cm : CamOk (waysOf ps r) b ks os) (hg : g ∉ ks) : Stuck ps b g r ks := by
  have mem1 : ∀ i, i < ps.length → r.getD i 0 = 0 → prA ps i ∈ waysOf ps r := fun i hi e => by
    rw [waysOf_eq]
    exact List.mem_append_left _ (List.mem_map.mpr ⟨i, List.mem_filter.mpr ⟨List.mem_range.mpr (by rw [h.len]; exact hi), decide_eq_true (by omega)⟩, rfl⟩)
  have mem2 : ∀ i, i < ps.length → r.getD i 0 = 1 → swp (prA ps i) ∈ waysOf ps r := fun i hi e => by
    rw [waysOf_eq]
    exact List.mem_append_right _ (List.mem_map.mpr ⟨i, List.mem_filter.mpr ⟨List.mem_range.mpr (by rw [h.len]; exact hi), decide_eq_true (by omega)⟩, rfl⟩)
  refine ⟨cm.nd, List.mem_of_getElem? cm.h0, hg, fun i hi e z => cm.cl _ (mem1 i hi e) z, fun i hi e z => cm.cl _ (mem2 i hi e) z, fun c hc => ?_⟩
  obtain ⟨j, hj⟩ := List.getElem?_of_mem hc
  by_cases z : j = 0
  · subst z
    have := cm.h0
    rw [hj] at this
    exact .inl (Option.some.inj this)
  · obtain ⟨i, u, w, _, h2, h3, _⟩ := cm.arr j (by omega) (List.getElem?_eq_some_iff.mp hj).1
    rw [hj] at h3
    cases h3
    have hm := List.mem_of_getElem? h2
    rw [waysOf_eq] at hm
    rcases List.mem_append.mp hm with y | y
    · obtain ⟨k, hk, e⟩ := List.mem_map.mp y
      have hk := List.mem_range.mp (List.mem_filter.mp hk).1
      exact .inr ⟨prA ps k, prA_mem (by rw [← h.len]; exact hk), .inr (by rw [e])⟩
    · obtain ⟨k, hk, e⟩ := List.mem_map.mp y
      have hk := List.mem_range.mp (List.mem_filter.mp hk).1
      refine .inr ⟨prA ps k, prA_mem (by rw [← h.len]; exact hk), .inl ?_⟩
      have : (swp (prA ps k)).2 = c := by
        show ((swp ∘ prA ps) k).2 = c
        rw [e]
      exact this.symm
abbrev N_filled : List PySem.Str := ["pairs", "rooms", "begin", "goal", "row", "spots", "backs", "ways", "came", "steps", "line", "many", "index", "sign", "at"]
theorem sc_filled : FnScope N_filled ["pairs", "rooms", "begin", "goal"] (defScope s_filled) := ⟨rfl, rfl, rfl, by decide +kernel, rfl, by decide +kernel, by decide +kernel⟩
def sp_filled (C : Cn) : Sp := spT C (fun x : FilX => [.lst (x.ps.map dP), dOnes x.ps.length, .s (sg x.b), .s (sg x.g)]) (fun x => x.b ≠ x.g ∧ x.ps.length ≤ 100 ∧ x.b < 200 ∧ ∀ t ∈ x.ps, t.1 < 200 ∧ t.2 < 200)
  (fun x d => ∃ r v ks, FlowP x.ps x.b x.g r v ∧ Stuck x.ps x.b x.g r ks ∧ ks.length ≤ 1000 ∧ d = .tup [.lst (dI r), .lst (dS (ks.map sg))])
def filS (ps : List Tie) (b g p : Nat) (r : List Int) (l : List SV) : En := ⟨[(p, .lst ((dI r).map .im))], .im (.lst (ps.map dP)) :: .im (dOnes ps.length) :: .im (.s (sg b)) :: .im (.s (sg g)) :: .ptr p :: l⟩
def dSt (p : Nat × Int) : D := .tup [.i p.1, .i p.2]
theorem ones_at {n i : Nat} (h : i < n) : (List.replicate n (D.i 1))[i]? = some (D.i 1) := by
  rw [List.getElem?_replicate, if_pos h]
theorem dI_at {r : List Int} {i : Nat} (h : i < r.length) : ((dI r).map SV.im)[i]? = some (.im (.i (r.getD i 0))) := by
  unfold dI
  rw [List.getElem?_map, List.getElem?_map, List.getElem?_eq_getElem h, List.getD_eq_getElem?_getD, List.getElem?_eq_getElem h]
  rfl
theorem dP_at {ps : List Tie} {i : Nat} (h : i < ps.length) : atI (ps.map dP) (i : Int) = some (dP (prA ps i)) := by
  refine atI_n ?_
  unfold prA
  rw [List.getElem?_map, List.getElem?_eq_getElem h, List.getD_eq_getElem?_getD, List.getElem?_eq_getElem h]
  rfl
theorem has_filled {P : Program} {w : World} {K : PySem.W.Frag} {mg : PySem.Str → Option Value} {base : Heap} {C : Cn} (T : Tx K mg C.cls) : Has P w K mg base 3 "filled" ["pairs", "rooms", "begin", "goal"] (sp_filled C) := by
  refine fn_has T 40 (d := d_filled) rfl rfl (N := N_filled) sc_filled rfl rfl (fun _ _ _ _ _ _ us hl => match us, hl with | [_, _, _, _], _ => rfl) (fun _ => rfl) (fun cdv A' outer s H E hr => ⟨_, (pss_cons (ps_set (i := 4) sc_filled.nd rfl (.inr rfl) (pe_op op_rep (pe_lst (pa_cons pe_int pa_nil)) (pe_callB (k_call_len (K := K) rfl) (by rfl) T.xlen bt_len (pa_cons (pv 0) pa_nil))))
      (pss_one (ps_while PassesOwn.never (pt_val pe_bl) (pss_cons (ps_setLc (i := 5) (own := [("index", 12)]) (g := gName 12) rfl sc_filled.nd rfl rfl (sw_true rfl rfl rfl (by decide +kernel)) (pi_range1 (by rfl) T.xrange (pa_cons (pe_callB (k_call_len (K := K) rfl) (by rfl) T.xlen bt_len (pa_cons (pv 0) pa_nil)) pa_nil)) (blkOk_by (own := [("index", 12)]) (N := N_filled) (sc := defScope s_filled) (by decide +kernel)) (fun _ _ _ _ _ => (pg_name (i := 12) sc_filled.nd rfl (.inl rfl))) (fun _ _ _ _ _ => (pts_one (pt_cmpR op_lt (pe_ix (k_ix_list (K := K) rfl) (pv 4) (pv 12) (fun _ _ => rfl)) (pe_ix (k_ix_tup (K := K) rfl) (pv 1) (pv 12) (fun _ _ => rfl)) (nomark _)))) (fun _ _ _ _ _ => (pv 12)))
      (pss_cons (ps_setLc (i := 6) (own := [("index", 12)]) (g := gName 12) rfl sc_filled.nd rfl rfl (sw_true rfl rfl rfl (by decide +kernel)) (pi_range1 (by rfl) T.xrange (pa_cons (pe_callB (k_call_len (K := K) rfl) (by rfl) T.xlen bt_len (pa_cons (pv 0) pa_nil)) pa_nil)) (blkOk_by (own := [("index", 12)]) (N := N_filled) (sc := defScope s_filled) (by decide +kernel)) (fun _ _ _ _ _ => (pg_name (i := 12) sc_filled.nd rfl (.inl rfl))) (fun _ _ _ _ _ => (pts_one (pt_cmpR op_gt (pe_ix (k_ix_list (K := K) rfl) (pv 4) (pv 12) (fun _ _ => rfl)) pe_int (nomark _)))) (fun _ _ _ _ _ => (pv 12)))
      (pss_cons (ps_set (i := 7) sc_filled.nd rfl (.inl rfl) (pe_op op_cat (pe_lc (own := [("index", 12)]) (g := gName 12) (tt := tYes) rfl sc_filled.nd (k_pi_list (K := K) rfl (pv 5)) (blkOk_by (own := [("index", 12)]) (N := N_filled) (sc := defScope s_filled) (by decide +kernel)) (fun _ _ _ _ _ => (pg_name (i := 12) sc_filled.nd rfl (.inl rfl))) (fun _ _ _ _ _ => pts_nil) (fun _ _ _ _ _ => (pe_ix (k_ix_list (K := K) rfl) (pv 0) (pv 12) (fun _ _ => rfl)))) (pe_lc (own := [("index", 12)]) (g := gName 12) (tt := tYes) rfl sc_filled.nd (k_pi_list (K := K) rfl (pv 6)) (blkOk_by (own := [("index", 12)]) (N := N_filled) (sc := defScope s_filled) (by decide +kernel)) (fun _ _ _ _ _ => (pg_name (i := 12) sc_filled.nd rfl (.inl rfl))) (fun _ _ _ _ _ => pts_nil) (fun _ _ _ _ _ => (pe_revT (K := K) rfl (pe_ix (k_ix_list (K := K) rfl) (pv 0) (pv 12) (fun _ _ => rfl)))))))
      (pss_cons (ps_set (i := 8) sc_filled.nd rfl (.inl rfl) (pe_has (has_came_by T) (hr.mono (by decide)) (by rfl) (pa_cons (pv 7) (pa_cons (pe_lst (pa_cons (pv 2) pa_nil)) pa_nil))))
      (pss_cons (ps_if (pt_cmp (pc_dnotin (hu_of hr) (pv 3) (pv 8)) rfl) (pss_one (ps_ret (pe_tup (pa_cons (pv 4) (pa_cons (pe_callTy (call_list_dK rfl) (by rfl) T.xlist bt_list (pa_cons (pv 8) pa_nil)) pa_nil))))) pss_nil)
      (pss_cons (ps_set (i := 9) sc_filled.nd rfl (.inr rfl) (pe_op op_cat (pe_lc (own := [("index", 12)]) (g := gName 12) (tt := tYes) rfl sc_filled.nd (k_pi_list (K := K) rfl (pv 5)) (blkOk_by (own := [("index", 12)]) (N := N_filled) (sc := defScope s_filled) (by decide +kernel)) (fun _ _ _ _ _ => (pg_name (i := 12) sc_filled.nd rfl (.inl rfl))) (fun _ _ _ _ _ => pts_nil) (fun _ _ _ _ _ => (pe_tup (pa_cons (pv 12) (pa_cons pe_int pa_nil))))) (pe_lc (own := [("index", 12)]) (g := gName 12) (tt := tYes) rfl sc_filled.nd (k_pi_list (K := K) rfl (pv 6)) (blkOk_by (own := [("index", 12)]) (N := N_filled) (sc := defScope s_filled) (by decide +kernel)) (fun _ _ _ _ _ => (pg_name (i := 12) sc_filled.nd rfl (.inl rfl))) (fun _ _ _ _ _ => pts_nil) (fun _ _ _ _ _ => (pe_tup (pa_cons (pv 12) (pa_cons (pe_un un_neg pe_int) pa_nil)))))))
      (pss_cons (ps_setLc (i := 10) (own := [("at", 14)]) (g := gName 14) (tt := tYes) rfl sc_filled.nd rfl rfl (sw_true rfl rfl rfl (by decide +kernel)) (k_pi_list (K := K) rfl (pe_has (has_lot_to T) (hr.mono (by decide)) (by rfl) (pa_cons (pv 7) (pa_cons (pv 8) (pa_cons (pv 3) pa_nil))))) (blkOk_by (own := [("at", 14)]) (N := N_filled) (sc := defScope s_filled) (by decide +kernel)) (fun _ _ _ _ _ => (pg_name (i := 14) sc_filled.nd rfl (.inl rfl))) (fun _ _ _ _ _ => pts_nil) (fun _ _ _ _ _ => (pe_ix (k_ix_list (K := K) rfl) (pv 9) (pv 14) (fun _ _ => rfl))))
      (pss_cons (ps_set (i := 11) sc_filled.nd rfl (.inl rfl) (pe_callB (k_cr_min (K := K) rfl rfl) (by rfl) T.xmin bt_min (pa_cons (pe_lc (own := [("index", 12), ("sign", 13)]) (g := gTup K 2 (gCons (gName 12) (gCons (gName 13) gNil))) (tt := tYes) rfl sc_filled.nd (k_pi_list (K := K) rfl (pv 10)) (blkOk_by (own := [("index", 12), ("sign", 13)]) (N := N_filled) (sc := defScope s_filled) (by decide +kernel)) (fun _ _ _ _ _ => (pg_tup rfl (pgs_cons (pg_name (i := 12) sc_filled.nd rfl (.inl rfl)) (pgs_cons (pg_name (i := 13) sc_filled.nd rfl (.inl rfl)) pgs_nil)))) (fun _ _ _ _ _ => pts_nil) (fun _ _ _ _ _ => (pe_ifExp (pt_cmpR op_eq (pv 13) pe_int (nomark _)) (pe_op op_sub (pe_ix (k_ix_tup (K := K) rfl) (pv 1) (pv 12) (fun _ _ => rfl)) (pe_ix (k_ix_list (K := K) rfl) (pv 4) (pv 12) (fun _ _ => rfl))) (pe_ix (k_ix_list (K := K) rfl) (pv 4) (pv 12) (fun _ _ => rfl))))) pa_nil)))
      (pss_one (ps_for PassesOwn.never rfl (k_pi_list (K := K) rfl (pv 10)) (pg_tup rfl (pgs_cons (pg_name (i := 12) sc_filled.nd rfl (.inl rfl)) (pgs_cons (pg_name (i := 13) sc_filled.nd rfl (.inl rfl)) pgs_nil))) (pss_one (ps_augS (pv 4) (pv 12) (k_pget_list (K := K) rfl) (pe_op op_mulW (pv 13) (pv 11)) ip_add set_list))))))))))))))), fun x hx => ?_⟩)
  obtain ⟨ps, b, g⟩ := x
  obtain ⟨hbg, hz, hb2, hps⟩ := hx
  simp only at hbg hz hb2 hps
  show SD C _ ⟨[], [.im (.lst (ps.map dP)), .im (dOnes ps.length), .im (.s (sg b)), .im (.s (sg g)), .no, .no, .no, .no, .no, .no, .no, .no, .no, .no, .no]⟩ _ _
  refine sq_ownF (ds := dI (List.replicate ps.length 0)) ((ev_opF (x := .lst [.i 0]) (ev_lst (ea1 ev_c)).dat (ev_lenL (ev_v rfl)) (rf_rep ?_ ?_ ?_)).to ?_) fun p _ => ?_
  · rw [List.length_map]
    show 1 * _ ≤ _
    omega
  · rw [List.length_map]
    omega
  · omega
  · rw [List.length_map, rep_flat1]
    have : ((ps.length : Int)).toNat = ps.length := by omega
    rw [this]
    unfold dI
    rw [List.map_replicate]
  refine sd_while (fun m G => ∃ r v a1 a2 a3 a4 a5 a6 a7 a8 a9 a10, FlowP ps b g r v ∧ m = ((ps.length : Int) - v).toNat ∧ G = filS ps b g p r [a1, a2, a3, a4, a5, a6, a7, a8, a9, a10]) _
    ⟨List.replicate ps.length 0, 0, .no, .no, .no, .no, .no, .no, .no, .no, .no, .no, ⟨List.length_replicate, fun a ha => .inl (List.eq_of_mem_replicate ha), fun f => by rw [pot_zero, Int.zero_mul]⟩, rfl, rfl⟩ ?_
  rintro m G ⟨r, v, a1, a2, a3, a4, a5, a6, a7, a8, a9, a10, fl, hm, rfl⟩
  refine ⟨true, et_B ev_c, fun _ => ?_, fun z => absurd z (by decide)⟩
  have hrl := fl.len
  have hmem : ∀ {De : List SV}, En.at ⟨[(p, .lst ((dI r).map .im))], De⟩ p (.lst ((dI r).map .im)) := List.mem_singleton.mpr rfl
  have hat : ∀ i, i ∈ List.range ps.length → i < r.length := fun i hi => by
    rw [hrl]
    exact List.mem_range.mp hi
  refine sq_asg (d := .lst (dN (spotsOf r))) (EvR.to (EvF.dat (ev_lc (C := C) (js := [12]) (List.range ps.length) (fun i => D.i (i : Nat)) (fun i => decide (r.getD i 0 < 1)) (fun i => D.i (i : Nat)) (fun i l => l.set 12 (.im (.i (i : Nat)))) ((ei_rng1 (ea1 ((ev_lenL (ev_v rfl)).to (d' := .i (ps.length : Nat)) (by rw [List.length_map]))) (by omega)).to (by simp)) (fun _ _ => eg_name) (by rw [List.length_range]; omega)
    (fun i hi => et_test (ev_opD (ev_ixO rfl hmem (ev_v rfl) (dI_at (hat i hi))) (ev_opD (ev_v rfl) (ev_v rfl) (rr_ixT (atI_n (ones_at (List.mem_range.mp hi))) rfl)) rr_lt)) (fun i hi _ => ev_v rfl))) (by unfold spotsOf; rw [hrl])) ?_
  refine sq_asg (d := .lst (dN (backsOf r))) (EvR.to (EvF.dat (ev_lc (C := C) (js := [12]) (List.range ps.length) (fun i => D.i (i : Nat)) (fun i => decide (0 < r.getD i 0)) (fun i => D.i (i : Nat)) (fun i l => l.set 12 (.im (.i (i : Nat)))) ((ei_rng1 (ea1 ((ev_lenL (ev_v rfl)).to (d' := .i (ps.length : Nat)) (by rw [List.length_map]))) (by omega)).to (by simp)) (fun _ _ => eg_name) (by rw [List.length_range]; omega)
    (fun i hi => et_test (ev_opD (ev_ixO rfl hmem (ev_v rfl) (dI_at (hat i hi))) ev_c rr_gt)) (fun i hi _ => ev_v rfl))) (by unfold backsOf; rw [hrl])) ?_
  have hsp : ∀ i ∈ spotsOf r, i < ps.length := fun i hi => by
    have := List.mem_range.mp (List.mem_filter.mp hi).1
    omega
  have hbk : ∀ i ∈ backsOf r, i < ps.length := fun i hi => by
    have := List.mem_range.mp (List.mem_filter.mp hi).1
    omega
  have hsl : (spotsOf r).length ≤ 100 := Nat.le_trans (List.length_filter_le ..) (by rw [List.length_range]; omega)
  have hbl : (backsOf r).length ≤ 100 := Nat.le_trans (List.length_filter_le ..) (by rw [List.length_range]; omega)
  refine sq_asg (d := .lst ((waysOf ps r).map dP)) ?_ ?_
  · rw [waysOf_eq, List.map_append, List.map_map, List.map_map]
    refine (ev_opF (ev_map (C := C) (js := [12]) (spotsOf r) (fun i => D.i (i : Nat)) (dP ∘ prA ps) (fun i l => l.set 12 (.im (.i (i : Nat)))) (ei_list (ev_v rfl)) (fun _ _ => eg_name) (by omega) (fun i hi => ev_opD (ev_v rfl) (ev_v rfl) (rr_ixL (dP_at (hsp i hi)) rfl))).dat
      (ev_map (C := C) (js := [12]) (backsOf r) (fun i => D.i (i : Nat)) (dP ∘ swp ∘ prA ps) (fun i l => l.set 12 (.im (.i (i : Nat)))) (ei_list (ev_v rfl)) (fun _ _ => eg_name) (by omega) (fun i hi => ev_revT (ev_opD (ev_v rfl) (ev_v rfl) (rr_ixL (dP_at (hbk i hi)) rfl)))).dat (rf_cat (by rw [List.length_map, List.length_map]; omega))).dat
  have hwl : (waysOf ps r).length ≤ 200 := by
    rw [waysOf_eq, List.length_append, List.length_map, List.length_map]
    omega
  have hw2 : ∀ t ∈ waysOf ps r, t.2 < 200 := fun t ht => by
    rw [waysOf_eq] at ht
    rcases List.mem_append.mp ht with y | y
    · obtain ⟨i, hi, rfl⟩ := List.mem_map.mp y
      exact (hps _ (prA_mem (hsp i hi))).2
    · obtain ⟨i, hi, rfl⟩ := List.mem_map.mp y
      exact (hps _ (prA_mem (hbk i hi))).1
  refine sq_asgR (P := fun d => ∃ ks os, CamOk (waysOf ps r) b ks os ∧ d = .dic (ks.map sg) (os.map oD)) (ev_callD (waysOf ps r, b) (ea2 (ev_v rfl) (ev_lst (ea1 (ev_v rfl))).dat) ⟨by show (waysOf ps r).length ≤ 1000; omega, hb2, hw2⟩ fun _ h => h) fun d hd => ?_
  obtain ⟨ks, os, cm, rfl⟩ := hd
  have hkl := cm.toCamP.size
  refine sq_ifr (b := !decide (g ∈ ks)) (et_B ((ev_dnotin (ks := ks.map sg) (ds := os.map oD) (k := sg g) (by rw [List.length_map, List.length_map, cm.len]) (ev_v rfl) (ev_v rfl)).to (by rw [sg_mem]))) (fun h => ?_) (fun h => ?_)
  · have hgk : g ∉ ks := by simpa using h
    refine sd_frz (l := p) (ds := dI r) hmem (sd_ret (d := .tup [.lst (dI r), .lst (dS (ks.map sg))]) (ev_tupD (ea2 (ev_v (congrArg some (if_pos rfl))) (ev_cbF (ea1 (ev_v rfl)) cf_listD).dat)) ⟨r, v, ks, fl, stuck_of fl cm hgk, by omega, rfl⟩)
  · have hgk : g ∈ ks := Decidable.byContradiction fun n => by
      rw [decide_eq_false n] at h
      exact absurd h (by decide)
    refine sq_asg (d := .lst ((tgOf r).map dSt)) ?_ ?_
    · unfold tgOf
      rw [List.map_append, List.map_map, List.map_map]
      exact (ev_opF (ev_map (C := C) (js := [12]) (spotsOf r) (fun i => D.i (i : Nat)) (dSt ∘ fun i => (i, 1)) (fun i l => l.set 12 (.im (.i (i : Nat)))) (ei_list (ev_v rfl)) (fun _ _ => eg_name) (by omega) (fun i hi => ev_tupD (ea2 (ev_v rfl) ev_c))).dat
        (ev_map (C := C) (js := [12]) (backsOf r) (fun i => D.i (i : Nat)) (dSt ∘ fun i => (i, -1)) (fun i l => l.set 12 (.im (.i (i : Nat)))) (ei_list (ev_v rfl)) (fun _ _ => eg_name) (by omega) (fun i hi => ev_tupD (ea2 (ev_v rfl) (ev_neg ev_c)))).dat (rf_cat (by rw [List.length_map, List.length_map]; omega))).dat
    have htl : (tgOf r).length = (waysOf ps r).length := by
      unfold waysOf
      rw [List.length_map]
    refine sq_asgR (P := fun d => ∃ is : List Nat, (Trail (waysOf ps r) b g is ∧ is.Nodup ∧ is.length ≤ (waysOf ps r).length ∧ ∀ i ∈ is, i < (waysOf ps r).length) ∧ d = .lst ((lineOf r is).map dSt)) ?_ fun d hd => ?_
    · refine (ev_lcR (C := C) (js := [14]) (tt := tYes) (fun is : List Nat => Trail (waysOf ps r) b g is ∧ is.Nodup ∧ is.length ≤ (waysOf ps r).length ∧ ∀ i ∈ is, i < (waysOf ps r).length) (fun i => D.i (i : Nat)) (fun _ => true) (fun i => dSt ((tgOf r).getD i (0, 0))) (fun i l => l.set 14 (.im (.i (i : Nat))))
        (ei_listR (ev_callD (R := fun d => ∃ ds, (∃ is : List Nat, (Trail (waysOf ps r) b g is ∧ is.Nodup ∧ is.length ≤ (waysOf ps r).length ∧ ∀ i ∈ is, i < (waysOf ps r).length) ∧ ds = is.map fun i => D.i (i : Nat)) ∧ d = .lst ds) ⟨waysOf ps r, b, ks, os, g⟩ (ea3 (ev_v rfl) (ev_v rfl) (ev_v rfl)) ⟨cm.toCamP, hgk, by show (waysOf ps r).length ≤ 1000; omega⟩ fun d ⟨is, q1, q2, q3, q4, e⟩ => ⟨_, ⟨is, ⟨q1, q2, q3, q4⟩, rfl⟩, e⟩)) (fun _ _ _ _ => eg_name) (fun is h => by omega) (fun _ _ _ _ => et_yes) (fun is hq i hi _ => ?_)).imp fun d ⟨is, hq, e⟩ => ⟨is, hq, ?_⟩
      · have hil : i < (tgOf r).length := by
          rw [htl]
          exact hq.2.2.2 i hi
        refine ev_opD (ev_v rfl) (ev_v rfl) (rr_ixL (atI_n ?_) rfl)
        rw [List.getElem?_map, List.getElem?_eq_getElem hil, List.getD_eq_getElem?_getD, List.getElem?_eq_getElem hil]
        rfl
      · rw [e, List.filter_eq_self.mpr (fun _ _ => rfl)]
        unfold lineOf
        rw [List.map_map]
        rfl
    obtain ⟨is, ⟨q1, q2, q3, q4⟩, rfl⟩ := hd
    have q4' : ∀ i ∈ is, i < (tgOf r).length := fun i hi => by
      rw [htl]
      exact q4 i hi
    have hne : is ≠ [] := by
      rintro rfl
      cases q1
      exact hbg rfl
    have hll : (lineOf r is).length = is.length := List.length_map ..
    refine sq_asg (d := .i 1) ((ev_cbD (ea1 ((ev_map (C := C) (js := [12, 13]) (lineOf r is) dSt (fun _ => D.i 1) (fun q l => (l.set 12 (.im (.i q.1))).set 13 (.im (.i q.2))) (ei_list (ev_v rfl)) (fun _ _ => eg_pair) (by omega) (fun q hq => ?_)).dat.to (d' := .lst (dI ((lineOf r is).map fun _ => (1 : Int)))) ?_)) (cr_minD ?_)).to ?_) ?_
    · obtain ⟨h1, h2⟩ := tg_ok fl.bits (line_mem q4' hq)
      have h1' : q.1 < ps.length := by omega
      have rowat : ∀ {x : Int}, r.getD q.1 0 = x → ((dI r).map SV.im)[q.1]? = some (.im (.i x)) := fun e => e ▸ dI_at h1
      rcases h2 with ⟨h2, h3⟩ | ⟨h2, h3⟩
      · refine ev_if (b := true) (et_test ((ev_opD (ev_v rfl) ev_c rr_eqI).to (by rw [h2]; rfl))) (fun _ => ?_) (fun z => absurd z (by decide))
        exact (ev_sub (a := 1) (b := 0) (ev_opD (y := .i (q.1 : Nat)) (ev_v rfl) (ev_v rfl) (rr_ixT (atI_n (ones_at h1')) rfl)) (ev_ixO rfl hmem (ev_v rfl) (rowat h3))).to rfl
      · refine ev_if (b := false) (et_test ((ev_opD (ev_v rfl) ev_c rr_eqI).to (by rw [h2]; rfl))) (fun z => absurd z (by decide)) (fun _ => ?_)
        exact ev_ixO rfl hmem (ev_v rfl) (rowat h3)
    · unfold dI
      rw [List.map_map]
      rfl
    · intro z
      exact hne (List.map_eq_nil_iff.mp (List.map_eq_nil_iff.mp z))
    · congr 2
      have hn : (lineOf r is).map (fun _ => (1 : Int)) ≠ [] := fun z => hne (List.map_eq_nil_iff.mp (List.map_eq_nil_iff.mp z))
      obtain ⟨q, _, e⟩ := List.mem_map.mp (leastI_mem hn)
      exact e.symm
    have hlt : ∀ q ∈ lineOf r is, q.1 < r.length := fun q hq => (tg_ok fl.bits (line_mem q4' hq)).1
    refine sd_for (C := C) (js := [12, 13]) (lineOf r is) dSt (fun q l => (l.set 12 (.im (.i q.1))).set 13 (.im (.i q.2))) (fun i G => ∃ c1 c2, G = filS ps b g p (stepped r ((lineOf r is).take i)) [.im (.lst (dN (spotsOf r))), .im (.lst (dN (backsOf r))), .im (.lst ((waysOf ps r).map dP)), .im (.dic (ks.map sg) (os.map oD)), .im (.lst ((tgOf r).map dSt)), .im (.lst ((lineOf r is).map dSt)), .im (.i 1), c1, c2, a10])
      (ei_list (ev_v rfl)) (fun _ _ => eg_pair) ⟨_, _, rfl⟩ ?_ ?_
    · rintro i q G hi ⟨c1, c2, rfl⟩
      have hq := List.mem_of_getElem? hi
      have h1 := hlt q hq
      have ht : (lineOf r is).take (i + 1) = (lineOf r is).take i ++ [q] := by
        rw [List.take_add_one, hi]
        rfl
      refine sd_augL (l := p) (xs := (dI (stepped r ((lineOf r is).take i))).map .im) (j := q.1) (a := (stepped r ((lineOf r is).take i)).getD q.1 0) (v := q.2) rfl (List.mem_singleton.mpr rfl) (ev_v rfl) ((ev_opD (ev_v rfl) (ev_v rfl) (rr_mulW ?_)).to (by rw [Int.mul_one])) (dI_at (by rw [stepped_len]; exact h1)) ⟨.im (.i q.1), .im (.i q.2), ?_⟩
      · have h2 := (tg_ok fl.bits (line_mem q4' hq)).2
        have : Sm 2 q.2 := by
          unfold Sm
          rcases h2 with ⟨e, _⟩ | ⟨e, _⟩ <;> rw [e] <;> decide
        exact this.cmul (show Sm 2 1 by unfold Sm; decide) (by decide)
      · show (En.put ⟨[(p, _)], _⟩ p _) = _
        rw [put_one, ht]
        unfold stepped
        rw [List.foldl_append]
        unfold filS dI
        rw [List.foldl_cons, List.foldl_nil, List.map_set, List.map_set]
        rfl
    · rintro G ⟨c1, c2, rfl⟩
      rw [List.take_length]
      have fl2 := fl.step q1 q2 q4
      have := fl2.le hbg
      exact ⟨((ps.length : Int) - (v + 1)).toNat, by omega, stepped r (lineOf r is), v + 1, _, _, _, _, _, _, _, _, _, _, fl2, rfl, rfl⟩
end Wr
set_option maxHeartbeats 4000000
namespace Wr
open PySem L2
/-! ### cuts -/
def IsCut (x : W) (b g w : Nat) : Prop := (∃ S : List Nat, b ∈ S ∧ g ∉ S ∧ (lotOf x S).length = w) ∧ ∀ T : List Nat, b ∈ T → g ∉ T → w ≤ (lotOf x T).length
theorem IsCut.uniq {x : W} {b g v w : Nat} (h : IsCut x b g v) (h' : IsCut x b g w) : v = w := by
  obtain ⟨⟨S, a1, a2, a3⟩, a4⟩ := h
  obtain ⟨⟨T, b1, b2, b3⟩, b4⟩ := h'
  have := a4 T b1 b2
  have := b4 S a1 a2
  omega
theorem cut_ex (x : W) {b g : Nat} (h : b ≠ g) : ∃ w, IsCut x b g w := by
  have : ∀ n : Nat, (∃ S : List Nat, b ∈ S ∧ g ∉ S ∧ (lotOf x S).length = n) → ∃ w, IsCut x b g w := by
    intro n
    induction n using Nat.strongRecOn with
    | _ n ih =>
      intro hn
      by_cases z : ∀ T : List Nat, b ∈ T → g ∉ T → n ≤ (lotOf x T).length
      · exact ⟨n, hn, z⟩
      · obtain ⟨T, z⟩ := Classical.not_forall.mp z
        obtain ⟨h1, z⟩ := Classical.not_imp.mp z
        obtain ⟨h2, z⟩ := Classical.not_imp.mp z
        exact ih _ (Nat.not_le.mp z) ⟨T, h1, h2, rfl⟩
  exact this _ ⟨[b], List.mem_singleton.mpr rfl, fun z => h (List.mem_singleton.mp z).symm, rfl⟩
noncomputable def cutOf (x : W) (b g : Nat) : Nat := open Classical in if h : ∃ w, IsCut x b g w then h.choose else 0
theorem cut_is (x : W) {b g : Nat} (h : b ≠ g) : IsCut x b g (cutOf x b g) := by
  unfold cutOf
  rw [dif_pos (cut_ex x h)]
  exact (cut_ex x h).choose_spec
theorem prA_at {ps : List Tie} {i : Nat} (h : i < ps.length) : ps[i]? = some (prA ps i) := by
  unfold prA
  rw [List.getD_eq_getElem?_getD, List.getElem?_eq_getElem h]
  rfl
theorem pot_sum (f : Nat → Int) : ∀ (ps : List Tie) (r : List Int), r.length = ps.length → pot f ps r = ((List.range ps.length).map fun i => r.getD i 0 * (f (prA ps i).1 - f (prA ps i).2)).sum
  | [], [], _ => rfl
  | [], _ :: _, h => by simp at h
  | _ :: _, [], h => by simp at h
  | p :: ps, a :: r, h => by
    have ih := pot_sum f ps r (by simpa using h)
    rw [List.length_cons, List.range_succ_eq_map, List.map_cons, List.sum_cons, List.map_map]
    show a * (f p.1 - f p.2) + pot f ps r = _
    rw [ih]
    rfl
def netOf (n : Nat) (r : List Int) : List Int := (List.range n).map fun i => r.getD i 0 - r.getD (i + n) 0
theorem netOf_get {n : Nat} {r : List Int} {i : Nat} (h : i < n) : (netOf n r).getD i 0 = r.getD i 0 - r.getD (i + n) 0 := by
  unfold netOf
  rw [List.getD_eq_getElem?_getD, List.getElem?_map, List.getElem?_range h]
  rfl
theorem netOf_len (n : Nat) (r : List Int) : (netOf n r).length = n := by
  unfold netOf
  rw [List.length_map, List.length_range]
theorem both_len (x : W) : (both x).length = x.2.length + x.2.length := by
  unfold both
  rw [List.length_append, List.length_map]
theorem both_lo {x : W} {i : Nat} (h : i < x.2.length) : prA (both x) i = prA x.2 i := by
  unfold prA both
  rw [List.getD_eq_getElem?_getD, List.getElem?_append_left h, ← List.getD_eq_getElem?_getD]
theorem both_hi {x : W} {i : Nat} (h : i < x.2.length) : prA (both x) (i + x.2.length) = swp (prA x.2 i) := by
  unfold prA both
  rw [List.getD_eq_getElem?_getD, List.getElem?_append_right (Nat.le_add_left ..), Nat.add_sub_cancel, List.getElem?_map, List.getElem?_eq_getElem h, List.getD_eq_getElem?_getD, List.getElem?_eq_getElem h]
  rfl
theorem sum_add {α : Type} (l : List α) (f g : α → Int) : (l.map f).sum + (l.map g).sum = (l.map fun i => f i + g i).sum := by
  induction l with
  | nil => rfl
  | cons a l ih =>
    simp only [List.map_cons, List.sum_cons]
    omega
theorem net_pot (f : Nat → Int) (x : W) {r : List Int} (h : r.length = (both x).length) : pot f x.2 (netOf x.2.length r) = pot f (both x) r := by
  rw [pot_sum f x.2 _ (netOf_len ..), pot_sum f (both x) r h, both_len, List.range_add, List.map_append, List.sum_append, List.map_map, sum_add]
  congr 1
  refine List.map_congr_left fun i hi => ?_
  have hi := List.mem_range.mp hi
  show _ = _ + r.getD (x.2.length + i) 0 * (f (prA (both x) (x.2.length + i)).1 - f (prA (both x) (x.2.length + i)).2)
  rw [netOf_get hi, both_lo hi, Nat.add_comm x.2.length i, both_hi hi]
  show _ = _ + r.getD (i + x.2.length) 0 * (f (prA x.2 i).2 - f (prA x.2 i).1)
  rw [Int.sub_mul, Int.mul_sub, Int.mul_sub, Int.mul_sub]
  omega
theorem filter_sum (l : List Nat) (p : Nat → Bool) : ((l.filter p).length : Int) = (l.map fun i => if p i = true then (1 : Int) else 0).sum := by
  induction l with
  | nil => rfl
  | cons a l ih =>
    rw [List.filter_cons, List.map_cons, List.sum_cons]
    split
    · rw [List.length_cons]
      omega
    · omega
theorem lot_sum (x : W) (S : List Nat) : ((lotOf x S).length : Int) = ((List.range x.2.length).map fun i => if crosses S (prA x.2 i) = true then (1 : Int) else 0).sum := filter_sum _ _
def ind (S : List Nat) (c : Nat) : Int := if c ∈ S then 1 else 0
structure CarOk (x : W) (b g : Nat) (nets : List Int) (S : List Nat) (v : Nat) : Prop where
  len : nets.length = x.2.length
  tri : ∀ a ∈ nets, a = -1 ∨ a = 0 ∨ a = 1
  pot : ∀ f : Nat → Int, pot f x.2 nets = v * (f b - f g)
  srt : S.Pairwise (· < ·)
  sub : ∀ c ∈ S, c ∈ x.1
  hb : b ∈ S
  hg : g ∉ S
  wid : (lotOf x S).length = v
  min : ∀ T : List Nat, b ∈ T → g ∉ T → v ≤ (lotOf x T).length
theorem CarOk.cut {x : W} {b g : Nat} {nets : List Int} {S : List Nat} {v : Nat} (h : CarOk x b g nets S v) : IsCut x b g v := ⟨⟨S, h.hb, h.hg, h.wid⟩, h.min⟩
theorem srtC_sorted (l : List Nat) : (srtC l).Pairwise (· ≤ ·) := by
  unfold srtC
  rw [PySem.W.dataLe_str]
  have key : ∀ a b : Nat, (decide ((⟨#[a]⟩ : PySem.Str).cps.toList ≤ (⟨#[b]⟩ : PySem.Str).cps.toList)) = decide (a ≤ b) := fun a b => by
    have : ([a] ≤ [b]) ↔ a ≤ b := by
      rw [← Std.not_lt, List.cons_lt_cons_iff]
      constructor
      · intro h
        exact Nat.not_lt.mp fun z => h (.inl z)
      · rintro h (z | ⟨_, z⟩)
        · omega
        · exact absurd z (by simp)
    show decide ([a] ≤ [b]) = _
    simp only [this]
  simp only [key]
  have := List.pairwise_mergeSort (le := fun a b : Nat => decide (a ≤ b)) (fun a b c h1 h2 => by
    have h1 := of_decide_eq_true h1
    have h2 := of_decide_eq_true h2
    exact decide_eq_true (Nat.le_trans h1 h2)) (fun a b => by
    rcases Nat.le_total a b with h | h
    · rw [decide_eq_true h]; rfl
    · rw [decide_eq_true h, Bool.or_true]) l
  exact this.imp fun h => of_decide_eq_true h
theorem srtC_strict {l : List Nat} (h : l.Nodup) : (srtC l).Pairwise (· < ·) := by
  have nd : (srtC l).Nodup := (srtC_perm l).nodup_iff.mpr h
  exact ((srtC_sorted l).and nd).imp fun ⟨h1, h2⟩ => Nat.lt_of_le_of_ne h1 h2
theorem sum_le {α : Type} {f g : α → Int} : ∀ {l : List α}, (∀ i ∈ l, f i ≤ g i) → (l.map f).sum ≤ (l.map g).sum
  | [], _ => Int.le_refl _
  | a :: l, h => by
    have := sum_le fun i hi => h i (List.mem_cons_of_mem _ hi)
    have := h a (List.mem_cons_self ..)
    simp only [List.map_cons, List.sum_cons]
    omega
theorem getD_of {r : List Int} {P : Int → Prop} (h : ∀ a ∈ r, P a) {i : Nat} (hi : i < r.length) : P (r.getD i 0) := h _ (getD_mem hi)
theorem car_of {x : W} (ok : WOk x) {b g : Nat} (hb : b ∈ x.1) (hbg : b ≠ g) {r : List Int} {v : Int} {ks : List Nat} (fl : FlowP (both x) b g r v) (sk : Stuck (both x) b g r ks) : ∃ w : Nat, CarOk x b g (netOf x.2.length r) (srtC ks) w := by
  have hrl : r.length = x.2.length + x.2.length := by rw [fl.len, both_len]
  have bit : ∀ i, i < x.2.length + x.2.length → r.getD i 0 = 0 ∨ r.getD i 0 = 1 := fun i hi => getD_of fl.bits (by omega)
  have hm : ∀ {c : Nat}, c ∈ srtC ks ↔ c ∈ ks := fun {c} => (srtC_perm ks).mem_iff
  have hpot : ∀ f : Nat → Int, pot f x.2 (netOf x.2.length r) = v * (f b - f g) := fun f => by rw [net_pot f x fl.len, fl.pot f]
  have tri : ∀ i, i < x.2.length → (netOf x.2.length r).getD i 0 = -1 ∨ (netOf x.2.length r).getD i 0 = 0 ∨ (netOf x.2.length r).getD i 0 = 1 := fun i hi => by
    rw [netOf_get hi]
    rcases bit i (by omega) with e | e <;> rcases bit (i + x.2.length) (by omega) with e' | e' <;> rw [e, e'] <;> decide
  have up : ∀ T : List Nat, b ∈ T → g ∉ T → v ≤ (lotOf x T).length := fun T h1 h2 => by
    have e := hpot (ind T)
    rw [show ind T b = 1 from if_pos h1, show ind T g = 0 from if_neg h2, pot_sum _ _ _ (netOf_len ..)] at e
    rw [Int.sub_zero, Int.mul_one] at e
    rw [← e, lot_sum]
    refine sum_le fun i hi => ?_
    have hi := List.mem_range.mp hi
    have key : ∀ (a : Int) (p q : Bool), (a = -1 ∨ a = 0 ∨ a = 1) → a * ((if p = true then 1 else 0) - (if q = true then 1 else 0)) ≤ if (p != q) = true then (1 : Int) else 0 := by
      rintro a p q (rfl | rfl | rfl) <;> cases p <;> cases q <;> decide
    have := key ((netOf x.2.length r).getD i 0) (decide ((prA x.2 i).1 ∈ T)) (decide ((prA x.2 i).2 ∈ T)) (tri i hi)
    simp only [decide_eq_true_eq] at this
    exact this
  have eqv : v = (lotOf x (srtC ks)).length := by
    have e := hpot (ind (srtC ks))
    rw [show ind (srtC ks) b = 1 from if_pos (hm.mpr sk.hb), show ind (srtC ks) g = 0 from if_neg fun z => sk.hg (hm.mp z), pot_sum _ _ _ (netOf_len ..)] at e
    rw [Int.sub_zero, Int.mul_one] at e
    rw [← e, lot_sum]
    congr 1
    refine List.map_congr_left fun i hi => ?_
    have hi := List.mem_range.mp hi
    have u1 := sk.up i (by rw [both_len]; omega)
    have d1 := sk.dn i (by rw [both_len]; omega)
    have u2 := sk.up (i + x.2.length) (by rw [both_len]; omega)
    have d2 := sk.dn (i + x.2.length) (by rw [both_len]; omega)
    rw [both_lo hi] at u1 d1
    rw [both_hi hi] at u2 d2
    have u2 : r.getD (i + x.2.length) 0 = 0 → (prA x.2 i).2 ∈ ks → (prA x.2 i).1 ∈ ks := u2
    have d2 : r.getD (i + x.2.length) 0 = 1 → (prA x.2 i).1 ∈ ks → (prA x.2 i).2 ∈ ks := d2
    have b1 := bit i (by omega)
    have b2 := bit (i + x.2.length) (by omega)
    rw [netOf_get hi]
    unfold crosses ind
    simp only [hm]
    by_cases p : (prA x.2 i).1 ∈ ks
    · by_cases q : (prA x.2 i).2 ∈ ks
      · simp [p, q]
      · have e1 : r.getD i 0 = 1 := b1.resolve_left fun z => q (u1 z p)
        have e2 : r.getD (i + x.2.length) 0 = 0 := b2.resolve_right fun z => q (d2 z p)
        rw [e1, e2]
        simp [p, q]
    · by_cases q : (prA x.2 i).2 ∈ ks
      · have e1 : r.getD i 0 = 0 := b1.resolve_right fun z => p (d1 z q)
        have e2 : r.getD (i + x.2.length) 0 = 1 := b2.resolve_left fun z => p (u2 z q)
        rw [e1, e2]
        simp [p, q]
      · simp [p, q]
  refine ⟨(lotOf x (srtC ks)).length, netOf_len .., fun a ha => ?_, fun f => by rw [hpot f, eqv], srtC_strict sk.nd, fun c hc => ?_, hm.mpr sk.hb, fun z => sk.hg (hm.mp z), rfl, fun T h1 h2 => ?_⟩
  · obtain ⟨i, hi, e⟩ := List.getElem_of_mem ha
    rw [netOf_len] at hi
    have := tri i hi
    rw [List.getD_eq_getElem?_getD, List.getElem?_eq_getElem (by rw [netOf_len]; exact hi)] at this
    rw [← e]
    exact this
  · rcases sk.sub c (hm.mp hc) with rfl | ⟨t, ht, z⟩
    · exact hb
    · unfold both at ht
      rcases List.mem_append.mp ht with y | y
      · have := ok.ts t y
        rcases z with rfl | rfl
        · exact this.1
        · exact this.2.1
      · obtain ⟨t', y', rfl⟩ := List.mem_map.mp y
        have := ok.ts t' y'
        rcases z with rfl | rfl
        · exact this.2.1
        · exact this.1
  · have := up T h1 h2
    rw [eqv] at this
    omega
section
variable {C : Cn} {G : En} {N : En → Prop} {R : D → En → Prop} {P : D → Prop} {te : TE} {g : TG} {u : TS}
theorem sd_asgG {js : List Nat} (w : D → List SV → List SV) (h : EvR C te G P) (hg : ∀ d, P d → EvG C g js d (w d)) (k : ∀ d, P d → N (G.up (w d))) : SD C (tAsg te g) G N R := fun H0 O0 H σ E gm n r =>
  h _ H σ gm.e _ fun d v H' hd e hv => by
    have g' := gm.mono e
    refine hg d hd _ H' G.De σ v hv g'.e.sl _ fun σ' hs' hl hc => ?_
    exact n _ _ H' (k d hd) ⟨g'.same, g'.dom0, g'.own, ⟨g'.e.sub, g'.e.dom, g'.e.nd, g'.e.ok, hs', g'.e.tb⟩⟩ (hide_mono e)
theorem sq_asgG {js : List Nat} (w : D → List SV → List SV) (h : EvR C te G P) (hg : ∀ d, P d → EvG C g js d (w d)) (k : ∀ d, P d → SD C u (G.up (w d)) N R) : SD C (tSeq (tAsg te g) u) G N R :=
  sd_seq (M := fun G' => ∃ d, P d ∧ G' = G.up (w d)) (sd_asgG w h hg fun d hd => ⟨d, hd, rfl⟩) fun G' ⟨d, hd, e⟩ => e ▸ k d hd
end
structure PairX where
  x : W
  b : Nat
  g : Nat
structure PairOk (y : PairX) : Prop where
  ok : WOk y.x
  hb : y.b ∈ y.x.1
  hg : y.g ∈ y.x.1
  ne : y.b ≠ y.g
abbrev N_carried_by : List PySem.Str := ["web", "rooms", "begin", "goal", "row", "came", "size", "index"]
theorem sc_carried_by : FnScope N_carried_by ["web", "rooms", "begin", "goal"] (defScope s_carried_by) := ⟨rfl, rfl, rfl, by decide +kernel, rfl, by decide +kernel, by decide +kernel⟩
def fst2 : D → D
  | .tup (a :: _) => a
  | d => d
def snd2 : D → D
  | .tup (_ :: b :: _) => b
  | d => d
def sp_carried_by (C : Cn) : Sp := spT C (fun y : PairX => [dW y.x, dOnes y.x.2.length, .s (sg y.b), .s (sg y.g)]) PairOk (fun y d => ∃ nets S v, CarOk y.x y.b y.g nets S v ∧ d = .tup [.tup (dI nets), .s (st S)])
theorem sortD_sg (ks : List Nat) : sortD (dS (ks.map sg)) = dS ((srtC ks).map sg) := by
  unfold sortD srtC dS
  rw [List.map_map, List.map_map]
  have e := List.map_mergeSort (l := ks) (f := (fun x => D.v (V.str x)) ∘ sg) (r := PySem.W.dataLe false fun c => .str ⟨#[c]⟩) (s := PySem.W.dataLe false encD) (fun a _ b _ => rfl)
  exact e.symm
theorem srt_sg (ks : List Nat) : SrtOk (encL (dS (ks.map sg))) := by
  have := srt_strs (ks.map fun c => [c])
  rw [List.map_map] at this
  unfold dS
  rw [List.map_map]
  exact this
theorem has_carried_by {P : Program} {w : World} {K : PySem.W.Frag} {mg : PySem.Str → Option Value} {base : Heap} {C : Cn} (T : Tx K mg C.cls) : Has P w K mg base 4 "carried_by" ["web", "rooms", "begin", "goal"] (sp_carried_by C) := by
  refine fn_has T 42 (d := d_carried_by) rfl rfl (N := N_carried_by) sc_carried_by rfl rfl (fun _ _ _ _ _ _ us hl => match us, hl with | [_, _, _, _], _ => rfl) (fun _ => rfl) (fun cdv A' outer s H E hr => ⟨_, (pss_cons (ps_asg (pe_has (has_filled T) (hr.mono (by decide)) (by rfl) (pa_cons (pe_has (has_both_ways T) (hr.mono (by decide)) (by rfl) (pa_cons (pv 0) pa_nil)) (pa_cons (pe_op (k_op_catA (K := K) rfl) (pv 1) (pv 1)) (pa_cons (pv 2) (pa_cons (pv 3) pa_nil))))) (pg_tup rfl (pgs_cons (pg_name (i := 4) sc_carried_by.nd rfl (.inr rfl)) (pgs_cons (pg_name (i := 5) sc_carried_by.nd rfl (.inl rfl)) pgs_nil))))
      (pss_cons (ps_set (i := 6) sc_carried_by.nd rfl (.inr rfl) (pe_callB (k_call_lenW (has_Web_len T) T.ml (hr.mono (by decide))) (by rfl) T.xlen bt_len (pa_cons (pv 0) pa_nil)))
      (pss_one (ps_ret (pe_tup (pa_cons (pe_callTy (k_call_tup (K := K) rfl) (by rfl) T.xtuple bt_tuple (pa_cons (pe_lc (own := [("index", 7)]) (g := gName 7) (tt := tYes) rfl sc_carried_by.nd (pi_range1 (by rfl) T.xrange (pa_cons (pv 6) pa_nil)) (blkOk_by (own := [("index", 7)]) (N := N_carried_by) (sc := defScope s_carried_by) (by decide +kernel)) (fun _ _ _ _ _ => (pg_name (i := 7) sc_carried_by.nd rfl (.inl rfl))) (fun _ _ _ _ _ => pts_nil) (fun _ _ _ _ _ => (pe_op op_sub (pe_ix (k_ix_list (K := K) rfl) (pv 4) (pv 7) (fun _ _ => rfl)) (pe_ix (k_ix_list (K := K) rfl) (pv 4) (pe_op op_add (pv 7) (pv 6)) (fun _ _ => rfl))))) pa_nil)) (pa_cons (pe_join pe_str (pe_callB (k_call_sort (K := K) hr.units rfl) (by rfl) T.xsorted bt_sorted (pa_cons (pv 5) pa_nil))) pa_nil))))))), fun x hx => ?_⟩)
  obtain ⟨x, b, g⟩ := x
  obtain ⟨ok, hb, hg, hbg⟩ := hx
  simp only at ok hb hg hbg
  have nt := ok.nt
  show SD C _ ⟨[], [.im (dW x), .im (dOnes x.2.length), .im (.s (sg b)), .im (.s (sg g)), .no, .no, .no, .no]⟩ _ _
  refine sq_asgG (js := [4, 5]) (P := fun d => ∃ r v ks, FlowP (both x) b g r v ∧ Stuck (both x) b g r ks ∧ ks.length ≤ 1000 ∧ d = .tup [.lst (dI r), .lst (dS (ks.map sg))]) (fun d l => (l.set 4 (.im (fst2 d))).set 5 (.im (snd2 d)))
    (ev_callD ⟨both x, b, g⟩ (ea_c (d := .lst ((both x).map dP)) (ev_callD (R := (· = .lst ((both x).map dP))) x (ea1 (ev_v rfl)) (by show x.2.length ≤ 1000; omega) fun _ h => h) (ea_c (d := dOnes (both x).length) ((ev_opD (ev_v rfl) (ev_v rfl) (rr_catT (by rw [List.length_replicate]; omega))).to (by rw [List.replicate_append_replicate, both_len]; rfl)) (ea2 (ev_v rfl) (ev_v rfl)))) ⟨hbg, by show (both x).length ≤ 100; rw [both_len]; omega, by have := ok.lt hb; show b < 200; omega, fun t ht => ?_⟩ fun _ h => h) (fun d hd => ?_) fun d hd => ?_
  · unfold both at ht
    rcases List.mem_append.mp ht with y | y
    · have := ok.ts t y
      have h1 := ok.lt this.1
      have h2 := ok.lt this.2.1
      omega
    · obtain ⟨t', y', rfl⟩ := List.mem_map.mp y
      have := ok.ts t' y'
      have h1 := ok.lt this.1
      have h2 := ok.lt this.2.1
      show t'.2 < 200 ∧ t'.1 < 200
      omega
  · obtain ⟨r, v, ks, _, _, _, rfl⟩ := hd
    exact eg_pair
  · obtain ⟨r, v, ks, fl, sk, hkl, rfl⟩ := hd
    obtain ⟨w, car⟩ := car_of ok hb hbg fl sk
    have hrl : r.length = x.2.length + x.2.length := by rw [fl.len, both_len]
    refine sq_asg (d := .i (x.2.length : Nat)) (ev_lenX (by omega) (ev_v rfl)) ?_
    have rat : ∀ i, i < r.length → atI (dI r) (i : Int) = some (D.i (r.getD i 0)) := fun i hi => atI_n (by
      unfold dI
      rw [List.getElem?_map, List.getElem?_eq_getElem hi, List.getD_eq_getElem?_getD, List.getElem?_eq_getElem hi]
      rfl)
    refine sd_ret (d := .tup [.tup (dI (netOf x.2.length r)), .s (st (srtC ks))]) (ev_tupD (ea2 (ev_cbD (ea1 (EvR.to (EvF.dat (ev_map (C := C) (js := [7]) (List.range x.2.length) (fun i => D.i (i : Nat)) (fun i => D.i (r.getD i 0 - r.getD (i + x.2.length) 0)) (fun i l => l.set 7 (.im (.i (i : Nat)))) ((ei_rng1 (ea1 (ev_v rfl)) (by omega)).to (by simp)) (fun _ _ => eg_name) (by rw [List.length_range]; omega) (fun i hi => ?_))) ?_)) cr_tup) ?_)) ⟨_, _, w, car, rfl⟩
    · have hi := List.mem_range.mp hi
      exact ev_sub (ev_opD (ev_v rfl) (ev_v rfl) (rr_ixL (rat i (by omega)) rfl)) (ev_opD (y := .i ((i + x.2.length : Nat) : Int)) (ev_v rfl) ((ev_add (ev_v rfl) (ev_v rfl)).to (by congr 2)) (rr_ixL (rat (i + x.2.length) (by omega)) rfl))
    · unfold netOf dI
      rw [List.map_map]
      rfl
    · refine EvR.to (ev_join (z := st []) (ys := (srtC ks).map sg) ev_c (EvR.to (EvF.dat (ev_cbF (ea1 (ev_v rfl)) (cf_sort (shp_sg _) (srt_sg _)))) (by rw [sortD_sg])) ?_) ?_
      · have h1 : (srtC ks).map sg = ((srtC ks).map fun c => [c]).map st := by
          rw [List.map_map]
          rfl
        rw [h1, sum_len, flat_ones, st_len, (srtC_perm ks).length_eq]
        show _ + _ * 0 ≤ _
        omega
      · have h1 : (srtC ks).map sg = ((srtC ks).map fun c => [c]).map st := by
          rw [List.map_map]
          rfl
        rw [h1, join_st, flat_ones]
abbrev N_amount_of : List PySem.Str := ["web", "rooms", "begin", "goal"]
theorem sc_amount_of : FnScope N_amount_of ["web", "rooms", "begin", "goal"] (defScope s_amount_of) := ⟨rfl, rfl, rfl, by decide +kernel, rfl, by decide +kernel, by decide +kernel⟩
def sp_amount_of (C : Cn) : Sp := spT C (fun y : PairX => [dW y.x, dOnes y.x.2.length, .s (sg y.b), .s (sg y.g)]) PairOk (fun y d => d = .i (cutOf y.x y.b y.g))
theorem has_amount_of {P : Program} {w : World} {K : PySem.W.Frag} {mg : PySem.Str → Option Value} {base : Heap} {C : Cn} (T : Tx K mg C.cls) : Has P w K mg base 5 "amount_of" ["web", "rooms", "begin", "goal"] (sp_amount_of C) := by
  refine fn_has T 44 (d := d_amount_of) rfl rfl (N := N_amount_of) sc_amount_of rfl rfl (fun _ _ _ _ _ _ us hl => match us, hl with | [_, _, _, _], _ => rfl) (fun _ => rfl) (fun cdv A' outer s H E hr => ⟨_, (pss_one (ps_ret (pe_has (has_width_of T) (hr.mono (by decide)) (by rfl) (pa_cons (pv 0) (pa_cons (pv 1) (pa_cons (pe_ix (k_ix_tup (K := K) rfl) (pe_has (has_carried_by T) (hr.mono (by decide)) (by rfl) (pa_cons (pv 0) (pa_cons (pv 1) (pa_cons (pv 2) (pa_cons (pv 3) pa_nil))))) pe_int (fun _ _ => rfl)) pa_nil)))))), fun x hx => ?_⟩)
  obtain ⟨x, b, g⟩ := x
  have hx : PairOk ⟨x, b, g⟩ := hx
  have nt : x.2.length ≤ 7 := hx.ok.nt
  show SD C _ ⟨[], [.im (dW x), .im (dOnes x.2.length), .im (.s (sg b)), .im (.s (sg g))]⟩ _ _
  refine sd_retR (P := (· = .i (cutOf x b g))) (ev_call (RA := fun ds => ∃ nets S v, CarOk x b g nets S v ∧ ds = [dW x, dOnes x.2.length, .s (st S)]) ((ea_cons (ev_v (d := dW x) rfl) (ea_cons (ev_v (d := dOnes x.2.length) rfl) (ea1R (R := fun d => ∃ nets S v, CarOk x b g nets S v ∧ d = .s (st S)) ?_))).imp fun l hl => ?_) fun ds ⟨nets, S, v, car, e⟩ => ⟨(x, S), e, by show x.2.length ≤ 1000; omega, fun d hd => ?_⟩) fun _ h => h
  · refine ev_op (R1 := fun d => ∃ nets S v, CarOk x b g nets S v ∧ d = .tup [.tup (dI nets), .s (st S)]) (R2 := (· = .i 1)) (ev_callD ⟨x, b, g⟩ (ea_c (ev_v rfl) (ea_c (ev_v rfl) (ea2 (ev_v rfl) (ev_v rfl)))) hx fun _ h => h) ev_c fun d e ⟨nets, S, v, car, h1⟩ h2 => ?_
    subst h1 h2
    exact rr_ixT rfl ⟨nets, S, v, car, rfl⟩
  · obtain ⟨d, ds, rfl, rfl, d2, ds2, rfl, rfl, d3, rfl, nets, S, v, car, rfl⟩ := hl
    exact ⟨nets, S, v, car, rfl⟩
  · rw [hd]
    show D.i ((lotOf x S).length : Nat) = _
    rw [car.wid, car.cut.uniq (cut_is x hx.ne)]
abbrev N_apart_counted : List PySem.Str := ["web", "begin", "goal"]
theorem sc_apart_counted : FnScope N_apart_counted ["web", "begin", "goal"] (defScope s_apart_counted) := ⟨rfl, rfl, rfl, by decide +kernel, rfl, by decide +kernel, by decide +kernel⟩
def sp_apart_counted (C : Cn) : Sp := spT C (fun y : PairX => [dW y.x, .s (sg y.b), .s (sg y.g)]) PairOk (fun y d => d = .i (cutOf y.x y.b y.g))
theorem has_apart_counted {P : Program} {w : World} {K : PySem.W.Frag} {mg : PySem.Str → Option Value} {base : Heap} {C : Cn} (T : Tx K mg C.cls) : Has P w K mg base 6 "apart_counted" ["web", "begin", "goal"] (sp_apart_counted C) := by
  refine fn_has T 46 (d := d_apart_counted) rfl rfl (N := N_apart_counted) sc_apart_counted rfl rfl (fun _ _ _ _ _ _ us hl => match us, hl with | [_, _, _], _ => rfl) (fun _ => rfl) (fun cdv A' outer s H E hr => ⟨_, (pss_one (ps_ret (pe_has (has_amount_of T) (hr.mono (by decide)) (by rfl) (pa_cons (pv 0) (pa_cons (pe_has (has_ones T) (hr.mono (by decide)) (by rfl) (pa_cons (pv 0) pa_nil)) (pa_cons (pv 1) (pa_cons (pv 2) pa_nil))))))), fun x hx => ?_⟩)
  obtain ⟨x, b, g⟩ := x
  have hx : PairOk ⟨x, b, g⟩ := hx
  have nt : x.2.length ≤ 7 := hx.ok.nt
  show SD C _ ⟨[], [.im (dW x), .im (.s (sg b)), .im (.s (sg g))]⟩ _ _
  exact sd_retR (P := (· = .i (cutOf x b g))) (ev_callD ⟨x, b, g⟩ (ea_c (ev_v rfl) (ea_c (ev_callD (R := (· = dOnes x.2.length)) x (ea1 (ev_v rfl)) (by show x.2.length < 1000; omega) fun _ h => h) (ea2 (ev_v rfl) (ev_v rfl)))) hx fun _ h => h) fun _ h => h
abbrev N_check_unlike : List PySem.Str := ["web", "place", "other_place"]
theorem sc_check_unlike : FnScope N_check_unlike ["web", "place", "other_place"] (defScope s_check_unlike) := ⟨rfl, rfl, rfl, by decide +kernel, rfl, by decide +kernel, by decide +kernel⟩
def sp_check_unlike (C : Cn) : Sp := spT C (fun y : PairX => [dW y.x, .s (sg y.b), .s (sg y.g)]) PairOk (fun y d => d = .n)
theorem mem_pl {x : W} {c : Nat} (h : c ∈ x.1) : c ∈ (st x.1).cps.toList := by rw [st_toList]; exact h
theorem has_check_unlike {P : Program} {w : World} {K : PySem.W.Frag} {mg : PySem.Str → Option Value} {base : Heap} {C : Cn} (T : Tx K mg C.cls) : Has P w K mg base 5 "check_unlike" ["web", "place", "other_place"] (sp_check_unlike C) := by
  refine fn_has T 50 (d := d_check_unlike) rfl rfl (N := N_check_unlike) sc_check_unlike rfl rfl (fun _ _ _ _ _ _ us hl => match us, hl with | [_, _, _], _ => rfl) (fun _ => rfl) (fun cdv A' outer s H E hr => ⟨_, (pss_cons (ps_expr (pe_has (has_check_place T) (hr.mono (by decide)) (by rfl) (pa_cons (pv 0) (pa_cons (pv 1) pa_nil))))
      (pss_cons (ps_expr (pe_has (has_check_place T) (hr.mono (by decide)) (by rfl) (pa_cons (pv 0) (pa_cons (pv 2) pa_nil))))
      (pss_one (ps_if (pt_cmpR op_eq (pv 1) (pv 2) (nomark _)) (pss_one ps_never) pss_nil)))), fun x hx => ?_⟩)
  obtain ⟨x, b, g⟩ := x
  obtain ⟨ok, hb, hg, hbg⟩ := hx
  simp only at ok hb hg hbg
  show SD C _ ⟨[], [.im (dW x), .im (.s (sg b)), .im (.s (sg g))]⟩ _ _
  refine sq_drop (P := fun _ => True) (ev_callD ((st x.1, x.2.map tS), b) (ea2 (ev_v rfl) (ev_v rfl)) (mem_pl hb) fun _ _ => trivial) ?_
  refine sq_drop (P := fun _ => True) (ev_callD ((st x.1, x.2.map tS), g) (ea2 (ev_v rfl) (ev_v rfl)) (mem_pl hg) fun _ _ => trivial) ?_
  refine sd_no (et_test ((ev_opD (ev_v rfl) (ev_v rfl) rr_eqS).to ?_)) rfl
  rw [decide_eq_false (p := sg b = sg g) fun z => hbg (st1_inj z)]
abbrev N_check_ends : List PySem.Str := ["web", "place", "other_place"]
theorem sc_check_ends : FnScope N_check_ends ["web", "place", "other_place"] (defScope s_check_ends) := ⟨rfl, rfl, rfl, by decide +kernel, rfl, by decide +kernel, by decide +kernel⟩
def sp_check_ends (C : Cn) : Sp := spT C (fun y : PairX => [dW y.x, .s (sg y.b), .s (sg y.g)]) PairOk (fun y d => d = .n)
theorem has_check_ends {P : Program} {w : World} {K : PySem.W.Frag} {mg : PySem.Str → Option Value} {base : Heap} {C : Cn} (T : Tx K mg C.cls) : Has P w K mg base 6 "check_ends" ["web", "place", "other_place"] (sp_check_ends C) := by
  refine fn_has T 51 (d := d_check_ends) rfl rfl (N := N_check_ends) sc_check_ends rfl rfl (fun _ _ _ _ _ _ us hl => match us, hl with | [_, _, _], _ => rfl) (fun _ => rfl) (fun cdv A' outer s H E hr => ⟨_, (pss_cons (ps_expr (pe_has (has_check_web T) (hr.mono (by decide)) (by rfl) (pa_cons (pv 0) pa_nil)))
      (pss_one (ps_expr (pe_has (has_check_unlike T) (hr.mono (by decide)) (by rfl) (pa_cons (pv 0) (pa_cons (pv 1) (pa_cons (pv 2) pa_nil))))))), fun x hx => ?_⟩)
  obtain ⟨x, b, g⟩ := x
  show SD C _ ⟨[], [.im (dW x), .im (.s (sg b)), .im (.s (sg g))]⟩ _ _
  refine sq_drop (P := fun _ => True) (ev_callD (st x.1, x.2.map tS) (ea1 (ev_v rfl)) trivial fun _ _ => trivial) ?_
  exact sd_drop (P := fun _ => True) (ev_callD ⟨x, b, g⟩ (ea3 (ev_v rfl) (ev_v rfl) (ev_v rfl)) hx fun _ _ => trivial) rfl
abbrev N_count_apart : List PySem.Str := ["web", "place", "other_place"]
theorem sc_count_apart : FnScope N_count_apart ["web", "place", "other_place"] (defScope s_count_apart) := ⟨rfl, rfl, rfl, by decide +kernel, rfl, by decide +kernel, by decide +kernel⟩
def sp_count_apart (C : Cn) : Sp := spT C (fun y : PairX => [dW y.x, .s (sg y.b), .s (sg y.g)]) PairOk (fun y d => d = .i (cutOf y.x y.b y.g))
theorem has_count_apart {P : Program} {w : World} {K : PySem.W.Frag} {mg : PySem.Str → Option Value} {base : Heap} {C : Cn} (T : Tx K mg C.cls) : Has P w K mg base 7 "count_apart" ["web", "place", "other_place"] (sp_count_apart C) := by
  refine fn_has T 55 (d := d_count_apart) rfl rfl (N := N_count_apart) sc_count_apart rfl rfl (fun _ _ _ _ _ _ us hl => match us, hl with | [_, _, _], _ => rfl) (fun _ => rfl) (fun cdv A' outer s H E hr => ⟨_, (pss_cons (ps_expr (pe_has (has_check_ends T) (hr.mono (by decide)) (by rfl) (pa_cons (pv 0) (pa_cons (pv 1) (pa_cons (pv 2) pa_nil)))))
      (pss_one (ps_ret (pe_has (has_apart_counted T) (hr.mono (by decide)) (by rfl) (pa_cons (pv 0) (pa_cons (pv 1) (pa_cons (pv 2) pa_nil))))))), fun x hx => ?_⟩)
  obtain ⟨x, b, g⟩ := x
  show SD C _ ⟨[], [.im (dW x), .im (.s (sg b)), .im (.s (sg g))]⟩ _ _
  refine sq_drop (P := fun _ => True) (ev_callD ⟨x, b, g⟩ (ea3 (ev_v rfl) (ev_v rfl) (ev_v rfl)) hx fun _ _ => trivial) ?_
  exact sd_retR (P := (· = .i (cutOf x b g))) (ev_callD ⟨x, b, g⟩ (ea3 (ev_v rfl) (ev_v rfl) (ev_v rfl)) hx fun _ h => h) fun _ h => h
end Wr
set_option maxHeartbeats 4000000
namespace Wr
open PySem L2
theorem k_pe_join {X : Cx} {K : PySem.W.Frag} {o e : Expr} {to te : TE} {apos pos : Pos} (k : X.K = K) (ho : PE X o to) (he : PE X e te) (hs : starEach [e] X.env = [(false, eval e X.env)] := by rfl) (hbase : attributeBase o "join" X.env (eval o X.env) = eval o X.env := by rfl) (hline : (apos.endLine == pos.line) = true := by rfl) :
    PE X (.Call (.Attribute o "join" apos) [e] [] pos) (tM1 (fun x xs H Q => ∃ a p, ∃ ys : List PySem.Str, x = .str a ∧ xs = [.ref p] ∧ (SqL K H p (ys.map V.str) ∨ SqT K H p (ys.map V.str)) ∧
      (ys.map (·.length)).sum + ys.length * a.length ≤ 16777216 ∧ Q (.str (Txt.join a ys)) H) to te) := k ▸ pe_join ho he hs hbase hline
def fstP (x : W) : Nat := x.1.headD 0
theorem pl_eq {x : W} (ok : WOk x) : x.1 = fstP x :: x.1.tail := by
  have := ok.len
  unfold fstP
  cases h : x.1 with
  | nil =>
    rw [h] at this
    simp at this
  | cons a l => rfl
theorem fst_mem {x : W} (ok : WOk x) : fstP x ∈ x.1 := by
  rw [pl_eq ok]
  exact List.mem_cons_self ..
theorem tail_mem {x : W} {c : Nat} (h : c ∈ x.1.tail) : c ∈ x.1 := List.mem_of_mem_tail h
theorem tail_ne {x : W} (ok : WOk x) {c : Nat} (h : c ∈ x.1.tail) : fstP x ≠ c := by
  have nd := ok.nodup
  rw [pl_eq ok] at nd
  rintro rfl
  exact (List.nodup_cons.mp nd).1 h
theorem pair_ok {x : W} (ok : WOk x) {c : Nat} (h : c ∈ x.1.tail) : PairOk ⟨x, fstP x, c⟩ := ⟨ok, fst_mem ok, tail_mem h, tail_ne ok h⟩
theorem ev_first {C : Cn} {G : En} {te : TE} {x : W} (ok : WOk x) (h : EvD C te G (.s (st x.1))) : EvD C (tOp rIxS te (tC (.int 0))) G (.s (sg (fstP x))) := by
  have len := ok.len
  refine ev_opD h ev_c (rr_ixS (c := fstP x) (by rw [st_len]; omega) ?_)
  rw [st_toList]
  exact atI_n (j := 0) (by rw [pl_eq ok]; rfl)
theorem ei_tail {C : Cn} {G : En} {te tn : TE} {x : W} (ok : WOk x) (h : EvD C te G (.s (st x.1))) (hn : EvD C tn G (.i 1)) : EvI C (iStr (tSl rSlS te (tPart tn) tNoPart)) G (x.1.tail.map fun c => D.s (sg c)) := by
  have len := ok.len
  refine (ei_str (ev_slS (by rw [st_len]; omega) h (eo_i hn) eo_no)).to ?_
  rw [cut_tail, signs_st]
  rfl
abbrev N_joined_of : List PySem.Str := ["web", "first", "found", "place"]
theorem sc_joined_of : FnScope N_joined_of ["web"] (defScope s_joined_of) := ⟨rfl, rfl, rfl, by decide +kernel, rfl, by decide +kernel, by decide +kernel⟩
noncomputable def joinL (x : W) : List Int := x.1.tail.map fun c => (cutOf x (fstP x) c : Int)
noncomputable def joinD (x : W) : D := if joinL x = [] then .n else .i (leastI (joinL x))
def sp_joined_of (C : Cn) : Sp := spT C (fun x : W => [dW x]) WOk (fun x d => d = joinD x)
theorem has_joined_of {P : Program} {w : World} {K : PySem.W.Frag} {mg : PySem.Str → Option Value} {base : Heap} {C : Cn} (T : Tx K mg C.cls) : Has P w K mg base 7 "joined_of" ["web"] (sp_joined_of C) := by
  refine fn_has T 52 (d := d_joined_of) rfl rfl (N := N_joined_of) sc_joined_of rfl rfl (fun _ _ _ _ _ _ us hl => match us, hl with | [_], _ => rfl) (fun _ => rfl) (fun cdv A' outer s H E hr => ⟨_, (pss_cons (ps_set (i := 1) sc_joined_of.nd rfl (.inr rfl) (pe_ix ix_str (k_pe_fld (K := K) rfl (pv 0) rfl) pe_int (fun _ _ => rfl)))
      (pss_cons (ps_setLc (i := 2) (own := [("place", 3)]) (g := gName 3) (tt := tYes) rfl sc_joined_of.nd rfl rfl (sw_true rfl rfl rfl (by decide +kernel)) (pi_str (pe_slice sl_str (k_pe_fld (K := K) rfl (pv 0) rfl) (po_some pe_int) po_none)) (blkOk_by (own := [("place", 3)]) (N := N_joined_of) (sc := defScope s_joined_of) (by decide +kernel)) (fun _ _ _ _ _ => (pg_name (i := 3) sc_joined_of.nd rfl (.inl rfl))) (fun _ _ _ _ _ => pts_nil) (fun _ _ _ _ _ => (pe_has (has_apart_counted T) (hr.mono (by decide)) (by rfl) (pa_cons (pv 0) (pa_cons (pv 1) (pa_cons (pv 3) pa_nil))))))
      (pss_one (ps_ret (pe_ifExp (pt_cmpR (op_neD hr.units) (pv 2) (pe_lst pa_nil) (nomark _)) (pe_callB (k_cr_min (K := K) rfl rfl) (by rfl) T.xmin bt_min (pa_cons (pv 2) pa_nil)) pe_non))))), fun x hx => ?_⟩)
  have ok : WOk x := hx
  have len := ok.len
  show SD C _ ⟨[], [.im (dW x), .no, .no, .no]⟩ _ _
  refine sq_asg (d := .s (sg (fstP x))) (ev_first ok (evw_places T.cl T.nP (ev_v rfl))) ?_
  refine sq_asg (d := .lst (dI (joinL x))) (EvR.to (EvF.dat (ev_map (C := C) (js := [3]) x.1.tail (fun c => D.s (sg c)) (fun c => D.i (cutOf x (fstP x) c)) (fun c l => l.set 3 (.im (.s (sg c)))) (ei_tail ok (evw_places T.cl T.nP (ev_v rfl)) ev_c) (fun _ _ => eg_name) (by rw [List.length_tail]; omega) (fun c hc => ev_callD (R := (· = .i (cutOf x (fstP x) c))) ⟨x, fstP x, c⟩ (ea3 (ev_v rfl) (ev_v rfl) (ev_v rfl)) (pair_ok ok hc) fun _ h => h))) ?_) ?_
  · unfold joinL dI
    rw [List.map_map]
    rfl
  · refine sd_retR (P := (· = joinD x)) (ev_if (et_test (ev_neNil (ev_v rfl) (ev_lst ea_nil).dat)) (fun h => ?_) (fun h => ?_)) fun _ h => h
    · have hn : joinL x ≠ [] := fun z => by
        rw [decide_eq_true z] at h
        exact absurd h (by decide)
      unfold joinD
      rw [if_neg hn]
      exact ev_cbD (ea1 (ev_v rfl)) (cr_minD hn)
    · have hn : joinL x = [] := Decidable.byContradiction fun z => by
        rw [decide_eq_false z] at h
        exact absurd h (by decide)
      unfold joinD
      rw [if_pos hn]
      exact ev_c
abbrev N_joined_by : List PySem.Str := ["web"]
theorem sc_joined_by : FnScope N_joined_by ["web"] (defScope s_joined_by) := ⟨rfl, rfl, rfl, by decide +kernel, rfl, by decide +kernel, by decide +kernel⟩
def sp_joined_by (C : Cn) : Sp := spT C (fun x : W => [dW x]) WOk (fun x d => d = joinD x)
theorem has_joined_by {P : Program} {w : World} {K : PySem.W.Frag} {mg : PySem.Str → Option Value} {base : Heap} {C : Cn} (T : Tx K mg C.cls) : Has P w K mg base 8 "joined_by" ["web"] (sp_joined_by C) := by
  refine fn_has T 57 (d := d_joined_by) rfl rfl (N := N_joined_by) sc_joined_by rfl rfl (fun _ _ _ _ _ _ us hl => match us, hl with | [_], _ => rfl) (fun _ => rfl) (fun cdv A' outer s H E hr => ⟨_, (pss_cons (ps_expr (pe_has (has_check_web T) (hr.mono (by decide)) (by rfl) (pa_cons (pv 0) pa_nil)))
      (pss_one (ps_ret (pe_has (has_joined_of T) (hr.mono (by decide)) (by rfl) (pa_cons (pv 0) pa_nil))))), fun x hx => ?_⟩)
  show SD C _ ⟨[], [.im (dW x)]⟩ _ _
  refine sq_drop (P := fun _ => True) (ev_callD (st x.1, x.2.map tS) (ea1 (ev_v rfl)) trivial fun _ _ => trivial) ?_
  exact sd_retR (P := (· = joinD x)) (ev_callD x (ea1 (ev_v rfl)) hx fun _ h => h) fun _ h => h
abbrev N_least_herds : List PySem.Str := ["web", "found", "place", "least", "some", "herd", "size"]
theorem sc_least_herds : FnScope N_least_herds ["web"] (defScope s_least_herds) := ⟨rfl, rfl, rfl, by decide +kernel, rfl, by decide +kernel, by decide +kernel⟩
def fherds (x : W) (l : List Nat) : List (List Nat) := (herdsA l).map fun h => fstP x :: h
theorem fherds_snoc (x : W) (l : List Nat) (c : Nat) : fherds x (l ++ [c]) = fherds x l ++ (fherds x l).map fun h => h ++ [c] := by
  unfold fherds
  rw [herdsA_snoc, List.map_append, List.map_map, List.map_map]
  rfl
noncomputable def someH (x : W) : List (List Nat) := (fherds x x.1.tail).filter fun h => !decide (h = x.1) && decide ((((lotOf x h).length : Nat) : Int) = leastI (joinL x))
def sp_least_herds (C : Cn) : Sp := spT C (fun x : W => [dW x]) WOk (fun x d => ∃ m : List (List Nat), (∀ h ∈ m, h ∈ someH x) ∧ m.length ≤ 1000 ∧ d = .tup (m.map fun h => D.s (st h)))
def dPr (h : List Nat) : D := .tup [.i h.length, .s (st h)]
theorem shp_prs (l : List (List Nat)) : shpL (l.map dPr) = true := by
  induction l with
  | nil => rfl
  | cons a l ih => rw [List.map_cons, shpL, ih]; rfl
theorem srt_prs (l : List (List Nat)) : SrtOk (encL (l.map dPr)) := by
  have e : encL (l.map dPr) = l.map fun h => PyData.tuple [.int h.length, .str (st h)] := by
    rw [encL_map, List.map_map]
    rfl
  rw [e]
  refine ⟨PySem.W.AllAlike.of fun b b' => by simp [PySem.W.alike, PySem.W.alikeAll], .inl (PySem.W.Sortable.tuples fun b => ⟨_, _, rfl⟩), fun d hd => ?_⟩
  obtain ⟨h, _, rfl⟩ := List.mem_map.mp hd
  simp [PyData.depth, PyData.depthAll]
theorem has_least_herds {P : Program} {w : World} {K : PySem.W.Frag} {mg : PySem.Str → Option Value} {base : Heap} {C : Cn} (T : Tx K mg C.cls) : Has P w K mg base 8 "least_herds" ["web"] (sp_least_herds C) := by
  refine fn_has T 58 (d := d_least_herds) rfl rfl (N := N_least_herds) sc_least_herds rfl rfl (fun _ _ _ _ _ _ us hl => match us, hl with | [_], _ => rfl) (fun _ => rfl) (fun cdv A' outer s H E hr => ⟨_, (pss_cons (ps_expr (pe_has (has_check_web T) (hr.mono (by decide)) (by rfl) (pa_cons (pv 0) pa_nil)))
      (pss_cons (ps_set (i := 1) sc_least_herds.nd rfl (.inl rfl) (pe_lst (pa_cons (pe_ix ix_str (k_pe_fld (K := K) rfl (pv 0) rfl) pe_int (fun _ _ => rfl)) pa_nil)))
      (pss_cons (ps_for PassesOwn.never rfl (pi_str (pe_slice sl_str (k_pe_fld (K := K) rfl (pv 0) rfl) (po_some pe_int) po_none)) (pg_name (i := 2) sc_least_herds.nd rfl (.inr rfl)) (pss_one (ps_set (i := 1) sc_least_herds.nd rfl (.inl rfl) (pe_op op_cat (pv 1) (pe_lc (own := [("herd", 5)]) (g := gName 5) (tt := tYes) rfl sc_least_herds.nd (k_pi_list (K := K) rfl (pv 1)) (blkOk_by (own := [("herd", 5)]) (N := N_least_herds) (sc := defScope s_least_herds) (by decide +kernel)) (fun _ _ _ _ _ => (pg_name (i := 5) sc_least_herds.nd rfl (.inl rfl))) (fun _ _ _ _ _ => pts_nil) (fun _ _ _ _ _ => (pe_op op_add_str (pv 5) (pv 2))))))))
      (pss_cons (ps_set (i := 3) sc_least_herds.nd rfl (.inr rfl) (pe_has (has_joined_of T) (hr.mono (by decide)) (by rfl) (pa_cons (pv 0) pa_nil)))
      (pss_cons (ps_setLc (i := 4) (own := [("herd", 5)]) (g := gName 5) rfl sc_least_herds.nd rfl rfl (sw_true rfl rfl rfl (by decide +kernel)) (k_pi_list (K := K) rfl (pv 1)) (blkOk_by (own := [("herd", 5)]) (N := N_least_herds) (sc := defScope s_least_herds) (by decide +kernel)) (fun _ _ _ _ _ => (pg_name (i := 5) sc_least_herds.nd rfl (.inl rfl))) (fun _ _ _ _ _ => (pts_one (PW.pt (pw_and (pt_cmpR op_ne (pv 5) (k_pe_fld (K := K) rfl (pv 0) rfl) (nomark _)) (pw_and1 (pt_cmpR op_eq (pe_callB (k_call_len (K := K) rfl) (by rfl) T.xlen bt_len (pa_cons (pe_has (has_herd_lot T) (hr.mono (by decide)) (by rfl) (pa_cons (pv 0) (pa_cons (pv 5) pa_nil))) pa_nil)) (pv 3) (nomark _))))))) (fun _ _ _ _ _ => (pv 5)))
      (pss_one (ps_ret (pe_callTy (k_call_tup (K := K) rfl) (by rfl) T.xtuple bt_tuple (pa_cons (pe_lc (own := [("size", 6), ("herd", 5)]) (g := gTup K 2 (gCons (gName 6) (gCons (gName 5) gNil))) (tt := tYes) rfl sc_least_herds.nd (k_pi_list (K := K) rfl (pe_callB (k_call_sort (K := K) hr.units rfl) (by rfl) T.xsorted bt_sorted (pa_cons (pe_lc (own := [("herd", 5)]) (g := gName 5) (tt := tYes) rfl sc_least_herds.nd (k_pi_list (K := K) rfl (pv 4)) (blkOk_by (own := [("herd", 5)]) (N := N_least_herds) (sc := defScope s_least_herds) (by decide +kernel)) (fun _ _ _ _ _ => (pg_name (i := 5) sc_least_herds.nd rfl (.inl rfl))) (fun _ _ _ _ _ => pts_nil) (fun _ _ _ _ _ => (pe_tup (pa_cons (pe_callB (k_call_len (K := K) rfl) (by rfl) T.xlen bt_len (pa_cons (pv 5) pa_nil)) (pa_cons (pv 5) pa_nil))))) pa_nil))) (blkOk_by (own := [("size", 6), ("herd", 5)]) (N := N_least_herds) (sc := defScope s_least_herds) (by decide +kernel)) (fun _ _ _ _ _ => (pg_tup rfl (pgs_cons (pg_name (i := 6) sc_least_herds.nd rfl (.inl rfl)) (pgs_cons (pg_name (i := 5) sc_least_herds.nd rfl (.inl rfl)) pgs_nil)))) (fun _ _ _ _ _ => pts_nil) (fun _ _ _ _ _ => (pv 5))) pa_nil))))))))), fun x hx => ?_⟩)
  have ok : WOk x := hx
  have len := ok.len
  have nt := ok.nt
  show SD C _ ⟨[], [.im (dW x), .no, .no, .no, .no, .no, .no]⟩ _ _
  refine sq_drop (P := fun _ => True) (ev_callD (st x.1, x.2.map tS) (ea1 (ev_v rfl)) trivial fun _ _ => trivial) ?_
  refine sq_asg (d := dHs (fherds x [])) (ev_lst (ea1 (ev_first ok (evw_places T.cl T.nP (ev_v rfl))))).dat ?_
  have htl : x.1.tail.length ≤ 4 := by rw [List.length_tail]; omega
  have hS : ∀ i, ∀ h ∈ fherds x (x.1.tail.take i), h.length ≤ 5 := fun i h hh => by
    obtain ⟨h', hh', rfl⟩ := List.mem_map.mp hh
    have := herdsA_short hh'
    rw [List.length_take] at this
    rw [List.length_cons]
    omega
  have hL : ∀ i, (fherds x (x.1.tail.take i)).length ≤ 16 := fun i => by
    unfold fherds
    rw [List.length_map, herdsA_len, List.length_take]
    exact Nat.le_trans (Nat.pow_le_pow_right (by decide : 0 < 2) (show min i x.1.tail.length ≤ 4 by omega)) (by decide)
  refine sq_for (C := C) (js := [2]) x.1.tail (fun c => D.s (sg c)) (fun c l => l.set 2 (.im (.s (sg c)))) (fun i G => ∃ a, G = ⟨[], [.im (dW x), .im (dHs (fherds x (x.1.tail.take i))), a, .no, .no, .no, .no]⟩)
    (ei_tail ok (evw_places T.cl T.nP (ev_v rfl)) ev_c) (fun _ _ => eg_name) ⟨.no, rfl⟩ ?_ ?_
  · rintro i c G hi ⟨a, rfl⟩
    refine sd_asg (d := dHs (fherds x (x.1.tail.take (i + 1)))) ?_ ⟨_, rfl⟩
    rw [List.take_add_one, hi]
    show EvD _ _ _ (dHs (fherds x (_ ++ [c])))
    unfold dHs
    rw [fherds_snoc, List.map_append, List.map_map]
    have h16 := hL i
    refine (ev_opF (ev_v rfl) (ev_map (C := C) (js := [5]) (fherds x (x.1.tail.take i)) (fun h => D.s (st h)) ((fun h => D.s (st h)) ∘ fun h => h ++ [c]) (fun h l => l.set 5 (.im (.s (st h)))) (ei_list (ev_v rfl)) (fun _ _ => eg_name) (by omega) (fun h hh => ?_)).dat (rf_cat (by rw [List.length_map, List.length_map]; omega))).dat
    have h4 := hS i h hh
    refine (ev_opD (ev_v rfl) (ev_v rfl) (rr_addS (by unfold sg; rw [st_len, st_len]; show h.length + 1 ≤ _; omega))).to ?_
    unfold sg
    rw [st_app]
    rfl
  · rintro G ⟨a, rfl⟩
    rw [List.take_length]
    have hL := hL x.1.tail.length
    have hS := hS x.1.tail.length
    rw [List.take_length] at hL hS
    refine sq_asg (d := joinD x) (ev_callD x (ea1 (ev_v rfl)) ok fun _ h => h) ?_
    have hsl : (someH x).length ≤ 16 := Nat.le_trans (List.length_filter_le ..) hL
    refine sq_asg (d := dHs (someH x)) ?_ ?_
    · refine (ev_lc (C := C) (js := [5]) (fherds x x.1.tail) (fun h => D.s (st h)) (fun h => !decide (h = x.1) && decide ((((lotOf x h).length : Nat) : Int) = leastI (joinL x))) (fun h => D.s (st h)) (fun h l => l.set 5 (.im (.s (st h)))) (ei_list (ev_v rfl)) (fun _ _ => eg_name) (by omega) (fun h hh => ?_) (fun h hh _ => ev_v rfl)).dat
      refine et_and (et_test ((ev_opD (ev_v rfl) (evw_places T.cl T.nP (ev_v rfl)) rr_neS).to (by rw [st_dec]))) fun hne => ?_
      have hn : joinL x ≠ [] := fun z => by
        have hz : x.1.tail = [] := List.map_eq_nil_iff.mp z
        have : h = x.1 := by
          rw [hz] at hh
          rw [pl_eq ok, hz]
          have : fherds x [] = [[fstP x]] := rfl
          rw [this] at hh
          exact List.mem_singleton.mp hh
        rw [decide_eq_true this] at hne
        exact absurd hne (by decide)
      refine et_test ((ev_opD (x := .i ((lotOf x h).length : Nat)) (y := .i (leastI (joinL x))) (EvR.to (ev_lenT (ds := dN (lotOf x h)) (ev_callD (x, h) (ea2 (ev_v rfl) (ev_v rfl)) (by show x.2.length ≤ 1000; omega) fun _ h => h)) (by rw [List.length_map])) (EvR.to (ev_v rfl) (by unfold joinD; rw [if_neg hn])) rr_eqI))
    · obtain ⟨m, hm, e2⟩ := L2.perm_lift dPr (sortD_perm ((someH x).map dPr)) (someH x) rfl
      refine sd_ret (d := .tup (m.map fun h => D.s (st h))) (ev_cbD (ea1 (EvF.dat (ev_map (C := C) (js := [6, 5]) m dPr (fun h => D.s (st h)) (fun h l => (l.set 6 (.im (.i h.length))).set 5 (.im (.s (st h)))) (ei_list (EvR.to (EvF.dat (ev_cbF (ea1 (EvF.dat (ev_map (C := C) (js := [5]) (someH x) (fun h => D.s (st h)) dPr (fun h l => l.set 5 (.im (.s (st h)))) (ei_list (ev_v rfl)) (fun _ _ => eg_name) (by omega) (fun h hh => ?_)))) (cf_sort (shp_prs _) (srt_prs _)))) ?_)) (fun _ _ => eg_pair) (by rw [hm.length_eq]; omega) (fun h hh => ev_v rfl)))) cr_tup) ⟨m, fun h hh => hm.mem_iff.mp hh, by rw [hm.length_eq]; omega, rfl⟩
      · have h5 := hS h (List.mem_filter.mp hh).1
        exact ev_tupD (ea2 (EvR.to (ev_lenS (by rw [st_len]; omega) (ev_v rfl)) (by rw [st_len])) (ev_v rfl))
      · show D.lst (sortD _) = D.lst _
        rw [e2]
abbrev N_law_width : List PySem.Str := ["_law_mine", "_law_herd", "_law_tie"]
theorem sc_law_width : FnScope N_law_width ["_law_mine", "_law_herd"] (defScope s_law_width) := ⟨rfl, rfl, rfl, by decide +kernel, rfl, by decide +kernel, by decide +kernel⟩
def sp_law_width (C : Cn) : Sp := spT C (fun x : W × List Nat => [dW x.1, .s (st x.2)]) (fun x => WOk x.1) (fun x d => d = .i (lotOf x.1 x.2).length)
theorem range_filter (x : W) (S : List Nat) : (x.2.filter (crosses S)).length = (lotOf x S).length := by
  have : ∀ l : List Tie, (l.filter (crosses S)).length = ((List.range l.length).filter fun i => crosses S (l.getD i (0, 0))).length := by
    intro l
    induction l with
    | nil => rfl
    | cons a l ih =>
      rw [List.length_cons, List.range_succ_eq_map, List.filter_cons, List.filter_cons, List.filter_map]
      have e : ((fun i => crosses S ((a :: l).getD i (0, 0))) ∘ Nat.succ) = fun i => crosses S (l.getD i (0, 0)) := rfl
      have e0 : crosses S ((a :: l).getD 0 (0, 0)) = crosses S a := rfl
      rw [e0, e]
      split
      · rw [List.length_cons, List.length_cons, ih, List.length_map]
      · rw [ih, List.length_map]
  exact this x.2
theorem has_law_width {P : Program} {w : World} {K : PySem.W.Frag} {mg : PySem.Str → Option Value} {base : Heap} {C : Cn} (T : Tx K mg C.cls) : Has P w K mg base 3 "_law_width" ["_law_mine", "_law_herd"] (sp_law_width C) := by
  refine fn_has T 79 (d := d_law_width) rfl rfl (N := N_law_width) sc_law_width rfl rfl (fun _ _ _ _ _ _ us hl => match us, hl with | [_, _], _ => rfl) (fun _ => rfl) (fun cdv A' outer s H E hr => ⟨_, (pss_one (ps_ret (pe_callB (k_call_len (K := K) rfl) (by rfl) T.xlen bt_len (pa_cons (pe_lc (own := [("_law_tie", 2)]) (g := gName 2) rfl sc_law_width.nd (k_pi_tup (K := K) rfl (k_pe_fld (K := K) rfl (pv 0) rfl)) (blkOk_by (own := [("_law_tie", 2)]) (N := N_law_width) (sc := defScope s_law_width) (by decide +kernel)) (fun _ _ _ _ _ => (pg_name (i := 2) sc_law_width.nd rfl (.inl rfl))) (fun _ _ _ _ _ => (pts_one (pt_cmpR op_ne (pe_cmpR op_in_sign (pe_ix ix_str (pv 2) pe_int (fun _ _ => rfl)) (pv 1) rfl) (pe_cmpR op_in_sign (pe_ix ix_str (pv 2) pe_int (fun _ _ => rfl)) (pv 1) rfl) (nomark _)))) (fun _ _ _ _ _ => (pv 2))) pa_nil)))), fun x hx => ?_⟩)
  obtain ⟨x, S⟩ := x
  have ok : WOk x := hx
  have nt := ok.nt
  show SD C _ ⟨[], [.im (dW x), .im (.s (st S)), .no]⟩ _ _
  refine sd_ret (EvR.to (ev_lenL (EvF.dat (ev_lc (C := C) (js := [2]) x.2 (fun t => D.s (tS t)) (crosses S) (fun t => D.s (tS t)) (fun t l => l.set 2 (.im (.s (tS t)))) (ei_tup (evw_ties T.cl T.nT (ev_v rfl))) (fun _ _ => eg_name) (by omega) (fun t ht => et_test (ev_opD (ev_opD (ev_t0 (ev_v rfl)) (ev_v rfl) rr_inL) (ev_opD (ev_t1 (ev_v rfl)) (ev_v rfl) rr_inL) rr_neB)) (fun t ht _ => ev_v rfl)))) ?_) rfl
  rw [List.length_map, range_filter]
abbrev N_law_herds : List PySem.Str := ["_law_places", "_law_one_here", "_law_other", "_law_found", "_law_place", "_law_herd"]
theorem sc_law_herds : FnScope N_law_herds ["_law_places", "_law_one_here", "_law_other"] (defScope s_law_herds) := ⟨rfl, rfl, rfl, by decide +kernel, rfl, by decide +kernel, by decide +kernel⟩
def lhStep (c : Nat) (f : List (List Nat)) : List (List Nat) := f ++ f.map fun h => srtC (h ++ [c])
def lhF (a o : Nat) (l : List Nat) : List (List Nat) := l.foldl (fun f c => if c = a ∨ c = o then f else lhStep c f) [[a]]
theorem lhF_snoc (a o : Nat) (l : List Nat) (c : Nat) : lhF a o (l ++ [c]) = if c = a ∨ c = o then lhF a o l else lhStep c (lhF a o l) := by
  unfold lhF
  rw [List.foldl_append]
  rfl
theorem lhF_len (a o : Nat) (l : List Nat) : (lhF a o l).length ≤ 2 ^ l.length := by
  induction l using snocInd with
  | nil => exact Nat.le_refl _
  | append l c ih =>
    rw [lhF_snoc, List.length_append]
    show _ ≤ 2 ^ (l.length + 1)
    rw [Nat.pow_succ]
    split
    · omega
    · unfold lhStep
      rw [List.length_append, List.length_map]
      omega
theorem lhF_short (a o : Nat) (l : List Nat) : ∀ h ∈ lhF a o l, h.length ≤ l.length + 1 := by
  induction l using snocInd with
  | nil =>
    intro h hh
    have : h = [a] := List.mem_singleton.mp hh
    rw [this]
    exact Nat.le_refl _
  | append l c ih =>
    intro h hh
    rw [lhF_snoc] at hh
    rw [List.length_append]
    split at hh
    · exact Nat.le_trans (ih h hh) (by omega)
    · unfold lhStep at hh
      rcases List.mem_append.mp hh with z | z
      · exact Nat.le_trans (ih h z) (by omega)
      · obtain ⟨h', hh', rfl⟩ := List.mem_map.mp z
        rw [(srtC_perm _).length_eq, List.length_append]
        have := ih h' hh'
        show h'.length + 1 ≤ l.length + 1 + 1
        omega
structure LhX where
  pl : List Nat
  a : Nat
  o : Nat
def sp_law_herds (C : Cn) : Sp := spT C (fun x : LhX => [.s (st x.pl), .s (sg x.a), .s (sg x.o)]) (fun x => x.pl.length ≤ 5) (fun x d => d = dHs (lhF x.a x.o x.pl))
theorem has_law_herds {P : Program} {w : World} {K : PySem.W.Frag} {mg : PySem.Str → Option Value} {base : Heap} {C : Cn} (T : Tx K mg C.cls) : Has P w K mg base 1 "_law_herds" ["_law_places", "_law_one_here", "_law_other"] (sp_law_herds C) := by
  refine fn_has T 80 (d := d_law_herds) rfl rfl (N := N_law_herds) sc_law_herds rfl rfl (fun _ _ _ _ _ _ us hl => match us, hl with | [_, _, _], _ => rfl) (fun _ => rfl) (fun cdv A' outer s H E hr => ⟨_, (pss_cons (ps_set (i := 3) sc_law_herds.nd rfl (.inl rfl) (pe_lst (pa_cons (pv 1) pa_nil)))
      (pss_cons (ps_for PassesOwn.never rfl (pi_str (pv 0)) (pg_name (i := 4) sc_law_herds.nd rfl (.inr rfl)) (pss_one (ps_if (pt_cmpR (k_op_notIn_seq (K := K) rfl) (pv 4) (pe_lst (pa_cons (pv 1) (pa_cons (pv 2) pa_nil))) (by rfl)) (pss_one (ps_set (i := 3) sc_law_herds.nd rfl (.inl rfl) (pe_op op_cat (pv 3) (pe_lc (own := [("_law_herd", 5)]) (g := gName 5) (tt := tYes) rfl sc_law_herds.nd (k_pi_list (K := K) rfl (pv 3)) (blkOk_by (own := [("_law_herd", 5)]) (N := N_law_herds) (sc := defScope s_law_herds) (by decide +kernel)) (fun _ _ _ _ _ => (pg_name (i := 5) sc_law_herds.nd rfl (.inl rfl))) (fun _ _ _ _ _ => pts_nil) (fun _ _ _ _ _ => (k_pe_join (K := K) rfl pe_str (pe_callB (call_sortS rfl hr.units) (by rfl) T.xsorted bt_sorted (pa_cons (pe_op op_add_str (pv 5) (pv 4)) pa_nil)))))))) pss_nil)))
      (pss_one (ps_ret (pv 3))))), fun x hx => ?_⟩)
  obtain ⟨pl, a, o⟩ := x
  have h5 : pl.length ≤ 5 := hx
  show SD C _ ⟨[], [.im (.s (st pl)), .im (.s (sg a)), .im (.s (sg o)), .no, .no, .no]⟩ _ _
  refine sq_asg (d := dHs (lhF a o [])) (ev_lst (ea1 (ev_v rfl))).dat ?_
  refine sq_for (C := C) (js := [4]) pl (fun c => D.s (sg c)) (fun c l => l.set 4 (.im (.s (sg c)))) (fun i G => ∃ z, G = ⟨[], [.im (.s (st pl)), .im (.s (sg a)), .im (.s (sg o)), .im (dHs (lhF a o (pl.take i))), z, .no]⟩)
    ((ei_str (ev_v rfl)).to (signs_st _)) (fun _ _ => eg_name) ⟨.no, rfl⟩ ?_ ?_
  · rintro i c G hi ⟨z, rfl⟩
    have hil : i < pl.length := (List.getElem?_eq_some_iff.mp hi).1
    have ht : pl.take (i + 1) = pl.take i ++ [c] := by
      rw [List.take_add_one, hi]
      rfl
    have hL := lhF_len a o (pl.take i)
    have hL : (lhF a o (pl.take i)).length ≤ 32 := Nat.le_trans hL (by rw [List.length_take]; exact Nat.le_trans (Nat.pow_le_pow_right (by decide : 0 < 2) (show min i pl.length ≤ 5 by omega)) (by decide))
    have hS := lhF_short a o (pl.take i)
    rw [ht]
    refine sd_if (b := !decide (sg c ∈ [a, o].map sg)) (et_test (ev_opD (y := .lst (dS ([a, o].map sg))) (ev_v rfl) (ev_lst (ea2 (ev_v rfl) (ev_v rfl))).dat rr_niStrs)) (fun h => ?_) (fun h => ?_)
    · have hc : ¬ (c = a ∨ c = o) := by
        rw [sg_mem] at h
        simpa using h
      refine sd_asg (d := dHs (lhStep c (lhF a o (pl.take i)))) ?_ ⟨_, by rw [lhF_snoc, if_neg hc]; rfl⟩
      unfold dHs lhStep
      rw [List.map_append, List.map_map]
      refine (ev_opF (ev_v rfl) (ev_map (C := C) (js := [5]) (lhF a o (pl.take i)) (fun h => D.s (st h)) ((fun h => D.s (st h)) ∘ fun h => srtC (h ++ [c])) (fun h l => l.set 5 (.im (.s (st h)))) (ei_list (ev_v rfl)) (fun _ _ => eg_name) (by omega) (fun h hh => ?_)).dat (rf_cat (by rw [List.length_map, List.length_map]; omega))).dat
      have h4 := hS h hh
      rw [List.length_take] at h4
      have e1 : ((srtC (h ++ [c])).map fun c => [c]).map st = (srtC (h ++ [c])).map sg := by
        rw [List.map_map]
        rfl
      refine EvR.to (ev_join (z := st []) (ys := (srtC (h ++ [c])).map sg) ev_c (EvR.to (EvF.dat (ev_cbF (ea1 (EvR.to (ev_opD (ev_v rfl) (ev_v rfl) (rr_addS (by unfold sg; rw [st_len, st_len]; show h.length + 1 ≤ _; omega))) (d' := .s (st (h ++ [c]))) (by unfold sg; rw [st_app]))) (cf_sortS (x := st (h ++ [c])) (by rw [st_size, List.length_append]; show h.length + 1 ≤ _; omega)))) ?_) ?_) ?_
      · rw [st_toList]
        unfold dS
        rw [List.map_map]
        rfl
      · rw [← e1, sum_len, flat_ones, st_len, (srtC_perm _).length_eq, List.length_append]
        show h.length + 1 + _ * 0 ≤ _
        omega
      · rw [← e1, join_st, flat_ones]
        rfl
    · have hc : c = a ∨ c = o := Decidable.byContradiction fun n => by
        rw [sg_mem] at h
        have : ¬ c ∈ [a, o] := by simpa using n
        rw [decide_eq_false this] at h
        exact absurd h (by decide)
      exact sd_next ⟨_, by rw [lhF_snoc, if_pos hc]; rfl⟩
  · rintro G ⟨z, rfl⟩
    rw [List.take_length]
    exact sd_ret (ev_v rfl) rfl
end Wr
set_option maxHeartbeats 4000000
namespace Wr
open PySem L2
section
variable {C : Cn} {K : PySem.W.Frag} {G : En} {N : En → Prop} {R : D → En → Prop} {te ti ta tb : TE} {u : TS} {i j : Nat}
theorem ev_ixOi {l : Addr} {xs : List SV} {x : V} {k : Int} (hi : G.De[i]? = some (.ptr l)) (hl : G.at l (.lst xs)) (hx : EvD C ti G (.i k)) (hj : atI xs k = some (.im (.v x))) : EvD C (tOp (rIxL K) (tVar i) ti) G (.v x) := fun O H σ g Q q => by
  obtain ⟨o, h1, h2⟩ := g.sl.get hi
  have h2 : o = some (.ref l) := h2
  subst h2
  obtain ⟨vs, hv, hs⟩ := g.ok _ hl
  refine ⟨.ref l, h1, hx O H σ g _ fun d w H1 hd e1 rw' => ?_⟩
  subst hd
  have hlen := hs.mlen
  unfold atI at hj
  cases hq : ixN xs.length k with
  | none =>
    rw [hq] at hj
    cases hj
  | some n =>
    rw [hq] at hj
    have hj : xs[n]? = some (.im (.v x)) := hj
    obtain ⟨o, h3, v, rfl, rv⟩ := hs.get hj
    have hv3 : vs[n]? = some v := by
      rw [List.getElem?_map] at h3
      cases q : vs[n]? with
      | none =>
        rw [q] at h3
        cases h3
      | some c =>
        rw [q] at h3
        exact Option.some.inj h3
    refine ⟨l, vs, k, v, rfl, rep_v.mp rw', SqL.of (e1 _ _ hv rfl), ?_, q _ _ H1 rfl e1 (rep_v.mpr (rep_v.mp rv))⟩
    unfold atI
    rw [hlen, hq]
    exact hv3
theorem at_frz {l m : Addr} {x : OO} {ds : List D} (h : G.at m x) (n : m ≠ l) : (G.frz l ds).at m x := List.mem_filter.mpr ⟨h, by simpa using n⟩
theorem at_own {p m : Addr} {x y : OO} (h : G.at m x) : (G.own p y).at m x := List.mem_cons_of_mem _ h
theorem at_key {p : Addr} {x : OO} (h : G.at p x) : p ∈ G.keys := List.mem_map.mpr ⟨_, h, rfl⟩
/-- a, b = two new lists, owned -/
theorem sq_two {ds es : List D} (ha : EvF C ta G ds) (hb : EvF C tb G es) (k : ∀ p q, p ∉ G.keys → q ∉ G.keys → p ≠ q → SD C u ((((G.own p (.lst (ds.map .im))).own q (.lst (es.map .im))).set i (.ptr p)).set j (.ptr q)) N R) :
    SD C (tSeq (tAsg (tTup (tCons ta (tCons tb tNil))) (gTup K 2 (gCons (gName i) (gCons (gName j) gNil)))) u) G N R := fun H0 O0 H σ E g n r =>
  ha _ H σ g.e _ fun p vs H1 np e1 hp hr => by
    have nk : p ∉ G.keys ++ O0 := g.e.dom.out np
    have nk1 : p ∉ G.keys := fun z => nk (List.mem_append_left _ z)
    have g1 := g.e.more np e1 hp
    refine hb _ H1 σ g1 _ fun q ws H2 nq e2 hq hr2 => ?_
    have nq1 : q ∉ p :: (G.keys ++ O0) := g1.dom.out nq
    have nqp : p ≠ q := fun z => nq1 (by rw [← z]; exact List.mem_cons_self ..)
    have nqk : q ∉ G.keys := fun z => nq1 (List.mem_cons_of_mem _ (List.mem_append_left _ z))
    have g2 := g1.more nq e2 hq
    refine ⟨by show 2 ≤ _; rw [PySem.sizeLine_eq]; decide, fun T nT => ?_⟩
    have e3 : Same H2 (upd H2 T (.tup [.ref p, .ref q])) := same_new nT
    refine ⟨T, [.ref p, .ref q], rfl, SqT.of upd_same, rfl, .ref p, [.ref q], rfl, .ref q, [], rfl, rfl, ?_⟩
    have g3 := g2.mono e3
    have hp3 := e3 _ _ (e2 _ _ hp rfl) rfl
    have hq3 := e3 _ _ hq rfl
    have h0p : H0 p = none := g.same.free np
    have h0q : H0 q = none := g.same.free (e1.free nq)
    refine k p q nk1 nqk nqp H0 O0 _ _ E ⟨((g.same.trans e1).trans e2).trans e3, g.dom0, fun l hl => ?_, ⟨fun l hl => ?_, g3.dom, ?_, fun z hz => ?_, (g3.sl.set i (s := .ptr p) (o := some (.ref p)) rfl).set j (s := .ptr q) (o := some (.ref q)) rfl, g3.tb⟩⟩ (fun G' σ' H'' y g'' s' => n G' σ' H'' y g'' (((same_out np e1).trans ((same_out nq (e2.trans e3)))).trans s')) r
    · rcases List.mem_cons.mp (show l ∈ q :: p :: G.keys from hl) with z | z
      · rw [z]
        exact h0q
      · rcases List.mem_cons.mp z with z | z
        · rw [z]
          exact h0p
        · exact g.own l z
    · exact List.mem_append_left _ (show l ∈ q :: p :: G.keys from hl)
    · show (q :: p :: G.keys).Nodup
      exact List.nodup_cons.mpr ⟨fun z => by
        rcases List.mem_cons.mp z with z | z
        · exact nqp z.symm
        · exact nqk z, List.nodup_cons.mpr ⟨nk1, g.e.nd⟩⟩
    · rcases List.mem_cons.mp (show z ∈ (q, OO.lst (es.map SV.im)) :: (p, OO.lst (ds.map SV.im)) :: G.Om from hz) with y | y
      · rw [y]
        exact ⟨ws, hq3, svs_im.mpr (hr2.mono (hide_mono e3))⟩
      · rcases List.mem_cons.mp y with y | y
        · rw [y]
          exact ⟨vs, hp3, svs_im.mpr (hr.mono (Sub.trans (same_out nq e2) (hide_mono e3)))⟩
        · exact g3.ok z y
theorem sd_ownF {ds : List D} (h : EvF C te G ds) (k : ∀ p, p ∉ G.keys → N ((G.own p (.lst (ds.map .im))).set i (.ptr p))) : SD C (tAsg te (gName i)) G N R := by
  have := sq_ownF (u := tNext) (N := N) (R := R) h fun p hp => sd_next (k p hp)
  exact this
theorem first_idx {ys : List PySem.Str} {y : PySem.Str} (h : y ∈ ys) : ∃ k, ys[k]? = some y ∧ (∀ m z, m < k → ys[m]? = some z → z ≠ y) ∧ k < ys.length := by
  induction ys with
  | nil => simp at h
  | cons a ys ih =>
    by_cases z : a = y
    · exact ⟨0, by rw [z]; rfl, fun m z hm => by omega, by simp⟩
    · rcases List.mem_cons.mp h with e | e
      · exact absurd e.symm z
      · obtain ⟨k, h1, h2, h3⟩ := ih e
        refine ⟨k + 1, by simpa using h1, fun m w hm hw => ?_, by rw [List.length_cons]; omega⟩
        cases m with
        | zero =>
          have : a = w := by simpa using hw
          rw [← this]
          exact z
        | succ m => exact h2 m w (by omega) (by simpa using hw)
theorem cutA_take {α : Type} (xs : List α) (k : Nat) : cutA xs none (some (k : Int)) = xs.take k := by
  unfold cutA
  rw [HT.sIx_nat]
  show (xs.drop 0).take (min k xs.length - 0) = _
  rw [List.drop_zero, Nat.sub_zero]
  by_cases h : k ≤ xs.length
  · rw [Nat.min_eq_left h]
  · rw [Nat.min_eq_right (by omega), List.take_of_length_le (Nat.le_refl _), List.take_of_length_le (by omega)]
end
/-! ### a line along the arrows that are left -/
def prZ (pt : List Tie) (i : Int) : Tie := prA pt i.toNat
def lp (f : Nat → Int) (pt : List Tie) (lf : List Int) : Int := (lf.map fun i => f (prZ pt i).1 - f (prZ pt i).2).sum
theorem lp_erase (f : Nat → Int) (pt : List Tie) {lf : List Int} {k : Int} (h : k ∈ lf) : lp f pt (lf.erase k) = lp f pt lf - (f (prZ pt k).1 - f (prZ pt k).2) := by
  unfold lp
  have := sum_perm ((List.perm_cons_erase h).map fun i => f (prZ pt i).1 - f (prZ pt i).2)
  rw [List.map_cons, List.sum_cons] at this
  omega
structure LinX where
  pt : List Tie
  lf : List Int
  b : Nat
  g : Nat
  k : Int
structure LinOk (x : LinX) : Prop where
  nd : x.lf.Nodup
  rg : ∀ i ∈ x.lf, 0 ≤ i ∧ i.toNat < x.pt.length
  len : x.lf.length ≤ 100
  pot : ∀ f : Nat → Int, lp f x.pt x.lf = x.k * (f x.b - f x.g)
  k1 : 1 ≤ x.k
structure LaS (x : LinX) (l p q : Addr) (lf ln : List Int) (pa : List Nat) (a1 a2 : SV) (G : En) : Prop where
  de : G.De = [.im (.lst (x.pt.map fun t => D.s (tS t))), .ptr l, .im (.s (sg x.b)), .im (.s (sg x.g)), .ptr p, .ptr q, a1, a2, .no]
  al : G.at l (.lst ((dI lf).map .im))
  ap : G.at p (.lst ((dI ln).map .im))
  aq : G.at q (.lst ((dS (pa.map sg)).map .im))
  lp : l ≠ p
  lq : l ≠ q
  pq : p ≠ q
structure LaI (x : LinX) (lf ln : List Int) (pa : List Nat) (cur : Nat) : Prop where
  nd : lf.Nodup
  sub : ∀ i ∈ lf, i ∈ x.lf
  pot : ∀ f : Nat → Int, Wr.lp f x.pt lf = x.k * (f x.b - f x.g) - (f x.b - f cur)
  dis : ∀ i ∈ ln, i ∉ lf
  last : ∃ pa', pa = pa' ++ [cur]
  ll : ln.length + lf.length ≤ 100
  pl : pa.length + lf.length ≤ 101
theorem LaI.next {x : LinX} {lf ln : List Int} {pa : List Nat} {cur : Nat} (h : LaI x lf ln pa cur) (k1 : 1 ≤ x.k) (hne : cur ≠ x.g) : ∃ i ∈ lf, (prZ x.pt i).1 = cur := by
  refine Classical.byContradiction fun n => ?_
  have hn : ∀ i ∈ lf, (prZ x.pt i).1 ≠ cur := fun i hi z => n ⟨i, hi, z⟩
  have e := h.pot fun c => if c = cur then 1 else 0
  have h1 : Wr.lp (fun c => if c = cur then 1 else 0) x.pt lf ≤ 0 := by
    unfold Wr.lp
    have : ∀ l : List Int, (∀ i ∈ l, (prZ x.pt i).1 ≠ cur) → (l.map fun i => (if (prZ x.pt i).1 = cur then (1 : Int) else 0) - (if (prZ x.pt i).2 = cur then 1 else 0)).sum ≤ 0 := by
      intro l
      induction l with
      | nil => intro _; exact Int.le_refl _
      | cons a l ih =>
        intro hl
        have := ih fun i hi => hl i (List.mem_cons_of_mem _ hi)
        have ha := hl a (List.mem_cons_self ..)
        rw [List.map_cons, List.sum_cons, if_neg ha]
        split <;> omega
    exact this lf hn
  rw [e] at h1
  simp only [if_true, if_neg (Ne.symm hne)] at h1
  by_cases z : x.b = cur
  · simp only [z, if_true] at h1
    omega
  · simp only [if_neg z] at h1
    omega
abbrev N_line_along : List PySem.Str := ["pairs", "left", "begin", "goal", "line", "passed", "index", "place", "own"]
theorem sc_line_along : FnScope N_line_along ["pairs", "left", "begin", "goal"] (defScope s_line_along) := ⟨rfl, rfl, rfl, by decide +kernel, rfl, by decide +kernel, by decide +kernel⟩
def sp_line_along (C : Cn) : Sp := spM C (fun (x : LinX) l => [.im (.lst (x.pt.map fun t => D.s (tS t))), .ptr l, .im (.s (sg x.b)), .im (.s (sg x.g))]) (fun x => x.lf) LinOk
  (fun x d ns => ∃ ls : List Int, d = .lst (dI ls) ∧ ls.length ≤ 100 ∧ ns.Nodup ∧ (∀ i ∈ ns, i ∈ x.lf) ∧ (∀ f : Nat → Int, lp f x.pt ns = (x.k - 1) * (f x.b - f x.g)) ∧ ns.length ≤ 100)
theorem pt_at {pt : List Tie} {i : Int} (h : 0 ≤ i ∧ i.toNat < pt.length) : atI (pt.map fun t => D.s (tS t)) i = some (D.s (tS (prZ pt i))) := by
  have e : i = ((i.toNat : Nat) : Int) := by omega
  rw [e]
  refine atI_n ?_
  unfold prZ prA
  rw [Int.toNat_natCast, List.getElem?_map, List.getElem?_eq_getElem h.2, List.getD_eq_getElem?_getD, List.getElem?_eq_getElem h.2]
  rfl
theorem last_at {α : Type} (l : List α) (a : α) : atI (l ++ [a]) (-1) = some a := by
  unfold atI ixN
  have e : (l ++ [a]).length = l.length + 1 := by simp
  rw [if_neg (by decide), e, if_pos (by omega)]
  show (l ++ [a])[((-1 : Int) + ((l.length + 1 : Nat) : Int)).toNat]? = _
  rw [show ((-1 : Int) + ((l.length + 1 : Nat) : Int)).toNat = l.length by omega, List.getElem?_append_right (Nat.le_refl _), Nat.sub_self]
  rfl
def fz (l : Addr) (ds : List D) (s : SV) : SV := (((⟨[], [s]⟩ : En).frz l ds).De).headD .no
theorem frz_de (G : En) (l : Addr) (ds : List D) : (G.frz l ds).De = G.De.map (fz l ds) := rfl
theorem fz_im (l : Addr) (ds : List D) (d : D) : fz l ds (.im d) = .im d := rfl
theorem fz_no (l : Addr) (ds : List D) : fz l ds .no = .no := rfl
theorem fz_eq (l : Addr) (ds : List D) : fz l ds (.ptr l) = .im (.lst ds) := if_pos rfl
theorem fz_ne {l m : Addr} (ds : List D) (h : m ≠ l) : fz l ds (.ptr m) = .ptr m := if_neg h
/-- the three lists, seen as data -/
theorem la_data {C : Cn} {x : LinX} {l p q : Addr} {lf ln : List Int} {pa : List Nat} {a1 a2 : SV} {G : En} (s : LaS x l p q lf ln pa a1 a2 G) {te : TE} {v : V}
    (h : ∀ Om b1 b2, (∀ d, a1 = .im d → b1 = .im d) → (∀ d, a2 = .im d → b2 = .im d) → EvD C te ⟨Om, [.im (.lst (x.pt.map fun t => D.s (tS t))), .im (.lst (dI lf)), .im (.s (sg x.b)), .im (.s (sg x.g)), .im (.lst (dI ln)), .im (.lst (dS (pa.map sg))), b1, b2, .no]⟩ (.v v)) : EvD C te G (.v v) := by
  refine ev_frzD s.al (ev_frzD (at_frz s.ap s.lp.symm) (ev_frzD (at_frz (at_frz s.aq s.lq.symm) s.pq.symm) ?_))
  have e : (((G.frz l (dI lf)).frz p (dI ln)).frz q (dS (pa.map sg))).De = [.im (.lst (x.pt.map fun t => D.s (tS t))), .im (.lst (dI lf)), .im (.s (sg x.b)), .im (.s (sg x.g)), .im (.lst (dI ln)), .im (.lst (dS (pa.map sg))), fz q (dS (pa.map sg)) (fz p (dI ln) (fz l (dI lf) a1)), fz q (dS (pa.map sg)) (fz p (dI ln) (fz l (dI lf) a2)), .no] := by
    rw [frz_de, frz_de, frz_de, s.de]
    simp only [List.map_cons, List.map_nil, fz_im, fz_no, fz_eq, fz_ne _ s.lp.symm, fz_ne _ s.lq.symm, fz_ne _ s.pq.symm]
  have hh := h (((G.frz l (dI lf)).frz p (dI ln)).frz q (dS (pa.map sg))).Om (fz q (dS (pa.map sg)) (fz p (dI ln) (fz l (dI lf) a1))) (fz q (dS (pa.map sg)) (fz p (dI ln) (fz l (dI lf) a2))) (fun d e => by rw [e]; rfl) (fun d e => by rw [e]; rfl)
  rw [← e] at hh
  exact hh
theorem la_dataT {C : Cn} {x : LinX} {l p q : Addr} {lf ln : List Int} {pa : List Nat} {a1 a2 : SV} {G : En} (s : LaS x l p q lf ln pa a1 a2 G) {tt : TT} {v : Bool}
    (h : ∀ Om b1 b2, (∀ d, a1 = .im d → b1 = .im d) → (∀ d, a2 = .im d → b2 = .im d) → EvT C tt ⟨Om, [.im (.lst (x.pt.map fun t => D.s (tS t))), .im (.lst (dI lf)), .im (.s (sg x.b)), .im (.s (sg x.g)), .im (.lst (dI ln)), .im (.lst (dS (pa.map sg))), b1, b2, .no]⟩ v) : EvT C tt G v := by
  refine et_frz s.al (et_frz (at_frz s.ap s.lp.symm) (et_frz (at_frz (at_frz s.aq s.lq.symm) s.pq.symm) ?_))
  have e : (((G.frz l (dI lf)).frz p (dI ln)).frz q (dS (pa.map sg))).De = [.im (.lst (x.pt.map fun t => D.s (tS t))), .im (.lst (dI lf)), .im (.s (sg x.b)), .im (.s (sg x.g)), .im (.lst (dI ln)), .im (.lst (dS (pa.map sg))), fz q (dS (pa.map sg)) (fz p (dI ln) (fz l (dI lf) a1)), fz q (dS (pa.map sg)) (fz p (dI ln) (fz l (dI lf) a2)), .no] := by
    rw [frz_de, frz_de, frz_de, s.de]
    simp only [List.map_cons, List.map_nil, fz_im, fz_no, fz_eq, fz_ne _ s.lp.symm, fz_ne _ s.lq.symm, fz_ne _ s.pq.symm]
  have hh := h (((G.frz l (dI lf)).frz p (dI ln)).frz q (dS (pa.map sg))).Om (fz q (dS (pa.map sg)) (fz p (dI ln) (fz l (dI lf) a1))) (fz q (dS (pa.map sg)) (fz p (dI ln) (fz l (dI lf) a2))) (fun d e => by rw [e]; rfl) (fun d e => by rw [e]; rfl)
  rw [← e] at hh
  exact hh
theorem la_dataF {C : Cn} {x : LinX} {l p q : Addr} {lf ln : List Int} {pa : List Nat} {a1 a2 : SV} {G : En} (s : LaS x l p q lf ln pa a1 a2 G) {te : TE} {xs : List V}
    (h : ∀ Om b1 b2, (∀ d, a1 = .im d → b1 = .im d) → (∀ d, a2 = .im d → b2 = .im d) → EvF C te ⟨Om, [.im (.lst (x.pt.map fun t => D.s (tS t))), .im (.lst (dI lf)), .im (.s (sg x.b)), .im (.s (sg x.g)), .im (.lst (dI ln)), .im (.lst (dS (pa.map sg))), b1, b2, .no]⟩ (xs.map D.v)) : EvF C te G (xs.map D.v) := by
  refine ef_frz s.al (ef_frz (at_frz s.ap s.lp.symm) (ef_frz (at_frz (at_frz s.aq s.lq.symm) s.pq.symm) ?_))
  have e : (((G.frz l (dI lf)).frz p (dI ln)).frz q (dS (pa.map sg))).De = [.im (.lst (x.pt.map fun t => D.s (tS t))), .im (.lst (dI lf)), .im (.s (sg x.b)), .im (.s (sg x.g)), .im (.lst (dI ln)), .im (.lst (dS (pa.map sg))), fz q (dS (pa.map sg)) (fz p (dI ln) (fz l (dI lf) a1)), fz q (dS (pa.map sg)) (fz p (dI ln) (fz l (dI lf) a2)), .no] := by
    rw [frz_de, frz_de, frz_de, s.de]
    simp only [List.map_cons, List.map_nil, fz_im, fz_no, fz_eq, fz_ne _ s.lp.symm, fz_ne _ s.lq.symm, fz_ne _ s.pq.symm]
  have hh := h (((G.frz l (dI lf)).frz p (dI ln)).frz q (dS (pa.map sg))).Om (fz q (dS (pa.map sg)) (fz p (dI ln) (fz l (dI lf) a1))) (fz q (dS (pa.map sg)) (fz p (dI ln) (fz l (dI lf) a2))) (fun d e => by rw [e]; rfl) (fun d e => by rw [e]; rfl)
  rw [← e] at hh
  exact hh
theorem put_de {G : En} {l : Addr} {x : OO} : (G.put l x).De = G.De := rfl
theorem LaS.setl {x : LinX} {l p q : Addr} {lf ln : List Int} {pa : List Nat} {a1 a2 : SV} {G : En} (s : LaS x l p q lf ln pa a1 a2 G) {lf' : List Int} : LaS x l p q lf' ln pa a1 a2 (G.put l (.lst ((dI lf').map .im))) := ⟨s.de, En.at_put s.al, En.at_put_ne s.ap s.lp.symm, En.at_put_ne s.aq s.lq.symm, s.lp, s.lq, s.pq⟩
theorem LaS.setp {x : LinX} {l p q : Addr} {lf ln : List Int} {pa : List Nat} {a1 a2 : SV} {G : En} (s : LaS x l p q lf ln pa a1 a2 G) {ln' : List Int} : LaS x l p q lf ln' pa a1 a2 (G.put p (.lst ((dI ln').map .im))) := ⟨s.de, En.at_put_ne s.al s.lp, En.at_put s.ap, En.at_put_ne s.aq s.pq.symm, s.lp, s.lq, s.pq⟩
theorem LaS.setq {x : LinX} {l p q : Addr} {lf ln : List Int} {pa : List Nat} {a1 a2 : SV} {G : En} (s : LaS x l p q lf ln pa a1 a2 G) {pa' : List Nat} : LaS x l p q lf ln pa' a1 a2 (G.put q (.lst ((dS (pa'.map sg)).map .im))) := ⟨s.de, En.at_put_ne s.al s.lq, En.at_put_ne s.ap s.pq, En.at_put s.aq, s.lp, s.lq, s.pq⟩
theorem LaS.newp {x : LinX} {l p q : Addr} {lf ln : List Int} {pa : List Nat} {a1 a2 : SV} {G : En} (s : LaS x l p q lf ln pa a1 a2 G) {ln' : List Int} {p' : Addr} (h : p' ∉ G.keys) : LaS x l p' q lf ln' pa a1 a2 ((G.own p' (.lst ((dI ln').map .im))).set 4 (.ptr p')) :=
  ⟨by show G.De.set 4 _ = _; rw [s.de]; rfl, at_own s.al, En.at_own, at_own s.aq, fun z => h (z ▸ at_key s.al), s.lq, fun z => h (z ▸ at_key s.aq)⟩
theorem LaS.newq {x : LinX} {l p q : Addr} {lf ln : List Int} {pa : List Nat} {a1 a2 : SV} {G : En} (s : LaS x l p q lf ln pa a1 a2 G) {pa' : List Nat} {q' : Addr} (h : q' ∉ G.keys) : LaS x l p q' lf ln pa' a1 a2 ((G.own q' (.lst ((dS (pa'.map sg)).map .im))).set 5 (.ptr q')) :=
  ⟨by show G.De.set 5 _ = _; rw [s.de]; rfl, at_own s.al, at_own s.ap, En.at_own, s.lp, fun z => h (z ▸ at_key s.al), fun z => h (z ▸ at_key s.ap)⟩
theorem LaS.slot6 {x : LinX} {l p q : Addr} {lf ln : List Int} {pa : List Nat} {a1 a2 : SV} {G : En} (s : LaS x l p q lf ln pa a1 a2 G) (z : SV) : LaS x l p q lf ln pa z a2 (G.set 6 z) := ⟨by show G.De.set 6 _ = _; rw [s.de]; rfl, s.al, s.ap, s.aq, s.lp, s.lq, s.pq⟩
theorem LaS.slot7 {x : LinX} {l p q : Addr} {lf ln : List Int} {pa : List Nat} {a1 a2 : SV} {G : En} (s : LaS x l p q lf ln pa a1 a2 G) (z : SV) : LaS x l p q lf ln pa a1 z (G.set 7 z) := ⟨by show G.De.set 7 _ = _; rw [s.de]; rfl, s.al, s.ap, s.aq, s.lp, s.lq, s.pq⟩
theorem dI_snoc (l : List Int) (a : Int) : (dI l).map SV.im ++ [SV.im (D.i a)] = (dI (l ++ [a])).map .im := by simp [dI]
theorem dS_snoc (l : List Nat) (a : Nat) : (dS (l.map sg)).map SV.im ++ [SV.im (D.s (sg a))] = (dS ((l ++ [a]).map sg)).map .im := by simp [dS]
theorem has_line_along {P : Program} {w : World} {K : PySem.W.Frag} {mg : PySem.Str → Option Value} {base : Heap} {C : Cn} (T : Tx K mg C.cls) : Has P w K mg base 1 "line_along" ["pairs", "left", "begin", "goal"] (sp_line_along C) := by
  refine fn_hasS T 47 (d := d_line_along) rfl rfl (N := N_line_along) sc_line_along rfl rfl (fun _ _ _ _ _ _ us hl => match us, hl with | [_, _, _, _], _ => rfl) (spM_len fun _ _ => rfl) (fun cdv A' outer s H E hr => ⟨_, (pss_cons (ps_asg (pe_tup (pa_cons (pe_lst pa_nil) (pa_cons (pe_lst (pa_cons (pv 2) pa_nil)) pa_nil))) (pg_tup rfl (pgs_cons (pg_name (i := 4) sc_line_along.nd rfl (.inr rfl)) (pgs_cons (pg_name (i := 5) sc_line_along.nd rfl (.inr rfl)) pgs_nil))))
      (pss_cons (ps_while PassesOwn.never (pt_cmpR op_ne (pe_ix (k_ix_list (K := K) rfl) (pv 5) (pe_un un_neg pe_int) (fun _ _ => rfl)) (pv 3) (nomark _)) (pss_cons (ps_set (i := 6) sc_line_along.nd rfl (.inl rfl) (pe_ix (k_ix_list (K := K) rfl) (pe_lc (own := [("own", 8)]) (g := gName 8) rfl sc_line_along.nd (k_pi_list (K := K) rfl (pv 1)) (blkOk_by (own := [("own", 8)]) (N := N_line_along) (sc := defScope s_line_along) (by decide +kernel)) (fun _ _ _ _ _ => (pg_name (i := 8) sc_line_along.nd rfl (.inl rfl))) (fun _ _ _ _ _ => (pts_one (PW.pt (pw_and (pt_cmpR (k_op_notIn_seq (K := K) rfl) (pv 8) (pv 4) (by rfl)) (pw_and1 (pt_cmpR op_eq (pe_ix ix_str (pe_ix (k_ix_list (K := K) rfl) (pv 0) (pv 8) (fun _ _ => rfl)) pe_int (fun _ _ => rfl)) (pe_ix (k_ix_list (K := K) rfl) (pv 5) (pe_un un_neg pe_int) (fun _ _ => rfl)) (nomark _))))))) (fun _ _ _ _ _ => (pv 8))) pe_int (fun _ _ => rfl)))
      (pss_cons (ps_expr (pe_remX rfl LamX.takes0 (pv 1) (pv 6)))
      (pss_cons (ps_expr (k_pe_bm (K := K) rfl PySem.F.plainAttrs_list PySem.F.slot_list_append PySem.F.type_list_append mt_append (pv 4) (pa_cons (pv 6) pa_nil)))
      (pss_cons (ps_set (i := 7) sc_line_along.nd rfl (.inl rfl) (pe_ix ix_str (pe_ix (k_ix_list (K := K) rfl) (pv 0) (pv 6) (fun _ _ => rfl)) pe_int (fun _ _ => rfl)))
      (pss_cons (ps_if (pt_cmpR (k_op_in_seq (K := K) rfl) (pv 7) (pv 5) (by rfl)) (pss_cons (ps_set (i := 4) sc_line_along.nd rfl (.inr rfl) (pe_slice (k_sl_list (K := K) rfl) (pv 4) po_none (po_some (k_pe_bm (K := K) rfl PySem.F.plainAttrs_list PySem.F.slot_list_index PySem.F.type_list_index (k_mt_index (K := K) rfl) (pv 5) (pa_cons (pv 7) pa_nil)))))
      (pss_one (ps_set (i := 5) sc_line_along.nd rfl (.inr rfl) (pe_slice (k_sl_list (K := K) rfl) (pv 5) po_none (po_some (k_pe_bm (K := K) rfl PySem.F.plainAttrs_list PySem.F.slot_list_index PySem.F.type_list_index (k_mt_index (K := K) rfl) (pv 5) (pa_cons (pv 7) pa_nil))))))) pss_nil)
      (pss_one (ps_expr (k_pe_bm (K := K) rfl PySem.F.plainAttrs_list PySem.F.slot_list_append PySem.F.type_list_append mt_append (pv 5) (pa_cons (pv 7) pa_nil))))))))))
      (pss_one (ps_ret (pv 4))))), fun vs Q E' h => spM_run (fun x l hx => ?_) vs H Q E' h⟩)
  have k1 := LinOk.k1 hx
  show SD C _ ⟨[(l, .lst ((dI x.lf).map .im))], [.im (.lst (x.pt.map fun t => D.s (tS t))), .ptr l, .im (.s (sg x.b)), .im (.s (sg x.g)), .no, .no, .no, .no, .no]⟩ _ _
  refine sq_two (ds := dI []) (es := dS ([x.b].map sg)) (ev_lst ea_nil) (ev_lst (ea1 (ev_v rfl))) fun p q np nq npq => ?_
  have hlp : l ≠ p := fun z => np (by rw [← z]; exact List.mem_singleton.mpr rfl)
  have hlq : l ≠ q := fun z => nq (by rw [← z]; exact List.mem_singleton.mpr rfl)
  refine sq_while (M := fun G => ∃ p q lf ln pa a1 a2, LaS x l p q lf ln pa a1 a2 G ∧ LaI x lf ln pa x.g) (fun m G => ∃ p q lf ln pa a1 a2 cur, LaS x l p q lf ln pa a1 a2 G ∧ LaI x lf ln pa cur ∧ m = lf.length) _
    ⟨p, q, x.lf, [], [x.b], .no, .no, x.b, ⟨rfl, List.mem_cons_of_mem _ (List.mem_cons_of_mem _ (List.mem_singleton.mpr rfl)), List.mem_cons_of_mem _ (List.mem_cons_self ..), List.mem_cons_self .., hlp, hlq, npq⟩, ⟨hx.nd, fun i hi => hi, fun f => by rw [hx.pot f]; omega, fun i hi => absurd hi (List.not_mem_nil), ⟨[], rfl⟩, by have := hx.len; simpa using this, by have := hx.len; show 1 + _ ≤ 101; omega⟩, rfl⟩ ?_ ?_
  · rintro m G ⟨p, q, lf, ln, pa, a1, a2, cur, s, inv, rfl⟩
    obtain ⟨pa', hpa⟩ := inv.last
    have hcur : atI (dS (pa.map sg)) (-1) = some (D.s (sg cur)) := by
      rw [hpa]
      unfold dS
      rw [List.map_append, List.map_append]
      exact last_at _ _
    refine ⟨!decide (sg cur = sg x.g), et_test (ev_opD (la_data s fun Om b1 b2 e1 e2 => ev_opD (ev_v rfl) (ev_neg ev_c) (rr_ixL hcur rfl)) (ev_v (by rw [s.de]; rfl)) rr_neS), fun h => ?_, fun h => ?_⟩
    rotate_left 1
    · have e : cur = x.g := by
        refine Decidable.byContradiction fun n => ?_
        rw [decide_eq_false (p := sg cur = sg x.g) fun z => n (st1_inj z)] at h
        exact absurd h (by decide)
      subst e
      exact ⟨p, q, lf, ln, pa, a1, a2, s, inv⟩
    · have hne : cur ≠ x.g := by
        rintro rfl
        rw [decide_eq_true rfl] at h
        exact absurd h (by decide)
      -- the arrow
      let fs := lf.filter fun i => !decide (i ∈ ln) && decide ((prZ x.pt i).1 = cur)
      have hfs : fs ≠ [] := by
        obtain ⟨i, hi, e⟩ := inv.next k1 hne
        intro z
        have : i ∈ fs := List.mem_filter.mpr ⟨hi, by rw [decide_eq_true e, decide_eq_false fun y => inv.dis i y hi]; rfl⟩
        rw [z] at this
        exact List.not_mem_nil this
      obtain ⟨idx, fs', hfe⟩ := List.exists_cons_of_ne_nil hfs
      have hidx : idx ∈ lf ∧ (prZ x.pt idx).1 = cur := by
        have : idx ∈ fs := by rw [hfe]; exact List.mem_cons_self ..
        obtain ⟨h1, h2⟩ := List.mem_filter.mp this
        rw [Bool.and_eq_true] at h2
        exact ⟨h1, of_decide_eq_true h2.2⟩
      have hrg := hx.rg idx (inv.sub idx hidx.1)
      have hll := inv.ll
      have hpl := inv.pl
      refine sq_asg (d := .i idx) (la_data s fun Om b1 b2 e1 e2 => ev_opD (x := .lst (dI fs)) (EvF.dat (ev_lc (C := C) (js := [8]) lf (fun i => D.i i) (fun i => !decide (i ∈ ln) && decide ((prZ x.pt i).1 = cur)) (fun i => D.i i) (fun i s => s.set 8 (.im (.i i))) (ei_list (ev_v rfl)) (fun _ _ => eg_name) (by omega) (fun i hi => et_and (et_test (ev_opD (ev_v rfl) (ev_v rfl) rr_niInts)) fun _ => et_test ((ev_opD (ev_t0 (ev_opD (ev_v rfl) (ev_v rfl) (rr_ixL (pt_at (hx.rg i (inv.sub i hi))) rfl))) (ev_opD (ev_v rfl) (ev_neg ev_c) (rr_ixL hcur rfl)) rr_eqS).to ?_)) (fun i hi _ => ev_v rfl))) ev_c (rr_ixL (atI_n (j := 0) (by rw [hfe]; rfl)) rfl)) ?_
      · have : decide (sg (prZ x.pt i).1 = sg cur) = decide ((prZ x.pt i).1 = cur) := by
          by_cases z : (prZ x.pt i).1 = cur
          · rw [decide_eq_true z, z, decide_eq_true rfl]
          · rw [decide_eq_false z, decide_eq_false (p := sg (prZ x.pt i).1 = sg cur) fun y => z (st1_inj y)]
        show D.b (decide (sg (prZ x.pt i).1 = sg cur)) = _
        rw [this]
      have s1 := s.slot6 (.im (.i idx))
      refine sd_seq1 (sd_rem (l := l) (ns := lf) (k := idx) (by rw [s1.de]; rfl) s1.al (ev_v (by rw [s1.de]; rfl)) hidx.1 rfl) ?_
      have s2 := s1.setl (lf' := lf.erase idx)
      have hel := List.length_erase_of_mem hidx.1
      have hpos := List.length_pos_of_mem hidx.1
      refine sd_seq1 (sd_app (l := p) (xs := (dI ln).map .im) (P := (· = D.i idx)) (by rw [s2.de]; rfl) s2.ap (ev_v (by rw [s2.de]; rfl)) (by rw [List.length_map, List.length_map]; omega) (fun d hd => by rw [hd, dI_snoc])) ?_
      have s3 := s2.setp (ln' := ln ++ [idx])
      refine sq_asg (d := .s (sg (prZ x.pt idx).2)) (ev_t1 (ev_opD (ev_v (by rw [s3.de]; rfl)) (ev_v (by rw [s3.de]; rfl)) (rr_ixL (pt_at hrg) rfl))) ?_
      have s4 := s3.slot7 (.im (.s (sg (prZ x.pt idx).2)))
      generalize hc' : (prZ x.pt idx).2 = c' at s4
      have nd' : (lf.erase idx).Nodup := inv.nd.sublist List.erase_sublist
      have pot' : ∀ f : Nat → Int, Wr.lp f x.pt (lf.erase idx) = x.k * (f x.b - f x.g) - (f x.b - f c') := fun f => by
        rw [lp_erase f x.pt hidx.1, inv.pot f, hidx.2, hc']
        omega
      have dis' : ∀ i ∈ ln ++ [idx], i ∉ lf.erase idx := fun i hi z => by
        rcases List.mem_append.mp hi with y | y
        · exact inv.dis i y (List.mem_of_mem_erase z)
        · rw [List.mem_singleton.mp y] at z
          exact (List.Nodup.not_mem_erase inv.nd) z
      refine sq_if (b := decide (sg c' ∈ pa.map sg)) (M := fun G => ∃ p q ln' pa'' a1 a2, LaS x l p q (lf.erase idx) ln' pa'' a1 a2 G ∧ a2 = .im (.s (sg c')) ∧ (∀ i ∈ ln', i ∈ ln ++ [idx]) ∧ ln'.length ≤ ln.length + 1 ∧ pa''.length ≤ pa.length) (la_dataT s4 fun Om b1 b2 e1 e2 => et_test (ev_opD (x := .s (sg c')) ?_ (ev_v rfl) rr_inStrs)) (fun h2 => ?_) (fun h2 => ⟨p, q, ln ++ [idx], pa, _, _, s4, rfl, fun i hi => hi, by simp, Nat.le_refl _⟩) ?_
      · exact ev_v (by rw [e2 _ rfl]; rfl)
      · obtain ⟨k, hk1, hk2, hk3⟩ := first_idx (of_decide_eq_true h2)
        rw [List.length_map] at hk3
        refine sq_ownF (ds := dI ((ln ++ [idx]).take k)) ?_ fun p' hp' => ?_
        · refine EvF.to (la_dataF s4 (xs := ((ln ++ [idx]).take k).map V.int) fun Om b1 b2 e1 e2 => EvF.to (ev_slL (ds := dI (ln ++ [idx])) (ev_v rfl) eo_no (eo_i (ev_indexS (ys := pa.map sg) (y := sg c') (j := k) (ev_v rfl) (ev_v (by rw [e2 _ rfl]; rfl)) hk1 hk2))) ?_) ?_
          · rw [cutA_take]
            simp [dI, List.map_take]
            rfl
          · simp [dI]
            rfl
        · have s5 := s4.newp (ln' := (ln ++ [idx]).take k) hp'
          refine sd_ownF (ds := dS ((pa.take k).map sg)) ?_ fun q' hq' => ⟨p', q', (ln ++ [idx]).take k, pa.take k, _, _, s5.newq hq', rfl, fun i hi => List.mem_of_mem_take hi, ?_, ?_⟩
          · refine EvF.to (la_dataF s5 (xs := ((pa.take k).map sg).map V.str) fun Om b1 b2 e1 e2 => EvF.to (ev_slL (ds := dS (pa.map sg)) (ev_v rfl) eo_no (eo_i (ev_indexS (ys := pa.map sg) (y := sg c') (j := k) (ev_v rfl) (ev_v (by rw [e2 _ rfl]; rfl)) hk1 hk2))) ?_) ?_
            · rw [cutA_take]
              simp [dS, List.map_take]
              rfl
            · simp [dS]
              rfl
          · rw [List.length_take, List.length_append]
            show min k (ln.length + 1) ≤ _
            omega
          · rw [List.length_take]
            omega
      · rintro G ⟨p, q, ln', pa'', a1, a2, s6, rfl, h5, h6, h7⟩
        refine sd_app (l := q) (xs := (dS (pa''.map sg)).map .im) (P := (· = D.s (sg c'))) (by rw [s6.de]; rfl) s6.aq (ev_v (by rw [s6.de]; rfl)) (by unfold dS; rw [List.length_map, List.length_map, List.length_map]; omega) fun d hd => ?_
        subst hd
        rw [dS_snoc]
        exact ⟨(lf.erase idx).length, by omega, p, q, lf.erase idx, ln', pa'' ++ [c'], _, _, c', s6.setq, ⟨nd', fun i hi => inv.sub i (List.mem_of_mem_erase hi), pot', fun i hi => dis' i (h5 i hi), ⟨pa'', rfl⟩, by omega, by rw [List.length_append]; show pa''.length + 1 + _ ≤ _; omega⟩, rfl⟩
  · rintro G ⟨p, q, lf, ln, pa, a1, a2, s, inv⟩
    refine sd_frz (l := p) (ds := dI ln) s.ap (sd_ret (d := .lst (dI ln)) (ev_v ?_) ⟨lf, ⟨ln, rfl, by have := inv.ll; omega, inv.nd, inv.sub, fun f => ?_, by have := inv.ll; omega⟩, at_frz s.al s.lp⟩)
    · rw [frz_de, s.de]
      show some (fz p (dI ln) (.ptr p)) = _
      rw [fz_eq]
    · rw [inv.pot f, Int.sub_mul]
      omega
end Wr
set_option maxHeartbeats 4000000
namespace Wr
open PySem L2
section
variable {C : Cn} {K : PySem.W.Frag} {G : En} {N : En → Prop} {R : D → En → Prop} {ta tb : TE} {u : TS} {i j : Nat}
/-- a, b = two new lists, owned, at once -/
theorem sq_parTwo {ds es : List D} (ha : EvF C ta G ds) (hb : EvF C tb G es) (k : ∀ p q, p ∉ G.keys → q ∉ G.keys → p ≠ q → SD C u ((((G.own p (.lst (ds.map .im))).own q (.lst (es.map .im))).set i (.ptr p)).set j (.ptr q)) N R) :
    SD C (tSeq (tPar i j (tCons ta (tCons tb tNil))) u) G N R := fun H0 O0 H σ E g n r =>
  ha _ H σ g.e _ fun p vs H1 np e1 hp hr => by
    have nk : p ∉ G.keys ++ O0 := g.e.dom.out np
    have nk1 : p ∉ G.keys := fun z => nk (List.mem_append_left _ z)
    have g1 := g.e.more np e1 hp
    refine hb _ H1 σ g1 _ fun q ws H2 nq e2 hq hr2 => ?_
    have nq1 : q ∉ p :: (G.keys ++ O0) := g1.dom.out nq
    have nqp : p ≠ q := fun z => nq1 (by rw [← z]; exact List.mem_cons_self ..)
    have nqk : q ∉ G.keys := fun z => nq1 (List.mem_cons_of_mem _ (List.mem_append_left _ z))
    have g3 := g1.more nq e2 hq
    refine ⟨.ref p, .ref q, rfl, ?_⟩
    have hp3 := e2 _ _ hp rfl
    have h0p : H0 p = none := g.same.free np
    have h0q : H0 q = none := g.same.free (e1.free nq)
    refine k p q nk1 nqk nqp H0 O0 _ _ E ⟨(g.same.trans e1).trans e2, g.dom0, fun l hl => ?_, ⟨fun l hl => ?_, g3.dom, ?_, fun z hz => ?_, (g3.sl.set i (s := .ptr p) (o := some (.ref p)) rfl).set j (s := .ptr q) (o := some (.ref q)) rfl, g3.tb⟩⟩ (fun G' σ' H'' y g'' s' => n G' σ' H'' y g'' (((same_out np e1).trans (same_out nq e2)).trans s')) r
    · rcases List.mem_cons.mp (show l ∈ q :: p :: G.keys from hl) with z | z
      · rw [z]
        exact h0q
      · rcases List.mem_cons.mp z with z | z
        · rw [z]
          exact h0p
        · exact g.own l z
    · exact List.mem_append_left _ (show l ∈ q :: p :: G.keys from hl)
    · show (q :: p :: G.keys).Nodup
      exact List.nodup_cons.mpr ⟨fun z => by
        rcases List.mem_cons.mp z with z | z
        · exact nqp z.symm
        · exact nqk z, List.nodup_cons.mpr ⟨nk1, g.e.nd⟩⟩
    · rcases List.mem_cons.mp (show z ∈ (q, OO.lst (es.map SV.im)) :: (p, OO.lst (ds.map SV.im)) :: G.Om from hz) with y | y
      · rw [y]
        exact ⟨ws, hq, svs_im.mpr hr2⟩
      · rcases List.mem_cons.mp y with y | y
        · rw [y]
          exact ⟨vs, hp3, svs_im.mpr (hr.mono (same_out nq e2))⟩
        · exact g3.ok z y
end
theorem srt_ints (l : List Int) : SrtOk (encL (dI l)) := by
  rw [enc_dI]
  refine ⟨PySem.W.AllAlike.of fun b b' => by simp [PySem.W.alike], .inl (PySem.W.Sortable.others fun b => ⟨by simp, by simp⟩), fun d hd => ?_⟩
  obtain ⟨h, _, rfl⟩ := List.mem_map.mp hd
  simp [PyData.depth]
def ptOf (x : W) (nets : List Int) : List Tie := (List.range x.2.length).map fun i => if 0 ≤ nets.getD i 0 then tieAt x i else swp (tieAt x i)
def lfOf (x : W) (nets : List Int) : List Int := ((List.range x.2.length).filter fun i => !decide (nets.getD i 0 = 0)).map fun i : Nat => (i : Int)
theorem ptOf_at {x : W} {nets : List Int} {i : Nat} (h : i < x.2.length) : prZ (ptOf x nets) (i : Int) = if 0 ≤ nets.getD i 0 then tieAt x i else swp (tieAt x i) := by
  unfold prZ prA ptOf
  rw [Int.toNat_natCast, List.getD_eq_getElem?_getD, List.getElem?_map, List.getElem?_range h]
  rfl
theorem sum_filter0 {α : Type} (l : List α) (p : α → Bool) (f : α → Int) (h : ∀ a ∈ l, p a = false → f a = 0) : ((l.filter p).map f).sum = (l.map f).sum := by
  induction l with
  | nil => rfl
  | cons a l ih =>
    have ih := ih fun b hb => h b (List.mem_cons_of_mem _ hb)
    rw [List.filter_cons]
    split
    · rw [List.map_cons, List.map_cons, List.sum_cons, List.sum_cons, ih]
    · rename_i hp
      rw [List.map_cons, List.sum_cons, ih, h a (List.mem_cons_self ..) (by simpa using hp), Int.zero_add]
theorem lin_of {x : W} {b g : Nat} {nets : List Int} {S : List Nat} {v : Nat} (car : CarOk x b g nets S v) (nt : x.2.length ≤ 7) : (∀ f : Nat → Int, lp f (ptOf x nets) (lfOf x nets) = v * (f b - f g)) ∧ (lfOf x nets).Nodup ∧ (∀ i ∈ lfOf x nets, 0 ≤ i ∧ i.toNat < (ptOf x nets).length) ∧ (lfOf x nets).length ≤ 100 := by
  have pl : (ptOf x nets).length = x.2.length := by
    unfold ptOf
    rw [List.length_map, List.length_range]
  refine ⟨fun f => ?_, ?_, fun i hi => ?_, ?_⟩
  · rw [← car.pot f, pot_sum f _ _ car.len]
    unfold lp lfOf
    rw [List.map_map]
    have e1 : ((List.range x.2.length).filter fun i => !decide (nets.getD i 0 = 0)).map ((fun i => f (prZ (ptOf x nets) i).1 - f (prZ (ptOf x nets) i).2) ∘ fun i : Nat => (i : Int)) = ((List.range x.2.length).filter fun i => !decide (nets.getD i 0 = 0)).map fun i => nets.getD i 0 * (f (prA x.2 i).1 - f (prA x.2 i).2) := by
      refine List.map_congr_left fun i hi => ?_
      obtain ⟨h1, h2⟩ := List.mem_filter.mp hi
      have h1 := List.mem_range.mp h1
      show f (prZ (ptOf x nets) (i : Int)).1 - f (prZ (ptOf x nets) (i : Int)).2 = _
      rw [ptOf_at h1]
      have ht : tieAt x i = prA x.2 i := rfl
      have h3 : nets.getD i 0 ≠ 0 := by simpa using h2
      rcases getD_of car.tri (i := i) (by rw [car.len]; exact h1) with e | e | e
      · rw [e, if_neg (by decide), ht]
        show f (prA x.2 i).2 - f (prA x.2 i).1 = _
        omega
      · exact absurd e h3
      · rw [e, if_pos (by decide), ht]
        omega
    rw [e1]
    refine sum_filter0 _ _ _ fun i hi hp => ?_
    have : nets.getD i 0 = 0 := by simpa using hp
    rw [this, Int.zero_mul]
  · unfold lfOf
    rw [List.Nodup, List.pairwise_map]
    exact ((List.nodup_range.sublist List.filter_sublist : List.Nodup _)).imp fun h z => h (by omega)
  · unfold lfOf at hi
    obtain ⟨k, hk, rfl⟩ := List.mem_map.mp hi
    have := List.mem_range.mp (List.mem_filter.mp hk).1
    rw [pl]
    omega
  · unfold lfOf
    rw [List.length_map]
    exact Nat.le_trans (List.length_filter_le ..) (by rw [List.length_range]; omega)
abbrev N_apart_ways : List PySem.Str := ["web", "begin", "goal", "row", "pairs", "left", "found", "turn", "tie", "number", "index"]
theorem sc_apart_ways : FnScope N_apart_ways ["web", "begin", "goal"] (defScope s_apart_ways) := ⟨rfl, rfl, rfl, by decide +kernel, rfl, by decide +kernel, by decide +kernel⟩
def sp_apart_ways (C : Cn) : Sp := spT C (fun y : PairX => [dW y.x, .s (sg y.b), .s (sg y.g)]) PairOk (fun y d => ∃ ls : List D, ls.length = cutOf y.x y.b y.g ∧ d = .tup ls)
theorem has_apart_ways {P : Program} {w : World} {K : PySem.W.Frag} {mg : PySem.Str → Option Value} {base : Heap} {C : Cn} (T : Tx K mg C.cls) : Has P w K mg base 7 "apart_ways" ["web", "begin", "goal"] (sp_apart_ways C) := by
  refine fn_has T 48 (d := d_apart_ways) rfl rfl (N := N_apart_ways) sc_apart_ways rfl rfl (fun _ _ _ _ _ _ us hl => match us, hl with | [_, _, _], _ => rfl) (fun _ => rfl) (fun cdv A' outer s H E hr => ⟨_, (pss_cons (ps_set (i := 3) sc_apart_ways.nd rfl (.inl rfl) (pe_ix (k_ix_tup (K := K) rfl) (pe_has (has_carried_by T) (hr.mono (by decide)) (by rfl) (pa_cons (pv 0) (pa_cons (pe_has (has_ones T) (hr.mono (by decide)) (by rfl) (pa_cons (pv 0) pa_nil)) (pa_cons (pv 1) (pa_cons (pv 2) pa_nil))))) pe_int (fun _ _ => rfl)))
      (pss_cons (ps_setLc (i := 4) (own := [("tie", 8), ("number", 9)]) (g := gTup K 2 (gCons (gName 8) (gCons (gName 9) gNil))) (tt := tYes) rfl sc_apart_ways.nd rfl rfl (sw_true rfl rfl rfl (by decide +kernel)) (k_pi_zip (K := K) rfl (by rfl) T.xzip (pa_cons (k_pe_fld (K := K) rfl (pv 0) rfl) (pa_cons (pv 3) pa_nil))) (blkOk_by (own := [("tie", 8), ("number", 9)]) (N := N_apart_ways) (sc := defScope s_apart_ways) (by decide +kernel)) (fun _ _ _ _ _ => (pg_tup rfl (pgs_cons (pg_name (i := 8) sc_apart_ways.nd rfl (.inl rfl)) (pgs_cons (pg_name (i := 9) sc_apart_ways.nd rfl (.inl rfl)) pgs_nil)))) (fun _ _ _ _ _ => pts_nil) (fun _ _ _ _ _ => (pe_ifExp (pt_cmpR op_ge (pv 9) pe_int (nomark _)) (pv 8) (pe_revS (pv 8)))))
      (pss_cons (ps_par (i := 5) (j := 6) rfl sc_apart_ways.nd rfl rfl (by decide) rfl rfl (pa_cons (pe_lc (own := [("index", 10), ("number", 9)]) (g := gTup K 2 (gCons (gName 10) (gCons (gName 9) gNil))) rfl sc_apart_ways.nd (k_pi_enumT (K := K) rfl (by rfl) T.xenumerate (pa_cons (pv 3) pa_nil)) (blkOk_by (own := [("index", 10), ("number", 9)]) (N := N_apart_ways) (sc := defScope s_apart_ways) (by decide +kernel)) (fun _ _ _ _ _ => (pg_tup rfl (pgs_cons (pg_name (i := 10) sc_apart_ways.nd rfl (.inl rfl)) (pgs_cons (pg_name (i := 9) sc_apart_ways.nd rfl (.inl rfl)) pgs_nil)))) (fun _ _ _ _ _ => (pts_one (pt_cmpR op_ne (pv 9) pe_int (nomark _)))) (fun _ _ _ _ _ => (pv 10))) (pa_cons (pe_lst pa_nil) pa_nil)) (by rfl))
      (pss_cons (ps_for PassesOwn.never rfl (pi_range1 (by rfl) T.xrange (pa_cons (pe_has (has_apart_counted T) (hr.mono (by decide)) (by rfl) (pa_cons (pv 0) (pa_cons (pv 1) (pa_cons (pv 2) pa_nil)))) pa_nil)) (pg_name (i := 7) sc_apart_ways.nd rfl (.inl rfl)) (pss_one (ps_expr (k_pe_bm (K := K) rfl PySem.F.plainAttrs_list PySem.F.slot_list_append PySem.F.type_list_append mt_append (pv 6) (pa_cons (pe_callTy (k_call_tup (K := K) rfl) (by rfl) T.xtuple bt_tuple (pa_cons (pe_callB (k_call_sort (K := K) hr.units rfl) (by rfl) T.xsorted bt_sorted (pa_cons (pe_has (has_line_along T) (hr.mono (by decide)) (by rfl) (pa_cons (pv 4) (pa_cons (pv 5) (pa_cons (pv 1) (pa_cons (pv 2) pa_nil))))) pa_nil)) pa_nil)) pa_nil)))))
      (pss_one (ps_ret (pe_callTy (k_call_tup (K := K) rfl) (by rfl) T.xtuple bt_tuple (pa_cons (pv 6) pa_nil)))))))), fun x hx => ?_⟩)
  obtain ⟨x, b, g⟩ := x
  have hx : PairOk ⟨x, b, g⟩ := hx
  have nt : x.2.length ≤ 7 := hx.ok.nt
  show SD C _ ⟨[], [.im (dW x), .im (.s (sg b)), .im (.s (sg g)), .no, .no, .no, .no, .no, .no, .no, .no]⟩ _ _
  refine sq_asgR (P := fun d => ∃ nets S v, CarOk x b g nets S v ∧ d = .tup (dI nets)) (ev_op (R1 := fun d => ∃ nets S v, CarOk x b g nets S v ∧ d = .tup [.tup (dI nets), .s (st S)]) (R2 := (· = .i 0)) (ev_callD ⟨x, b, g⟩ (ea_c (ev_v rfl) (ea_c (ev_callD (R := (· = dOnes x.2.length)) x (ea1 (ev_v rfl)) (by show x.2.length < 1000; omega) fun _ h => h) (ea2 (ev_v rfl) (ev_v rfl)))) hx fun _ h => h) ev_c fun d e ⟨nets, S, v, car, h1⟩ h2 => ?_) fun d hd => ?_
  · subst h1 h2
    exact rr_ixT rfl ⟨nets, S, v, car, rfl⟩
  obtain ⟨nets, S, v, car, rfl⟩ := hd
  obtain ⟨l1, l2, l3, l4⟩ := lin_of car nt
  have hv : cutOf x b g = v := (cut_is x hx.ne).uniq car.cut
  have hv7 : v ≤ 7 := by
    rw [← car.wid]
    exact Nat.le_trans (List.length_filter_le ..) (by rw [List.length_range]; exact nt)
  have hz : zipD (x.2.map fun t => D.s (tS t)) (dI nets) = (List.range x.2.length).map fun i => D.tup [.s (tS (tieAt x i)), .i (nets.getD i 0)] := by
    apply List.ext_getElem?
    intro i
    unfold zipD dI
    rw [List.getElem?_map, List.getElem?_map]
    by_cases h : i < x.2.length
    · rw [List.getElem?_range h]
      have : ((x.2.map fun t => D.s (tS t)).zip (nets.map fun x => D.v (.int x)))[i]? = some (D.s (tS (tieAt x i)), D.i (nets.getD i 0)) := by
        rw [List.getElem?_zip_eq_some]
        refine ⟨by rw [List.getElem?_map, tieAt_get h]; rfl, ?_⟩
        rw [List.getElem?_map, List.getElem?_eq_getElem (by rw [car.len]; exact h), List.getD_eq_getElem?_getD, List.getElem?_eq_getElem (by rw [car.len]; exact h)]
        rfl
      rw [this]
      rfl
    · rw [List.getElem?_eq_none (by rw [List.length_zip, List.length_map, List.length_map]; omega), List.getElem?_eq_none (by rw [List.length_range]; omega)]
      rfl
  refine sq_asg (d := .lst ((ptOf x nets).map fun t => D.s (tS t))) (EvR.to (EvF.dat (ev_map (C := C) (js := [8, 9]) (List.range x.2.length) (fun i => D.tup [.s (tS (tieAt x i)), .i (nets.getD i 0)]) (fun i => D.s (tS (if 0 ≤ nets.getD i 0 then tieAt x i else swp (tieAt x i)))) (fun i l => (l.set 8 (.im (.s (tS (tieAt x i))))).set 9 (.im (.i (nets.getD i 0)))) ((ei_zipT (ea2 (evw_ties T.cl T.nT (ev_v rfl)) (ev_v rfl))).to hz) (fun _ _ => eg_pair) (by rw [List.length_range]; omega) (fun i hi => ?_))) ?_) ?_
  · refine ev_if (b := decide (0 ≤ nets.getD i 0)) (et_test (ev_opD (ev_v rfl) ev_c rr_I0)) (fun h => ?_) (fun h => ?_)
    · rw [if_pos (of_decide_eq_true h)]
      exact ev_v rfl
    · rw [if_neg (of_decide_eq_false h)]
      exact ev_revS (a := (tieAt x i).1) (b := (tieAt x i).2) (ev_v rfl)
  · unfold ptOf
    rw [List.map_map]
    rfl
  have he : enumD (dI nets) = (List.range x.2.length).map fun i => D.tup [.i (i : Nat), .i (nets.getD i 0)] := by
    have := enumD_map (fun n : Int => D.i n) nets 0
    rw [car.len] at this
    exact this
  refine sq_parTwo (ds := dI (lfOf x nets)) (es := []) (EvF.to (ev_lc (C := C) (js := [10, 9]) (List.range x.2.length) (fun i => D.tup [.i (i : Nat), .i (nets.getD i 0)]) (fun i => !decide (nets.getD i 0 = 0)) (fun i => D.i (i : Nat)) (fun i l => (l.set 10 (.im (.i (i : Nat)))).set 9 (.im (.i (nets.getD i 0)))) ((ei_enumT (ea1 (ev_v rfl))).to he) (fun _ _ => eg_pair) (by rw [List.length_range]; omega) (fun i hi => et_test (ev_opD (ev_v rfl) ev_c rr_neI)) (fun i hi _ => ev_v rfl)) ?_) (ev_lst ea_nil) fun l q nl nq nlq => ?_
  · unfold lfOf dI
    rw [List.map_map]
    rfl
  refine sq_for (C := C) (js := [7]) (List.range v) (fun i => D.i (i : Nat)) (fun i s => s.set 7 (.im (.i (i : Nat)))) (fun i G => ∃ (lf : List Int) (fd : List D) (a : SV), lf.Nodup ∧ (∀ k ∈ lf, k ∈ lfOf x nets) ∧ lf.length ≤ 100 ∧ (∀ f : Nat → Int, lp f (ptOf x nets) lf = ((v : Int) - i) * (f b - f g)) ∧ fd.length = i ∧ G = ⟨[(q, .lst (fd.map .im)), (l, .lst ((dI lf).map .im))], [.im (dW x), .im (.s (sg b)), .im (.s (sg g)), .im (.tup (dI nets)), .im (.lst ((ptOf x nets).map fun t => D.s (tS t))), .ptr l, .ptr q, a, .no, .no, .no]⟩)
    ((ei_rng1 (n := (v : Int)) (ea1 (ev_callD (R := (· = .i (v : Nat))) ⟨x, b, g⟩ (ea3 (ev_v rfl) (ev_v rfl) (ev_v rfl)) hx fun d h => by rw [h]; show D.i ((cutOf x b g : Nat) : Int) = _; rw [hv])) (by omega)).to (by simp)) (fun _ _ => eg_name) ⟨lfOf x nets, [], .no, l2, fun k h => h, l4, fun f => by rw [l1 f]; simp, rfl, rfl⟩ ?_ ?_
  · rintro i i' G hi ⟨lf, fd, a, m1, m2, m3, m4, m5, rfl⟩
    have hiv : i < v := by
      have := (List.getElem?_eq_some_iff.mp hi).1
      rwa [List.length_range] at this
    have lok : LinOk ⟨ptOf x nets, lf, b, g, (v : Int) - i⟩ := ⟨m1, fun k hk => l3 k (m2 k hk), m3, m4, by show 1 ≤ (v : Int) - i; omega⟩
    refine sd_appM (l := q) (xs := fd.map .im) rfl (List.mem_cons_self ..) (em_cb1 (R := fun d G' => ∃ (ls ns : List Int), d = .tup (sortD (dI ls)) ∧ ns.Nodup ∧ (∀ k ∈ ns, k ∈ lf) ∧ (∀ f : Nat → Int, lp f (ptOf x nets) ns = ((v : Int) - i - 1) * (f b - f g)) ∧ ns.length ≤ 100 ∧ G' = ⟨[(q, .lst (fd.map .im)), (l, .lst ((dI ns).map .im))], [.im (dW x), .im (.s (sg b)), .im (.s (sg g)), .im (.tup (dI nets)), .im (.lst ((ptOf x nets).map fun t => D.s (tS t))), .ptr l, .ptr q, .im (.i (i' : Nat)), .no, .no, .no]⟩)
      (em_cb1 (R := fun d G' => ∃ (ls ns : List Int), d = .lst (sortD (dI ls)) ∧ ns.Nodup ∧ (∀ k ∈ ns, k ∈ lf) ∧ (∀ f : Nat → Int, lp f (ptOf x nets) ns = ((v : Int) - i - 1) * (f b - f g)) ∧ ns.length ≤ 100 ∧ G' = ⟨[(q, .lst (fd.map .im)), (l, .lst ((dI ns).map .im))], [.im (dW x), .im (.s (sg b)), .im (.s (sg g)), .im (.tup (dI nets)), .im (.lst ((ptOf x nets).map fun t => D.s (tS t))), .ptr l, .ptr q, .im (.i (i' : Nat)), .no, .no, .no]⟩)
        (em_callM ⟨ptOf x nets, lf, b, g, (v : Int) - i⟩ (es_im (ev_v rfl) (es_ptr rfl (es_im (ev_v rfl) (es_im (ev_v rfl) es_nil)))) (List.mem_cons_of_mem _ (List.mem_singleton.mpr rfl)) lok) fun d G' ⟨ns, ⟨ls, e1, e2, e3, e4, e5, e6⟩, hG⟩ => ?_) fun d G' ⟨ls, ns, e1, e3, e4, e5, e6, hG⟩ => ?_) (by rw [List.length_map]; omega) (fun d G' ⟨ls, ns, _, _, _, _, _, hG⟩ => by rw [hG]; exact List.mem_cons_self ..) (fun d G' ⟨ls, ns, hd, e3, e4, e5, e6, hG⟩ => ?_)
    · subst e1 hG
      refine CR.imp (CF.cr (cf_sort (shp_ints ls) (srt_ints ls))) fun d hd => ⟨ls, ns, hd, e3, e4, fun f => by rw [e5 f], e6, ?_⟩
      simp [En.put, En.up, Ne.symm nlq]
    · subst e1
      exact CR.imp cr_tup fun d hd => ⟨ls, ns, hd, e3, e4, e5, e6, hG⟩
    · subst hd hG
      refine ⟨ns, fd ++ [.tup (sortD (dI ls))], .im (.i (i' : Nat)), e3, fun k hk => m2 k (e4 k hk), e6, fun f => ?_, by rw [List.length_append, m5]; rfl, ?_⟩
      · rw [e5 f]
        congr 1
        omega
      · unfold En.put
        simp only [List.map_cons, List.map_nil, if_neg nlq, if_pos, List.map_append]
  · rintro G ⟨lf, fd, a, m1, m2, m3, m4, m5, rfl⟩
    rw [List.length_range] at m5
    refine sd_frz (l := q) (ds := fd) (List.mem_cons_self ..) (sd_ret (d := .tup fd) (ev_cbD (ea1 (ev_v (d := .lst fd) ?_)) cr_tup) ⟨fd, by rw [m5]; exact hv.symm, rfl⟩)
    rw [frz_de]
    show some (fz q fd (.ptr q)) = _
    rw [fz_eq]
abbrev N_apart : List PySem.Str := ["web", "place", "other_place"]
theorem sc_apart : FnScope N_apart ["web", "place", "other_place"] (defScope s_apart) := ⟨rfl, rfl, rfl, by decide +kernel, rfl, by decide +kernel, by decide +kernel⟩
def sp_apart (C : Cn) : Sp := spT C (fun y : PairX => [dW y.x, .s (sg y.b), .s (sg y.g)]) PairOk (fun y d => ∃ ls : List D, ls.length = cutOf y.x y.b y.g ∧ d = .tup ls)
theorem has_apart {P : Program} {w : World} {K : PySem.W.Frag} {mg : PySem.Str → Option Value} {base : Heap} {C : Cn} (T : Tx K mg C.cls) : Has P w K mg base 8 "apart" ["web", "place", "other_place"] (sp_apart C) := by
  refine fn_has T 56 (d := d_apart) rfl rfl (N := N_apart) sc_apart rfl rfl (fun _ _ _ _ _ _ us hl => match us, hl with | [_, _, _], _ => rfl) (fun _ => rfl) (fun cdv A' outer s H E hr => ⟨_, (pss_cons (ps_expr (pe_has (has_check_ends T) (hr.mono (by decide)) (by rfl) (pa_cons (pv 0) (pa_cons (pv 1) (pa_cons (pv 2) pa_nil)))))
      (pss_one (ps_ret (pe_has (has_apart_ways T) (hr.mono (by decide)) (by rfl) (pa_cons (pv 0) (pa_cons (pv 1) (pa_cons (pv 2) pa_nil))))))), fun x hx => ?_⟩)
  obtain ⟨x, b, g⟩ := x
  show SD C _ ⟨[], [.im (dW x), .im (.s (sg b)), .im (.s (sg g))]⟩ _ _
  refine sq_drop (P := fun _ => True) (ev_callD ⟨x, b, g⟩ (ea3 (ev_v rfl) (ev_v rfl) (ev_v rfl)) hx fun _ _ => trivial) ?_
  exact sd_retR (P := fun d => ∃ ls : List D, ls.length = cutOf x b g ∧ d = .tup ls) (ev_callD ⟨x, b, g⟩ (ea3 (ev_v rfl) (ev_v rfl) (ev_v rfl)) hx fun _ h => h) fun _ h => h
end Wr
set_option maxHeartbeats 4000000
namespace Wr
open PySem L2
/-! ### the law's draws -/
theorem RR.imp {C : Cn} {r : L2.R2} {x y : D} {R R' : D → Prop} (h : RR C r x y R) (i : ∀ d, R d → R' d) : RR C r x y R' := fun O H a b dm ha hb Q q => h O H a b dm ha hb Q fun d v H' hd => q d v H' (i d hd)
theorem ev_int1 {C : Cn} {G : En} {te : TE} {n : Int} (h : EvD C te G (.i n)) : EvD C (tCB (fun xs H Q => (∃ i, xs = [.int i] ∧ Q (.int i) H) ∨ ∃ k, xs = [.bl k] ∧ Q (.int (if k then 1 else 0)) H) (tCons te tNil)) G (.i n) := ev_cbD (ea1 h) (cr1 fun H Q q => .inl ⟨_, rfl, q⟩)
def BagOk (n : Nat) (ns : List Int) : Prop := ∃ a b c : Int, ns = [a, b, c] ∧ Sm 40 b ∧ 0 ≤ c ∧ c ≤ n
theorem BagOk.mono {n m : Nat} {ns : List Int} (h : BagOk n ns) (l : n ≤ m) : BagOk m ns := by
  obtain ⟨a, b, c, e, h1, h2, h3⟩ := h
  exact ⟨a, b, c, e, h1, h2, by omega⟩
structure DrawX where
  ns : List Int
  wide : Nat
  n : Nat
def bagG (l : Addr) (ns : List Int) (De : List SV) : En := ⟨[(l, .lst ((dI ns).map .im))], De⟩
theorem bag_at {l : Addr} {ns : List Int} {De : List SV} : (bagG l ns De).at l (.lst ((dI ns).map .im)) := List.mem_singleton.mpr rfl
abbrev N_law_draw : List PySem.Str := ["_law_bag_here", "_law_wide", "_law_figure", "_law_kept", "_law_times"]
theorem sc_law_draw : FnScope N_law_draw ["_law_bag_here", "_law_wide"] (defScope s_law_draw) := ⟨rfl, rfl, rfl, by decide +kernel, rfl, by decide +kernel, by decide +kernel⟩
def sp_law_draw (C : Cn) : Sp := spM C (fun (x : DrawX) l => [.ptr l, .im (.i x.wide)]) (fun x => x.ns) (fun x => BagOk x.n x.ns ∧ x.n ≤ 1000 ∧ 1 ≤ x.wide ∧ x.wide ≤ 1000)
  (fun x d ns => ∃ r : Nat, r < x.wide ∧ d = .i r ∧ BagOk (x.n + 1) ns)
theorem sm_add {k : Nat} {x y : Int} (h : Sm k x) (h' : Sm k y) : Sm (k + 1) (x + y) := by
  unfold Sm at *
  rw [Nat.pow_succ]
  omega
theorem sm_mod {x m : Int} (hm : 0 < m) {k : Nat} (h : Sm k m) : Sm k (x % m) := by
  unfold Sm at *
  have h1 := Int.emod_nonneg x (by omega : m ≠ 0)
  have h2 := Int.emod_lt_of_pos x hm
  omega
theorem sm_lit {k : Nat} {x : Int} (h : x.natAbs < 2 ^ k) : Sm k x := h
theorem put_bag {l : Addr} {ns : List Int} {De : List SV} {x : OO} : (bagG l ns De).put l x = ⟨[(l, x)], De⟩ := put_one
theorem has_law_draw {P : Program} {w : World} {K : PySem.W.Frag} {mg : PySem.Str → Option Value} {base : Heap} {C : Cn} (T : Tx K mg C.cls) : Has P w K mg base 1 "_law_draw" ["_law_bag_here", "_law_wide"] (sp_law_draw C) := by
  refine fn_hasS T 75 (d := d_law_draw) rfl rfl (N := N_law_draw) sc_law_draw rfl rfl (fun _ _ _ _ _ _ us hl => match us, hl with | [_, _], _ => rfl) (spM_len fun _ _ => rfl) (fun cdv A' outer s H E hr => ⟨_, (pss_cons (ps_asg (pe_op op_add (pe_ix (k_ix_list (K := K) rfl) (pv 0) pe_int (fun _ _ => rfl)) pe_int) (pg_sub (pv 0) pe_int set_list))
      (pss_cons (ps_if (pt_cmpR op_gt (pe_ix (k_ix_list (K := K) rfl) (pv 0) pe_int (fun _ _ => rfl)) pe_int (nomark _)) (pss_cons (ps_set (i := 2) sc_law_draw.nd rfl (.inl rfl) (pe_op op_mod (pe_callTy call_int1 (by rfl) T.xint bt_int (pa_cons (pe_ix (k_ix_list (K := K) rfl) (pv 0) pe_int (fun _ _ => rfl)) pa_nil)) (pv 1)))
      (pss_cons (ps_asg (pe_op op_fdivWN (pe_ix (k_ix_list (K := K) rfl) (pv 0) pe_int (fun _ _ => rfl)) (pv 1)) (pg_sub (pv 0) pe_int set_list))
      (pss_one (ps_ret (pv 2))))) pss_nil)
      (pss_cons (ps_set (i := 3) sc_law_draw.nd rfl (.inl rfl) (pe_op op_add (pe_callTy call_int1 (by rfl) T.xint bt_int (pa_cons (pe_ix (k_ix_list (K := K) rfl) (pv 0) pe_int (fun _ _ => rfl)) pa_nil)) (pe_op op_mulW pe_int (pe_ix (k_ix_list (K := K) rfl) (pv 0) pe_int (fun _ _ => rfl)))))
      (pss_cons (ps_set (i := 4) sc_law_draw.nd rfl (.inl rfl) (pe_op op_add (pe_op op_mod (pe_callTy call_int1 (by rfl) T.xint bt_int (pa_cons (pv 3) pa_nil)) pe_int) pe_int))
      (pss_cons (ps_asg (pe_op op_mod (pe_callTy call_int1 (by rfl) T.xint bt_int (pa_cons (pe_op op_add (pe_op op_add (pe_op op_mulW (pv 3) (pv 4)) (pe_op op_mulW pe_int (pe_ix (k_ix_list (K := K) rfl) (pv 0) pe_int (fun _ _ => rfl)))) pe_int) pa_nil)) pe_int) (pg_sub (pv 0) pe_int set_list))
      (pss_one (ps_ret (pe_op op_mod (pe_op op_fdivWN (pe_callTy call_int1 (by rfl) T.xint bt_int (pa_cons (pe_ix (k_ix_list (K := K) rfl) (pv 0) pe_int (fun _ _ => rfl)) pa_nil)) pe_int) (pv 1))))))))), fun vs Q E' h => spM_run (fun x l hx => ?_) vs H Q E' h⟩)
  obtain ⟨ns, wide, n⟩ := x
  obtain ⟨⟨a, b, c, e, hb, hc0, hc1⟩, hn, hw1, hw2⟩ := hx
  simp only at e hb hc0 hc1 hn hw1 hw2
  subst e
  show SD C _ (bagG l [a, b, c] [.ptr l, .im (.i wide), .no, .no, .no]) _ _
  have cs : Sm 20 (c + 1) := by
    unfold Sm
    have : (c + 1).natAbs ≤ 1001 := by omega
    exact Nat.lt_of_le_of_lt this (by decide)
  refine sd_seq1 (G1 := bagG l [a, b, c + 1] [.ptr l, .im (.i wide), .no, .no, .no]) (sd_setitem (P := (· = D.i (c + 1))) (l := l) (xs := (dI [a, b, c]).map .im) (j := 2) rfl bag_at (ev_add (ev_ixO (j := 2) rfl bag_at ev_c rfl) ev_c) ev_c (by simp [dI]) fun d hd => by rw [hd, put_bag]; rfl) ?_
  refine sq_if (b := decide (0 < a)) (M := fun G => decide (0 < a) = false ∧ G = bagG l [a, b, c + 1] [.ptr l, .im (.i wide), .no, .no, .no]) (et_test (ev_opD (ev_ixO (j := 0) rfl bag_at ev_c rfl) ev_c rr_gt)) (fun h => ?_) (fun h => ⟨h, rfl⟩) ?_
  · have hwp : (0 : Int) < wide := by omega
    have hr1 := Int.emod_nonneg a (by omega : (wide : Int) ≠ 0)
    have hr2 := Int.emod_lt_of_pos a hwp
    refine sq_asg (d := .i (a % wide)) (ev_opD (ev_int1 (ev_ixO (j := 0) rfl bag_at ev_c rfl)) (ev_v rfl) (rr_mod hwp)) ?_
    refine sd_seq1 (G1 := bagG l [a.fdiv wide, b, c + 1] [.ptr l, .im (.i wide), .im (.i (a % wide)), .no, .no]) (sd_setitem (P := (· = D.i (a.fdiv wide))) (l := l) (xs := (dI [a, b, c + 1]).map .im) (j := 0) rfl (List.mem_singleton.mpr rfl) (ev_opD (ev_ixO (j := 0) rfl (List.mem_singleton.mpr rfl) ev_c rfl) (ev_v rfl) (rr_fdiv ⟨by omega, ?_⟩)) ev_c (by simp [dI]) fun d hd => by rw [hd]; exact put_one) ?_
    · exact lg_lt (k := 9000) (Nat.lt_of_le_of_lt (show (wide : Int).natAbs ≤ 1000 by omega) (Nat.lt_of_lt_of_le (by decide : 1000 < 2 ^ 10) (Nat.pow_le_pow_right (by decide) (by decide)))) (by decide)
    · refine sd_ret (d := .i (a % wide)) (ev_v rfl) ⟨[a.fdiv wide, b, c + 1], ⟨(a % wide).toNat, ?_, ?_, ⟨_, _, _, rfl, hb, by omega, ?_⟩⟩, bag_at⟩
      · show (a % (wide : Int)).toNat < wide
        omega
      · have : (((a % (wide : Int)).toNat : Nat) : Int) = a % wide := by omega
        rw [this]
      · show c + 1 ≤ ((n + 1 : Nat) : Int)
        omega
  · rintro G ⟨_, rfl⟩
    have k1 : Sm 41 (73009 * (c + 1)) := ((sm_lit (k := 21) (by decide) : Sm 21 73009).mul cs).mono (by decide)
    refine sq_asg (d := .i (b + 73009 * (c + 1))) (ev_add (ev_int1 (ev_ixO (j := 1) rfl bag_at ev_c rfl)) (ev_opD ev_c (ev_ixO (j := 2) rfl bag_at ev_c rfl) (rr_mulW ((sm_lit (k := 21) (by decide) : Sm 21 73009).cmul cs (by decide))))) ?_
    have kk : Sm 42 (b + 73009 * (c + 1)) := sm_add (hb.mono (by decide)) k1
    generalize hkept : b + 73009 * (c + 1) = kept at kk
    refine sq_asg (d := .i (kept % 68041 + 57037)) (ev_add (ev_opD (ev_int1 (ev_v rfl)) ev_c (rr_mod (by decide))) ev_c) ?_
    have kt : Sm 21 (kept % 68041 + 57037) := sm_add (sm_mod (by decide) (sm_lit (k := 20) (by decide))) (sm_lit (k := 20) (by decide))
    generalize htimes : kept % 68041 + 57037 = tm at kt
    refine sd_seq1 (G1 := bagG l [a, (kept * tm + 11 * (c + 1) + 19) % 2147483549, c + 1] [.ptr l, .im (.i wide), .no, .im (.i kept), .im (.i tm)]) (sd_setitem (P := (· = D.i ((kept * tm + 11 * (c + 1) + 19) % 2147483549))) (l := l) (xs := (dI [a, b, c + 1]).map .im) (j := 1) rfl (List.mem_singleton.mpr rfl)
      (ev_opD (ev_int1 (ev_add (ev_add (ev_opD (ev_v rfl) (ev_v rfl) (rr_mulW (kk.cmul kt (by decide)))) (ev_opD ev_c (ev_ixO (j := 2) rfl (List.mem_singleton.mpr rfl) ev_c rfl) (rr_mulW ((sm_lit (k := 5) (by decide) : Sm 5 11).cmul cs (by decide))))) ev_c)) ev_c (rr_mod (by decide))) ev_c (by simp [dI]) fun d hd => by rw [hd]; exact put_one) ?_
    have kb : Sm 40 ((kept * tm + 11 * (c + 1) + 19) % 2147483549) := sm_mod (by decide) (sm_lit (by decide))
    generalize (kept * tm + 11 * (c + 1) + 19) % 2147483549 = b' at kb
    have hwp : (0 : Int) < wide := by omega
    have hr1 := Int.emod_nonneg (b'.fdiv 509) (by omega : (wide : Int) ≠ 0)
    have hr2 := Int.emod_lt_of_pos (b'.fdiv 509) hwp
    refine sd_ret (d := .i ((b'.fdiv 509) % wide)) (ev_opD (ev_opD (ev_int1 (ev_ixO (j := 1) rfl bag_at ev_c rfl)) ev_c (rr_fdiv ⟨by decide, by decide +kernel⟩)) (ev_v rfl) (rr_mod hwp)) ⟨[a, b', c + 1], ⟨((b'.fdiv 509) % wide).toNat, ?_, ?_, ⟨_, _, _, rfl, kb, by omega, ?_⟩⟩, bag_at⟩
    · show ((b'.fdiv 509) % (wide : Int)).toNat < wide
      omega
    · have : ((((b'.fdiv 509) % (wide : Int)).toNat : Nat) : Int) = (b'.fdiv 509) % wide := by omega
      rw [this]
    · show c + 1 ≤ ((n + 1 : Nat) : Int)
      omega
structure OneX where
  ns : List Int
  pl : List Nat
  n : Nat
abbrev N_law_one : List PySem.Str := ["_law_bag_here", "_law_some"]
theorem sc_law_one : FnScope N_law_one ["_law_bag_here", "_law_some"] (defScope s_law_one) := ⟨rfl, rfl, rfl, by decide +kernel, rfl, by decide +kernel, by decide +kernel⟩
def sp_law_one (C : Cn) : Sp := spM C (fun (x : OneX) l => [.ptr l, .im (.s (st x.pl))]) (fun x => x.ns) (fun x => BagOk x.n x.ns ∧ x.n ≤ 1000 ∧ 1 ≤ x.pl.length ∧ x.pl.length ≤ 1000)
  (fun x d ns => ∃ c ∈ x.pl, d = .s (sg c) ∧ BagOk (x.n + 1) ns)
theorem has_law_one {P : Program} {w : World} {K : PySem.W.Frag} {mg : PySem.Str → Option Value} {base : Heap} {C : Cn} (T : Tx K mg C.cls) : Has P w K mg base 3 "_law_one" ["_law_bag_here", "_law_some"] (sp_law_one C) := by
  refine fn_hasS T 76 (d := d_law_one) rfl rfl (N := N_law_one) sc_law_one rfl rfl (fun _ _ _ _ _ _ us hl => match us, hl with | [_, _], _ => rfl) (spM_len fun _ _ => rfl) (fun cdv A' outer s H E hr => ⟨_, (pss_one (ps_ret (pe_ix ix_str (pv 1) (pe_has (has_law_draw T) (hr.mono (by decide)) (by rfl) (pa_cons (pv 0) (pa_cons (pe_callB (k_call_len (K := K) rfl) (by rfl) T.xlen bt_len (pa_cons (pv 1) pa_nil)) pa_nil))) (fun _ _ => rfl)))), fun vs Q E' h => spM_run (fun x l hx => ?_) vs H Q E' h⟩)
  obtain ⟨ns, pl, n⟩ := x
  obtain ⟨hb, hn, h1, h2⟩ := hx
  simp only at hb hn h1 h2
  show SD C _ (bagG l ns [.ptr l, .im (.s (st pl))]) _ _
  refine (sd_retM (N := fun _ => False) (em_op (Rb := fun _ d G' => ∃ r ns', r < pl.length ∧ d = D.i (r : Nat) ∧ BagOk (n + 1) ns' ∧ G' = bagG l ns' [.ptr l, .im (.s (st pl))]) (em_of (ev_v (d := .s (st pl)) rfl)) (fun x G' hG => ?_) (fun x y G1 G2 hx' hy => ?_))).imp (fun _ z => z.elim) fun _ _ z => z
  · obtain ⟨_, rfl⟩ := hG
    refine (em_callM (⟨ns, pl.length, n⟩ : DrawX) (es_ptr rfl (es_im (EvR.to (ev_lenS (by rw [st_len]; omega) (ev_v rfl)) (by rw [st_len])) es_nil)) bag_at ⟨hb, hn, h1, h2⟩).imp fun d G' ⟨ns', ⟨r, hr, hd, hb'⟩, hG⟩ => ⟨r, ns', hr, hd, hb', by rw [hG, put_bag]; rfl⟩
  · obtain ⟨rfl, rfl⟩ := hx'
    obtain ⟨r, ns', hr, rfl, hb', rfl⟩ := hy
    have hc : pl[r]? = some pl[r] := List.getElem?_eq_getElem hr
    refine RR.imp (rr_ixS (c := pl[r]) (by rw [st_len]; omega) (by rw [st_toList]; exact atI_n hc)) fun d hd => ⟨ns', ⟨pl[r], List.getElem_mem hr, hd, hb'⟩, bag_at⟩
end Wr
set_option maxHeartbeats 4000000
namespace Wr
open PySem L2
/-! ### the law's webs -/
theorem ev_min2 {C : Cn} {G : En} {ta tb : TE} {a b : Nat} (h1 : EvD C ta G (.s (sg a))) (h2 : EvD C tb G (.s (sg b))) : EvD C (tCB (fun xs H Q => ∃ i j : PySem.Str, xs = [.str i, .str j] ∧ Q (.str (if j.cps.toList < i.cps.toList then j else i)) H) (tCons ta (tCons tb tNil))) G (.s (sg (min a b))) :=
  EvR.to (ev_cbD (ea2 h1 h2) (cr2 fun H Q q => ⟨_, _, rfl, q⟩)) (by
    show D.s (if (st [b]).cps.toList < (st [a]).cps.toList then sg b else sg a) = _
    rw [st_toList, st_toList]
    by_cases h : b < a
    · rw [if_pos (show [b] < [a] from List.Lex.rel h), Nat.min_eq_right (by omega)]
    · rw [if_neg, Nat.min_eq_left (by omega)]
      intro z
      rcases List.cons_lt_cons_iff.mp z with z | ⟨_, z⟩
      · exact h z
      · exact absurd z (List.not_lt_nil _))
theorem ev_max2 {C : Cn} {G : En} {ta tb : TE} {a b : Nat} (h1 : EvD C ta G (.s (sg a))) (h2 : EvD C tb G (.s (sg b))) : EvD C (tCB (fun xs H Q => ∃ i j : PySem.Str, xs = [.str i, .str j] ∧ Q (.str (if i.cps.toList < j.cps.toList then j else i)) H) (tCons ta (tCons tb tNil))) G (.s (sg (max a b))) :=
  EvR.to (ev_cbD (ea2 h1 h2) (cr2 fun H Q q => ⟨_, _, rfl, q⟩)) (by
    show D.s (if (st [a]).cps.toList < (st [b]).cps.toList then sg b else sg a) = _
    rw [st_toList, st_toList]
    by_cases h : a < b
    · rw [if_pos (show [a] < [b] from List.Lex.rel h), Nat.max_eq_right (by omega)]
    · rw [if_neg, Nat.max_eq_left (by omega)]
      intro z
      rcases List.cons_lt_cons_iff.mp z with z | ⟨_, z⟩
      · exact h z
      · exact absurd z (List.not_lt_nil _))
structure BagX where
  ns : List Int
  n : Nat
def dPts (y : W) : D := .lst [.s (st y.1), .tup (y.2.map fun t => D.s (tS t))]
abbrev N_law_web : List PySem.Str := ["_law_bag_here", "_law_most", "_law_many", "_law_loops", "_law_places", "_law_ties", "_law_turn", "_law_one_here", "_law_other"]
theorem sc_law_web : FnScope N_law_web ["_law_bag_here", "_law_most", "_law_many", "_law_loops"] (defScope s_law_web) := ⟨rfl, rfl, rfl, by decide +kernel, rfl, by decide +kernel, by decide +kernel⟩
def sp_law_web (C : Cn) : Sp := spM C (fun (x : BagX) l => [.ptr l, .im (.i 5), .im (.i 7), .im (.b true)]) (fun x => x.ns) (fun x => BagOk x.n x.ns ∧ x.n ≤ 100)
  (fun x d ns => ∃ y : W, WOk y ∧ d = dPts y)
theorem abc7 {r : Nat} (h : r < 5) : cutS ("abcdefg" : PySem.Str) none (some (1 + (r : Int))) = st (letters (1 + r)) := by
  have : ∀ r ∈ List.range 5, cutS ("abcdefg" : PySem.Str) none (some (1 + (r : Int))) = st (letters (1 + r)) := by decide +kernel
  exact this r (List.mem_range.mpr h)
theorem has_law_web {P : Program} {w : World} {K : PySem.W.Frag} {mg : PySem.Str → Option Value} {base : Heap} {C : Cn} (T : Tx K mg C.cls) : Has P w K mg base 4 "_law_web" ["_law_bag_here", "_law_most", "_law_many", "_law_loops"] (sp_law_web C) := by
  refine fn_hasS T 77 (d := d_law_web) rfl rfl (N := N_law_web) sc_law_web rfl rfl (fun _ _ _ _ _ _ us hl => match us, hl with | [_, _, _, _], _ => rfl) (spM_len fun _ _ => rfl) (fun cdv A' outer s H E hr => ⟨_, (pss_cons (ps_set (i := 4) sc_law_web.nd rfl (.inl rfl) (pe_slice sl_str pe_str po_none (po_some (pe_op op_add pe_int (pe_has (has_law_draw T) (hr.mono (by decide)) (by rfl) (pa_cons (pv 0) (pa_cons (pv 1) pa_nil)))))))
      (pss_cons (ps_set (i := 5) sc_law_web.nd rfl (.inl rfl) (pe_tup pa_nil))
      (pss_cons (ps_for PassesOwn.never rfl (pi_range1 (by rfl) T.xrange (pa_cons (pe_has (has_law_draw T) (hr.mono (by decide)) (by rfl) (pa_cons (pv 0) (pa_cons (pe_op op_add (pv 2) pe_int) pa_nil))) pa_nil)) (pg_name (i := 6) sc_law_web.nd rfl (.inl rfl)) (pss_cons (ps_par (i := 7) (j := 8) rfl sc_law_web.nd rfl rfl (by decide) rfl rfl (pa_cons (pe_has (has_law_one T) (hr.mono (by decide)) (by rfl) (pa_cons (pv 0) (pa_cons (pv 4) pa_nil))) (pa_cons (pe_has (has_law_one T) (hr.mono (by decide)) (by rfl) (pa_cons (pv 0) (pa_cons (pv 4) pa_nil))) pa_nil)) (by rfl))
      (pss_one (ps_if (PW.pt (pw_or (pt_cmpR op_ne (pv 7) (pv 8) (nomark _)) (pw_or1 (PW.pt (pw_and (pt_val (pv 3)) (pw_and1 (pt_cmpR op_eq (pe_has (has_law_draw T) (hr.mono (by decide)) (by rfl) (pa_cons (pv 0) (pa_cons pe_int pa_nil))) pe_int (nomark _)))))))) (pss_one (ps_set (i := 5) sc_law_web.nd rfl (.inl rfl) (pe_op (k_op_catA (K := K) rfl) (pv 5) (pe_tup (pa_cons (pe_op op_add_str (pe_callB (call_minS rfl) (by rfl) T.xmin bt_min (pa_cons (pv 7) (pa_cons (pv 8) pa_nil))) (pe_callB (call_maxS rfl) (by rfl) T.xmax bt_max (pa_cons (pv 7) (pa_cons (pv 8) pa_nil)))) pa_nil))))) pss_nil))))
      (pss_one (ps_ret (pe_lst (pa_cons (pv 4) (pa_cons (pv 5) pa_nil)))))))), fun vs Q E' h => spM_run (fun x l hx => ?_) vs H Q E' h⟩)
  obtain ⟨ns, n⟩ := x
  obtain ⟨hb, hn⟩ := hx
  simp only at hb hn
  show SD C _ (bagG l ns [.ptr l, .im (.i 5), .im (.i 7), .im (.b true), .no, .no, .no, .no, .no]) _ _
  refine sd_hoist (fun te => tSeq (tAsg (tSl rSlS (tC (.str "abcdefg")) tNoPart (tPart (tOp (rI0 fun i j => .int (i + j)) (tC (.int 1)) te))) (gName 4)) _) (fun _ _ _ _ => rfl) (RV := fun v G' => ∃ (r : Nat) (ns' : List Int), v = .int r ∧ r < 5 ∧ BagOk (n + 1) ns' ∧ G' = bagG l ns' [.ptr l, .im (.i 5), .im (.i 7), .im (.b true), .no, .no, .no, .no, .no])
    ((em_callM (⟨ns, 5, n⟩ : DrawX) (es_ptr rfl (es_im (ev_v rfl) es_nil)) bag_at ⟨hb, by simp only; omega, by simp only; omega, by simp only; omega⟩).imp fun d G' ⟨ns', ⟨r, hr, hd, hb'⟩, hG⟩ => ⟨_, hd, r, ns', rfl, hr, hb', by rw [hG, put_bag]; rfl⟩) ?_
  rintro v G' ⟨r, ns, rfl, hr, hb, rfl⟩
  refine sq_asg (d := .s (st (letters (1 + r)))) (EvR.to (ev_slS (by decide) ev_c eo_no (eo_i (ev_add ev_c ev_c))) (by rw [← abc7 hr])) ?_
  refine sq_asg (d := .tup []) (ev_tupD ea_nil) ?_
  have hlen : (letters (1 + r)).length = 1 + r := by unfold letters; rw [List.length_map, List.length_range]
  refine sd_hoist (fun te => tSeq (tFor (iRng1 (tCons te tNil)) (gName 6) _) _) (fun _ _ _ _ => rfl) (RV := fun v G' => ∃ (q : Nat) (ns' : List Int), v = .int q ∧ q < 8 ∧ BagOk (n + 2) ns' ∧ G' = bagG l ns' [.ptr l, .im (.i 5), .im (.i 7), .im (.b true), .im (.s (st (letters (1 + r)))), .im (.tup []), .no, .no, .no])
    ((em_callM (⟨ns, 8, n + 1⟩ : DrawX) (es_ptr rfl (es_im (EvR.to (d := .i (7 + 1)) (d' := .i ((8 : Nat) : Int)) (ev_add (ev_v rfl) ev_c) rfl) es_nil)) bag_at ⟨hb, by simp only; omega, by simp only; omega, by simp only; omega⟩).imp fun d G' ⟨ns', ⟨r, hr, hd, hb'⟩, hG⟩ => ⟨_, hd, r, ns', rfl, hr, hb', by rw [hG, put_bag]; rfl⟩) ?_
  rintro v G' ⟨q, ns, rfl, hq, hb, rfl⟩
  refine sq_for (C := C) (js := [6]) (List.range q) (fun i => D.i (i : Nat)) (fun i s => s.set 6 (.im (.i (i : Nat)))) (fun i G => ∃ (ns : List Int) (ts : List Tie) (a b c : SV), BagOk (n + 2 + 3 * i) ns ∧ (∀ t ∈ ts, t.1 ∈ letters (1 + r) ∧ t.2 ∈ letters (1 + r) ∧ t.1 ≤ t.2) ∧ ts.length ≤ i ∧ G = bagG l ns [.ptr l, .im (.i 5), .im (.i 7), .im (.b true), .im (.s (st (letters (1 + r)))), .im (.tup (ts.map fun t => D.s (tS t))), a, b, c])
    ((ei_rng1 (n := (q : Int)) (ea1 ev_c) (by omega)).to (by simp)) (fun _ _ => eg_name) ⟨ns, [], .no, .no, .no, hb, by simp, Nat.le_refl _, rfl⟩ ?_ ?_
  · rintro i i' G hi ⟨ns, ts, a, b, c, m1, m2, m3, rfl⟩
    have hiq : i < q := by
      have := (List.getElem?_eq_some_iff.mp hi).1
      rwa [List.length_range] at this
    show SD C _ (bagG l ns [.ptr l, .im (.i 5), .im (.i 7), .im (.b true), .im (.s (st (letters (1 + r)))), .im (.tup (ts.map fun t => D.s (tS t))), .im (.i (i' : Nat)), b, c]) _ _
    refine sd_hoist (fun te => tSeq (tPar 7 8 (tCons te _)) _) (fun _ _ _ _ => rfl) (RV := fun v G' => ∃ (x : Nat) (ns' : List Int), v = .str (sg x) ∧ x ∈ letters (1 + r) ∧ BagOk (n + 2 + 3 * i + 1) ns' ∧ G' = bagG l ns' [.ptr l, .im (.i 5), .im (.i 7), .im (.b true), .im (.s (st (letters (1 + r)))), .im (.tup (ts.map fun t => D.s (tS t))), .im (.i (i' : Nat)), b, c])
      ((em_callM (⟨ns, letters (1 + r), n + 2 + 3 * i⟩ : OneX) (es_ptr rfl (es_im (ev_v rfl) es_nil)) bag_at ⟨m1, by simp only; omega, by simp only; omega, by simp only; omega⟩).imp fun d G' ⟨ns', ⟨r, hr, hd, hb'⟩, hG⟩ => ⟨_, hd, r, ns', rfl, hr, hb', by rw [hG, put_bag]; rfl⟩) ?_
    rintro v G' ⟨x, ns, rfl, hx, m1, rfl⟩
    refine sd_hoist (fun te => tSeq (tPar 7 8 (tCons (tC (.str (sg x))) (tCons te tNil))) _) (fun _ _ _ _ => rfl) (RV := fun v G' => ∃ (y : Nat) (ns' : List Int), v = .str (sg y) ∧ y ∈ letters (1 + r) ∧ BagOk (n + 2 + 3 * i + 2) ns' ∧ G' = bagG l ns' [.ptr l, .im (.i 5), .im (.i 7), .im (.b true), .im (.s (st (letters (1 + r)))), .im (.tup (ts.map fun t => D.s (tS t))), .im (.i (i' : Nat)), b, c])
      ((em_callM (⟨ns, letters (1 + r), n + 2 + 3 * i + 1⟩ : OneX) (es_ptr rfl (es_im (ev_v rfl) es_nil)) bag_at ⟨m1, by simp only; omega, by simp only; omega, by simp only; omega⟩).imp fun d G' ⟨ns', ⟨r, hr, hd, hb'⟩, hG⟩ => ⟨_, hd, r, ns', rfl, hr, hb', by rw [hG, put_bag]; rfl⟩) ?_
    rintro v G' ⟨y, ns, rfl, hy, m1, rfl⟩
    refine sq_par (ea2 ev_c ev_c) ?_
    show SD C _ (bagG l ns [.ptr l, .im (.i 5), .im (.i 7), .im (.b true), .im (.s (st (letters (1 + r)))), .im (.tup (ts.map fun t => D.s (tS t))), .im (.i (i' : Nat)), .im (.s (sg x)), .im (.s (sg y))]) _ _
    have done : ∀ ns', BagOk (n + 2 + 3 * i + 3) ns' → SD C (tAsg (tOp (rCatA K) (tVar 5) (tTup (tCons (tOp (fun x y H Q => ∃ i j, x = .str i ∧ y = .str j ∧ i.length + j.length ≤ sizeLine ∧ Q (.str (i ++ j)) H) (tCB (fun xs H Q => ∃ i j : PySem.Str, xs = [.str i, .str j] ∧ Q (.str (if j.cps.toList < i.cps.toList then j else i)) H) (tCons (tVar 7) (tCons (tVar 8) tNil))) (tCB (fun xs H Q => ∃ i j : PySem.Str, xs = [.str i, .str j] ∧ Q (.str (if i.cps.toList < j.cps.toList then j else i)) H) (tCons (tVar 7) (tCons (tVar 8) tNil)))) tNil))) (gName 5))
        (bagG l ns' [.ptr l, .im (.i 5), .im (.i 7), .im (.b true), .im (.s (st (letters (1 + r)))), .im (.tup (ts.map fun t => D.s (tS t))), .im (.i (i' : Nat)), .im (.s (sg x)), .im (.s (sg y))]) (fun G => ∃ (ns : List Int) (ts : List Tie) (a b c : SV), BagOk (n + 2 + 3 * (i + 1)) ns ∧ (∀ t ∈ ts, t.1 ∈ letters (1 + r) ∧ t.2 ∈ letters (1 + r) ∧ t.1 ≤ t.2) ∧ ts.length ≤ i + 1 ∧ G = bagG l ns [.ptr l, .im (.i 5), .im (.i 7), .im (.b true), .im (.s (st (letters (1 + r)))), .im (.tup (ts.map fun t => D.s (tS t))), a, b, c]) (fun d G' => ∃ ns, (∃ y, WOk y ∧ d = dPts y) ∧ G'.at l (.lst ((dI ns).map .im))) := fun ns' hb' => by
      refine sd_asg (d := .tup ((ts ++ [(min x y, max x y)]).map fun t => D.s (tS t))) (EvR.to (ev_opD (ev_v rfl) (ev_tupD (ea1 (ev_opD (ev_min2 (ev_v rfl) (ev_v rfl)) (ev_max2 (ev_v rfl) (ev_v rfl)) (rr_addS (by show (st [_]).length + (st [_]).length ≤ _; rw [st_len, st_len]; exact (by decide : 1 + 1 ≤ 100000)))))) (rr_catT (by rw [List.length_map, List.length_cons, List.length_nil]; omega))) ?_) ⟨ns', ts ++ [(min x y, max x y)], _, _, _, hb', ?_, ?_, rfl⟩
      · rw [List.map_append]
        congr 2
      · intro t ht
        rcases List.mem_append.mp ht with z | z
        · exact m2 t z
        · have := List.mem_singleton.mp z
          subst this
          refine ⟨?_, ?_, by simp only; omega⟩
          · show min x y ∈ _
            rcases Nat.le_total x y with z | z
            · rw [Nat.min_eq_left z]; exact hx
            · rw [Nat.min_eq_right z]; exact hy
          · show max x y ∈ _
            rcases Nat.le_total x y with z | z
            · rw [Nat.max_eq_right z]; exact hy
            · rw [Nat.max_eq_left z]; exact hx
      · rw [List.length_append, List.length_singleton]
        omega
    by_cases hxy : x = y
    · subst hxy
      refine sd_orF (EvT.to (et_test (ev_opD (ev_v rfl) (ev_v rfl) rr_neS)) (by simp)) (sd_andT (et_test (ev_v rfl)) ?_)
      refine sd_hoist (fun te => tIfS (tTest (tOp _ te (tC (.int 0)))) _ _) (fun _ _ _ _ => rfl) (RV := fun v G' => ∃ (z : Nat) (ns' : List Int), v = .int z ∧ BagOk (n + 2 + 3 * i + 3) ns' ∧ G' = bagG l ns' [.ptr l, .im (.i 5), .im (.i 7), .im (.b true), .im (.s (st (letters (1 + r)))), .im (.tup (ts.map fun t => D.s (tS t))), .im (.i (i' : Nat)), .im (.s (sg x)), .im (.s (sg x))])
        ((em_callM (⟨ns, 3, n + 2 + 3 * i + 2⟩ : DrawX) (es_ptr rfl (es_im ev_c es_nil)) bag_at ⟨m1, by simp only; omega, by simp only; omega, by simp only; omega⟩).imp fun d G' ⟨ns', ⟨r, hr, hd, hb'⟩, hG⟩ => ⟨_, hd, r, ns', rfl, hb', by rw [hG, put_bag]; rfl⟩) ?_
      rintro v G' ⟨z, ns, rfl, hb', rfl⟩
      refine sd_if (et_test (ev_opD ev_c ev_c rr_eqI)) (fun _ => done ns hb') (fun _ => sd_next ⟨ns, ts, _, _, _, hb', m2, by omega, rfl⟩)
    · refine sd_if (b := true) (EvT.to (et_or (b := true) (et_test (ev_opD (ev_v rfl) (ev_v rfl) rr_neS)) (fun h => ?_)) (by simp)) (fun _ => done ns (m1.mono (by omega))) (fun h => by cases h)
      exfalso
      have : sg x = sg y := by simpa using h
      have := st_inj.mp this
      simp at this
      exact hxy this
  · rintro G ⟨ns, ts, a, b, c, m1, m2, m3, rfl⟩
    rw [List.length_range] at m3
    exact sd_ret (d := dPts (letters (1 + r), ts)) (EvF.dat (ev_lst (ea2 (ev_v rfl) (ev_v rfl)))) ⟨ns, ⟨(letters (1 + r), ts), ⟨⟨1 + r, by omega, by omega, rfl⟩, m2, by show ts.length ≤ 7; omega⟩, rfl⟩, bag_at⟩
end Wr
set_option maxHeartbeats 4000000
namespace Wr
open PySem L2
/-! ### the law's bag: a list of ints, made new -/
def spF {α : Type} (C : Cn) (A : α → List D) (pre : α → Prop) (post : α → List Int → Prop) : Sp := fun vs H Q _ => ∃ (O : List Addr) (x : α), LamX.TabS H C.tab lamQ ∧ Dom O H ∧ RepL C (hide O H) (A x) vs ∧ pre x ∧ ∀ ns p H', post x ns → H p = none → Same H H' → H' p = some (.lst (ns.map V.int)) → Q (.ref p) H'
section
variable {C : Cn} {α : Type} {A : α → List D} {pre : α → Prop} {post : α → List Int → Prop}
theorem spF_len {n : Nat} (h : ∀ x, (A x).length = n) : ∀ vs H Q E, spF C A pre post vs H Q E → vs.length = n := fun vs H Q E ⟨O, x, _, _, r, _⟩ => by
  rw [r.length, h]
theorem spF_run4 {a b c : TS} {te : TE} {N : List PySem.Str} (M : α → En → Prop) (hs : ∀ x, pre x → SD C (tSeq a (tSeq b c)) (En0 N.length (A x)) (M x) (fun _ _ => False)) (hr : ∀ x G', pre x → M x G' → ∃ ns, post x ns ∧ EvF C te G' (dI ns)) :
    ∀ vs H Q E, spF C A pre post vs H Q E → (tSeq a (tSeq b (tSeq c (tRet te)))) { nx := fun _ H' => Q .non H', rt := Q } (start N vs) H := fun vs H Q E ⟨O, x, tb, dm, r, hp, q⟩ => by
  have g : GamS C H O H (En0 N.length (A x)) (start N vs) := by
    refine ⟨Same.refl _, dm, (fun l hl => (List.not_mem_nil hl).elim), ⟨(fun l hl => (List.not_mem_nil hl).elim), dm, List.nodup_nil, (fun p hp => (List.not_mem_nil hp).elim), ?_, tb⟩⟩
    show SVs C (hide O H) ((A x).map .im ++ List.replicate (N.length - (A x).length) .no) (vs.map some ++ List.replicate (N.length - vs.length) none)
    rw [r.length]
    exact (svs_im.mpr r).append (svs_no _ _)
  show tSeq (tSeq a (tSeq b c)) (tRet te) { nx := fun _ H' => Q .non H', rt := Q } (start N vs) H
  refine hs x hp H O H _ _ g (fun G' σ' H' hm g' _ => ?_) fun d v G' σ' H' h => h.elim
  obtain ⟨ns, h1, h2⟩ := hr x G' hp hm
  exact h2 _ H' σ' g'.e _ fun p vs H'' np e hv rv => by
    have := repL_flat.mp rv
    subst this
    exact q ns p H'' h1 (g'.same.free np) (g'.same.trans e) hv
end
structure ScrX where
  sc : List Int
  k : Nat
theorem ev_lenScr {C : Cn} {K : PySem.W.Frag} {G : En} {te : TE} {ns : List Int} (h : EvD C te G (.scr K ns)) : EvD C (tCB (rLen K) (tCons te tNil)) G (.i ns.length) := ev_cbD (ea1 h) fun O H vs dm hv Q q => by
  obtain ⟨v, t, rfl, h1, h2⟩ := repL_cons.mp hv
  obtain ⟨a, rfl, h3⟩ := rep_scr.mp h1
  rw [repL_nil.mp h2]
  exact ⟨_, (ns.map V.int).length, rfl, .inl ⟨_, sqL_mono hide_le h3, rfl⟩, q _ _ H rfl (Same.refl H) (rep_v.mpr (by rw [List.length_map]))⟩
theorem rr_ixScr {C : Cn} {K : PySem.W.Frag} {ns : List Int} {i n : Int} (h : atI (ns.map V.int) i = some (.int n)) : RR C (rIxL K) (.scr K ns) (.i i) (· = .i n) := fun O H a b dm ha hb Q q => by
  obtain ⟨l, rfl, h1⟩ := rep_scr.mp ha
  exact ⟨l, _, i, _, rfl, rep_v.mp hb, sqL_mono hide_le h1, h, q _ _ H rfl (Same.refl H) (rep_v.mpr rfl)⟩
theorem ev_slScr {C : Cn} {K : PySem.W.Frag} {G : En} {te : TE} {tl th : TO} {lo hi : Option Int} {ns : List Int} (h : EvD C te G (.scr K ns)) (hl : EvO C tl G lo) (hh : EvO C th G hi) : EvF C (tSl (rSlL K) te tl th) G (cutA (dI ns) lo hi) := fun O H σ g Q q =>
  h O H σ g _ fun d v H1 e e1 hv => hl O H1 σ (g.mono e1) _ fun H2 e2 => hh O H2 σ (g.mono (e1.trans e2)) _ fun H3 e3 => by
    subst e
    obtain ⟨l, rfl, h1⟩ := rep_scr.mp hv
    have e23 := e2.trans e3
    refine ⟨l, _, rfl, sqL_mono (Sub.trans hide_le e23.sub) h1, fun p np => ?_⟩
    exact q p _ _ ((e1.trans e23).free np) ((e1.trans e23).trans (same_new np)) upd_same ((repL_flat.mpr rfl : RepL C _ (dI ns) (ns.map V.int)).cut lo hi)
abbrev N_law_bag : List PySem.Str := ["_law_script", "_law_k", "_law_held_cell", "_law_seed", "_law_this", "_law_held_signs"]
theorem sc_law_bag : FnScope N_law_bag ["_law_script", "_law_k"] (defScope s_law_bag) := ⟨rfl, rfl, rfl, by decide +kernel, rfl, by decide +kernel, by decide +kernel⟩
def sp_law_bag (K : PySem.W.Frag) (C : Cn) : Sp := spF C (fun (x : ScrX) => [.scr K x.sc, .i (x.k : Nat)]) (fun x => x.k ≤ 1000) (fun x ns => BagOk 0 ns)
theorem sm_nat {k n : Nat} (h : n < 2 ^ k) : Sm k (n : Int) := by
  unfold Sm
  omega
theorem cut_dI (l : List Int) (a b : Option Int) : cutA (dI l) a b = dI (cutA l a b) := by
  unfold cutA dI
  rw [List.map_take, List.map_drop, List.length_map]
def MBag (K : PySem.W.Frag) (x : ScrX) (G : En) : Prop := ∃ (cell seed sgn : Int) (a : SV), Sm 40 seed ∧ G = ⟨[], [.im (.scr K x.sc), .im (.i (x.k : Nat)), .im (.i cell), .im (.i seed), a, .im (.i sgn)]⟩
theorem has_law_bag {P : Program} {w : World} {K : PySem.W.Frag} {mg : PySem.Str → Option Value} {base : Heap} {C : Cn} (T : Tx K mg C.cls) : Has P w K mg base 3 "_law_bag" ["_law_script", "_law_k"] (sp_law_bag K C) := by
  refine fn_hasS T 74 (d := d_law_bag) rfl rfl (N := N_law_bag) sc_law_bag rfl rfl (fun _ _ _ _ _ _ us hl => match us, hl with | [_, _], _ => rfl) (spF_len fun _ => rfl) (fun cdv A' outer s H E hr => ⟨_, (pss_cons (ps_par (i := 2) (j := 3) rfl sc_law_bag.nd rfl rfl (by decide) rfl rfl (pa_cons (pe_ifExp (pt_cmpR op_lt (pv 1) (pe_callB (k_call_len (K := K) rfl) (by rfl) T.xlen bt_len (pa_cons (pv 0) pa_nil)) (nomark _)) (pe_callTy call_int1 (by rfl) T.xint bt_int (pa_cons (pe_ix (k_ix_list (K := K) rfl) (pv 0) (pv 1) (fun _ _ => rfl)) pa_nil)) pe_int) (pa_cons (pe_op op_mulW pe_int (pe_op op_add (pv 1) pe_int)) pa_nil)) (by rfl))
      (pss_cons (ps_for PassesOwn.never rfl (k_pi_list (K := K) rfl (pe_slice (k_sl_list (K := K) rfl) (pv 0) po_none (po_some pe_int))) (pg_name (i := 4) sc_law_bag.nd rfl (.inl rfl)) (pss_one (ps_set (i := 3) sc_law_bag.nd rfl (.inl rfl) (pe_op op_mod (pe_callTy call_int1 (by rfl) T.xint bt_int (pa_cons (pe_op op_add (pe_op op_add (pe_op op_mulW (pv 3) pe_int) (pe_op op_mod (pe_callTy call_int1 (by rfl) T.xint bt_int (pa_cons (pv 4) pa_nil)) pe_int)) (pe_op op_mulW pe_int (pv 1))) pa_nil)) pe_int))))
      (pss_cons (ps_set (i := 5) sc_law_bag.nd rfl (.inl rfl) (pe_ifExp (PW.pt (pw_or (pt_cmpR op_lt (pv 2) pe_int (nomark _)) (pw_or1 (pt_cmpR op_ge (pv 2) (pe_op op_pow pe_int pe_int) (nomark _))))) (pe_callB call_abs (by rfl) T.xabs bt_abs (pa_cons (pv 2) pa_nil)) pe_int))
      (pss_one (ps_ret (pe_lst (pa_cons (pv 5) (pa_cons (pe_op op_mod (pe_callTy call_int1 (by rfl) T.xint bt_int (pa_cons (pe_op op_add (pv 3) (pe_op op_mulW pe_int (pe_op op_mod (pe_callTy call_int1 (by rfl) T.xint bt_int (pa_cons (pv 2) pa_nil)) pe_int))) pa_nil)) pe_int) (pa_cons pe_int pa_nil))))))))), fun vs Q E' h => spF_run4 (MBag K) (fun x hx => ?_) (fun x G' hx hm => ?_) vs H Q E' h⟩)
  · obtain ⟨sc, k⟩ := x
    show SD C _ ⟨[], [.im (.scr K sc), .im (.i (k : Nat)), .no, .no, .no, .no]⟩ _ _
    have hk : Sm 11 ((k : Nat) + 5 : Int) := by
      have : k ≤ 1000 := hx
      unfold Sm
      omega
    have hk2 : Sm 10 ((k : Nat) : Int) := by
      have : k ≤ 1000 := hx
      unfold Sm
      omega
    have s1 : Sm 28 (94907 * ((k : Nat) + 5 : Int)) := ((sm_lit (k := 17) (by decide) : Sm 17 94907).mul hk).mono (by decide)
    have hcell : ∃ cell : Int, EvD C (tIf (tTest (tOp (rI0 fun i j => .bl (decide (i < j))) (tVar 1) (tCB (rLen K) (tCons (tVar 0) tNil)))) (tCB (fun xs H Q => (∃ i, xs = [.int i] ∧ Q (.int i) H) ∨ ∃ k, xs = [.bl k] ∧ Q (.int (if k then 1 else 0)) H) (tCons (tOp (rIxL K) (tVar 0) (tVar 1)) tNil)) (tC (.int 0))) ⟨[], [.im (.scr K sc), .im (.i (k : Nat)), .no, .no, .no, .no]⟩ (.i cell) := by
      by_cases h : k < sc.length
      · refine ⟨sc[k], ev_if (b := true) (EvT.to (et_test (ev_opD (ev_v rfl) (ev_lenScr (ev_v rfl)) rr_lt)) ?_) (fun _ => ev_int1 (ev_opD (ev_v rfl) (ev_v rfl) (rr_ixScr (n := sc[k]) ?_))) (fun z => by cases z)⟩
        · simpa using h
        · refine atI_n ?_
          rw [List.getElem?_map, List.getElem?_eq_getElem h]
          rfl
      · refine ⟨0, ev_if (b := false) (EvT.to (et_test (ev_opD (ev_v rfl) (ev_lenScr (ev_v rfl)) rr_lt)) ?_) (fun z => by cases z) (fun _ => ev_c)⟩
        simpa using h
    obtain ⟨cell, hcell⟩ := hcell
    refine sq_par (ea2 hcell (ev_opD ev_c (ev_add (ev_v rfl) ev_c) (rr_mulW ((sm_lit (k := 17) (by decide) : Sm 17 94907).cmul hk (by decide))))) ?_
    refine sq_for (C := C) (js := [4]) (cutA sc none (some 7)) (fun i => D.i i) (fun i s => s.set 4 (.im (.i i))) (fun _ G => ∃ (seed : Int) (a : SV), Sm 40 seed ∧ G = ⟨[], [.im (.scr K sc), .im (.i (k : Nat)), .im (.i cell), .im (.i seed), a, .no]⟩)
      ((ei_list ((ev_slScr (ev_v rfl) eo_no (eo_i ev_c)).dat.to (by rw [cut_dI]))).to rfl) (fun _ _ => eg_name) ⟨_, .no, s1.mono (by decide), rfl⟩ ?_ ?_
    · rintro i v G hi ⟨seed, a, m1, rfl⟩
      have k1 : Sm 20 (v % 1000121) := sm_mod (by decide) (sm_lit (by decide))
      refine sd_asg (d := .i ((seed * 59723 + v % 1000121 + 17 * (k : Nat)) % 2147483549)) (ev_opD (ev_int1 (ev_add (ev_add (ev_opD (ev_v rfl) ev_c (rr_mulW (m1.cmul (sm_lit (k := 16) (by decide) : Sm 16 59723) (by decide)))) (ev_opD (ev_int1 (ev_v rfl)) ev_c (rr_mod (by decide)))) (ev_opD ev_c (ev_v rfl) (rr_mulW ((sm_lit (k := 5) (by decide) : Sm 5 17).cmul hk2 (by decide)))))) ev_c (rr_mod (by decide))) ⟨_, _, sm_mod (by decide) (sm_lit (by decide)), rfl⟩
    · rintro G ⟨seed, a, m1, rfl⟩
      have ht : EvT C (tOr (tTest (tOp (rI0 fun i j => .bl (decide (i < j))) (tVar 2) (tC (.int 0)))) (tTest (tOp (rI0 fun i j => .bl (decide (j ≤ i))) (tVar 2) (tOp (rI CPow fun i j => .int (i ^ j.toNat)) (tC (.int 10)) (tC (.int 15)))))) ⟨[], [.im (.scr K sc), .im (.i (k : Nat)), .im (.i cell), .im (.i seed), a, .no]⟩ (decide (cell < 0) || decide ((10 : Int) ^ 15 ≤ cell)) :=
        et_or (et_test (ev_opD (ev_v rfl) ev_c rr_lt)) fun _ => et_test (ev_opD (ev_v rfl) (ev_opD ev_c ev_c (rr_I ⟨by decide, by decide, by decide⟩)) rr_I0)
      refine sd_asgR (P := fun d => ∃ z : Int, d = .i z) (ev_if ht (fun _ => (ev_cbD (ea1 (ev_v rfl)) (cr1 fun H Q q => ⟨_, rfl, q⟩)).imp fun d e => ⟨_, e⟩) (fun _ => ev_c.rel ⟨0, rfl⟩)) ?_
      rintro _ ⟨z, rfl⟩
      exact ⟨cell, seed, z, a, m1, rfl⟩
  · obtain ⟨cell, seed, sgn, a, m1, rfl⟩ := hm
    have k1 : Sm 20 (cell % 999931) := sm_mod (by decide) (sm_lit (by decide))
    exact ⟨[sgn, (seed + 88001 * (cell % 999931)) % 2147483549, 0], ⟨_, _, _, rfl, sm_mod (by decide) (sm_lit (by decide)), Int.le_refl _, Int.le_refl _⟩, ev_lst (ea3 (ev_v rfl) (ev_opD (ev_int1 (ev_add (ev_v rfl) (ev_opD ev_c (ev_opD (ev_int1 (ev_v rfl)) ev_c (rr_mod (by decide))) (rr_mulW ((sm_lit (k := 17) (by decide) : Sm 17 88001).cmul k1 (by decide)))))) ev_c (rr_mod (by decide))) ev_c)⟩
end Wr
set_option maxHeartbeats 4000000
namespace Wr
open PySem L2
/-! ### a web is made -/
theorem run_pre5 {C : Cn} {a b c d u : TS} {G : En} (M : En → Prop) {H0 : Hp} {O0 : List Addr} {H : Hp} {σ : L2.St} {E : Ends} (g : GamS C H0 O0 H G σ) (hs : SD C (tSeq a (tSeq b (tSeq c d))) G M (fun _ _ => False)) (hk : ∀ G' σ' H', M G' → GamS C H0 O0 H' G' σ' → u E σ' H') :
    (tSeq a (tSeq b (tSeq c (tSeq d u)))) E σ H := by
  show tSeq (tSeq a (tSeq b (tSeq c d))) u E σ H
  exact hs H0 O0 H σ _ g (fun G' σ' H' hm g' _ => hk G' σ' H' hm g') fun d v G' σ' H' h => h.elim
abbrev N_Web_init : List PySem.Str := ["self", "places", "ties", "wrong"]
theorem sc_Web_init : FnScope N_Web_init ["self", "places", "ties"] (defScope s_Web_init) := ⟨rfl, rfl, rfl, by decide +kernel, rfl, by decide +kernel, by decide +kernel⟩
def sp_Web_init (C : Cn) : Sp := fun vs H Q _ => ∃ (O : List Addr) (a dx : Addr) (x : W) (t : Addr), Dom O H ∧ vs = [.ref a, .str (st x.1), .ref t] ∧ LamX.TabS H C.tab lamQ ∧ H a = some (.ins C.cls dx []) ∧ hide O H t = some (.tup ((x.2.map tS).map V.str)) ∧ WOk x ∧
  ∀ H3 t', Same H H3 → hide O H3 t' = some (.tup ((x.2.map tS).map V.str)) → Q .non (upd (upd H3 a (.ins C.cls dx [("places", .str (st x.1))])) a (.ins C.cls dx (webF (st x.1) t')))
theorem has_Web_init {P : Program} {w : World} {K : PySem.W.Frag} {mg : PySem.Str → Option Value} {base : Heap} {C : Cn} (T : Tx K mg C.cls) : HasM P w K mg base 5 (He.ma K C.cls "__init__") ["self", "places", "ties"] (sp_Web_init C) := by
  refine fn_hasM T 11 (d := d_Web_init) rfl (by rw [T.eC]; rfl) (N := N_Web_init) sc_Web_init rfl rfl (fun _ _ _ _ _ _ us hl => match us, hl with | [_, _, _], _ => rfl) (fun vs H Q E ⟨O, a, dx, x, t, _, e, _⟩ => by rw [e]; rfl) (fun cdv A' outer s H E hr => ⟨_, (pss_cons (ps_if (pt_not (pt_val (pe_has (has_are_places T) (hr.mono (by decide)) (by rfl) (pa_cons (pv 1) pa_nil)))) (pss_one ps_never) pss_nil)
      (pss_cons (ps_if (pt_not (pt_val (pe_callB call_isi (by rfl) T.xisinstance bt_isinstance (pa_cons (pv 2) (pa_cons (pe_bltn (v := .ty "tuple") (by rfl) T.xtuple bt_tuple rfl) pa_nil))))) (pss_one ps_never) pss_nil)
      (pss_cons (ps_set (i := 3) sc_Web_init.nd rfl (.inl rfl) (pe_has (has_wrong_tie T) (hr.mono (by decide)) (by rfl) (pa_cons (pv 1) (pa_cons (pv 2) pa_nil))))
      (pss_cons (ps_if (pt_cmpR op_notN (pv 3) pe_non (nomark _)) (pss_one ps_never) pss_nil)
      (pss_cons (ps_fld (pv 0) (pv 1) rfl)
      (pss_one (ps_fld (pv 0) (pv 2) rfl))))))) , fun vs Q E' h => ?_⟩)
  obtain ⟨O, a, dx, x, t, dmO, rfl, tb, ha, ht0, hx, q⟩ := h
  have ht := hide_le _ _ ht0 rfl
  have g : GamS C H (a :: O) H ⟨[], [.ptr a, .im (.s (st x.1)), .im (.tup (x.2.map fun t => D.s (tS t))), .no]⟩ (start N_Web_init [.ref a, .str (st x.1), .ref t]) := by
    have dm : Dom (a :: O) H := fun l hl => by
      rcases List.mem_cons.mp hl with z | z
      · rw [z, ha]
        exact fun z => nomatch z
      · exact dmO l z
    have hat : a ≠ t := fun z => by
      rw [z, ht] at ha
      cases ha
    refine ⟨Same.refl _, dm, (fun l hl => (List.not_mem_nil hl).elim), ⟨(fun l hl => (List.not_mem_nil hl).elim), dm, List.nodup_nil, (fun p hp => (List.not_mem_nil hp).elim), ?_, tb⟩⟩
    refine ⟨some (.ref a), _, rfl, rfl, some (.str (st x.1)), _, rfl, sv_im (rep_v.mpr rfl), some (.ref t), _, rfl, sv_im (rep_tup.mpr ⟨t, (x.2.map tS).map V.str, rfl, ?_, ?_⟩), none, _, rfl, trivial, rfl⟩
    · show hide (a :: O) H t = _
      by_cases z : t ∈ O
      · rw [hide_in z] at ht0
        cases ht0
      · rw [hide_at (by simp only [List.mem_cons, not_or]; exact ⟨Ne.symm hat, z⟩)]
        exact ht
    · rw [List.map_map]
      exact repL_flat.mpr rfl
  obtain ⟨n, h1, h5, e1⟩ := hx.pl
  refine run_pre5 (fun G' => G' = ⟨[], [.ptr a, .im (.s (st x.1)), .im (.tup (x.2.map fun t => D.s (tS t))), .im .n]⟩) g ?_ ?_
  · refine sq_no (et_not (a := true) (et_B (ev_callD (R := (· = .b true)) n (ea1 ((ev_v (d := .s (st x.1)) rfl).to (by rw [e1]))) ⟨h1, h5⟩ fun _ h => h))) ?_
    refine sq_no (et_not (a := true) (et_B (ev_cbD (ea2 (ev_v rfl) ev_c) (cr_isiT (b := true) (by decide +kernel))))) ?_
    refine sq_asg (d := .n) (ev_callD x (ea2 (ev_v rfl) (ev_v rfl)) hx fun _ h => h) ?_
    exact sd_if (b := false) (et_test (ev_opD (ev_v rfl) ev_c (rr_notN (d := .n)))) (fun h => by cases h) (fun _ => sd_next rfl)
  · rintro G' σ' H' rfl g'
    obtain ⟨o0, s0, rfl, r0, o1, s1, rfl, r1, o2, s2, rfl, r2, o3, s3, rfl, r3, rfl⟩ := g'.e.sl
    have r0 : o0 = some (.ref a) := r0
    subst r0
    obtain ⟨v1, rfl, r1⟩ := r1
    obtain rfl := rep_v.mp r1
    obtain ⟨v2, rfl, r2⟩ := r2
    obtain ⟨t', vs, rfl, h6, h7⟩ := rep_tup.mp r2
    have h7 := repL_flat.mp h7
    subst h7
    have ha' := g'.same _ _ ha rfl
    refine ⟨.str (st x.1), rfl, .ref a, rfl, a, C.cls, dx, [], rfl, ha', T.cl, T.nP, by decide, ?_⟩
    refine ⟨.ref t', rfl, .ref a, rfl, a, C.cls, dx, [("places", .str (st x.1))], rfl, upd_same, T.cl, T.nT, (by decide : 1 < 1000), ?_⟩
    refine q H' t' g'.same ?_
    rw [List.map_map]
    exact hide_sub (fun l hl => List.mem_cons_of_mem _ hl) _ _ h6 rfl
theorem pe_makeW {X : Cx} {C : Cn} {e : Expr} {es : List Expr} {t : TA} {p pos : Pos} (T : Tx X.K X.mg C.cls) (hr : Room 6 X.A) (hg : Gl X "Web") (ha : PA X (e :: es) t)
    (he : starEach (e :: es) X.env = (false, eval e X.env) :: starEach es X.env := by rfl) (hpl : (backTo pos (starEach es X.env)).any (·.1) = false := by rfl) : PE X (.Call (.Name "Web" p) (e :: es) [] pos) (tMake C.cls (sp_Web_init C) [] E0 t) := by
  refine ⟨fun pins s σ H Q I q => ?_⟩
  obtain ⟨fd, F, b⟩ := (has_Web_init (P := X.prog) (w := X.w) (base := X.base) T).ex
  exact (pe_make T.mkw F hr hg T.web b .nil pass0 ha (by decide) he hpl).run pins s σ H Q I q
theorem ev_makeW {C : Cn} {G : En} {ta tb : TE} {x : W} (h1 : EvD C ta G (.s (st x.1))) (h2 : EvD C tb G (.tup (x.2.map fun t => D.s (tS t)))) (hx : WOk x) : EvD C (tMake C.cls (sp_Web_init C) [] E0 (tCons ta (tCons tb tNil))) G (dW x) := fun O H σ g Q q =>
  ea2 h1 h2 O H σ g _ fun ds vs H1 hd e1 rv a dx na nd hda => by
    subst hd
    obtain ⟨v1, r1, rfl, k1, k2⟩ := repL_cons.mp rv
    obtain ⟨v2, r2, rfl, k3, k4⟩ := repL_cons.mp k2
    obtain rfl := repL_nil.mp k4
    obtain rfl := rep_v.mp k1
    obtain ⟨t, vs, rfl, h6, h7⟩ := rep_tup.mp k3
    have h7 := repL_flat.mp h7
    subst h7
    have ht := hide_le _ _ h6 rfl
    have hta : t ≠ a := fun z => by
      rw [z, na] at ht
      cases ht
    have htd : t ≠ dx := fun z => by
      rw [z, nd] at ht
      cases ht
    have s1 : Same H1 (upd H1 dx (.own a)) := same_new nd
    have s2 : Same (upd H1 dx (.own a)) (upd (upd H1 dx (.own a)) a (.ins C.cls dx [])) := same_new (by rw [upd_ne (Ne.symm hda)]; exact na)
    have s12 := s1.trans s2
    refine ⟨O, a, dx, x, t, (g.dom.mono e1).mono s12, rfl, s12.tabs _ (e1.tabs _ g.tb), upd_same, ?_, hx, fun H3 t' s3 ht' => ?_⟩
    · rw [hide_mono s12 _ _ h6 rfl, List.map_map]
      rfl
    · have ha3 := s3 _ _ upd_same rfl
      have c1 : Same H1 (upd H3 a (.ins C.cls dx [("places", .str (st x.1))])) := Same.chg (s12.trans s3) na ha3 rfl
      have c2 := Same.chg c1 na (u := .ins C.cls dx [("places", .str (st x.1))]) (o := .ins C.cls dx (webF (st x.1) t')) upd_same rfl
      refine ⟨rfl, q _ _ _ rfl (e1.trans c2) ?_⟩
      have naO : a ∉ O := fun z => (g.dom.mono e1) a z na
      have hta' : t' ≠ a := fun z => by
        rw [z] at ht'
        have := hide_le _ _ ht' rfl
        rw [ha3] at this
        cases this
      have htO : t' ∉ O := fun z => by
        rw [hide_in z] at ht'
        cases ht'
      · refine rep_web.mpr ⟨a, dx, t', rfl, ?_, ?_⟩
        · rw [hide_at naO]
          exact upd_same
        · rw [hide_at htO, upd_ne hta', upd_ne hta']
          exact hide_le _ _ ht' rfl
abbrev N_law_made : List PySem.Str := ["_law_parts"]
theorem sc_law_made : FnScope N_law_made ["_law_parts"] (defScope s_law_made) := ⟨rfl, rfl, rfl, by decide +kernel, rfl, by decide +kernel, by decide +kernel⟩
def sp_law_made (C : Cn) : Sp := spT C (fun y : W => [dPts y]) WOk (fun y d => d = dW y)
theorem has_law_made {P : Program} {w : World} {K : PySem.W.Frag} {mg : PySem.Str → Option Value} {base : Heap} {C : Cn} (T : Tx K mg C.cls) : Has P w K mg base 7 "_law_made" ["_law_parts"] (sp_law_made C) := by
  refine fn_has T 78 (d := d_law_made) rfl rfl (N := N_law_made) sc_law_made rfl rfl (fun _ _ _ _ _ _ us hl => match us, hl with | [_], _ => rfl) (fun _ => rfl) (fun cdv A' outer s H E hr => ⟨_, (pss_one (ps_ret (pe_makeW T (hr.mono (by decide)) (by rfl) (pa_cons (pe_ix (k_ix_list (K := K) rfl) (pv 0) pe_int (fun _ _ => rfl)) (pa_cons (pe_ix (k_ix_list (K := K) rfl) (pv 0) pe_int (fun _ _ => rfl)) pa_nil))))), fun x hx => ?_⟩)
  show SD C _ ⟨[], [.im (dPts x)]⟩ _ _
  refine sd_ret (d := dW x) (ev_makeW (ev_opD (ev_v rfl) ev_c (rr_ixL rfl rfl)) (ev_opD (ev_v rfl) ev_c (rr_ixL rfl rfl)) hx) rfl
end Wr
set_option maxHeartbeats 4000000
namespace PySem.W
open PySem PyProof PyProof.Rows
section
variable {prog : Program} {w : World} {A : Around} {E : Value → Shared → Prop} {s : Shared}
/-- xs.sort() of tuples, the first one empty -/
theorem list_sort_tups {β : Type} {vs : List Value} {bs : List β} {enc : β → PyData} {R : Value → β → Prop} {a : Addr} {n : Nat} {Q : Value → Shared → Prop} (ho : s.heap.get? a = some (seqObj "list" vs.toArray n)) (e : EachIs R vs bs) (er : EachIs (fun v b => ∃ as, Reads s.heap v (enc b) as ∧ a ∉ as) vs bs) (hal : AllAlike (bs.map enc)) (ht : ∀ d, d ∈ bs.map enc → ∃ xs, d = .tuple xs) (h0 : (bs.map enc)[0]? = some (.tuple [])) (hL : bs.length ≤ sizeLine)
    (hu : ∀ b, b ∈ bs → A.units + 1 + (enc b).depth < cLine) (h : ∀ out, out.length = bs.length → EachIs R out (bs.mergeSort (dataLe false enc)) → Q .none { s with heap := sortedHeap s.heap a vs (List.toArray out) }) :
    wpAny (model prog w) A (call (.builtin "list.sort") [.ref a]) Q E s := by
  have er' : EachIs (fun v b => ∃ as, Reads (sortingHeap s.heap a vs) v (enc b) as) vs bs := each_keepBut (h' := sortingHeap s.heap a vs) (fun _ _ hb q => sortingHeap_old hb q) (fun o q => by rw [ho] at q; rw [← Option.some.inj q]) hal er
  refine wpAny_call_entry slot_list_sort ⟨_, ho, rfl⟩ entry_list_sort (list_sort_vals (κ := dataKind (sortingHeap s.heap a vs) (bs.map enc)) ho (SortsAt.tups (s := { s with heap := sortingHeap s.heap a vs }) (each_map (R := fun v d => ∃ as, Reads (sortingHeap s.heap a vs) v d as) enc er') hal ht h0 (bound_map hu)) (by rw [e.length]; exact hL) ⟨.none, rfl, ?_⟩) (args_list_sort _)
  exact h _ (by rw [sortVals_length false rfl]; exact e.length) (sortVals_data false e er' hal)
end
end PySem.W
namespace Wr
open PySem L2 PySem.Spec PyProof.Rows
/-! ### a dict comprehension whose keys are tuples -/
theorem d_dictSetT {X : Cx} {pins : List (Addr × Obj)} {σ : L2.St} {H : Hp} {s : Shared} {E : Value → Shared → Prop} {D b : Addr} {kvs : List (List L2.Key × V)} {k : List L2.Key} {v : V} {u r : Value} {Q : Unit → Shared → Prop} (hu : X.A.units + 1 < cLine) (I : Inv X pins σ H s) (hD : H D = some (.dT kvs)) (eb : H b = some (.tup (k.map kV))) (hz : kvs.length < sizeLine)
    (ry : RelV (.ref b) u) (rv : RelV v r) (h : ∀ s', Inv X pins σ (upd H D (.dT (putK kvs k v))) s' → Q () s') : wpAny (model X.prog X.w) X.A (dictSet D u r) Q E s := by
  cases (show u = Value.ref b from ry)
  obtain ⟨z, hd, xs, rel, dd⟩ := dt_of I.hok hD
  have hz' : xs.length ≤ sizeLine := by rw [← Paired.length rel]; exact z
  have hl : (putK kvs k v).length ≤ sizeLine := by have := length_putK kvs k v; omega
  refine wpAny_dictSet_heap (hsz := hz') (show X.A.units < cLine by omega) (key_of I.hok eb) dd fun h' dd' hs => h _ ?_
  obtain ⟨q, es, ep, hq, h2, h3, h4, _, h5⟩ := dd'
  refine d_write I (by rw [hD]; exact True.intro) hs ⟨q, hq⟩ ⟨hl, hd, _, (rel.put k eb rv).keeps fun c ys ec => ?_, q, es, ep, hq, h2, h3, h4, h5⟩
  rw [upd_ne (fun z => by rw [z, hD] at ec; cases ec)]
  exact ec
section
variable {X : Cx}
def tDcT (wi : TI) (g : TG) (tt : TT) (tk tv : TE) (vs : List Nat) : TE := fun σ H Q => wi σ H fun J H1 => ∀ D, H1 D = none → ∃ W : Nat → Nat → Hp → Prop, (∃ m, W 0 m (upd H1 D (.dT []))) ∧ ∀ i m H, W i m H →
  (J.stop i H ∧ Q (.ref D) H) ∨ (J.go i H ∧ ∃ Nx : Hp → Prop, (∀ H', Nx H' → ∃ m', m' < m ∧ W (i + 1) m' H') ∧ ∀ x H', J.yld i H x H' → g x (wipe σ vs) H' fun σ2 H2 => wipe σ2 vs = wipe σ vs ∧ tt σ2 H2 fun b H3 =>
    if b = true then tk σ2 H3 fun y H4 => tv σ2 H4 fun z H5 => ∃ kvs k b, y = .ref b ∧ H5 b = some (.tup (k.map kV)) ∧ H5 D = some (.dT kvs) ∧ kvs.length < sizeLine ∧ Nx (upd H5 D (.dT (putK kvs k z))) else Nx H3)
theorem dcT_core {pins : List (Addr × Obj)} {s : Shared} {σ : L2.St} {H : Hp} {Q : VK} {kx vx tg iter : Expr} {ifs : List Expr} {scope : Scope} {own : List (Str × Nat)} {pos pos' : Pos} {wi : TI} {g : TG} {tt : TT} {tk tv : TE} {use : Option (Value → Sem Unit)} {Qf : Value → Shared → Prop}
    (hu : X.A.units + 1 < cLine) (hc : X.calm = true) (hN : X.N.Nodup) (I : Inv X pins σ H s) (hi : PI X tg iter wi) (ok : BlkOk X.N X.env.scope scope own)
    (hg : ∀ (s : Shared) (H : Hp) (C : Addr) (cl : List (Str × Addr)) (fp : List Addr), PG (X.blk s H scope (compEnvC scope cl C X.env) fp) tg g) (ht : ∀ (s : Shared) (H : Hp) (C : Addr) (cl : List (Str × Addr)) (fp : List Addr), PTs (X.blk s H scope (compEnvC scope cl C X.env) fp) ifs tt)
    (hk : ∀ (s : Shared) (H : Hp) (C : Addr) (cl : List (Str × Addr)) (fp : List Addr), PE (X.blk s H scope (compEnvC scope cl C X.env) fp) kx tk)
    (he : ∀ (s : Shared) (H : Hp) (C : Addr) (cl : List (Str × Addr)) (fp : List Addr), PE (X.blk s H scope (compEnvC scope cl C X.env) fp) vx tv) (hs : ∀ x, foldedSetIterable iter X.env x = pure x)
    (h : tDcT wi g tt tk tv (own.map (·.2)) σ H Q)
    (hRR : ∀ D C s' m H', Inv X pins σ H' s' → Q (.ref D) H' → s'.heap.Ns C m → FpOk X pins H' C → compPost (model X.prog X.w) X.A X.xe use Qf (.ref D) C (.ok .next) s') :
    wpAny (model X.prog X.w) X.A (comprehension (.DictComp kx vx [⟨tg, iter, ifs, 0⟩] scope pos) scope X.env pos' newDict false (eval iter X.env) use) Qf X.xe s := by
  have hfree : ∀ y ∈ scope.names, y.2 = .free → ∃ c, X.env.cells.lookup y.1 = some c := fun y hy e => by
    rcases ok.free y hy e with k | k
    · exact I.ok.has _ (.inl k)
    · exact I.ok.has _ (.inr k)
  refine wpAny_comprehension_free (use := use) rfl hs (closure_ok hfree) ok.kind (fun y hy e => by rw [ok.uniq y hy, e])
    (thn (hi.run pins s σ H _ I h) fun xv s1 hx => thn hx fun itv s2 h2 => ?_)
  obtain ⟨it, fp, tn, J, H2, e, I2, T, st2, f2, q⟩ := h2
  subst e
  refine wpAny_newObj_type (newEnv_comp ?_)
  generalize hD : s2.heap.objs.size = D
  have hDn : H2 D = none := I2.hok.fresh (Nat.le_of_eq hD)
  obtain ⟨W, ⟨m0, w0⟩, turn⟩ := q D hDn
  generalize hs3 : ({ s2 with heap := s2.heap.push { cls := .type "dict", data := .dict #[] } } : Shared) = s3
  have I3 : Inv X pins σ (upd H2 D (.dT [])) s3 := by
    rw [← hs3]
    refine I2.laid (t' := s2.toks) (fun b o e => Heap.get?_push_of_some _ e) (Nat.le_of_eq hD) ?_
    rw [← hD]
    exact dt_empty s2.heap I2.big
  have h3 : s3.heap = s2.heap.push { cls := .type "dict", data := .dict #[] } := by rw [← hs3]
  have sz : ∀ b ∈ fp, b < s2.heap.objs.size := fun b hb => by
    obtain ⟨o, e, _⟩ := T.obj _ _ st2 b hb
    exact Heap.lt_size e
  have f3 : ∀ b ∈ fp, FpOk X pins (upd H2 D (.dT [])) b ∧ b < s3.heap.objs.size := fun b hb => by
    have hlt := sz b hb
    refine ⟨⟨?_, (f2 b hb).2⟩, by rw [h3, Heap.size_push]; exact Nat.lt_succ_of_lt hlt⟩
    rw [upd_ne (by rw [← hD]; exact Nat.ne_of_lt hlt)]
    exact (f2 b hb).1
  have st3 : tn 0 s3.heap := T.keep _ _ _ st2 fun b _ o e => by rw [h3]; exact Heap.get?_push_of_some _ e
  have I4 := block_start I3 ok hN f3
  have pg := hg s3 (upd H2 D (.dT [])) s3.heap.objs.size (cellsFrom (s3.heap.objs.size + 1) scope.names (cloFrom X.env.cells scope.names [])) fp
  have pt := ht s3 (upd H2 D (.dT [])) s3.heap.objs.size (cellsFrom (s3.heap.objs.size + 1) scope.names (cloFrom X.env.cells scope.names [])) fp
  have pk := hk s3 (upd H2 D (.dT [])) s3.heap.objs.size (cellsFrom (s3.heap.objs.size + 1) scope.names (cloFrom X.env.cells scope.names [])) fp
  have pe := he s3 (upd H2 D (.dT [])) s3.heap.objs.size (cellsFrom (s3.heap.objs.size + 1) scope.names (cloFrom X.env.cells scope.names [])) fp
  show codeAny _ _ (.compStart (.DictComp kx vx [⟨tg, iter, ifs, 0⟩] scope pos) 0 (.ref it) (.ref D) (compEnvC scope (cellsFrom (s3.heap.objs.size + 1) scope.names (cloFrom X.env.cells scope.names [])) s3.heap.objs.size X.env)) (compPost (model X.prog X.w) X.A X.xe use Qf (.ref D) s3.heap.objs.size) { s3 with heap := pushCells (s3.heap.push { cls := .type "dict", data := .dict #[] }) scope.names }
  have nfp : ∀ b ∈ fp, (upd H2 D (.dT [])) b = none := fun b hb => (f3 b hb).1.1
  generalize hce : compEnvC scope (cellsFrom (s3.heap.objs.size + 1) scope.names (cloFrom X.env.cells scope.names [])) s3.heap.objs.size X.env = ce at I4 pg pt pk pe ⊢
  have cL : ce.locals = s3.heap.objs.size := by subst hce; rfl
  generalize hH3 : upd H2 D (.dT []) = H3 at I3 I4 pg pt pk pe w0 nfp f3
  generalize hs4 : ({ s3 with heap := pushCells (s3.heap.push { cls := .type "dict", data := .dict #[] }) scope.names } : Shared) = s4 at I4 ⊢
  have st4 : tn 0 s4.heap := T.keep _ _ _ st3 fun b _ o e => by rw [← hs4]; exact pushCells_keeps _ _ _ _ (Heap.get?_push_of_some _ e)
  have stat : ∀ {σ' : L2.St} {H' : Hp} {s' : Shared}, Inv (X.blk s3 H3 scope ce fp) [] σ' H' s' → (∀ b ∈ fp, H' b = none) → ∀ b ∈ fp, FpOk (X.blk s3 H3 scope ce fp) [] H' b := fun {σ' H' s'} I' hn b hb =>
    ⟨hn b hb, (I'.ok.exf b hb).1, I'.ok.exfs b hb, .inl hb, fun x c e => (I'.ok.exf b hb).2 x c e, fun p hp => absurd (show p ∈ ([] : List (Addr × Obj)) ++ [] from hp) (by simp)⟩
  have loop : codeAny (model X.prog X.w) X.A (.compLoop (.DictComp kx vx [⟨tg, iter, ifs, 0⟩] scope pos) 0 (.ref it) (.ref D) ce) (compPost (model X.prog X.w) X.A X.xe use Qf (.ref D) s3.heap.objs.size) s4 := by
    refine compLoop_anyD (fun n s' => ∃ i H', Inv (X.blk s3 H3 scope ce fp) [] (wipe σ (own.map (·.2))) H' s' ∧ tn i s'.heap ∧ (∀ b ∈ fp, H' b = none) ∧ W i n H') ?_ m0 ⟨0, H3, I4, st4, nfp, w0⟩
    rintro n s5 ⟨i, H5, I5, st5, n5, w5⟩
    rcases turn i n H5 w5 with ⟨stop, qq⟩ | ⟨go, Nx, hNx, step⟩
    · have td := T.done (X.blk s3 H3 scope ce fp) rfl rfl rfl hc i [] s5 _ H5 (fun _ _ => False) I5 (stat I5 n5) st5 stop
      refine thnF td fun r s6 ⟨hr, I6⟩ => ?_
      subst hr
      have I7 : Inv X pins σ H5 s6 := I3.call' (ch := fp) I6.os I6.base I6.hok I6.bare fun b hb => ⟨(f3 b hb).1.2.2.2.1, (f3 b hb).1.2.1, (f3 b hb).1.2.2.2.2.1, (f3 b hb).1.2.2.2.2.2⟩
      have nC : H5 s3.heap.objs.size = none := by
        have z : H5 ce.locals = none := I6.free
        rw [cL] at z
        exact z
      obtain ⟨m, hn, _⟩ := I6.loc
      have hn : s6.heap.Ns ce.locals m := hn
      rw [cL] at hn
      exact hRR D s3.heap.objs.size s6 m H5 I7 qq hn (I3.fpOk (Nat.le_refl _) nC)
    · have ti := T.item (X.blk s3 H3 scope ce fp) rfl rfl rfl hc i [] s5 _ H5 (fun _ _ => False) I5 (stat I5 n5) st5 go
      refine thnF ti fun r s6 ⟨u, hr, h6⟩ => ?_
      subst hr
      refine thnF h6 fun _ s7 ⟨x, H7, I7, r7, y7, st7, n7⟩ => ?_
      have I7' := I7.pinned (stat I7 n7) (T.obj _ _ st7)
      refine thnF (pg.run _ s7 _ H7 x u _ I7' r7 (step x H7 y7)) fun _ s8 ⟨σ8, H8, I8, hw8, q8⟩ => ?_
      refine thnF (pt.run _ s8 σ8 H8 _ I8 q8) fun b s9 ⟨H9, I9, q9⟩ => ?_
      have fin : ∀ {s' : Shared} {H' : Hp}, Inv (X.blk s3 H3 scope ce fp) ([] ++ pinsAt fp s7.heap) σ8 H' s' → Nx H' → ∃ m, m < n ∧ ∃ i H', Inv (X.blk s3 H3 scope ce fp) [] (wipe σ (own.map (·.2))) H' s' ∧ tn i s'.heap ∧ (∀ b ∈ fp, H' b = none) ∧ W i m H' := fun {s' H'} I' nx => by
        obtain ⟨m', hm, w'⟩ := hNx H' nx
        have pin' : ∀ b ∈ fp, ∀ o, s7.heap.get? b = some o → s'.heap.get? b = some o ∧ H' b = none := fun b hb o e =>
          let z := I'.pin (b, o) (List.mem_append_right _ (List.mem_append_right _ (mem_pinsAt hb e)))
          ⟨z.1, z.2.1⟩
        have hl : (wipe σ (own.map (·.2))).length = σ8.length := by rw [← hw8, wipe_length]
        refine ⟨m', hm, i + 1, H', (I'.unpinned (pins := [])).weak hl (fun j v e => ?_), T.keep _ _ _ st7 fun b hb o e => (pin' b hb o e).1, fun b hb => ?_, w'⟩
        · rw [← hw8] at e
          exact (wipe_some e).1
        · obtain ⟨o, e, _⟩ := T.obj _ _ st7 b hb
          exact (pin' b hb o e).2
      cases b with
      | false =>
        simp only [Bool.false_eq_true, if_false] at q9 ⊢
        exact fin I9 q9
      | true =>
        simp only [if_true] at q9 ⊢
        refine thnF (pk.run _ s9 σ8 H9 _ I9 q9) fun z s10 ⟨yk, H10, I10, r10, q10⟩ => ?_
        refine thnF (pe.run _ s10 σ8 H10 _ I10 q10) fun z2 s11 ⟨yv, H11, I11, r11, kvs, k, b2, ek, eb2, hD11, hz11, nx⟩ => ?_
        subst ek
        exact d_dictSetT (X := X.blk s3 H3 scope ce fp) hu I11 hD11 eb2 hz11 r10 r11 fun s12 I12 => fin I12 nx
  exact codeAny_compStart_dict loop (T.self X.A 0 _ _ _ st4 loop)
/-- as a value -/
theorem pe_dcT {kx vx tg iter : Expr} {ifs : List Expr} {scope : Scope} {own : List (Str × Nat)} {pos : Pos} {wi : TI} {g : TG} {tt : TT} {tk tv : TE} (hu : X.A.units + 1 < cLine) (hc : X.calm = true) (hN : X.N.Nodup) (hi : PI X tg iter wi) (ok : BlkOk X.N X.env.scope scope own)
    (hg : ∀ (s : Shared) (H : Hp) (C : Addr) (cl : List (Str × Addr)) (fp : List Addr), PG (X.blk s H scope (compEnvC scope cl C X.env) fp) tg g) (ht : ∀ (s : Shared) (H : Hp) (C : Addr) (cl : List (Str × Addr)) (fp : List Addr), PTs (X.blk s H scope (compEnvC scope cl C X.env) fp) ifs tt)
    (hk : ∀ (s : Shared) (H : Hp) (C : Addr) (cl : List (Str × Addr)) (fp : List Addr), PE (X.blk s H scope (compEnvC scope cl C X.env) fp) kx tk)
    (he : ∀ (s : Shared) (H : Hp) (C : Addr) (cl : List (Str × Addr)) (fp : List Addr), PE (X.blk s H scope (compEnvC scope cl C X.env) fp) vx tv) (hs : ∀ x, foldedSetIterable iter X.env x = pure x := by intro _; rfl) :
    PE X (.DictComp kx vx [⟨tg, iter, ifs, 0⟩] scope pos) (tDcT wi g tt tk tv (own.map (·.2))) := by
  refine ⟨fun pins s σ H Q I h => ?_⟩
  rw [arm_eval_DictComp]
  refine dcT_core hu hc hN I hi ok hg ht hk he hs h fun D C s' m H' I' q hn f => ⟨m, hn, fun h'' sb => ?_⟩
  obtain ⟨f0, f1, f2, f3, f4, f5⟩ := f
  exact ⟨.ref D, H', I'.turned (t' := s'.toks) (fun b o hb e => (sb.2 b hb).trans e) f0 f1 f3 f4 f5, rfl, q⟩
end
/-- the keys of a dict, sorted: tuples, the first one empty -/
def encK : L2.Key → PyData
  | .inl i => .int i
  | .inr z => .str z
def encT (k : List L2.Key) : PyData := .tuple (k.map encK)
def rSortDT : List V → Hp → VK → Prop := fun vs H Q => ∃ d kvs, vs = [V.ref d] ∧ H d = some (.dT kvs) ∧ SrtOk (kvs.map fun p => encT p.1) ∧ (kvs.map fun p => encT p.1)[0]? = some (.tuple []) ∧
  ∀ p bs, H p = none → IsKeys H kvs bs → Q (.ref p) (upd H p (.lst (sortZ (bs.map V.ref) (kvs.map fun p => encT p.1))))
theorem reads_atoms {h : Heap} : ∀ {l : List L2.Key} {vs : List Value} {as : List Addr}, PySem.ReadsAll h vs (l.map encK) as → as = []
  | [], _, _, r => by
    cases r
    rfl
  | k :: l, _, _, r => by
    cases r with
    | cons h1 h2 =>
      rw [reads_atoms h2]
      cases k with
      | inl i =>
        cases (show PySem.Reads h _ (.int i) _ from h1)
        rfl
      | inr z =>
        cases (show PySem.Reads h _ (.str z) _ from h1)
        rfl
theorem dp_keys {K : PySem.W.Frag} {H : Hp} : ∀ l : List L2.Key, DpAll K H (l.map kV) (l.map encK)
  | [] => .nil
  | k :: l => .cons (match k with
    | .inl i => .int i
    | .inr z => .str z) (dp_keys l)
theorem reads_keys {X : Cx} {pins : List (Addr × Obj)} {σ : L2.St} {H : Hp} {s : Shared} (I : Inv X pins σ H s) : ∀ {kvs : List (List L2.Key × V)} {xs : List (List L2.Key × Addr × Value)}, KT H kvs xs →
    PySem.W.EachIs (fun v (b : V × PyData) => RelV b.1 v) (xs.map fun x => Value.ref x.2.1) ((xs.map fun x => V.ref x.2.1).zip (kvs.map fun p => encT p.1)) ∧ PySem.W.EachIs (fun v (b : V × PyData) => ∃ as, PySem.Reads s.heap v b.2 as ∧ ∀ a ∈ as, a < s.heap.objs.size) (xs.map fun x => Value.ref x.2.1) ((xs.map fun x => V.ref x.2.1).zip (kvs.map fun p => encT p.1))
  | [], [], _ => ⟨.nil, .nil⟩
  | p :: kvs, x :: xs, .cons h t => by
    obtain ⟨q1, q2⟩ := reads_keys I t
    refine ⟨.cons rfl q1, .cons ?_ q2⟩
    have d : Dp X.K H (.ref x.2.1) (encT p.1) := .tup (SqT.of h.2.1) (dp_keys p.1)
    obtain ⟨as, r⟩ := Dp.reads I _ _ _ d rfl
    have r : PySem.Reads s.heap (.ref x.2.1) (.tuple (p.1.map encK)) as := r
    cases r with
    | tuple _ _ _ ra =>
      have := reads_atoms ra
      subst this
      exact ⟨[], .tuple ‹_› ‹_› ‹_› ra, fun a ha => absurd ha (List.not_mem_nil)⟩
theorem call_sortDT {X : Cx} (hc : X.calm = true) (hu : X.A.units + 64 < cLine) : CallR X (.builtin "sorted") rSortDT := by
  intro pins s σ H vs us Q I r h
  obtain ⟨d, kvs, rfl, hd, hok, h0, q⟩ := h
  obtain ⟨u, rfl, rx⟩ := r.one
  cases rx
  obtain ⟨z, hs, ks, pr, o, es, ep, ho, hx, hdt, he, hn⟩ := (show ObjOk X.prog X.w H s.heap d (.dT kvs) from I.hok d _ hd)
  have l1 : es.size = ks.length := size_of_entries he
  have l2 : kvs.length = ks.length := Paired.length pr
  refine Calls.call_function_entry kind_sorted plain_sorted entry_sorted (args_sorted1 _) ?_
  unfold Builtin.«sorted»
  refine wpAny_bind (m := checkCount "sorted" 1 1 _) (wpAny_pure ?_)
  refine wpAny_bind (PySem.W.kdu_collect (A := X.A.in1) (kdl_raw hs hx hdt) (I.ok.hd hc) ho (by omega) fun h' tk acc kp it => ?_)
  have ea : acc.toList = ks.map fun x => Value.ref x.2.1 := by
    apply List.ext_getElem?
    intro j
    rw [List.getElem?_map]
    have hl : acc.toList.length = ks.length := by rw [Array.length_toList, it.1]; exact l1
    cases hj : acc.toList[j]? with
    | none => rw [List.getElem?_eq_none (by have := List.getElem?_eq_none_iff.mp hj; omega)]; rfl
    | some v =>
      obtain ⟨en, hen, hv⟩ := it.2 j v (by rw [← Array.getElem?_toList]; exact hj)
      have qe := entry_at he j
      rw [hen] at qe
      cases hb : ks[j]? with
      | none =>
        rw [hb] at qe
        cases qe
      | some b =>
        rw [hb] at qe
        have e2 : en = entryOfKey (tupleKind (mixKind X.prog X.w)) b := Option.some.inj qe
        rw [hv, e2]
        rfl
  rw [ea]
  have I1 : Inv X pins σ H { s with heap := h', toks := tk } := I.kept kp
  obtain ⟨e1, e2⟩ := reads_keys I1 pr
  have em : ((ks.map fun x => V.ref x.2.1).zip (kvs.map fun p => encT p.1)).map Prod.snd = kvs.map fun p => encT p.1 := List.map_snd_zip (by rw [List.length_map, List.length_map]; omega)
  have hL : ((ks.map fun x => V.ref x.2.1).zip (kvs.map fun p => encT p.1)).length ≤ sizeLine := by
    rw [List.length_zip, List.length_map, List.length_map]
    omega
  refine wpAny_bind (wpAny_newList ?_ (by rw [List.length_map]; omega))
  have hob : (h'.push (seqObj "list" (ks.map fun x => Value.ref x.2.1).toArray 0)).get? h'.objs.size = some (seqObj "list" (ks.map fun x => Value.ref x.2.1).toArray 0) := Heap.get?_push_size _ rfl
  show wpAny _ _ _ _ _ { s with heap := h'.push (seqObj "list" (ks.map fun x => Value.ref x.2.1).toArray 0), toks := tk }
  refine wpAny_bind (wpAny_holding (PySem.W.list_sort_tups (s := { s with heap := h'.push (seqObj "list" (ks.map fun x => Value.ref x.2.1).toArray 0), toks := tk }) (enc := fun b : V × PyData => b.2) hob e1
    (e2.mono fun v b ⟨as, r, lt⟩ => ⟨as, PyProof.Rows.Reads.keeps (fun b o q => Heap.get?_push_of_some _ q) r, fun z => Nat.lt_irrefl _ (lt _ z)⟩) (by rw [em]; exact hok.1) ?_ (by rw [em]; exact h0) hL ?_ fun out ho2 eo => ?_))
  · rw [em]
    intro d hd
    obtain ⟨p, _, rfl⟩ := List.mem_map.mp hd
    exact ⟨_, rfl⟩
  · intro b hb
    have := hok.2.2 b.2 (by rw [← em]; exact List.mem_map.mpr ⟨b, hb, rfl⟩)
    have e : X.A.in1.units = X.A.units + 1 := rfl
    rw [e]
    omega
  · obtain ⟨ep', hat⟩ := sortedHeap_at (vs := ks.map fun x => Value.ref x.2.1) (out := out.toArray) hob
    have rv' := vals_of_each eo
    have hlen : (sortZ ((ks.map fun x => x.2.1).map V.ref) (kvs.map fun p => encT p.1)).length ≤ sizeLine := by
      unfold sortZ
      rw [List.length_map, List.length_mergeSort, List.length_zip, List.length_map, List.length_map]
      omega
    refine wpAny_pure ⟨_, rfl, .ref h'.objs.size, upd H h'.objs.size (.lst (sortZ ((ks.map fun x => x.2.1).map V.ref) (kvs.map fun p => encT p.1))), I1.laid (t' := tk) (fun b u e => ?_) (Nat.le_refl _) ⟨hlen, out, ep', ?_, hat⟩, rfl, q _ _ (I1.hok.fresh (Nat.le_refl _)) (isKeys_of pr)⟩
    · have hb : b < h'.objs.size := Heap.lt_size e
      rw [sortedHeap_old (Nat.ne_of_lt hb) (by rw [size_push']; exact Nat.lt_succ_of_lt hb)]
      exact Heap.get?_push_of_some _ e
    · unfold sortZ
      rw [List.map_map]
      exact rv'
end Wr
set_option maxHeartbeats 4000000
namespace Wr
open PySem L2
/-! ### two-sided -/
theorem room65 {k : Nat} {A : Around} (hr : Room k A) : A.units + 65 < cLine := by
  have := hr.un
  omega
theorem room1 {k : Nat} {A : Around} (hr : Room k A) : A.units + 1 < cLine := by
  have := hr.un
  omega
theorem k_op_inD {X : Cx} {K : PySem.W.Frag} (hu : X.A.units + 65 < cLine) (k : X.K = K) : OpR X (compareOp .In) (rInD K) := k ▸ op_inD hu
def keyOf (l : List Nat) : List L2.Key := l.map fun i : Nat => (Sum.inl (i : Int) : L2.Key)
theorem keyOf_inj : ∀ {a b : List Nat}, keyOf a = keyOf b → a = b
  | [], [], _ => rfl
  | [], _ :: _, h => by cases h
  | _ :: _, [], h => by cases h
  | x :: a, y :: b, h => by
    have h1 := List.cons.inj (show Sum.inl (x : Int) :: keyOf a = Sum.inl (y : Int) :: keyOf b from h)
    have h2 : (x : Int) = y := Sum.inl.inj h1.1
    rw [keyOf_inj h1.2, show x = y by omega]
theorem keyOf_kV (l : List Nat) : (keyOf l).map kV = l.map fun i : Nat => V.int (i : Int) := by
  unfold keyOf
  rw [List.map_map]
  rfl
structure KvOk (ks : List (List Nat)) (kvs : List (List L2.Key × V)) (ls : List (List Nat)) : Prop where
  keys : kvs.map (·.1) = ls.map keyOf
  mem : ∀ l, l ∈ ls ↔ l ∈ ks
  hd : ls[0]? = ks[0]?
  len : ls.length ≤ ks.length
theorem KvOk.put {ks : List (List Nat)} {kvs : List (List L2.Key × V)} {ls : List (List Nat)} (h : KvOk ks kvs ls) (l : List Nat) (v : V) : ∃ ls', KvOk (ks ++ [l]) (putK kvs (keyOf l) v) ls' := by
  unfold putK
  by_cases q : (kvs.any fun kv => decide (kv.1 = keyOf l)) = true
  · rw [if_pos q]
    obtain ⟨p, hp, e⟩ := List.any_eq_true.mp q
    have e := of_decide_eq_true e
    have hm : keyOf l ∈ kvs.map (·.1) := List.mem_map.mpr ⟨p, hp, e⟩
    rw [h.keys] at hm
    obtain ⟨l', hl', e'⟩ := List.mem_map.mp hm
    have := keyOf_inj e'
    subst this
    refine ⟨ls, ⟨?_, fun z => ?_, ?_, ?_⟩⟩
    · rw [List.map_map, ← h.keys]
      refine List.map_congr_left fun p _ => ?_
      show (if _ then _ else _ : List L2.Key × V).1 = p.1
      split <;> rfl
    · rw [List.mem_append, h.mem, List.mem_singleton]
      refine ⟨.inl, fun z => z.elim id fun z => by rw [z]; exact (h.mem _).mp hl'⟩
    · rw [h.hd, List.getElem?_append_left]
      exact List.length_pos_of_mem ((h.mem _).mp hl')
    · rw [List.length_append]
      exact Nat.le_trans h.len (Nat.le_add_right _ _)
  · rw [if_neg q]
    refine ⟨ls ++ [l], ⟨?_, fun z => ?_, ?_, ?_⟩⟩
    · rw [List.map_append, h.keys, List.map_append]
      rfl
    · rw [List.mem_append, List.mem_append, h.mem]
    · cases ls with
      | nil =>
        have : ks = [] := List.eq_nil_iff_forall_not_mem.mpr fun z hz => absurd ((h.mem z).mpr hz) List.not_mem_nil
        rw [this]
      | cons a ls =>
        have h2 := h.hd
        cases ks with
        | nil => cases h2
        | cons b ks => exact h2
    · rw [List.length_append, List.length_append]
      exact Nat.add_le_add_right h.len _
def EvDT (C : Cn) (te : TE) (G : En) (ks : List (List Nat)) : Prop := ∀ (O : List Addr) (H : Hp) (σ : L2.St), GamE C O H G σ → ∀ Q : VK, (∀ p kvs ls H', H p = none → Same H H' → H' p = some (.dT kvs) → KvOk ks kvs ls → Q (.ref p) H') → te σ H Q
theorem EvDT.app {C : Cn} {te : TE} {G : En} {ks : List (List Nat)} {H : Hp} {σ : L2.St} {Q : VK} (h : EvDT C te G ks) (g : GamE C [] H G σ) (q : ∀ p kvs ls H', H p = none → Same H H' → H' p = some (.dT kvs) → KvOk ks kvs ls → Q (.ref p) H') : te σ H Q := h [] H σ g Q q
theorem ev_dcT {C : Cn} {G : En} {α : Type} {wi : TI} {g : TG} {tk : TE} {b : V} {vs js : List Nat} (xs : List α) (A : α → D) (fk : α → List Nat) (u : α → List SV → List SV) (hi : EvI C wi G (xs.map A)) (hg : ∀ x ∈ xs, EvG C g js (A x) (u x)) (hlen : xs.length ≤ 100000)
    (hk : ∀ x ∈ xs, EvD C tk ((G.un vs).up (u x)) (.tup (dN (fk x)))) (hj : ∀ j ∈ js, j ∈ vs := by decide) : EvDT C (tDcT wi g tYes tk (tC b) vs) G (xs.map fk) := by
  intro O H σ gm Q q
  refine hi O H σ gm _ fun J H1 e1 w => fun Dl hD => ?_
  have gm1 := gm.mono e1
  let Pv : Nat → Hp → Prop := fun i H' => Same H1 H' ∧ ∃ kvs ls, H' Dl = some (.dT kvs) ∧ KvOk ((xs.take i).map fk) kvs ls
  refine ⟨fun i m H' => m = xs.length - i ∧ i ≤ xs.length ∧ Pv i H', ⟨xs.length, by simp, Nat.zero_le _, same_new hD, [], [], upd_same, ⟨rfl, fun _ => Iff.rfl, rfl, Nat.le_refl _⟩⟩, ?_⟩
  rintro i m H' ⟨rfl, hi', e2, kvs, ls, hacc, hr⟩
  have dm : Dom (Dl :: O) H' := (gm1.more hD e2 hacc).dom
  obtain ⟨w1, w2⟩ := w (Dl :: O) H' (same_out hD e2) dm
  by_cases hlt : i < xs.length
  · have hx : xs[i]? = some xs[i] := List.getElem?_eq_getElem hlt
    have hxm : xs[i] ∈ xs := List.getElem_mem hlt
    obtain ⟨go, yl⟩ := w1 i (A xs[i]) (by rw [List.getElem?_map, hx]; rfl)
    refine .inr ⟨go, Pv (i + 1), fun H'' pv => ⟨xs.length - (i + 1), by omega, rfl, hlt, pv⟩, fun x H2 hy => ?_⟩
    obtain ⟨e3, rx⟩ := yl x H2 hy
    have e13 := e2.trans e3
    have hD2 := e3 _ _ hacc rfl
    refine hg _ hxm (Dl :: O) H2 (wipeD G.De vs) (wipe σ vs) x rx ((gm1.sl.mono (same_out hD e13)).wipe vs) _ fun σ2 hs2 hl2 hc2 => ?_
    refine ⟨wipe_eq (hl2.trans (wipe_length ..)) fun j hj' => hj j (hc2 j hj'), ?_⟩
    have gt : GamE C (Dl :: O) H2 ((G.un vs).up (u xs[i])) σ2 := gm1.turn hD e13 hD2 hs2
    show tk σ2 H2 _
    refine hk _ hxm _ _ _ gt _ fun dk y H3 hdk e4 ry => ?_
    subst hdk
    obtain ⟨t, us, rfl, h6, h7⟩ := rep_tup.mp ry
    have h7 := repL_flat.mp h7
    subst h7
    have hD4 := e4 _ _ hD2 rfl
    obtain ⟨ls', hp⟩ := hr.put (fk xs[i]) b
    refine ⟨kvs, keyOf (fk xs[i]), t, rfl, ?_, hD4, ?_, ((e2.trans e3).trans e4).chg hD hD4 rfl, _, ls', upd_same, ?_⟩
    · rw [keyOf_kV]
      exact hide_le _ _ h6 rfl
    · have h1 := congrArg List.length hr.keys
      rw [List.length_map, List.length_map] at h1
      have h2 := hr.len
      rw [List.length_map, List.length_take] at h2
      exact Nat.lt_of_lt_of_le (show kvs.length < xs.length by omega) (Nat.le_trans hlen (by decide))
    · rw [List.take_add_one, hx, List.map_append]
      exact hp
  · have ei : i = xs.length := by omega
    subst ei
    rw [List.take_length] at hr
    rw [List.length_map] at w2
    exact .inl ⟨w2, q Dl kvs ls H' (e1.free hD) (e1.trans e2) hacc hr⟩
theorem isKeys_rep {C : Cn} {H : Hp} : ∀ {kvs : List (List L2.Key × V)} {bs : List Addr} {ls : List (List Nat)}, IsKeys H kvs bs → kvs.map (·.1) = ls.map keyOf → RepL C H (ls.map fun l => D.tup (dN l)) (bs.map V.ref)
  | [], _, ls, h, e => by
    cases h
    cases ls with
    | nil => exact .nil
    | cons => cases e
  | p :: kvs, _, ls, h, e => by
    cases h with
    | cons h1 h2 =>
      cases ls with
      | nil => cases e
      | cons l ls =>
        have e := List.cons.inj (show p.1 :: kvs.map (·.1) = keyOf l :: ls.map keyOf from e)
        refine RepL.cons (rep_tup.mpr ⟨_, _, rfl, h1, ?_⟩) (isKeys_rep h2 e.2)
        rw [e.1, keyOf_kV]
        exact repL_flat.mpr rfl
theorem enc_keys {kvs : List (List L2.Key × V)} {ls : List (List Nat)} (e : kvs.map (·.1) = ls.map keyOf) : (kvs.map fun p => encT p.1) = encL (ls.map fun l => D.tup (dN l)) := by
  rw [enc_lots, show (kvs.map fun p => encT p.1) = (kvs.map (·.1)).map encT by rw [List.map_map]; rfl, e, List.map_map]
  refine List.map_congr_left fun l _ => ?_
  show PyData.tuple ((keyOf l).map encK) = _
  unfold keyOf
  rw [List.map_map, List.map_map]
  rfl
def sp0 {α : Type} (C : Cn) (A : α → List D) (pre : α → Prop) (post : α → D → Prop) : Sp := fun vs H Q _ => ∃ x : α, LamX.TabS H C.tab lamQ ∧ RepL C H (A x) vs ∧ pre x ∧ ∀ d v H', post x d → Same H H' → Rep C H' d v → Q v H'
section
variable {C : Cn} {α : Type} {A : α → List D} {pre : α → Prop} {post : α → D → Prop}
theorem sp0_len {n : Nat} (h : ∀ x, (A x).length = n) : ∀ vs H Q E, sp0 C A pre post vs H Q E → vs.length = n := fun vs H Q E ⟨x, _, r, _⟩ => by
  rw [r.length, h]
theorem sp0_ret {te : TE} {N : List PySem.Str} (hs : ∀ x, pre x → ∀ H σ, GamE C [] H (En0 N.length (A x)) σ → ∀ Q : VK, (∀ d v H', post x d → Same H H' → Rep C H' d v → Q v H') → te σ H Q) :
    ∀ vs H Q E, sp0 C A pre post vs H Q E → (tRet te) { nx := fun _ H' => Q .non H', rt := Q } (start N vs) H := fun vs H Q E ⟨x, tb, r, hp, q⟩ => by
  refine hs x hp H _ ⟨(fun l hl => (List.not_mem_nil hl).elim), (fun l hl => (List.not_mem_nil hl).elim), List.nodup_nil, (fun p hp => (List.not_mem_nil hp).elim), ?_, tb⟩ Q q
  show SVs C (hide [] H) ((A x).map .im ++ List.replicate (N.length - (A x).length) .no) (vs.map some ++ List.replicate (N.length - vs.length) none)
  rw [r.length, hide_nil]
  exact (svs_im.mpr r).append (svs_no _ _)
end
def sidesA (x : W) : List (List Nat) := (herdsA x.1.dropLast).map (lotOf x)
abbrev N_two_sided_lots : List PySem.Str := ["web", "herd"]
theorem sc_two_sided_lots : FnScope N_two_sided_lots ["web"] (defScope s_two_sided_lots) := ⟨rfl, rfl, rfl, by decide +kernel, rfl, by decide +kernel, by decide +kernel⟩
def sp_two_sided_lots (C : Cn) : Sp := sp0 C (fun x : W => [dW x]) WOk (fun x d => ∃ ls : List (List Nat), (∀ l, l ∈ ls ↔ l ∈ sidesA x) ∧ d = dLs ls)
theorem lot_nil (x : W) : lotOf x [] = [] := by
  unfold lotOf
  refine List.filter_eq_nil_iff.mpr fun i _ => ?_
  simp [crosses]
theorem has_two_sided_lots {P : Program} {w : World} {K : PySem.W.Frag} {mg : PySem.Str → Option Value} {base : Heap} {C : Cn} (T : Tx K mg C.cls) : Has P w K mg base 2 "two_sided_lots" ["web"] (sp_two_sided_lots C) := by
  refine fn_hasS T 32 (d := d_two_sided_lots) rfl rfl (N := N_two_sided_lots) sc_two_sided_lots rfl rfl (fun _ _ _ _ _ _ us hl => match us, hl with | [_], _ => rfl) (sp0_len fun _ => rfl) (fun cdv A' outer s H E hr => ⟨_, (pss_one (ps_ret (pe_callB (call_sortDT rfl hr.units) (by rfl) T.xsorted bt_sorted (pa_cons (pe_dcT (own := [("herd", 1)]) (g := gName 1) (tt := tYes) (room1 hr) rfl sc_two_sided_lots.nd (k_pi_list (K := K) rfl (pe_has (has_all_herds T) (hr.mono (by decide)) (by rfl) (pa_cons (pv 0) pa_nil))) (blkOk_by (own := [("herd", 1)]) (N := N_two_sided_lots) (sc := defScope s_two_sided_lots) (by decide +kernel)) (fun _ _ _ _ _ => (pg_name (i := 1) sc_two_sided_lots.nd rfl (.inl rfl))) (fun _ _ _ _ _ => pts_nil) (fun _ _ _ _ _ => (pe_has (has_herd_lot T) (hr.mono (by decide)) (by rfl) (pa_cons (pv 0) (pa_cons (pv 1) pa_nil)))) (fun _ _ _ _ _ => pe_bl)) pa_nil)))), fun vs Q E' h => sp0_ret (fun x hx H σ g Q q => ?_) vs H Q E' h⟩)
  have hl : (herdsA x.1.dropLast).length ≤ 100000 := by
    rw [herdsA_len]
    have := WOk.len hx
    exact Nat.le_trans (Nat.pow_le_pow_right (by decide) (show x.1.dropLast.length ≤ 4 by rw [List.length_dropLast]; omega)) (by decide)
  have key : EvDT C (tDcT (iList K (tCall (sp_all_herds C) [] E0 (tCons (tVar 0) tNil))) (gName 1) tYes (tCall (sp_herd_lot C) [] E0 (tCons (tVar 0) (tCons (tVar 1) tNil))) (tC (.bl true)) [1]) ⟨[], [.im (dW x), .no]⟩ (sidesA x) :=
    ev_dcT (C := C) (js := [1]) (herdsA x.1.dropLast) (fun h => D.s (st h)) (lotOf x) (fun h l => l.set 1 (.im (.s (st h)))) (ei_list (ev_callD (R := (· = .lst ((herdsA x.1.dropLast).map fun h => D.s (st h)))) x (ea1 (ev_v rfl)) hx fun _ h => h)) (fun _ _ => eg_name) hl fun h hh =>
      ev_callD (x, h) (ea2 (ev_v rfl) (ev_v rfl)) (Nat.le_trans hx.nt (by decide)) fun _ h => h
  refine key.app (Q := fun v H1 => rSortDT [v] H1 Q) g fun p kvs ls H' np e hp kv => ?_
  · have h0 : ls[0]? = some [] := by
      rw [kv.hd]
      unfold sidesA
      rw [List.getElem?_map, herdsA_head]
      exact congrArg some (lot_nil x)
    refine ⟨p, kvs, rfl, hp, ?_, ?_, fun p2 bs np2 hk => ?_⟩
    · rw [enc_keys kv.keys]
      exact srt_lots ls h0
    · rw [enc_keys kv.keys, enc_lots, List.getElem?_map, h0]
      rfl
    · have rl := isKeys_rep (C := C) hk kv.keys
      have rs := repL_sort rl
      obtain ⟨m, hm, e1⟩ := sortD_lots ls
      refine q (dLs m) _ _ ⟨m, fun l => ?_, rfl⟩ (e.trans (same_new np2)) (rep_lst.mpr ⟨p2, _, rfl, upd_same, ?_⟩)
      · rw [hm.mem_iff]
        exact kv.mem l
      · rw [enc_keys kv.keys, ← e1]
        exact rs.mono (same_new np2).sub
theorem lay_ints : ∀ l : List Int, PyData.canLayAll0 (l.map PyData.int) = true
  | [] => by simp [PyData.canLayAll0]
  | a :: l => by simp [PyData.canLayAll0, PyData.canLay0, lay_ints l]
theorem shaped_tints (l : List Int) : PySem.SeqAt.shaped (.tuple (l.map PyData.int)) = true := by
  have h1 := PySem.W.depth_ints l
  show (PyData.canLay0 _ && decide (PyData.depth _ ≤ 64)) = true
  rw [Bool.and_eq_true]
  refine ⟨by simp only [PyData.canLay0]; exact lay_ints l, decide_eq_true ?_⟩
  simp only [PyData.depth]
  omega
theorem shaped_lots (l : List (List Nat)) : PySem.SeqAt.shaped (.list (encL (l.map fun l => D.tup (dN l)))) = true := by
  rw [enc_lots]
  have h1 : PyData.depthAll (l.map fun l => PyData.tuple ((l.map fun i : Nat => (i : Int)).map PyData.int)) ≤ 1 := by
    induction l with
    | nil => simp [PyData.depthAll]
    | cons a l ih =>
      have := PySem.W.depth_ints (a.map fun i : Nat => (i : Int))
      rw [List.map_cons, PyData.depthAll, PyData.depth, this]
      omega
  have h2 : PyData.canLayAll0 (l.map fun l => PyData.tuple ((l.map fun i : Nat => (i : Int)).map PyData.int)) = true := by
    induction l with
    | nil => simp [PyData.canLayAll0]
    | cons a l ih =>
      have := lay_ints (a.map fun i : Nat => (i : Int))
      have ih := ih (by simp only [List.map_cons, PyData.depthAll] at h1; omega)
      simp only [List.map_cons, PyData.canLayAll0, PyData.canLay0]
      rw [this, ih]
      rfl
  show (PyData.canLay0 _ && decide (PyData.depth _ ≤ 64)) = true
  rw [Bool.and_eq_true]
  refine ⟨by simp only [PyData.canLay0]; exact h2, decide_eq_true ?_⟩
  simp only [PyData.depth]
  omega
theorem cast_inj : ∀ {a b : List Nat}, (a.map fun i : Nat => (i : Int)) = b.map (fun i : Nat => (i : Int)) → a = b
  | [], [], _ => rfl
  | [], _ :: _, h => by cases h
  | _ :: _, [], h => by cases h
  | x :: a, y :: b, h => by
    have h1 := List.cons.inj h
    rw [cast_inj h1.2, show x = y from Int.ofNat.inj h1.1]
theorem eqv_lots (a b : List Nat) : PyData.eqv (.tuple ((a.map fun i : Nat => (i : Int)).map PyData.int)) (.tuple ((b.map fun i : Nat => (i : Int)).map PyData.int)) = decide (a = b) := by
  rw [PyData.eqv, PySem.W.ked_eqvAll]
  by_cases h : a = b
  · rw [h]
    simp
  · rw [decide_eq_false h, decide_eq_false fun z => h (cast_inj z)]
abbrev N_is_two_sided : List PySem.Str := ["web", "lot"]
theorem sc_is_two_sided : FnScope N_is_two_sided ["web", "lot"] (defScope s_is_two_sided) := ⟨rfl, rfl, rfl, by decide +kernel, rfl, by decide +kernel, by decide +kernel⟩
def sp_is_two_sided (C : Cn) : Sp := spT C (fun x : W => [dW x, .tup (dN (whole x))]) WOk (fun x d => d = .b (decide (whole x ∈ sidesA x)))
theorem has_is_two_sided {P : Program} {w : World} {K : PySem.W.Frag} {mg : PySem.Str → Option Value} {base : Heap} {C : Cn} (T : Tx K mg C.cls) : Has P w K mg base 6 "is_two_sided" ["web", "lot"] (sp_is_two_sided C) := by
  refine fn_has T 35 (d := d_is_two_sided) rfl rfl (N := N_is_two_sided) sc_is_two_sided rfl rfl (fun _ _ _ _ _ _ us hl => match us, hl with | [_, _], _ => rfl) (fun _ => rfl) (fun cdv A' outer s H E hr => ⟨_, (pss_cons (ps_expr (pe_has (has_check_both T) (hr.mono (by decide)) (by rfl) (pa_cons (pv 0) (pa_cons (pv 1) pa_nil))))
      (pss_one (ps_ret (pe_cmpR (k_op_inD (K := K) (room65 hr) rfl) (pv 1) (pe_has (has_two_sided_lots T) (hr.mono (by decide)) (by rfl) (pa_cons (pv 0) pa_nil)) (by rfl))))), fun x hx => ?_⟩)
  show SD C _ ⟨[], [.im (dW x), .im (.tup (dN (whole x)))]⟩ _ _
  refine sq_drop (P := fun _ => True) (ev_callD x (ea2 (ev_v rfl) (ev_v rfl)) hx fun _ _ => trivial) ?_
  refine sd_ret (d := .b (decide (whole x ∈ sidesA x))) (fun O H σ g Q q => ?_) rfl
  refine ev_v (i := 1) rfl O H σ g _ fun d v H1 hd e1 rv => ?_
  subst hd
  refine ea1 (ev_v (i := 0) rfl) O H1 σ (g.mono e1) _ fun ds vs H2 hds e2 rvs => ?_
  subst hds
  rw [List.append_nil]
  refine ⟨x, (e1.trans e2).tabs _ g.tb, rvs.mono hide_le, hx, fun d u H3 ⟨ls, hm, hd⟩ e3 ru => ?_⟩
  subst hd
  have rv3 : Rep C H3 (.tup (dN (whole x))) v := rv.mono (Sub.trans hide_le (e2.trans e3).sub)
  refine ⟨encD (.tup (dN (whole x))), encL (ls.map fun l => D.tup (dN l)), rep_dp _ _ (shp_tupN _) rv3, ?_, ?_, shaped_lots ls, ?_⟩
  · have := rep_dp (K := K) (dLs ls) u (by unfold dLs; rw [shpD]; exact shp_lots ls) ru
    unfold dLs at this
    rw [encD] at this
    exact this
  · rw [encD, enc_dN]
    exact shaped_tints _
  · refine q _ _ H3 rfl ((e1.trans e2).trans e3) (rep_v.mpr ?_)
    congr 1
    rw [enc_lots, List.any_map, Bool.eq_iff_iff, List.any_eq_true, decide_eq_true_iff]
    constructor
    · rintro ⟨l, hl, e⟩
      have e : PyData.eqv (.tuple ((l.map fun i : Nat => (i : Int)).map PyData.int)) (encD (.tup (dN (whole x)))) = true := e
      rw [encD, enc_dN, eqv_lots] at e
      rw [← of_decide_eq_true e]
      exact (hm l).mp hl
    · intro h
      refine ⟨whole x, (hm _).mpr h, ?_⟩
      show PyData.eqv (.tuple (((whole x).map fun i : Nat => (i : Int)).map PyData.int)) (encD (.tup (dN (whole x)))) = true
      rw [encD, enc_dN, eqv_lots]
      exact decide_eq_true rfl
end Wr
set_option maxHeartbeats 4000000
namespace Wr
open PySem PySem.Spec PyProof.Rows L2 LamX
/-! ### a lambda with a parameter and no captured name -/
/-- the function object at f, its code object at c -/
def LamO (f c : Addr) (q : PySem.Str) (params : Arguments) (body : Expr) (scope : Scope) : HO := .ext fun h => ∃ (pm ctv : Value), h.get? f = some (PySem.W.kla_obj "<lambda>" q params body scope [] pm c ctv)
theorem clo_nil {cells : List (PySem.Str × Addr)} : ∀ {names : List (PySem.Str × NameKind)}, (∀ y ∈ names, y.2 ≠ .free) → cloFrom cells names [] = []
  | [], _ => rfl
  | (a, k) :: r, h => by
    have h1 := h (a, k) (List.mem_cons_self ..)
    have ih := clo_nil (cells := cells) (names := r) fun y hy => h y (List.mem_cons_of_mem _ hy)
    cases k <;> first | exact ih | exact absurd rfl h1
theorem lam_made {X : Cx} {pins : List (Addr × Obj)} {σ : L2.St} {H : Hp} {s : Shared} {q : PySem.Str} {c P : Addr} {params : Arguments} {body : Expr} {scope : Scope} {pos : Pos} {E : Value → Shared → Prop} {Q : Value → Shared → Prop} (I : Inv X pins σ H s) (TB : TabB X.base X.mg c P) (hcode : X.env.code = .ref c)
    (hq : X.env.qual ++ "<lambda>" = q) (hT : TabS H P q) (hdef : defaultsOf params X.env = ([], [])) (hno : ∀ y ∈ scope.names, y.2 ≠ .free)
    (h : ∀ (f c' : Addr) (H1 : Hp) (s' : Shared), Inv X pins σ H1 s' → ExtN H H1 → (∀ a, H a ≠ none → H1 a ≠ none) → (∀ P', TabS H P' q → TabS H1 P' q) → H f = none →
      H1 f = some (LamO f c' q params body scope) → H1 c' = some (CodeO c' q) → Q (.ref f) s') :
    wpAny (model X.prog X.w) X.A (eval (.Lambda params body scope pos) X.env) Q E s := by
  subst hq
  obtain ⟨ps, hP, ht, ha⟩ := hT
  have hfree : ∀ y ∈ scope.names, y.2 = .free → ∃ c, X.env.cells.lookup y.1 = some c := fun y hy e => absurd e (hno y hy)
  have hcl := clo_nil (cells := X.env.cells) hno
  refine PySem.W.kla_eval hdef ?_
  have bP : s.heap.BuiltinsAt X.mg P := TB.bm.keeps I.bk
  have hP' : s.heap.get? P = some { cls := .none, data := .fields ps } := I.hok P _ hP
  have fin : ∀ (h' : Heap) (tk : Tok) (c' : Addr) (ctv : Value) (H1 : Hp), Inv X pins σ H1 { s with heap := h', toks := tk } → ExtN H H1 → (∀ a, H a ≠ none → H1 a ≠ none) → (∀ P', TabS H P' (X.env.qual ++ "<lambda>") → TabS H1 P' (X.env.qual ++ "<lambda>")) → H1 c' = some (CodeO c' (X.env.qual ++ "<lambda>")) →
      Q (.ref h'.objs.size) { s with heap := h'.push (PySem.W.kla_obj "<lambda>" (X.env.qual ++ "<lambda>") params body scope (cloFrom X.env.cells scope.names []) ((X.mg "__name__").getD .none) c' ctv), toks := tk } := fun h' tk c' ctv H1 I1 hE dom tabs cc => by
    rw [hcl]
    have nf : H1 h'.objs.size = none := I1.hok.fresh (Nat.le_refl _)
    have of1 : (h'.push (PySem.W.kla_obj "<lambda>" (X.env.qual ++ "<lambda>") params body scope [] ((X.mg "__name__").getD .none) c' ctv)).get? h'.objs.size = some (PySem.W.kla_obj "<lambda>" (X.env.qual ++ "<lambda>") params body scope [] ((X.mg "__name__").getD .none) c' ctv) := Heap.get?_push_size _ rfl
    have ok : ObjOk X.prog X.w (upd H1 h'.objs.size (LamO h'.objs.size c' (X.env.qual ++ "<lambda>") params body scope)) (h'.push (PySem.W.kla_obj "<lambda>" (X.env.qual ++ "<lambda>") params body scope [] ((X.mg "__name__").getD .none) c' ctv)) h'.objs.size (LamO h'.objs.size c' (X.env.qual ++ "<lambda>") params body scope) :=
      ⟨⟨_, _, of1⟩, ⟨_, of1⟩, fun h1 h2 ⟨pm, ct, e⟩ st => ⟨pm, ct, st _ e⟩⟩
    have I2 := I1.laid (t' := tk) (fun b o e => Heap.get?_push_of_some _ e) (Nat.le_refl _) ok
    have keep : ∀ b o, H1 b = some o → upd H1 h'.objs.size (LamO h'.objs.size c' (X.env.qual ++ "<lambda>") params body scope) b = some o := fun b o e => by
      rw [upd_ne (ne_of_none e nf)]
      exact e
    refine h _ c' _ _ I2 (hE.trans (ExtN.of keep)) (fun a ha' z => ?_) (fun P' hp => (tabs P' hp).ext keep) ?_ upd_same (keep _ _ cc)
    · cases e : H1 a with
      | none => exact dom a ha' e
      | some o =>
        rw [keep _ _ e] at z
        cases z
    · cases e : H h'.objs.size with
      | none => rfl
      | some o => exact absurd nf (dom _ (by rw [e]; exact fun z => nomatch z))
  cases hc : codeAmong pos ps.toList with
  | none =>
    refine PySem.W.kla_makeFunction (mg := X.mg) (c := c) (P := P) (ps := ps) (closure_ok hfree) I.ok.glob (I.mod.glob.keeps I.bk) hcode (TB.code.keeps I.bk) hP' ht hc TB.gP bP fun c' ctv h' tk hx hge hlt hrec htb => ?_
    obtain ⟨c2, oc, vs, t, e2, hoc, hd, hv⟩ := hrec
    cases e2
    have nC : H c' = none := I.hok.fresh hge
    have I1 := inv_table (t' := tk) (more := #[rawInt pos.line, rawInt pos.col, .ref c']) (h' := h') (q := X.env.qual ++ "<lambda>") I hP (fun b o hb e => hx b o hb e) htb hge ⟨oc, vs, t, hoc, hd, hv⟩
    have hE : ExtN H (upd (upd H P (.tbl (ps ++ #[rawInt pos.line, rawInt pos.col, .ref c']))) c' (CodeO c' (X.env.qual ++ "<lambda>"))) := fun b o e n => by
      rw [upd_ne (ne_of_none e nC), upd_ne (fun z => n ps (Option.some.inj (e.symm.trans (by rw [z]; exact hP))))]
      exact e
    have eL : (ps ++ #[rawInt pos.line, rawInt pos.col, .ref c']).toList = ps.toList ++ [rawInt pos.line, rawInt pos.col, .ref c'] := by simp
    have tabs : ∀ P', TabS H P' (X.env.qual ++ "<lambda>") → TabS (upd (upd H P (.tbl (ps ++ #[rawInt pos.line, rawInt pos.col, .ref c']))) c' (CodeO c' (X.env.qual ++ "<lambda>"))) P' (X.env.qual ++ "<lambda>") := fun P' hp => by
      by_cases hb : P' = P
      · rw [hb]
        refine ⟨_, by rw [upd_ne (ne_of_none hP nC), upd_same], by rw [eL]; exact PySem.TriplesOk_snoc _ _ _ _ ht, fun p' cv hcv => ?_⟩
        rw [eL] at hcv
        rcases among_app _ ht hcv with z | z
        · obtain ⟨c0, e1, e2⟩ := ha p' cv z
          exact ⟨c0, e1, hE _ _ e2 codeO_ne⟩
        · exact ⟨c', z, upd_same⟩
      · obtain ⟨ps', a1, a2, a3⟩ := hp
        refine ⟨ps', by rw [upd_ne (ne_of_none a1 nC), upd_ne hb]; exact a1, a2, fun p' cv hcv => ?_⟩
        obtain ⟨c0, e1, e2⟩ := a3 p' cv hcv
        exact ⟨c0, e1, hE _ _ e2 codeO_ne⟩
    have dom : ∀ a, H a ≠ none → upd (upd H P (.tbl (ps ++ #[rawInt pos.line, rawInt pos.col, .ref c']))) c' (CodeO c' (X.env.qual ++ "<lambda>")) a ≠ none := fun a h1 => by
      by_cases z : a = c'
      · rw [z, upd_same]
        exact fun z => nomatch z
      · rw [upd_ne z]
        by_cases z : a = P
        · rw [z, upd_same]
          exact fun z => nomatch z
        · rw [upd_ne z]
          exact h1
    have cc : upd (upd H P (.tbl (ps ++ #[rawInt pos.line, rawInt pos.col, .ref c']))) c' (CodeO c' (X.env.qual ++ "<lambda>")) c' = some (CodeO c' (X.env.qual ++ "<lambda>")) := upd_same
    generalize upd (upd H P (.tbl (ps ++ #[rawInt pos.line, rawInt pos.col, .ref c']))) c' (CodeO c' (X.env.qual ++ "<lambda>")) = H1 at I1 hE tabs dom cc ⊢
    exact fin h' tk c' ctv H1 I1 hE dom tabs cc
  | some cv =>
    obtain ⟨c', e, hco⟩ := ha pos cv hc
    subst e
    refine PySem.W.kla_makeFunctionHit (mg := X.mg) (c := c) (P := P) (ps := ps) (closure_ok hfree) I.ok.glob (I.mod.glob.keeps I.bk) hcode (TB.code.keeps I.bk) hP' ht hc bP fun ctv h' tk hx hsz => ?_
    exact fin h' tk c' ctv H (I.kept hx) (ExtN.refl H) (fun _ h => h) (fun _ h => h) hco
/-- the lambda is called -/
theorem lam_run {CX : CXT} {P : Program} {w : World} {K : PySem.W.Frag} {mg : PySem.Str → Option Value} {base : Heap} {k : Nat} {f c' : Addr} {q : PySem.Str} {params : Arguments} {body : Expr} {scope : Scope} {pm ctv : Value} {N : List PySem.Str} {a : PySem.Str} {A : Around} {outer : List Env} {s : Shared} {H : Hp} {u : Value} {v : V} {Q : VK} {E : XK} {tb : TE}
    (of1 : s.heap.get? f = some (PySem.W.kla_obj "<lambda>" q params body scope [] pm c' ctv)) (hco : H c' = some (CodeO c' q)) (S : FnScope N [a] scope) (hr : Room (k + 1) A) (e0 : Env0 P w K mg base A outer s H)
    (hbind : bindArgs (PySem.W.kla_fn "<lambda>" q params body scope [] pm (.ref c') ctv) ⟨[u], []⟩ = pure [(a, u)]) (r : RelV v u)
    (hbody : Room k (A.deeper (envOfC q scope s.heap.objs.size f (.ref c'))) → PE (cxOf CX P w K mg base N q scope f (.ref c') A outer s H E) body tb ∧ tb (L2.start N [v]) H Q) :
    codeAny (model P w) A (.call (.ref f) ⟨[u], []⟩) (L2.CR CX outer P w H s Q E) s := by
  have lim : s.heap.NoLimit := e0.mod.nolimit.keeps fun b o e => (e0.bs b o e).1
  obtain ⟨⟨oc, vs, t, hoc, hdc, hvc⟩, _, _⟩ := e0.hok c' _ hco
  refine PySem.W.kla_callFunE hr.depth of1 rfl S.co S.gen rfl ⟨c', oc, vs, t, rfl, hoc, hdc, hvc⟩ ?_
  rw [hbind]
  have hkind : ∀ y ∈ [(a, u)], scope.names.lookup y.1 = some .local ∨ (scope.names.lookup y.1 = some .cell ∧ ((cellsFrom (s.heap.objs.size + 1) scope.names []).lookup y.1).isSome = true) := fun y hy => by
    have := List.mem_singleton.mp hy
    subst this
    rcases S.par a (List.mem_singleton.mpr rfl) with z | z
    · exact .inl z
    · exact .inr ⟨z, PySem.W.cellsFrom_some _ _ _ (.inl z)⟩
  refine wpAny_pure (wpAny_newFunctionEnv_cells S.kind hkind fun env he s1 x => ?_)
  subst he
  refine ⟨lim.keeps x.toInCall.keep, ?_⟩
  obtain ⟨ht, hq⟩ := hbody (hr.deeper _)
  have I : Inv (cxOf CX P w K mg base N q scope f (.ref c') A outer s H E) [] (L2.start N [v]) H s1 := inv_start (us := [u]) (ps := [a]) S hr.hd e0 rfl (.cons r .nil) x
  refine PySem.W.kla_codeExpr (wpAny_mono (ht.run [] _ _ H Q I hq) (fun w' s' hs => ?_) fun e s' hs => hs)
  obtain ⟨v', H', J, rv, q⟩ := hs
  exact ⟨v', H', J.os, J.bare, J.base, J.hok, rv, q⟩
end Wr
set_option maxHeartbeats 4000000
namespace Wr
open PySem L2
/-! ### the rooms' test -/
def lamE : Expr := match (defBody s_check_rooms).getD 1 (.Pass ⟨0, 0, 0, 0⟩) with
  | .Assign _ (.Call _ (_ :: .BinOp (.List (l :: _) _) _ _ _ :: _) _ _) _ => l
  | _ => .Name "" ⟨0, 0, 0, 0⟩
def lamP : Arguments := match lamE with
  | .Lambda a _ _ _ => a
  | _ => defArgs s_check_rooms
def lamB : Expr := match lamE with
  | .Lambda _ b _ _ => b
  | _ => .Name "" ⟨0, 0, 0, 0⟩
def lamSc : Scope := match lamE with
  | .Lambda _ _ s _ => s
  | _ => defScope s_check_rooms
def lamF (f c : Addr) : Heap → Prop := fun h => ∃ (pm ctv : Value), h.get? f = some (PySem.W.kla_obj "<lambda>" lamQ lamP lamB lamSc [] pm c ctv)
structure TabC (K : PySem.W.Frag) (mg : PySem.Str → Option Value) (base : Heap) (C : Cn) : Prop where
  ex : ∃ (c : Addr) (oc : Value) (od : Option Addr) (fd : FuncData) (osl : Array (Option Value)), K.lookup (He.fAd K d_check_rooms.at_) = some ⟨oc, od, .func fd, osl⟩ ∧ fd.code = .ref c ∧ LamX.TabB base mg c C.tab
  lam : C.lam = lamF
theorem sc_lam : FnScope ["value"] ["value"] lamSc := ⟨rfl, rfl, rfl, by decide +kernel, rfl, by decide +kernel, by decide +kernel⟩
def sp_lam (C : Cn) : Sp := spT C (fun n : Int => [D.i n]) (fun _ => True) (fun n d => d = .b (decide (0 ≤ n) && decide (n ≤ 1000000000000)))
def tLamB (C : Cn) : TE := tCall (sp_is_between C) [] E0 (tCons (tVar 0) (tCons (tC (.int 0)) (tCons (tC (.int 1000000000000)) tNil)))
theorem lam_body {P : Program} {w : World} {K : PySem.W.Frag} {mg : PySem.Str → Option Value} {base : Heap} {C : Cn} (T : Tx K mg C.cls) {f : Addr} {cd : Value} {A : Around} {outer : List Env} {s : Shared} {H : Hp} {E : XK} (hr : Room 2 (A.deeper (PyProof.Rows.envOfC lamQ lamSc s.heap.objs.size f cd))) :
    PE (cxOf CX0 P w K mg base ["value"] lamQ lamSc f cd A outer s H E) lamB (tLamB C) :=
  PE.nox (pe_has (has_is_between T) (hr.mono (by decide)) (by rfl) (pa_cons (pv 0) (pa_cons pe_int (pa_cons (pe_globI (by rfl) T.iMOST_ROOM) pa_nil))))
theorem lam_does {C : Cn} {v : V} {H : Hp} {Q : VK} {E : XK} (h : sp_lam C [v] H Q E) : tLamB C (L2.start ["value"] [v]) H Q := by
  have := sp_run (t := tRet (tLamB C)) (N := ["value"]) (fun n hp => (by
    show SD C (tRet (tLamB C)) ⟨[], [.im (.i n)]⟩ _ _
    exact sd_ret (ev_callD (R := (· = .b (decide (0 ≤ n) && decide (n ≤ 1000000000000)))) (n, 0, 1000000000000) (ea3 (ev_v rfl) ev_c ev_c) trivial fun _ h => h) rfl)) _ H Q E h
  exact this
def tLamCall (C : Cn) (i : Nat) (ta : TA) : TE := fun σ H Q => ∃ f c, σ[i]? = some (some (.ref f)) ∧ H f = some (.ext (C.lam f c)) ∧ H c = some (LamX.CodeO c lamQ) ∧ ta σ H fun vs H1 => H1 f = some (.ext (C.lam f c)) ∧ H1 c = some (LamX.CodeO c lamQ) ∧ vs.length = 1 ∧ sp_lam C vs H1 Q E0
theorem pe_lamCall {X : Cx} {C : Cn} {i : Nat} {x : PySem.Str} {e : Expr} {ta : TA} {p pos : Pos} (T : Tx X.K X.mg C.cls) (hl : C.lam = lamF) (hr : Room 3 X.A) (hN : X.N[i]? = some x) (hv : Vis X.env.scope x) (ha : PA X [e] ta) (hd : (x == ("__debug__" : PySem.Str)) = false := by decide) (hcd : (x == ("__classdict__" : PySem.Str)) = false := by decide)
    (he : starEach [e] X.env = (false, eval e X.env) :: starEach [] X.env := by rfl) (hpl : (backTo pos (starEach [] X.env)).any (·.1) = false := by rfl) : PE X (.Call (.Name x p) [e] [] pos) (tLamCall C i ta) := by
  refine ⟨fun pins s σ H Q I h => ?_⟩
  obtain ⟨f, c, hs, hf, hc, h⟩ := h
  refine wpAny_Call_Name_kw (thn ((pe_var (pos := p) (i := i) hN hv hd hcd).run pins s σ H (fun v H1 => v = .ref f ∧ H1 = H) I ⟨.ref f, hs, rfl, rfl⟩) fun u s1 ⟨v, H1, I1, r1, q1⟩ => ?_)
  obtain ⟨ev, eH⟩ := q1
  subst ev
  rw [eH] at I1
  obtain rfl : u = Value.ref f := r1
  have get : ∀ {s : Shared} {H : Hp}, Inv X pins σ H s → H f = some (.ext (C.lam f c)) → ∃ (pm ctv : Value), s.heap.get? f = some (PySem.W.kla_obj "<lambda>" lamQ lamP lamB lamSc [] pm c ctv) := fun {s H} I e => by
    rw [hl] at e
    obtain ⟨h1, _, _⟩ := I.hok f _ e
    exact h1
  obtain ⟨pm, ctv, of1⟩ := get I1 hf
  refine PySem.W.callWith_F ⟨_, _, _, _, of1⟩ (thn (ha.run pos pins s1 σ H _ I1 h) fun us s2 ⟨vs, H2, I2, r, hf2, hc2, hlen, q⟩ => ?_) he hpl
  obtain ⟨pm2, ctv2, of2⟩ := get I2 hf2
  refine ⟨⟨_, _, _, _, of2⟩, ?_⟩
  obtain ⟨v, rfl⟩ : ∃ v, vs = [v] := List.length_eq_one_iff.mp hlen
  obtain ⟨u, rfl, rv⟩ := r.one
  have rc : codeAny (model X.prog X.w) X.A (.call (.ref f) ⟨[u], []⟩) (L2.CR CX0 X.stack X.prog X.w H2 s2 Q E0) s2 :=
    lam_run (N := ["value"]) (a := "value") (k := 2) of2 hc2 sc_lam hr I2.env0 rfl rv fun hr' => ⟨lam_body T hr', lam_does q⟩
  refine wpAny_call (codeAny_mono rc fun r s3 hq => ?_)
  cases r with
  | error e => exact (show False from hq).elim
  | ok fl =>
    cases fl with
    | ret u => exact I2.after hq
    | next => exact False.elim hq
    | brk => exact False.elim hq
    | cont => exact False.elim hq
theorem ev_lamCall {C : Cn} {G : En} {i : Nat} {te : TE} {n : Int} (hi : G.De[i]? = some (.im .fn)) (h : EvD C te G (.i n)) : EvD C (tLamCall C i (tCons te tNil)) G (.b (decide (0 ≤ n) && decide (n ≤ 1000000000000))) := fun O H σ g Q q => by
  obtain ⟨o, h1, v, rfl, rv⟩ := g.sl.get hi
  obtain ⟨f, c, rfl, hf, hc⟩ := rep_fn.mp rv
  have hf := hide_le _ _ hf rfl
  have hc := hide_le _ _ hc (by unfold LamX.CodeO; rfl)
  refine ⟨f, c, h1, hf, hc, ea1 h O H σ g _ fun ds vs H1 hd e1 rvs => ?_⟩
  subst hd
  refine ⟨e1 _ _ hf rfl, e1 _ _ hc (by unfold LamX.CodeO; rfl), rvs.length, O, n, e1.tabs _ g.tb, g.dom.mono e1, rvs, trivial, fun d v H' hd e2 rv => q d v H' hd (e1.trans e2) rv⟩
abbrev N_first_wrong : List PySem.Str := ["value", "tests", "index", "test"]
theorem sc_first_wrong : FnScope N_first_wrong ["value", "tests"] (defScope s_first_wrong) := ⟨rfl, rfl, rfl, by decide +kernel, rfl, by decide +kernel, by decide +kernel⟩
def sp_first_wrong (C : Cn) : Sp := spT C (fun ns : List Int => [.tup (dI ns), .lst (List.replicate ns.length .fn)]) (fun ns => ns.length ≤ 1000 ∧ ∀ n ∈ ns, 0 ≤ n ∧ n ≤ 1000000000000) (fun _ d => d = .n)
theorem has_first_wrong {P : Program} {w : World} {K : PySem.W.Frag} {mg : PySem.Str → Option Value} {base : Heap} {C : Cn} (T : Tx K mg C.cls) (TB : TabC K mg base C) : Has P w K mg base 4 "first_wrong" ["value", "tests"] (sp_first_wrong C) := by
  refine fn_has T 2 (d := d_first_wrong) rfl rfl (N := N_first_wrong) sc_first_wrong rfl rfl (fun _ _ _ _ _ _ us hl => match us, hl with | [_, _], _ => rfl) (fun _ => rfl) (fun cdv A' outer s H E hr => ⟨_, (pss_cons (ps_if (PW.pt (pw_or (pt_not (pt_val (pe_callB call_isi (by rfl) T.xisinstance bt_isinstance (pa_cons (pv 0) (pa_cons (pe_bltn (v := .ty "tuple") (by rfl) T.xtuple bt_tuple rfl) pa_nil))))) (pw_or1 (pt_cmpR op_ne (pe_callB (k_call_len (K := K) rfl) (by rfl) T.xlen bt_len (pa_cons (pv 0) pa_nil)) (pe_callB (k_call_len (K := K) rfl) (by rfl) T.xlen bt_len (pa_cons (pv 1) pa_nil)) (nomark _))))) (pss_one (ps_ret (pe_lst (pa_cons pe_non pa_nil)))) pss_nil)
      (pss_cons (ps_for PassesOwn.never rfl (k_pi_enum (K := K) rfl (by rfl) T.xenumerate (pa_cons (pv 1) pa_nil)) (pg_tup rfl (pgs_cons (pg_name (i := 2) sc_first_wrong.nd rfl (.inl rfl)) (pgs_cons (pg_name (i := 3) sc_first_wrong.nd rfl (.inl rfl)) pgs_nil))) (pss_one (ps_if (pt_not (pt_val (pe_lamCall (i := 3) T TB.lam (hr.mono (by decide)) rfl (.inl rfl) (pa_cons (pe_ix (k_ix_tup (K := K) rfl) (pv 0) (pv 2) (fun _ _ => rfl)) pa_nil)))) (pss_one (ps_ret (pe_lst (pa_cons (pv 2) pa_nil)))) pss_nil)))
      (pss_one (ps_ret pe_non)))), fun x hx => ?_⟩)
  obtain ⟨hl, hn⟩ := hx
  show SD C _ ⟨[], [.im (.tup (dI x)), .im (.lst (List.replicate x.length .fn)), .no, .no]⟩ _ _
  refine sq_no (EvT.to (et_or (a := false) (b := false) (et_not (a := true) (et_B (ev_cbD (ea2 (ev_v rfl) ev_c) (cr_isiT (b := true) (by decide +kernel))))) fun _ => EvT.to (et_test (ev_opD (ev_lenT (ev_v rfl)) (ev_lenL (ev_v rfl)) rr_neI)) ?_) rfl) ?_
  · unfold dI
    rw [List.length_map, List.length_replicate]
    simp
  refine sq_for (C := C) (js := [2, 3]) (List.range x.length) (fun i => D.tup [D.i (i : Nat), .fn]) (fun i l => (l.set 2 (.im (.i (i : Nat)))).set 3 (.im .fn)) (fun _ G => ∃ a b, G = ⟨[], [.im (.tup (dI x)), .im (.lst (List.replicate x.length .fn)), a, b]⟩)
    ((ei_enum (ea1 (ev_v rfl))).to ?_) (fun _ _ => eg_pair) ⟨.no, .no, rfl⟩ ?_ ?_
  · apply List.ext_getElem?
    intro i
    unfold enumD
    rw [List.getElem?_mapIdx, List.getElem?_map]
    by_cases h : i < x.length
    · rw [List.getElem?_replicate, if_pos h, List.getElem?_range h]
      rfl
    · rw [List.getElem?_replicate, if_neg h, List.getElem?_eq_none (by rw [List.length_range]; omega)]
      rfl
  · rintro i j G hi ⟨a, b, rfl⟩
    have hj : i < x.length ∧ i = j := by
      have h1 := (List.getElem?_eq_some_iff.mp hi).1
      rw [List.length_range] at h1
      rw [List.getElem?_range h1] at hi
      exact ⟨h1, Option.some.inj hi⟩
    obtain ⟨hj, rfl⟩ := hj
    have hm := hn x[i] (List.getElem_mem hj)
    refine sd_no (et_not (a := true) (et_B (EvR.to (ev_lamCall rfl (ev_opD (ev_v rfl) (ev_v rfl) (rr_ixT (d := .i x[i]) (atI_n ?_) rfl))) ?_))) ⟨_, _, rfl⟩
    · unfold dI
      rw [List.getElem?_map, List.getElem?_eq_getElem hj]
      rfl
    · rw [decide_eq_true hm.1, decide_eq_true hm.2]
      rfl
  · rintro G ⟨a, b, rfl⟩
    exact sd_ret (d := .n) ev_c rfl
end Wr
set_option maxHeartbeats 4000000
namespace Wr
open PySem L2
/-! ### check_rooms and what stands on it -/
def tLamMade (C : Cn) : TE := fun σ H Q => LamX.TabS H C.tab lamQ ∧ ∀ f c H1, LamX.ExtN H H1 → (∀ a, H a ≠ none → H1 a ≠ none) → (∀ P', LamX.TabS H P' lamQ → LamX.TabS H1 P' lamQ) → H f = none → H1 f = some (.ext (lamF f c)) → H1 c = some (LamX.CodeO c lamQ) → Q (.ref f) H1
theorem pe_lamMade {X : Cx} {C : Cn} {c : Addr} {pos : Pos} (hl : C.lam = lamF) (TBc : LamX.TabB X.base X.mg c C.tab) (hc : X.env.code = .ref c) (hq : X.env.qual ++ "<lambda>" = lamQ) (hdef : defaultsOf lamP X.env = ([], [])) : PE X (.Lambda lamP lamB lamSc pos) (tLamMade C) := by
  refine ⟨fun pins s σ H Q I h => ?_⟩
  obtain ⟨hT, h⟩ := h
  exact lam_made I TBc hc hq hT hdef (by decide +kernel) fun f c' H1 s' I1 eN dom tabs nf hf hc' => ⟨.ref f, H1, I1, rfl, h f c' H1 eN dom tabs nf hf hc'⟩
theorem ev_lamMade {C : Cn} {G : En} {σ : L2.St} {H : Hp} (hl : C.lam = lamF) (g : GamE C [] H G σ) {Q : VK} (q : ∀ f H1, Same H H1 → H f = none → Rep C H1 .fn (.ref f) → Q (.ref f) H1) : tLamMade C σ H Q :=
  ⟨g.tb, fun f c H1 eN dom tabs nf hf hc => q f H1 ⟨fun a o h nt => eN a o h (fun ps z => by rw [z] at nt; cases nt), dom, tabs⟩ nf (rep_fn.mpr ⟨f, c, rfl, by rw [hl]; exact hf, hc⟩)⟩
theorem app_asg {te : TE} {g : TG} {u : TS} {D : Ends} {σ : L2.St} {H : Hp} (h : te σ H (fun x H1 => g x σ H1 (u D))) : (tSeq (tAsg te g) u) D σ H := h
theorem app_call {sp : Sp} {E : XK} {t : TA} {σ : L2.St} {H : Hp} {Q : VK} (h : t σ H (fun vs H1 => sp (vs ++ []) H1 Q E)) : tCall sp [] E t σ H Q := h
theorem app_cons {ta : TE} {tr : TA} {σ : L2.St} {H : Hp} {Q : List V → Hp → Prop} (h : ta σ H (fun x H1 => tr σ H1 fun xs H2 => Q (x :: xs) H2)) : tCons ta tr σ H Q := h
theorem app_op {r : L2.R2} {ta tb : TE} {σ : L2.St} {H : Hp} {Q : VK} (h : ta σ H (fun x H1 => tb σ H1 fun y H2 => r x y H2 Q)) : tOp r ta tb σ H Q := h
theorem app_lst {t : TA} {σ : L2.St} {H : Hp} {Q : VK} (h : t σ H fun xs H1 => xs.length ≤ sizeLine ∧ ∀ p, H1 p = none → Q (.ref p) (upd H1 p (.lst xs))) : (tLst t) σ H Q := h
theorem fn_hasC {P : Program} {w : World} {K : PySem.W.Frag} {mg : PySem.Str → Option Value} {base : Heap} {C : Cn} (T : Tx K mg C.cls) (TB : TabC K mg base C) {N ps : List PySem.Str} {k : Nat} {sp : Sp}
    (S : FnScope N ps d_check_rooms.scope)
    (bnd : ∀ (kV doc pm : Value) (an : Option Addr) (cdv ct : Value) (us : List Value), us.length = ps.length → bindArgs (PySem.W.fnOf d_check_rooms.name d_check_rooms.qual d_check_rooms.params d_check_rooms.body d_check_rooms.scope .none kV doc pm an cdv ct) ⟨us, []⟩ = pure (ps.zip us)) (len : ∀ vs H Q E, sp vs H Q E → vs.length = ps.length)
    (body : ∀ (c : Addr) (A' : Around) (outer : List Env) (s : Shared) (H : Hp) (E : XK), LamX.TabB base mg c C.tab → Room k (A'.deeper (PyProof.Rows.envOfC d_check_rooms.qual d_check_rooms.scope s.heap.objs.size (He.fAd K d_check_rooms.at_) (.ref c))) →
      ∃ t, PSs (cxOf CX0 P w K mg base N d_check_rooms.qual d_check_rooms.scope (He.fAd K d_check_rooms.at_) (.ref c) A' outer s H E).nox d_check_rooms.body t ∧ ∀ vs Q E', sp vs H Q E' → t { nx := fun _ H' => Q .non H', rt := Q } (start N vs) H) :
    Has P w K mg base (k + 1) "check_rooms" ps sp := by
  obtain ⟨fd, F⟩ := T.fns 49 d_check_rooms rfl
  have F' : FunD K d_check_rooms.name d_check_rooms.qual d_check_rooms.params d_check_rooms.body d_check_rooms.scope [] [] (He.fAd K d_check_rooms.at_) fd := F
  have hb := F'.bindsN bnd
  have hg := T.glo 49 d_check_rooms rfl rfl
  obtain ⟨oc, od, dV, kV, doc, pm, an, cdv, ct, osl, e, lk, hcd, _, _⟩ := F'.ex
  obtain ⟨c, oc', od', fd', osl', lk', hcode, hB⟩ := TB.ex
  rw [lk] at lk'
  have e2 := Option.some.inj lk'
  have e3 : fd = fd' := by
    injection e2 with _ _ e4 _
    injection e4
  subst e
  rw [← e3] at hcode
  have hc : cdv = .ref c := hcode
  subst hc
  refine ⟨_, _, fn_of lk hcd S len (fun A' outer s H vs Q E hr h => ?_), hg, F'.kp, hb⟩
  obtain ⟨t, ht, q⟩ := body c A' outer s H E hB hr
  exact ⟨t, ht.nox, q vs Q E h⟩
structure RoomX where
  x : W
  rooms : List Int
def RoomOk (y : RoomX) : Prop := WOk y.x ∧ y.rooms.length = y.x.2.length ∧ ∀ n ∈ y.rooms, 0 ≤ n ∧ n ≤ 1000000000000
abbrev N_check_rooms : List PySem.Str := ["web", "rooms", "wrong"]
theorem sc_check_rooms : FnScope N_check_rooms ["web", "rooms"] (defScope s_check_rooms) := ⟨rfl, rfl, rfl, by decide +kernel, rfl, by decide +kernel, by decide +kernel⟩
def sp_check_rooms (C : Cn) : Sp := sp0 C (fun y : RoomX => [dW y.x, .tup (dI y.rooms)]) RoomOk (fun _ d => d = .n)
theorem has_check_rooms {P : Program} {w : World} {K : PySem.W.Frag} {mg : PySem.Str → Option Value} {base : Heap} {C : Cn} (T : Tx K mg C.cls) (TB : TabC K mg base C) : Has P w K mg base 5 "check_rooms" ["web", "rooms"] (sp_check_rooms C) := by
  refine fn_hasC T TB (N := N_check_rooms) sc_check_rooms (fun _ _ _ _ _ _ us hl => match us, hl with | [_, _], _ => rfl) (sp0_len fun _ => rfl) (fun c A' outer s H E TBc hr => ⟨_, (pss_cons (ps_expr (pe_has (has_check_web T) (hr.mono (by decide)) (by rfl) (pa_cons (pv 0) pa_nil)))
      (pss_cons (ps_set (i := 2) sc_check_rooms.nd rfl (.inl rfl) (pe_has (has_first_wrong T TB) (hr.mono (by decide)) (by rfl) (pa_cons (pv 1) (pa_cons (pe_op op_rep (pe_lst (pa_cons (pe_lamMade TB.lam TBc rfl rfl rfl) pa_nil)) (pe_callB (k_call_lenW (has_Web_len T) T.ml (hr.mono (by decide))) (by rfl) T.xlen bt_len (pa_cons (pv 0) pa_nil))) pa_nil))))
      (pss_one (ps_if (pt_cmpR op_notN (pv 2) pe_non (nomark _)) (pss_one ps_never) pss_nil)))) , fun vs Q E' h => ?_⟩)
  obtain ⟨⟨x, rooms⟩, tb, r, ⟨hx, hl, hn⟩, q⟩ := h
  simp only at hx hl hn
  have nt := hx.nt
  obtain ⟨v0, r0, rfl, k0, k1⟩ := repL_cons.mp r
  obtain ⟨v1, r1, rfl, k2, k3⟩ := repL_cons.mp k1
  obtain rfl := repL_nil.mp k3
  have g : GamE C [] H ⟨[], [.im (dW x), .im (.tup (dI rooms)), .no]⟩ (start N_check_rooms [v0, v1]) := by
    refine ⟨(fun l hl => (List.not_mem_nil hl).elim), (fun l hl => (List.not_mem_nil hl).elim), List.nodup_nil, (fun p hp => (List.not_mem_nil hp).elim), ?_, tb⟩
    rw [hide_nil]
    exact ⟨_, _, rfl, sv_im k0, _, _, rfl, sv_im k2, none, _, rfl, trivial, rfl⟩
  refine ev_callD (R := fun _ => True) (st x.1, x.2.map tS) (ea1 (ev_v (i := 0) rfl)) trivial (fun _ _ => trivial) [] H _ g _ fun d v H1 _ e1 _ => ?_
  have g1 := g.mono e1
  dsimp only
  refine app_asg ?_
  refine app_call ?_
  refine app_cons ?_
  refine ev_v (i := 1) (d := .tup (dI rooms)) rfl [] H1 _ g1 _ fun d v1' H2 hd e2 rv1 => ?_
  subst hd
  have g2 := g1.mono e2
  refine app_cons ?_
  refine app_op ?_
  refine app_lst ?_
  refine app_cons ?_
  refine ev_lamMade TB.lam g2 fun f H3 e3 nf rf => ⟨(by decide : 1 ≤ sizeLine), fun p np => ?_⟩
  have g3 := (g2.mono e3).mono (same_new (o := .lst [.ref f]) np)
  refine ev_lenX (x := x) (by omega) (ev_v (i := 0) rfl) [] _ _ g3 _ fun d v4 H4 hd e4 rv4 => ?_
  subst hd
  rw [rep_v.mp rv4]
  have hp4 := e4 _ _ upd_same rfl
  have e24 := (e3.trans (same_new np)).trans e4
  refine ⟨p, _, [.ref f], rfl, rfl, hp4, by omega, by omega, ?_, fun p2 np2 => ?_⟩
  · show 1 * ((x.2.length : Nat) : Int).toNat ≤ sizeLine
    exact Nat.le_trans (by omega) (by decide : 7 ≤ sizeLine)
  · rw [rep_flat1, Int.toNat_natCast]
    have e25 := e24.trans (same_new (o := .lst (List.replicate x.2.length (V.ref f))) np2)
    refine ⟨[], rooms, e25.tabs _ g2.tb, (fun l hl => (List.not_mem_nil hl).elim), ?_, ⟨by omega, hn⟩, fun d v5 H5 hd e5 rv5 => ?_⟩
    · rw [hide_nil]
      rw [hide_nil] at rv1
      refine RepL.cons (rv1.mono e25.sub) (RepL.cons (rep_lst.mpr ⟨p2, _, rfl, upd_same, ?_⟩) .nil)
      have rf' : Rep C (upd H4 p2 (.lst (List.replicate x.2.length (V.ref f)))) .fn (.ref f) := rf.mono (((same_new np).trans e4).trans (same_new np2)).sub
      have := (RepL.one rf').rep x.2.length
      rw [rep_flat1, rep_flat1] at this
      rw [hl]
      exact this
    · subst hd
      rw [rep_v.mp rv5]
      refine ⟨.non, rfl, ⟨rfl, false, rfl, ?_⟩⟩
      exact q _ _ _ rfl ((e1.trans e2).trans (e25.trans e5)) (rep_v.mpr rfl)
theorem ev_call0 {C : Cn} {G : En} {R : D → Prop} {α : Type} {A : α → List D} {pre : α → Prop} {post : α → D → Prop} {t : TA} (x : α) (ha : EvA C t G (· = A x)) (hp : pre x) (hd : ∀ d, post x d → ∃ v, d = .v v ∧ R (.v v)) : EvR C (tCall (sp0 C A pre post) [] E0 t) G R := fun O H σ g Q q =>
  ha O H σ g _ fun ds vs H1 hds e1 rv => by
    subst hds
    rw [List.append_nil]
    refine ⟨x, e1.tabs _ g.tb, rv.mono hide_le, hp, fun d v H' hd' e2 r2 => ?_⟩
    obtain ⟨u, rfl, hr⟩ := hd d hd'
    exact q _ v H' hr (e1.trans e2) (rep_v.mpr (rep_v.mp r2))
theorem ones_dI (n : Nat) : dOnes n = .tup (dI (List.replicate n 1)) := by
  unfold dOnes dI
  rw [List.map_replicate]
theorem ones_ok {y : PairX} (h : PairOk y) : RoomOk ⟨y.x, List.replicate y.x.2.length 1⟩ := ⟨h.ok, by rw [List.length_replicate], fun n hn => by
  rw [(List.mem_replicate.mp hn).2]
  decide⟩
abbrev N_amount : List PySem.Str := ["web", "rooms", "place", "other_place"]
theorem sc_amount : FnScope N_amount ["web", "rooms", "place", "other_place"] (defScope s_amount) := ⟨rfl, rfl, rfl, by decide +kernel, rfl, by decide +kernel, by decide +kernel⟩
def sp_amount (C : Cn) : Sp := spT C (fun y : PairX => [dW y.x, dOnes y.x.2.length, .s (sg y.b), .s (sg y.g)]) PairOk (fun y d => d = .i (cutOf y.x y.b y.g))
theorem has_amount {P : Program} {w : World} {K : PySem.W.Frag} {mg : PySem.Str → Option Value} {base : Heap} {C : Cn} (T : Tx K mg C.cls) (TB : TabC K mg base C) : Has P w K mg base 6 "amount" ["web", "rooms", "place", "other_place"] (sp_amount C) := by
  refine fn_has T 53 (d := d_amount) rfl rfl (N := N_amount) sc_amount rfl rfl (fun _ _ _ _ _ _ us hl => match us, hl with | [_, _, _, _], _ => rfl) (fun _ => rfl) (fun cdv A' outer s H E hr => ⟨_, (pss_cons (ps_expr (pe_has (has_check_rooms T TB) (hr.mono (by decide)) (by rfl) (pa_cons (pv 0) (pa_cons (pv 1) pa_nil))))
      (pss_cons (ps_expr (pe_has (has_check_unlike T) (hr.mono (by decide)) (by rfl) (pa_cons (pv 0) (pa_cons (pv 2) (pa_cons (pv 3) pa_nil)))))
      (pss_one (ps_ret (pe_has (has_amount_of T) (hr.mono (by decide)) (by rfl) (pa_cons (pv 0) (pa_cons (pv 1) (pa_cons (pv 2) (pa_cons (pv 3) pa_nil))))))))), fun x hx => ?_⟩)
  obtain ⟨x, b, g⟩ := x
  show SD C _ ⟨[], [.im (dW x), .im (dOnes x.2.length), .im (.s (sg b)), .im (.s (sg g))]⟩ _ _
  refine sq_drop (P := fun _ => True) (ev_call0 ⟨x, List.replicate x.2.length 1⟩ (ea2 (ev_v rfl) ((ev_v rfl).to (ones_dI _))) (ones_ok hx) fun d h => ⟨_, h, trivial⟩) ?_
  refine sq_drop (P := fun _ => True) (ev_callD ⟨x, b, g⟩ (ea3 (ev_v rfl) (ev_v rfl) (ev_v rfl)) hx fun _ _ => trivial) ?_
  exact sd_ret (ev_callD (R := (· = .i (cutOf x b g))) ⟨x, b, g⟩ (ea_c (ev_v rfl) (ea_c (ev_v rfl) (ea2 (ev_v rfl) (ev_v rfl)))) hx fun _ h => h) rfl
abbrev N_narrowest : List PySem.Str := ["web", "rooms", "place", "other_place"]
theorem sc_narrowest : FnScope N_narrowest ["web", "rooms", "place", "other_place"] (defScope s_narrowest) := ⟨rfl, rfl, rfl, by decide +kernel, rfl, by decide +kernel, by decide +kernel⟩
def sp_narrowest (C : Cn) : Sp := spT C (fun y : PairX => [dW y.x, dOnes y.x.2.length, .s (sg y.b), .s (sg y.g)]) PairOk (fun y d => ∃ nets S v, CarOk y.x y.b y.g nets S v ∧ d = .s (st S))
theorem has_narrowest {P : Program} {w : World} {K : PySem.W.Frag} {mg : PySem.Str → Option Value} {base : Heap} {C : Cn} (T : Tx K mg C.cls) (TB : TabC K mg base C) : Has P w K mg base 6 "narrowest" ["web", "rooms", "place", "other_place"] (sp_narrowest C) := by
  refine fn_has T 54 (d := d_narrowest) rfl rfl (N := N_narrowest) sc_narrowest rfl rfl (fun _ _ _ _ _ _ us hl => match us, hl with | [_, _, _, _], _ => rfl) (fun _ => rfl) (fun cdv A' outer s H E hr => ⟨_, (pss_cons (ps_expr (pe_has (has_check_rooms T TB) (hr.mono (by decide)) (by rfl) (pa_cons (pv 0) (pa_cons (pv 1) pa_nil))))
      (pss_cons (ps_expr (pe_has (has_check_unlike T) (hr.mono (by decide)) (by rfl) (pa_cons (pv 0) (pa_cons (pv 2) (pa_cons (pv 3) pa_nil)))))
      (pss_one (ps_ret (pe_ix (k_ix_tup (K := K) rfl) (pe_has (has_carried_by T) (hr.mono (by decide)) (by rfl) (pa_cons (pv 0) (pa_cons (pv 1) (pa_cons (pv 2) (pa_cons (pv 3) pa_nil))))) pe_int (fun _ _ => rfl)))))), fun x hx => ?_⟩)
  obtain ⟨x, b, g⟩ := x
  show SD C _ ⟨[], [.im (dW x), .im (dOnes x.2.length), .im (.s (sg b)), .im (.s (sg g))]⟩ _ _
  refine sq_drop (P := fun _ => True) (ev_call0 ⟨x, List.replicate x.2.length 1⟩ (ea2 (ev_v rfl) ((ev_v rfl).to (ones_dI _))) (ones_ok hx) fun d h => ⟨_, h, trivial⟩) ?_
  refine sq_drop (P := fun _ => True) (ev_callD ⟨x, b, g⟩ (ea3 (ev_v rfl) (ev_v rfl) (ev_v rfl)) hx fun _ _ => trivial) ?_
  refine sd_retR (P := fun d => ∃ nets S v, CarOk x b g nets S v ∧ d = .s (st S)) (ev_op (R1 := fun d => ∃ nets S v, CarOk x b g nets S v ∧ d = .tup [.tup (dI nets), .s (st S)]) (R2 := (· = .i 1)) (ev_callD ⟨x, b, g⟩ (ea_c (ev_v rfl) (ea_c (ev_v rfl) (ea2 (ev_v rfl) (ev_v rfl)))) hx fun _ h => h) ev_c fun d e ⟨nets, S, v, car, h1⟩ h2 => ?_) fun _ h => h
  subst h1 h2
  exact rr_ixT rfl ⟨nets, S, v, car, rfl⟩
end Wr
set_option maxHeartbeats 4000000
namespace Wr
open PySem L2
/-! ### an owned list of owned lists of ints -/
def nestOm (p : Addr) (Z : List (Addr × List Int)) : List (Addr × OO) := (p, OO.lst (Z.map fun z => SV.ptr z.1)) :: Z.map fun z => (z.1, OO.lst ((dI z.2).map .im))
def nestG (p : Addr) (Z : List (Addr × List Int)) (De : List SV) : En := ⟨nestOm p Z, De⟩
theorem nest_keys (p : Addr) (Z : List (Addr × List Int)) (De : List SV) : (nestG p Z De).keys = p :: Z.map (·.1) := by
  show (nestOm p Z).map (·.1) = _
  unfold nestOm
  rw [List.map_cons, List.map_map]
  rfl
section
variable {C : Cn} {K : PySem.W.Frag} {G : En} {N : En → Prop} {R : D → En → Prop} {te ti tp : TE} {t u : TS} {i : Nat}
def EvN (C : Cn) (te : TE) (G : En) (M : List (List Int)) : Prop := ∀ (O : List Addr) (H : Hp) (σ : L2.St), GamE C O H G σ → ∀ Q : VK, (∀ (p : Addr) (Z : List (Addr × List Int)) H', H p = none → Same H H' → Z.map (·.2) = M → H' p = some (.lst (Z.map fun z => V.ref z.1)) →
  (∀ z ∈ Z, H' z.1 = some (.lst (z.2.map V.int)) ∧ H z.1 = none) → (p :: Z.map (·.1)).Nodup → Q (.ref p) H') → te σ H Q
theorem ev_lcN {α : Type} {wi : TI} {g : TG} {vs js : List Nat} (xs : List α) (A : α → D) (f : α → List Int) (u : α → List SV → List SV) (hi : EvI C wi G (xs.map A)) (hg : ∀ x ∈ xs, EvG C g js (A x) (u x)) (hlen : xs.length ≤ 100000)
    (he : ∀ x ∈ xs, EvF C te ((G.un vs).up (u x)) (dI (f x))) (hj : ∀ j ∈ js, j ∈ vs := by decide) : EvN C (tLc wi g tYes te vs) G (xs.map f) := by
  intro O H σ gm Q q
  refine hi O H σ gm _ fun J H1 e1 w => fun Dl hD => ?_
  have gm1 := gm.mono e1
  let Pv : Nat → Hp → Prop := fun i H' => Same H1 H' ∧ ∃ Z : List (Addr × List Int), Z.map (·.2) = (xs.take i).map f ∧ H' Dl = some (.lst (Z.map fun z => V.ref z.1)) ∧ (∀ z ∈ Z, H' z.1 = some (.lst (z.2.map V.int)) ∧ H1 z.1 = none) ∧ (Dl :: Z.map (·.1)).Nodup
  refine ⟨fun i m H' => m = xs.length - i ∧ i ≤ xs.length ∧ Pv i H', ⟨xs.length, by simp, Nat.zero_le _, same_new hD, [], rfl, upd_same, fun z hz => absurd hz List.not_mem_nil, by simp⟩, ?_⟩
  rintro i m H' ⟨rfl, hi', e2, Z, hZ, hacc, hz, hnd⟩
  have dm : Dom (Dl :: O) H' := (gm1.more hD e2 hacc).dom
  obtain ⟨w1, w2⟩ := w (Dl :: O) H' (same_out hD e2) dm
  by_cases hlt : i < xs.length
  · have hx : xs[i]? = some xs[i] := List.getElem?_eq_getElem hlt
    have hxm : xs[i] ∈ xs := List.getElem_mem hlt
    obtain ⟨go, yl⟩ := w1 i (A xs[i]) (by rw [List.getElem?_map, hx]; rfl)
    refine .inr ⟨go, Pv (i + 1), fun H'' pv => ⟨xs.length - (i + 1), by omega, rfl, hlt, pv⟩, fun x H2 hy => ?_⟩
    obtain ⟨e3, rx⟩ := yl x H2 hy
    have e13 := e2.trans e3
    have hD2 := e3 _ _ hacc rfl
    refine hg _ hxm (Dl :: O) H2 (wipeD G.De vs) (wipe σ vs) x rx ((gm1.sl.mono (same_out hD e13)).wipe vs) _ fun σ2 hs2 hl2 hc2 => ?_
    refine ⟨wipe_eq (hl2.trans (wipe_length ..)) fun j hj' => hj j (hc2 j hj'), ?_⟩
    have gt : GamE C (Dl :: O) H2 ((G.un vs).up (u xs[i])) σ2 := gm1.turn hD e13 hD2 hs2
    show te σ2 H2 _
    refine he _ hxm _ _ _ gt _ fun a us H4 na e4 ha hr => ?_
    have hr := repL_flat.mp hr
    subst hr
    have e14 := e13.trans e4
    have hD4 := e4 _ _ hD2 rfl
    have zl : Z.length = i := by
      have := congrArg List.length hZ
      rw [List.length_map, List.length_map, List.length_take] at this
      omega
    have naD : a ≠ Dl := fun z => by
      rw [z, hD2] at na
      cases na
    have na1 : H1 a = none := e13.free na
    have naZ : a ∉ Z.map (·.1) := fun z => by
      obtain ⟨y, hy, e⟩ := List.mem_map.mp z
      have := e3 _ _ (hz y hy).1 rfl
      rw [e, na] at this
      cases this
    refine ⟨_, hD4, ?_, e14.chg hD hD4 rfl, Z ++ [(a, f xs[i])], ?_, ?_, fun z hz' => ?_, ?_⟩
    · rw [List.length_map, zl]
      exact Nat.lt_of_lt_of_le hlt (Nat.le_trans hlen (by decide))
    · rw [List.map_append, hZ, List.take_add_one, hx, List.map_append]
      rfl
    · rw [upd_same, List.map_append]
      rfl
    · rcases List.mem_append.mp hz' with y | y
      · have ne : z.1 ≠ Dl := fun k => (List.nodup_cons.mp hnd).1 (by rw [← k]; exact List.mem_map.mpr ⟨z, y, rfl⟩)
        rw [upd_ne ne]
        exact ⟨e4 _ _ (e3 _ _ (hz z y).1 rfl) rfl, (hz z y).2⟩
      · have := List.mem_singleton.mp y
        subst this
        rw [upd_ne naD]
        exact ⟨ha, na1⟩
    · have h1 := List.nodup_cons.mp hnd
      rw [List.map_append]
      refine List.nodup_cons.mpr ⟨fun z => ?_, List.nodup_append.mpr ⟨h1.2, by simp, fun x hx' y hy e => ?_⟩⟩
      · rcases List.mem_append.mp z with z | z
        · exact h1.1 z
        · exact naD (List.mem_singleton.mp z).symm
      · have : y = a := List.mem_singleton.mp hy
        subst this
        subst e
        exact naZ hx'
  · have ei : i = xs.length := by omega
    subst ei
    rw [List.take_length] at hZ
    rw [List.length_map] at w2
    exact .inl ⟨w2, q Dl Z H' (e1.free hD) (e1.trans e2) hZ hacc (fun z y => ⟨(hz z y).1, e1.free (hz z y).2⟩) hnd⟩
theorem sq_nest {De : List SV} {M : List (List Int)} (h : EvN C te ⟨[], De⟩ M) (k : ∀ p Z, Z.map (·.2) = M → (p :: Z.map (·.1)).Nodup → SD C u (nestG p Z (De.set i (.ptr p))) N R) : SD C (tSeq (tAsg te (gName i)) u) ⟨[], De⟩ N R := fun H0 O0 H σ E g n r =>
  h _ H σ g.e _ fun p Z H' np e hZ hp hz hnd => by
    have kk : (nestG p Z (De.set i (.ptr p))).keys = p :: Z.map (·.1) := nest_keys ..
    have free : ∀ a ∈ p :: Z.map (·.1), H a = none := fun a ha => by
      rcases List.mem_cons.mp ha with y | y
      · rw [y]
        exact np
      · obtain ⟨z, hz', e⟩ := List.mem_map.mp y
        rw [← e]
        exact (hz z hz').2
    have sk : Sub (kn ⟨[], De⟩ O0 H) (hide ((p :: Z.map (·.1)) ++ O0) H') := fun a o ha nt => by
      have h1 := hide_le _ _ ha nt
      have nO := hide_back ha
      rw [hide_at]
      · exact e _ _ h1 nt
      · intro y
        rcases List.mem_append.mp y with y | y
        · rw [free a y] at h1
          cases h1
        · exact nO y
    refine k p Z hZ hnd H0 O0 H' _ E ⟨g.same.trans e, g.dom0, fun l hl => ?_, ⟨fun l hl => List.mem_append_left _ hl, fun l hl => ?_, by rw [kk]; exact hnd, fun q hq => ?_, ?_, e.tabs _ g.e.tb⟩⟩ (fun G' σ' H'' q g'' s' => n G' σ' H'' q g'' (Sub.trans (by show Sub _ (hide ((nestG p Z (De.set i (.ptr p))).keys ++ O0) H'); rw [kk]; exact sk) s')) r
    · rw [kk] at hl
      exact g.same.free (free l hl)
    · rw [kk] at hl
      rcases List.mem_append.mp hl with y | y
      · rcases List.mem_cons.mp y with y | y
        · rw [y, hp]
          exact fun z => nomatch z
        · obtain ⟨z, hz', e⟩ := List.mem_map.mp y
          rw [← e, (hz z hz').1]
          exact fun z => nomatch z
      · exact e.dom l (g.e.dom l y)
    · rcases List.mem_cons.mp (show q ∈ nestOm p Z from hq) with y | y
      · rw [y]
        refine ⟨_, hp, ?_⟩
        have : ∀ (H : Hp) (Z : List (Addr × List Int)), SVs C H (Z.map fun z => SV.ptr z.1) ((Z.map fun z => V.ref z.1).map some) := by
          intro H Z
          induction Z with
          | nil => rfl
          | cons z Z ih => exact ⟨some (.ref z.1), _, rfl, rfl, ih⟩
        exact this _ Z
      · obtain ⟨z, hz', e⟩ := List.mem_map.mp y
        rw [← e]
        exact ⟨_, (hz z hz').1, svs_im.mpr (repL_flat.mpr rfl)⟩
    · rw [kk]
      exact (g.e.sl.mono sk).set i rfl
/-- what gives an owned thing -/
def EvP (C : Cn) (te : TE) (G : En) (l : Addr) : Prop := ∀ (O : List Addr) (H : Hp) (σ : L2.St), GamE C O H G σ → ∀ Q : VK, (∀ H', Same H H' → Q (.ref l) H') → te σ H Q
theorem ep_ix {p a : Addr} {xs : List SV} {j : Nat} (hi : G.De[i]? = some (.ptr p)) (hl : G.at p (.lst xs)) (hx : EvD C ti G (.i (j : Int))) (hj : xs[j]? = some (.ptr a)) : EvP C (tOp (rIxL K) (tVar i) ti) G a := fun O H σ g Q q => by
  obtain ⟨o, h1, h2⟩ := g.sl.get hi
  have h2 : o = some (.ref p) := h2
  subst h2
  obtain ⟨vs, hv, hs⟩ := g.ok _ hl
  refine ⟨.ref p, h1, hx O H σ g _ fun d w H1 hd e1 rw' => ?_⟩
  subst hd
  obtain ⟨o, h3, h4⟩ := hs.get hj
  have h4 : o = some (.ref a) := h4
  subst h4
  have hv3 : vs[j]? = some (.ref a) := by
    rw [List.getElem?_map] at h3
    cases q : vs[j]? with
    | none =>
      rw [q] at h3
      cases h3
    | some c =>
      rw [q] at h3
      exact Option.some.inj h3
  exact ⟨p, vs, (j : Int), .ref a, rfl, rep_v.mp rw', SqL.of (e1 _ _ hv rfl), atI_nat hv3, q H1 e1⟩
theorem sd_augP {f : Int → Int → Int} {l : Addr} {xs : List SV} {j : Nat} {a v : Int} (hp : EvP C tp G l) (hl : G.at l (.lst xs)) (hx : EvD C ti G (.i (j : Int))) (h : EvD C te G (.i v)) (hj : xs[j]? = some (.im (.i a))) (k : N (G.put l (.lst (xs.set j (.im (.i (f a v))))))) :
    SD C (tAugS tp ti te (gtL K) (ipI f) rSetL) G N R := fun H0 O0 H σ E g n r => by
  refine hp _ H σ g.e _ fun H0' e0 => ?_
  have g' := g.mono e0
  obtain ⟨vs, hv, hs⟩ := g'.get hl
  refine hx _ H0' σ g'.e _ fun d w H1 hd e1 rw' => ?_
  subst hd
  obtain ⟨z, hz, sz⟩ := hs.get hj
  obtain ⟨za, e3, rz⟩ := sz
  subst e3
  rw [rep_v.mp rz] at hz
  have hz' : vs[j]? = some (.int a) := by
    rw [List.getElem?_map] at hz
    cases q : vs[j]? with
    | none =>
      rw [q] at hz
      cases hz
    | some c =>
      rw [q] at hz
      exact Option.some.inj hz
  refine ⟨l, vs, (j : Int), j, .int a, rfl, rep_v.mp rw', SqL.of (e1 _ _ hv rfl), by omega, by omega, hz', ?_⟩
  refine h _ H1 σ (g'.e.mono e1) _ fun d' y H2 hd' e2 ry => ?_
  subst hd'
  refine ⟨a, v, rfl, rep_v.mp ry, ?_⟩
  have e := e1.trans e2
  have hv' := e _ _ hv rfl
  have hjl : j < vs.length := (List.getElem?_eq_some_iff.mp hz').1
  obtain ⟨g2, ek⟩ := (g'.mono e).put (y := .lst (xs.set j (.im (.i (f a v))))) hl rfl ⟨vs.set j (.int (f a v)), upd_same, by
    rw [List.map_set]
    exact (hs.mono (hide_mono e)).set j (sv_im (rep_v.mpr rfl))⟩
  have hjx : ixN vs.length (j : Int) = some j := by
    unfold ixN
    rw [if_pos (by omega), if_pos (by omega)]
    rfl
  refine ⟨l, vs, (j : Int), j, rfl, rep_v.mp rw', hv', hjx, n _ σ _ k g2 ?_⟩
  rw [ek]
  exact hide_mono (e0.trans e)
/-- all of it is a datum from now on -/
def nestD (Z : List (Addr × List Int)) : D := .lst (Z.map fun z => .lst (dI z.2))
theorem ptrs_rep {Hk H : Hp} : ∀ {Z : List (Addr × List Int)} {vs : List V}, SVs C Hk (Z.map fun z => SV.ptr z.1) (vs.map some) → (∀ z ∈ Z, Rep C H (.lst (dI z.2)) (.ref z.1)) → RepL C H (Z.map fun z => D.lst (dI z.2)) vs
  | [], vs, hs, _ => by
    have hs : vs.map some = [] := hs
    have : vs = [] := List.map_eq_nil_iff.mp hs
    rw [this]
    exact .nil
  | z :: Z, [], hs, _ => by
    obtain ⟨o, r, e, h1, h2⟩ := hs
    cases e
  | z :: Z, v :: vs, hs, hz => by
    obtain ⟨o, r, e, h1, h2⟩ := hs
    have h1 : o = some (.ref z.1) := h1
    subst h1
    have e := List.cons.inj e
    have ev := Option.some.inj e.1
    subst ev
    exact RepL.cons (hz z (List.mem_cons_self ..)) (ptrs_rep (by rw [e.2]; exact h2) fun y hy => hz y (List.mem_cons_of_mem _ hy))
theorem sd_frzN {p : Addr} {Z : List (Addr × List Int)} {De De' : List SV} (hD : De' = De.map fun s => match s with
    | .ptr m => if m = p then .im (nestD Z) else .ptr m
    | s => s) (k : SD C t ⟨[], De'⟩ N R) : SD C t (nestG p Z De) N R := by
  refine sd_conv (fun H0 O0 H σ g => ?_) k
  have kk := nest_keys p Z De
  have sk : Sub (kn (nestG p Z De) O0 H) (kn ⟨[], De'⟩ O0 H) := hide_sub fun a ha => List.mem_append_right _ ha
  have nO : ∀ a ∈ (nestG p Z De).keys, a ∉ O0 := fun a ha z => g.dom0 a z (g.own a ha)
  have rl : Rep C (hide O0 H) (nestD Z) (.ref p) := by
    obtain ⟨vs, hv, hs⟩ := g.get (l := p) (xs := Z.map fun z => SV.ptr z.1) (List.mem_cons_self ..)
    refine rep_lst.mpr ⟨p, vs, rfl, (hide_at (nO p (by rw [kk]; exact List.mem_cons_self ..))).trans hv, ?_⟩
    have hz : ∀ z ∈ Z, Rep C (hide O0 H) (.lst (dI z.2)) (.ref z.1) := fun z hz => by
      obtain ⟨us, hu, hus⟩ := g.get (l := z.1) (xs := (dI z.2).map .im) (List.mem_cons_of_mem _ (List.mem_map.mpr ⟨z, hz, rfl⟩))
      refine rep_lst.mpr ⟨z.1, us, rfl, (hide_at (nO z.1 (by rw [kk]; exact List.mem_cons_of_mem _ (List.mem_map.mpr ⟨z, hz, rfl⟩)))).trans hu, (svs_im.mp hus).mono sk⟩
    exact ptrs_rep hs hz
  refine ⟨⟨g.same, g.dom0, fun l hl => (List.not_mem_nil hl).elim, ⟨fun l hl => (List.not_mem_nil hl).elim, fun l hl => g.e.dom l (List.mem_append_right _ hl), List.nodup_nil, fun q hq => (List.not_mem_nil hq).elim, ?_, g.e.tb⟩⟩, sk⟩
  subst hD
  refine SVs.map (fun s o h => ?_) (g.e.sl.mono sk)
  cases s with
  | no => exact h
  | im d => exact h
  | ptr m =>
    show sv C _ (if m = p then .im (nestD Z) else .ptr m) o
    by_cases z : m = p
    · rw [if_pos z]
      have h : o = some (.ref m) := h
      subst z
      exact ⟨_, h, rl⟩
    · rw [if_neg z]
      exact h
theorem nest_put {p a : Addr} {Z : List (Addr × List Int)} {De : List SV} {i : Nat} {row new : List Int} (hnd : (p :: Z.map (·.1)).Nodup) (hi : Z[i]? = some (a, row)) : (nestG p Z De).put a (.lst ((dI new).map .im)) = nestG p (Z.set i (a, new)) De := by
  have h1 := List.nodup_cons.mp hnd
  have ha : a ∈ Z.map (·.1) := List.mem_map.mpr ⟨_, List.mem_of_getElem? hi, rfl⟩
  have pa : p ≠ a := fun z => h1.1 (z ▸ ha)
  unfold nestG En.put nestOm
  congr 1
  rw [List.map_cons, if_neg pa]
  congr 1
  · congr 2
    apply List.ext_getElem?
    intro j
    rw [List.getElem?_map, List.getElem?_map, List.getElem?_set]
    by_cases e : i = j
    · subst e
      rw [if_pos rfl, hi, if_pos (List.getElem?_eq_some_iff.mp hi).1]
      rfl
    · rw [if_neg e]
  · rw [List.map_map]
    apply List.ext_getElem?
    intro j
    rw [List.getElem?_map, List.getElem?_map, List.getElem?_set]
    by_cases e : i = j
    · subst e
      rw [if_pos rfl, hi, if_pos (List.getElem?_eq_some_iff.mp hi).1]
      show some (if a = a then _ else _) = _
      rw [if_pos rfl]
      rfl
    · rw [if_neg e]
      cases hj : Z[j]? with
      | none => rfl
      | some z =>
        show some (if z.1 = a then _ else _) = some _
        rw [if_neg]
        intro ez
        have hjl := (List.getElem?_eq_some_iff.mp hj)
        have hil := (List.getElem?_eq_some_iff.mp hi)
        have e1 : (Z.map (·.1))[i]'(by rw [List.length_map]; exact hil.1) = a := by
          rw [List.getElem_map, hil.2]
        have e2 : (Z.map (·.1))[j]'(by rw [List.length_map]; exact hjl.1) = a := by
          rw [List.getElem_map, hjl.2, ez]
        exact e ((List.getElem_inj h1.2).mp (e1.trans e2.symm))
end
end Wr
set_option maxHeartbeats 4000000
namespace Wr
open PySem L2
/-! ### the grounded matrix -/
def tabM (n : Nat) (F : Nat → Nat → Int) : List (List Int) := (List.range n).map fun i => (List.range n).map fun j => F i j
theorem tabM_congr {n : Nat} {F F' : Nat → Nat → Int} (h : ∀ i j, i < n → j < n → F i j = F' i j) : tabM n F = tabM n F' := by
  unfold tabM
  refine List.map_congr_left fun i hi => List.map_congr_left fun j hj => h i j (List.mem_range.mp hi) (List.mem_range.mp hj)
theorem tab_at {Z : List (Addr × List Int)} {n : Nat} {F : Nat → Nat → Int} (h : Z.map (·.2) = tabM n F) {i j : Nat} (hi : i < n) (hj : j < n) : ∃ a row, Z[i]? = some (a, row) ∧ row[j]? = some (F i j) ∧
    ∀ v : Int, (Z.set i (a, row.set j v)).map (·.2) = tabM n (fun i' j' => if i' = i ∧ j' = j then v else F i' j') ∧ (Z.set i (a, row.set j v)).map (·.1) = Z.map (·.1) := by
  have hl : Z.length = n := by
    have := congrArg List.length h
    unfold tabM at this
    rwa [List.length_map, List.length_map, List.length_range] at this
  obtain ⟨⟨a, row⟩, hz⟩ : ∃ z, Z[i]'(by omega) = z := ⟨_, rfl⟩
  have hz' : Z[i]? = some (a, row) := by rw [List.getElem?_eq_getElem (by omega), hz]
  have hr : row = (List.range n).map fun j => F i j := by
    have h1 : (Z.map (·.2))[i]? = some row := by rw [List.getElem?_map, hz']; rfl
    rw [h] at h1
    unfold tabM at h1
    rw [List.getElem?_map, List.getElem?_range hi] at h1
    exact (Option.some.inj h1).symm
  refine ⟨a, row, hz', by rw [hr, List.getElem?_map, List.getElem?_range hj]; rfl, fun v => ⟨?_, ?_⟩⟩
  · apply List.ext_getElem?
    intro k
    unfold tabM
    rw [List.getElem?_map, List.getElem?_set, List.getElem?_map]
    by_cases e : i = k
    · subst e
      rw [if_pos rfl, if_pos (by omega), List.getElem?_range hi]
      show some (row.set j v) = some _
      congr 1
      rw [hr]
      apply List.ext_getElem?
      intro m
      rw [List.getElem?_set, List.getElem?_map, List.getElem?_map, List.length_map, List.length_range]
      by_cases e : j = m
      · subst e
        rw [if_pos rfl, if_pos hj, List.getElem?_range hj]
        show some v = some (if i = i ∧ j = j then v else _)
        rw [if_pos ⟨rfl, rfl⟩]
      · rw [if_neg e]
        by_cases hm : m < n
        · rw [List.getElem?_range hm]
          show some (F i m) = some (if i = i ∧ m = j then v else F i m)
          rw [if_neg fun z => e z.2.symm]
        · rw [List.getElem?_eq_none (by rw [List.length_range]; omega)]
          rfl
    · rw [if_neg e]
      have h1 : (Z.map (·.2))[k]? = (tabM n F)[k]? := by rw [h]
      rw [List.getElem?_map] at h1
      rw [h1]
      unfold tabM
      rw [List.getElem?_map]
      by_cases hk : k < n
      · rw [List.getElem?_range hk]
        show some _ = some _
        congr 1
        refine List.map_congr_left fun m _ => ?_
        show F k m = if k = i ∧ m = j then v else F k m
        rw [if_neg fun z => e z.1.symm]
      · rw [List.getElem?_eq_none (by rw [List.length_range]; omega)]
        rfl
  · apply List.ext_getElem?
    intro k
    rw [List.getElem?_map, List.getElem?_set, List.getElem?_map]
    by_cases e : i = k
    · subst e
      rw [if_pos rfl, if_pos (by omega), hz']
      rfl
    · rw [if_neg e]
def cnE (ns : List Nat) (near far : Nat) (i j : Nat) : Int := if near ≠ far ∧ ns[i]? = some near then (if i = j then 1 else 0) - (if ns[j]? = some far then 1 else 0) else 0
def lapE (ns : List Nat) (ts : List Tie) (i j : Nat) : Int := (ts.map fun t => cnE ns t.1 t.2 i j + cnE ns t.2 t.1 i j).sum
theorem lapE_snoc (ns : List Nat) (ts : List Tie) (t : Tie) (i j : Nat) : lapE ns (ts ++ [t]) i j = lapE ns ts i j + cnE ns t.1 t.2 i j + cnE ns t.2 t.1 i j := by
  unfold lapE
  rw [List.map_append, List.sum_append]
  simp only [List.map_cons, List.map_nil, List.sum_cons, List.sum_nil]
  omega
structure LapX where
  ns : List Nat
  ts : List Tie
def dNs (ns : List Nat) : D := .lst (dS (ns.map sg))
theorem nm_at {ns : List Nat} {i : Nat} {c : Nat} (h : ns[i]? = some c) : (ns.map sg)[i]? = some (sg c) := by
  rw [List.getElem?_map, h]
  rfl
theorem sg_inj {a b : Nat} (h : sg a = sg b) : a = b := by
  have := st_inj.mp h
  simpa using this
theorem nm_mem {ns : List Nat} {c : Nat} : sg c ∈ ns.map sg ↔ c ∈ ns := by
  constructor
  · intro h
    obtain ⟨d, hd, e⟩ := List.mem_map.mp h
    rwa [sg_inj e] at hd
  · intro h
    exact List.mem_map.mpr ⟨c, h, rfl⟩
theorem ev_nmIx {C : Cn} {K : PySem.W.Frag} {G : En} {to te : TE} {ns : List Nat} {i c : Nat} (hn : ns.Nodup) (h : ns[i]? = some c) (h1 : EvD C to G (dNs ns)) (h2 : EvD C te G (.s (sg c))) : EvD C (tBM K "list" (rIndex K) to (tCons te tNil)) G (.i (i : Nat)) :=
  ev_indexS h1 h2 (nm_at h) fun m z hm hz e => by
    rw [List.getElem?_map] at hz
    obtain ⟨hi, hi'⟩ := List.getElem?_eq_some_iff.mp h
    rw [List.getElem?_eq_getElem (show m < ns.length by omega)] at hz
    have hz : sg ns[m] = z := Option.some.inj hz
    have := sg_inj (hz.trans e)
    rw [← hi'] at this
    exact absurd ((List.getElem_inj hn).mp this) (by omega)
abbrev N_laplacian : List PySem.Str := ["names", "pairs", "rows", "one", "other", "near", "far", "name"]
theorem sc_laplacian : FnScope N_laplacian ["names", "pairs"] (defScope s_laplacian) := ⟨rfl, rfl, rfl, by decide +kernel, rfl, by decide +kernel, by decide +kernel⟩
def dLap (ns : List Nat) (ts : List Tie) : D := .lst ((tabM ns.length (lapE ns ts)).map fun r => D.lst (dI r))
def sp_laplacian (C : Cn) : Sp := spT C (fun x : LapX => [dNs x.ns, .tup (x.ts.map fun t => D.s (tS t))]) (fun x => x.ns.Nodup ∧ x.ns.length ≤ 100) (fun x d => d = dLap x.ns x.ts)
theorem has_laplacian {P : Program} {w : World} {K : PySem.W.Frag} {mg : PySem.Str → Option Value} {base : Heap} {C : Cn} (T : Tx K mg C.cls) : Has P w K mg base 3 "laplacian" ["names", "pairs"] (sp_laplacian C) := by
  refine fn_has T 65 (d := d_laplacian) rfl rfl (N := N_laplacian) sc_laplacian rfl rfl (fun _ _ _ _ _ _ us hl => match us, hl with | [_, _], _ => rfl) (fun _ => rfl) (fun cdv A' outer s H E hr => ⟨_, (pss_cons (ps_setLc (i := 2) (own := [("name", 7)]) (g := gName 7) (tt := tYes) rfl sc_laplacian.nd rfl rfl (sw_true rfl rfl rfl (by decide +kernel)) (k_pi_list (K := K) rfl (pv 0)) (blkOk_by (own := [("name", 7)]) (N := N_laplacian) (sc := defScope s_laplacian) (by decide +kernel)) (fun _ _ _ _ _ => (pg_name (i := 7) sc_laplacian.nd rfl (.inl rfl))) (fun _ _ _ _ _ => pts_nil) (fun _ _ _ _ _ => (pe_op op_rep (pe_lst (pa_cons pe_int pa_nil)) (pe_callB (k_call_len (K := K) rfl) (by rfl) T.xlen bt_len (pa_cons (pv 0) pa_nil)))))
      (pss_cons (ps_for PassesOwn.never rfl (k_pi_tup (K := K) rfl (pv 1)) (pg_str2 rfl (pgs_cons (pg_name (i := 3) sc_laplacian.nd rfl (.inl rfl)) (pgs_cons (pg_name (i := 4) sc_laplacian.nd rfl (.inl rfl)) pgs_nil))) (pss_one (ps_for PassesOwn.never rfl (k_pi_tup (K := K) rfl (pe_tup (pa_cons (pe_tup (pa_cons (pv 3) (pa_cons (pv 4) pa_nil))) (pa_cons (pe_tup (pa_cons (pv 4) (pa_cons (pv 3) pa_nil))) pa_nil)))) (pg_tup rfl (pgs_cons (pg_name (i := 5) sc_laplacian.nd rfl (.inl rfl)) (pgs_cons (pg_name (i := 6) sc_laplacian.nd rfl (.inl rfl)) pgs_nil))) (pss_one (ps_if (PW.pt (pw_and (pt_cmpR op_ne (pv 5) (pv 6) (nomark _)) (pw_and1 (pt_cmpR (k_op_in_seq (K := K) rfl) (pv 5) (pv 0) (by rfl))))) (pss_cons (ps_augS (pe_ix (k_ix_list (K := K) rfl) (pv 2) (k_pe_bm (K := K) rfl PySem.F.plainAttrs_list PySem.F.slot_list_index PySem.F.type_list_index (k_mt_index (K := K) rfl) (pv 0) (pa_cons (pv 5) pa_nil)) (fun _ _ => rfl)) (k_pe_bm (K := K) rfl PySem.F.plainAttrs_list PySem.F.slot_list_index PySem.F.type_list_index (k_mt_index (K := K) rfl) (pv 0) (pa_cons (pv 5) pa_nil)) (k_pget_list (K := K) rfl) pe_int ip_add set_list)
      (pss_one (ps_if (pt_cmpR (k_op_in_seq (K := K) rfl) (pv 6) (pv 0) (by rfl)) (pss_one (ps_augS (pe_ix (k_ix_list (K := K) rfl) (pv 2) (k_pe_bm (K := K) rfl PySem.F.plainAttrs_list PySem.F.slot_list_index PySem.F.type_list_index (k_mt_index (K := K) rfl) (pv 0) (pa_cons (pv 5) pa_nil)) (fun _ _ => rfl)) (k_pe_bm (K := K) rfl PySem.F.plainAttrs_list PySem.F.slot_list_index PySem.F.type_list_index (k_mt_index (K := K) rfl) (pv 0) (pa_cons (pv 6) pa_nil)) (k_pget_list (K := K) rfl) pe_int ip_sub set_list)) pss_nil))) pss_nil)))))
      (pss_one (ps_ret (pv 2))))), fun x hx => ?_⟩)
  obtain ⟨ns, ts⟩ := x
  obtain ⟨hn, hl⟩ := hx
  simp only at hn hl
  show SD C _ ⟨[], [.im (dNs ns), .im (.tup (ts.map fun t => D.s (tS t))), .no, .no, .no, .no, .no, .no]⟩ _ _
  refine sq_nest (M := tabM ns.length fun _ _ => 0) ?_ fun p Z hZ hnd => ?_
  · have := ev_lcN (C := C) (G := ⟨[], [.im (dNs ns), .im (.tup (ts.map fun t => D.s (tS t))), .no, .no, .no, .no, .no, .no]⟩) (te := tOp rRep (tLst (tCons (tC (.int 0)) tNil)) (tCB (rLen K) (tCons (tVar 0) tNil))) (wi := iList K (tVar 0)) (g := gName 7) (vs := [7]) (js := [7]) ns (fun c => D.s (sg c)) (fun _ => List.replicate ns.length 0) (fun c l => l.set 7 (.im (.s (sg c))))
      ((ei_list (ev_v rfl)).to (by unfold dS; rw [List.map_map]; rfl)) (fun _ _ => eg_name) (by omega) (fun c hc => (ev_opF (x := .lst [.i 0]) (ev_lst (ea1 ev_c)).dat (ev_lenL (ev_v rfl)) (rf_rep ?_ ?_ ?_)).to ?_)
    · have e : ns.map (fun _ => List.replicate ns.length (0 : Int)) = tabM ns.length fun _ _ => 0 := by
        unfold tabM
        rw [List.map_const', List.map_const', List.map_const', List.length_range]
      rw [e] at this
      exact this
    · show 1 * _ ≤ _
      unfold dS
      rw [List.length_map, List.length_map]
      omega
    · unfold dS
      rw [List.length_map, List.length_map]
      omega
    · unfold dS
      rw [List.length_map, List.length_map]
      omega
    · unfold dS dI
      rw [List.length_map, List.length_map, Int.toNat_natCast, rep_flat1, List.map_replicate]
  refine sq_for (C := C) (js := [3, 4]) ts (fun t => D.s (tS t)) (fun t l => (l.set 3 (.im (.s (sg t.1)))).set 4 (.im (.s (sg t.2)))) (fun m G => ∃ Z a b c d e, Z.map (·.2) = tabM ns.length (lapE ns (ts.take m)) ∧ (p :: Z.map (·.1)).Nodup ∧ G = nestG p Z [.im (dNs ns), .im (.tup (ts.map fun t => D.s (tS t))), .ptr p, a, b, c, d, e])
    (ei_tup (ev_v rfl)) (fun t _ => eg_str2 (a := t.1) (b := t.2)) ⟨Z, .no, .no, .no, .no, .no, hZ, hnd, rfl⟩ ?_ ?_
  · rintro m t G hm ⟨Z, a, b, c, d, e, hZ, hnd, rfl⟩
    show SD C _ (nestG p Z [.im (dNs ns), .im (.tup (ts.map fun t => D.s (tS t))), .ptr p, .im (.s (sg t.1)), .im (.s (sg t.2)), c, d, e]) _ _
    have hsn : ts.take (m + 1) = ts.take m ++ [t] := by rw [List.take_add_one, hm]; rfl
    let two : List Tie := [(t.1, t.2), (t.2, t.1)]
    refine sd_for (C := C) (js := [5, 6]) two (fun t => D.tup [D.s (sg t.1), D.s (sg t.2)]) (fun t l => (l.set 5 (.im (.s (sg t.1)))).set 6 (.im (.s (sg t.2)))) (fun k G => ∃ Z c d, Z.map (·.2) = tabM ns.length (fun i j => lapE ns (ts.take m) i j + ((two.take k).map fun u => cnE ns u.1 u.2 i j).sum) ∧ (p :: Z.map (·.1)).Nodup ∧ G = nestG p Z [.im (dNs ns), .im (.tup (ts.map fun t => D.s (tS t))), .ptr p, .im (.s (sg t.1)), .im (.s (sg t.2)), c, d, e])
      (ei_tup (ev_tupD (ea2 (ev_tupD (ea2 (ev_v rfl) (ev_v rfl))) (ev_tupD (ea2 (ev_v rfl) (ev_v rfl)))) (by show 2 ≤ 100000; decide))) (fun _ _ => eg_pair) ⟨Z, c, d, by rw [hZ]; exact tabM_congr fun i j _ _ => by simp, hnd, rfl⟩ ?_ ?_
    · rintro k ⟨nr, fr⟩ G hk ⟨Z, c, d, hZ, hnd, rfl⟩
      show SD C _ (nestG p Z [.im (dNs ns), .im (.tup (ts.map fun t => D.s (tS t))), .ptr p, .im (.s (sg t.1)), .im (.s (sg t.2)), .im (.s (sg nr)), .im (.s (sg fr)), e]) _ _
      have htk : two.take (k + 1) = two.take k ++ [(nr, fr)] := by rw [List.take_add_one, hk]; rfl
      have hsum : ∀ i j, ((two.take (k + 1)).map fun u => cnE ns u.1 u.2 i j).sum = ((two.take k).map fun u => cnE ns u.1 u.2 i j).sum + cnE ns nr fr i j := fun i j => by
        rw [htk, List.map_append, List.sum_append]
        simp
      generalize hF : (fun i j => lapE ns (ts.take m) i j + ((two.take k).map fun u => cnE ns u.1 u.2 i j).sum) = F at hZ
      have goalF : ∀ i j, lapE ns (ts.take m) i j + ((two.take (k + 1)).map fun u => cnE ns u.1 u.2 i j).sum = F i j + cnE ns nr fr i j := fun i j => by
        rw [← hF, hsum]
        show _ = lapE ns (ts.take m) i j + _ + _
        omega
      have fin : ∀ Z', Z'.map (·.2) = tabM ns.length (fun i j => F i j + cnE ns nr fr i j) → (p :: Z'.map (·.1)).Nodup → ∃ Z c d, Z.map (·.2) = tabM ns.length (fun i j => lapE ns (ts.take m) i j + ((two.take (k + 1)).map fun u => cnE ns u.1 u.2 i j).sum) ∧ (p :: Z.map (·.1)).Nodup ∧ nestG p Z' [.im (dNs ns), .im (.tup (ts.map fun t => D.s (tS t))), .ptr p, .im (.s (sg t.1)), .im (.s (sg t.2)), .im (.s (sg nr)), .im (.s (sg fr)), e] = nestG p Z [.im (dNs ns), .im (.tup (ts.map fun t => D.s (tS t))), .ptr p, .im (.s (sg t.1)), .im (.s (sg t.2)), c, d, e] := fun Z' h1 h2 =>
        ⟨Z', _, _, h1.trans (tabM_congr fun i j _ _ => (goalF i j).symm), h2, rfl⟩
      have ht : EvT C (tAnd (tTest (tOp rNe (tVar 5) (tVar 6))) (tTest (tOp (rIn K false) (tVar 5) (tVar 0)))) (nestG p Z [.im (dNs ns), .im (.tup (ts.map fun t => D.s (tS t))), .ptr p, .im (.s (sg t.1)), .im (.s (sg t.2)), .im (.s (sg nr)), .im (.s (sg fr)), e]) (!decide (sg nr = sg fr) && decide (sg nr ∈ ns.map sg)) :=
        et_and (et_test (ev_opD (ev_v rfl) (ev_v rfl) rr_neS)) fun _ => et_test (ev_opD (ev_v rfl) (ev_v rfl) rr_inStrs)
      by_cases hc : nr ≠ fr ∧ nr ∈ ns
      · obtain ⟨i, hi, hin⟩ := List.getElem_of_mem hc.2
        have hi' : ns[i]? = some nr := by rw [List.getElem?_eq_getElem hi, hin]
        obtain ⟨a1, row, z1, z2, z3⟩ := tab_at hZ hi hi
        obtain ⟨z4, z5⟩ := z3 (F i i + 1)
        have hnd1 : (p :: (Z.set i (a1, row.set i (F i i + 1))).map (·.1)).Nodup := by rw [z5]; exact hnd
        refine sd_if (b := true) (ht.to ?_) (fun _ => ?_) (fun z => by cases z)
        · rw [decide_eq_true (nm_mem.mpr hc.2), decide_eq_false fun z => hc.1 (sg_inj z)]
          rfl
        have hat : (nestG p Z [.im (dNs ns), .im (.tup (ts.map fun t => D.s (tS t))), .ptr p, .im (.s (sg t.1)), .im (.s (sg t.2)), .im (.s (sg nr)), .im (.s (sg fr)), e]).at a1 (.lst ((dI row).map .im)) := List.mem_cons_of_mem _ (List.mem_map.mpr ⟨_, List.mem_of_getElem? z1, rfl⟩)
        refine sd_seq1 (G1 := nestG p (Z.set i (a1, row.set i (F i i + 1))) [.im (dNs ns), .im (.tup (ts.map fun t => D.s (tS t))), .ptr p, .im (.s (sg t.1)), .im (.s (sg t.2)), .im (.s (sg nr)), .im (.s (sg fr)), e]) (sd_augP (l := a1) (xs := (dI row).map .im) (j := i) (a := F i i) (v := 1) (ep_ix (p := p) (xs := Z.map fun z => SV.ptr z.1) (j := i) rfl (List.mem_cons_self ..) (ev_nmIx hn hi' (ev_v rfl) (ev_v rfl)) ?_) hat (ev_nmIx hn hi' (ev_v rfl) (ev_v rfl)) ev_c ?_ ?_) ?_
        · rw [List.getElem?_map, z1]
          rfl
        · unfold dI
          rw [List.getElem?_map, List.getElem?_map, z2]
          rfl
        · rw [← nest_put hnd z1]
          congr 2
          unfold dI
          rw [List.map_set, List.map_set]
        generalize Z.set i (a1, row.set i (F i i + 1)) = Z1 at z4 hnd1
        have ht2 : EvT C (tTest (tOp (rIn K false) (tVar 6) (tVar 0))) (nestG p Z1 [.im (dNs ns), .im (.tup (ts.map fun t => D.s (tS t))), .ptr p, .im (.s (sg t.1)), .im (.s (sg t.2)), .im (.s (sg nr)), .im (.s (sg fr)), e]) (decide (sg fr ∈ ns.map sg)) := et_test (ev_opD (ev_v rfl) (ev_v rfl) rr_inStrs)
        by_cases hf : fr ∈ ns
        · obtain ⟨j, hj, hjn⟩ := List.getElem_of_mem hf
          have hj' : ns[j]? = some fr := by rw [List.getElem?_eq_getElem hj, hjn]
          have hij : i ≠ j := fun z => hc.1 (by subst z; rw [← hin, ← hjn])
          obtain ⟨a2, row2, y1, y2, y3⟩ := tab_at z4 hi hj
          rw [if_neg fun z => hij z.2.symm] at y2
          obtain ⟨y4, y5⟩ := y3 (F i j - 1)
          have hnd2 : (p :: (Z1.set i (a2, row2.set j (F i j - 1))).map (·.1)).Nodup := by rw [y5]; exact hnd1
          refine sd_if (b := true) (ht2.to (decide_eq_true (nm_mem.mpr hf))) (fun _ => ?_) (fun z => by cases z)
          have hat : (nestG p Z1 [.im (dNs ns), .im (.tup (ts.map fun t => D.s (tS t))), .ptr p, .im (.s (sg t.1)), .im (.s (sg t.2)), .im (.s (sg nr)), .im (.s (sg fr)), e]).at a2 (.lst ((dI row2).map .im)) := List.mem_cons_of_mem _ (List.mem_map.mpr ⟨_, List.mem_of_getElem? y1, rfl⟩)
          refine sd_augP (l := a2) (xs := (dI row2).map .im) (j := j) (a := F i j) (v := 1) (ep_ix (p := p) (xs := Z1.map fun z => SV.ptr z.1) (j := i) rfl (List.mem_cons_self ..) (ev_nmIx hn hi' (ev_v rfl) (ev_v rfl)) ?_) hat (ev_nmIx hn hj' (ev_v rfl) (ev_v rfl)) ev_c ?_ ?_
          · rw [List.getElem?_map, y1]
            rfl
          · unfold dI
            rw [List.getElem?_map, List.getElem?_map, y2]
            rfl
          · have e1 : (nestG p Z1 [.im (dNs ns), .im (.tup (ts.map fun t => D.s (tS t))), .ptr p, .im (.s (sg t.1)), .im (.s (sg t.2)), .im (.s (sg nr)), .im (.s (sg fr)), e]).put a2 (.lst (((dI row2).map .im).set j (.im (.i (F i j - 1))))) = nestG p (Z1.set i (a2, row2.set j (F i j - 1))) [.im (dNs ns), .im (.tup (ts.map fun t => D.s (tS t))), .ptr p, .im (.s (sg t.1)), .im (.s (sg t.2)), .im (.s (sg nr)), .im (.s (sg fr)), e] := by
              rw [← nest_put hnd1 y1]
              congr 2
              unfold dI
              rw [List.map_set, List.map_set]
            rw [e1]
            refine fin _ (y4.trans (tabM_congr fun i' j' hi1 hj1 => ?_)) hnd2
            have key1 : (nr ≠ fr ∧ ns[i']? = some nr) ↔ i' = i := ⟨fun z => by
              have := z.2
              rw [List.getElem?_eq_getElem hi1] at this
              exact (List.getElem_inj hn).mp ((Option.some.inj this).trans hin.symm), fun z => by rw [z]; exact ⟨hc.1, hi'⟩⟩
            have key2 : ns[j']? = some fr ↔ j' = j := ⟨fun z => by
              rw [List.getElem?_eq_getElem hj1] at z
              exact (List.getElem_inj hn).mp ((Option.some.inj z).trans hjn.symm), fun z => by rw [z]; exact hj'⟩
            unfold cnE
            simp only [key1, key2]
            by_cases h1 : i' = i
            · subst h1
              by_cases h2 : j' = j
              · subst h2
                rw [if_pos ⟨rfl, rfl⟩, if_pos rfl, if_neg hij, if_pos rfl]
                omega
              · by_cases h4 : j' = i'
                · subst h4
                  rw [if_neg fun z => h2 z.2, if_pos ⟨rfl, rfl⟩, if_pos rfl, if_pos rfl, if_neg h2]
                  omega
                · rw [if_neg fun z => h2 z.2, if_neg fun z => h4 z.2, if_pos rfl, if_neg fun z => h4 z.symm, if_neg h2]
                  omega
            · rw [if_neg fun z => h1 z.1, if_neg fun z => h1 z.1, if_neg h1]
              omega
        · refine sd_if (b := false) (ht2.to (decide_eq_false fun z => hf (nm_mem.mp z))) (fun z => by cases z) (fun _ => sd_next (fin _ (z4.trans (tabM_congr fun i' j' hi1 hj1 => ?_)) hnd1))
          have key1 : (nr ≠ fr ∧ ns[i']? = some nr) ↔ i' = i := ⟨fun z => by
            have := z.2
            rw [List.getElem?_eq_getElem hi1] at this
            exact (List.getElem_inj hn).mp ((Option.some.inj this).trans hin.symm), fun z => by rw [z]; exact ⟨hc.1, hi'⟩⟩
          have h3 : ns[j']? ≠ some fr := fun z => hf (List.mem_of_getElem? z)
          unfold cnE
          simp only [key1]
          rw [if_neg h3]
          by_cases h1 : i' = i
          · subst h1
            by_cases h4 : j' = i'
            · subst h4
              rw [if_pos ⟨rfl, rfl⟩, if_pos rfl, if_pos rfl]
              omega
            · rw [if_neg fun z => h4 z.2, if_pos rfl, if_neg fun z => h4 z.symm]
              omega
          · rw [if_neg fun z => h1 z.1, if_neg h1]
            omega
      · refine sd_if (b := false) (ht.to ?_) (fun z => by cases z) (fun _ => sd_next (fin Z (hZ.trans (tabM_congr fun i j hi hj => ?_)) hnd))
        · by_cases h1 : nr = fr
          · rw [h1]
            simp
          · have h2 : nr ∉ ns := fun z => hc ⟨h1, z⟩
            rw [decide_eq_false fun z => h2 (nm_mem.mp z)]
            simp
        · unfold cnE
          rw [if_neg fun z => hc ⟨z.1, List.mem_of_getElem? z.2⟩]
          omega
    · rintro G ⟨Z, c, d, hZ, hnd, rfl⟩
      refine ⟨Z, _, _, c, d, e, hZ.trans (tabM_congr fun i j _ _ => ?_), hnd, rfl⟩
      rw [hsn, lapE_snoc]
      show _ + ([cnE ns t.1 t.2 i j, cnE ns t.2 t.1 i j]).sum = _
      simp only [List.sum_cons, List.sum_nil]
      omega
  · rintro G ⟨Z, a, b, c, d, e, hZ, hnd, rfl⟩
    rw [List.take_length] at hZ
    refine sd_frzN rfl (sd_ret (d := dLap ns ts) (ev_v ?_) rfl)
    show some (if p = p then SV.im (nestD Z) else .ptr p) = _
    rw [if_pos rfl]
    unfold nestD dLap
    rw [← hZ, List.map_map]
    rfl
end Wr
set_option maxHeartbeats 4000000
namespace Wr
/-! ### sums of fractions, the value of a pair -/
def Sg : Nat → (Nat → Rat) → Rat
  | 0, _ => 0
  | n + 1, f => Sg n f + f n
theorem Sg_congr {n : Nat} {f g : Nat → Rat} (h : ∀ i, i < n → f i = g i) : Sg n f = Sg n g := by
  induction n with
  | zero => rfl
  | succ n ih =>
    rw [Sg, Sg, ih fun i hi => h i (by omega), h n (by omega)]
theorem Sg_zero {n : Nat} {f : Nat → Rat} (h : ∀ i, i < n → f i = 0) : Sg n f = 0 := by
  induction n with
  | zero => rfl
  | succ n ih =>
    rw [Sg, ih fun i hi => h i (by omega), h n (by omega)]
    grind
theorem Sg_sub (n : Nat) (f g : Nat → Rat) : Sg n (fun i => f i - g i) = Sg n f - Sg n g := by
  induction n with
  | zero => simp [Sg]; grind
  | succ n ih =>
    rw [Sg, Sg, Sg, ih]
    grind
theorem Sg_add (n : Nat) (f g : Nat → Rat) : Sg n (fun i => f i + g i) = Sg n f + Sg n g := by
  induction n with
  | zero => simp [Sg]; grind
  | succ n ih =>
    rw [Sg, Sg, Sg, ih]
    grind
theorem Sg_mul (n : Nat) (c : Rat) (f : Nat → Rat) : Sg n (fun i => c * f i) = c * Sg n f := by
  induction n with
  | zero => simp [Sg]
  | succ n ih =>
    rw [Sg, Sg, ih]
    grind
theorem Sg_one {n k : Nat} {f : Nat → Rat} (hk : k < n) (h : ∀ i, i < n → i ≠ k → f i = 0) : Sg n f = f k := by
  induction n with
  | zero => omega
  | succ n ih =>
    rw [Sg]
    by_cases e : k = n
    · subst e
      rw [Sg_zero fun i hi => h i (by omega) (by omega)]
      grind
    · rw [ih (by omega) fun i hi => h i (by omega), h n (by omega) (fun z => e z.symm)]
      grind
def qv (x : Fr) : Rat := (x.1 : Rat) / (x.2 : Rat)
theorem cast_ne {a : Int} (h : a ≠ 0) : (a : Rat) ≠ 0 := by
  intro z
  exact h (by exact_mod_cast z)
theorem qv_frac {t b : Int} (h : b ≠ 0) : qv (frac t b) = (t : Rat) / (b : Rat) := by
  have h1 := frac_val (t := t) h
  have h2 := frac_pos (t := t) h
  have h3 : ((frac t b).1 : Rat) * (b : Rat) = (t : Rat) * ((frac t b).2 : Rat) := by exact_mod_cast h1
  have h4 : ((frac t b).2 : Rat) ≠ 0 := cast_ne (by omega)
  have h5 : (b : Rat) ≠ 0 := cast_ne h
  unfold qv
  grind
theorem qv_sub {x y : Fr} (hx : 0 < x.2) (hy : 0 < y.2) : qv (fsub x y) = qv x - qv y := by
  unfold fsub
  rw [qv_frac (pos_ne hx hy)]
  have h1 : (x.2 : Rat) ≠ 0 := cast_ne (by omega)
  have h2 : (y.2 : Rat) ≠ 0 := cast_ne (by omega)
  unfold qv
  rw [Rat.intCast_sub, Rat.intCast_mul, Rat.intCast_mul, Rat.intCast_mul]
  grind
theorem qv_mul {x y : Fr} (hx : 0 < x.2) (hy : 0 < y.2) : qv (fmul x y) = qv x * qv y := by
  unfold fmul
  rw [qv_frac (pos_ne hx hy)]
  have h1 : (x.2 : Rat) ≠ 0 := cast_ne (by omega)
  have h2 : (y.2 : Rat) ≠ 0 := cast_ne (by omega)
  unfold qv
  rw [Rat.intCast_mul, Rat.intCast_mul]
  grind
theorem qv_shr {x y : Fr} (hx : 0 < x.2) (hy : 0 < y.2) (n : y.1 ≠ 0) : qv (fshr x y) = qv x / qv y := by
  unfold fshr
  rw [qv_frac (Int.mul_ne_zero (Int.ne_of_gt hx) n)]
  have h1 : (x.2 : Rat) ≠ 0 := cast_ne (by omega)
  have h2 : (y.2 : Rat) ≠ 0 := cast_ne (by omega)
  have h3 : (y.1 : Rat) ≠ 0 := cast_ne n
  unfold qv
  rw [Rat.intCast_mul, Rat.intCast_mul]
  grind
theorem qv_zero {x : Fr} (hx : 0 < x.2) : qv x = 0 ↔ x.1 = 0 := by
  have h1 : (x.2 : Rat) ≠ 0 := cast_ne (by omega)
  unfold qv
  constructor
  · intro h
    have : (x.1 : Rat) = 0 := by grind
    exact_mod_cast this
  · intro h
    rw [h]
    have : ((0 : Int) : Rat) = 0 := rfl
    rw [this]
    grind
/-! ### the elimination, told -/
/-- the value at row i, column j -/
def mv (R : List (List Fr)) (i j : Nat) : Rat := qv ((R.getD i []).getD j (0, 1))
/-- all rows tell 0 -/
def Nul (n : Nat) (R : Nat → Nat → Rat) (h : Nat → Rat) : Prop := ∀ i, i < n → Sg (n + 1) (fun j => R i j * h j) = 0
structure GJ (n m : Nat) (R0 R : Nat → Nat → Rat) : Prop where
  unit : ∀ i j, i < n → j < m → R i j = if i = j then 1 else 0
  same : ∀ h, Nul n R h ↔ Nul n R0 h
/-- only naught is told naught -/
def Reg (n : Nat) (R0 : Nat → Nat → Rat) : Prop := ∀ h, h n = 0 → Nul n R0 h → ∀ j, j < n → h j = 0
theorem gj_start (n : Nat) (R0 : Nat → Nat → Rat) : GJ n 0 R0 R0 := ⟨fun i j _ hj => absurd hj (by omega), fun h => Iff.rfl⟩
theorem gj_pivot {n m : Nat} {R0 R : Nat → Nat → Rat} (g : GJ n m R0 R) (reg : Reg n R0) (hm : m < n) : ∃ i, m ≤ i ∧ i < n ∧ R i m ≠ 0 := by
  refine Classical.byContradiction fun hno => ?_
  have hno : ∀ i, m ≤ i → i < n → R i m = 0 := fun i h1 h2 => Classical.byContradiction fun z => hno ⟨i, h1, h2, z⟩
  let h : Nat → Rat := fun j => if j < m then - R j m else if j = m then 1 else 0
  have hnul : Nul n R h := fun i hi => by
    have hz : ∀ j, j < n + 1 → j ≠ m → j ≠ i → R i j * h j = 0 := fun j hj h1 h2 => by
      by_cases hjm : j < m
      · rw [g.unit i j hi hjm, if_neg fun z => h2 z.symm]
        grind
      · show R i j * (if j < m then _ else if j = m then _ else 0) = 0
        rw [if_neg hjm, if_neg h1]
        grind
    by_cases him : i < m
    · have e : ∀ j, R i j * h j = (if j = i then - R i m else 0) + (if j = m then R i m else 0) ∨ ¬ j < n + 1 := fun j => by
        by_cases hj : j < n + 1
        · left
          by_cases h1 : j = m
          · subst h1
            show R i j * (if j < j then _ else if j = j then 1 else 0) = _
            rw [if_neg (by omega), if_pos rfl, if_neg (show ¬ j = i by omega), if_pos rfl]
            grind
          · by_cases h2 : j = i
            · subst h2
              show R j j * (if j < m then - R j m else _) = _
              rw [if_pos him, if_pos rfl, if_neg h1, g.unit j j hi him, if_pos rfl]
              grind
            · rw [hz j hj h1 h2, if_neg h2, if_neg h1]
              grind
        · exact .inr hj
      rw [Sg_congr (g := fun j => (if j = i then - R i m else 0) + (if j = m then R i m else 0)) fun j hj => (e j).elim id fun z => absurd hj z, Sg_add, Sg_one (k := i) (by omega) (fun j _ hne => if_neg hne), Sg_one (k := m) (by omega) (fun j _ hne => if_neg hne), if_pos rfl, if_pos rfl]
      grind
    · refine Sg_zero fun j hj => ?_
      by_cases h1 : j = m
      · rw [h1, hno i (by omega) hi]
        grind
      · by_cases h2 : j = i
        · subst h2
          show R j j * (if j < m then _ else if j = m then _ else 0) = 0
          rw [if_neg him, if_neg h1]
          grind
        · exact hz j hj h1 h2
  have h1 := reg h (by
    show (if n < m then _ else if n = m then _ else 0) = (0 : Rat)
    rw [if_neg (by omega), if_neg (by omega)]) ((g.same h).mp hnul) m hm
  have h2 : h m = 1 := by
    show (if m < m then _ else if m = m then 1 else 0) = (1 : Rat)
    rw [if_neg (by omega), if_pos rfl]
  rw [h2] at h1
  exact absurd h1 (by decide)
/-- a row further down is brought up -/
theorem gj_swap {n m s : Nat} {R0 R R' : Nat → Nat → Rat} (g : GJ n m R0 R) (hm : m < n) (hs : m ≤ s) (hs' : s < n) (e : ∀ i j, i < n → R' i j = if i = s then R m j else if i = m then R s j else R i j) : GJ n m R0 R' := by
  refine ⟨fun i j hi hj => ?_, fun h => ?_⟩
  · rw [e i j hi]
    by_cases h1 : i = s
    · rw [if_pos h1, g.unit m j hm hj, if_neg (by omega), if_neg (by omega)]
    · rw [if_neg h1]
      by_cases h2 : i = m
      · rw [if_pos h2, g.unit s j hs' hj, if_neg (by omega), if_neg (by omega)]
      · rw [if_neg h2, g.unit i j hi hj]
  · rw [← g.same h]
    have rs : Sg (n + 1) (fun j => R' s j * h j) = Sg (n + 1) (fun j => R m j * h j) := Sg_congr fun j _ => by rw [e s j hs', if_pos rfl]
    have rm : Sg (n + 1) (fun j => R' m j * h j) = Sg (n + 1) (fun j => R s j * h j) := Sg_congr fun j _ => by
      rw [e m j hm]
      by_cases z : m = s
      · rw [if_pos z, z]
      · rw [if_neg z, if_pos rfl]
    have ro : ∀ i, i < n → i ≠ s → i ≠ m → Sg (n + 1) (fun j => R' i j * h j) = Sg (n + 1) (fun j => R i j * h j) := fun i hi h1 h2 => Sg_congr fun j _ => by rw [e i j hi, if_neg h1, if_neg h2]
    constructor
    · intro H i hi
      by_cases h1 : i = s
      · rw [h1, ← rm]
        exact H m hm
      · by_cases h2 : i = m
        · rw [h2, ← rs]
          exact H s hs'
        · rw [← ro i hi h1 h2]
          exact H i hi
    · intro H i hi
      by_cases h1 : i = s
      · rw [h1, rs]
        exact H m hm
      · by_cases h2 : i = m
        · rw [h2, rm]
          exact H s hs'
        · rw [ro i hi h1 h2]
          exact H i hi
/-- the row is made one there, the column naught elsewhere -/
theorem gj_step {n m : Nat} {R0 R R' : Nat → Nat → Rat} (g : GJ n m R0 R) (hm : m < n) (hp : R m m ≠ 0) (e1 : ∀ j, j < n + 1 → R' m j = R m j / R m m) (e2 : ∀ i j, i < n → j < n + 1 → i ≠ m → R' i j = R i j - R i m * (R m j / R m m)) : GJ n (m + 1) R0 R' := by
  refine ⟨fun i j hi hj => ?_, fun h => ?_⟩
  · by_cases h1 : i = m
    · subst h1
      rw [e1 j (by omega)]
      by_cases h2 : i = j
      · subst h2
        rw [if_pos rfl]
        grind
      · rw [if_neg h2, g.unit i j hi (by omega), if_neg h2]
        grind
    · rw [e2 i j hi (by omega) h1]
      by_cases h2 : j = m
      · subst h2
        rw [if_neg h1]
        grind
      · rw [g.unit i j hi (by omega), g.unit m j hm (by omega), if_neg (show ¬ m = j by omega)]
        grind
  · rw [← g.same h]
    have rm : Sg (n + 1) (fun j => R' m j * h j) = (1 / R m m) * Sg (n + 1) (fun j => R m j * h j) := by
      rw [← Sg_mul]
      refine Sg_congr fun j hj => ?_
      rw [e1 j hj]
      grind
    have ro : ∀ i, i < n → i ≠ m → Sg (n + 1) (fun j => R' i j * h j) = Sg (n + 1) (fun j => R i j * h j) - (R i m / R m m) * Sg (n + 1) (fun j => R m j * h j) := fun i hi h1 => by
      rw [← Sg_mul, ← Sg_sub]
      refine Sg_congr fun j hj => ?_
      rw [e2 i j hi hj h1]
      grind
    constructor
    · intro H i hi
      have hm0 := H m hm
      rw [rm] at hm0
      have hm1 : Sg (n + 1) (fun j => R m j * h j) = 0 := by grind
      by_cases h1 : i = m
      · rw [h1]
        exact hm1
      · have := H i hi
        rw [ro i hi h1, hm1] at this
        grind
    · intro H i hi
      have hm1 := H m hm
      by_cases h1 : i = m
      · rw [h1, rm, hm1]
        grind
      · rw [ro i hi h1, hm1, H i hi]
        grind
theorem gj_end {n : Nat} {R0 R : Nat → Nat → Rat} (g : GJ n n R0 R) : ∀ i, i < n → Sg n (fun j => R0 i j * R j n) = R0 i n := by
  obtain ⟨hv, h1, h2⟩ : ∃ hv : Nat → Rat, (∀ j, j < n → hv j = R j n) ∧ hv n = -1 := ⟨fun j => if j < n then R j n else -1, fun j hj => if_pos hj, if_neg (by omega)⟩
  have := (g.same hv).mp fun i hi => by
    rw [Sg, Sg_congr (g := fun j => if j = i then R i n else 0) fun j hj => ?_, Sg_one hi fun j _ hne => if_neg hne, if_pos rfl, h2]
    · grind
    · rw [g.unit i j hi hj, h1 j hj]
      by_cases z : j = i
      · rw [if_pos z, if_pos z.symm, z]
        grind
      · rw [if_neg z, if_neg fun y => z y.symm]
        grind
  intro i hi
  have h3 := this i hi
  rw [Sg, h2, Sg_congr (g := fun j => R0 i j * R j n) fun j hj => by rw [h1 j hj]] at h3
  grind
end Wr
set_option maxHeartbeats 4000000
namespace Wr
open PySem L2
/-! ### an owned list of data: length, item, two items swapped -/
section
variable {C : Cn} {K : PySem.W.Frag} {G : En} {N : En → Prop} {R : D → En → Prop} {te ti : TE} {i r a b : Nat}
theorem ev_lenO {l : Addr} {xs : List SV} (hi : G.De[i]? = some (.ptr l)) (hl : G.at l (.lst xs)) : EvD C (tCB (rLen K) (tCons (tVar i) tNil)) G (.i xs.length) := fun O H σ g Q q => by
  obtain ⟨o, h1, h2⟩ := g.sl.get hi
  have h2 : o = some (.ref l) := h2
  subst h2
  obtain ⟨vs, hv, hs⟩ := g.ok _ hl
  exact ⟨.ref l, h1, .ref l, vs.length, rfl, .inl ⟨vs, SqL.of hv, rfl⟩, q _ _ H rfl (Same.refl H) (rep_v.mpr (by rw [hs.mlen]))⟩
theorem mget {vs : List V} {n : Nat} {v : V} (h : (vs.map some)[n]? = some (some v)) : vs[n]? = some v := by
  rw [List.getElem?_map] at h
  cases q : vs[n]? with
  | none =>
    rw [q] at h
    cases h
  | some c =>
    rw [q] at h
    exact Option.some.inj h
theorem ev_ixOd {l : Addr} {xs : List SV} {d : D} {j : Nat} (hi : G.De[i]? = some (.ptr l)) (hl : G.at l (.lst xs)) (hx : EvD C ti G (.i (j : Nat))) (hj : xs[j]? = some (.im d)) : EvD C (tOp (rIxL K) (tVar i) ti) G d := fun O H σ g Q q => by
  obtain ⟨o, h1, h2⟩ := g.sl.get hi
  have h2 : o = some (.ref l) := h2
  subst h2
  obtain ⟨vs, hv, hs⟩ := g.ok _ hl
  refine ⟨.ref l, h1, hx O H σ g _ fun d' w H1 hd e1 rw' => ?_⟩
  subst hd
  obtain ⟨o, h3, v, rfl, rv⟩ := hs.get hj
  exact ⟨l, vs, (j : Int), v, rfl, rep_v.mp rw', SqL.of (e1 _ _ hv rfl), atI_nat (mget h3), q _ _ H1 rfl e1 (rv.mono (hide_mono e1))⟩
theorem ixN_nat {n j : Nat} (h : j < n) : ixN n (j : Int) = some j := by
  unfold ixN
  rw [if_pos (by omega), if_pos (by omega)]
  rfl
theorem sd_swap {p : Addr} {ds : List D} {x y : Nat} {dx dy : D} (hr : G.De[r]? = some (.ptr p)) (hp : G.at p (.lst (ds.map .im))) (ha : G.De[a]? = some (.im (.i (x : Nat)))) (hb : G.De[b]? = some (.im (.i (y : Nat)))) (hx : ds[x]? = some dx) (hy : ds[y]? = some dy)
    (k : N ((G.put p (.lst ((ds.set x dy).map .im))).put p (.lst (((ds.set x dy).set y dx).map .im)))) :
    SD C (tAsg (tTup (tCons (tOp (rIxL K) (tVar r) (tVar b)) (tCons (tOp (rIxL K) (tVar r) (tVar a)) tNil))) (gTup K 2 (gCons (gSub (tVar r) (tVar a) rSetL) (gCons (gSub (tVar r) (tVar b) rSetL) gNil)))) G N R := fun H0 O0 H σ E g n rr => by
  obtain ⟨o, h1, h2⟩ := g.e.sl.get hr
  have h2 : o = some (.ref p) := h2
  subst h2
  obtain ⟨oa, ha1, va, rfl, hra⟩ := g.e.sl.get ha
  obtain ⟨ob, hb1, vb, rfl, hrb⟩ := g.e.sl.get hb
  obtain rfl := rep_v.mp hra
  obtain rfl := rep_v.mp hrb
  obtain ⟨vs, hv, hs⟩ := g.get hp
  obtain ⟨ox, hx1, ux, rfl, rx⟩ := hs.get (i := x) (s := .im dx) (by rw [List.getElem?_map, hx]; rfl)
  obtain ⟨oy, hy1, uy, rfl, ry⟩ := hs.get (i := y) (s := .im dy) (by rw [List.getElem?_map, hy]; rfl)
  have hx2 := mget hx1
  have hy2 := mget hy1
  have xl := (List.getElem?_eq_some_iff.mp hx2).1
  have yl := (List.getElem?_eq_some_iff.mp hy2).1
  refine ⟨.ref p, h1, .int y, hb1, p, vs, (y : Int), uy, rfl, rfl, SqL.of hv, atI_nat hy2, ?_⟩
  refine ⟨.ref p, h1, .int x, ha1, p, vs, (x : Int), ux, rfl, rfl, SqL.of hv, atI_nat hx2, ?_⟩
  refine ⟨by show 2 ≤ _; rw [PySem.sizeLine_eq]; decide, fun T nT => ?_⟩
  have e1 : Same H (upd H T (.tup [uy, ux])) := same_new nT
  have g1 := g.mono e1
  have hv1 := e1 _ _ hv rfl
  refine ⟨T, [uy, ux], rfl, SqT.of upd_same, rfl, uy, [ux], rfl, ?_⟩
  refine ⟨.ref p, h1, .int x, ha1, p, vs, (x : Int), x, rfl, rfl, hv1, ixN_nat xl, ?_⟩
  obtain ⟨g2, ek2⟩ := g1.put (y := .lst ((ds.set x dy).map .im)) hp rfl ⟨vs.set x uy, upd_same, by
    rw [List.map_set, List.map_set]
    exact (hs.mono (hide_mono e1)).set x (sv_im (ry.mono (hide_mono e1)))⟩
  refine ⟨ux, [], rfl, .ref p, h1, .int y, hb1, p, vs.set x uy, (y : Int), y, rfl, rfl, upd_same, ixN_nat (by rw [List.length_set]; exact yl), ?_⟩
  obtain ⟨g3, ek3⟩ := g2.put (y := .lst (((ds.set x dy).set y dx).map .im)) (En.at_put hp) rfl ⟨(vs.set x uy).set y ux, upd_same, by
    rw [ek2, List.map_set, List.map_set, List.map_set, List.map_set]
    exact ((hs.mono (hide_mono e1)).set x (sv_im (ry.mono (hide_mono e1)))).set y (sv_im (rx.mono (hide_mono e1)))⟩
  refine ⟨rfl, n _ σ _ k g3 ?_⟩
  rw [ek3, ek2]
  exact hide_mono e1
end
end Wr
set_option maxHeartbeats 4000000
namespace Wr
open PySem L2
/-! ### the elimination, walked -/
def dR (r : List Fr) : D := .lst (r.map dF)
structure RowsOk (n k : Nat) (R : List (List Fr)) : Prop where
  len : R.length = n
  row : ∀ r ∈ R, r.length = n + 1 ∧ ∀ f ∈ r, FOk k f
theorem RowsOk.at {n k : Nat} {R : List (List Fr)} (h : RowsOk n k R) {i : Nat} (hi : i < n) : ∃ r, R[i]? = some r ∧ R.getD i [] = r ∧ r.length = n + 1 ∧ ∀ f ∈ r, FOk k f := by
  have hl := h.len
  have h1 : R[i]? = some (R[i]'(by omega)) := List.getElem?_eq_getElem (by omega)
  have h2 := h.row _ (List.getElem_mem (show i < R.length by omega))
  exact ⟨_, h1, by rw [List.getD_eq_getElem?_getD, h1]; rfl, h2.1, h2.2⟩
theorem RowsOk.ent {n k : Nat} {R : List (List Fr)} (h : RowsOk n k R) {i j : Nat} (hi : i < n) (hj : j < n + 1) : FOk k ((R.getD i []).getD j (0, 1)) := by
  obtain ⟨r, h1, h2, h3, h4⟩ := h.at hi
  rw [h2, List.getD_eq_getElem?_getD, List.getElem?_eq_getElem (by omega)]
  exact h4 _ (List.getElem_mem (show j < r.length by omega))
structure SolX where
  M : List (List Int)
  wd : List Fr
def rows0 (x : SolX) : List (List Fr) := (x.M.zip x.wd).map fun p => (p.1.map fun a => ((a, 1) : Fr)) ++ [p.2]
structure SolOk (x : SolX) : Prop where
  n4 : x.M.length ≤ 4
  sq : ∀ r ∈ x.M, r.length = x.M.length ∧ ∀ a ∈ r, Sm 5 a
  wl : x.wd.length = x.M.length
  wk : ∀ f ∈ x.wd, FOk 5 f
  reg : Reg x.M.length (mv (rows0 x))
theorem rows0_ok {x : SolX} (h : SolOk x) : RowsOk x.M.length 5 (rows0 x) := by
  refine ⟨?_, fun r hr => ?_⟩
  · unfold rows0
    rw [List.length_map, List.length_zip, h.wl, Nat.min_self]
  · obtain ⟨p, hp, rfl⟩ := List.mem_map.mp hr
    obtain ⟨h1, h2⟩ := List.of_mem_zip hp
    obtain ⟨h3, h4⟩ := h.sq _ h1
    refine ⟨by rw [List.length_append, List.length_map, h3]; rfl, fun f hf => ?_⟩
    rcases List.mem_append.mp hf with z | z
    · obtain ⟨a, ha, rfl⟩ := List.mem_map.mp z
      exact ⟨(by decide : (0 : Int) < 1), h4 a ha, (by decide : (1 : Int).natAbs < 2 ^ 5)⟩
    · rw [List.mem_singleton.mp z]
      exact h.wk _ h2
def kb : Nat → Nat
  | 0 => 5
  | m + 1 => 4 * kb m + 1
theorem kb_le : ∀ m, m < 4 → kb m ≤ 1000 := by decide
theorem kb_end : ∀ m, m ≤ 4 → kb m ≤ 4000 := by decide
theorem redu_len {row lead : List Fr} {m : Nat} : (redu row lead m).length = min row.length lead.length := by
  unfold redu
  rw [List.length_map, List.length_zip]
theorem redu_at {row lead : List Fr} {m j : Nat} (h1 : j < row.length) (h2 : j < lead.length) : (redu row lead m).getD j (0, 1) = fsub (row.getD j (0, 1)) (fmul (row.getD m (0, 1)) (lead.getD j (0, 1))) := by
  unfold redu
  rw [List.getD_eq_getElem?_getD, List.getElem?_map, List.getD_eq_getElem?_getD (l := row) (i := j), List.getD_eq_getElem?_getD (l := lead), List.getElem?_eq_getElem h1, List.getElem?_eq_getElem h2]
  have : (row.zip lead)[j]? = some (row[j], lead[j]) := by
    rw [List.getElem?_zip_eq_some]
    exact ⟨List.getElem?_eq_getElem h1, List.getElem?_eq_getElem h2⟩
  rw [this]
  rfl
def swR (R : List (List Fr)) (m s : Nat) : List (List Fr) := (R.set m (R.getD s [])).set s (R.getD m [])
theorem swR_at {R : List (List Fr)} {m s i : Nat} (hm : m < R.length) (hs : s < R.length) : (swR R m s).getD i [] = if i = s then R.getD m [] else if i = m then R.getD s [] else R.getD i [] := by
  unfold swR
  rw [List.getD_eq_getElem?_getD, List.getElem?_set]
  by_cases h1 : s = i
  · rw [if_pos h1, if_pos (by rw [List.length_set]; exact hs), if_pos h1.symm]
    rfl
  · rw [if_neg h1, if_neg fun z => h1 z.symm, List.getElem?_set]
    by_cases h2 : m = i
    · rw [if_pos h2, if_pos hm, if_pos h2.symm]
      rfl
    · rw [if_neg h2, if_neg fun z => h2 z.symm, ← List.getD_eq_getElem?_getD]
theorem swR_ok {n k m s : Nat} {R : List (List Fr)} (h : RowsOk n k R) (hm : m < n) (hs : s < n) : RowsOk n k (swR R m s) := by
  have hl := h.len
  refine ⟨by unfold swR; rw [List.length_set, List.length_set, hl], fun r hr => ?_⟩
  obtain ⟨i, hi, e⟩ := List.getElem_of_mem hr
  have hil : i < n := by
    unfold swR at hi
    rw [List.length_set, List.length_set, hl] at hi
    exact hi
  have e2 : (swR R m s).getD i [] = r := by
    rw [List.getD_eq_getElem?_getD, List.getElem?_eq_getElem hi, e]
    rfl
  rw [swR_at (by omega) (by omega)] at e2
  have get : ∀ j, j < n → (R.getD j []).length = n + 1 ∧ ∀ f ∈ R.getD j [], FOk k f := fun j hj => by
    obtain ⟨r, _, h2, h3⟩ := h.at hj
    rw [h2]
    exact h3
  rw [← e2]
  split
  · exact get m hm
  · split
    · exact get s hs
    · exact get i hil
def leadR (R1 : List (List Fr)) (m : Nat) : List Fr := (R1.getD m []).map fun f => fshr f ((R1.getD m []).getD m (0, 1))
def stepR (R1 : List (List Fr)) (m : Nat) : List (List Fr) := (List.range R1.length).map fun i => if i = m then leadR R1 m else redu (R1.getD i []) (leadR R1 m) m
theorem lead_len {n k m : Nat} {R : List (List Fr)} (h : RowsOk n k R) (hm : m < n) : (leadR R m).length = n + 1 := by
  obtain ⟨r, _, h2, h3, _⟩ := h.at hm
  unfold leadR
  rw [List.length_map, h2, h3]
theorem lead_at {n k m j : Nat} {R : List (List Fr)} (h : RowsOk n k R) (hm : m < n) (hj : j < n + 1) : (leadR R m).getD j (0, 1) = fshr ((R.getD m []).getD j (0, 1)) ((R.getD m []).getD m (0, 1)) := by
  obtain ⟨r, _, h2, h3, _⟩ := h.at hm
  unfold leadR
  rw [h2, List.getD_eq_getElem?_getD, List.getElem?_map, List.getD_eq_getElem?_getD (i := j) (l := r), List.getElem?_eq_getElem (by omega)]
  rfl
theorem lead_ok {n k m : Nat} {R : List (List Fr)} (h : RowsOk n k R) (hm : m < n) (hp : ((R.getD m []).getD m (0, 1)).1 ≠ 0) : ∀ f ∈ leadR R m, FOk (k + k) f := by
  obtain ⟨r, _, h2, h3, h4⟩ := h.at hm
  have hk := h.ent hm (show m < n + 1 by omega)
  intro f hf
  unfold leadR at hf
  obtain ⟨y, hy, rfl⟩ := List.mem_map.mp hf
  rw [h2] at hy
  exact fshr_ok (h4 y hy) hk hp
theorem stepR_at {n k m i : Nat} {R : List (List Fr)} (h : RowsOk n k R) (hi : i < n) : (stepR R m).getD i [] = if i = m then leadR R m else redu (R.getD i []) (leadR R m) m := by
  unfold stepR
  rw [List.getD_eq_getElem?_getD, List.getElem?_map, List.getElem?_range (by rw [h.len]; exact hi)]
  rfl
theorem redu_ok {row lead : List Fr} {m k l : Nat} (h1 : ∀ f ∈ row, FOk k f) (h2 : ∀ f ∈ lead, FOk l f) (hm : m < row.length) : ∀ f ∈ redu row lead m, FOk (k + (k + l) + 1) f := by
  intro f hf
  unfold redu at hf
  obtain ⟨p, hp, rfl⟩ := List.mem_map.mp hf
  obtain ⟨a, b⟩ := List.of_mem_zip hp
  refine fsub_ok (h1 _ a) (fmul_ok ?_ (h2 _ b))
  rw [List.getD_eq_getElem?_getD, List.getElem?_eq_getElem hm]
  exact h1 _ (List.getElem_mem hm)
theorem stepR_ok {n k m : Nat} {R : List (List Fr)} (h : RowsOk n k R) (hm : m < n) (hp : ((R.getD m []).getD m (0, 1)).1 ≠ 0) : RowsOk n (4 * k + 1) (stepR R m) := by
  refine ⟨by unfold stepR; rw [List.length_map, List.length_range, h.len], fun r hr => ?_⟩
  unfold stepR at hr
  obtain ⟨i, hi, rfl⟩ := List.mem_map.mp hr
  have hi : i < n := by rw [← h.len]; exact List.mem_range.mp hi
  obtain ⟨r, _, h2, h3, h4⟩ := h.at hi
  split
  · exact ⟨lead_len h hm, fun f hf => (lead_ok h hm hp f hf).mono (by omega)⟩
  · refine ⟨by rw [redu_len, h2, h3, lead_len h hm, Nat.min_self], fun f hf => (redu_ok (k := k) (l := k + k) (by rw [h2]; exact h4) (lead_ok h hm hp) (by rw [h2]; omega) f hf).mono (by omega)⟩
theorem stepR_gj {n k m s : Nat} {R : List (List Fr)} {R0 : Nat → Nat → Rat} (h : RowsOk n k R) (g : GJ n m R0 (mv R)) (hm : m < n) (hs : m ≤ s) (hs' : s < n) (hp : ((R.getD s []).getD m (0, 1)).1 ≠ 0) :
    (((swR R m s).getD m []).getD m (0, 1)).1 ≠ 0 ∧ GJ n (m + 1) R0 (mv (stepR (swR R m s) m)) := by
  have hl := h.len
  have ok1 := swR_ok h hm hs'
  have g1 : GJ n m R0 (mv (swR R m s)) := gj_swap g hm hs hs' fun i j hi => by
    unfold mv
    rw [swR_at (by omega) (by omega)]
    by_cases h1 : i = s
    · rw [if_pos h1, if_pos h1]
    · rw [if_neg h1, if_neg h1]
      by_cases h2 : i = m
      · rw [if_pos h2, if_pos h2]
      · rw [if_neg h2, if_neg h2]
  have hp1 : (((swR R m s).getD m []).getD m (0, 1)).1 ≠ 0 := by
    rw [swR_at (by omega) (by omega)]
    by_cases h1 : m = s
    · rw [if_pos h1]
      rw [← h1] at hp
      exact hp
    · rw [if_neg h1, if_pos rfl]
      exact hp
  refine ⟨hp1, gj_step g1 hm ?_ (fun j hj => ?_) fun i j hi hj hne => ?_⟩
  · unfold mv
    exact fun z => hp1 ((qv_zero (ok1.ent hm (show m < n + 1 by omega)).1).mp z)
  · unfold mv
    rw [stepR_at ok1 hm, if_pos rfl, lead_at ok1 hm hj]
    exact qv_shr (ok1.ent hm hj).1 (ok1.ent hm (by omega)).1 hp1
  · unfold mv
    obtain ⟨r, _, h2, h3, h4⟩ := ok1.at hi
    rw [stepR_at ok1 hi, if_neg hne, redu_at (by rw [h2, h3]; exact hj) (by rw [lead_len ok1 hm]; exact hj), lead_at ok1 hm hj]
    have k1 := ok1.ent hi hj
    have k2 := ok1.ent hi (show m < n + 1 by omega)
    have k3 := ok1.ent hm hj
    have k4 := ok1.ent hm (show m < n + 1 by omega)
    have k5 := fshr_ok k3 k4 hp1
    rw [qv_sub k1.1 (fmul_ok k2 k5).1, qv_mul k2.1 k5.1, qv_shr k3.1 k4.1 hp1]
end Wr
set_option maxHeartbeats 4000000
namespace Wr
open PySem L2
def oSV : Option D → SV
  | none => .no
  | some d => .im d
def solG (p : Addr) (R : List (List Fr)) (w : D) (a b c : Option D) : En := ⟨[(p, .lst ((R.map dR).map .im))], [.ptr p, .im w, oSV a, oSV b, oSV c, .no, .no, .no, .no]⟩
theorem sol_frz (p : Addr) (R : List (List Fr)) (w : D) (a b c : Option D) : (solG p R w a b c).frz p (R.map dR) = ⟨[], [.im (.lst (R.map dR)), .im w, oSV a, oSV b, oSV c, .no, .no, .no, .no]⟩ := by
  unfold solG En.frz
  cases a <;> cases b <;> cases c <;> simp [oSV]
theorem row_at {n k : Nat} {R : List (List Fr)} (h : RowsOk n k R) {i : Nat} (hi : i < n) : atI (R.map dR) (i : Int) = some (dR (R.getD i [])) := by
  obtain ⟨r, h1, h2, _⟩ := h.at hi
  refine atI_n ?_
  rw [List.getElem?_map, h1, h2]
  rfl
theorem ent_at {n k : Nat} {R : List (List Fr)} (h : RowsOk n k R) {i j : Nat} (hi : i < n) (hj : j < n + 1) : atI ((R.getD i []).map dF) (j : Int) = some (dF ((R.getD i []).getD j (0, 1))) := by
  obtain ⟨r, h1, h2, h3, _⟩ := h.at hi
  refine atI_n ?_
  rw [h2, List.getElem?_map, List.getD_eq_getElem?_getD, List.getElem?_eq_getElem (by omega)]
  rfl
abbrev N_solved : List PySem.Str := ["rows", "wanted", "at", "spot", "lead", "row", "due", "number", "place"]
theorem sc_solved : FnScope N_solved ["rows", "wanted"] (defScope s_solved) := ⟨rfl, rfl, rfl, by decide +kernel, rfl, by decide +kernel, by decide +kernel⟩
def sp_solved (C : Cn) : Sp := spT C (fun x : SolX => [.lst (x.M.map fun r => D.lst (dI r)), .lst (x.wd.map dF)]) SolOk (fun x d => ∃ hs : List Fr, hs.length = x.M.length ∧ (∀ f ∈ hs, FOk 4000 f) ∧ (∀ i, i < x.M.length → Sg x.M.length (fun j => mv (rows0 x) i j * qv (hs.getD j (0, 1))) = mv (rows0 x) i x.M.length) ∧ d = .lst (hs.map dF))
theorem has_solved {P : Program} {w : World} {K : PySem.W.Frag} {mg : PySem.Str → Option Value} {base : Heap} {C : Cn} (T : Tx K mg C.cls) : Has P w K mg base 5 "solved" ["rows", "wanted"] (sp_solved C) := by
  refine fn_has T 67 (d := d_solved) rfl rfl (N := N_solved) sc_solved rfl rfl (fun _ _ _ _ _ _ us hl => match us, hl with | [_, _], _ => rfl) (fun _ => rfl) (fun cdv A' outer s H E hr => ⟨_, (pss_cons (ps_set (i := 0) sc_solved.nd rfl (.inr rfl) (pe_lc (own := [("row", 5), ("due", 6)]) (g := gTup K 2 (gCons (gName 5) (gCons (gName 6) gNil))) (tt := tYes) rfl sc_solved.nd (k_pi_zip (K := K) rfl (by rfl) T.xzip (pa_cons (pv 0) (pa_cons (pv 1) pa_nil))) (blkOk_by (own := [("row", 5), ("due", 6)]) (N := N_solved) (sc := defScope s_solved) (by decide +kernel)) (fun _ _ _ _ _ => (pg_tup rfl (pgs_cons (pg_name (i := 5) sc_solved.nd rfl (.inl rfl)) (pgs_cons (pg_name (i := 6) sc_solved.nd rfl (.inl rfl)) pgs_nil)))) (fun _ _ _ _ _ => pts_nil) (fun _ _ _ _ _ => (pe_op op_cat (pe_lc (own := [("number", 7)]) (g := gName 7) (tt := tYes) rfl sc_solved.nd (k_pi_list (K := K) rfl (pv 5)) (blkOk_by (own := [("number", 7)]) (N := N_solved) (sc := ({ kind := .function, names := [(".0", .local), ("row", .local), ("due", .local)], isGenerator := false, isCoroutine := false } : Scope)) (by decide +kernel)) (fun _ _ _ _ _ => (pg_name (i := 7) sc_solved.nd rfl (.inl rfl))) (fun _ _ _ _ _ => pts_nil) (fun _ _ _ _ _ => (pe_tup (pa_cons (pv 7) (pa_cons pe_int pa_nil))))) (pe_lst (pa_cons (pv 6) pa_nil))))))
      (pss_cons (ps_for PassesOwn.never rfl (pi_range1 (by rfl) T.xrange (pa_cons (pe_callB (k_call_len (K := K) rfl) (by rfl) T.xlen bt_len (pa_cons (pv 0) pa_nil)) pa_nil)) (pg_name (i := 2) sc_solved.nd rfl (.inr rfl)) (pss_cons (ps_set (i := 3) sc_solved.nd rfl (.inl rfl) (pe_ix (k_ix_list (K := K) rfl) (pe_lc (own := [("place", 8)]) (g := gName 8) rfl sc_solved.nd (pi_range2 (by rfl) T.xrange (pa_cons (pv 2) (pa_cons (pe_callB (k_call_len (K := K) rfl) (by rfl) T.xlen bt_len (pa_cons (pv 0) pa_nil)) pa_nil))) (blkOk_by (own := [("place", 8)]) (N := N_solved) (sc := defScope s_solved) (by decide +kernel)) (fun _ _ _ _ _ => (pg_name (i := 8) sc_solved.nd rfl (.inl rfl))) (fun _ _ _ _ _ => (pts_one (pt_cmpR op_ne (pe_ix (k_ix_tup (K := K) rfl) (pe_ix (k_ix_list (K := K) rfl) (pe_ix (k_ix_list (K := K) rfl) (pv 0) (pv 8) (fun _ _ => rfl)) (pv 2) (fun _ _ => rfl)) pe_int (fun _ _ => rfl)) pe_int (nomark _)))) (fun _ _ _ _ _ => (pv 8))) pe_int (fun _ _ => rfl)))
      (pss_cons (ps_asg (pe_tup (pa_cons (pe_ix (k_ix_list (K := K) rfl) (pv 0) (pv 3) (fun _ _ => rfl)) (pa_cons (pe_ix (k_ix_list (K := K) rfl) (pv 0) (pv 2) (fun _ _ => rfl)) pa_nil))) (pg_tup rfl (pgs_cons (pg_sub (pv 0) (pv 2) set_list) (pgs_cons (pg_sub (pv 0) (pv 3) set_list) pgs_nil))))
      (pss_cons (ps_set (i := 4) sc_solved.nd rfl (.inr rfl) (pe_lc (own := [("number", 7)]) (g := gName 7) (tt := tYes) rfl sc_solved.nd (k_pi_list (K := K) rfl (pe_ix (k_ix_list (K := K) rfl) (pv 0) (pv 2) (fun _ _ => rfl))) (blkOk_by (own := [("number", 7)]) (N := N_solved) (sc := defScope s_solved) (by decide +kernel)) (fun _ _ _ _ _ => (pg_name (i := 7) sc_solved.nd rfl (.inl rfl))) (fun _ _ _ _ _ => pts_nil) (fun _ _ _ _ _ => (pe_has (has_shared_out T) (hr.mono (by decide)) (by rfl) (pa_cons (pv 7) (pa_cons (pe_ix (k_ix_list (K := K) rfl) (pe_ix (k_ix_list (K := K) rfl) (pv 0) (pv 2) (fun _ _ => rfl)) (pv 2) (fun _ _ => rfl)) pa_nil))))))
      (pss_one (ps_set (i := 0) sc_solved.nd rfl (.inr rfl) (pe_lc (own := [("place", 8), ("row", 5)]) (g := gTup K 2 (gCons (gName 8) (gCons (gName 5) gNil))) (tt := tYes) rfl sc_solved.nd (k_pi_enum (K := K) rfl (by rfl) T.xenumerate (pa_cons (pv 0) pa_nil)) (blkOk_by (own := [("place", 8), ("row", 5)]) (N := N_solved) (sc := defScope s_solved) (by decide +kernel)) (fun _ _ _ _ _ => (pg_tup rfl (pgs_cons (pg_name (i := 8) sc_solved.nd rfl (.inl rfl)) (pgs_cons (pg_name (i := 5) sc_solved.nd rfl (.inl rfl)) pgs_nil)))) (fun _ _ _ _ _ => pts_nil) (fun _ _ _ _ _ => (pe_ifExp (pt_cmpR op_eq (pv 8) (pv 2) (nomark _)) (pv 4) (pe_has (has_reduced T) (hr.mono (by decide)) (by rfl) (pa_cons (pv 5) (pa_cons (pv 4) (pa_cons (pv 2) pa_nil)))))))))))))
      (pss_one (ps_ret (pe_lc (own := [("row", 5)]) (g := gName 5) (tt := tYes) rfl sc_solved.nd (k_pi_list (K := K) rfl (pv 0)) (blkOk_by (own := [("row", 5)]) (N := N_solved) (sc := defScope s_solved) (by decide +kernel)) (fun _ _ _ _ _ => (pg_name (i := 5) sc_solved.nd rfl (.inl rfl))) (fun _ _ _ _ _ => pts_nil) (fun _ _ _ _ _ => (pe_ix (k_ix_list (K := K) rfl) (pv 5) (pe_un un_neg pe_int) (fun _ _ => rfl)))))))), fun x hx => ?_⟩)
  have ok0 := rows0_ok hx
  have n4 := hx.n4
  have reg := hx.reg
  show SD C _ ⟨[], [.im (.lst (x.M.map fun r => D.lst (dI r))), .im (.lst (x.wd.map dF)), .no, .no, .no, .no, .no, .no, .no]⟩ _ _
  refine sq_ownF (ds := (rows0 x).map dR) (EvF.to (ev_map (C := C) (js := [5, 6]) (x.M.zip x.wd) (fun p => D.tup [.lst (dI p.1), dF p.2]) (fun p => dR ((p.1.map fun a => ((a, 1) : Fr)) ++ [p.2])) (fun p l => (l.set 5 (.im (.lst (dI p.1)))).set 6 (.im (dF p.2))) ((ei_zip (ea2 (ev_v rfl) (ev_v rfl))).to (zipD_map (fun r => D.lst (dI r)) dF _ _)) (fun _ _ => eg_pair) (by rw [List.length_zip]; omega) fun p hp => ?_) ?_) fun p _ => ?_
  · have hl := (hx.sq _ (List.of_mem_zip hp).1).1
    refine ((ev_opF (x := .lst (p.1.map fun a => dF (a, 1))) (y := .lst [dF p.2]) (ev_map (C := C) (js := [7]) p.1 (fun a => D.i a) (fun a => dF (a, 1)) (fun a l => l.set 7 (.im (.i a))) (ei_list (ev_v rfl)) (fun _ _ => eg_name) (by omega) fun a ha => ev_tupD (ea2 (ev_v rfl) ev_c)).dat (ev_lst (ea1 (ev_v rfl))).dat (rf_cat (by rw [List.length_map, List.length_singleton]; omega))).dat).to ?_
    unfold dR
    rw [List.map_append, List.map_map]
    rfl
  · unfold rows0
    rw [List.map_map]
    rfl
  generalize hn : x.M.length = n at *
  show SD C _ (solG p (rows0 x) (.lst (x.wd.map dF)) none none none) _ _
  refine sq_for (C := C) (js := [2]) (List.range n) (fun i => D.i (i : Nat)) (fun i s => s.set 2 (.im (.i (i : Nat)))) (fun m G => ∃ p R a b c, RowsOk n (kb m) R ∧ GJ n m (mv (rows0 x)) (mv R) ∧ G = solG p R (.lst (x.wd.map dF)) a b c)
    ((ei_rng1 (n := (n : Int)) (ea1 ((ev_lenO (l := p) (xs := ((rows0 x).map dR).map .im) rfl (List.mem_cons_self ..)).to (by rw [List.length_map, List.length_map, ok0.len]))) (by omega)).to (by simp)) (fun _ _ => eg_name) ⟨p, rows0 x, none, none, none, ok0, gj_start n _, rfl⟩ ?_ ?_
  · rintro m m' G hm ⟨p, R, a, b, c, ok, g, rfl⟩
    have hm2 : m < n ∧ m = m' := by
      have h1 := (List.getElem?_eq_some_iff.mp hm).1
      rw [List.length_range] at h1
      rw [List.getElem?_range h1] at hm
      exact ⟨h1, Option.some.inj hm⟩
    obtain ⟨hml, rfl⟩ := hm2
    clear hm
    have hm := hml
    show SD C _ (solG p R (.lst (x.wd.map dF)) (some (.i (m : Nat))) b c) _ _
    have hk := kb_le m (by omega)
    obtain ⟨i, hi1, hi2, hi3⟩ := gj_pivot g reg hm
    have hf : (i - m) ∈ (List.range (n - m)).filter fun j => !decide (((R.getD (m + j) []).getD m (0, 1)).1 = 0) := by
      refine List.mem_filter.mpr ⟨List.mem_range.mpr (by omega), ?_⟩
      have e : m + (i - m) = i := by omega
      rw [e, decide_eq_false]
      · rfl
      · exact fun z => hi3 ((qv_zero (ok.ent hi2 (show m < n + 1 by omega)).1).mpr z)
    obtain ⟨i0, rest, hfl⟩ : ∃ i0 rest, ((List.range (n - m)).filter fun j => !decide (((R.getD (m + j) []).getD m (0, 1)).1 = 0)) = i0 :: rest := by
      cases e : (List.range (n - m)).filter fun j => !decide (((R.getD (m + j) []).getD m (0, 1)).1 = 0) with
      | nil =>
        rw [e] at hf
        cases hf
      | cons i0 rest => exact ⟨i0, rest, rfl⟩
    have hi0 : i0 ∈ (List.range (n - m)).filter fun j => !decide (((R.getD (m + j) []).getD m (0, 1)).1 = 0) := by rw [hfl]; exact List.mem_cons_self ..
    obtain ⟨hi0a, hi0b⟩ := List.mem_filter.mp hi0
    have hi0a := List.mem_range.mp hi0a
    have hs' : m + i0 < n := by omega
    have hps : ((R.getD (m + i0) []).getD m (0, 1)).1 ≠ 0 := by simpa using hi0b
    refine sq_asg (d := .i ((m + i0 : Nat) : Int)) (ev_opD (x := .lst (((List.range (n - m)).filter fun j => !decide (((R.getD (m + j) []).getD m (0, 1)).1 = 0)).map fun j => D.i ((m + j : Nat) : Int))) (ev_lc (C := C) (js := [8]) (List.range (n - m)) (fun j => D.i ((m + j : Nat) : Int)) (fun j => !decide (((R.getD (m + j) []).getD m (0, 1)).1 = 0)) (fun j => D.i ((m + j : Nat) : Int)) (fun j l => l.set 8 (.im (.i ((m + j : Nat) : Int))))
      ((ei_rng2 (a := (m : Int)) (b := (n : Int)) (ea2 (ev_v rfl) ((ev_lenO (l := p) (xs := (R.map dR).map .im) rfl (List.mem_cons_self ..)).to (by rw [List.length_map, List.length_map, ok.len]))) (by omega)).to ?_) (fun _ _ => eg_name) (by rw [List.length_range]; omega) (fun j hj => ?_) (fun j hj _ => ev_v rfl)).dat ev_c (rr_ixL (d := .i ((m + i0 : Nat) : Int)) ?_ rfl)) ?_
    · rw [show ((n : Int) - (m : Int)).toNat = n - m by omega]
      refine List.map_congr_left fun j _ => ?_
      rw [Int.natCast_add]
    · have hj := List.mem_range.mp hj
      refine et_test (ev_opD (ev_f0 (ev_opD (x := dR (R.getD (m + j) [])) (ev_ixOd (l := p) (xs := (R.map dR).map .im) (j := m + j) rfl (List.mem_cons_self ..) (ev_v rfl) ?_) (ev_v rfl) (rr_ixL (ent_at ok (show m + j < n by omega) (show m < n + 1 by omega)) rfl))) ev_c rr_neI)
      obtain ⟨r, h1, h2, _⟩ := ok.at (show m + j < n by omega)
      rw [List.getElem?_map, List.getElem?_map, h1, h2]
      rfl
    · rw [hfl]
      exact atI_n (j := 0) rfl
    show SD C _ (solG p R (.lst (x.wd.map dF)) (some (.i (m : Nat))) (some (.i ((m + i0 : Nat) : Int))) c) _ _
    obtain ⟨hp1, g1⟩ := stepR_gj ok g hm (Nat.le_add_right m i0) hs' hps
    have ok1 := swR_ok ok hm hs'
    have hat : ∀ i, i < n → (R.map dR)[i]? = some (dR (R.getD i [])) := fun i hi => by
      obtain ⟨r, h1, h2, _⟩ := ok.at hi
      rw [List.getElem?_map, h1, h2]
      rfl
    refine sd_seq1 (G1 := solG p (swR R m (m + i0)) (.lst (x.wd.map dF)) (some (.i (m : Nat))) (some (.i ((m + i0 : Nat) : Int))) c) (sd_swap (p := p) (ds := R.map dR) (x := m) (y := m + i0) rfl (List.mem_cons_self ..) rfl rfl (hat m hm) (hat _ hs') ?_) ?_
    · have e : ((R.map dR).set m (dR (R.getD (m + i0) []))).set (m + i0) (dR (R.getD m [])) = (swR R m (m + i0)).map dR := by
        unfold swR
        rw [List.map_set, List.map_set]
      unfold solG
      rw [put_one, put_one, e]
    generalize swR R m (m + i0) = R1 at hp1 g1 ok1
    refine sd_frz (l := p) (ds := R1.map dR) (List.mem_cons_self ..) ?_
    rw [sol_frz]
    have o1 := ok1.at hm
    obtain ⟨r, _, hr2, hr3, hr4⟩ := o1
    have pv := ok1.ent hm (show m < n + 1 by omega)
    refine sq_asg (d := dR (leadR R1 m)) (((ev_map (C := C) (js := [7]) (R1.getD m []) dF (fun f => dF (fshr f ((R1.getD m []).getD m (0, 1)))) (fun f l => l.set 7 (.im (dF f))) (ei_list (ev_opD (ev_v rfl) (ev_v rfl) (rr_ixL (row_at ok1 hm) rfl))) (fun _ _ => eg_name) (by rw [hr2]; omega) fun f hf => ?_).dat).to ?_) ?_
    · refine ev_callD (f, (R1.getD m []).getD m (0, 1)) (ea2 (ev_v rfl) (ev_opD (ev_opD (ev_v rfl) (ev_v rfl) (rr_ixL (row_at ok1 hm) rfl)) (ev_v rfl) (rr_ixL (ent_at ok1 hm (show m < n + 1 by omega)) rfl))) ⟨(hr4 f (by rw [← hr2]; exact hf)).mono (by omega), pv.mono (by omega), hp1⟩ fun _ h => h
    · unfold dR leadR
      rw [List.map_map]
      rfl
    refine sd_ownF (ds := (stepR R1 m).map dR) (EvF.to (ev_map (C := C) (js := [8, 5]) (List.range n) (fun i => D.tup [D.i (i : Nat), dR (R1.getD i [])]) (fun i => dR (if i = m then leadR R1 m else redu (R1.getD i []) (leadR R1 m) m)) (fun i l => (l.set 8 (.im (.i (i : Nat)))).set 5 (.im (dR (R1.getD i [])))) ((ei_enum (ea1 (ev_v rfl))).to ?_) (fun _ _ => eg_pair) (by rw [List.length_range]; omega) fun i hi => ?_) ?_) fun p' _ => ⟨p', stepR R1 m, some (.i (m : Nat)), some (.i ((m + i0 : Nat) : Int)), some (dR (leadR R1 m)), stepR_ok ok1 hm hp1, g1, rfl⟩
    · rw [enumD_map dR R1 [], ok1.len]
    · have hi := List.mem_range.mp hi
      refine ev_if (b := decide ((i : Int) = (m : Int))) (et_test (ev_opD (ev_v rfl) (ev_v rfl) rr_eqI)) (fun h => ?_) (fun h => ?_)
      · have h := of_decide_eq_true h
        rw [if_pos (show i = m by omega)]
        exact ev_v rfl
      · have h := of_decide_eq_false h
        rw [if_neg (show ¬ i = m by omega)]
        obtain ⟨r', _, hq2, hq3, hq4⟩ := ok1.at hi
        refine ev_callD (R1.getD i [], leadR R1 m, m) (ea3 (ev_v rfl) (ev_v rfl) (ev_v rfl)) ⟨by simp only; rw [hq2]; omega, by simp only; rw [hq2]; omega, fun f hf => ?_, fun f hf => (lead_ok ok1 hm hp1 f hf).mono (by omega)⟩ fun _ h => h
        simp only at hf
        rw [hq2] at hf
        exact (hq4 f hf).mono hk
    · unfold stepR
      rw [List.map_map, ok1.len]
      rfl
  · rintro G ⟨p, R, a, b, c, ok, g, rfl⟩
    rw [List.length_range] at ok g
    refine sd_frz (l := p) (ds := R.map dR) (List.mem_cons_self ..) ?_
    rw [sol_frz]
    have hke := kb_end n n4
    refine sd_ret (d := .lst ((R.map fun r => r.getD n (0, 1)).map dF)) (((ev_map (C := C) (js := [5]) R dR (fun r => dF (r.getD n (0, 1))) (fun r l => l.set 5 (.im (dR r))) (ei_list (ev_v rfl)) (fun _ _ => eg_name) (by rw [ok.len]; omega) fun r hr => ?_).dat).to (by rw [List.map_map]; rfl)) ⟨R.map fun r => r.getD n (0, 1), by rw [List.length_map, ok.len], fun f hf => ?_, fun i hi => ?_, rfl⟩
    · have hl := (ok.row r hr).1
      refine ev_opD (ev_v rfl) (ev_neg ev_c) (rr_ixL (d := dF (r.getD n (0, 1))) ?_ rfl)
      have e : ixN (r.map dF).length (-1) = some n := by
        rw [List.length_map, hl]
        unfold ixN
        rw [if_neg (by omega), if_pos (by omega)]
        congr 1
        omega
      unfold atI
      rw [e]
      show (r.map dF)[n]? = _
      rw [List.getElem?_map, List.getD_eq_getElem?_getD, List.getElem?_eq_getElem (by omega)]
      rfl
    · obtain ⟨r, hr, rfl⟩ := List.mem_map.mp hf
      obtain ⟨h1, h2⟩ := ok.row r hr
      rw [List.getD_eq_getElem?_getD, List.getElem?_eq_getElem (by omega)]
      exact (h2 _ (List.getElem_mem (show n < r.length by omega))).mono hke
    · rw [← gj_end g i hi]
      refine Sg_congr fun j hj => ?_
      congr 1
      obtain ⟨r, h1, h2, h3, _⟩ := ok.at hj
      unfold mv
      rw [h2, List.getD_eq_getElem?_getD, List.getElem?_map, h1]
      rfl
end Wr
set_option maxHeartbeats 4000000
namespace Wr
/-! ### sums over lists -/
def zs {α : Type} (l : List α) (f : α → Int) : Int := (l.map f).sum
theorem zs_nil {α : Type} (f : α → Int) : zs [] f = 0 := rfl
theorem zs_cons {α : Type} (a : α) (l : List α) (f : α → Int) : zs (a :: l) f = f a + zs l f := by
  unfold zs
  rw [List.map_cons, List.sum_cons]
theorem zs_app {α : Type} (l m : List α) (f : α → Int) : zs (l ++ m) f = zs l f + zs m f := by
  unfold zs
  rw [List.map_append, List.sum_append]
theorem zs_map {α β : Type} (l : List α) (u : α → β) (f : β → Int) : zs (l.map u) f = zs l fun a => f (u a) := by
  unfold zs
  rw [List.map_map]
  rfl
theorem zs_congr {α : Type} {l : List α} {f g : α → Int} (h : ∀ a ∈ l, f a = g a) : zs l f = zs l g := by
  unfold zs
  rw [List.map_congr_left h]
theorem zs_add {α : Type} (l : List α) (f g : α → Int) : zs l (fun a => f a + g a) = zs l f + zs l g := by
  induction l with
  | nil => rfl
  | cons a l ih =>
    rw [zs_cons, zs_cons, zs_cons, ih]
    omega
theorem zs_mul {α : Type} (l : List α) (c : Int) (f : α → Int) : zs l (fun a => c * f a) = c * zs l f := by
  induction l with
  | nil => rw [zs_nil, zs_nil, Int.mul_zero]
  | cons a l ih => rw [zs_cons, zs_cons, ih, Int.mul_add]
theorem zs_swap {α β : Type} (l : List α) (m : List β) (f : α → β → Int) : zs l (fun a => zs m (f a)) = zs m fun b => zs l fun a => f a b := by
  induction l with
  | nil =>
    rw [zs_nil]
    induction m with
    | nil => rfl
    | cons b m ih =>
      rw [zs_cons, ← ih]
      rfl
  | cons a l ih =>
    rw [zs_cons, ih, ← zs_add]
    exact zs_congr fun b _ => (zs_cons a l fun a => f a b).symm
theorem zs_perm {α : Type} {l m : List α} (h : l.Perm m) (f : α → Int) : zs l f = zs m f := by
  induction h with
  | nil => rfl
  | cons a _ ih => rw [zs_cons, zs_cons, ih]
  | swap a b l =>
    rw [zs_cons, zs_cons, zs_cons, zs_cons]
    omega
  | trans _ _ h1 h2 => rw [h1, h2]
theorem zs_zero {α : Type} {l : List α} {f : α → Int} (h : ∀ a ∈ l, f a = 0) : zs l f = 0 := by
  induction l with
  | nil => rfl
  | cons a l ih =>
    rw [zs_cons, h a (List.mem_cons_self ..), ih fun b hb => h b (List.mem_cons_of_mem _ hb)]
    rfl
theorem zs_one {α : Type} {l : List α} : zs l (fun _ => 1) = l.length := by
  induction l with
  | nil => rfl
  | cons a l ih =>
    rw [zs_cons, ih, List.length_cons]
    omega
theorem zs_pos {α : Type} {l : List α} {f : α → Int} (h0 : ∀ a ∈ l, 0 ≤ f a) : 0 ≤ zs l f := by
  induction l with
  | nil => exact Int.le_refl 0
  | cons b l ih =>
    rw [zs_cons]
    have h1 := h0 b (List.mem_cons_self ..)
    have h2 := ih fun c hc => h0 c (List.mem_cons_of_mem _ hc)
    omega
theorem zs_ge {α : Type} {l : List α} {f : α → Int} (h0 : ∀ a ∈ l, 0 ≤ f a) {a : α} (ha : a ∈ l) : f a ≤ zs l f := by
  induction l with
  | nil => cases ha
  | cons b l ih =>
    rw [zs_cons]
    have h1 := h0 b (List.mem_cons_self ..)
    have h2 := zs_pos (l := l) (f := f) fun c hc => h0 c (List.mem_cons_of_mem _ hc)
    rcases List.mem_cons.mp ha with z | z
    · subst z
      omega
    · have := ih (fun c hc => h0 c (List.mem_cons_of_mem _ hc)) z
      omega
def b2i (b : Bool) : Int := if b = true then 1 else 0
theorem b2i_and (a b : Bool) : b2i (a && b) = b2i a * b2i b := by cases a <;> cases b <;> rfl
theorem b2i_not (a : Bool) : b2i (!a) = 1 - b2i a := by cases a <;> rfl
theorem b2i_nn (a : Bool) : 0 ≤ b2i a := by cases a <;> decide
/-! ### all parts of a list -/
theorem filter_snoc {l : List Nat} {c : Nat} (p : Nat → Bool) : (l ++ [c]).filter p = l.filter p ++ if p c = true then [c] else [] := by
  rw [List.filter_append, List.filter_cons, List.filter_nil]
theorem filter_cong {l : List Nat} {p q : Nat → Bool} (h : ∀ c ∈ l, p c = q c) : l.filter p = l.filter q := List.filter_congr h
theorem herdsA_mem {l : List Nat} (nd : l.Nodup) {S : List Nat} : S ∈ herdsA l ↔ ∃ p : Nat → Bool, S = l.filter p := by
  induction l using snocInd generalizing S with
  | nil =>
    show S ∈ [[]] ↔ _
    rw [List.mem_singleton]
    exact ⟨fun h => ⟨fun _ => true, h⟩, fun ⟨p, h⟩ => h⟩
  | append l c ih =>
    rw [List.nodup_append] at nd
    obtain ⟨n1, _, n2⟩ := nd
    have nc : ∀ a ∈ l, a ≠ c := fun a ha => n2 a ha c (List.mem_singleton.mpr rfl)
    rw [herdsA_snoc, List.mem_append]
    constructor
    · rintro (h | h)
      · obtain ⟨p, rfl⟩ := (ih n1).mp h
        refine ⟨fun a => p a && !decide (a = c), ?_⟩
        rw [filter_snoc, if_neg (by simp), List.append_nil]
        exact filter_cong fun a ha => by simp [nc a ha]
      · obtain ⟨h', hh, rfl⟩ := List.mem_map.mp h
        obtain ⟨p, rfl⟩ := (ih n1).mp hh
        refine ⟨fun a => p a || decide (a = c), ?_⟩
        rw [filter_snoc, if_pos (by simp)]
        congr 1
        exact filter_cong fun a ha => by simp [nc a ha]
    · rintro ⟨p, rfl⟩
      rw [filter_snoc]
      by_cases z : p c = true
      · rw [if_pos z]
        exact .inr (List.mem_map.mpr ⟨_, (ih n1).mpr ⟨p, rfl⟩, rfl⟩)
      · rw [if_neg z, List.append_nil]
        exact .inl ((ih n1).mpr ⟨p, rfl⟩)
theorem herdsA_sub {l : List Nat} (nd : l.Nodup) {S : List Nat} (h : S ∈ herdsA l) {c : Nat} (hc : c ∈ S) : c ∈ l := by
  obtain ⟨p, rfl⟩ := (herdsA_mem nd).mp h
  exact (List.mem_filter.mp hc).1
theorem herdsA_nodup {l : List Nat} (nd : l.Nodup) : (herdsA l).Nodup := by
  induction l using snocInd with
  | nil => exact List.nodup_cons.mpr ⟨List.not_mem_nil, List.nodup_nil⟩
  | append l c ih =>
    rw [List.nodup_append] at nd
    obtain ⟨n1, _, n2⟩ := nd
    rw [herdsA_snoc, List.nodup_append]
    refine ⟨ih n1, ?_, fun a ha b hb e => ?_⟩
    · unfold List.Nodup
      rw [List.pairwise_map]
      exact (ih n1).imp fun h z => h (List.append_cancel_right z)
    · obtain ⟨h, _, rfl⟩ := List.mem_map.mp hb
      have := herdsA_sub n1 ha (c := c) (by rw [e]; simp)
      exact n2 c this c (List.mem_singleton.mpr rfl) rfl
/-- the places in one of two parts, not in both -/
def xorS (l H S : List Nat) : List Nat := l.filter fun c => decide (c ∈ S) != decide (c ∈ H)
theorem xorS_mem {l H S : List Nat} {c : Nat} (hc : c ∈ l) : decide (c ∈ xorS l H S) = (decide (c ∈ S) != decide (c ∈ H)) := by
  unfold xorS
  have : c ∈ l.filter (fun c => decide (c ∈ S) != decide (c ∈ H)) ↔ (decide (c ∈ S) != decide (c ∈ H)) = true := by
    rw [List.mem_filter]
    exact ⟨fun z => z.2, fun z => ⟨hc, z⟩⟩
  rw [Bool.eq_iff_iff, decide_eq_true_iff, this]
theorem xorS_xorS {l H S : List Nat} (nd : l.Nodup) (h : S ∈ herdsA l) : xorS l H (xorS l H S) = S := by
  obtain ⟨p, rfl⟩ := (herdsA_mem nd).mp h
  show l.filter _ = _
  refine filter_cong fun c hc => ?_
  rw [xorS_mem hc]
  have : decide (c ∈ l.filter p) = p c := by
    rw [Bool.eq_iff_iff, decide_eq_true_iff, List.mem_filter]
    exact ⟨fun z => z.2, fun z => ⟨hc, z⟩⟩
  rw [this]
  cases p c <;> cases decide (c ∈ H) <;> rfl
theorem xorS_in {l H S : List Nat} (nd : l.Nodup) : xorS l H S ∈ herdsA l := (herdsA_mem nd).mpr ⟨_, rfl⟩
theorem nodup_perm {α : Type} [DecidableEq α] {l m : List α} (h1 : l.Nodup) (h2 : m.Nodup) (h : ∀ a, a ∈ l ↔ a ∈ m) : l.Perm m := by
  rw [List.perm_iff_count]
  intro a
  by_cases z : a ∈ l
  · rw [List.Nodup.count h1, if_pos z, List.Nodup.count h2, if_pos ((h a).mp z)]
  · rw [List.count_eq_zero_of_not_mem z, List.count_eq_zero_of_not_mem fun y => z ((h a).mpr y)]
theorem shiftP {l : List Nat} (nd : l.Nodup) (H : List Nat) : ((herdsA l).map (xorS l H)).Perm (herdsA l) := by
  refine nodup_perm ?_ (herdsA_nodup nd) fun a => ?_
  · unfold List.Nodup
    rw [List.pairwise_map]
    refine List.Pairwise.imp_of_mem (fun {a b} ha hb hne e => hne ?_) (herdsA_nodup nd)
    rw [← xorS_xorS (H := H) nd ha, e, xorS_xorS nd hb]
  · rw [List.mem_map]
    constructor
    · rintro ⟨S, hS, rfl⟩
      exact xorS_in nd
    · intro ha
      exact ⟨xorS l H a, xorS_in nd, xorS_xorS nd ha⟩
theorem zs_shift {l : List Nat} (nd : l.Nodup) (H : List Nat) (f : List Nat → Int) : zs (herdsA l) f = zs (herdsA l) fun S => f (xorS l H S) := by
  rw [← zs_perm (shiftP nd H) f, zs_map]
theorem cr_xor {l H S : List Nat} {t : Tie} (h1 : t.1 ∈ l) (h2 : t.2 ∈ l) : crosses (xorS l H S) t = (crosses S t != crosses H t) := by
  unfold crosses
  rw [xorS_mem h1, xorS_mem h2]
  cases decide (t.1 ∈ S) <;> cases decide (t.1 ∈ H) <;> cases decide (t.2 ∈ S) <;> cases decide (t.2 ∈ H) <;> rfl
end Wr
set_option maxHeartbeats 4000000
namespace Wr
/-! ### pieces -/
def unx (ts : List Tie) (S : List Nat) : Bool := ts.all fun t => !crosses S t
theorem cr_iff {S : List Nat} {t : Tie} : crosses S t = false ↔ (t.1 ∈ S ↔ t.2 ∈ S) := by
  unfold crosses
  by_cases h1 : t.1 ∈ S <;> by_cases h2 : t.2 ∈ S <;> simp [h1, h2]
theorem unx_iff {ts : List Tie} {S : List Nat} : unx ts S = true ↔ ∀ t ∈ ts, (t.1 ∈ S ↔ t.2 ∈ S) := by
  unfold unx
  rw [List.all_eq_true]
  constructor
  · intro h t ht
    have := h t ht
    exact cr_iff.mp (by simpa using this)
  · intro h t ht
    rw [cr_iff.mpr (h t ht)]
    rfl
theorem unx_snoc (ts : List Tie) (t : Tie) (S : List Nat) : unx (ts ++ [t]) S = (unx ts S && !crosses S t) := by
  unfold unx
  rw [List.all_append, List.all_cons, List.all_nil, Bool.and_true]
structure PcOk (l : List Nat) (ts : List Tie) (F : List (List Nat)) : Prop where
  flat : F.flatten.Perm l
  tie : ∀ t ∈ ts, ∀ h ∈ F, (t.1 ∈ h ↔ t.2 ∈ h)
  con : ∀ S, unx ts S = true → ∀ h ∈ F, ∀ a ∈ h, ∀ b ∈ h, (a ∈ S ↔ b ∈ S)
theorem PcOk.ex {l : List Nat} {ts : List Tie} {F : List (List Nat)} (p : PcOk l ts F) {a : Nat} (ha : a ∈ l) : ∃ h ∈ F, a ∈ h := by
  have := p.flat.mem_iff.mpr ha
  obtain ⟨h, h1, h2⟩ := List.mem_flatten.mp this
  exact ⟨h, h1, h2⟩
theorem hits_iff {t : Tie} {h : List Nat} : hits t h = true ↔ t.1 ∈ h ∨ t.2 ∈ h := by
  unfold hits
  rw [Bool.or_eq_true, decide_eq_true_iff, decide_eq_true_iff]
theorem hStep_ok {l : List Nat} {ts : List Tie} {F : List (List Nat)} (p : PcOk l ts F) {t : Tie} (h1 : t.1 ∈ l) (h2 : t.2 ∈ l) : PcOk l (ts ++ [t]) (hStep F t) := by
  have mj : ∀ a, a ∈ srtC (F.filter (hits t)).flatten ↔ ∃ h ∈ F, hits t h = true ∧ a ∈ h := fun a => by
    rw [(srtC_perm _).mem_iff, List.mem_flatten]
    constructor
    · rintro ⟨h, hh, ha⟩
      exact ⟨h, (List.mem_filter.mp hh).1, (List.mem_filter.mp hh).2, ha⟩
    · rintro ⟨h, hh, hz, ha⟩
      exact ⟨h, List.mem_filter.mpr ⟨hh, hz⟩, ha⟩
  refine ⟨(hStep_flat F t).trans p.flat, fun u hu h hh => ?_, fun S hS h hh a ha b hb => ?_⟩
  · rw [hStep_eq] at hh
    rcases List.mem_cons.mp hh with z | z
    · rw [z, mj, mj]
      rcases List.mem_append.mp hu with y | y
      · constructor
        · rintro ⟨g, g1, g2, g3⟩
          exact ⟨g, g1, g2, (p.tie u y g g1).mp g3⟩
        · rintro ⟨g, g1, g2, g3⟩
          exact ⟨g, g1, g2, (p.tie u y g g1).mpr g3⟩
      · rw [List.mem_singleton.mp y]
        obtain ⟨g1, k1, k2⟩ := p.ex h1
        obtain ⟨g2, k3, k4⟩ := p.ex h2
        exact ⟨fun _ => ⟨g2, k3, hits_iff.mpr (.inr k4), k4⟩, fun _ => ⟨g1, k1, hits_iff.mpr (.inl k2), k2⟩⟩
    · obtain ⟨z1, z2⟩ := List.mem_filter.mp z
      rcases List.mem_append.mp hu with y | y
      · exact p.tie u y h z1
      · rw [List.mem_singleton.mp y]
        have : ¬ (t.1 ∈ h ∨ t.2 ∈ h) := fun k => by
          rw [hits_iff.mpr k] at z2
          cases z2
        exact ⟨fun k => absurd (.inl k) this, fun k => absurd (.inr k) this⟩
  · rw [unx_snoc, Bool.and_eq_true] at hS
    obtain ⟨s1, s2⟩ := hS
    have s2 : t.1 ∈ S ↔ t.2 ∈ S := cr_iff.mp (by simpa using s2)
    rw [hStep_eq] at hh
    rcases List.mem_cons.mp hh with z | z
    · rw [z, mj] at ha hb
      have one : ∀ c, (∃ h ∈ F, hits t h = true ∧ c ∈ h) → (c ∈ S ↔ t.1 ∈ S) := by
        rintro c ⟨g, g1, g2, g3⟩
        rcases hits_iff.mp g2 with k | k
        · exact p.con S s1 g g1 c g3 _ k
        · rw [s2]
          exact p.con S s1 g g1 c g3 _ k
      rw [one a ha, one b hb]
    · exact p.con S s1 h (List.mem_filter.mp z).1 a ha b hb
theorem herdsF_ok {l : List Nat} {ts : List Tie} (h : ∀ t ∈ ts, t.1 ∈ l ∧ t.2 ∈ l) : PcOk l ts (herdsF l ts) := by
  induction ts using snocInd with
  | nil =>
    refine ⟨herdsF_flat l [], fun t ht => (List.not_mem_nil ht).elim, fun S _ h hh a ha b hb => ?_⟩
    obtain ⟨c, _, rfl⟩ := List.mem_map.mp (show h ∈ l.map fun c => [c] from hh)
    rw [List.mem_singleton.mp ha, List.mem_singleton.mp hb]
  | append ts t ih =>
    rw [herdsF_snoc]
    have := h t (List.mem_append_right _ (List.mem_singleton.mpr rfl))
    exact hStep_ok (ih fun u hu => h u (List.mem_append_left _ hu)) this.1 this.2
/-! ### how many -/
theorem one_hit {F : List (List Nat)} (nd : F.flatten.Nodup) {a : Nat} (ha : a ∈ F.flatten) : (F.filter fun h => decide (a ∈ h)).length = 1 := by
  induction F with
  | nil => cases ha
  | cons h F ih =>
    rw [List.flatten_cons] at nd ha
    rw [List.nodup_append] at nd
    obtain ⟨n1, n2, n3⟩ := nd
    rw [List.filter_cons]
    by_cases z : a ∈ h
    · rw [decide_eq_true z, if_pos rfl, List.length_cons]
      have : F.filter (fun h => decide (a ∈ h)) = [] := by
        rw [List.filter_eq_nil_iff]
        intro g hg y
        have y := of_decide_eq_true y
        exact n3 a z a (List.mem_flatten.mpr ⟨g, hg, y⟩) rfl
      rw [this]
      rfl
    · rw [decide_eq_false z, if_neg (by decide)]
      refine ih n2 ?_
      rcases List.mem_append.mp ha with y | y
      · exact absurd y z
      · exact y
theorem one_eq {F : List (List Nat)} (nd : F.flatten.Nodup) {a : Nat} {g h : List Nat} (hg : g ∈ F) (hh : h ∈ F) (ag : a ∈ g) (ah : a ∈ h) : g = h := by
  have l1 := one_hit nd (List.mem_flatten.mpr ⟨g, hg, ag⟩)
  obtain ⟨z, hz⟩ := List.length_eq_one_iff.mp l1
  have m1 : g ∈ F.filter fun h => decide (a ∈ h) := List.mem_filter.mpr ⟨hg, decide_eq_true ag⟩
  have m2 : h ∈ F.filter fun h => decide (a ∈ h) := List.mem_filter.mpr ⟨hh, decide_eq_true ah⟩
  rw [hz] at m1 m2
  rw [List.mem_singleton.mp m1, List.mem_singleton.mp m2]
theorem filter_or {α : Type} (l : List α) (p q : α → Bool) : (l.filter fun a => p a || q a).length + (l.filter fun a => p a && q a).length = (l.filter p).length + (l.filter q).length := by
  induction l with
  | nil => rfl
  | cons a l ih =>
    rw [List.filter_cons, List.filter_cons, List.filter_cons, List.filter_cons]
    cases p a <;> cases q a <;> simp <;> omega
theorem hStep_long (F : List (List Nat)) (t : Tie) : (hStep F t).length + (F.filter (hits t)).length = F.length + 1 := by
  rw [hStep_eq, List.length_cons]
  have := (List.filter_append_perm (hits t) F).length_eq
  rw [List.length_append] at this
  omega
theorem PcOk.same {l : List Nat} {ts : List Tie} {F : List (List Nat)} (p : PcOk l ts F) (nd : l.Nodup) {t : Tie} (h1 : t.1 ∈ l) (hu : ∀ h ∈ F, (t.1 ∈ h ↔ t.2 ∈ h)) : (hStep F t).length = F.length := by
  have nf : F.flatten.Nodup := p.flat.nodup_iff.mpr nd
  have e : F.filter (hits t) = F.filter fun h => decide (t.1 ∈ h) := List.filter_congr fun h hh => by
    rw [Bool.eq_iff_iff, hits_iff, decide_eq_true_iff, hu h hh, or_self]
  have := hStep_long F t
  rw [e, one_hit nf (p.flat.mem_iff.mpr h1)] at this
  omega
theorem PcOk.less {l : List Nat} {ts : List Tie} {F : List (List Nat)} (p : PcOk l ts F) (nd : l.Nodup) {t : Tie} (h1 : t.1 ∈ l) (h2 : t.2 ∈ l) {H : List Nat} (hH : H ∈ F) (hc : crosses H t = true) : (hStep F t).length + 1 = F.length := by
  have nf : F.flatten.Nodup := p.flat.nodup_iff.mpr nd
  have e : F.filter (fun h => decide (t.1 ∈ h) && decide (t.2 ∈ h)) = [] := by
    rw [List.filter_eq_nil_iff]
    intro h hh z
    rw [Bool.and_eq_true, decide_eq_true_iff, decide_eq_true_iff] at z
    obtain ⟨z1, z2⟩ := z
    unfold crosses at hc
    by_cases k : t.1 ∈ H
    · have := one_eq nf hH hh k z1
      subst this
      simp [z1, z2] at hc
    · by_cases k2 : t.2 ∈ H
      · have := one_eq nf hH hh k2 z2
        exact k (this ▸ z1)
      · simp [k, k2] at hc
  have := filter_or F (fun h => decide (t.1 ∈ h)) fun h => decide (t.2 ∈ h)
  rw [e, one_hit nf (p.flat.mem_iff.mpr h1), one_hit nf (p.flat.mem_iff.mpr h2)] at this
  have h3 := hStep_long F t
  have : (F.filter (hits t)).length = 2 := this
  omega
def cntU (l : List Nat) (ts : List Tie) : Int := zs (herdsA l) fun S => b2i (unx ts S)
theorem herdsF_two {l : List Nat} (nd : l.Nodup) {ts : List Tie} (h : ∀ t ∈ ts, t.1 ∈ l ∧ t.2 ∈ l) : cntU l ts = 2 ^ (herdsF l ts).length ∧ (herdsF l ts).length ≤ l.length := by
  induction ts using snocInd with
  | nil =>
    have e : (herdsF l []).length = l.length := by
      show (l.map fun c => [c]).length = _
      rw [List.length_map]
    refine ⟨?_, Nat.le_of_eq e⟩
    rw [e]
    show zs (herdsA l) (fun _ => 1) = _
    rw [zs_one, herdsA_len]
    exact Int.natCast_pow 2 l.length
  | append ts t ih =>
    have ht := h t (List.mem_append_right _ (List.mem_singleton.mpr rfl))
    have h' : ∀ u ∈ ts, u.1 ∈ l ∧ u.2 ∈ l := fun u hu => h u (List.mem_append_left _ hu)
    have ih := ih h'
    have p := herdsF_ok h'
    rw [herdsF_snoc]
    by_cases z : ∀ g ∈ herdsF l ts, (t.1 ∈ g ↔ t.2 ∈ g)
    · rw [p.same nd ht.1 z]
      refine ⟨?_, ih.2⟩
      rw [← ih.1]
      unfold cntU
      refine zs_congr fun S _ => ?_
      rw [unx_snoc]
      by_cases u : unx ts S = true
      · obtain ⟨g, g1, g2⟩ := p.ex ht.1
        have := p.con S u g g1 _ g2 _ ((z g g1).mp g2)
        rw [cr_iff.mpr this, u]
        rfl
      · rw [Bool.eq_false_iff.mpr u]
        rfl
    · obtain ⟨H, z⟩ := Classical.not_forall.mp z
      obtain ⟨hH, z⟩ := Classical.not_imp.mp z
      have hc : crosses H t = true := by
        rw [← Bool.not_eq_false]
        exact fun y => z (cr_iff.mp y)
      have hl := p.less nd ht.1 ht.2 hH hc
      refine ⟨?_, by omega⟩
      have hx : ∀ S, unx ts (xorS l H S) = unx ts S := fun S => by
        unfold unx
        rw [Bool.eq_iff_iff, List.all_eq_true, List.all_eq_true]
        have key : ∀ u ∈ ts, crosses (xorS l H S) u = crosses S u := fun u hu => by
          have := h' u hu
          rw [cr_xor this.1 this.2, cr_iff.mpr (p.tie u hu H hH)]
          cases crosses S u <;> rfl
        exact ⟨fun k u hu => by rw [← key u hu]; exact k u hu, fun k u hu => by rw [key u hu]; exact k u hu⟩
      have e1 : cntU l ts = cntU l (ts ++ [t]) + cntU l (ts ++ [t]) := by
        have e2 : cntU l (ts ++ [t]) = zs (herdsA l) fun S => b2i (unx ts S) * b2i (crosses S t) := by
          unfold cntU
          rw [zs_shift nd H]
          refine zs_congr fun S _ => ?_
          rw [unx_snoc, hx, cr_xor ht.1 ht.2, hc, b2i_and]
          cases crosses S t <;> rfl
        rw [show cntU l (ts ++ [t]) + cntU l (ts ++ [t]) = cntU l (ts ++ [t]) + zs (herdsA l) (fun S => b2i (unx ts S) * b2i (crosses S t)) by rw [← e2]]
        unfold cntU
        rw [← zs_add]
        refine zs_congr fun S _ => ?_
        rw [unx_snoc]
        cases unx ts S <;> cases crosses S t <;> rfl
      have e3 : (2 : Int) ^ (herdsF l ts).length = 2 ^ (hStep (herdsF l ts) t).length * 2 := by
        rw [← hl, Int.pow_succ]
      rw [ih.1, e3] at e1
      omega
end Wr
set_option maxHeartbeats 4000000
namespace Wr
/-! ### dyes with two figures -/
theorem zs_pick {m a : Nat} (h : a < m) (c : Nat → Int) : zs (List.range m) (fun i => if a = i then c i else 0) = c a := by
  induction m with
  | zero => omega
  | succ m ih =>
    rw [List.range_succ, zs_app, zs_cons, zs_nil]
    by_cases z : a = m
    · subst z
      rw [if_pos rfl, zs_zero fun i hi => if_neg fun y => by rw [← y] at hi; exact Nat.lt_irrefl _ (List.mem_range.mp hi)]
      omega
    · rw [ih (by omega), if_neg z]
      omega
def LotIn (x : W) (lot : List Nat) : Prop := ∀ i ∈ lot, i < x.2.length
theorem lot_in {x : W} {lot : List Nat} (h : lot ∈ lotsA x) : LotIn x lot := fun i hi => List.mem_range.mp (herdsA_sub List.nodup_range h hi)
theorem tieAt_memB {x : W} {i : Nat} (h : i < x.2.length) : tieAt x i ∈ x.2 := by
  unfold tieAt
  rw [List.getD_eq_getElem?_getD, List.getElem?_eq_getElem h]
  exact List.getElem_mem h
theorem tie_at {x : W} {t : Tie} (h : t ∈ x.2) : ∃ i, i < x.2.length ∧ tieAt x i = t := by
  obtain ⟨i, hi, e⟩ := List.getElem_of_mem h
  refine ⟨i, hi, ?_⟩
  unfold tieAt
  rw [List.getD_eq_getElem?_getD, List.getElem?_eq_getElem hi]
  exact e
theorem lot_ends {x : W} (ok : WOk x) {lot : List Nat} (h : LotIn x lot) : ∀ t ∈ lot.map (tieAt x), t.1 ∈ x.1 ∧ t.2 ∈ x.1 := fun t ht => by
  obtain ⟨i, hi, rfl⟩ := List.mem_map.mp ht
  have := ok.ts _ (tieAt_memB (h i hi))
  exact ⟨this.1, this.2.1⟩
theorem sumAt_eq {x : W} (ok : WOk x) (k : Int) : sumAt (cntsW x) k = zs (lotsA x) fun lot => sgn lot * k ^ (herdsL x lot).length := by
  have hl : (cntsW x).length = x.1.length + 1 := by
    unfold cntsW cnts
    rw [List.length_map, List.length_range]
  have e1 : sumAt (cntsW x) k = zs (List.range (x.1.length + 1)) fun i => zs (lotsA x) fun lot => (if (herdsL x lot).length = i then sgn lot * k ^ i else 0) := by
    unfold sumAt
    rw [hl]
    show zs (List.range (x.1.length + 1)) (fun i => (cntsW x).getD i 0 * k ^ i) = _
    refine zs_congr fun i hi => ?_
    have e2 : (cntsW x).getD i 0 = cnt x (lotsA x) i := by
      unfold cntsW cnts
      rw [List.getD_eq_getElem?_getD, List.getElem?_map, List.getElem?_range (List.mem_range.mp hi)]
      rfl
    rw [e2]
    show zs (lotsA x) (fun lot => if (herdsL x lot).length = i then sgn lot else 0) * k ^ i = _
    rw [Int.mul_comm, ← zs_mul]
    refine zs_congr fun lot _ => ?_
    by_cases z : (herdsL x lot).length = i
    · rw [if_pos z, if_pos z, Int.mul_comm]
    · rw [if_neg z, if_neg z, Int.mul_zero]
  rw [e1, zs_swap]
  refine zs_congr fun lot hlot => ?_
  have h2 := (herdsF_two ok.nodup (lot_ends ok (lot_in hlot))).2
  exact zs_pick (m := x.1.length + 1) (a := (herdsL x lot).length) (Nat.lt_succ_of_le h2) fun i => sgn lot * k ^ i
theorem sgn_snoc (l : List Nat) (i : Nat) : sgn (l ++ [i]) = - sgn l := by
  unfold sgn
  rw [List.length_append]
  show (if (l.length + 1) % 2 = 1 then (-1 : Int) else 1) = _
  by_cases h : l.length % 2 = 1
  · rw [if_pos h, if_neg (by omega)]
    rfl
  · rw [if_neg h, if_pos (by omega)]
theorem alt_sum (r : List Nat) (u : Nat → Bool) : zs (herdsA r) (fun lot => sgn lot * b2i (lot.all u)) = b2i (r.all fun i => !u i) := by
  induction r using snocInd with
  | nil => rfl
  | append r c ih =>
    rw [herdsA_snoc, zs_app, zs_map, List.all_append, List.all_cons, List.all_nil, Bool.and_true, b2i_and, ← ih, ← zs_add, Int.mul_comm, ← zs_mul]
    refine zs_congr fun lot _ => ?_
    rw [sgn_snoc, List.all_append, List.all_cons, List.all_nil, Bool.and_true]
    cases u c <;> cases lot.all u <;> simp [b2i] <;> omega
theorem unx_lot (x : W) (lot S : List Nat) : unx (lot.map (tieAt x)) S = lot.all fun i => !crosses S (tieAt x i) := by
  unfold unx
  rw [List.all_map]
  rfl
def prop2 (x : W) (S : List Nat) : Bool := (whole x).all fun i => crosses S (tieAt x i)
def cntP (x : W) : Int := zs (herdsA x.1) fun S => b2i (prop2 x S)
theorem dyes2 {x : W} (ok : WOk x) : sumAt (cntsW x) 2 = cntP x := by
  rw [sumAt_eq ok]
  have e1 : zs (lotsA x) (fun lot => sgn lot * 2 ^ (herdsL x lot).length) = zs (lotsA x) fun lot => zs (herdsA x.1) fun S => sgn lot * b2i (lot.all fun i => !crosses S (tieAt x i)) := by
    refine zs_congr fun lot hlot => ?_
    have h2 := (herdsF_two ok.nodup (lot_ends ok (lot_in hlot))).1
    unfold herdsL
    rw [← h2]
    unfold cntU
    rw [← zs_mul]
    exact zs_congr fun S _ => by rw [unx_lot]
  rw [e1, zs_swap]
  unfold cntP
  refine zs_congr fun S _ => ?_
  unfold lotsA
  rw [alt_sum]
  unfold prop2 whole
  simp only [Bool.not_not]
theorem dyes1 {x : W} (ok : WOk x) : sumAt (cntsW x) 1 = if x.2 = [] then 1 else 0 := by
  rw [sumAt_eq ok]
  have e1 : zs (lotsA x) (fun lot => sgn lot * 1 ^ (herdsL x lot).length) = zs (lotsA x) fun lot => sgn lot * b2i (lot.all fun _ => true) := by
    refine zs_congr fun lot hlot => ?_
    rw [Int.one_pow]
    have : lot.all (fun _ => true) = true := List.all_eq_true.mpr fun _ _ => rfl
    rw [this]
    rfl
  rw [e1]
  unfold lotsA
  rw [alt_sum]
  cases h : x.2 with
  | nil =>
    rw [if_pos rfl]
    rfl
  | cons a l =>
    rw [if_neg (by simp), List.length_cons, List.range_succ_eq_map]
    rfl
def Two (x : W) : Prop := ∃ S ∈ herdsA x.1, ∀ i, i < x.2.length → crosses S (tieAt x i) = true
theorem prop2_iff {x : W} {S : List Nat} : prop2 x S = true ↔ ∀ i, i < x.2.length → crosses S (tieAt x i) = true := by
  unfold prop2 whole
  rw [List.all_eq_true]
  exact ⟨fun h i hi => h i (List.mem_range.mpr hi), fun h i hi => h i (List.mem_range.mp hi)⟩
theorem cntP_pos (x : W) : 0 < cntP x ↔ Two x := by
  constructor
  · intro h
    refine Classical.byContradiction fun n => ?_
    have : cntP x = 0 := zs_zero fun S hS => by
      have : prop2 x S = false := by
        rw [← Bool.not_eq_true]
        exact fun z => n ⟨S, hS, prop2_iff.mp z⟩
      rw [this]
      rfl
    omega
  · rintro ⟨S, hS, hc⟩
    have := zs_ge (l := herdsA x.1) (f := fun S => b2i (prop2 x S)) (fun _ _ => b2i_nn _) hS
    rw [prop2_iff.mpr hc] at this
    exact Int.lt_of_lt_of_le (by decide) this
theorem cntP_pieces {x : W} (ok : WOk x) (h : Two x) : cntP x = 2 ^ (herdsL x (whole x)).length := by
  obtain ⟨H, hH, hc⟩ := h
  have hin : LotIn x (whole x) := fun i hi => List.mem_range.mp hi
  have h2 := (herdsF_two ok.nodup (lot_ends ok hin)).1
  unfold herdsL
  rw [← h2]
  unfold cntU cntP
  rw [zs_shift ok.nodup H]
  refine zs_congr fun S _ => ?_
  congr 1
  rw [unx_lot, Bool.eq_iff_iff, prop2_iff, List.all_eq_true]
  have key : ∀ i, i < x.2.length → crosses (xorS x.1 H S) (tieAt x i) = !crosses S (tieAt x i) := fun i hi => by
    have := ok.ts _ (tieAt_memB hi)
    rw [cr_xor this.1 this.2.1, hc i hi]
    cases crosses S (tieAt x i) <;> rfl
  exact ⟨fun z i hi => by rw [← key i (List.mem_range.mp hi)]; exact z i (List.mem_range.mp hi), fun z i hi => by rw [key i hi]; exact z i (List.mem_range.mpr hi)⟩
theorem lotOf_whole {x : W} {S : List Nat} : lotOf x S = whole x ↔ ∀ i, i < x.2.length → crosses S (tieAt x i) = true := by
  unfold lotOf whole
  rw [List.filter_eq_self]
  exact ⟨fun h i hi => h i (List.mem_range.mpr hi), fun h i hi => h i (List.mem_range.mp hi)⟩
theorem sides_iff {x : W} (ok : WOk x) : whole x ∈ sidesA x ↔ Two x := by
  have hne : x.1 ≠ [] := fun z => by
    have := ok.len.1
    rw [z] at this
    simp at this
  have hx : x.1 = x.1.dropLast ++ [x.1.getLast hne] := (List.dropLast_concat_getLast hne).symm
  generalize x.1.getLast hne = z at hx
  generalize hd : x.1.dropLast = dl at hx
  have nd := ok.nodup
  rw [hx, List.nodup_append] at nd
  obtain ⟨n1, _, n2⟩ := nd
  unfold sidesA Two
  rw [hd, hx, herdsA_snoc, List.mem_map]
  constructor
  · rintro ⟨S, hS, e⟩
    exact ⟨S, List.mem_append_left _ hS, lotOf_whole.mp e⟩
  · rintro ⟨S, hS, hc⟩
    rcases List.mem_append.mp hS with m | m
    · exact ⟨S, m, lotOf_whole.mpr hc⟩
    · obtain ⟨h, hh, rfl⟩ := List.mem_map.mp m
      refine ⟨dl.filter fun c => !decide (c ∈ h), (herdsA_mem n1).mpr ⟨_, rfl⟩, lotOf_whole.mpr fun i hi => ?_⟩
      rw [← hc i hi]
      have hz : z ∉ h := fun y => n2 z (herdsA_sub n1 hh y) z (List.mem_singleton.mpr rfl) rfl
      have key : ∀ c ∈ x.1, decide (c ∈ dl.filter fun c => !decide (c ∈ h)) = !decide (c ∈ h ++ [z]) := fun c hc => by
        rw [hx] at hc
        have hm : c ∈ (dl.filter fun c => !decide (c ∈ h)) ↔ c ∈ dl ∧ c ∉ h := by
          rw [List.mem_filter]
          simp
        have hm2 : c ∈ h ++ [z] ↔ c ∈ h ∨ c = z := by simp
        rw [← decide_not, Bool.eq_iff_iff, decide_eq_true_iff, decide_eq_true_iff, hm, hm2]
        rcases List.mem_append.mp hc with y | y
        · have hcz : c ≠ z := n2 c y z (List.mem_singleton.mpr rfl)
          exact ⟨fun k q => q.elim k.2 hcz, fun k => ⟨y, fun q => k (.inl q)⟩⟩
        · have y := List.mem_singleton.mp y
          subst y
          exact ⟨fun k => absurd rfl (n2 c k.1 c (List.mem_singleton.mpr rfl)), fun k => absurd (.inr rfl) k⟩
      have ht := ok.ts _ (tieAt_memB hi)
      unfold crosses
      rw [key _ ht.1, key _ ht.2.1]
      cases decide ((tieAt x i).1 ∈ h ++ [z]) <;> cases decide ((tieAt x i).2 ∈ h ++ [z]) <;> rfl
/-! ### rings -/
def ns (l : List Nat) (f : Nat → Nat) : Nat := (l.map f).sum
theorem ns_even {l : List Nat} {f : Nat → Nat} (h : ∀ a ∈ l, f a % 2 = 0) : ns l f % 2 = 0 := by
  induction l with
  | nil => rfl
  | cons a l ih =>
    have h1 := h a (List.mem_cons_self ..)
    have h2 := ih fun b hb => h b (List.mem_cons_of_mem _ hb)
    have e : ns (a :: l) f = f a + ns l f := by
      unfold ns
      rw [List.map_cons, List.sum_cons]
    omega
theorem ns_occ {S : List Nat} (nd : S.Nodup) (t : Tie) : ns S (fun c => occ c t) = (if t.1 ∈ S then 1 else 0) + (if t.2 ∈ S then 1 else 0) := by
  induction S with
  | nil => rfl
  | cons a S ih =>
    obtain ⟨n1, n2⟩ := List.nodup_cons.mp nd
    have e : ns (a :: S) (fun c => occ c t) = occ a t + ns S (fun c => occ c t) := by
      unfold ns
      rw [List.map_cons, List.sum_cons]
    rw [e, ih n2]
    unfold occ
    have k : ∀ b, (if b = a then 1 else 0) + (if b ∈ S then 1 else 0) = (if b ∈ a :: S then 1 else (0 : Nat)) := fun b => by
      by_cases h1 : b = a
      · subst h1
        simp [n1]
      · by_cases h2 : b ∈ S <;> simp [h1, h2]
    have := k t.1
    have := k t.2
    omega
theorem ns_ends (x : W) {S : List Nat} (nd : S.Nodup) (lot : List Nat) (h : ∀ i ∈ lot, crosses S (tieAt x i) = true) : ns S (endsOf x lot) = lot.length := by
  induction lot with
  | nil =>
    have : ∀ T : List Nat, ns T (endsOf x []) = 0 := by
      intro T
      induction T with
      | nil => rfl
      | cons a T ih =>
        have e : ns (a :: T) (endsOf x []) = endsOf x [] a + ns T (endsOf x []) := by
          unfold ns
          rw [List.map_cons, List.sum_cons]
        rw [e, ih]
        rfl
    exact this S
  | cons i lot ih =>
    have h1 := h i (List.mem_cons_self ..)
    have ih := ih fun j hj => h j (List.mem_cons_of_mem _ hj)
    have split : ∀ T : List Nat, ns T (endsOf x (i :: lot)) = ns T (fun c => occ c (tieAt x i)) + ns T (endsOf x lot) := by
      intro T
      induction T with
      | nil => rfl
      | cons a T ih =>
        have e : ∀ f, ns (a :: T) f = f a + ns T f := fun f => by
          unfold ns
          rw [List.map_cons, List.sum_cons]
        rw [e, e, e, ih]
        have : endsOf x (i :: lot) a = occ a (tieAt x i) + endsOf x lot a := by
          unfold endsOf
          rw [List.map_cons, List.sum_cons]
        omega
    rw [split, ih, ns_occ nd, List.length_cons]
    unfold crosses at h1
    by_cases a : (tieAt x i).1 ∈ S <;> by_cases b : (tieAt x i).2 ∈ S <;> simp [a, b] at h1 ⊢ <;> omega
theorem ring_even {x : W} (ok : WOk x) (h : Two x) {lot : List Nat} (hl : LotIn x lot) (he : evenLot x lot = true) : lot.length % 2 = 0 := by
  obtain ⟨S, hS, hc⟩ := h
  have nS : S.Nodup := by
    obtain ⟨p, rfl⟩ := (herdsA_mem ok.nodup).mp hS
    exact ok.nodup.filter _
  rw [← ns_ends x nS lot fun i hi => hc i (hl i hi)]
  refine ns_even fun c hcS => ?_
  unfold evenLot at he
  rw [List.all_map, List.all_eq_true] at he
  have := he c (herdsA_sub ok.nodup hS hcS)
  exact of_decide_eq_true this
theorem two_loop {x : W} (h : Two x) {i : Nat} (hi : i < x.2.length) : (tieAt x i).1 ≠ (tieAt x i).2 := by
  obtain ⟨S, _, hc⟩ := h
  intro z
  have := hc i hi
  unfold crosses at this
  rw [z] at this
  simp at this
end Wr
set_option maxHeartbeats 4000000
namespace Wr
/-! ### herds with one place, without another -/
theorem strict_eq : ∀ {l m : List Nat}, l.Pairwise (· < ·) → m.Pairwise (· < ·) → (∀ a, a ∈ l ↔ a ∈ m) → l = m
  | [], [], _, _, _ => rfl
  | [], b :: m, _, _, h => by
    have := (h b).mpr (List.mem_cons_self ..)
    cases this
  | a :: l, [], _, _, h => by
    have := (h a).mp (List.mem_cons_self ..)
    cases this
  | a :: l, b :: m, h1, h2, h => by
    obtain ⟨p1, p2⟩ := List.pairwise_cons.mp h1
    obtain ⟨q1, q2⟩ := List.pairwise_cons.mp h2
    have e : a = b := by
      rcases List.mem_cons.mp ((h a).mp (List.mem_cons_self ..)) with z | z
      · exact z
      · rcases List.mem_cons.mp ((h b).mpr (List.mem_cons_self ..)) with y | y
        · exact y.symm
        · have := q1 a z
          have := p1 b y
          omega
    subst e
    rw [strict_eq p2 q2 fun c => ?_]
    have na : a ∉ l := fun z => Nat.lt_irrefl _ (p1 a z)
    have nb : a ∉ m := fun z => Nat.lt_irrefl _ (q1 a z)
    have := h c
    rw [List.mem_cons, List.mem_cons] at this
    constructor
    · intro z
      rcases this.mp (.inr z) with y | y
      · subst y
        exact absurd z na
      · exact y
    · intro z
      rcases this.mpr (.inr z) with y | y
      · subst y
        exact absurd z nb
      · exact y
theorem strict_nodup {l : List Nat} (h : l.Pairwise (· < ·)) : l.Nodup := h.imp fun h => Nat.ne_of_lt h
theorem lhF_mem {a o : Nat} (hao : a ≠ o) {l : List Nat} (nd : l.Nodup) {S : List Nat} : S ∈ lhF a o l ↔ S.Pairwise (· < ·) ∧ a ∈ S ∧ o ∉ S ∧ ∀ c ∈ S, c = a ∨ c ∈ l := by
  induction l using snocInd generalizing S with
  | nil =>
    show S ∈ [[a]] ↔ _
    rw [List.mem_singleton]
    constructor
    · rintro rfl
      exact ⟨List.pairwise_singleton .., List.mem_singleton.mpr rfl, fun z => hao (List.mem_singleton.mp z).symm, fun c hc => .inl (List.mem_singleton.mp hc)⟩
    · rintro ⟨h1, h2, _, h4⟩
      refine strict_eq h1 (List.pairwise_singleton ..) fun c => ?_
      rw [List.mem_singleton]
      constructor
      · intro hc
        exact (h4 c hc).elim id fun z => absurd z List.not_mem_nil
      · rintro rfl
        exact h2
  | append l c ih =>
    rw [List.nodup_append] at nd
    obtain ⟨n1, _, n2⟩ := nd
    have nc : c ∉ l := fun z => n2 c z c (List.mem_singleton.mpr rfl) rfl
    rw [lhF_snoc]
    by_cases z : c = a ∨ c = o
    · rw [if_pos z, ih n1]
      constructor
      · rintro ⟨h1, h2, h3, h4⟩
        exact ⟨h1, h2, h3, fun d hd => (h4 d hd).imp id fun y => List.mem_append_left _ y⟩
      · rintro ⟨h1, h2, h3, h4⟩
        refine ⟨h1, h2, h3, fun d hd => ?_⟩
        rcases h4 d hd with y | y
        · exact .inl y
        · rcases List.mem_append.mp y with y | y
          · exact .inr y
          · have y := List.mem_singleton.mp y
            subst y
            rcases z with z | z
            · exact .inl z
            · exact absurd (z ▸ hd) h3
    · rw [if_neg z]
      unfold lhStep
      rw [List.mem_append, ih n1, List.mem_map]
      constructor
      · rintro (⟨h1, h2, h3, h4⟩ | ⟨h, hh, rfl⟩)
        · exact ⟨h1, h2, h3, fun d hd => (h4 d hd).imp id fun y => List.mem_append_left _ y⟩
        · obtain ⟨h1, h2, h3, h4⟩ := (ih n1).mp hh
          have mm : ∀ d, d ∈ srtC (h ++ [c]) ↔ d ∈ h ∨ d = c := fun d => by
            rw [(srtC_perm _).mem_iff, List.mem_append, List.mem_singleton]
          have hc : c ∉ h := fun y => (h4 c y).elim (fun q => z (.inl q)) nc
          refine ⟨srtC_strict (List.nodup_append.mpr ⟨strict_nodup h1, List.nodup_cons.mpr ⟨List.not_mem_nil, List.nodup_nil⟩, fun d hd e he => ?_⟩), (mm a).mpr (.inl h2), fun y => ?_, fun d hd => ?_⟩
          · rw [List.mem_singleton.mp he]
            rintro rfl
            exact hc hd
          · rcases (mm o).mp y with y | y
            · exact h3 y
            · exact z (.inr y.symm)
          · rcases (mm d).mp hd with y | y
            · exact (h4 d y).imp id fun q => List.mem_append_left _ q
            · exact .inr (List.mem_append_right _ (List.mem_singleton.mpr y))
      · rintro ⟨h1, h2, h3, h4⟩
        have h5 : ∀ d ∈ S, d ≠ c → d = a ∨ d ∈ l := fun d hd hdc => by
          rcases h4 d hd with y | y
          · exact .inl y
          · rcases List.mem_append.mp y with y | y
            · exact .inr y
            · exact absurd (List.mem_singleton.mp y) hdc
        by_cases y : c ∈ S
        · refine .inr ⟨S.filter fun d => !decide (d = c), (ih n1).mpr ⟨h1.filter _, List.mem_filter.mpr ⟨h2, by simp; exact fun q => z (.inl q.symm)⟩, fun q => h3 (List.mem_filter.mp q).1, fun d hd => ?_⟩, ?_⟩
          · obtain ⟨d1, d2⟩ := List.mem_filter.mp hd
            exact h5 d d1 (by simpa using d2)
          · have nS := strict_nodup h1
            refine strict_eq (srtC_strict (List.nodup_append.mpr ⟨nS.filter _, List.nodup_cons.mpr ⟨List.not_mem_nil, List.nodup_nil⟩, fun d hd e he => ?_⟩)) h1 fun d => ?_
            · rw [List.mem_singleton.mp he]
              rintro rfl
              simpa using (List.mem_filter.mp hd).2
            · rw [(srtC_perm _).mem_iff, List.mem_append, List.mem_singleton, List.mem_filter]
              constructor
              · rintro (q | q)
                · exact q.1
                · rw [q]
                  exact y
              · intro q
                by_cases e : d = c
                · exact .inr e
                · exact .inl ⟨q, by simpa using e⟩
        · exact .inl ⟨h1, h2, h3, fun d hd => h5 d hd fun q => y (q ▸ hd)⟩
theorem lotOf_congr {x : W} (ok : WOk x) {S T : List Nat} (h : ∀ c ∈ x.1, (c ∈ S ↔ c ∈ T)) : lotOf x S = lotOf x T := by
  unfold lotOf
  refine List.filter_congr fun i hi => ?_
  have := ok.ts _ (tieAt_memB (List.mem_range.mp hi))
  unfold crosses
  rw [decide_eq_decide.mpr (h _ this.1), decide_eq_decide.mpr (h _ this.2.1)]
def wds (x : W) (b g : Nat) : List Int := (lhF b g x.1).map fun h => ((lotOf x h).length : Int)
theorem wds_min {x : W} (ok : WOk x) {b g w : Nat} (hb : b ∈ x.1) (hbg : b ≠ g) (h : IsCut x b g w) : wds x b g ≠ [] ∧ leastI (wds x b g) = w := by
  obtain ⟨⟨S, s1, s2, s3⟩, h2⟩ := h
  have nd := ok.nodup
  have m : x.1.filter (fun c => decide (c ∈ S)) ∈ lhF b g x.1 := (lhF_mem hbg nd).mpr ⟨ok.sorted.filter _, List.mem_filter.mpr ⟨hb, decide_eq_true s1⟩, fun z => s2 (of_decide_eq_true (List.mem_filter.mp z).2), fun c hc => .inr (List.mem_filter.mp hc).1⟩
  have e : lotOf x (x.1.filter fun c => decide (c ∈ S)) = lotOf x S := lotOf_congr ok fun c hc => by
    rw [List.mem_filter]
    exact ⟨fun z => of_decide_eq_true z.2, fun z => ⟨hc, decide_eq_true z⟩⟩
  have m2 : (w : Int) ∈ wds x b g := List.mem_map.mpr ⟨_, m, by rw [e, s3]⟩
  have ne : wds x b g ≠ [] := List.ne_nil_of_mem m2
  refine ⟨ne, Int.le_antisymm (leastI_le m2) ?_⟩
  obtain ⟨h', hh, e2⟩ := List.mem_map.mp (leastI_mem ne)
  obtain ⟨_, k1, k2, _⟩ := (lhF_mem hbg nd).mp hh
  have := h2 h' k1 k2
  have e3 : leastI (wds x b g) = ((lotOf x h').length : Int) := e2.symm
  omega
theorem leastI_snoc : ∀ {l : List Int} (y : Int), l ≠ [] → leastI (l ++ [y]) = min (leastI l) y
  | [], y, h => absurd rfl h
  | [a], y, _ => rfl
  | a :: b :: l, y, _ => by
    show min a (leastI (b :: l ++ [y])) = min (min a (leastI (b :: l))) y
    rw [leastI_snoc y (List.cons_ne_nil b l)]
    omega
end Wr
set_option maxHeartbeats 4000000
namespace Wr
/-! ### sums of fractions over lists -/
def qs {α : Type} : List α → (α → Rat) → Rat
  | [], _ => 0
  | a :: l, f => f a + qs l f
theorem qs_congr {α : Type} {l : List α} {f g : α → Rat} (h : ∀ a ∈ l, f a = g a) : qs l f = qs l g := by
  induction l with
  | nil => rfl
  | cons a l ih =>
    rw [qs, qs, h a (List.mem_cons_self ..), ih fun b hb => h b (List.mem_cons_of_mem _ hb)]
theorem qs_zero {α : Type} {l : List α} {f : α → Rat} (h : ∀ a ∈ l, f a = 0) : qs l f = 0 := by
  induction l with
  | nil => rfl
  | cons a l ih =>
    rw [qs, h a (List.mem_cons_self ..), ih fun b hb => h b (List.mem_cons_of_mem _ hb)]
    grind
theorem qs_add {α : Type} (l : List α) (f g : α → Rat) : qs l (fun a => f a + g a) = qs l f + qs l g := by
  induction l with
  | nil => simp [qs]; grind
  | cons a l ih =>
    rw [qs, qs, qs, ih]
    grind
theorem qs_mul {α : Type} (l : List α) (c : Rat) (f : α → Rat) : qs l (fun a => f a * c) = qs l f * c := by
  induction l with
  | nil => simp [qs]
  | cons a l ih =>
    rw [qs, qs, ih]
    grind
theorem qs_neg {α : Type} (l : List α) (f : α → Rat) : qs l (fun a => - f a) = - qs l f := by
  induction l with
  | nil => simp [qs]
  | cons a l ih =>
    rw [qs, qs, ih]
    grind
theorem qs_swap {α β : Type} (l : List α) (m : List β) (f : α → β → Rat) : qs l (fun a => qs m (f a)) = qs m fun b => qs l fun a => f a b := by
  induction l with
  | nil =>
    rw [qs]
    exact (qs_zero fun b _ => rfl).symm
  | cons a l ih =>
    rw [qs, ih, ← qs_add]
    rfl
theorem qs_le {α : Type} {l : List α} {f g : α → Rat} (h : ∀ a ∈ l, f a ≤ g a) : qs l f ≤ qs l g := by
  induction l with
  | nil => exact Rat.le_refl
  | cons a l ih =>
    rw [qs, qs]
    have h1 := h a (List.mem_cons_self ..)
    have h2 := ih fun b hb => h b (List.mem_cons_of_mem _ hb)
    grind
theorem qs_lt {α : Type} {l : List α} {f : α → Rat} (h : ∀ a ∈ l, f a ≤ 0) {a : α} (ha : a ∈ l) (hl : f a < 0) : qs l f < 0 := by
  induction l with
  | nil => cases ha
  | cons b l ih =>
    rw [qs]
    have h1 := h b (List.mem_cons_self ..)
    have h3 : qs l f ≤ 0 := by
      have := qs_le (l := l) (f := f) (g := fun _ => 0) fun c hc => h c (List.mem_cons_of_mem _ hc)
      rwa [qs_zero fun _ _ => rfl] at this
    rcases List.mem_cons.mp ha with z | z
    · subst z
      grind
    · have h2 := ih (fun c hc => h c (List.mem_cons_of_mem _ hc)) z
      grind
theorem qs_pick {l : List Nat} (nd : l.Nodup) {a : Nat} (ha : a ∈ l) (c : Nat → Rat) : qs l (fun v => if a = v then c v else 0) = c a := by
  induction l with
  | nil => cases ha
  | cons b l ih =>
    obtain ⟨n1, n2⟩ := List.nodup_cons.mp nd
    rw [qs]
    by_cases z : a = b
    · subst z
      rw [if_pos rfl, qs_zero fun v hv => if_neg fun (y : a = v) => n1 (by rw [y]; exact hv)]
      grind
    · rw [if_neg z, ih n2 ((List.mem_cons.mp ha).resolve_left z)]
      grind
/-! ### heights -/
def lapG (x : W) (g : Nat → Rat) (v : Nat) : Rat := qs x.2 fun t => (if t.1 = v then g t.1 - g t.2 else 0) + (if t.2 = v then g t.2 - g t.1 else 0)
/-- what goes out of a herd -/
theorem cut_sum {x : W} (ok : WOk x) (g : Nat → Rat) (T : List Nat) : qs x.1 (fun v => if v ∈ T then lapG x g v else 0) = qs x.2 fun t => (if t.1 ∈ T then g t.1 - g t.2 else 0) + (if t.2 ∈ T then g t.2 - g t.1 else 0) := by
  have e1 : qs x.1 (fun v => if v ∈ T then lapG x g v else 0) = qs x.1 fun v => qs x.2 fun t => (if t.1 = v then (if v ∈ T then g t.1 - g t.2 else 0) else 0) + (if t.2 = v then (if v ∈ T then g t.2 - g t.1 else 0) else 0) := by
    refine qs_congr fun v _ => ?_
    by_cases z : v ∈ T
    · rw [if_pos z]
      exact qs_congr fun t _ => by rw [if_pos z, if_pos z]
    · rw [if_neg z]
      exact (qs_zero fun t _ => by rw [if_neg z, if_neg z, ite_self, ite_self]; grind).symm
  rw [e1, qs_swap]
  refine qs_congr fun t ht => ?_
  have := ok.ts t ht
  rw [qs_add, qs_pick ok.nodup this.1, qs_pick ok.nodup this.2.1]
def Conn (x : W) (z v : Nat) : Prop := ∀ S : List Nat, (∀ t ∈ x.2, (t.1 ∈ S ↔ t.2 ∈ S)) → (z ∈ S ↔ v ∈ S)
theorem mp_nn {x : W} (ok : WOk x) (g : Nat → Rat) (z : Nat) (h0 : 0 ≤ g z) (hc : ∀ v ∈ x.1, g v < 0 → Conn x z v) (hl : ∀ v ∈ x.1, g v < 0 → 0 ≤ lapG x g v) : ∀ v ∈ x.1, 0 ≤ g v := by
  intro v0 hv0
  refine Classical.byContradiction fun hn => ?_
  have hn : g v0 < 0 := by grind
  let T := x.1.filter fun v => decide (g v < 0)
  have hT : ∀ v ∈ x.1, (v ∈ T ↔ g v < 0) := fun v hv => by
    rw [List.mem_filter, decide_eq_true_iff]
    exact ⟨fun q => q.2, fun q => ⟨hv, q⟩⟩
  have h1 : 0 ≤ qs x.1 (fun v => if v ∈ T then lapG x g v else 0) := by
    have := qs_le (l := x.1) (f := fun _ => 0) (g := fun v => if v ∈ T then lapG x g v else 0) fun v hv => by
      show (0 : Rat) ≤ if v ∈ T then lapG x g v else 0
      by_cases q : v ∈ T
      · rw [if_pos q]
        exact hl v hv ((hT v hv).mp q)
      · rw [if_neg q]
        exact Rat.le_refl
    rwa [qs_zero fun _ _ => rfl] at this
  rw [cut_sum ok] at h1
  have term : ∀ t ∈ x.2, (if t.1 ∈ T then g t.1 - g t.2 else 0) + (if t.2 ∈ T then g t.2 - g t.1 else 0) ≤ (0 : Rat) ∧ (¬ (t.1 ∈ T ↔ t.2 ∈ T) → (if t.1 ∈ T then g t.1 - g t.2 else 0) + (if t.2 ∈ T then g t.2 - g t.1 else 0) < (0 : Rat)) := fun t ht => by
    have ht := ok.ts t ht
    have a := hT _ ht.1
    have b := hT _ ht.2.1
    by_cases p : t.1 ∈ T <;> by_cases q : t.2 ∈ T
    · rw [if_pos p, if_pos q]
      exact ⟨by grind, fun y => absurd ⟨fun _ => q, fun _ => p⟩ y⟩
    · rw [if_pos p, if_neg q]
      have := a.mp p
      have : ¬ g t.2 < 0 := fun y => q (b.mpr y)
      exact ⟨by grind, fun _ => by grind⟩
    · rw [if_neg p, if_pos q]
      have := b.mp q
      have : ¬ g t.1 < 0 := fun y => p (a.mpr y)
      exact ⟨by grind, fun _ => by grind⟩
    · rw [if_neg p, if_neg q]
      exact ⟨by grind, fun y => absurd ⟨fun k => absurd k p, fun k => absurd k q⟩ y⟩
  have nox : ∀ t ∈ x.2, (t.1 ∈ T ↔ t.2 ∈ T) := fun t ht => Classical.byContradiction fun y => by
    have := qs_lt (fun u hu => (term u hu).1) ht ((term t ht).2 y)
    grind
  have m := (hT v0 hv0).mpr hn
  have := (hc v0 hv0 hn T nox).mpr m
  have := of_decide_eq_true (List.mem_filter.mp this).2
  grind
theorem lapG_neg (x : W) (g : Nat → Rat) (v : Nat) : lapG x (fun c => - g c) v = - lapG x g v := by
  unfold lapG
  rw [← qs_neg]
  refine qs_congr fun t _ => ?_
  by_cases p : t.1 = v <;> by_cases q : t.2 = v <;> simp [p, q] <;> grind
/-- heights are 0 if nothing goes in -/
theorem only0 {x : W} (ok : WOk x) (g : Nat → Rat) (z : Nat) (h0 : g z = 0) (hc : ∀ v ∈ x.1, g v ≠ 0 → Conn x z v) (hl : ∀ v ∈ x.1, g v ≠ 0 → lapG x g v = 0) : ∀ v ∈ x.1, g v = 0 := fun v hv => by
  have h1 := mp_nn ok g z (by grind) (fun u hu q => hc u hu (by grind)) (fun u hu q => by rw [hl u hu (by grind)]; exact Rat.le_refl) v hv
  have h2 := mp_nn ok (fun c => - g c) z (by grind) (fun u hu q => hc u hu (by grind)) (fun u hu q => by rw [lapG_neg, hl u hu (by grind)]; grind) v hv
  grind
/-- a place's height is at least 1 by the width -/
theorem height_ge {x : W} (ok : WOk x) (g : Nat → Rat) {p z : Nat} (hp : p ∈ x.1) (hpz : p ≠ z) (h0 : g z = 0) (hc : ∀ v ∈ x.1, g v ≠ 0 → Conn x z v) (hl : ∀ v ∈ x.1, v ≠ z → lapG x g v = if v = p then 1 else 0) {S : List Nat} (hS : p ∈ S) (hz : z ∉ S) : 1 ≤ g p * ((lotOf x S).length : Nat) := by
  have nn := mp_nn ok g z (by grind) (fun u hu q => hc u hu (by grind)) (fun u hu q => by
    have : u ≠ z := fun y => by
      rw [y, h0] at q
      grind
    rw [hl u hu this]
    split <;> grind)
  have top := mp_nn ok (fun c => g p - g c) z (by
    have := nn p hp
    show 0 ≤ g p - g z
    rw [h0]
    grind) (fun u hu q => hc u hu (by
      have := nn p hp
      grind)) (fun u hu q => by
    have q : g p - g u < 0 := q
    have h1 : u ≠ z := fun y => by
      rw [y, h0] at q
      have := nn p hp
      grind
    have h2 : u ≠ p := fun y => by
      rw [y] at q
      grind
    have e : lapG x (fun c => g p - g c) u = - lapG x g u := by
      unfold lapG
      rw [← qs_neg]
      refine qs_congr fun t _ => ?_
      by_cases p' : t.1 = u <;> by_cases q' : t.2 = u <;> simp [p', q'] <;> grind
    rw [e, hl u hu h1, if_neg h2]
    grind)
  have h1 : qs x.1 (fun v => if v ∈ S then lapG x g v else 0) = 1 := by
    rw [qs_congr (g := fun v => if p = v then (1 : Rat) else 0) fun v hv => ?_, qs_pick ok.nodup hp]
    by_cases q : v ∈ S
    · rw [if_pos q, hl v hv fun y => hz (y ▸ q)]
      by_cases y : v = p
      · rw [if_pos y, if_pos y.symm]
      · rw [if_neg y, if_neg fun k => y k.symm]
    · rw [if_neg q, if_neg fun (y : p = v) => q (by rw [← y]; exact hS)]
  rw [cut_sum ok] at h1
  have h2 : qs x.2 (fun t => (if t.1 ∈ S then g t.1 - g t.2 else 0) + (if t.2 ∈ S then g t.2 - g t.1 else 0)) ≤ qs x.2 fun t => (if crosses S t = true then (1 : Rat) else 0) * g p := by
    refine qs_le fun t ht => ?_
    have ht := ok.ts t ht
    have a1 := nn _ ht.1
    have a2 := nn _ ht.2.1
    have b1 := top _ ht.1
    have b2 := top _ ht.2.1
    unfold crosses
    by_cases p' : t.1 ∈ S <;> by_cases q' : t.2 ∈ S <;> simp [p', q'] <;> grind
  rw [h1, qs_mul] at h2
  have h3 : qs x.2 (fun t => if crosses S t = true then (1 : Rat) else 0) = (((lotOf x S).length : Nat) : Rat) := by
    rw [← range_filter]
    generalize x.2 = l
    induction l with
    | nil => rfl
    | cons t l ih =>
      rw [qs, ih, List.filter_cons]
      by_cases y : crosses S t = true
      · rw [if_pos y, if_pos y, List.length_cons, Rat.natCast_add]
        have : ((1 : Nat) : Rat) = 1 := rfl
        grind
      · rw [if_neg y, if_neg y]
        grind
  rw [h3] at h2
  grind
end Wr
set_option maxHeartbeats 4000000
namespace Wr
/-! ### the heights of a pull -/
theorem whole_ties (x : W) : (whole x).map (tieAt x) = x.2 := by
  unfold whole
  apply List.ext_getElem?
  intro i
  rw [List.getElem?_map]
  by_cases h : i < x.2.length
  · rw [List.getElem?_range h, List.getElem?_eq_getElem h]
    show some (tieAt x i) = _
    unfold tieAt
    rw [List.getD_eq_getElem?_getD, List.getElem?_eq_getElem h]
    rfl
  · rw [List.getElem?_eq_none (by rw [List.length_range]; omega), List.getElem?_eq_none (by omega)]
    rfl
theorem pc_whole {x : W} (ok : WOk x) : PcOk x.1 x.2 (herdsL x (whole x)) := by
  unfold herdsL
  rw [whole_ties]
  exact herdsF_ok fun t ht => ⟨(ok.ts t ht).1, (ok.ts t ht).2.1⟩
theorem conn_of {x : W} (ok : WOk x) {h : List Nat} (hh : h ∈ herdsL x (whole x)) {a b : Nat} (ha : a ∈ h) (hb : b ∈ h) : Conn x a b := fun S hS => (pc_whole ok).con S (unx_iff.mpr hS) h hh a ha b hb
theorem one_term {ns : List Nat} (hn : ns.Nodup) {i : Nat} (hi : i < ns.length) (g : Nat → Rat) (hg : ∀ c, c ∉ ns → g c = 0) (a b : Nat) :
    Sg ns.length (fun j => ((cnE ns a b i j : Int) : Rat) * g (ns.getD j 0)) = if a = ns.getD i 0 then g a - g b else 0 := by
  have e0 : ns[i]? = some (ns.getD i 0) := by
    rw [List.getD_eq_getElem?_getD, List.getElem?_eq_getElem hi]
    rfl
  by_cases h : a ≠ b ∧ ns[i]? = some a
  · obtain ⟨h1, h2⟩ := h
    have h3 : a = ns.getD i 0 := by
      rw [e0] at h2
      exact (Option.some.inj h2).symm
    rw [if_pos h3]
    have e1 : ∀ j, j < ns.length → ((cnE ns a b i j : Int) : Rat) * g (ns.getD j 0) = (if j = i then g a else 0) - (if ns[j]? = some b then g b else 0) := fun j hj => by
      unfold cnE
      rw [if_pos ⟨h1, h2⟩]
      have ej : ns[j]? = some (ns.getD j 0) := by
        rw [List.getD_eq_getElem?_getD, List.getElem?_eq_getElem hj]
        rfl
      by_cases z : j = i
      · subst z
        rw [if_pos rfl, if_pos rfl, ← h3]
        have : ¬ ns[j]? = some b := fun y => by
          rw [h2] at y
          exact h1 (Option.some.inj y)
        rw [if_neg this, if_neg this]
        have : (((1 : Int) - 0 : Int) : Rat) = 1 := rfl
        rw [this]
        grind
      · rw [if_neg fun y => z y.symm, if_neg z]
        by_cases y : ns[j]? = some b
        · rw [if_pos y, if_pos y]
          rw [ej] at y
          rw [Option.some.inj y]
          have : (((0 : Int) - 1 : Int) : Rat) = -1 := rfl
          rw [this]
          grind
        · rw [if_neg y, if_neg y]
          have : (((0 : Int) - 0 : Int) : Rat) = 0 := rfl
          rw [this]
          grind
    rw [Sg_congr e1, Sg_sub, Sg_one hi (fun j _ hne => if_neg hne), if_pos rfl]
    congr 1
    by_cases y : b ∈ ns
    · obtain ⟨k, hk, e⟩ := List.getElem_of_mem y
      rw [Sg_one (k := k) hk (fun j hj hne => if_neg fun q => hne ?_), if_pos (by rw [List.getElem?_eq_getElem hk, e])]
      rw [List.getElem?_eq_getElem hj] at q
      exact (List.getElem_inj hn).mp ((Option.some.inj q).trans e.symm)
    · rw [Sg_zero fun j hj => if_neg fun q => y (List.mem_of_getElem? q), hg b y]
  · have z : Sg ns.length (fun j => ((cnE ns a b i j : Int) : Rat) * g (ns.getD j 0)) = 0 := Sg_zero fun j hj => by
      unfold cnE
      rw [if_neg h]
      have : ((0 : Int) : Rat) = 0 := rfl
      rw [this]
      grind
    rw [z]
    by_cases y : a = ns.getD i 0
    · rw [if_pos y]
      have : a = b := Decidable.byContradiction fun q => h ⟨q, by rw [e0, y]⟩
      rw [this]
      grind
    · rw [if_neg y]
theorem lap_sum (x : W) {ns : List Nat} (hn : ns.Nodup) {i : Nat} (hi : i < ns.length) (g : Nat → Rat) (hg : ∀ c, c ∉ ns → g c = 0) :
    Sg ns.length (fun j => ((lapE ns x.2 i j : Int) : Rat) * g (ns.getD j 0)) = lapG x g (ns.getD i 0) := by
  unfold lapG
  generalize x.2 = ts
  induction ts with
  | nil =>
    refine Sg_zero fun j hj => ?_
    have : ((lapE ns [] i j : Int) : Rat) = 0 := rfl
    rw [this]
    grind
  | cons t ts ih =>
    rw [qs, ← ih, ← one_term hn hi g hg t.1 t.2, ← one_term hn hi g hg t.2 t.1, ← Sg_add, ← Sg_add]
    refine Sg_congr fun j hj => ?_
    have : lapE ns (t :: ts) i j = cnE ns t.1 t.2 i j + cnE ns t.2 t.1 i j + lapE ns ts i j := by
      unfold lapE
      rw [List.map_cons, List.sum_cons]
    rw [this, Rat.intCast_add, Rat.intCast_add]
    grind
/-! ### what the elimination is asked -/
def pW (p : Nat) (c : Nat) : Fr := ((if c = p then 1 else 0), 1)
def pX (x : W) (ns : List Nat) (p : Nat) : SolX := ⟨tabM ns.length (lapE ns x.2), ns.map (pW p)⟩
theorem qv_int (a : Int) : qv (a, 1) = (a : Rat) := by
  unfold qv
  have : ((1 : Int) : Rat) = 1 := rfl
  show (a : Rat) / ((1 : Int) : Rat) = _
  rw [this]
  grind
theorem pX_len (x : W) (ns : List Nat) (p : Nat) : (pX x ns p).M.length = ns.length := by
  unfold pX tabM
  rw [List.length_map, List.length_range]
theorem pX_row (x : W) (ns : List Nat) (p : Nat) {i : Nat} (hi : i < ns.length) : (rows0 (pX x ns p)).getD i [] = ((List.range ns.length).map fun j => ((lapE ns x.2 i j, 1) : Fr)) ++ [pW p (ns.getD i 0)] := by
  unfold rows0 pX tabM
  rw [List.getD_eq_getElem?_getD, List.getElem?_map]
  have : (((List.range ns.length).map fun i => (List.range ns.length).map fun j => lapE ns x.2 i j).zip (ns.map (pW p)))[i]? = some ((List.range ns.length).map fun j => lapE ns x.2 i j, pW p (ns.getD i 0)) := by
    rw [List.getElem?_zip_eq_some, List.getElem?_map, List.getElem?_range hi, List.getElem?_map, List.getD_eq_getElem?_getD, List.getElem?_eq_getElem hi]
    exact ⟨rfl, rfl⟩
  show (Option.map _ (((List.range ns.length).map fun i => (List.range ns.length).map fun j => lapE ns x.2 i j).zip (ns.map (pW p)))[i]?).getD [] = _
  rw [this]
  show ((List.range ns.length).map _).map _ ++ _ = _
  rw [List.map_map]
  rfl
theorem pX_mv (x : W) (ns : List Nat) (p : Nat) {i j : Nat} (hi : i < ns.length) (hj : j < ns.length) : mv (rows0 (pX x ns p)) i j = ((lapE ns x.2 i j : Int) : Rat) := by
  unfold mv
  rw [pX_row x ns p hi, List.getD_eq_getElem?_getD, List.getElem?_append_left (by rw [List.length_map, List.length_range]; exact hj), List.getElem?_map, List.getElem?_range hj]
  exact qv_int _
theorem pX_mw (x : W) (ns : List Nat) (p : Nat) {i : Nat} (hi : i < ns.length) : mv (rows0 (pX x ns p)) i ns.length = if ns.getD i 0 = p then 1 else 0 := by
  unfold mv
  rw [pX_row x ns p hi, List.getD_eq_getElem?_getD, List.getElem?_append_right (by rw [List.length_map, List.length_range]; exact Nat.le_refl _), List.length_map, List.length_range, Nat.sub_self]
  show qv (pW p (ns.getD i 0)) = _
  unfold pW
  rw [qv_int]
  by_cases h : ns.getD i 0 = p
  · rw [if_pos h, if_pos h]
    rfl
  · rw [if_neg h, if_neg h]
    rfl
theorem cnE_le (ns : List Nat) (a b i j : Nat) : (cnE ns a b i j).natAbs ≤ 1 := by
  unfold cnE
  by_cases h1 : a ≠ b ∧ ns[i]? = some a
  · rw [if_pos h1]
    by_cases h2 : i = j <;> by_cases h3 : ns[j]? = some b <;> simp [h2, h3]
  · rw [if_neg h1]
    decide
theorem lapE_le (ns : List Nat) (i j : Nat) : ∀ ts : List Tie, (lapE ns ts i j).natAbs ≤ 2 * ts.length
  | [] => Nat.le_refl 0
  | t :: ts => by
    have ih := lapE_le ns i j ts
    have h1 := cnE_le ns t.1 t.2 i j
    have h2 := cnE_le ns t.2 t.1 i j
    have : lapE ns (t :: ts) i j = cnE ns t.1 t.2 i j + cnE ns t.2 t.1 i j + lapE ns ts i j := by
      unfold lapE
      rw [List.map_cons, List.sum_cons]
    rw [List.length_cons]
    omega
/-- a herd's places but one -/
def namesOf (h : List Nat) (z : Nat) : List Nat := h.filter fun c => !decide (c = z)
theorem names_mem {h : List Nat} {z c : Nat} : c ∈ namesOf h z ↔ c ∈ h ∧ c ≠ z := by
  unfold namesOf
  rw [List.mem_filter]
  simp
theorem herd_nodup {x : W} (ok : WOk x) {h : List Nat} (hh : h ∈ herdsL x (whole x)) : h.Nodup ∧ ∀ c ∈ h, c ∈ x.1 := by
  have pc := pc_whole ok
  have nf := pc.flat.nodup_iff.mpr ok.nodup
  exact ⟨List.Nodup.sublist (List.sublist_flatten_of_mem hh) nf, fun c hc => pc.flat.mem_iff.mp (List.mem_flatten.mpr ⟨h, hh, hc⟩)⟩
theorem names_len {x : W} (ok : WOk x) {h : List Nat} (hh : h ∈ herdsL x (whole x)) {z : Nat} (hz : z ∈ h) : (namesOf h z).length ≤ 4 := by
  obtain ⟨n1, n2⟩ := herd_nodup ok hh
  have := nodup_sub n1 n2
  have len := ok.len
  have : (namesOf h z).length < h.length := by
    refine List.length_filter_lt_length_iff_exists.mpr ⟨z, hz, by simp⟩
  omega
def gOf (ns : List Nat) (h : Nat → Rat) (c : Nat) : Rat := if c ∈ ns then h (ns.idxOf c) else 0
theorem gOf_at {ns : List Nat} (hn : ns.Nodup) (h : Nat → Rat) {i : Nat} (hi : i < ns.length) : gOf ns h (ns.getD i 0) = h i := by
  have e : ns.getD i 0 = ns[i] := by
    rw [List.getD_eq_getElem?_getD, List.getElem?_eq_getElem hi]
    rfl
  unfold gOf
  rw [e, if_pos (List.getElem_mem hi), List.Nodup.idxOf_getElem hn]
theorem gOf_out {ns : List Nat} (h : Nat → Rat) {c : Nat} (hc : c ∉ ns) : gOf ns h c = 0 := if_neg hc
theorem getD_of_mem {ns : List Nat} {c : Nat} (h : c ∈ ns) : ∃ i, i < ns.length ∧ ns.getD i 0 = c := by
  obtain ⟨i, hi, e⟩ := List.getElem_of_mem h
  exact ⟨i, hi, by rw [List.getD_eq_getElem?_getD, List.getElem?_eq_getElem hi]; exact e⟩
theorem pX_reg {x : W} (ok : WOk x) {h : List Nat} (hh : h ∈ herdsL x (whole x)) {z : Nat} (hz : z ∈ h) (p : Nat) : Reg (namesOf h z).length (mv (rows0 (pX x (namesOf h z) p))) := by
  obtain ⟨n1, n2⟩ := herd_nodup ok hh
  have hn : (namesOf h z).Nodup := n1.filter _
  generalize hns : namesOf h z = ns at hn
  have hm : ∀ c, c ∈ ns ↔ c ∈ h ∧ c ≠ z := fun c => by rw [← hns]; exact names_mem
  intro v hv hnul j hj
  have zn : z ∉ ns := fun q => ((hm z).mp q).2 rfl
  have only := only0 ok (gOf ns v) z (gOf_out v zn) (fun c hc hne => by
    have : c ∈ ns := Decidable.byContradiction fun q => hne (gOf_out v q)
    exact conn_of ok hh hz ((hm c).mp this).1) fun c hc hne => by
    have hcn : c ∈ ns := Decidable.byContradiction fun q => hne (gOf_out v q)
    obtain ⟨i, hi, e⟩ := getD_of_mem hcn
    rw [← e, ← lap_sum x hn hi (gOf ns v) fun c => gOf_out v]
    have := hnul i hi
    rw [Sg, hv] at this
    rw [Sg_congr (g := fun j => mv (rows0 (pX x ns p)) i j * v j) fun j hj => by rw [gOf_at hn v hj, pX_mv x ns p hi hj]]
    grind
  have hj' : ns.getD j 0 ∈ ns := by
    rw [List.getD_eq_getElem?_getD, List.getElem?_eq_getElem hj]
    exact List.getElem_mem hj
  have := only (ns.getD j 0) (n2 _ ((hm _).mp hj').1)
  rwa [gOf_at hn v hj] at this
theorem pX_ok {x : W} (ok : WOk x) {h : List Nat} (hh : h ∈ herdsL x (whole x)) {z : Nat} (hz : z ∈ h) (p : Nat) : SolOk (pX x (namesOf h z) p) := by
  have nt := ok.nt
  have nl := names_len ok hh hz
  refine ⟨by rw [pX_len]; exact nl, fun r hr => ?_, ?_, fun f hf => ?_, by rw [pX_len]; exact pX_reg ok hh hz p⟩
  · rw [pX_len]
    unfold pX tabM at hr
    obtain ⟨i, _, rfl⟩ := List.mem_map.mp hr
    refine ⟨by rw [List.length_map, List.length_range], fun a ha => ?_⟩
    obtain ⟨j, _, rfl⟩ := List.mem_map.mp ha
    have := lapE_le (namesOf h z) i j x.2
    exact Nat.lt_of_le_of_lt (show _ ≤ 14 by omega) (by decide)
  · rw [pX_len]
    unfold pX
    rw [List.length_map]
  · unfold pX at hf
    obtain ⟨c, _, rfl⟩ := List.mem_map.mp hf
    unfold pW
    refine ⟨(by decide : (0 : Int) < 1), ?_, (by decide : (1 : Int).natAbs < 2 ^ 5)⟩
    show Sm 5 (if c = p then 1 else 0)
    unfold Sm
    split <;> decide
/-! ### the answer -/
structure HsOk (x : W) (z p : Nat) (h : List Nat) (hs : List Fr) : Prop where
  mem : h ∈ herdsL x (whole x)
  hz : z ∈ h
  len : hs.length = (namesOf h z).length
  ok : ∀ f ∈ hs, FOk 4000 f
  eq : ∀ i, i < (namesOf h z).length → Sg (namesOf h z).length (fun j => mv (rows0 (pX x (namesOf h z) p)) i j * qv (hs.getD j (0, 1))) = mv (rows0 (pX x (namesOf h z) p)) i (namesOf h z).length
theorem cut_far {x : W} (ok : WOk x) {z p : Nat} {h : List Nat} (hh : h ∈ herdsL x (whole x)) (hz : z ∈ h) (hp : p ∈ x.1) (hn : p ∉ h) : cutOf x p z = 0 := by
  have hpz : p ≠ z := fun e => hn (e ▸ hz)
  have := (cut_is x hpz).2 (x.1.filter fun c => !decide (c ∈ h)) (List.mem_filter.mpr ⟨hp, by simpa using hn⟩) (fun q => by
    have := (List.mem_filter.mp q).2
    simp [hz] at this)
  have e : lotOf x (x.1.filter fun c => !decide (c ∈ h)) = [] := by
    unfold lotOf
    rw [List.filter_eq_nil_iff]
    intro i hi q
    have ht := ok.ts _ (tieAt_memB (List.mem_range.mp hi))
    have hx := (pc_whole ok).tie _ (tieAt_memB (List.mem_range.mp hi)) h hh
    have : crosses (x.1.filter fun c => !decide (c ∈ h)) (tieAt x i) = false := cr_iff.mpr (by
      rw [List.mem_filter, List.mem_filter]
      simp [ht.1, ht.2.1, hx])
    rw [this] at q
    cases q
  rw [e] at this
  exact Nat.le_zero.mp this
theorem cut_near {x : W} (ok : WOk x) {z p : Nat} {h : List Nat} (hh : h ∈ herdsL x (whole x)) (hz : z ∈ h) (hp : p ∈ h) (hpz : p ≠ z) : cutOf x p z ≠ 0 := by
  intro e
  obtain ⟨⟨S, s1, s2, s3⟩, _⟩ := cut_is x hpz
  rw [e] at s3
  have s3 := List.length_eq_zero_iff.mp s3
  refine s2 ((conn_of ok hh hp hz S fun t ht => ?_).mp s1)
  obtain ⟨i, hi, rfl⟩ := tie_at ht
  refine cr_iff.mp ?_
  rw [← Bool.not_eq_true]
  intro q
  have : i ∈ lotOf x S := List.mem_filter.mpr ⟨List.mem_range.mpr hi, q⟩
  rw [s3] at this
  cases this
theorem pull_ge {x : W} (ok : WOk x) {z p : Nat} {h : List Nat} {hs : List Fr} (H : HsOk x z p h hs) (hp : p ∈ h) (hpz : p ≠ z) : ∃ (i : Nat) (f : Fr), (namesOf h z)[i]? = some p ∧ hs[i]? = some f ∧ 0 < f.2 ∧ f.2 ≤ f.1 * (cutOf x p z : Int) := by
  obtain ⟨n1, n2⟩ := herd_nodup ok H.mem
  have hn : (namesOf h z).Nodup := n1.filter _
  have Hl := H.len
  have He := H.eq
  have hm : ∀ c, c ∈ namesOf h z ↔ c ∈ h ∧ c ≠ z := fun c => names_mem
  generalize namesOf h z = ns at hn Hl He hm
  have pn : p ∈ ns := (hm p).mpr ⟨hp, hpz⟩
  have zn : z ∉ ns := fun q => ((hm z).mp q).2 rfl
  obtain ⟨i, hi, ei⟩ := getD_of_mem pn
  have hil : i < hs.length := by omega
  have hf := H.ok _ (List.getElem_mem hil)
  refine ⟨i, hs[i], ?_, List.getElem?_eq_getElem hil, hf.1, ?_⟩
  · rw [List.getElem?_eq_getElem hi, ← ei, List.getD_eq_getElem?_getD, List.getElem?_eq_getElem hi]
    rfl
  let v : Nat → Rat := fun j => qv (hs.getD j (0, 1))
  obtain ⟨⟨S, s1, s2, s3⟩, _⟩ := cut_is x hpz
  have key := height_ge ok (gOf ns v) (p := p) (z := z) (n2 p hp) hpz (gOf_out v zn) (fun c hc hne => by
    have : c ∈ ns := Decidable.byContradiction fun q => hne (gOf_out v q)
    exact conn_of ok H.mem H.hz ((hm c).mp this).1) (fun c hc hcz => by
    by_cases q : c ∈ h
    · obtain ⟨k, hk, ek⟩ := getD_of_mem ((hm c).mpr ⟨q, hcz⟩)
      rw [← ek, ← lap_sum x hn hk (gOf ns v) fun c => gOf_out v]
      have := He k hk
      rw [pX_mw x ns p hk] at this
      rw [← this]
      exact Sg_congr fun j hj => by rw [gOf_at hn v hj, pX_mv x ns p hk hj]
    · rw [if_neg fun (y : c = p) => q (by rw [y]; exact hp)]
      unfold lapG
      refine qs_zero fun t ht => ?_
      have hx := (pc_whole ok).tie t ht h H.mem
      have out : ∀ d, d ∉ h → gOf ns v d = 0 := fun d hd => gOf_out v fun y => hd ((hm d).mp y).1
      by_cases a : t.1 = c
      · have a1 : t.1 ∉ h := by rw [a]; exact q
        have a2 : t.2 ∉ h := fun y => a1 (hx.mpr y)
        have z0 : (0 : Rat) - 0 = 0 := by grind
        rw [out _ a1, out _ a2, z0, ite_self, ite_self]
        grind
      · by_cases b : t.2 = c
        · have a2 : t.2 ∉ h := by rw [b]; exact q
          have a1 : t.1 ∉ h := fun y => a2 (hx.mp y)
          have z0 : (0 : Rat) - 0 = 0 := by grind
          rw [out _ a1, out _ a2, z0, ite_self, ite_self]
          grind
        · rw [if_neg a, if_neg b]
          grind) s1 s2
  rw [s3] at key
  have e1 : gOf ns v p = qv hs[i] := by
    rw [← ei, gOf_at hn v hi]
    show qv (hs.getD i (0, 1)) = _
    rw [List.getD_eq_getElem?_getD, List.getElem?_eq_getElem hil]
    rfl
  rw [e1] at key
  unfold qv at key
  have h2 : (0 : Rat) < ((hs[i].2 : Int) : Rat) := by exact_mod_cast hf.1
  have h3 : ((hs[i].2 : Int) : Rat) ≤ ((hs[i].1 : Int) : Rat) * ((cutOf x p z : Nat) : Rat) := by
    have e2 : ((hs[i].1 : Int) : Rat) * ((cutOf x p z : Nat) : Rat) = ((hs[i].1 : Int) : Rat) / ((hs[i].2 : Int) : Rat) * ((cutOf x p z : Nat) : Rat) * ((hs[i].2 : Int) : Rat) := by grind
    rw [e2]
    have := Rat.mul_le_mul_of_nonneg_right key (Rat.le_of_lt h2)
    grind
  exact_mod_cast h3
end Wr
set_option maxHeartbeats 4000000
namespace Wr
open PySem PySem.Spec PyProof.Rows L2
/-! ### dict(zip(texts, values)) -/
def tDZip (K : PySem.W.Frag) (ta : TA) : TE := fun σ H Q => ta σ H fun vs H1 => ∃ (a b : Addr) (ks : List PySem.Str) (ys : List V), vs = [.ref a, .ref b] ∧ SqL K H1 a (ks.map V.str) ∧ SqL K H1 b ys ∧ ks.length = ys.length ∧ ks.length ≤ sizeLine ∧ ∀ p, H1 p = none → Q (.ref p) (upd H1 p (.dK (mergeK [] (zipK ks ys))))
theorem kv_zip : ∀ {ks : List PySem.Str} {ys : List V} {us ws : List Value}, Vals (ks.map V.str) us → Vals ys ws → ks.length = ys.length → KV (zipK ks ys) ((ks.map Sum.inr).zip ws) ∧ ((ks.map Sum.inr).zip ws : List (L2.Key × Value)).length = min us.length ws.length ∧
    ∀ (i : Nat) (key v : Value), us[i]? = some key → ws[i]? = some v → ∃ k : L2.Key, ((ks.map Sum.inr).zip ws)[i]? = some (k, v) ∧ keyIs k key = true
  | [], [], us, ws, r1, r2, _ => by
    cases r1
    cases r2
    exact ⟨.nil, rfl, fun i key v h => by simp at h⟩
  | [], _ :: _, _, _, _, _, h => by simp at h
  | _ :: _, [], _, _, _, _, h => by simp at h
  | k :: ks, y :: ys, us, ws, r1, r2, h => by
    rw [List.map_cons] at r1
    cases r1 with
    | cons h1 t1 =>
      cases r2 with
      | cons h2 t2 =>
        obtain ⟨a, b, c⟩ := kv_zip t1 t2 (by simpa using h)
        refine ⟨.cons ⟨rfl, h2⟩ a, ?_, fun i key v e1 e2 => ?_⟩
        · rw [List.map_cons, List.zip_cons_cons, List.length_cons, b, List.length_cons, List.length_cons]
          omega
        · cases i with
          | zero =>
            have e1 := Option.some.inj e1
            have e2 := Option.some.inj e2
            subst e1 e2
            obtain ⟨t, rfl⟩ := h1
            exact ⟨.inr k, rfl, keyIs_str k t⟩
          | succ i =>
            obtain ⟨k', e3, e4⟩ := c i key v (by simpa using e1) (by simpa using e2)
            exact ⟨k', by simpa using e3, e4⟩
theorem pe_dictZip {X : Cx} {e e2 : Expr} {ta : TA} {p pos q pos2 : Pos} (hg : Gl X "dict") (hm : X.mg "dict" = none) (hgz : Gl X "zip") (hmz : X.mg "zip" = none) (ha : PA X [e, e2] ta) (hcalm : X.calm = true := by rfl)
    (hs : starEach [e, e2] X.env = (false, eval e X.env) :: starEach [e2] X.env := by rfl) (hpl : (backTo pos2 (starEach [e2] X.env)).any (·.1) = false := by rfl)
    (na : starEach [.Call (.Name "zip" q) [e, e2] [] pos2] X.env = (false, eval (.Call (.Name "zip" q) [e, e2] [] pos2) X.env) :: starEach [] X.env := by rfl) :
    PE X (.Call (.Name "dict" p) [.Call (.Name "zip" q) [e, e2] [] pos2] [] pos) (tDZip X.K ta) := by
  refine ⟨fun pins s σ H Q I h => ?_⟩
  refine Call_ (ld_blt I hg hm boot_dict (callWith_type1 (args_cons (thn (Call_ (ld_blt I hgz hmz boot_zip (callWith_type1 (thn (ha.run pos2 pins s σ H _ I h) fun us s1 ⟨vs, H1, I1, r1, q1⟩ => ?_) hs hpl)) (Q := fun v s2 => ∃ z, v = .ref z ∧ wpAny (model X.prog X.w) X.A (call (.type "dict") [.ref z]) (EP X pins σ Q) X.xe s2)) fun v s2 ⟨z, ez, hz⟩ => args_nil (by subst ez; exact hz)) na) na))
  obtain ⟨a, b, ks, ys, ex, hqx, hqy, hlen, hsz, q1⟩ := q1
  subst ex
  cases r1 with
  | cons r rr =>
    cases rr with
    | cons r' rr =>
      cases rr
      cases r
      cases r'
      obtain ⟨its, rv, p1, _⟩ := I1.list hqx
      obtain ⟨its2, rv2, p2, _⟩ := I1.list hqy
      obtain ⟨kv, hl, hk2⟩ := kv_zip rv rv2 hlen
      refine call_zip_2 p1.isList p2.isList fun h' hz hTI hTO h1 h2 hsz' hk => ⟨_, rfl, ?_⟩
      have big := I1.big
      refine PySem.call_dict_pairs (s := { s1 with heap := h' }) (knd := mixKind X.prog X.w) (kvs := (ks.map Sum.inr).zip its2) (PairArg.zip _ _ _ _ _ a b (zipApart_new p1.lt p2.lt) its.toArray its2.toArray) (I1.ok.hd hcalm) ⟨hz, hTI, ⟨_, _, hTO⟩, h1, h2, p1.isList.at fun o e => hk _ o e, p2.isList.at fun o e => hk _ o e⟩ ⟨?_, ?_⟩ ?_ fun h'' tk hd' k => ?_
      · rw [hl]
        simp
      · rintro i key v ⟨e1, e2⟩
        exact hk2 i key v (by simpa using e1) (by simpa using e2)
      · have e3 : ks.length = its.length := by
          have := rv.length
          rwa [List.length_map] at this
        show min its.toArray.size its2.toArray.size ≤ sizeLine
        exact Nat.le_trans (Nat.min_le_left ..) (by simpa [← e3] using hsz)
      · have kk : ∀ c o, s1.heap.get? c = some o → h''.get? c = some o := fun c o e => k c o (fun hm => by
          have hc : c < s1.heap.objs.size := Heap.lt_size e
          have hm : c = s1.heap.objs.size + 4 ∨ c = s1.heap.objs.size + 3 ∨ c = s1.heap.objs.size ∨ c = s1.heap.objs.size + 1 := by simpa using hm
          rcases hm with z | z | z | z <;> rw [z] at hc
          · exact absurd hc (Nat.not_lt.mpr (Nat.le_add_right ..))
          · exact absurd hc (Nat.not_lt.mpr (Nat.le_add_right ..))
          · exact Nat.lt_irrefl _ hc
          · exact absurd hc (Nat.not_lt.mpr (Nat.le_add_right ..))) (hk c o e)
        have hle : s1.heap.objs.size ≤ h'.objs.size := by omega
        have hm : (h'.objs.size == sysModules) = false := beq_eq_false_iff_ne.mpr (Nat.ne_of_gt (Nat.lt_of_lt_of_le I1.big hle))
        have hlen2 : (mergeK [] (zipK ks ys)).length ≤ sizeLine := by
          refine Nat.le_trans (length_mergeK _ []) ?_
          unfold zipK
          rw [List.length_nil, Nat.zero_add, List.length_zip, List.length_map]
          exact Nat.le_trans (Nat.min_le_left ..) hsz
        exact ⟨.ref h'.objs.size, upd H1 h'.objs.size (.dK (mergeK [] (zipK ks ys))), I1.laid (t' := tk) kk hle (show ObjOk X.prog X.w _ _ _ (.dK (mergeK [] (zipK ks ys))) from ⟨hlen2, hm, merged [] ((ks.map Sum.inr).zip its2), KV.merge kv .nil, hd'⟩), rfl, q1 _ (I1.hok.fresh hle)⟩
end Wr
set_option maxHeartbeats 4000000
namespace Wr
open PySem L2
/-! ### dict(zip(..)) on data -/
theorem merge_app : ∀ {ks ks0 : List PySem.Str} {vs vs0 : List V}, ks0.length = vs0.length → ks.length = vs.length → (ks0 ++ ks).Nodup → mergeK (zipK ks0 vs0) (zipK ks vs) = zipK (ks0 ++ ks) (vs0 ++ vs)
  | [], ks0, vs, vs0, _, h, _ => by
    have : vs = [] := List.length_eq_zero_iff.mp h.symm
    subst this
    rw [List.append_nil, List.append_nil]
    rfl
  | k :: ks, ks0, [], vs0, _, h, _ => by simp at h
  | k :: ks, ks0, v :: vs, vs0, h0, h, nd => by
    have hk : k ∉ ks0 := fun z => (List.nodup_append.mp nd).2.2 k z k (List.mem_cons_self ..) rfl
    show mergeK (putK (zipK ks0 vs0) (.inr k) v) (zipK ks vs) = _
    rw [putK_new v (by rw [valV_zip, dgetV_none hk]), ← zipK_app h0, merge_app (by rw [List.length_append, List.length_append, h0]; rfl) (by simpa using h) (by rw [List.append_assoc]; exact nd), List.append_assoc, List.append_assoc]
    rfl
theorem merge_zip {ks : List PySem.Str} {vs : List V} (h : ks.length = vs.length) (nd : ks.Nodup) : mergeK [] (zipK ks vs) = zipK ks vs := merge_app (ks0 := []) (vs0 := []) rfl h nd
theorem sq_ownZ {C : Cn} {K : PySem.W.Frag} {G : En} {N : En → Prop} {R : D → En → Prop} {ta tb : TE} {u : TS} {i : Nat} {ks : List PySem.Str} {P : List D → Prop} (nd : ks.Nodup) (hz : ks.length ≤ 100000) (h1 : EvD C ta G (.lst (dS ks))) (h2 : EvR C tb G (fun d => ∃ ds, P ds ∧ ks.length = ds.length ∧ d = .lst ds)) (k : ∀ ds p, P ds → p ∉ G.keys → SD C u ((G.own p (.dic ks (ds.map .im))).set i (.ptr p)) N R) :
    SD C (tSeq (tAsg (tDZip K (tCons ta (tCons tb tNil))) (gName i)) u) G N R := fun H0 O0 H σ E g n r => by
    refine app_asg ?_
    unfold tDZip
    refine ea_cons h1 (ea_cons h2 ea_nil) _ H σ g.e _ fun xs us H1 hx e1 rv => ?_
    obtain ⟨d1, r1, rfl, rfl, d2, r2, rfl, ⟨ds, hP, hl, rfl⟩, rfl⟩ := hx
    obtain ⟨v1, w1, rfl, k1, k2⟩ := repL_cons.mp rv
    obtain ⟨v2, w2, rfl, k3, k4⟩ := repL_cons.mp k2
    rw [repL_nil.mp k4]
    obtain ⟨a, vs, rfl, h3, h4⟩ := rep_lst.mp k1
    obtain ⟨b, ys, rfl, h5, h6⟩ := rep_lst.mp k3
    have e3 := repL_flat.mp h4
    subst e3
    have hl2 : ks.length = ys.length := by rw [hl, h6.length]
    refine ⟨a, b, ks, ys, rfl, SqL.of (hide_le _ _ h3 rfl), SqL.of (hide_le _ _ h5 rfl), hl2, sz5 hz, fun p np1 => ?_⟩
    rw [merge_zip hl2 nd]
    have np : H p = none := e1.free np1
    have e : Same H (upd H1 p (.dK (zipK ks ys))) := e1.trans (same_new np1)
    have nk : p ∉ G.keys ++ O0 := g.e.dom.out np
    have nk1 : p ∉ G.keys := fun z => nk (List.mem_append_left _ z)
    have g' := g.e.more np e upd_same
    refine k ds p hP nk1 H0 O0 _ _ E ⟨g.same.trans e, g.dom0, fun l hl => ?_, ⟨fun l hl => ?_, g'.dom, List.nodup_cons.mpr ⟨nk1, g.e.nd⟩, fun q hq => ?_, g'.sl.set i rfl, g'.tb⟩⟩ (fun G' σ' H'' q g'' s' => n G' σ' H'' q g'' ((same_out np e).trans s')) r
    · rcases List.mem_cons.mp (show l ∈ p :: G.keys from hl) with z | z
      · rw [z]
        exact g.same.free np
      · exact g.own l z
    · exact List.mem_append_left _ (show l ∈ p :: G.keys from hl)
    · rcases List.mem_cons.mp (show q ∈ (p, OO.dic ks (ds.map SV.im)) :: G.Om from hq) with z | z
      · rw [z]
        exact ⟨ys, upd_same, by rw [hl, List.length_map], svs_im.mpr (h6.mono (hide_new np1))⟩
      · exact g'.ok q z
/-! ### heights -/
def hgt (z : Nat) (h : List Nat) (hs : List Fr) (c : Nat) : D := (dgetD ((namesOf h z ++ [z]).map sg) (hs.map dF ++ [dF (0, 1)]) (sg c)).getD D.n
structure HsX where
  x : W
  z : Nat
  p : Nat
structure HsPre (y : HsX) : Prop where
  ok : WOk y.x
  hz : y.z ∈ y.x.1
  hp : y.p ∈ y.x.1
theorem nm_nodup {ns : List Nat} (h : ns.Nodup) : (ns.map sg).Nodup := by
  unfold List.Nodup
  rw [List.pairwise_map]
  exact h.imp fun h z => h (sg_inj z)
abbrev N_heights_solved : List PySem.Str := ["web", "goal", "wanted", "herd", "names", "heights", "place", "piece", "name"]
theorem sc_heights_solved : FnScope N_heights_solved ["web", "goal", "wanted"] (defScope s_heights_solved) := ⟨rfl, rfl, rfl, by decide +kernel, rfl, by decide +kernel, by decide +kernel⟩
def sp_heights_solved (C : Cn) : Sp := spT C (fun y : HsX => [dW y.x, .s (sg y.z), .dic [sg y.p] [.i 1]]) HsPre (fun y d => ∃ h hs, HsOk y.x y.z y.p h hs ∧ d = .tup (y.x.1.map (hgt y.z h hs)))
theorem want_at (p c : Nat) : (dgetD [sg p] [D.i 1] (sg c)).getD (D.i 0) = D.i (if c = p then 1 else 0) := by
  by_cases h : c = p
  · rw [if_pos h, h]
    unfold dgetD
    rw [if_pos rfl]
    rfl
  · rw [if_neg h]
    unfold dgetD
    rw [if_neg fun z => h (sg_inj z).symm]
    rfl
theorem has_heights_solved {P : Program} {w : World} {K : PySem.W.Frag} {mg : PySem.Str → Option Value} {base : Heap} {C : Cn} (T : Tx K mg C.cls) : Has P w K mg base 6 "heights_solved" ["web", "goal", "wanted"] (sp_heights_solved C) := by
  refine fn_has T 69 (d := d_heights_solved) rfl rfl (N := N_heights_solved) sc_heights_solved rfl rfl (fun _ _ _ _ _ _ us hl => match us, hl with | [_, _, _], _ => rfl) (fun _ => rfl) (fun cdv A' outer s H E hr => ⟨_, (pss_cons (ps_set (i := 3) sc_heights_solved.nd rfl (.inl rfl) (pe_ix (k_ix_list (K := K) rfl) (pe_lc (own := [("piece", 7)]) (g := gName 7) rfl sc_heights_solved.nd (k_pi_list (K := K) rfl (pe_has (has_pieces_of T) (hr.mono (by decide)) (by rfl) (pa_cons (pv 0) (pa_cons (pe_has (has_every_tie T) (hr.mono (by decide)) (by rfl) (pa_cons (pv 0) pa_nil)) pa_nil)))) (blkOk_by (own := [("piece", 7)]) (N := N_heights_solved) (sc := defScope s_heights_solved) (by decide +kernel)) (fun _ _ _ _ _ => (pg_name (i := 7) sc_heights_solved.nd rfl (.inl rfl))) (fun _ _ _ _ _ => (pts_one (pt_cmpR op_in_sign (pv 1) (pv 7) rfl))) (fun _ _ _ _ _ => (pv 7))) pe_int (fun _ _ => rfl)))
      (pss_cons (ps_setLc (i := 4) (own := [("place", 6)]) (g := gName 6) rfl sc_heights_solved.nd rfl rfl (sw_true rfl rfl rfl (by decide +kernel)) (pi_str (pv 3)) (blkOk_by (own := [("place", 6)]) (N := N_heights_solved) (sc := defScope s_heights_solved) (by decide +kernel)) (fun _ _ _ _ _ => (pg_name (i := 6) sc_heights_solved.nd rfl (.inl rfl))) (fun _ _ _ _ _ => (pts_one (pt_cmpR op_ne (pv 6) (pv 1) (nomark _)))) (fun _ _ _ _ _ => (pv 6)))
      (pss_cons (ps_set (i := 5) sc_heights_solved.nd rfl (.inr rfl) (pe_dictZip (by rfl) T.xdict (by rfl) T.xzip (pa_cons (pv 4) (pa_cons (pe_has (has_solved T) (hr.mono (by decide)) (by rfl) (pa_cons (pe_has (has_laplacian T) (hr.mono (by decide)) (by rfl) (pa_cons (pv 4) (pa_cons (k_pe_fld (K := K) rfl (pv 0) rfl) pa_nil))) (pa_cons (pe_lc (own := [("name", 8)]) (g := gName 8) (tt := tYes) rfl sc_heights_solved.nd (k_pi_list (K := K) rfl (pv 4)) (blkOk_by (own := [("name", 8)]) (N := N_heights_solved) (sc := defScope s_heights_solved) (by decide +kernel)) (fun _ _ _ _ _ => (pg_name (i := 8) sc_heights_solved.nd rfl (.inl rfl))) (fun _ _ _ _ _ => pts_nil) (fun _ _ _ _ _ => (pe_tup (pa_cons (pe_dget2 (hu_of hr) (pv 2) (pv 8) pe_int ⟨rfl, rfl, rfl, rfl⟩) (pa_cons pe_int pa_nil))))) pa_nil))) pa_nil))))
      (pss_cons (ps_dput (hu_of hr) (pv 5) (pv 1) (pe_tup (pa_cons pe_int (pa_cons pe_int pa_nil))) rfl)
      (pss_one (ps_ret (pe_callTy (k_call_tup (K := K) rfl) (by rfl) T.xtuple bt_tuple (pa_cons (pe_lc (own := [("place", 6)]) (g := gName 6) (tt := tYes) rfl sc_heights_solved.nd (pi_str (k_pe_fld (K := K) rfl (pv 0) rfl)) (blkOk_by (own := [("place", 6)]) (N := N_heights_solved) (sc := defScope s_heights_solved) (by decide +kernel)) (fun _ _ _ _ _ => (pg_name (i := 6) sc_heights_solved.nd rfl (.inl rfl))) (fun _ _ _ _ _ => pts_nil) (fun _ _ _ _ _ => (pe_dget1 (hu_of hr) (pv 5) (pv 6) ⟨rfl, rfl, rfl, rfl⟩))) pa_nil)))))))), fun x hx => ?_⟩)
  obtain ⟨x, z, p⟩ := x
  obtain ⟨ok, hz, hp⟩ := hx
  simp only at ok hz hp
  have len := ok.len
  have nt := ok.nt
  show SD C _ ⟨[], [.im (dW x), .im (.s (sg z)), .im (.dic [sg p] [.i 1]), .no, .no, .no, .no, .no, .no]⟩ _ _
  refine sq_asgR (P := fun d => ∃ h ∈ herdsL x (whole x), z ∈ h ∧ d = .s (st h)) ?_ ?_
  · refine ev_op (R1 := fun d => ∃ m : List (List Nat), m.Perm (herdsL x (whole x)) ∧ d = .lst ((m.filter fun h => decide (z ∈ h)).map fun h => D.s (st h))) (R2 := (· = .i 0)) (ev_lcR (C := C) (js := [7]) (fun m : List (List Nat) => m.Perm (herdsL x (whole x))) (fun h => D.s (st h)) (fun h => decide (z ∈ h)) (fun h => D.s (st h)) (fun h s => s.set 7 (.im (.s (st h))))
      (ei_listR (ev_callD (R := fun d => ∃ ds, (∃ m : List (List Nat), m.Perm (herdsL x (whole x)) ∧ ds = m.map fun h => D.s (st h)) ∧ d = .lst ds) (x, whole x) (ea2 (ev_v rfl) (ev_callD (R := (· = .tup (dN (whole x)))) x (ea1 (ev_v rfl)) (by show x.2.length < 1000; omega) fun _ h => h)) ⟨ok, fun i hi => List.mem_range.mp hi, by show (List.range _).length ≤ _; rw [List.length_range]; omega⟩ fun d ⟨m, hm, e⟩ => ⟨_, ⟨m, hm, rfl⟩, e⟩)) (fun _ _ _ _ => eg_name) (fun m hm => by
        have h2 := (herdsF_two ok.nodup (lot_ends ok (lot := whole x) fun i hi => List.mem_range.mp hi)).2
        rw [hm.length_eq]
        exact Nat.le_trans h2 (by omega)) (fun m hm h hh => et_test (ev_opD (ev_v rfl) (ev_v rfl) rr_inL)) (fun m hm h hh _ => ev_v rfl)) ev_c fun a b ⟨m, hm, e⟩ e2 => ?_
    subst e e2
    obtain ⟨h, h1, h2⟩ := (pc_whole ok).ex hz
    have hne : (m.filter fun h => decide (z ∈ h)) ≠ [] := List.ne_nil_of_mem (List.mem_filter.mpr ⟨hm.mem_iff.mpr h1, decide_eq_true h2⟩)
    cases hf : m.filter fun h => decide (z ∈ h) with
    | nil => exact absurd hf hne
    | cons g l =>
      have hg : g ∈ m.filter fun h => decide (z ∈ h) := by
        rw [hf]
        exact List.mem_cons_self ..
      obtain ⟨g1, g2⟩ := List.mem_filter.mp hg
      exact rr_ixL (d := .s (st g)) (atI_n (j := 0) rfl) ⟨g, hm.mem_iff.mp g1, of_decide_eq_true g2, rfl⟩
  rintro d ⟨h, hh, hzh, rfl⟩
  have nd := herd_nodup ok hh
  have nl := names_len ok hh hzh
  have hlen : h.length ≤ 5 := by
    have := nodup_sub nd.1 nd.2
    omega
  have nn : (namesOf h z).Nodup := nd.1.filter _
  refine sq_asg (d := dNs (namesOf h z)) ((ev_lc (C := C) (js := [6]) h (fun c => D.s (sg c)) (fun c => !decide (c = z)) (fun c => D.s (sg c)) (fun c l => l.set 6 (.im (.s (sg c)))) ((ei_str (ev_v rfl)).to (signs_st _)) (fun _ _ => eg_name) (by omega) (fun c hc => ?_) (fun c hc _ => ev_v rfl)).dat.to ?_) ?_
  · refine et_test ((ev_opD (ev_v rfl) (ev_v rfl) rr_neS).to ?_)
    congr 2
    by_cases q : c = z
    · rw [decide_eq_true q, decide_eq_true (congrArg sg q)]
    · rw [decide_eq_false q, decide_eq_false fun y => q (sg_inj y)]
  · unfold dNs dS namesOf
    rw [List.map_map]
    rfl
  refine sq_ownZ (ks := (namesOf h z).map sg) (P := fun ds => ∃ hs : List Fr, HsOk x z p h hs ∧ ds = hs.map dF) (nm_nodup nn) (by rw [List.length_map]; omega) (ev_v rfl) (ev_callD (pX x (namesOf h z) p) (ea2 (ev_callD (R := (· = dLap (namesOf h z) x.2)) ⟨namesOf h z, x.2⟩ (ea2 (ev_v rfl) (evw_ties T.cl T.nT (ev_v rfl))) ⟨nn, by show (namesOf h z).length ≤ 100; omega⟩ fun _ h => h) ((ev_map (C := C) (js := [8]) (namesOf h z) (fun c => D.s (sg c)) (fun c => dF (pW p c)) (fun c l => l.set 8 (.im (.s (sg c)))) ((ei_list (ev_v (d := dNs (namesOf h z)) rfl)).to ?_) (fun _ _ => eg_name) (by omega) fun c hc => ?_).dat.to ?_)) (pX_ok ok hh hzh p) fun d ⟨hs, h1, h2, h3, h4⟩ => ?_) ?_
  · unfold dS
    rw [List.map_map]
    rfl
  · exact ev_tupD (ea2 (ev_dget2 (ev_v rfl) (ev_v rfl) ev_c (want_at p c)) ev_c)
  · show D.lst _ = D.lst (((namesOf h z).map (pW p)).map dF)
    rw [List.map_map]
    rfl
  · rw [pX_len] at h1 h3
    exact ⟨hs.map dF, ⟨hs, ⟨hh, hzh, h1, h2, h3⟩, rfl⟩, by rw [List.length_map, List.length_map, h1], h4⟩
  rintro ds q ⟨hs, H, rfl⟩ -
  have zn : sg z ∉ (namesOf h z).map sg := fun y => (names_mem.mp (nm_mem.mp y)).2 rfl
  have H0l : ((namesOf h z).map sg).length = (hs.map dF).length := by rw [List.length_map, List.length_map, H.len]
  refine sd_seq1 (G1 := ⟨[(q, .dic ((namesOf h z ++ [z]).map sg) ((hs.map dF ++ [dF (0, 1)]).map .im))], [.im (dW x), .im (.s (sg z)), .im (.dic [sg p] [.i 1]), .im (.s (st h)), .im (dNs (namesOf h z)), .ptr q, .no, .no, .no]⟩) (sd_dput (P := (· = dF (0, 1))) (l := q) (ks := (namesOf h z).map sg) (xs := (hs.map dF).map .im) (k := sg z) rfl (List.mem_cons_self ..) (ev_tupD (ea2 ev_c ev_c)) (ev_v rfl) zn (by rw [List.length_map]; omega) fun d hd => ?_) ?_
  · subst hd
    show (⟨[(q, _)], _⟩ : En).put q _ = _
    rw [put_one, List.map_append, List.map_append]
    rfl
  refine sd_frzK (l := q) (ks := (namesOf h z ++ [z]).map sg) (ds := hs.map dF ++ [dF (0, 1)]) (List.mem_cons_self ..) ?_
  have eF : (⟨[(q, .dic ((namesOf h z ++ [z]).map sg) ((hs.map dF ++ [dF (0, 1)]).map .im))], [.im (dW x), .im (.s (sg z)), .im (.dic [sg p] [.i 1]), .im (.s (st h)), .im (dNs (namesOf h z)), .ptr q, .no, .no, .no]⟩ : En).frzK q ((namesOf h z ++ [z]).map sg) (hs.map dF ++ [dF (0, 1)]) = ⟨[], [.im (dW x), .im (.s (sg z)), .im (.dic [sg p] [.i 1]), .im (.s (st h)), .im (dNs (namesOf h z)), .im (.dic ((namesOf h z ++ [z]).map sg) (hs.map dF ++ [dF (0, 1)])), .no, .no, .no]⟩ := by
    simp [En.frzK]
  rw [eF]
  refine sd_ret (d := .tup (x.1.map (hgt z h hs))) (ev_cbD (ea1 (ev_map (C := C) (js := [6]) x.1 (fun c => D.s (sg c)) (hgt z h hs) (fun c l => l.set 6 (.im (.s (sg c)))) ((ei_str (evw_places T.cl T.nP (ev_v rfl))).to (signs_st _)) (fun _ _ => eg_name) (by omega) fun c hc => ev_dget1 (ev_v rfl) (ev_v rfl) rfl).dat) cr_tup) ⟨h, hs, H, rfl⟩
end Wr
set_option maxHeartbeats 4000000
namespace Wr
open PySem L2
/-! ### pulls -/
theorem isNone_dF (f : Fr) : isNone (dF f) = false := rfl
theorem pl_at {x : W} (ok : WOk x) {p : Nat} (hp : p ∈ x.1) : ∃ k : Nat, k < x.1.length ∧ x.1[k]? = some p ∧ Txt.index0 (st x.1) (sg p) = some k := by
  obtain ⟨n, h1, h2, e⟩ := ok.pl
  rw [e] at hp ⊢
  unfold letters at hp
  obtain ⟨k, hk, rfl⟩ := List.mem_map.mp hp
  have hk := List.mem_range.mp hk
  refine ⟨k, by unfold letters; rw [List.length_map, List.length_range]; exact hk, ?_, index_pl h2 hk⟩
  unfold letters
  rw [List.getElem?_map, List.getElem?_range hk]
  rfl
theorem ev_plIx {C : Cn} {K : PySem.W.Frag} {G : En} {tw te : TE} {x : W} {p k : Nat} (hk : Txt.index0 (st x.1) (sg p) = some k) (h1 : EvD C tw G (.s (st x.1))) (h2 : EvD C te G (.s (sg p))) :
    EvD C (tBM K "str" (fun x xs H Q => ∃ (a b : PySem.Str) (k : Nat), x = .str a ∧ xs = [.str b] ∧ Txt.index0 a b = some k ∧ Q (.int (k : Nat)) H) tw (tCons te tNil)) G (.i (k : Nat)) :=
  ev_bmS h1 h2 fun H Q q => ⟨_, _, k, rfl, rfl, hk, q⟩
theorem hgt_none {x : W} (ok : WOk x) {z p : Nat} {h : List Nat} {hs : List Fr} (H : HsOk x z p h hs) (c : Nat) : isNone (hgt z h hs c) = !decide (c ∈ h) := by
  have hl : ((namesOf h z ++ [z]).map sg).length = (hs.map dF ++ [dF (0, 1)]).length := by
    rw [List.length_map, List.length_append, List.length_append, List.length_map, H.len]
    rfl
  have e := dget_some (x := sg c) hl
  have m : decide (sg c ∈ (namesOf h z ++ [z]).map sg) = decide (c ∈ h) := by
    rw [sg_mem]
    congr 1
    rw [List.mem_append, List.mem_singleton, names_mem]
    refine propext ⟨fun q => ?_, fun q => ?_⟩
    · rcases q with q | q
      · exact q.1
      · rw [q]
        exact H.hz
    · by_cases y : c = z
      · exact .inr y
      · exact .inl ⟨q, y⟩
  rw [m] at e
  have key : ∀ (ks : List PySem.Str) (fs : List Fr) (s : PySem.Str), isNone ((dgetD ks (fs.map dF) s).getD D.n) = !(dgetD ks (fs.map dF) s).isSome := by
    intro ks
    induction ks with
    | nil => intro fs s; cases fs <;> rfl
    | cons k ks ih =>
      intro fs s
      cases fs with
      | nil => rfl
      | cons f fs =>
        rw [List.map_cons, dgetD]
        split
        · rfl
        · exact ih fs s
  have e2 : hs.map dF ++ [dF (0, 1)] = (hs ++ [(0, 1)]).map dF := by rw [List.map_append]; rfl
  unfold hgt
  rw [e2, key, ← e2, e]
theorem hgt_at {x : W} (ok : WOk x) {z p : Nat} {h : List Nat} {hs : List Fr} (H : HsOk x z p h hs) {c i : Nat} {f : Fr} (hc : (namesOf h z)[i]? = some c) (hf : hs[i]? = some f) : hgt z h hs c = dF f := by
  have nd := (herd_nodup ok H.mem).1
  have nn : (namesOf h z).Nodup := nd.filter _
  have nn2 : (namesOf h z ++ [z]).Nodup := List.nodup_append.mpr ⟨nn, List.nodup_cons.mpr ⟨List.not_mem_nil, List.nodup_nil⟩, fun a ha b hb e => (names_mem.mp ha).2 (by rw [e, List.mem_singleton.mp hb])⟩
  have hi := (List.getElem?_eq_some_iff.mp hc).1
  have hj := (List.getElem?_eq_some_iff.mp hf).1
  unfold hgt
  rw [dget_at (j := i) (c := c) (d := dF f) nn2 (by rw [List.getElem?_append_left hi, hc]) (by rw [List.getElem?_append_left (by rw [List.length_map]; exact hj), List.getElem?_map, hf]; rfl)]
  rfl
def hg0 (z : Nat) (h : List Nat) (hs : List Fr) (c : Nat) : D := if isNone (hgt z h hs c) = true then dF (0, 1) else hgt z h hs c
abbrev N_pull_heights : List PySem.Str := ["web", "place", "goal", "found", "height"]
theorem sc_pull_heights : FnScope N_pull_heights ["web", "place", "goal"] (defScope s_pull_heights) := ⟨rfl, rfl, rfl, by decide +kernel, rfl, by decide +kernel, by decide +kernel⟩
def sp_pull_heights (C : Cn) : Sp := spT C (fun y : PairX => [dW y.x, .s (sg y.b), .s (sg y.g)]) PairOk (fun y d => ∃ h hs, HsOk y.x y.g y.b h hs ∧ d = if y.b ∈ h then .tup (y.x.1.map (hg0 y.g h hs)) else .n)
theorem has_pull_heights {P : Program} {w : World} {K : PySem.W.Frag} {mg : PySem.Str → Option Value} {base : Heap} {C : Cn} (T : Tx K mg C.cls) : Has P w K mg base 7 "pull_heights" ["web", "place", "goal"] (sp_pull_heights C) := by
  refine fn_has T 70 (d := d_pull_heights) rfl rfl (N := N_pull_heights) sc_pull_heights rfl rfl (fun _ _ _ _ _ _ us hl => match us, hl with | [_, _, _], _ => rfl) (fun _ => rfl) (fun cdv A' outer s H E hr => ⟨_, (pss_cons (ps_set (i := 3) sc_pull_heights.nd rfl (.inl rfl) (pe_has (has_heights_solved T) (hr.mono (by decide)) (by rfl) (pa_cons (pv 0) (pa_cons (pv 2) (pa_cons (pe_disp (pps_cons (pv 1) pe_int pps_nil) (by rfl) (by rfl) (fun z => by cases z) (by decide)) pa_nil)))))
      (pss_cons (ps_if (pt_cmpR op_isN (pe_ix (k_ix_tup (K := K) rfl) (pv 3) (k_pe_bm (K := K) rfl PySem.F.plainAttrs_str PySem.F.slot_str_index PySem.F.type_str_index mt_sindex (k_pe_fld (K := K) rfl (pv 0) rfl) (pa_cons (pv 1) pa_nil)) (fun _ _ => rfl)) pe_non (nomark _)) (pss_one (ps_ret pe_non)) pss_nil)
      (pss_one (ps_ret (pe_callTy (k_call_tup (K := K) rfl) (by rfl) T.xtuple bt_tuple (pa_cons (pe_lc (own := [("height", 4)]) (g := gName 4) (tt := tYes) rfl sc_pull_heights.nd (k_pi_tup (K := K) rfl (pv 3)) (blkOk_by (own := [("height", 4)]) (N := N_pull_heights) (sc := defScope s_pull_heights) (by decide +kernel)) (fun _ _ _ _ _ => (pg_name (i := 4) sc_pull_heights.nd rfl (.inl rfl))) (fun _ _ _ _ _ => pts_nil) (fun _ _ _ _ _ => (pe_ifExp (pt_cmpR op_isN (pv 4) pe_non (nomark _)) (pe_tup (pa_cons pe_int (pa_cons pe_int pa_nil))) (pv 4)))) pa_nil)))))), fun x hx => ?_⟩)
  obtain ⟨x, p, z⟩ := x
  obtain ⟨ok, hp, hz, hpz⟩ := hx
  simp only at ok hp hz hpz
  have len := ok.len
  obtain ⟨k, hk, hk2, hk3⟩ := pl_at ok hp
  show SD C _ ⟨[], [.im (dW x), .im (.s (sg p)), .im (.s (sg z)), .no, .no]⟩ _ _
  refine sq_asgR (P := fun d => ∃ h hs, HsOk x z p h hs ∧ d = .tup (x.1.map (hgt z h hs))) (ev_callD (⟨x, z, p⟩ : HsX) (ea3 (ev_v rfl) (ev_v rfl) (ev_disp1 (ev_v rfl) ev_c)) ⟨ok, hz, hp⟩ fun _ h => h) ?_
  rintro d ⟨h, hs, H, rfl⟩
  refine sq_ifr (b := isNone (hgt z h hs p)) (et_test (ev_opD (ev_opD (ev_v rfl) (ev_plIx hk3 (evw_places T.cl T.nP (ev_v rfl)) (ev_v rfl)) (rr_ixT (d := hgt z h hs p) (atI_n (by rw [List.getElem?_map, hk2]; rfl)) rfl)) ev_c rr_isN)) (fun e => ?_) fun e => ?_
  · rw [hgt_none ok H] at e
    refine sd_ret (d := .n) ev_c ⟨h, hs, H, ?_⟩
    rw [if_neg]
    intro q
    rw [decide_eq_true q] at e
    cases e
  · rw [hgt_none ok H] at e
    have q : p ∈ h := Decidable.byContradiction fun q => by
      rw [decide_eq_false q] at e
      cases e
    refine sd_ret (d := .tup (x.1.map (hg0 z h hs))) (ev_cbD (ea1 (((ev_map (C := C) (js := [4]) x.1 (hgt z h hs) (hg0 z h hs) (fun c l => l.set 4 (.im (hgt z h hs c))) (ei_tup (ev_v rfl)) (fun _ _ => eg_name) (by omega) fun c hc => ?_).dat))) cr_tup) ⟨h, hs, H, by rw [if_pos q]⟩
    refine ev_if (b := isNone (hgt z h hs c)) (et_test (ev_opD (ev_v rfl) ev_c rr_isN)) (fun e => ?_) (fun e => ?_)
    · unfold hg0
      rw [if_pos e]
      exact ev_tupD (ea2 ev_c ev_c)
    · unfold hg0
      rw [if_neg (by rw [e]; decide)]
      exact ev_v rfl
def PullV (y : PairX) (d : D) : Prop := (cutOf y.x y.b y.g = 0 ∧ d = .n) ∨ (cutOf y.x y.b y.g ≠ 0 ∧ ∃ f : Fr, d = dF f ∧ FOk 4000 f ∧ f.2 ≤ f.1 * (cutOf y.x y.b y.g : Int))
abbrev N_pull_of : List PySem.Str := ["web", "place", "goal", "heights"]
theorem sc_pull_of : FnScope N_pull_of ["web", "place", "goal"] (defScope s_pull_of) := ⟨rfl, rfl, rfl, by decide +kernel, rfl, by decide +kernel, by decide +kernel⟩
def sp_pull_of (C : Cn) : Sp := spT C (fun y : PairX => [dW y.x, .s (sg y.b), .s (sg y.g)]) PairOk PullV
theorem has_pull_of {P : Program} {w : World} {K : PySem.W.Frag} {mg : PySem.Str → Option Value} {base : Heap} {C : Cn} (T : Tx K mg C.cls) : Has P w K mg base 8 "pull_of" ["web", "place", "goal"] (sp_pull_of C) := by
  refine fn_has T 71 (d := d_pull_of) rfl rfl (N := N_pull_of) sc_pull_of rfl rfl (fun _ _ _ _ _ _ us hl => match us, hl with | [_, _, _], _ => rfl) (fun _ => rfl) (fun cdv A' outer s H E hr => ⟨_, (pss_cons (ps_set (i := 3) sc_pull_of.nd rfl (.inl rfl) (pe_has (has_pull_heights T) (hr.mono (by decide)) (by rfl) (pa_cons (pv 0) (pa_cons (pv 1) (pa_cons (pv 2) pa_nil)))))
      (pss_one (ps_ret (pe_ifExp (pt_cmpR op_isN (pv 3) pe_non (nomark _)) pe_non (pe_ix (k_ix_tup (K := K) rfl) (pv 3) (k_pe_bm (K := K) rfl PySem.F.plainAttrs_str PySem.F.slot_str_index PySem.F.type_str_index mt_sindex (k_pe_fld (K := K) rfl (pv 0) rfl) (pa_cons (pv 1) pa_nil)) (fun _ _ => rfl)))))), fun x hx => ?_⟩)
  obtain ⟨x, p, z⟩ := x
  obtain ⟨ok, hp, hz, hpz⟩ := hx
  simp only at ok hp hz hpz
  have len := ok.len
  obtain ⟨k, hk, hk2, hk3⟩ := pl_at ok hp
  show SD C _ ⟨[], [.im (dW x), .im (.s (sg p)), .im (.s (sg z)), .no]⟩ _ _
  refine sq_asgR (P := fun d => ∃ h hs, HsOk x z p h hs ∧ d = if p ∈ h then .tup (x.1.map (hg0 z h hs)) else .n) (ev_callD (⟨x, p, z⟩ : PairX) (ea3 (ev_v rfl) (ev_v rfl) (ev_v rfl)) ⟨ok, hp, hz, hpz⟩ fun _ h => h) ?_
  rintro d ⟨h, hs, H, rfl⟩
  by_cases q : p ∈ h
  · rw [if_pos q]
    obtain ⟨i, f, h1, h2, h3, h4⟩ := pull_ge ok H q hpz
    have e := hgt_at ok H h1 h2
    have e2 : hg0 z h hs p = dF f := by
      unfold hg0
      rw [e]
      rfl
    exact sd_retR (P := (· = dF f)) (ev_if (b := false) (et_test (ev_opD (ev_v rfl) ev_c (rr_isN (d := .tup (x.1.map (hg0 z h hs)))))) (fun e => by cases e) fun _ => ev_opD (ev_v rfl) (ev_plIx hk3 (evw_places T.cl T.nP (ev_v rfl)) (ev_v rfl)) (rr_ixT (d := dF f) (atI_n (by rw [List.getElem?_map, hk2, ← e2]; rfl)) rfl)) fun d hd => .inr ⟨cut_near ok H.mem H.hz q hpz, f, hd, H.ok f (List.mem_of_getElem? h2), h4⟩
  · rw [if_neg q]
    exact sd_retR (P := (· = D.n)) (ev_if (b := true) (et_test (ev_opD (ev_v rfl) ev_c (rr_isN (d := .n)))) (fun _ => ev_c) fun e => by cases e) fun d hd => .inl ⟨cut_far ok H.mem H.hz hp q, hd⟩
abbrev N_check_two : List PySem.Str := ["web", "place", "other_place"]
theorem sc_check_two : FnScope N_check_two ["web", "place", "other_place"] (defScope s_check_two) := ⟨rfl, rfl, rfl, by decide +kernel, rfl, by decide +kernel, by decide +kernel⟩
def sp_check_two (C : Cn) : Sp := spT C (fun y : PairX => [dW y.x, .s (sg y.b), .s (sg y.g)]) PairOk (fun y d => d = .n)
theorem has_check_two {P : Program} {w : World} {K : PySem.W.Frag} {mg : PySem.Str → Option Value} {base : Heap} {C : Cn} (T : Tx K mg C.cls) : Has P w K mg base 5 "check_two" ["web", "place", "other_place"] (sp_check_two C) := by
  refine fn_has T 72 (d := d_check_two) rfl rfl (N := N_check_two) sc_check_two rfl rfl (fun _ _ _ _ _ _ us hl => match us, hl with | [_, _, _], _ => rfl) (fun _ => rfl) (fun cdv A' outer s H E hr => ⟨_, (pss_cons (ps_expr (pe_has (has_check_web T) (hr.mono (by decide)) (by rfl) (pa_cons (pv 0) pa_nil)))
      (pss_cons (ps_expr (pe_has (has_check_place T) (hr.mono (by decide)) (by rfl) (pa_cons (pv 0) (pa_cons (pv 1) pa_nil))))
      (pss_one (ps_expr (pe_has (has_check_place T) (hr.mono (by decide)) (by rfl) (pa_cons (pv 0) (pa_cons (pv 2) pa_nil))))))), fun x hx => ?_⟩)
  obtain ⟨x, b, g⟩ := x
  obtain ⟨ok, hb, hg, hbg⟩ := hx
  simp only at ok hb hg hbg
  show SD C _ ⟨[], [.im (dW x), .im (.s (sg b)), .im (.s (sg g))]⟩ _ _
  refine sq_drop (P := fun _ => True) (ev_callD (st x.1, x.2.map tS) (ea1 (ev_v rfl)) trivial fun _ _ => trivial) ?_
  refine sq_drop (P := fun _ => True) (ev_callD ((st x.1, x.2.map tS), b) (ea2 (ev_v rfl) (ev_v rfl)) (mem_pl hb) fun _ _ => trivial) ?_
  exact sd_drop (P := fun _ => True) (ev_callD ((st x.1, x.2.map tS), g) (ea2 (ev_v rfl) (ev_v rfl)) (mem_pl hg) fun _ _ => trivial) rfl
abbrev N_pull : List PySem.Str := ["web", "place", "other_place"]
theorem sc_pull : FnScope N_pull ["web", "place", "other_place"] (defScope s_pull) := ⟨rfl, rfl, rfl, by decide +kernel, rfl, by decide +kernel, by decide +kernel⟩
def sp_pull (C : Cn) : Sp := spT C (fun y : PairX => [dW y.x, .s (sg y.b), .s (sg y.g)]) PairOk PullV
theorem has_pull {P : Program} {w : World} {K : PySem.W.Frag} {mg : PySem.Str → Option Value} {base : Heap} {C : Cn} (T : Tx K mg C.cls) : Has P w K mg base 9 "pull" ["web", "place", "other_place"] (sp_pull C) := by
  refine fn_has T 73 (d := d_pull) rfl rfl (N := N_pull) sc_pull rfl rfl (fun _ _ _ _ _ _ us hl => match us, hl with | [_, _, _], _ => rfl) (fun _ => rfl) (fun cdv A' outer s H E hr => ⟨_, (pss_cons (ps_expr (pe_has (has_check_two T) (hr.mono (by decide)) (by rfl) (pa_cons (pv 0) (pa_cons (pv 1) (pa_cons (pv 2) pa_nil)))))
      (pss_one (ps_ret (pe_has (has_pull_of T) (hr.mono (by decide)) (by rfl) (pa_cons (pv 0) (pa_cons (pv 1) (pa_cons (pv 2) pa_nil))))))), fun x hx => ?_⟩)
  obtain ⟨x, b, g⟩ := x
  show SD C _ ⟨[], [.im (dW x), .im (.s (sg b)), .im (.s (sg g))]⟩ _ _
  refine sq_drop (P := fun _ => True) (ev_callD (⟨x, b, g⟩ : PairX) (ea3 (ev_v rfl) (ev_v rfl) (ev_v rfl)) hx fun _ _ => trivial) ?_
  exact sd_retR (P := PullV ⟨x, b, g⟩) (ev_callD (⟨x, b, g⟩ : PairX) (ea3 (ev_v rfl) (ev_v rfl) (ev_v rfl)) hx fun _ h => h) fun _ h => h
end Wr
set_option maxHeartbeats 4000000
namespace Wr
open PySem L2
/-! ### the law's one web -/
def EvTR (C : Cn) (tt : TT) (G : En) (P : Bool → Prop) : Prop := ∀ (O : List Addr) (H : Hp) (σ : L2.St), GamE C O H G σ → ∀ Q : Bool → Hp → Prop, (∀ b H', P b → Same H H' → Q b H') → tt σ H Q
theorem et_testR {C : Cn} {G : En} {te : TE} {R : D → Prop} {P : Bool → Prop} (h : EvR C te G R) (i : ∀ d, R d → ∃ b, d = .b b ∧ P b) : EvTR C (tTest te) G P := fun O H σ g Q q => h O H σ g _ fun d v H1 hd e1 hv => by
  obtain ⟨b, rfl, hb⟩ := i d hd
  exact ⟨b, rep_v.mp hv, q b H1 hb e1⟩
theorem et_andP {C : Cn} {G : En} {tt tu : TT} {P : Bool → Prop} {b c : Bool} (h1 : EvTR C tt G P) (h2 : EvT C tu G b) (h : ∀ a, P a → (a && b) = c) : EvT C (tAnd tt tu) G c := fun O H σ g Q q => h1 O H σ g _ fun a H1 ha e1 => by
  have hc := h a ha
  cases a with
  | true =>
    show tu σ H1 Q
    exact h2 O H1 σ (g.mono e1) Q fun H2 e2 => by
      rw [show b = c from hc]
      exact q H2 (e1.trans e2)
  | false =>
    show Q false H1
    rw [show (false : Bool) = c from hc]
    exact q H1 e1
theorem sd_parR {C : Cn} {G : En} {N : En → Prop} {R : D → En → Prop} {ta : TA} {i j : Nat} {RA : List D → Prop} (h : EvA C ta G RA) (k : ∀ ds, RA ds → ∃ d e, ds = [d, e] ∧ N ((G.set i (.im d)).set j (.im e))) : SD C (tPar i j ta) G N R := fun H0 O0 H σ E g n r =>
  h _ H σ g.e _ fun ds vs H' hd e1 hv => by
    obtain ⟨d, e, rfl, hN⟩ := k ds hd
    obtain ⟨v, t, rfl, k1, k2⟩ := repL_cons.mp hv
    obtain ⟨v', t', rfl, k3, k4⟩ := repL_cons.mp k2
    rw [repL_nil.mp k4]
    exact ⟨v, v', rfl, n _ _ H' hN (((g.mono e1).set (sv_im k1)).set (sv_im k3)) (hide_mono e1)⟩
theorem sq_parR {C : Cn} {G : En} {N : En → Prop} {R : D → En → Prop} {u : TS} {ta : TE} {tb : TE} {i j : Nat} {P1 P2 : D → Prop} (h1 : EvR C ta G P1) (h2 : EvR C tb G P2) (k : ∀ d e, P1 d → P2 e → SD C u ((G.set i (.im d)).set j (.im e)) N R) : SD C (tSeq (tPar i j (tCons ta (tCons tb tNil))) u) G N R :=
  sd_seq (M := fun G' => ∃ d e, P1 d ∧ P2 e ∧ G' = (G.set i (.im d)).set j (.im e)) (sd_parR (ea_cons h1 (ea_cons h2 ea_nil)) fun ds ⟨d, r1, e1, p1, e, r2, e2, p2, e3⟩ => ⟨d, e, by rw [e1, e2, e3], d, e, p1, p2, rfl⟩) fun G' ⟨d, e, p1, p2, hG⟩ => hG ▸ k d e p1 p2
theorem rr_neSameI {C : Cn} {a : Int} : RR C rNe (.i a) (.i a) (· = .b false) := (rr_neI (C := C) (a := a) (b := a)).imp fun d h => by rw [h, decide_eq_true rfl]; rfl
theorem rr_neSameN {C : Cn} : RR C rNe D.n D.n (· = .b false) := rr_v fun H Q q => ⟨rfl, by
  have e : (!decide (V.non = V.non)) = false := by decide
  rw [e]
  exact q⟩
theorem ev_minI {C : Cn} {G : En} {ta tb : TE} {a b : Int} (h1 : EvD C ta G (.i a)) (h2 : EvD C tb G (.i b)) : EvD C (tCB (fun xs H Q => ∃ i j : Int, xs = [.int i, .int j] ∧ Q (.int (if j < i then j else i)) H) (tCons ta (tCons tb tNil))) G (.i (min a b)) :=
  ev_cbD (ea2 h1 h2) (cr2 fun H Q q => ⟨_, _, rfl, by
    have : (if b < a then b else a) = min a b := by omega
    rw [this]
    exact q⟩)
noncomputable def lstD (x : W) (i : Nat) : D := if (joinL x).take i = [] then .n else .i (leastI ((joinL x).take i))
def lrG (l : Addr) (ns : List Int) (y : W) (v5 v6 v7 v8 v9 v10 v11 : SV) : En := bagG l ns [.ptr l, .im (dPts y), .im (dW y), .im (.s (st y.1)), .im (.tup (dN (whole y))), v5, v6, v7, v8, v9, v10, v11, .no, .no, .no]
structure RtX where
  ns : List Int
theorem lh_len (a o : Nat) {l : List Nat} (h : l.length ≤ 5) : (lhF a o l).length ≤ 32 := Nat.le_trans (lhF_len a o l) (Nat.le_trans (Nat.pow_le_pow_right (by decide : 0 < 2) h) (by decide))
theorem cut_le {x : W} (ok : WOk x) {b g : Nat} (h : b ≠ g) : cutOf x b g ≤ 7 := by
  obtain ⟨⟨S, _, _, e⟩, _⟩ := cut_is x h
  rw [← e]
  have := List.length_filter_le (fun i => crosses S (tieAt x i)) (List.range x.2.length)
  rw [List.length_range] at this
  exact Nat.le_trans this ok.nt
theorem goodK_lt {x : W} (ok : WOk x) : (match goodK x with | [] => false | i :: _ => decide (1 + (i : Int) < 3)) = true ↔ Two x := by
  have d1 := dyes1 ok
  have d2 := dyes2 ok
  have p2 := cntP_pos x
  have len := ok.len
  have g0 : 0 ∈ goodK x ↔ x.2 = [] := by
    unfold goodK
    rw [List.mem_filter, List.mem_range, decide_eq_true_iff]
    show _ ∧ 0 < sumAt (cntsW x) (1 + ((0 : Nat) : Int)) ↔ _
    rw [show (1 + ((0 : Nat) : Int)) = 1 by omega, d1]
    by_cases h : x.2 = []
    · rw [if_pos h]
      exact ⟨fun _ => h, fun _ => ⟨by omega, by decide⟩⟩
    · rw [if_neg h]
      exact ⟨fun z => absurd z.2 (by decide), fun z => absurd z h⟩
  have g1 : 1 ∈ goodK x ↔ 1 < x.1.length ∧ Two x := by
    unfold goodK
    rw [List.mem_filter, List.mem_range, decide_eq_true_iff, ← p2, ← d2]
    exact Iff.rfl
  have srt : (goodK x).Pairwise (· < ·) := List.pairwise_lt_range.filter _
  have hlt : ∀ i ∈ goodK x, i < x.1.length := fun i hi => List.mem_range.mp (List.mem_filter.mp hi).1
  have e0 : x.2 = [] → Two x := fun h => ⟨[], (herdsA_mem ok.nodup).mpr ⟨fun _ => false, by simp⟩, fun i hi => by rw [h] at hi; exact absurd hi (Nat.not_lt_zero i)⟩
  have e1 : Two x → x.1.length = 1 → x.2 = [] := fun h hl => by
    refine List.eq_nil_iff_length_eq_zero.mpr (Nat.eq_zero_of_not_pos fun hp => ?_)
    obtain ⟨a, ha⟩ := List.length_eq_one_iff.mp hl
    have ht := ok.ts _ (tieAt_memB hp)
    rw [ha] at ht
    exact two_loop h hp ((List.mem_singleton.mp ht.1).trans (List.mem_singleton.mp ht.2.1).symm)
  cases hg : goodK x with
  | nil =>
    refine ⟨fun z => (by cases z), fun h => ?_⟩
    exfalso
    by_cases hl : x.1.length = 1
    · have := g0.mpr (e1 h hl)
      rw [hg] at this
      cases this
    · have := g1.mpr ⟨by omega, h⟩
      rw [hg] at this
      cases this
  | cons i l =>
    show decide (1 + (i : Int) < 3) = true ↔ _
    have hi : i ∈ goodK x := by
      rw [hg]
      exact List.mem_cons_self ..
    by_cases h : i < 2
    · rw [decide_eq_true (show 1 + (i : Int) < 3 by omega)]
      refine ⟨fun _ => ?_, fun _ => rfl⟩
      rcases (show i = 0 ∨ i = 1 by omega) with z | z
      · rw [z] at hi
        exact e0 (g0.mp hi)
      · rw [z] at hi
        exact (g1.mp hi).2
    · rw [decide_eq_false (show ¬ 1 + (i : Int) < 3 by omega)]
      refine ⟨fun z => (by cases z), fun t => ?_⟩
      exfalso
      have big : ∀ j ∈ goodK x, i ≤ j := fun j hj => by
        rw [hg] at hj srt
        rcases List.mem_cons.mp hj with z | z
        · omega
        · have := (List.pairwise_cons.mp srt).1 j z
          omega
      have := big 1 (g1.mpr ⟨by have := hlt i hi; omega, t⟩)
      omega
end Wr
set_option maxHeartbeats 8000000
namespace Wr
open PySem L2
abbrev N_law_right : List PySem.Str := ["_law_bag_here", "_law_parts", "_law_mine", "_law_places", "_law_whole", "_law_least", "_law_other", "_law_one_here", "_law_widths", "_law_herd", "_law_ways", "_law_found", "_law_due", "_law_total", "_law_ring"]
theorem sc_law_right : FnScope N_law_right ["_law_bag_here"] (defScope s_law_right) := ⟨rfl, rfl, rfl, by decide +kernel, rfl, by decide +kernel, by decide +kernel⟩
def sp_law_right (C : Cn) : Sp := spM C (fun (x : RtX) l => [.ptr l]) (fun x => x.ns) (fun x => BagOk 0 x.ns) (fun x d ns => d = .b true)
def RtPost (l : Addr) (d : D) (G' : En) : Prop := ∃ ns, d = .b true ∧ G'.at l (.lst ((dI ns).map .im))
theorem lstD_succ {x : W} {i c : Nat} (hi : x.1.tail[i]? = some c) : (joinL x).take (i + 1) = (joinL x).take i ++ [(cutOf x (fstP x) c : Int)] := by
  have : (joinL x)[i]? = some (cutOf x (fstP x) c : Int) := by
    unfold joinL
    rw [List.getElem?_map, hi]
    rfl
  rw [List.take_add_one, this]
  rfl
theorem has_law_right {P : Program} {w : World} {K : PySem.W.Frag} {mg : PySem.Str → Option Value} {base : Heap} {C : Cn} (T : Tx K mg C.cls) (TB : TabC K mg base C) : Has P w K mg base 10 "_law_right" ["_law_bag_here"] (sp_law_right C) := by
  refine fn_hasS T 81 (d := d_law_right) rfl rfl (N := N_law_right) sc_law_right rfl rfl (fun _ _ _ _ _ _ us hl => match us, hl with | [_], _ => rfl) (spM_len fun _ _ => rfl) (fun cdv A' outer s H E hr => ⟨_, (pss_cons (ps_set (i := 1) sc_law_right.nd rfl (.inl rfl) (pe_has (has_law_web T) (hr.mono (by decide)) (by rfl) (pa_cons (pv 0) (pa_cons pe_int (pa_cons pe_int (pa_cons pe_bl pa_nil))))))
      (pss_cons (ps_asg (pe_tup (pa_cons (pe_has (has_law_made T) (hr.mono (by decide)) (by rfl) (pa_cons (pv 1) pa_nil)) (pa_cons (pe_ix (k_ix_list (K := K) rfl) (pv 1) pe_int (fun _ _ => rfl)) pa_nil))) (pg_tup rfl (pgs_cons (pg_name (i := 2) sc_law_right.nd rfl (.inr rfl)) (pgs_cons (pg_name (i := 3) sc_law_right.nd rfl (.inl rfl)) pgs_nil))))
      (pss_cons (ps_par (i := 4) (j := 5) rfl sc_law_right.nd rfl rfl (by decide) rfl rfl (pa_cons (pe_tupRg rfl (by rfl) T.xtuple (prg_1 (by rfl) T.xrange (pe_callB (k_call_lenW (has_Web_len T) T.ml (hr.mono (by decide))) (by rfl) T.xlen bt_len (pa_cons (pv 2) pa_nil)))) (pa_cons pe_non pa_nil)) (by rfl))
      (pss_cons (ps_for PassesOwn.never rfl (pi_str (pe_slice sl_str (pv 3) (po_some pe_int) po_none)) (pg_name (i := 6) sc_law_right.nd rfl (.inl rfl)) (pss_cons (ps_set (i := 7) sc_law_right.nd rfl (.inl rfl) (pe_ix ix_str (pv 3) pe_int (fun _ _ => rfl)))
      (pss_cons (ps_setLc (i := 8) (own := [("_law_herd", 9)]) (g := gName 9) (tt := tYes) rfl sc_law_right.nd rfl rfl (sw_true rfl rfl rfl (by decide +kernel)) (k_pi_list (K := K) rfl (pe_has (has_law_herds T) (hr.mono (by decide)) (by rfl) (pa_cons (pv 3) (pa_cons (pv 7) (pa_cons (pv 6) pa_nil))))) (blkOk_by (own := [("_law_herd", 9)]) (N := N_law_right) (sc := defScope s_law_right) (by decide +kernel)) (fun _ _ _ _ _ => (pg_name (i := 9) sc_law_right.nd rfl (.inl rfl))) (fun _ _ _ _ _ => pts_nil) (fun _ _ _ _ _ => (pe_has (has_law_width T) (hr.mono (by decide)) (by rfl) (pa_cons (pv 2) (pa_cons (pv 9) pa_nil)))))
      (pss_cons (ps_if (PW.pt (pw_or (pt_cmpR op_ne (pe_has (has_count_apart T) (hr.mono (by decide)) (by rfl) (pa_cons (pv 2) (pa_cons (pv 7) (pa_cons (pv 6) pa_nil)))) (pe_callB (k_cr_min (K := K) rfl rfl) (by rfl) T.xmin bt_min (pa_cons (pv 8) pa_nil)) (nomark _)) (pw_or1 (pt_cmpR op_ne (pe_has (has_amount T TB) (hr.mono (by decide)) (by rfl) (pa_cons (pv 2) (pa_cons (pe_op (op_rep1 (K := K) rfl) (pe_tup (pa_cons pe_int pa_nil)) (pe_callB (k_call_lenW (has_Web_len T) T.ml (hr.mono (by decide))) (by rfl) T.xlen bt_len (pa_cons (pv 2) pa_nil))) (pa_cons (pv 7) (pa_cons (pv 6) pa_nil))))) (pe_callB (k_cr_min (K := K) rfl rfl) (by rfl) T.xmin bt_min (pa_cons (pv 8) pa_nil)) (nomark _))))) (pss_one (ps_ret pe_bl)) pss_nil)
      (pss_cons (ps_par (i := 9) (j := 10) rfl sc_law_right.nd rfl rfl (by decide) rfl rfl (pa_cons (pe_has (has_narrowest T TB) (hr.mono (by decide)) (by rfl) (pa_cons (pv 2) (pa_cons (pe_op (op_rep1 (K := K) rfl) (pe_tup (pa_cons pe_int pa_nil)) (pe_callB (k_call_lenW (has_Web_len T) T.ml (hr.mono (by decide))) (by rfl) T.xlen bt_len (pa_cons (pv 2) pa_nil))) (pa_cons (pv 7) (pa_cons (pv 6) pa_nil))))) (pa_cons (pe_has (has_apart T) (hr.mono (by decide)) (by rfl) (pa_cons (pv 2) (pa_cons (pv 7) (pa_cons (pv 6) pa_nil)))) pa_nil)) (by rfl))
      (pss_cons (ps_if (PW.pt (pw_or (pt_cmpR (k_op_notIn_seq (K := K) rfl) (pv 9) (pe_has (has_law_herds T) (hr.mono (by decide)) (by rfl) (pa_cons (pv 3) (pa_cons (pv 7) (pa_cons (pv 6) pa_nil)))) (by rfl)) (pw_or1 (pt_cmpR op_ne (pe_has (has_law_width T) (hr.mono (by decide)) (by rfl) (pa_cons (pv 2) (pa_cons (pv 9) pa_nil))) (pe_callB (k_cr_min (K := K) rfl rfl) (by rfl) T.xmin bt_min (pa_cons (pv 8) pa_nil)) (nomark _))))) (pss_one (ps_ret pe_bl)) pss_nil)
      (pss_cons (ps_if (pt_cmpR op_ne (pe_callB (k_call_len (K := K) rfl) (by rfl) T.xlen bt_len (pa_cons (pv 10) pa_nil)) (pe_callB (k_cr_min (K := K) rfl rfl) (by rfl) T.xmin bt_min (pa_cons (pv 8) pa_nil)) (nomark _)) (pss_one (ps_ret pe_bl)) pss_nil)
      (pss_cons (ps_set (i := 11) sc_law_right.nd rfl (.inl rfl) (pe_has (has_pull T) (hr.mono (by decide)) (by rfl) (pa_cons (pv 2) (pa_cons (pv 7) (pa_cons (pv 6) pa_nil)))))
      (pss_cons (ps_if (PW.pt (pw_or (pt_cmpR op_ne (pe_cmpR op_isN (pv 11) pe_non (nomark _)) (pe_cmpR op_eq (pe_callB (k_cr_min (K := K) rfl rfl) (by rfl) T.xmin bt_min (pa_cons (pv 8) pa_nil)) pe_int (nomark _)) (nomark _)) (pw_or1 (PW.pt (pw_and (pt_cmpR op_notN (pv 11) pe_non (nomark _)) (pw_and1 (pt_cmpR op_lt (pe_op op_mulW (pe_ix (k_ix_tup (K := K) rfl) (pv 11) pe_int (fun _ _ => rfl)) (pe_callB (k_cr_min (K := K) rfl rfl) (by rfl) T.xmin bt_min (pa_cons (pv 8) pa_nil))) (pe_ix (k_ix_tup (K := K) rfl) (pv 11) pe_int (fun _ _ => rfl)) (nomark _)))))))) (pss_one (ps_ret pe_bl)) pss_nil)
      (pss_one (ps_set (i := 5) sc_law_right.nd rfl (.inl rfl) (pe_ifExp (pt_cmpR op_isN (pv 5) pe_non (nomark _)) (pe_callB (k_cr_min (K := K) rfl rfl) (by rfl) T.xmin bt_min (pa_cons (pv 8) pa_nil)) (pe_callB (call_min2 rfl) (by rfl) T.xmin bt_min (pa_cons (pv 5) (pa_cons (pe_callB (k_cr_min (K := K) rfl rfl) (by rfl) T.xmin bt_min (pa_cons (pv 8) pa_nil)) pa_nil)))))))))))))))
      (pss_cons (ps_if (pt_cmpR op_ne (pe_has (has_joined_by T) (hr.mono (by decide)) (by rfl) (pa_cons (pv 2) pa_nil)) (pv 5) (nomark _)) (pss_one (ps_ret pe_bl)) pss_nil)
      (pss_cons (ps_for PassesOwn.never rfl (k_pi_tup (K := K) rfl (pe_has (has_least_herds T) (hr.mono (by decide)) (by rfl) (pa_cons (pv 2) pa_nil))) (pg_name (i := 9) sc_law_right.nd rfl (.inl rfl)) (pss_one (ps_if (PW.pt (pw_or (pt_cmpR op_ne (pe_ix ix_str (pv 9) pe_int (fun _ _ => rfl)) (pe_ix ix_str (pv 3) pe_int (fun _ _ => rfl)) (nomark _)) (pw_or (pt_cmpR op_eq (pv 9) (pv 3) (nomark _)) (pw_or1 (pt_cmpR op_ne (pe_has (has_law_width T) (hr.mono (by decide)) (by rfl) (pa_cons (pv 2) (pa_cons (pv 9) pa_nil))) (pv 5) (nomark _)))))) (pss_one (ps_ret pe_bl)) pss_nil)))
      (pss_cons (ps_set (i := 12) sc_law_right.nd rfl (.inl rfl) (pe_has (has_is_two_sided T) (hr.mono (by decide)) (by rfl) (pa_cons (pv 2) (pa_cons (pv 4) pa_nil))))
      (pss_cons (ps_if (PW.pt (pw_or (pt_cmpR op_ne (pe_cmpR op_gt (pe_has (has_count_dyes T) (hr.mono (by decide)) (by rfl) (pa_cons (pv 2) (pa_cons pe_int pa_nil))) pe_int (nomark _)) (pv 12) (nomark _)) (pw_or1 (pt_cmpR op_ne (pe_and (pe_cmpR op_notN (pe_has (has_least_dyes T) (hr.mono (by decide)) (by rfl) (pa_cons (pv 2) pa_nil)) pe_non (nomark _)) (pe_one (pe_cmpR op_lt (pe_has (has_least_dyes T) (hr.mono (by decide)) (by rfl) (pa_cons (pv 2) pa_nil)) pe_int (nomark _)))) (pv 12) (nomark _))))) (pss_one (ps_ret pe_bl)) pss_nil)
      (pss_cons (ps_if (PW.pt (pw_and (pt_cmpR (op_neD hr.units) (pe_lc (own := [("_law_ring", 14)]) (g := gName 14) rfl sc_law_right.nd (k_pi_tup (K := K) rfl (pe_has (has_rings T) (hr.mono (by decide)) (by rfl) (pa_cons (pv 2) pa_nil))) (blkOk_by (own := [("_law_ring", 14)]) (N := N_law_right) (sc := defScope s_law_right) (by decide +kernel)) (fun _ _ _ _ _ => (pg_name (i := 14) sc_law_right.nd rfl (.inl rfl))) (fun _ _ _ _ _ => (pts_one (pt_cmpR op_eq (pe_op op_mod (pe_callTy call_int1 (by rfl) T.xint bt_int (pa_cons (pe_callB (k_call_len (K := K) rfl) (by rfl) T.xlen bt_len (pa_cons (pv 14) pa_nil)) pa_nil)) pe_int) pe_int (nomark _)))) (fun _ _ _ _ _ => (pv 14))) (pe_lst pa_nil) (nomark _)) (pw_and1 (pt_val (pv 12))))) (pss_one (ps_ret pe_bl)) pss_nil)
      (pss_cons (ps_set (i := 13) sc_law_right.nd rfl (.inl rfl) pe_int)
      (pss_cons (ps_for PassesOwn.never rfl (k_pi_tup (K := K) rfl (pe_has (has_pieces T) (hr.mono (by decide)) (by rfl) (pa_cons (pv 2) (pa_cons (pv 4) pa_nil)))) (pg_name (i := 9) sc_law_right.nd rfl (.inl rfl)) (pss_one (ps_set (i := 13) sc_law_right.nd rfl (.inl rfl) (pe_op op_mulW (pv 13) pe_int))))
      (pss_one (ps_ret (pe_or (pe_not (pv 12)) (pe_one (pe_cmpR op_eq (pe_has (has_count_dyes T) (hr.mono (by decide)) (by rfl) (pa_cons (pv 2) (pa_cons pe_int pa_nil))) (pv 13) (nomark _))))))))))))))))), fun vs Q E' h => spM_run (fun x l hx => ?_) vs H Q E' h⟩)
  obtain ⟨ns⟩ := x
  have hb : BagOk 0 ns := hx
  show SD C _ (bagG l ns [.ptr l, .no, .no, .no, .no, .no, .no, .no, .no, .no, .no, .no, .no, .no, .no]) _ (RtPost l)
  refine sq_asgM (em_callM (⟨ns, 0⟩ : BagX) (es_ptr rfl (es_im ev_c (es_im ev_c (es_im ev_c es_nil)))) bag_at ⟨hb, by simp only; omega⟩) fun d G' hd => ?_
  obtain ⟨ns, ⟨y, ok, rfl⟩, rfl⟩ := hd
  rw [put_bag]
  show SD C _ (bagG l ns [.ptr l, .im (dPts y), .no, .no, .no, .no, .no, .no, .no, .no, .no, .no, .no, .no, .no]) _ _
  have len := ok.len
  have nt := ok.nt
  refine sq_asgG (P := (· = .tup [dW y, .s (st y.1)])) (js := [2, 3]) (fun _ s => (s.set 2 (.im (dW y))).set 3 (.im (.s (st y.1)))) (ev_tupD (ea2 (ev_callD (R := (· = dW y)) y (ea1 (ev_v rfl)) ok fun _ h => h) (ev_opD (ev_v rfl) ev_c (rr_ixL rfl rfl)))) (fun d hd => by subst hd; exact eg_pair) fun d _ => ?_
  show SD C _ (bagG l ns [.ptr l, .im (dPts y), .im (dW y), .im (.s (st y.1)), .no, .no, .no, .no, .no, .no, .no, .no, .no, .no, .no]) _ _
  refine sq_par (d := .tup (dN (whole y))) (e := .n) (ea2 (ev_tupRg (ev_lenX (by omega) (ev_v rfl)) (by omega)) ev_c) ?_
  show SD C _ (lrG l ns y (.im .n) .no .no .no .no .no .no) _ _
  refine sq_for (C := C) (js := [6]) y.1.tail (fun c => D.s (sg c)) (fun c s => s.set 6 (.im (.s (sg c)))) (fun i G => ∃ v6 v7 v8 v9 v10 v11, G = lrG l ns y (.im (lstD y i)) v6 v7 v8 v9 v10 v11)
    (ei_tail ok (ev_v rfl) ev_c) (fun _ _ => eg_name) ⟨.no, .no, .no, .no, .no, .no, by unfold lstD; rw [List.take_zero, if_pos rfl]⟩ ?_ ?_
  · rintro i c G hi ⟨v6, v7, v8, v9, v10, v11, rfl⟩
    have hc : c ∈ y.1.tail := List.mem_of_getElem? hi
    have po := pair_ok ok hc
    have hne := tail_ne ok hc
    have hci := cut_is y hne
    obtain ⟨wn, wm⟩ := wds_min ok (fst_mem ok) hne hci
    have c7 := cut_le ok hne
    generalize hfi : fstP y = f at *
    show SD C _ (lrG l ns y (.im (lstD y i)) (.im (.s (sg c))) v7 v8 v9 v10 v11) _ _
    refine sq_asg (d := .s (sg f)) ((ev_first ok (ev_v rfl)).to (by rw [hfi])) ?_
    refine sq_asg (d := .lst (dI (wds y f c))) ((ev_map (C := C) (js := [9]) (lhF f c y.1) (fun h => D.s (st h)) (fun h => D.i (lotOf y h).length) (fun h s => s.set 9 (.im (.s (st h)))) (ei_list (ev_callD (R := (· = dHs (lhF f c y.1))) (⟨y.1, f, c⟩ : LhX) (ea3 (ev_v rfl) (ev_v rfl) (ev_v rfl)) len.2 fun _ h => h)) (fun _ _ => eg_name) (by have := lh_len f c len.2; omega) fun h _ => ev_callD (R := (· = D.i (lotOf y h).length)) (y, h) (ea2 (ev_v rfl) (ev_v rfl)) ok fun _ h => h).dat.to ?_) ?_
    · unfold wds dI
      rw [List.map_map]
      rfl
    show SD C _ (lrG l ns y (.im (lstD y i)) (.im (.s (sg c))) (.im (.s (sg f))) (.im (.lst (dI (wds y f c)))) v9 v10 v11) _ _
    have mn : ∀ v9 v10 v11, EvD C (tCB (rMin K) (tCons (tVar 8) tNil)) (lrG l ns y (.im (lstD y i)) (.im (.s (sg c))) (.im (.s (sg f))) (.im (.lst (dI (wds y f c)))) v9 v10 v11) (.i (cutOf y f c : Int)) := fun v9 v10 v11 => (ev_cbD (ea1 (ev_v rfl)) (cr_minD wn)).to (by rw [wm])
    have on : ∀ v9 v10 v11, EvD C (tOp (rRep1 K) (tTup (tCons (tC (.int 1)) tNil)) (tCB (rLenW C (sp_Web_len C)) (tCons (tVar 2) tNil))) (lrG l ns y (.im (lstD y i)) (.im (.s (sg c))) (.im (.s (sg f))) (.im (.lst (dI (wds y f c)))) v9 v10 v11) (dOnes y.2.length) := fun v9 v10 v11 => ev_opD (ev_tupD (ea1 ev_c)) (ev_lenX (by omega) (ev_v rfl)) (rr_rep1 (by omega))
    refine sq_no (EvT.to (et_or (a := false) (b := false) (EvT.to (et_test (ev_opD (ev_callD (R := (· = .i (cutOf y f c))) (⟨y, f, c⟩ : PairX) (ea3 (ev_v rfl) (ev_v rfl) (ev_v rfl)) po fun _ h => h) (mn _ _ _) rr_neI)) (by simp)) fun _ => EvT.to (et_test (ev_opD (ev_callD (R := (· = .i (cutOf y f c))) (⟨y, f, c⟩ : PairX) (ea_c (ev_v rfl) (ea_c (on _ _ _) (ea2 (ev_v rfl) (ev_v rfl)))) po fun _ h => h) (mn _ _ _) rr_neI)) (by simp)) rfl) ?_
    refine sq_parR (P1 := fun d => ∃ nets S v, CarOk y f c nets S v ∧ d = .s (st S)) (P2 := fun d => ∃ ls : List D, ls.length = cutOf y f c ∧ d = .tup ls) (ev_callD (⟨y, f, c⟩ : PairX) (ea_c (ev_v rfl) (ea_c (on _ _ _) (ea2 (ev_v rfl) (ev_v rfl)))) po fun _ h => h) (ev_callD (⟨y, f, c⟩ : PairX) (ea3 (ev_v rfl) (ev_v rfl) (ev_v rfl)) po fun _ h => h) ?_
    rintro d1 d2 ⟨nets, S, v, car, rfl⟩ ⟨ls, hls, rfl⟩
    show SD C _ (lrG l ns y (.im (lstD y i)) (.im (.s (sg c))) (.im (.s (sg f))) (.im (.lst (dI (wds y f c)))) (.im (.s (st S))) (.im (.tup ls)) v11) _ _
    have hS : S ∈ lhF f c y.1 := (lhF_mem hne ok.nodup).mpr ⟨car.srt, car.hb, car.hg, fun d hd => .inr (car.sub d hd)⟩
    have hv : (lotOf y S).length = cutOf y f c := by rw [car.wid]; exact car.cut.uniq hci
    refine sq_no (EvT.to (et_or (a := false) (b := false) (EvT.to (et_test (ev_opD (y := .lst (dS ((lhF f c y.1).map st))) (ev_v rfl) ((ev_callD (R := (· = dHs (lhF f c y.1))) (⟨y.1, f, c⟩ : LhX) (ea3 (ev_v rfl) (ev_v rfl) (ev_v rfl)) len.2 fun _ h => h).to (by unfold dHs; rw [dS_st])) rr_niStrs)) (by rw [mem_st, decide_eq_true hS]; rfl)) fun _ => EvT.to (et_test (ev_opD (ev_callD (R := (· = D.i (lotOf y S).length)) (y, S) (ea2 (ev_v rfl) (ev_v rfl)) ok fun _ h => h) (mn _ _ _) rr_neI)) (by rw [hv]; simp)) rfl) ?_
    refine sq_no (EvT.to (et_test (ev_opD (ev_lenT (ev_v rfl)) (mn _ _ _) rr_neI)) (by rw [hls]; simp)) ?_
    refine sq_asgR (P := PullV ⟨y, f, c⟩) (ev_callD (⟨y, f, c⟩ : PairX) (ea3 (ev_v rfl) (ev_v rfl) (ev_v rfl)) po fun _ h => h) ?_
    intro dp hp
    show SD C _ (lrG l ns y (.im (lstD y i)) (.im (.s (sg c))) (.im (.s (sg f))) (.im (.lst (dI (wds y f c)))) (.im (.s (st S))) (.im (.tup ls)) (.im dp)) _ _
    refine sq_no ?_ ?_
    · rcases hp with ⟨hz, rfl⟩ | ⟨hz, fr, rfl, fk, hge⟩
      · have hz : cutOf y f c = 0 := hz
        refine EvT.to (et_or (a := false) (b := false) (EvT.to (et_test (ev_opD (ev_opD (ev_v rfl) ev_c (rr_isN (d := .n))) (ev_opD (mn _ _ _) ev_c rr_eqI) rr_neB)) (by rw [hz]; rfl)) fun _ => EvT.to (et_and (a := false) (b := false) (EvT.to (et_test (ev_opD (ev_v rfl) ev_c (rr_notN (d := .n)))) rfl) fun h => by cases h) rfl) rfl
      · have hz : cutOf y f c ≠ 0 := hz
        have hge : fr.2 ≤ fr.1 * (cutOf y f c : Int) := hge
        refine EvT.to (et_or (a := false) (b := false) (EvT.to (et_test (ev_opD (ev_opD (ev_v rfl) ev_c (rr_isN (d := dF fr))) (ev_opD (mn _ _ _) ev_c rr_eqI) rr_neB)) (by rw [decide_eq_false (show ¬ ((cutOf y f c : Nat) : Int) = 0 by omega)]; rfl)) fun _ => EvT.to (et_and (a := true) (b := false) (EvT.to (et_test (ev_opD (ev_v rfl) ev_c (rr_notN (d := dF fr)))) rfl) fun _ => EvT.to (et_test (ev_opD (ev_opD (ev_f0 (ev_v rfl)) (mn _ _ _) (rr_mulW (fk.2.1.cmul (sm_nat (k := 3) (by omega)) (by decide)))) (ev_f1 (ev_v rfl)) rr_lt)) (decide_eq_false (by omega))) rfl) rfl
    · refine sd_asg (d := lstD y (i + 1)) (ev_if (b := isNone (lstD y i)) (et_test (ev_opD (ev_v rfl) ev_c rr_isN)) (fun h => ?_) (fun h => ?_)) ⟨_, _, _, _, _, _, rfl⟩
      · have e : (joinL y).take i = [] := Decidable.byContradiction fun z => by
          unfold lstD at h
          rw [if_neg z] at h
          cases h
        refine (mn _ _ _).to ?_
        unfold lstD
        rw [lstD_succ hi, e, if_neg (by simp), hfi]
        rfl
      · have e : (joinL y).take i ≠ [] := fun z => by
          unfold lstD at h
          rw [if_pos z] at h
          cases h
        refine (ev_minI ((ev_v rfl).to ?_) (mn _ _ _)).to (d := .i (min (leastI ((joinL y).take i)) (cutOf y f c : Int))) ?_
        · unfold lstD
          rw [if_neg e]
        · unfold lstD
          rw [lstD_succ hi, if_neg (by simp), leastI_snoc _ e, hfi]
  rintro G ⟨v6, v7, v8, v9, v10, v11, rfl⟩
  have hj : (joinL y).take y.1.tail.length = joinL y := by
    have : (joinL y).length = y.1.tail.length := by unfold joinL; rw [List.length_map]
    rw [← this, List.take_length]
  have ed : lstD y y.1.tail.length = joinD y := by
    unfold lstD joinD
    rw [hj]
  rw [ed]
  clear ed hj
  refine sq_no ?_ ?_
  · by_cases e : joinL y = []
    · refine et_test ((ev_opD (ev_callD (R := (· = joinD y)) y (ea1 (ev_v rfl)) ok fun _ h => h) (ev_v rfl) ?_))
      have : joinD y = D.n := by unfold joinD; rw [if_pos e]
      rw [this]
      exact rr_neSameN
    · refine et_test ((ev_opD (ev_callD (R := (· = joinD y)) y (ea1 (ev_v rfl)) ok fun _ h => h) (ev_v rfl) ?_))
      have : joinD y = D.i (leastI (joinL y)) := by unfold joinD; rw [if_neg e]
      rw [this]
      exact rr_neSameI
  refine sq_forR (C := C) (js := [9]) (fun m : List (List Nat) => (∀ h ∈ m, h ∈ someH y) ∧ m.length ≤ 1000) (fun h => D.s (st h)) (fun h s => s.set 9 (.im (.s (st h)))) (fun m i G => ∃ v6 v7 v8 v9 v10 v11, G = lrG l ns y (.im (joinD y)) v6 v7 v8 v9 v10 v11)
    (ei_tupR (ev_callD (R := fun d => ∃ ds, (∃ m : List (List Nat), ((∀ h ∈ m, h ∈ someH y) ∧ m.length ≤ 1000) ∧ ds = m.map fun h => D.s (st h)) ∧ d = .tup ds) y (ea1 (ev_v rfl)) ok fun d ⟨m, h1, h2, e⟩ => ⟨_, ⟨m, ⟨h1, h2⟩, rfl⟩, e⟩)) (fun _ _ _ _ => eg_name) (fun m hm => ⟨_, _, _, _, _, _, rfl⟩) ?_ ?_
  · rintro m ⟨hm, _⟩ i h G hi ⟨v6, v7, v8, v9, v10, v11, rfl⟩
    show SD C _ (lrG l ns y (.im (joinD y)) v6 v7 v8 (.im (.s (st h))) v10 v11) _ _
    obtain ⟨hf, hw⟩ := List.mem_filter.mp (hm h (List.mem_of_getElem? hi))
    rw [Bool.and_eq_true] at hw
    obtain ⟨hw1, hw2⟩ := hw
    have hw1 : h ≠ y.1 := by simpa using hw1
    have hw2 : ((lotOf y h).length : Int) = leastI (joinL y) := of_decide_eq_true hw2
    unfold fherds at hf
    obtain ⟨h', hh', rfl⟩ := List.mem_map.mp hf
    have hn : joinL y ≠ [] := fun z => by
      have hz : y.1.tail = [] := List.map_eq_nil_iff.mp z
      rw [hz] at hh'
      have : h' = [] := List.mem_singleton.mp hh'
      refine hw1 ?_
      have := pl_eq ok
      rw [hz] at this
      rw [this]
      simp_all
    have hjd : joinD y = D.i (leastI (joinL y)) := by unfold joinD; rw [if_neg hn]
    have hl : (fstP y :: h').length ≤ 100 := by
      have := herdsA_short hh'
      rw [List.length_tail] at this
      rw [List.length_cons]
      omega
    refine sd_no (EvT.to (et_or (a := false) (b := false) (EvT.to (et_test (ev_opD (ev_opD (x := .s (st (fstP y :: h'))) (ev_v rfl) ev_c (rr_ixS (c := fstP y) (by rw [st_len]; omega) (by rw [st_toList]; exact atI_n (j := 0) rfl))) (ev_first ok (ev_v rfl)) rr_neS)) (by show (!decide (sg (fstP y) = sg (fstP y))) = false; rw [decide_eq_true rfl]; rfl)) fun _ => et_or (a := false) (b := false) (EvT.to (et_test (ev_opD (ev_v rfl) (ev_v rfl) rr_eqS)) (by rw [decide_eq_false (p := st (fstP y :: h') = st y.1) fun z => hw1 (st_inj.mp z)])) fun _ => EvT.to (et_test (ev_opD (ev_callD (R := (· = D.i (lotOf y (fstP y :: h')).length)) (y, fstP y :: h') (ea2 (ev_v rfl) (ev_v rfl)) ok fun _ h => h) ((ev_v rfl).to hjd) rr_neI)) (by rw [hw2]; simp)) rfl) ⟨_, _, _, _, _, _, rfl⟩
  rintro m - G ⟨v6, v7, v8, v9, v10, v11, rfl⟩
  clear m
  generalize hdue : decide (whole y ∈ sidesA y) = due
  have hdue : due = true ↔ Two y := by
    rw [← hdue, decide_eq_true_iff]
    exact sides_iff ok
  refine sq_asg (d := .b due) (ev_callD y (ea2 (ev_v rfl) (ev_v rfl)) ok fun d h => h.trans (by rw [‹decide _ = due›])) ?_
  show SD C _ (bagG l ns [.ptr l, .im (dPts y), .im (dW y), .im (.s (st y.1)), .im (.tup (dN (whole y))), .im (joinD y), v6, v7, v8, v9, v10, v11, .im (.b due), .no, .no]) _ _
  have two : decide (0 < sumAt (cntsW y) 2) = due := by
    rw [Bool.eq_iff_iff, decide_eq_true_iff, dyes2 ok, cntP_pos, hdue]
  have cd : ∀ v9 v13, EvD C (tCall (sp_count_dyes C) [] E0 (tCons (tVar 2) (tCons (tC (.int 2)) tNil))) (bagG l ns [.ptr l, .im (dPts y), .im (dW y), .im (.s (st y.1)), .im (.tup (dN (whole y))), .im (joinD y), v6, v7, v8, v9, v10, v11, .im (.b due), v13, .no]) (.i (sumAt (cntsW y) 2)) := fun v9 v13 => ev_callD (R := (· = .i (sumAt (cntsW y) 2))) (y, 2) (ea2 (ev_v rfl) ev_c) ⟨ok, by show (1 : Int) ≤ 2; decide, by show (2 : Int) ≤ 1000; decide⟩ fun _ h => h
  have ld : ∀ v9 v13, EvD C (tCall (sp_least_dyes C) [] E0 (tCons (tVar 2) tNil)) (bagG l ns [.ptr l, .im (dPts y), .im (dW y), .im (.s (st y.1)), .im (.tup (dN (whole y))), .im (joinD y), v6, v7, v8, v9, v10, v11, .im (.b due), v13, .no]) (leastK y) := fun v9 v13 => ev_callD (R := (· = leastK y)) y (ea1 (ev_v rfl)) ok fun _ h => h
  refine sq_no (EvT.to (et_or (a := false) (b := false) (EvT.to (et_test (ev_opD (ev_opD (cd _ _) ev_c rr_gt) (ev_v rfl) rr_neB)) (by rw [two]; exact bne_self_eq_false due)) fun _ => ?_) rfl) ?_
  · have gk := goodK_lt ok
    cases hg : goodK y with
    | nil =>
      rw [hg] at gk
      have e : leastK y = .n := by unfold leastK; rw [hg]
      have dz : due = false := by
        rw [← Bool.not_eq_true]
        intro z
        have := gk.mpr (hdue.mp z)
        cases this
      rw [e] at ld
      refine EvT.to (et_test (ev_opD (x := .b (false && false)) (ev_andV (a := false) (b := false) ((ev_opD (ld _ _) ev_c (rr_notN (d := .n))).to rfl) fun h => by cases h) (ev_v rfl) rr_neB)) ?_
      rw [dz]
      rfl
    | cons i t =>
      rw [hg] at gk
      have e : leastK y = .i (1 + (i : Nat)) := by unfold leastK; rw [hg]
      have dz : decide (1 + (i : Int) < 3) = due := by
        rw [Bool.eq_iff_iff, hdue]
        exact gk
      rw [e] at ld
      refine EvT.to (et_test (ev_opD (x := .b (true && due)) (ev_andV (a := true) (b := due) ((ev_opD (ld _ _) ev_c (rr_notN (d := .i (1 + (i : Nat))))).to rfl) fun _ => (ev_opD (ld _ _) ev_c rr_lt).to (by rw [dz])) (ev_v rfl) rr_neB)) ?_
      rw [Bool.true_and]
      exact bne_self_eq_false due
  refine sq_no (et_andP (P := fun a => due = true → a = false) (b := due) (et_testR (ev_op (R1 := fun d => ∃ xs : List (List Nat), (∃ m : List (List Nat), m.Perm (lotsA y) ∧ xs = ringOf y m) ∧ d = .lst ((xs.filter fun lot => decide ((lot.length : Int) % 2 = 1)).map fun l => D.tup (dN l))) (R2 := (· = .lst [])) (R := fun d => ∃ b, d = .b b ∧ (due = true → b = false))
    (ev_lcR (C := C) (js := [14]) (fun xs : List (List Nat) => ∃ m : List (List Nat), m.Perm (lotsA y) ∧ xs = ringOf y m) (fun l => D.tup (dN l)) (fun lot => decide ((lot.length : Int) % 2 = 1)) (fun l => D.tup (dN l)) (fun l s => s.set 14 (.im (.tup (dN l))))
      (ei_tupR (ev_callD (R := fun d => ∃ ds, (∃ xs : List (List Nat), (∃ m : List (List Nat), m.Perm (lotsA y) ∧ xs = ringOf y m) ∧ ds = xs.map fun l => D.tup (dN l)) ∧ d = .tup ds) y (ea1 (ev_v rfl)) ok fun d ⟨m, hm, e⟩ => ⟨_, ⟨_, ⟨m, hm, rfl⟩, rfl⟩, e⟩)) (fun _ _ _ _ => eg_name) (fun xs ⟨m, hm, e⟩ => by
        rw [e]
        have h1 := List.length_filter_le (fun lot => evenLot y lot && roundL y lot) m
        have h2 := lotsA_len ok
        have h3 := hm.length_eq
        unfold ringOf
        omega) (fun xs _ lot _ => EvT.to (et_test (ev_opD (ev_opD (ev_int1 (ev_lenT (ev_v rfl))) ev_c (rr_mod (by decide))) ev_c rr_eqI)) (by rw [List.length_map])) fun xs _ lot _ _ => ev_v rfl)
    (ev_lst ea_nil).dat fun a b ⟨xs, ⟨m, hm, e⟩, ha⟩ hb2 => ?_) fun d h => h) (et_B (ev_v rfl)) fun a ha => ?_) ?_
  · subst ha hb2
    refine (rr_neD (by rw [shpD]; exact shp_lots _) (by rfl) (by rw [encD]; exact shaped_lots _) (by have := shaped_lots []; rw [encD]; exact this)).imp fun d hd => ⟨_, hd, fun z => ?_⟩
    have ht := hdue.mp z
    have : (xs.filter fun lot => decide ((lot.length : Int) % 2 = 1)) = [] := by
      rw [List.filter_eq_nil_iff]
      intro lot hlot y2
      have y2 := of_decide_eq_true y2
      rw [e] at hlot
      obtain ⟨h1, h2⟩ := List.mem_filter.mp hlot
      rw [Bool.and_eq_true] at h2
      have := ring_even ok ht (lot_in (hm.mem_iff.mp h1)) h2.1
      omega
    rw [this]
    decide +kernel
  · cases due with
    | true => rw [ha rfl]; rfl
    | false => exact Bool.and_false a
  refine sq_asg (d := .i 1) ev_c ?_
  have hl5 : (herdsL y (whole y)).length ≤ 5 := Nat.le_trans (herdsF_two ok.nodup (lot_ends ok (lot := whole y) fun i hi => List.mem_range.mp hi)).2 len.2
  refine sq_forR (C := C) (js := [9]) (fun m : List (List Nat) => m.Perm (herdsL y (whole y))) (fun h => D.s (st h)) (fun h s => s.set 9 (.im (.s (st h)))) (fun m i G => ∃ v9, G = bagG l ns [.ptr l, .im (dPts y), .im (dW y), .im (.s (st y.1)), .im (.tup (dN (whole y))), .im (joinD y), v6, v7, v8, v9, v10, v11, .im (.b due), .im (.i (2 ^ i)), .no])
    (ei_tupR (ev_callD (R := fun d => ∃ ds, (∃ m : List (List Nat), m.Perm (herdsL y (whole y)) ∧ ds = m.map fun h => D.s (st h)) ∧ d = .tup ds) y (ea2 (ev_v rfl) (ev_v rfl)) ok fun d ⟨m, hm, e⟩ => ⟨_, ⟨m, hm, rfl⟩, e⟩)) (fun _ _ _ _ => eg_name) (fun m hm => ⟨_, rfl⟩) ?_ ?_
  · rintro m hm i h G hi ⟨v9, rfl⟩
    have him : i < m.length := (List.getElem?_eq_some_iff.mp hi).1
    have hml := hm.length_eq
    have s6 : Sm 6 ((2 : Int) ^ i) := by
      have : ∀ i ∈ List.range 5, Sm 6 ((2 : Int) ^ i) := by unfold Sm; decide
      exact this i (List.mem_range.mpr (by omega))
    refine sd_asg (d := .i (2 ^ (i + 1))) ((ev_opD (ev_v rfl) ev_c (rr_mulW (s6.cmul (sm_lit (k := 2) (by decide) : Sm 2 2) (by decide)))).to ?_) ⟨_, rfl⟩
    rw [Int.pow_succ]
  · rintro m hm G ⟨v9, rfl⟩
    refine sd_ret (d := .b true) ((ev_orV (a := !due) (b := decide (sumAt (cntsW y) 2 = 2 ^ m.length)) (ev_notV (ev_v rfl)) fun _ => ev_opD (cd _ _) (ev_v rfl) rr_eqI).to ?_) ⟨ns, rfl, bag_at⟩
    cases hd : due with
    | false => rfl
    | true =>
      rw [dyes2 ok, cntP_pieces ok (hdue.mp hd), hm.length_eq, decide_eq_true rfl]
      rfl
end Wr
set_option maxHeartbeats 4000000
namespace Wr
open PySem L2
/-! ### the law -/
theorem same_mut {H H1 H2 : Hp} {p : Addr} {us : List V} (n : H p = none) (e1 : Same H H1) (hp : H1 p = some (.lst us)) (e2 : Same (hide [p] H1) H2) : Same H H2 := by
  refine ⟨fun a o h nt => ?_, fun a h => ?_, fun P t => e2.tabs P (tabS_hide hp rfl (e1.tabs P t))⟩
  · have ne : a ≠ p := ne_of_none h n
    refine e2.sub a o ?_ nt
    rw [hide_at (by simpa using ne)]
    exact e1.sub a o h nt
  · by_cases ne : a = p
    · rw [ne] at h
      exact absurd n h
    · refine e2.dom a ?_
      rw [hide_at (by simpa using ne)]
      exact e1.dom a h
/-- the law's one web, of a bag that is made for it -/
theorem ev_right {C : Cn} {K : PySem.W.Frag} {G : En} {te tk : TE} {sc : List Int} {k : Nat} (h1 : EvD C te G (.scr K sc)) (h2 : EvD C tk G (.i (k : Nat))) (hk : k ≤ 1000) : EvD C (tCall (sp_law_right C) [] E0 (tCons (tCall (sp_law_bag K C) [] E0 (tCons te (tCons tk tNil))) tNil)) G (.b true) := fun O H σ g Q q => by
  refine app_call (app_cons (app_call ?_))
  refine ea2 h1 h2 O H σ g _ fun ds vs H1 hd e1 rv => ?_
  subst hd
  rw [List.append_nil]
  refine ⟨O, ⟨sc, k⟩, e1.tabs _ g.tb, g.dom.mono e1, rv, hk, fun ns p H2 hb np e2 hp => ?_⟩
  show (sp_law_right C) ([V.ref p] ++ []) H2 Q E0
  rw [List.append_nil]
  have nO : p ∉ O := (g.dom.mono e1).out np
  refine ⟨O, ⟨ns⟩, p, e2.tabs _ (e1.tabs _ g.tb), (g.dom.mono e1).mono e2, nO, hp, ⟨some (.ref p), [], rfl, rfl, rfl⟩, hb, fun d v ns' H3 hd e3 hv rv3 => ?_⟩
  exact q d v H3 hd (same_mut (e1.free np) (e1.trans e2) hp e3) (rv3.mono (hide_sub fun a ha => List.mem_cons_of_mem _ ha))
abbrev N_law : List PySem.Str := ["_law_script", "_law_k"]
theorem sc_law : FnScope N_law ["_law_script"] (defScope s_law) := ⟨rfl, rfl, rfl, by decide +kernel, rfl, by decide +kernel, by decide +kernel⟩
def sp_law (K : PySem.W.Frag) (C : Cn) : Sp := spT C (fun sc : List Int => [.scr K sc]) (fun sc => sc.length ≤ 1000) (fun _ d => d = .b true)
theorem ev_maxI {C : Cn} {G : En} {ta tb : TE} {a b : Int} (h1 : EvD C ta G (.i a)) (h2 : EvD C tb G (.i b)) : EvD C (tCB (fun xs H Q => ∃ i j : Int, xs = [.int i, .int j] ∧ Q (.int (if j > i then j else i)) H) (tCons ta (tCons tb tNil))) G (.i (max a b)) :=
  ev_cbD (ea2 h1 h2) (cr2 fun H Q q => ⟨_, _, rfl, by
    have : (if b > a then b else a) = max a b := by omega
    rw [this]
    exact q⟩)
theorem fn_okF {P : Program} {w : World} {K : PySem.W.Frag} {mg : PySem.Str → Option Value} {base : Heap} {C : Cn} {d : He.DefD} {fd : FuncData} (F : FunD K d.name d.qual d.params d.body d.scope [] [] (He.fAd K d.at_) fd) {N ps : List PySem.Str} {k : Nat} {α : Type} {A : α → List D} {pre : α → Prop} {post : α → D → Prop}
    (S : FnScope N ps d.scope) (len : ∀ x, (A x).length = ps.length)
    (body : ∀ (cdv : Value) (A' : Around) (outer : List Env) (s : Shared) (H : Hp) (E : XK), Room k (A'.deeper (PyProof.Rows.envOfC d.qual d.scope s.heap.objs.size (He.fAd K d.at_) cdv)) →
      ∃ t, PSs (cxOf CX0 P w K mg base N d.qual d.scope (He.fAd K d.at_) cdv A' outer s H E).nox d.body t ∧ ∀ x, pre x → SD C t (En0 N.length (A x)) (fun _ => post x D.n) (fun r _ => post x r)) :
    FnOk P w K mg base CX0 (k + 1) (He.fAd K d.at_) fd ps (spT C A pre post) := by
  refine F.ok S (sp_len len) (fun cdv A' outer s H vs Q E hr h => ?_)
  obtain ⟨t, ht, q⟩ := body cdv A' outer s H E hr
  exact ⟨t, ht.nox, sp_run q vs H Q E h⟩
theorem law_ok {P : Program} {w : World} {K : PySem.W.Frag} {mg : PySem.Str → Option Value} {base : Heap} {C : Cn} (T : Tx K mg C.cls) (TB : TabC K mg base C) {fd : FuncData} (F : FunD K d_law.name d_law.qual d_law.params d_law.body d_law.scope [] [] (He.fAd K d_law.at_) fd) : FnOk P w K mg base CX0 11 (He.fAd K d_law.at_) fd ["_law_script"] (sp_law K C) := by
  refine fn_okF F (N := N_law) sc_law (fun _ => rfl) (fun cdv A' outer s H E hr => ⟨_, (pss_one (ps_ret (pe_callB (k_cr_all (K := K) rfl rfl) (by rfl) T.xall bt_all (pa_cons (pe_lc (own := [("_law_k", 1)]) (g := gName 1) (tt := tYes) rfl sc_law.nd (pi_range1 (by rfl) T.xrange (pa_cons (pe_callB (call_max2 rfl) (by rfl) T.xmax bt_max (pa_cons pe_int (pa_cons (pe_callB (call_min2 rfl) (by rfl) T.xmin bt_min (pa_cons (pe_callB (k_call_len (K := K) rfl) (by rfl) T.xlen bt_len (pa_cons (pv 0) pa_nil)) (pa_cons pe_int pa_nil))) pa_nil))) pa_nil)) (blkOk_by (own := [("_law_k", 1)]) (N := N_law) (sc := defScope s_law) (by decide +kernel)) (fun _ _ _ _ _ => (pg_name (i := 1) sc_law.nd rfl (.inl rfl))) (fun _ _ _ _ _ => pts_nil) (fun _ _ _ _ _ => (pe_has (has_law_right T TB) (hr.mono (by decide)) (by rfl) (pa_cons (pe_has (has_law_bag T) (hr.mono (by decide)) (by rfl) (pa_cons (pv 0) (pa_cons (pv 1) pa_nil))) pa_nil)))) pa_nil)))) , fun x hx => ?_⟩)
  have hl : x.length ≤ 1000 := hx
  show SD C _ ⟨[], [.im (.scr K x), .no]⟩ _ _
  refine sd_ret (d := .b true) (EvR.to (ev_cbD (ea1 (EvR.to (ev_map (C := C) (js := [1]) (List.range (max 2 (min (x.length : Int) 3)).toNat) (fun i => D.i (i : Nat)) (fun _ => D.b true) (fun i l => l.set 1 (.im (.i (i : Nat)))) (ei_rng1 (n := max 2 (min (x.length : Int) 3)) (ea1 (ev_maxI ev_c (ev_minI (ev_lenScr (ev_v rfl)) ev_c))) (by omega) (by omega)) (fun _ _ => eg_name) (by rw [List.length_range]; omega) fun i hi => ev_right (ev_v rfl) (ev_v rfl) (by have := List.mem_range.mp hi; omega)).dat (d' := .lst (dB (List.replicate (max 2 (min (x.length : Int) 3)).toNat true))) ?_)) cr_allD) ?_) rfl
  · unfold dB
    rw [List.map_const', List.length_range, List.map_replicate]
  · congr 1
    rw [List.all_replicate]
    simp
end Wr
set_option maxHeartbeats 8000000
namespace Wr
open PySem PySem.Spec PyProof.Rows L2
/-! ### the end -/
theorem law_facts {w : World} {h : Heap} {mg : PySem.Str → Option Value} {f : Addr} (Y : ∃ K : PySem.W.Frag, SaysW h K) (G : h.Ns mainGlobals mg) (hmg : mg ("law" : PySem.Str) = some (.ref f)) :
    ∃ K : PySem.W.Frag, K.In h ∧ LamX.LawAtS PySem.Challenge.rw_webreckon_k76_whole_cuts_ways_and_two_si w K CX0 11 63 "_law_script" mg f h := by
  obtain ⟨K, hK, c, x, c1, P, h1, h2, h3, h4⟩ := Y
  have T : Tx K mg (He.ga K "Web") := Tx.of hK G c x
  obtain ⟨oc, od, fdc, osl, e1, e2⟩ := codeV_ok h1
  obtain ⟨fd, F0⟩ := T.fns 82 d_law rfl
  have F : FunD K d_law.name d_law.qual d_law.params d_law.body d_law.scope [] [] (He.fAd K d_law.at_) fd := F0
  have ef := hmg.symm.trans (T.glo 82 d_law rfl rfl)
  have ef : f = He.fAd K d_law.at_ := by
    have := Option.some.inj ef
    injection this
  subst ef
  have b := FunD.bindsA (ps := ["_law_script"]) F fun _ _ _ _ _ _ us hl => match us, hl with | [_], _ => rfl
  refine ⟨K, hK, fd, [(c1, P)], sp_law K ⟨He.ga K "Web", P, lamF⟩, fun p hp => ?_, fun p hp => ?_, fun p hp => ?_, fun s v => b s [v] rfl, fun H a ns hl _ hH hS => ?_, fun base X Gb TBs => ?_⟩
  · rw [List.mem_singleton.mp hp]
    exact h3
  · rw [List.mem_singleton.mp hp]
    exact h4
  · rw [List.mem_singleton.mp hp]
    exact PySem.W.codeHd_of_K hK h2
  · refine ⟨[], ns, LamX.TabS.nil (hH _ (List.mem_singleton.mpr rfl)), fun l hl => (List.not_mem_nil hl).elim, ?_, Nat.le_trans hl (by decide), fun d v H' hd _ rv => ?_⟩
    · rw [hide_nil]
      exact RepL.one (rep_scr.mpr ⟨a, rfl, hS⟩)
    · subst hd
      exact rep_v.mp rv
  · exact law_ok (C := ⟨He.ga K "Web", P, lamF⟩) T ⟨⟨c1, oc, od, fdc, osl, e1, e2, TBs _ (List.mem_singleton.mpr rfl)⟩, rfl⟩ F
end Wr
open PySem PySem.W PySem.Calls PyProof.Rows
theorem PySem.Challenge.cw_webreckon_k76_whole_cuts_ways_and_two_si_holds : PySem.Challenge.rw_webreckon_k76_whole_cuts_ways_and_two_si.Holds := by
  w_on; o_law
  refine HandSHeadRun.head_any (r := OpenLaw.row PySem.Challenge.rw_webreckon_k76_whole_cuts_ways_and_two_si) (q := view (OpenLaw.row PySem.Challenge.rw_webreckon_k76_whole_cuts_ways_and_two_si).prog [108]) (H := Wr.hk) (ob := Wr.ob) (M := 5700) (loose := Wr.nm) (d := HandSHeadRun.topDef (OpenLaw.row PySem.Challenge.rw_webreckon_k76_whole_cuts_ways_and_two_si).prog 108) (kwd := []) Wr.ob_eq
    (by kernel_rfl) (fun s => by kernel_rfl) Wr.run (by kernel_rfl) (by kernel_rfl) (by kernel_rfl) (by rfl) (by first | assumption | decide +kernel) (by decide +kernel) ⟨rfl, rfl, rfl, rfl, rfl, by decide +kernel⟩ ?hw ?hc
  case hw => w_witness2
  case hc =>
    refine LamX.walk_ofTsE (l := PySem.Challenge.rw_webreckon_k76_whole_cuts_ways_and_two_si) (n := 63) (k := 11) (x := "_law_script") (CX := fun _ => L2.CX0) rfl (by decide) (by kernel_rfl) ⟨rfl, by decide, by decide⟩ ?F (fun _ _ _ _ _ z => z)
    intro w mg fa h Y G hmg0
    have hmg : mg ("law" : PySem.Str) = some (.ref fa) := by
      have e : (HandSHeadRun.topDef (OpenLaw.row PySem.Challenge.rw_webreckon_k76_whole_cuts_ways_and_two_si).prog 108).name = ("law" : PySem.Str) := by kernel_rfl
      rw [← e]
      exact hmg0
    exact Wr.law_facts Y G hmg
