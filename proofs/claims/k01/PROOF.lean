import PyProof.Rows.All
import Wide.All
import OpenK.AllK
import Wide.FinOn
import KE.KStateDown
import Lean
import KE.SortData
import KE.SortKeyHeap
import KE.KDictKeyed
import KE.KOwnIter
import HandS.ForMost
import HandS.More
import HandS.WordsExc
import HandS.Defaults
import HandS.Star
import HandS.IsInst
import HandS.DictComp
import HandS.Set
import HandS.SetFor
import HandS.TupSets
import HandS.OwnEq
import HandS.Walk
import HandS.SortRule
import HandS.SortKw
import HandS.IterVal
import KE.GoesMore
import HandS.Small
import HandS.Wide
import HandS.Conv
import HandS.Head0
import HandS.Head1
import HandS.Head2
import HandS.HeadEnd
import HandS.HeadHook1
import HandS.HeadHook2
import PySem.Challenge.RW_narrowkeys_k01_whole_standing_led_on_and
import HandS.ExcValue
import HandS.TupAny
section
set_option Elab.async false
set_option linter.all false
set_option maxRecDepth 100000
set_option maxHeartbeats 4000000
namespace NK
open PySem PySem.Spec PyProof.Rows L2
def top (i : Nat) : Stmt := PySem.Challenge.pw_narrowkeys_k01_whole_standing_led_on_and.main.body.getD i (.Pass ⟨0, 0, 0, 0⟩)
abbrev s_is_integer : Stmt := top 14
abbrev s_is_number_below : Stmt := top 15
abbrev s_is_column : Stmt := top 16
abbrev s_are_unlike : Stmt := top 17
abbrev s_are_columns : Stmt := top 18
abbrev s_is_last : Stmt := top 19
abbrev s_is_question : Stmt := top 20
abbrev s_is_index : Stmt := top 21
abbrev s_is_weight : Stmt := top 22
abbrev s_columns_of : Stmt := top 24
abbrev s_width : Stmt := top 25
abbrev s_is_below : Stmt := top 26
abbrev s_can_share : Stmt := top 27
abbrev s_split_pair : Stmt := top 28
abbrev s_climb : Stmt := top 29
abbrev s_upwards : Stmt := top 30
abbrev s_first_fault : Stmt := top 32
abbrev s_serves : Stmt := top 33
abbrev s_blocks_of : Stmt := top 34
abbrev s_index_for : Stmt := top 35
abbrev s_Shelf___init__ : Stmt := inClass (top 37) 0
abbrev s_Shelf_with_index : Stmt := inClass (top 37) 3
abbrev s_Shelf___add__ : Stmt := inClass (top 37) 6
abbrev s_Shelf___getitem__ : Stmt := inClass (top 37) 7
abbrev s_Shelf___iter__ : Stmt := inClass (top 37) 9
abbrev s_Shelf___len__ : Stmt := inClass (top 37) 10
abbrev s_Shelf___eq__ : Stmt := inClass (top 37) 11
abbrev s_are_weights : Stmt := top 39
abbrev s_are_pairs : Stmt := top 40
abbrev s_lead : Stmt := top 41
abbrev s_matched : Stmt := top 42
abbrev s_chained : Stmt := top 43
abbrev s_Lot___init__ : Stmt := inClass (top 44) 0
abbrev s_Lot_odd_pairs : Stmt := inClass (top 44) 1
abbrev s_Lot_heavy_first : Stmt := inClass (top 44) 2
abbrev s_Lot_steps : Stmt := inClass (top 44) 6
abbrev s_Lot_tops_from : Stmt := inClass (top 44) 7
abbrev s_Lot_width : Stmt := inClass (top 44) 9
abbrev s_Lot_least_sum : Stmt := inClass (top 44) 10
abbrev s_Lot_chains : Stmt := inClass (top 44) 11
abbrev s_Lot___len__ : Stmt := inClass (top 44) 19
abbrev s_Asked___init__ : Stmt := inClass (top 46) 0
abbrev s_Asked_questions : Stmt := inClass (top 46) 1
abbrev s_Asked___iter__ : Stmt := inClass (top 46) 11
abbrev s_Asked___len__ : Stmt := inClass (top 46) 12
abbrev s_is_served : Stmt := top 48
abbrev s_unserved : Stmt := top 49
abbrev s_pairs_of : Stmt := top 51
abbrev s_shelf_of : Stmt := top 52
abbrev s_plain_lot : Stmt := top 53
abbrev s_fewest : Stmt := top 54
abbrev s_serves_all : Stmt := top 55
abbrev s_weight_of : Stmt := top 57
abbrev s_lot_of : Stmt := top 58
abbrev s_least_cost : Stmt := top 59
abbrev s_weight_of_index : Stmt := top 61
abbrev s_cost : Stmt := top 62
abbrev s_narrow_shelf : Stmt := top 63
abbrev s_is_under : Stmt := top 65
abbrev s_led_lot : Stmt := top 66
abbrev s_lengthened : Stmt := top 67
abbrev s_shelf_led : Stmt := top 68
abbrev s_least_added : Stmt := top 69
abbrev s_led_on : Stmt := top 70
abbrev s_is_led : Stmt := top 71
abbrev s_is_led_on : Stmt := top 72
abbrev s_least_more : Stmt := top 74
abbrev s_more_shelf : Stmt := top 75
abbrev s_is_more : Stmt := top 76
abbrev s_Weights___init__ : Stmt := inClass (top 78) 0
abbrev s_Weights___call__ : Stmt := inClass (top 78) 5
abbrev s__law_bag : Stmt := top 80
abbrev s__law_take : Stmt := top 81
abbrev s__law_one : Stmt := top 82
abbrev s__law_mixed : Stmt := top 83
abbrev s__law_names : Stmt := top 84
abbrev s__law_question : Stmt := top 85
abbrev s__law_beginning : Stmt := top 86
abbrev s__law_questions : Stmt := top 87
abbrev s__law_index : Stmt := top 88
abbrev s__law_indexes : Stmt := top 89
abbrev s__law_table : Stmt := top 90
abbrev s__law_heavy : Stmt := top 91
abbrev s__law_right : Stmt := top 92
abbrev s__law_ends_right : Stmt := top 93
abbrev s_law : Stmt := top 94

def d_is_integer : He.DefD := ⟨("is_integer", none), "is_integer", "is_integer", defArgs s_is_integer, defBody s_is_integer, defScope s_is_integer, [], []⟩
def d_is_number_below : He.DefD := ⟨("is_number_below", none), "is_number_below", "is_number_below", defArgs s_is_number_below, defBody s_is_number_below, defScope s_is_number_below, [], []⟩
def d_is_column : He.DefD := ⟨("is_column", none), "is_column", "is_column", defArgs s_is_column, defBody s_is_column, defScope s_is_column, [], []⟩
def d_are_unlike : He.DefD := ⟨("are_unlike", none), "are_unlike", "are_unlike", defArgs s_are_unlike, defBody s_are_unlike, defScope s_are_unlike, [], []⟩
def d_are_columns : He.DefD := ⟨("are_columns", none), "are_columns", "are_columns", defArgs s_are_columns, defBody s_are_columns, defScope s_are_columns, [], []⟩
def d_is_last : He.DefD := ⟨("is_last", none), "is_last", "is_last", defArgs s_is_last, defBody s_is_last, defScope s_is_last, [], []⟩
def d_is_question : He.DefD := ⟨("is_question", none), "is_question", "is_question", defArgs s_is_question, defBody s_is_question, defScope s_is_question, [], []⟩
def d_is_index : He.DefD := ⟨("is_index", none), "is_index", "is_index", defArgs s_is_index, defBody s_is_index, defScope s_is_index, [], []⟩
def d_is_weight : He.DefD := ⟨("is_weight", none), "is_weight", "is_weight", defArgs s_is_weight, defBody s_is_weight, defScope s_is_weight, [], []⟩
def d_columns_of : He.DefD := ⟨("columns_of", none), "columns_of", "columns_of", defArgs s_columns_of, defBody s_columns_of, defScope s_columns_of, [], []⟩
def d_width : He.DefD := ⟨("width", none), "width", "width", defArgs s_width, defBody s_width, defScope s_width, [], []⟩
def d_is_below : He.DefD := ⟨("is_below", none), "is_below", "is_below", defArgs s_is_below, defBody s_is_below, defScope s_is_below, [], []⟩
def d_can_share : He.DefD := ⟨("can_share", none), "can_share", "can_share", defArgs s_can_share, defBody s_can_share, defScope s_can_share, [], []⟩
def d_split_pair : He.DefD := ⟨("split_pair", none), "split_pair", "split_pair", defArgs s_split_pair, defBody s_split_pair, defScope s_split_pair, [], []⟩
def d_climb : He.DefD := ⟨("climb", none), "climb", "climb", defArgs s_climb, defBody s_climb, defScope s_climb, [], []⟩
def d_upwards : He.DefD := ⟨("upwards", none), "upwards", "upwards", defArgs s_upwards, defBody s_upwards, defScope s_upwards, [], []⟩
def d_first_fault : He.DefD := ⟨("first_fault", none), "first_fault", "first_fault", defArgs s_first_fault, defBody s_first_fault, defScope s_first_fault, [], []⟩
def d_serves : He.DefD := ⟨("serves", none), "serves", "serves", defArgs s_serves, defBody s_serves, defScope s_serves, [], []⟩
def d_blocks_of : He.DefD := ⟨("blocks_of", none), "blocks_of", "blocks_of", defArgs s_blocks_of, defBody s_blocks_of, defScope s_blocks_of, [], []⟩
def d_index_for : He.DefD := ⟨("index_for", none), "index_for", "index_for", defArgs s_index_for, defBody s_index_for, defScope s_index_for, [], []⟩
def d_Shelf___init__ : He.DefD := ⟨("Shelf", some "__init__"), "__init__", "Shelf.__init__", defArgs s_Shelf___init__, defBody s_Shelf___init__, defScope s_Shelf___init__, [], []⟩
def d_Shelf_with_index : He.DefD := ⟨("Shelf", some "with_index"), "with_index", "Shelf.with_index", defArgs s_Shelf_with_index, defBody s_Shelf_with_index, defScope s_Shelf_with_index, [], []⟩
def d_Shelf___add__ : He.DefD := ⟨("Shelf", some "__add__"), "__add__", "Shelf.__add__", defArgs s_Shelf___add__, defBody s_Shelf___add__, defScope s_Shelf___add__, [], []⟩
def d_Shelf___getitem__ : He.DefD := ⟨("Shelf", some "__getitem__"), "__getitem__", "Shelf.__getitem__", defArgs s_Shelf___getitem__, defBody s_Shelf___getitem__, defScope s_Shelf___getitem__, [], []⟩
def d_Shelf___iter__ : He.DefD := ⟨("Shelf", some "__iter__"), "__iter__", "Shelf.__iter__", defArgs s_Shelf___iter__, defBody s_Shelf___iter__, defScope s_Shelf___iter__, [], []⟩
def d_Shelf___len__ : He.DefD := ⟨("Shelf", some "__len__"), "__len__", "Shelf.__len__", defArgs s_Shelf___len__, defBody s_Shelf___len__, defScope s_Shelf___len__, [], []⟩
def d_Shelf___eq__ : He.DefD := ⟨("Shelf", some "__eq__"), "__eq__", "Shelf.__eq__", defArgs s_Shelf___eq__, defBody s_Shelf___eq__, defScope s_Shelf___eq__, [], []⟩
def d_are_weights : He.DefD := ⟨("are_weights", none), "are_weights", "are_weights", defArgs s_are_weights, defBody s_are_weights, defScope s_are_weights, [], []⟩
def d_are_pairs : He.DefD := ⟨("are_pairs", none), "are_pairs", "are_pairs", defArgs s_are_pairs, defBody s_are_pairs, defScope s_are_pairs, [], []⟩
def d_lead : He.DefD := ⟨("lead", none), "lead", "lead", defArgs s_lead, defBody s_lead, defScope s_lead, [], []⟩
def d_matched : He.DefD := ⟨("matched", none), "matched", "matched", defArgs s_matched, defBody s_matched, defScope s_matched, [], []⟩
def d_chained : He.DefD := ⟨("chained", none), "chained", "chained", defArgs s_chained, defBody s_chained, defScope s_chained, [], []⟩
def d_Lot___init__ : He.DefD := ⟨("Lot", some "__init__"), "__init__", "Lot.__init__", defArgs s_Lot___init__, defBody s_Lot___init__, defScope s_Lot___init__, [], []⟩
def d_Lot_odd_pairs : He.DefD := ⟨("Lot", some "odd_pairs"), "odd_pairs", "Lot.odd_pairs", defArgs s_Lot_odd_pairs, defBody s_Lot_odd_pairs, defScope s_Lot_odd_pairs, [], []⟩
def d_Lot_heavy_first : He.DefD := ⟨("Lot", some "heavy_first"), "heavy_first", "Lot.heavy_first", defArgs s_Lot_heavy_first, defBody s_Lot_heavy_first, defScope s_Lot_heavy_first, [], []⟩
def d_Lot_steps : He.DefD := ⟨("Lot", some "steps"), "steps", "Lot.steps", defArgs s_Lot_steps, defBody s_Lot_steps, defScope s_Lot_steps, [], []⟩
def d_Lot_tops_from : He.DefD := ⟨("Lot", some "tops_from"), "tops_from", "Lot.tops_from", defArgs s_Lot_tops_from, defBody s_Lot_tops_from, defScope s_Lot_tops_from, [], []⟩
def d_Lot_width : He.DefD := ⟨("Lot", some "width"), "width", "Lot.width", defArgs s_Lot_width, defBody s_Lot_width, defScope s_Lot_width, [], []⟩
def d_Lot_least_sum : He.DefD := ⟨("Lot", some "least_sum"), "least_sum", "Lot.least_sum", defArgs s_Lot_least_sum, defBody s_Lot_least_sum, defScope s_Lot_least_sum, [], []⟩
def d_Lot_chains : He.DefD := ⟨("Lot", some "chains"), "chains", "Lot.chains", defArgs s_Lot_chains, defBody s_Lot_chains, defScope s_Lot_chains, [], []⟩
def d_Lot___len__ : He.DefD := ⟨("Lot", some "__len__"), "__len__", "Lot.__len__", defArgs s_Lot___len__, defBody s_Lot___len__, defScope s_Lot___len__, [], []⟩
def d_Asked___init__ : He.DefD := ⟨("Asked", some "__init__"), "__init__", "Asked.__init__", defArgs s_Asked___init__, defBody s_Asked___init__, defScope s_Asked___init__, [], []⟩
def d_Asked_questions : He.DefD := ⟨("Asked", some "questions"), "questions", "Asked.questions", defArgs s_Asked_questions, defBody s_Asked_questions, defScope s_Asked_questions, [], []⟩
def d_Asked___iter__ : He.DefD := ⟨("Asked", some "__iter__"), "__iter__", "Asked.__iter__", defArgs s_Asked___iter__, defBody s_Asked___iter__, defScope s_Asked___iter__, [], []⟩
def d_Asked___len__ : He.DefD := ⟨("Asked", some "__len__"), "__len__", "Asked.__len__", defArgs s_Asked___len__, defBody s_Asked___len__, defScope s_Asked___len__, [], []⟩
def d_is_served : He.DefD := ⟨("is_served", none), "is_served", "is_served", defArgs s_is_served, defBody s_is_served, defScope s_is_served, [], []⟩
def d_unserved : He.DefD := ⟨("unserved", none), "unserved", "unserved", defArgs s_unserved, defBody s_unserved, defScope s_unserved, [], []⟩
def d_pairs_of : He.DefD := ⟨("pairs_of", none), "pairs_of", "pairs_of", defArgs s_pairs_of, defBody s_pairs_of, defScope s_pairs_of, [], []⟩
def d_shelf_of : He.DefD := ⟨("shelf_of", none), "shelf_of", "shelf_of", defArgs s_shelf_of, defBody s_shelf_of, defScope s_shelf_of, [], []⟩
def d_plain_lot : He.DefD := ⟨("plain_lot", none), "plain_lot", "plain_lot", defArgs s_plain_lot, defBody s_plain_lot, defScope s_plain_lot, [], []⟩
def d_fewest : He.DefD := ⟨("fewest", none), "fewest", "fewest", defArgs s_fewest, defBody s_fewest, defScope s_fewest, [], []⟩
def d_serves_all : He.DefD := ⟨("serves_all", none), "serves_all", "serves_all", defArgs s_serves_all, defBody s_serves_all, defScope s_serves_all, [], []⟩
def d_weight_of : He.DefD := ⟨("weight_of", none), "weight_of", "weight_of", defArgs s_weight_of, defBody s_weight_of, defScope s_weight_of, [], []⟩
def d_lot_of : He.DefD := ⟨("lot_of", none), "lot_of", "lot_of", defArgs s_lot_of, defBody s_lot_of, defScope s_lot_of, [], []⟩
def d_least_cost : He.DefD := ⟨("least_cost", none), "least_cost", "least_cost", defArgs s_least_cost, defBody s_least_cost, defScope s_least_cost, [], [("weights", .non)]⟩
def d_weight_of_index : He.DefD := ⟨("weight_of_index", none), "weight_of_index", "weight_of_index", defArgs s_weight_of_index, defBody s_weight_of_index, defScope s_weight_of_index, [], []⟩
def d_cost : He.DefD := ⟨("cost", none), "cost", "cost", defArgs s_cost, defBody s_cost, defScope s_cost, [], [("weights", .non)]⟩
def d_narrow_shelf : He.DefD := ⟨("narrow_shelf", none), "narrow_shelf", "narrow_shelf", defArgs s_narrow_shelf, defBody s_narrow_shelf, defScope s_narrow_shelf, [], [("weights", .non)]⟩
def d_is_under : He.DefD := ⟨("is_under", none), "is_under", "is_under", defArgs s_is_under, defBody s_is_under, defScope s_is_under, [], []⟩
def d_led_lot : He.DefD := ⟨("led_lot", none), "led_lot", "led_lot", defArgs s_led_lot, defBody s_led_lot, defScope s_led_lot, [], []⟩
def d_lengthened : He.DefD := ⟨("lengthened", none), "lengthened", "lengthened", defArgs s_lengthened, defBody s_lengthened, defScope s_lengthened, [], []⟩
def d_shelf_led : He.DefD := ⟨("shelf_led", none), "shelf_led", "shelf_led", defArgs s_shelf_led, defBody s_shelf_led, defScope s_shelf_led, [], []⟩
def d_least_added : He.DefD := ⟨("least_added", none), "least_added", "least_added", defArgs s_least_added, defBody s_least_added, defScope s_least_added, [], [("weights", .non)]⟩
def d_led_on : He.DefD := ⟨("led_on", none), "led_on", "led_on", defArgs s_led_on, defBody s_led_on, defScope s_led_on, [], [("weights", .non)]⟩
def d_is_led : He.DefD := ⟨("is_led", none), "is_led", "is_led", defArgs s_is_led, defBody s_is_led, defScope s_is_led, [], []⟩
def d_is_led_on : He.DefD := ⟨("is_led_on", none), "is_led_on", "is_led_on", defArgs s_is_led_on, defBody s_is_led_on, defScope s_is_led_on, [], [("weights", .non)]⟩
def d_least_more : He.DefD := ⟨("least_more", none), "least_more", "least_more", defArgs s_least_more, defBody s_least_more, defScope s_least_more, [], [("weights", .non)]⟩
def d_more_shelf : He.DefD := ⟨("more_shelf", none), "more_shelf", "more_shelf", defArgs s_more_shelf, defBody s_more_shelf, defScope s_more_shelf, [], [("weights", .non)]⟩
def d_is_more : He.DefD := ⟨("is_more", none), "is_more", "is_more", defArgs s_is_more, defBody s_is_more, defScope s_is_more, [], [("weights", .non)]⟩
def d_Weights___init__ : He.DefD := ⟨("Weights", some "__init__"), "__init__", "Weights.__init__", defArgs s_Weights___init__, defBody s_Weights___init__, defScope s_Weights___init__, [], []⟩
def d_Weights___call__ : He.DefD := ⟨("Weights", some "__call__"), "__call__", "Weights.__call__", defArgs s_Weights___call__, defBody s_Weights___call__, defScope s_Weights___call__, [], []⟩
def d__law_bag : He.DefD := ⟨("_law_bag", none), "_law_bag", "_law_bag", defArgs s__law_bag, defBody s__law_bag, defScope s__law_bag, [], []⟩
def d__law_take : He.DefD := ⟨("_law_take", none), "_law_take", "_law_take", defArgs s__law_take, defBody s__law_take, defScope s__law_take, [], []⟩
def d__law_one : He.DefD := ⟨("_law_one", none), "_law_one", "_law_one", defArgs s__law_one, defBody s__law_one, defScope s__law_one, [], []⟩
def d__law_mixed : He.DefD := ⟨("_law_mixed", none), "_law_mixed", "_law_mixed", defArgs s__law_mixed, defBody s__law_mixed, defScope s__law_mixed, [], []⟩
def d__law_names : He.DefD := ⟨("_law_names", none), "_law_names", "_law_names", defArgs s__law_names, defBody s__law_names, defScope s__law_names, [], []⟩
def d__law_question : He.DefD := ⟨("_law_question", none), "_law_question", "_law_question", defArgs s__law_question, defBody s__law_question, defScope s__law_question, [], []⟩
def d__law_beginning : He.DefD := ⟨("_law_beginning", none), "_law_beginning", "_law_beginning", defArgs s__law_beginning, defBody s__law_beginning, defScope s__law_beginning, [], []⟩
def d__law_questions : He.DefD := ⟨("_law_questions", none), "_law_questions", "_law_questions", defArgs s__law_questions, defBody s__law_questions, defScope s__law_questions, [], []⟩
def d__law_index : He.DefD := ⟨("_law_index", none), "_law_index", "_law_index", defArgs s__law_index, defBody s__law_index, defScope s__law_index, [], []⟩
def d__law_indexes : He.DefD := ⟨("_law_indexes", none), "_law_indexes", "_law_indexes", defArgs s__law_indexes, defBody s__law_indexes, defScope s__law_indexes, [], []⟩
def d__law_table : He.DefD := ⟨("_law_table", none), "_law_table", "_law_table", defArgs s__law_table, defBody s__law_table, defScope s__law_table, [], []⟩
def d__law_heavy : He.DefD := ⟨("_law_heavy", none), "_law_heavy", "_law_heavy", defArgs s__law_heavy, defBody s__law_heavy, defScope s__law_heavy, [], []⟩
def d__law_right : He.DefD := ⟨("_law_right", none), "_law_right", "_law_right", defArgs s__law_right, defBody s__law_right, defScope s__law_right, [], []⟩
def d__law_ends_right : He.DefD := ⟨("_law_ends_right", none), "_law_ends_right", "_law_ends_right", defArgs s__law_ends_right, defBody s__law_ends_right, defScope s__law_ends_right, [], []⟩
def d_law : He.DefD := ⟨("law", none), "law", "law", defArgs s_law, defBody s_law, defScope s_law, [], []⟩

def fn0 : List He.DefD := [d_is_integer, d_is_number_below, d_is_column, d_are_unlike, d_are_columns, d_is_last, d_is_question, d_is_index, d_is_weight, d_columns_of, d_width, d_is_below, d_can_share, d_split_pair, d_climb, d_upwards, d_first_fault, d_serves, d_blocks_of, d_index_for, d_Shelf___init__, d_Shelf_with_index, d_Shelf___add__, d_Shelf___getitem__, d_Shelf___iter__, d_Shelf___len__, d_Shelf___eq__, d_are_weights, d_are_pairs, d_lead]
def fn1 : List He.DefD := [d_matched, d_chained, d_Lot___init__, d_Lot_odd_pairs, d_Lot_heavy_first, d_Lot_steps, d_Lot_tops_from, d_Lot_width, d_Lot_least_sum, d_Lot_chains, d_Lot___len__, d_Asked___init__, d_Asked_questions, d_Asked___iter__, d_Asked___len__, d_is_served, d_unserved, d_pairs_of, d_shelf_of, d_plain_lot, d_fewest, d_serves_all, d_weight_of, d_lot_of, d_least_cost, d_weight_of_index, d_cost, d_narrow_shelf, d_is_under, d_led_lot]
def fn2 : List He.DefD := [d_lengthened, d_shelf_led, d_least_added, d_led_on, d_is_led, d_is_led_on, d_least_more, d_more_shelf, d_is_more, d_Weights___init__, d_Weights___call__, d__law_bag, d__law_take, d__law_one, d__law_mixed, d__law_names, d__law_question, d__law_beginning, d__law_questions, d__law_index, d__law_indexes, d__law_table, d__law_heavy, d__law_right, d__law_ends_right, d_law]
def fn : List He.DefD := fn0 ++ (fn1 ++ (fn2))
def fa0 : List He.Fa := [.glo "is_integer", .glo "is_number_below", .glo "is_column", .glo "are_unlike", .glo "are_columns", .glo "is_last", .glo "is_question", .glo "is_index", .glo "is_weight", .glo "columns_of", .glo "width", .glo "is_below", .glo "can_share", .glo "split_pair", .glo "climb", .glo "upwards", .glo "first_fault", .glo "serves", .glo "blocks_of", .glo "index_for", .glo "are_weights", .glo "are_pairs", .glo "lead", .glo "matched", .glo "chained", .glo "is_served", .glo "unserved", .glo "pairs_of", .glo "shelf_of", .glo "plain_lot"]
def fa1 : List He.Fa := [.glo "fewest", .glo "serves_all", .glo "weight_of", .glo "lot_of", .glo "least_cost", .glo "weight_of_index", .glo "cost", .glo "narrow_shelf", .glo "is_under", .glo "led_lot", .glo "lengthened", .glo "shelf_led", .glo "least_added", .glo "led_on", .glo "is_led", .glo "is_led_on", .glo "least_more", .glo "more_shelf", .glo "is_more", .glo "_law_bag", .glo "_law_take", .glo "_law_one", .glo "_law_mixed", .glo "_law_names", .glo "_law_question", .glo "_law_beginning", .glo "_law_questions", .glo "_law_index", .glo "_law_indexes", .glo "_law_table"]
def fa2 : List He.Fa := [.glo "_law_heavy", .glo "_law_right", .glo "_law_ends_right", .glo "law", .glo "Shelf", .glo "Asked", .glo "Lot", .glo "Weights", .free "isinstance", .free "len", .free "all", .free "any", .free "sorted", .free "set", .free "list", .free "tuple", .free "enumerate", .free "range", .free "sum", .free "iter", .free "abs", .free "int", .free "bool", .free "str", .free "dict", .int "LONGEST" 8, .int "MOST_THINGS" 48, .str "LETTERS" "abcdefghijklmnopqrstuvwxyz", .cls "Shelf", .mkr "Shelf"]
def fa3 : List He.Fa := [.noat "Shelf" "kept_indexes", .cls "Asked", .mkr "Asked", .noat "Asked" "kept_questions", .cls "Lot", .mkr "Lot", .noat "Lot" "kept_weights", .noat "Lot" "kept_pairs", .noat "Lot" "kept_above", .noat "Lot" "kept_match", .cls "Weights", .mkr "Weights", .noat "Weights" "kept_table", .meth "Shelf" "__init__", .meth "Shelf" "with_index", .meth "Shelf" "__add__", .meth "Shelf" "__getitem__", .meth "Shelf" "__iter__", .meth "Shelf" "__len__", .meth "Shelf" "__eq__", .meth "Lot" "__init__", .meth "Lot" "odd_pairs", .meth "Lot" "heavy_first", .meth "Lot" "steps", .meth "Lot" "tops_from", .meth "Lot" "width", .meth "Lot" "least_sum", .meth "Lot" "chains", .meth "Lot" "__len__", .meth "Asked" "__init__"]
def fa4 : List He.Fa := [.meth "Asked" "questions", .meth "Asked" "__iter__", .meth "Asked" "__len__", .meth "Weights" "__init__", .meth "Weights" "__call__"]
def fa : List He.Fa := fa0 ++ (fa1 ++ (fa2 ++ (fa3 ++ (fa4))))
def loose0 : List PySem.Str := ["_wall", "__name__", "KeysError", "Wrong", "Apart", "TooMany", "NoNumber", "NoOrder", "Unfit", "NoColumn", "LETTERS", "LONGEST", "MOST_THINGS", "is_integer", "is_number_below", "is_column", "are_unlike", "are_columns", "is_last", "is_question", "is_index", "is_weight", "columns_of", "width", "is_below", "can_share", "split_pair", "climb", "upwards", "first_fault"]
def loose1 : List PySem.Str := ["serves", "blocks_of", "index_for", "Shelf", "are_weights", "are_pairs", "lead", "matched", "chained", "Lot", "Asked", "is_served", "unserved", "pairs_of", "shelf_of", "plain_lot", "fewest", "serves_all", "weight_of", "lot_of", "least_cost", "weight_of_index", "cost", "narrow_shelf", "is_under", "led_lot", "lengthened", "shelf_led", "least_added", "led_on"]
def loose2 : List PySem.Str := ["is_led", "is_led_on", "least_more", "more_shelf", "is_more", "Weights", "_law_bag", "_law_take", "_law_one", "_law_mixed", "_law_names", "_law_question", "_law_beginning", "_law_questions", "_law_index", "_law_indexes", "_law_table", "_law_heavy", "_law_right", "_law_ends_right"]
def loose : List PySem.Str := loose0 ++ (loose1 ++ (loose2))
end NK
end

section
set_option Elab.async false
set_option linter.all false
set_option maxRecDepth 100000
set_option maxHeartbeats 4000000
namespace NK
open PySem PySem.Spec L2
open PyProof.Rows hiding St

/-! ### data at a heap -/
section
variable {K : PySem.W.Frag} {H H' H1 H2 : Hp}
theorem Same.rd (e : Same H H') {a : Addr} {u : HO} (h : Rd H a u) : Rd H' a u := by
  rcases h with h | ⟨o, h⟩
  · exact .inl (e _ _ h)
  · exact .inr ⟨o, e _ _ h⟩
theorem Same.sqL (e : Same H H') {a : Addr} {xs : List V} (h : SqL K H a xs) : SqL K H' a xs := h.elim (fun q => .inl (Same.rd e q)) .inr
theorem Same.sqT (e : Same H H') {a : Addr} {xs : List V} (h : SqT K H a xs) : SqT K H' a xs := h.elim (fun q => .inl (Same.rd e q)) .inr
mutual
theorem Dp.up (e : Same H H') : ∀ {d : PyData} {v : V}, Dp K H v d → Dp K H' v d
  | .none, _, .non => .non
  | .bool _, _, .bl b => .bl b
  | .int _, _, .int i => .int i
  | .str _, _, .str x => .str x
  | .list _, _, .lst h t => .lst (Same.sqL e h) (DpAll.up e t)
  | .tuple _, _, .tup h t => .tup (Same.sqT e h) (DpAll.up e t)
theorem DpAll.up (e : Same H H') : ∀ {ds : List PyData} {vs : List V}, DpAll K H vs ds → DpAll K H' vs ds
  | [], _, .nil => .nil
  | _ :: _, _, .cons h t => .cons (Dp.up e h) (DpAll.up e t)
end
theorem Same.new {p : Addr} {o : HO} (h : H p = none) : Same H (upd H p o) := fun a u e => by
  rw [upd_ne (ne_of_none e h)]
  exact e
/-- what H did not know may change -/
theorem Same.wr (e : Same H H') {p : Addr} {o : HO} (h : H p = none) : Same H (upd H' p o) := fun a u ha => by
  rw [upd_ne (ne_of_none ha h)]
  exact e a u ha
theorem DpAll.len : ∀ {vs : List V} {ds : List PyData}, DpAll K H vs ds → vs.length = ds.length
  | _, _, .nil => rfl
  | _, _, .cons _ t => congrArg Nat.succ (DpAll.len t)
theorem DpAll.get : ∀ {vs : List V} {ds : List PyData} {i : Nat} {v : V}, DpAll K H vs ds → vs[i]? = some v → ∃ d, ds[i]? = some d ∧ Dp K H v d
  | _, _, i, _, .nil, h => by simp at h
  | _, _, 0, _, .cons h _, e => by
    have e := Option.some.inj e
    subst e
    exact ⟨_, rfl, h⟩
  | _, _, i + 1, v, .cons _ t, e => DpAll.get (i := i) t e
theorem DpAll.get' : ∀ {vs : List V} {ds : List PyData} {i : Nat} {d : PyData}, DpAll K H vs ds → ds[i]? = some d → ∃ v, vs[i]? = some v ∧ Dp K H v d
  | _, _, i, _, .nil, h => by simp at h
  | _, _, 0, _, .cons h _, e => by
    have e := Option.some.inj e
    subst e
    exact ⟨_, rfl, h⟩
  | _, _, i + 1, v, .cons _ t, e => DpAll.get' (i := i) t e
theorem DpAll.app : ∀ {vs ws : List V} {ds es : List PyData}, DpAll K H vs ds → DpAll K H ws es → DpAll K H (vs ++ ws) (ds ++ es)
  | _, _, _, _, .nil, b => b
  | _, _, _, _, .cons h t, b => .cons h (DpAll.app t b)
theorem DpAll.take : ∀ {vs : List V} {ds : List PyData} (n : Nat), DpAll K H vs ds → DpAll K H (vs.take n) (ds.take n)
  | _, _, 0, _ => .nil
  | _, _, _ + 1, .nil => .nil
  | _, _, n + 1, .cons h t => .cons h (DpAll.take n t)
theorem DpAll.drop : ∀ {vs : List V} {ds : List PyData} (n : Nat), DpAll K H vs ds → DpAll K H (vs.drop n) (ds.drop n)
  | _, _, 0, h => h
  | _, _, _ + 1, .nil => .nil
  | _, _, n + 1, .cons _ t => DpAll.drop n t
theorem DpAll.strs : ∀ {vs : List V} {ss : List Str}, DpAll K H vs (ss.map .str) → vs = ss.map .str
  | _, [], .nil => rfl
  | _, _ :: _, .cons h t => by
    cases h
    rw [DpAll.strs t] <;> rfl
theorem DpAll.ofStrs : ∀ (ss : List Str), DpAll K H (ss.map .str) (ss.map .str)
  | [] => .nil
  | s :: ss => .cons (.str s) (DpAll.ofStrs ss)
theorem DpAll.ints : ∀ {vs : List V} {ss : List Int}, DpAll K H vs (ss.map .int) → vs = ss.map .int
  | _, [], .nil => rfl
  | _, _ :: _, .cons h t => by
    cases h
    rw [DpAll.ints t] <;> rfl
theorem DpAll.ofInts : ∀ (ss : List Int), DpAll K H (ss.map .int) (ss.map .int)
  | [] => .nil
  | s :: ss => .cons (.int s) (DpAll.ofInts ss)
theorem Dp.tupI {v : V} {ds : List PyData} (h : Dp K H v (.tuple ds)) : ∃ a xs, v = .ref a ∧ SqT K H a xs ∧ DpAll K H xs ds := by
  cases h with
  | tup h t => exact ⟨_, _, rfl, h, t⟩
theorem Dp.lstI {v : V} {ds : List PyData} (h : Dp K H v (.list ds)) : ∃ a xs, v = .ref a ∧ SqL K H a xs ∧ DpAll K H xs ds := by
  cases h with
  | lst h t => exact ⟨_, _, rfl, h, t⟩
theorem Dp.strI {v : V} {x : Str} (h : Dp K H v (.str x)) : v = .str x := by cases h; rfl
theorem Dp.intI {v : V} {x : Int} (h : Dp K H v (.int x)) : v = .int x := by cases h; rfl
theorem Dp.blI {v : V} {x : Bool} (h : Dp K H v (.bool x)) : v = .bl x := by cases h; rfl
end

/-! ### what an expression gives: S holds what never changes again, H all -/
/-- (S, H) grows to (S', H'): what stands stands; what is newly held for ever is new -/
structure Gw (S H S' H' : Hp) : Prop where
  ss : Same S S'
  hh : Same H H'
  sh : Same S' H'
  old : ∀ p o, H p = some o → S' p = S p
section
variable {S H S1 H1 S2 H2 S' H' : Hp} {p : Addr} {o : HO}
theorem Gw.refl (e : Same S H) : Gw S H S H := ⟨Same.refl S, Same.refl H, e, fun _ _ _ => rfl⟩
theorem Gw.trans (a : Gw S H S1 H1) (b : Gw S1 H1 S2 H2) : Gw S H S2 H2 := ⟨a.ss.trans b.ss, a.hh.trans b.hh, b.sh, fun p o h => (b.old p o (a.hh p o h)).trans (a.old p o h)⟩
theorem upd_mono (e : Same S H) : Same (upd S p o) (upd H p o) := fun b u h => by
  by_cases hb : b = p
  · subst hb
    rw [upd_same] at h ⊢
    exact h
  · rw [upd_ne hb] at h ⊢
    exact e b u h
/-- a new thing that stands for ever -/
theorem Gw.new (e : Same S H) (h : H p = none) : Gw S H (upd S p o) (upd H p o) :=
  ⟨Same.new (e.free h), Same.new h, upd_mono e, fun b u hb => upd_ne (ne_of_none hb h)⟩
/-- a new thing that may change -/
theorem Gw.mut (e : Same S H) (h : H p = none) : Gw S H S (upd H p o) := ⟨Same.refl S, Same.new h, e.trans (Same.new h), fun _ _ _ => rfl⟩
/-- it changes -/
theorem Gw.wr (g : Gw S H S1 H1) (h : H p = none) (hs : S1 p = none) : Gw S H S1 (upd H1 p o) := ⟨g.ss, Same.wr g.hh h, Same.wr g.sh hs, g.old⟩
/-- it changes no more -/
theorem Gw.frz (g : Gw S H S1 H1) (h : H p = none) (hs : S1 p = none) (h1 : H1 p = some o) : Gw S H (upd S1 p o) H1 := by
  refine ⟨g.ss.trans (Same.new hs), g.hh, fun b u hb => ?_, fun b u hb => ?_⟩
  · by_cases e : b = p
    · subst e
      rw [upd_same] at hb
      rw [h1]
      exact hb
    · rw [upd_ne e] at hb
      exact g.sh b u hb
  · rw [upd_ne (ne_of_none hb h)]
    exact g.old b u hb
theorem Gw.none (g : Gw S H S1 H1) (hs : S p = Option.none) {u : HO} (h : H p = some u) : S1 p = Option.none := (g.old p u h).trans hs
theorem Gw.free (g : Gw S H S1 H1) (h : H1 p = Option.none) : H p = Option.none := g.hh.free h
end

abbrev Rel := V → Hp → Prop
def Up (R : Rel) : Prop := ∀ v H H', Same H H' → R v H → R v H'
def G (te : TE) (σ : St) (S : Hp) (R : Rel) : Prop := ∀ S1 H1, Same S S1 → Same S1 H1 → ∀ Q : VK, (∀ v S2 H2, Gw S1 H1 S2 H2 → R v S2 → Q v H2) → te σ H1 Q
def GT (tt : TT) (σ : St) (S : Hp) (b : Bool) : Prop := ∀ S1 H1, Same S S1 → Same S1 H1 → ∀ Q : Bool → Hp → Prop, (∀ S2 H2, Gw S1 H1 S2 H2 → Q b H2) → tt σ H1 Q
def GA (ta : TA) (σ : St) (S : Hp) (R : List V → Hp → Prop) : Prop := ∀ S1 H1, Same S S1 → Same S1 H1 → ∀ Q : List V → Hp → Prop, (∀ vs S2 H2, Gw S1 H1 S2 H2 → R vs S2 → Q vs H2) → ta σ H1 Q
/-- the value v itself -/
abbrev Is (v : V) : Rel := fun x _ => x = v
/-- data -/
abbrev D (K : PySem.W.Frag) (d : PyData) : Rel := fun v H => Dp K H v d
section
variable {K : PySem.W.Frag} {σ : St} {S S' H H' : Hp} {ta tb te : TE} {tt tu : TT} {R T : Rel} {v w : V}
theorem G.up (e : Same S S') (h : G te σ S R) : G te σ S' R := fun S1 H1 a b Q q => h S1 H1 (e.trans a) b Q q
theorem GT.up {b : Bool} (e : Same S S') (h : GT tt σ S b) : GT tt σ S' b := fun S1 H1 a b Q q => h S1 H1 (e.trans a) b Q q
theorem G.imp (h : G te σ S R) (i : ∀ v S2, Same S S2 → R v S2 → T v S2) : G te σ S T := fun S1 H1 a b Q q => h S1 H1 a b Q fun v S2 H2 e r => q v S2 H2 e (i v S2 (a.trans e.ss) r)
theorem Up.is : Up (Is v) := fun _ _ _ _ h => h
theorem Up.d {d : PyData} : Up (D K d) := fun _ _ _ e h => Dp.up e h
theorem g_var {i : Nat} (h : σ[i]? = some (some v)) (r : R v S) (u : Up R) : G (tVar i) σ S R := fun S1 H1 e b Q q => ⟨v, h, q v S1 H1 (.refl b) (u _ _ _ e r)⟩
theorem g_is {i : Nat} (h : σ[i]? = some (some v)) : G (tVar i) σ S (Is v) := g_var h rfl .is
theorem g_c : G (tC v) σ S (Is v) := fun S1 H1 _ b Q q => q v S1 H1 (.refl b) rfl
theorem ga_nil : GA tNil σ S (fun vs _ => vs = []) := fun S1 H1 _ b Q q => q _ S1 H1 (.refl b) rfl
theorem ga_cons {t : TA} {RA : List V → Hp → Prop} (h : G te σ S R) (u : Up R) (ht : GA t σ S RA) : GA (tCons te t) σ S (fun vs H => ∃ v ws, vs = v :: ws ∧ R v H ∧ RA ws H) := fun S1 H1 e b Q q =>
  h S1 H1 e b _ fun v S2 H2 e2 r => ht S2 H2 (e.trans e2.ss) e2.sh _ fun ws S3 H3 e3 r3 => q _ S3 H3 (e2.trans e3) ⟨v, ws, rfl, u _ _ _ e3.ss r, r3⟩
theorem ga_one (h : G te σ S R) : GA (tCons te tNil) σ S (fun vs H => ∃ v, vs = [v] ∧ R v H) := fun S1 H1 e b Q q =>
  h S1 H1 e b _ fun v S2 H2 e2 r => q _ S2 H2 e2 ⟨v, rfl, r⟩
theorem ga_two (h : G ta σ S R) (u : Up R) (k : G tb σ S T) : GA (tCons ta (tCons tb tNil)) σ S (fun vs H => ∃ v w, vs = [v, w] ∧ R v H ∧ T w H) := fun S1 H1 e b Q q =>
  h S1 H1 e b _ fun v S2 H2 e2 r => k S2 H2 (e.trans e2.ss) e2.sh _ fun w S3 H3 e3 s => q _ S3 H3 (e2.trans e3) ⟨v, w, rfl, u _ _ _ e3.ss r, s⟩
/-- an operation on two values -/
theorem g_op {r : R2} {U : Rel} (ha : G ta σ S R) (u : Up R) (hb : G tb σ S T) (hr : ∀ x y S1 H1, Same S S1 → Same S1 H1 → R x S1 → T y S1 → ∀ Q : VK, (∀ v S2 H2, Gw S1 H1 S2 H2 → U v S2 → Q v H2) → r x y H1 Q) : G (tOp r ta tb) σ S U := fun S1 H1 e b Q q =>
  ha S1 H1 e b _ fun x S2 H2 e2 rx => hb S2 H2 (e.trans e2.ss) e2.sh _ fun y S3 H3 e3 ry => hr x y S3 H3 ((e.trans e2.ss).trans e3.ss) e3.sh (u _ _ _ e3.ss rx) ry Q fun v S4 H4 e4 t => q v S4 H4 ((e2.trans e3).trans e4) t
theorem g_cb {t : TA} {r : List V → Hp → VK → Prop} {RA : List V → Hp → Prop} {U : Rel} (ha : GA t σ S RA) (hr : ∀ vs S1 H1, Same S S1 → Same S1 H1 → RA vs S1 → ∀ Q : VK, (∀ v S2 H2, Gw S1 H1 S2 H2 → U v S2 → Q v H2) → r vs H1 Q) : G (tCB r t) σ S U := fun S1 H1 e b Q q =>
  ha S1 H1 e b _ fun vs S2 H2 e2 rv => hr vs S2 H2 (e.trans e2.ss) e2.sh rv Q fun v S3 H3 e3 tv => q v S3 H3 (e2.trans e3) tv
theorem gt_test {b : Bool} (h : G te σ S (Is (.bl b))) : GT (tTest te) σ S b := fun S1 H1 e c Q q => h S1 H1 e c _ fun v S2 H2 e2 r => ⟨b, r, q S2 H2 e2⟩
theorem gt_B {b : Bool} (h : G te σ S (Is (.bl b))) : GT (tB te) σ S b := fun S1 H1 e c Q q => h S1 H1 e c _ fun v S2 H2 e2 r => ⟨b, r, q S2 H2 e2⟩
theorem gt_not {b : Bool} (h : GT tt σ S b) : GT (tNot tt) σ S (!b) := fun S1 H1 e c Q q => h S1 H1 e c _ fun S2 H2 e2 => q S2 H2 e2
theorem gt_and {a b : Bool} (h : GT tt σ S a) (k : a = true → GT tu σ S b) : GT (tAnd tt tu) σ S (a && b) := fun S1 H1 e c Q q => h S1 H1 e c _ fun S2 H2 e2 => by
  cases a with
  | true => exact k rfl S2 H2 (e.trans e2.ss) e2.sh Q fun S3 H3 e3 => q S3 H3 (e2.trans e3)
  | false => exact q S2 H2 e2
theorem gt_or {a b : Bool} (h : GT tt σ S a) (k : a = false → GT tu σ S b) : GT (tOr tt tu) σ S (a || b) := fun S1 H1 e c Q q => h S1 H1 e c _ fun S2 H2 e2 => by
  cases a with
  | true => exact q S2 H2 e2
  | false => exact k rfl S2 H2 (e.trans e2.ss) e2.sh Q fun S3 H3 e3 => q S3 H3 (e2.trans e3)
theorem g_and {a b : Bool} (h : G ta σ S (Is (.bl a))) (k : a = true → G tb σ S (Is (.bl b))) : G (tAndV ta tb) σ S (Is (.bl (a && b))) := fun S1 H1 e c Q q => h S1 H1 e c _ fun v S2 H2 e2 r => ⟨a, r, by
  cases a with
  | true => exact k rfl S2 H2 (e.trans e2.ss) e2.sh Q fun w S3 H3 e3 s => q w S3 H3 (e2.trans e3) s
  | false => exact q _ S2 H2 e2 rfl⟩
theorem g_or {a b : Bool} (h : G ta σ S (Is (.bl a))) (k : a = false → G tb σ S (Is (.bl b))) : G (tOrV ta tb) σ S (Is (.bl (a || b))) := fun S1 H1 e c Q q => h S1 H1 e c _ fun v S2 H2 e2 r => ⟨a, r, by
  cases a with
  | true => exact q _ S2 H2 e2 rfl
  | false => exact k rfl S2 H2 (e.trans e2.ss) e2.sh Q fun w S3 H3 e3 s => q w S3 H3 (e2.trans e3) s⟩
theorem g_not {a : Bool} (h : G ta σ S (Is (.bl a))) : G (tNotV ta) σ S (Is (.bl (!a))) := fun S1 H1 e c Q q => h S1 H1 e c _ fun v S2 H2 e2 r => ⟨a, r, q _ S2 H2 e2 rfl⟩
theorem g_if {b : Bool} (h : GT tt σ S b) (k1 : b = true → G ta σ S R) (k2 : b = false → G tb σ S R) : G (tIf tt ta tb) σ S R := fun S1 H1 e c Q q => h S1 H1 e c _ fun S2 H2 e2 => by
  cases b with
  | true => exact k1 rfl S2 H2 (e.trans e2.ss) e2.sh Q fun w S3 H3 e3 s => q w S3 H3 (e2.trans e3) s
  | false => exact k2 rfl S2 H2 (e.trans e2.ss) e2.sh Q fun w S3 H3 e3 s => q w S3 H3 (e2.trans e3) s
theorem g_eq {v' : V} (h : G te σ S (Is v)) (e : v = v') : G te σ S (Is v') := e ▸ h
theorem gt_eq {a b : Bool} (h : GT tt σ S a) (e : a = b) : GT tt σ S b := e ▸ h

/-! ### statements -/
variable {E : Ends} {ts tz : TS}
theorem s_ret (h : G te σ S R) (b : Same S H) (k : ∀ v S1 H1, Gw S H S1 H1 → R v S1 → E.rt v H1) : tRet te E σ H := h S H (Same.refl S) b _ k
theorem s_set {i : Nat} (h : G te σ S R) (b : Same S H) (k : ∀ v S1 H1, Gw S H S1 H1 → R v S1 → E.nx (σ.set i (some v)) H1) : tAsg te (gName i) E σ H := h S H (Same.refl S) b _ k
theorem s_if {c : Bool} (h : GT tt σ S c) (b : Same S H) (k1 : c = true → ∀ S1 H1, Gw S H S1 H1 → ts E σ H1) (k2 : c = false → ∀ S1 H1, Gw S H S1 H1 → tz E σ H1) : tIfS tt ts tz E σ H := h S H (Same.refl S) b _ fun S1 H1 e => by
  cases c with
  | true => exact k1 rfl S1 H1 e
  | false => exact k2 rfl S1 H1 e
end

/-! ### pure promises -/
/-- from arguments of which A says a, a value of which R a is true; nothing that stood is changed -/
def Pu {α : Type} (A : α → List V → Hp → Prop) (R : α → Rel) : Sp := fun vs H Q _ => ∃ a S, Same S H ∧ A a vs S ∧ ∀ v S' H', Gw S H S' H' → R a v S' → Q v H'

/-! ### the facts of the top -/
structure Fx (K : PySem.W.Frag) (mg : Str → Option Value) : Prop where
  says : He.SaysD fa fn K
  at_ : ∃ h, K.In h ∧ h.Ns mainGlobals mg
  sf : PySem.W.selfFirst K (He.ga K "Shelf") = true
  c1 : PySem.W.findIn K (.ref (He.ga K "Shelf")) "__class__" = some (some (.builtin "object.__class__"))
  c2 : PySem.W.specialIn K (.builtin "object.__class__") "__get__" = some (some (.builtin "getset_descriptor.__get__"))
  c3 : PySem.W.takesIn K (.builtin "object.__class__") = some true
  c4 : PySem.W.mroIn K (He.ga K "Shelf") (.type "object") = some true
section
variable {K : PySem.W.Frag} {mg : Str → Option Value}
theorem Fx.glo (T : Fx K mg) (i : Nat) {x : Str} (h : fa[i]? = some (.glo x) := by rfl) : mg x = some (.ref (He.ga K x)) := by
  obtain ⟨h0, X, N⟩ := T.at_
  exact He.glo_ok X N (T.says.fact i h)
theorem Fx.free (T : Fx K mg) (i : Nat) {x : Str} (h : fa[i]? = some (.free x) := by rfl) : mg x = none := by
  obtain ⟨h0, X, N⟩ := T.at_
  exact He.free_ok X N (T.says.fact i h)
theorem Fx.int (T : Fx K mg) (i : Nat) {x : Str} {n : Int} (h : fa[i]? = some (.int x n) := by rfl) : ∃ t, mg x = some (.int n t) := by
  obtain ⟨h0, X, N⟩ := T.at_
  exact He.int_ok X N (T.says.fact i h)
theorem Fx.str (T : Fx K mg) (i : Nat) {x z : Str} (h : fa[i]? = some (.str x z) := by rfl) : ∃ t, mg x = some (.str z t) := by
  obtain ⟨h0, X, N⟩ := T.at_
  exact He.str_ok X N (T.says.fact i h)
theorem Fx.fun_ (T : Fx K mg) (i : Nat) {d : He.DefD} (h : fn[i]? = some d := by rfl) : ∃ fd, FunD K d.name d.qual d.params d.body d.scope (d.dvs K) (d.kws K) (He.fAd K d.at_) fd := T.says.def_ i h
end
end NK
end

section
set_option Elab.async false
set_option linter.all false
set_option maxRecDepth 100000
set_option maxHeartbeats 4000000
namespace NK
open PySem PySem.Spec L2
open PyProof.Rows hiding St

/-! ### defs and their calls -/
/-- a def of the module: its name x, its promise -/
structure Cal (P : Program) (w : World) (K : PySem.W.Frag) (mg : Str → Option Value) (base : Heap) (k : Nat) (x : Str) (sp : Sp) : Prop where
  run : FnR P w K mg base CX0 k (He.ga K x) sp
  at_ : mg x = some (.ref (He.ga K x))
  kp : PySem.W.keepIn K (.ref (He.ga K x)) = true
/-- a method m of the class C -/
structure CalM (P : Program) (w : World) (K : PySem.W.Frag) (mg : Str → Option Value) (base : Heap) (k : Nat) (C m : Str) (sp : Sp) : Prop where
  run : FnR P w K mg base CX0 k (He.ma K (He.ga K C) m) sp
  mt : Meth K (He.ga K C) m (He.ma K (He.ga K C) m)
  cl : Cls K (He.ga K C)
  fi : PySem.W.fnIn K (He.ma K (He.ga K C) m) = true

section
variable {P : Program} {w : World} {K : PySem.W.Frag} {mg : Str → Option Value} {base : Heap} {k j : Nat} {x C m : Str} {sp : Sp}
theorem Cal.mono (F : Cal P w K mg base j x sp) (h : j ≤ k) : Cal P w K mg base k x sp := ⟨F.run.mono h, F.at_, F.kp⟩
theorem CalM.mono (F : CalM P w K mg base j C m sp) (h : j ≤ k) : CalM P w K mg base k C m sp := ⟨F.run.mono h, F.mt, F.cl, F.fi⟩

/-- a def of positional parameters, by its body -/
theorem fn_pos {name qual : Str} {params : Arguments} {body : List Stmt} {scope : Scope} {f : Addr} {fd : FuncData} {N ps : List Str}
    (F : FunD K name qual params body scope [] [] f fd) (S : FnScope N ps scope) (len : ∀ vs H Q E, sp vs H Q E → vs.length = ps.length)
    (hb : ∀ (kV doc pm : Value) (an : Option Addr) (cdv ct : Value) (us : List Value), us.length = ps.length → bindArgs (PySem.W.fnOf name qual params body scope .none kV doc pm an cdv ct) ⟨us, []⟩ = pure (ps.zip us))
    (hbody : ∀ (cdv : Value) (A : Around) (outer : List Env) (s : Shared) (H : Hp) (vs : List V) (Q : VK) (E : XK), Room k (A.deeper (envOfC qual scope s.heap.objs.size f cdv)) → sp vs H Q E →
      ∃ t, PSs (cxOf CX0 P w K mg base N qual scope f cdv A outer s H E).nox body t ∧ t { nx := fun _ H' => Q .non H', rt := Q } (start N vs) H) :
    FnR P w K mg base CX0 (k + 1) f sp := by
  have G := F.ok (CX := CX0) (P := P) (w := w) (mg := mg) (base := base) (k := k) S len fun cdv A outer s H vs Q E hr h => by
    obtain ⟨t, h1, h2⟩ := hbody cdv A outer s H vs Q E hr h
    exact ⟨t, h1.nox, h2⟩
  have R := G.raw (F.bindsN hb) .nil
  refine R.imp fun vs H Q E h => ?_
  rw [List.append_nil]
  exact h
theorem fnIn_of {name qual : Str} {params : Arguments} {body : List Stmt} {scope : Scope} {f : Addr} {fd : FuncData} {dvs : List V} {kws : List (Str × V)} (F : FunD K name qual params body scope dvs kws f fd) : PySem.W.fnIn K f = true := by
  obtain ⟨oc, od, dV, kV, doc, pm, an, cdv, ct, osl, rfl, lk, _⟩ := F.ex
  unfold PySem.W.fnIn
  rw [lk] <;> rfl
end

def tF (sp : Sp) (t : TA) : TE := fun σ H Q => t σ H fun vs H1 => sp vs H1 Q E0
section
variable {X : Cx} {k : Nat} {x C m : Str} {sp : Sp} {e o : Expr} {es : List Expr} {te ta : TE} {t : TA} {p pos apos : Pos}
theorem pe_f (F : Cal X.prog X.w X.K X.mg X.base k x sp) (hr : Room k X.A) (ha : PA X (e :: es) t) (hg : Gl X x := by rfl) (hd : (x == ("__debug__" : Str)) = false := by decide)
    (he : starEach (e :: es) X.env = (false, eval e X.env) :: starEach es X.env := by rfl) (hpl : (backTo pos (starEach es X.env)).any (·.1) = false := by rfl) :
    PE X (.Call (.Name x p) (e :: es) [] pos) (tF sp t) := by
  refine ⟨fun pins s σ H Q I h => ?_⟩
  refine wpAny_Call_Name_kw (ld_glob I hg F.at_ ?_ hd)
  refine PySem.W.callWith_K (h₀ := X.base) I.ok.mod.kin F.kp (thn (ha.run pos pins s σ H _ I h) fun us s1 ⟨vs, H1, I1, r, q⟩ => ⟨I1.kIn, ?_⟩) he hpl
  exact wpAny_call (run_fnR F.run hr pass0 I1 r q)
/-- o.m() -/
def tM (C m : Str) (K : PySem.W.Frag) (sp : Sp) (ta : TE) (t : TA) : TE := fun σ H Q => ta σ H fun x H1 => ∃ a dx fs, x = .ref a ∧ H1 a = some (.ins (He.ga K C) dx fs) ∧ fs.lookup m = none ∧ t σ H1 fun vs H2 => sp (x :: vs) H2 Q E0
theorem pe_m0 {pl : Sem Bool} (F : CalM X.prog X.w X.K X.mg X.base k C m sp) (hr : Room k X.A) (he : PE X o ta)
    (ht : eval (.Call (.Attribute o m apos) [] [] pos) X.env = (do
      let ov ← eval o X.env
      standAt apos.atName
      let (f, first) ← holding [ov] (getMethod ov m pl)
      callWith pos f first (backTo pos (starEach [] X.env)) (backToKw pos (keywordEach [] X.env))) := by rfl) :
    PE X (.Call (.Attribute o m apos) [] [] pos) (tM C m X.K sp ta tNil) := by
  refine ⟨fun pins s σ H Q I h => ?_⟩
  refine PySem.W.methodCall_KW (pl := pl) (thn (he.run pins s σ H _ I h) fun u s1 ⟨x, H1, I1, rx, a, dx, fs, ex, ea, l, q⟩ => ?_) ht
  subst ex
  obtain rfl : u = Value.ref a := rx
  refine getmeth_ok I1 ea F.cl F.mt l ?_
  exact PySem.W.callWith_K0 (first := [.ref a]) I1.kIn F.mt.kp (wpAny_call (run_fnR (us := [.ref a]) (vs := [.ref a]) F.run hr pass0 I1 (.cons rfl .nil) q))
theorem pe_m {pl : Sem Bool} (F : CalM X.prog X.w X.K X.mg X.base k C m sp) (hr : Room k X.A) (he : PE X o ta) (ha : PA X (e :: es) t)
    (hst : starEach (e :: es) X.env = (false, eval e X.env) :: starEach es X.env := by rfl) (hpl : (backTo pos (starEach es X.env)).any (·.1) = false := by rfl)
    (ht : eval (.Call (.Attribute o m apos) (e :: es) [] pos) X.env = (do
      let ov ← eval o X.env
      standAt apos.atName
      let (f, first) ← holding [ov] (getMethod ov m pl)
      callWith pos f first (backTo pos (starEach (e :: es) X.env)) (backToKw pos (keywordEach [] X.env))) := by rfl) :
    PE X (.Call (.Attribute o m apos) (e :: es) [] pos) (tM C m X.K sp ta t) := by
  have q := pe_methR (E := E0) he F.cl F.mt F.run hr pass0 ha hst hpl ht
  refine ⟨fun pins s σ H Q I h => q.run pins s σ H Q I ?_⟩
  exact h

/-! ### a call of a def from below (a built-in's own frame) -/
variable {pins : List (Addr × Obj)} {σ : L2.St} {H : Hp} {s : Shared}
theorem run_in1 {f : Addr} {Q : VK} {us : List Value} {vs : List V} (F : FnR X.prog X.w X.K X.mg X.base CX0 k f sp) (hr : Room (k + 1) X.A) (I : Inv X pins σ H s) (r : Vals vs us) (h : sp vs H Q E0) :
    wpAny (model X.prog X.w) X.A.in1 (call (.ref f) us) (EP X pins σ Q) X.xe s := by
  refine wpAny_call (codeAny_mono (F X.A.in1 X.stack s H us vs Q E0 hr.in1 I.env0.in1 r h) fun r s' hq => ?_)
  cases r with
  | error e => exact False.elim hq
  | ok fl =>
    cases fl with
    | ret u => exact I.after hq
    | next => exact False.elim hq
    | brk => exact False.elim hq
    | cont => exact False.elim hq
theorem run_in0 {f : Addr} {Q : VK} {us : List Value} {vs : List V} (F : FnR X.prog X.w X.K X.mg X.base CX0 k f sp) (hr : Room k X.A) (I : Inv X pins σ H s) (r : Vals vs us) (h : sp vs H Q E0) :
    wpAny (model X.prog X.w) X.A (call (.ref f) us) (EP X pins σ Q) X.xe s := wpAny_call (run_fnR F hr pass0 I r h)
theorem inst_of {a C dx : Addr} {fs : List (Str × V)} (I : Inv X pins σ H s) (h : H a = some (.ins C dx fs)) : ∃ od, PySem.W.InstAt s.heap a (PySem.W.instObj C dx) C (some od) := by
  obtain ⟨mA, J, _⟩ := ins_get I.hok h
  obtain ⟨od, J, _⟩ := J.look
  exact ⟨od, J⟩

/-- len(o) by the class's own __len__ -/
def rLenO (K : PySem.W.Frag) (C : Str) (sp : Sp) : List V → Hp → VK → Prop := fun vs H Q => ∃ a dx fs, vs = [.ref a] ∧ H a = some (.ins (He.ga K C) dx fs) ∧ sp [.ref a] H (fun v H2 => ∃ n : Int, v = .int n ∧ 0 ≤ n ∧ n < 2 ^ 63 ∧ Q (.int n) H2) E0
theorem cr_lenO (F : CalM X.prog X.w X.K X.mg X.base k C "__len__" sp) (hr : Room (k + 1) X.A) : CallR X (.builtin "len") (rLenO X.K C sp) := by
  intro pins s σ H xs us Q I r h
  obtain ⟨a, dx, fs, rfl, ha, hsp⟩ := h
  obtain ⟨u, rfl, ru⟩ := vals1 r
  obtain rfl : u = Value.ref a := ru
  obtain ⟨od, J⟩ := inst_of I ha
  obtain ⟨m, hF⟩ := I.fr
  refine PySem.W.len_K hF I.ok.mod.kin J F.mt.at_ F.mt.fn (wpAny_mono (run_in1 (vs := [.ref a]) (us := [.ref a]) F.run hr I (.cons rfl .nil) hsp) (fun v s' q => ?_) fun _ _ z => z)
  obtain ⟨y, H', I', rv, n, rfl, h0, h1, q⟩ := q
  obtain ⟨t, rfl⟩ := rv
  exact ⟨⟨h0, h1⟩, .int n, H', I'.tok _, ⟨_, rfl⟩, q⟩
/-- o[i] by the class's own __getitem__ -/
def rIxO (K : PySem.W.Frag) (C : Str) (sp : Sp) : R2 := fun x y H Q => ∃ a dx fs, x = .ref a ∧ H a = some (.ins (He.ga K C) dx fs) ∧ sp [.ref a, y] H Q E0
theorem ix_own (F : CalM X.prog X.w X.K X.mg X.base k C "__getitem__" sp) (hr : Room (k + 1) X.A) {b : Expr} {ta tb : TE} {a : Expr} (ha : PE X a ta) (hb : PE X b tb)
    (hsl : ∀ o i, subscripted b true o i = runValue (.builtin "lifetime.subscript" ⟨[o, i], []⟩) := by intro _ _; with_unfolding_all rfl) : PE X (.Subscript a b pos) (tOp (rIxO X.K C sp) ta tb) := by
  refine ⟨fun pins s σ H Q I h => ?_⟩
  refine Subscript_ (binT ha hb I h fun v u s2 x y H2 I2 rx ry q => ?_)
  obtain ⟨a, dx, fs, rfl, ha', hsp⟩ := q
  obtain rfl : v = Value.ref a := rx
  obtain ⟨od, J⟩ := inst_of I2 ha'
  obtain ⟨m, hF⟩ := I2.fr
  exact PySem.W.sub_K hF I2.ok.mod.kin J F.mt.at_ F.fi F.mt.fn (run_in1 (vs := [.ref a, y]) F.run hr I2 (.cons rfl (.cons ry .nil)) hsp) (hsl _ _)
/-- x + y by the class's own __add__, both of the class -/
def rAddO (K : PySem.W.Frag) (C : Str) (sp : Sp) : R2 := fun x y H Q => ∃ a dx fs b dy gs, x = .ref a ∧ y = .ref b ∧ H a = some (.ins (He.ga K C) dx fs) ∧ H b = some (.ins (He.ga K C) dy gs) ∧ sp [.ref a, .ref b] H (fun v H2 => (∃ c, v = .ref c) ∧ Q v H2) E0
theorem op_addO (F : CalM X.prog X.w X.K X.mg X.base k C "__add__" sp) (hs : PySem.W.selfFirst X.K (He.ga X.K C) = true) (hr : Room k X.A) : OpR X (binaryOp .Add) (rAddO X.K C sp) := by
  intro pins s σ H x y v u Q I rx ry h
  obtain ⟨a, dx, fs, b, dy, gs, rfl, rfl, ha, hb, hsp⟩ := h
  obtain rfl : v = Value.ref a := rx
  obtain rfl : u = Value.ref b := ry
  obtain ⟨od, J⟩ := inst_of I ha
  obtain ⟨od', J'⟩ := inst_of I hb
  obtain ⟨m, hF⟩ := I.fr
  refine PySem.W.binop_K hF I.ok.mod.kin J J'.type hs F.mt.at_ F.mt.fn (wpAny_mono (run_in0 (vs := [.ref a, .ref b]) (us := [.ref a, .ref b]) F.run hr I (.cons rfl (.cons rfl .nil)) hsp) (fun v s' q => ?_) fun _ _ z => z)
  obtain ⟨y, H', I', rv, ⟨c, rfl⟩, q⟩ := q
  obtain rfl : v = Value.ref c := rv
  exact ⟨.ref c, H', I', rfl, q⟩
/-- x == y by the class's own __eq__, both of the class -/
def rEqO (K : PySem.W.Frag) (C : Str) (sp : Sp) : R2 := fun x y H Q => ∃ a dx fs b dy gs, x = .ref a ∧ y = .ref b ∧ H a = some (.ins (He.ga K C) dx fs) ∧ H b = some (.ins (He.ga K C) dy gs) ∧ sp [.ref a, .ref b] H (fun v H2 => (∃ c, v = .bl c) ∧ Q v H2) E0
theorem op_eqO (F : CalM X.prog X.w X.K X.mg X.base k C "__eq__" sp) (hr : Room k X.A) : OpR X (compareOp .Eq) (rEqO X.K C sp) := by
  intro pins s σ H x y v u Q I rx ry h
  obtain ⟨a, dx, fs, b, dy, gs, rfl, rfl, ha, hb, hsp⟩ := h
  obtain rfl : v = Value.ref a := rx
  obtain rfl : u = Value.ref b := ry
  obtain ⟨od, J⟩ := inst_of I ha
  obtain ⟨od', J'⟩ := inst_of I hb
  obtain ⟨m, hF⟩ := I.fr
  show wpAny _ _ (richCompare .Eq _ _) _ _ _
  refine PySem.W.cmp_K (op := .Eq) (tb := .ref (He.ga X.K C)) hr.units0 hF I.ok.mod.kin J J'.type (by simp [PySem.W.notFirst]) F.mt.at_ F.mt.fn (wpAny_mono (run_in0 (vs := [.ref a, .ref b]) (us := [.ref a, .ref b]) F.run hr I (.cons rfl (.cons rfl .nil)) hsp) (fun v s' q => ?_) fun _ _ z => z)
  obtain ⟨y, H', I', rv, ⟨c, rfl⟩, q⟩ := q
  obtain rfl : v = Value.bool c := rv
  exact ⟨.bl c, H', I', rfl, q⟩
end
section
variable {σ : L2.St} {S : Hp} {t : TA} {α : Type} {A : α → List V → Hp → Prop} {R : α → Rel}
theorem g_call {a : α} (h : GA t σ S (A a)) : G (tF (Pu A R) t) σ S (R a) := fun S1 H1 e b Q q => h S1 H1 e b _ fun vs S2 H2 e2 r => ⟨a, S2, e2.sh, r, fun v S3 H3 e3 rv => q v S3 H3 (e2.trans e3) rv⟩
end
end NK
end

section
set_option Elab.async false
set_option linter.all false
set_option maxRecDepth 100000
set_option maxHeartbeats 4000000
namespace NK
open PySem PySem.Spec L2
open PyProof.Rows hiding St
section
variable {K : PySem.W.Frag} {mg : Str → Option Value}
theorem Fx.g_is_integer (T : Fx K mg) : mg "is_integer" = some (.ref (He.ga K "is_integer")) := T.glo 0
theorem Fx.g_is_number_below (T : Fx K mg) : mg "is_number_below" = some (.ref (He.ga K "is_number_below")) := T.glo 1
theorem Fx.g_is_column (T : Fx K mg) : mg "is_column" = some (.ref (He.ga K "is_column")) := T.glo 2
theorem Fx.g_are_unlike (T : Fx K mg) : mg "are_unlike" = some (.ref (He.ga K "are_unlike")) := T.glo 3
theorem Fx.g_are_columns (T : Fx K mg) : mg "are_columns" = some (.ref (He.ga K "are_columns")) := T.glo 4
theorem Fx.g_is_last (T : Fx K mg) : mg "is_last" = some (.ref (He.ga K "is_last")) := T.glo 5
theorem Fx.g_is_question (T : Fx K mg) : mg "is_question" = some (.ref (He.ga K "is_question")) := T.glo 6
theorem Fx.g_is_index (T : Fx K mg) : mg "is_index" = some (.ref (He.ga K "is_index")) := T.glo 7
theorem Fx.g_is_weight (T : Fx K mg) : mg "is_weight" = some (.ref (He.ga K "is_weight")) := T.glo 8
theorem Fx.g_columns_of (T : Fx K mg) : mg "columns_of" = some (.ref (He.ga K "columns_of")) := T.glo 9
theorem Fx.g_width (T : Fx K mg) : mg "width" = some (.ref (He.ga K "width")) := T.glo 10
theorem Fx.g_is_below (T : Fx K mg) : mg "is_below" = some (.ref (He.ga K "is_below")) := T.glo 11
theorem Fx.g_can_share (T : Fx K mg) : mg "can_share" = some (.ref (He.ga K "can_share")) := T.glo 12
theorem Fx.g_split_pair (T : Fx K mg) : mg "split_pair" = some (.ref (He.ga K "split_pair")) := T.glo 13
theorem Fx.g_climb (T : Fx K mg) : mg "climb" = some (.ref (He.ga K "climb")) := T.glo 14
theorem Fx.g_upwards (T : Fx K mg) : mg "upwards" = some (.ref (He.ga K "upwards")) := T.glo 15
theorem Fx.g_first_fault (T : Fx K mg) : mg "first_fault" = some (.ref (He.ga K "first_fault")) := T.glo 16
theorem Fx.g_serves (T : Fx K mg) : mg "serves" = some (.ref (He.ga K "serves")) := T.glo 17
theorem Fx.g_blocks_of (T : Fx K mg) : mg "blocks_of" = some (.ref (He.ga K "blocks_of")) := T.glo 18
theorem Fx.g_index_for (T : Fx K mg) : mg "index_for" = some (.ref (He.ga K "index_for")) := T.glo 19
theorem Fx.g_are_weights (T : Fx K mg) : mg "are_weights" = some (.ref (He.ga K "are_weights")) := T.glo 20
theorem Fx.g_are_pairs (T : Fx K mg) : mg "are_pairs" = some (.ref (He.ga K "are_pairs")) := T.glo 21
theorem Fx.g_lead (T : Fx K mg) : mg "lead" = some (.ref (He.ga K "lead")) := T.glo 22
theorem Fx.g_matched (T : Fx K mg) : mg "matched" = some (.ref (He.ga K "matched")) := T.glo 23
theorem Fx.g_chained (T : Fx K mg) : mg "chained" = some (.ref (He.ga K "chained")) := T.glo 24
theorem Fx.g_is_served (T : Fx K mg) : mg "is_served" = some (.ref (He.ga K "is_served")) := T.glo 25
theorem Fx.g_unserved (T : Fx K mg) : mg "unserved" = some (.ref (He.ga K "unserved")) := T.glo 26
theorem Fx.g_pairs_of (T : Fx K mg) : mg "pairs_of" = some (.ref (He.ga K "pairs_of")) := T.glo 27
theorem Fx.g_shelf_of (T : Fx K mg) : mg "shelf_of" = some (.ref (He.ga K "shelf_of")) := T.glo 28
theorem Fx.g_plain_lot (T : Fx K mg) : mg "plain_lot" = some (.ref (He.ga K "plain_lot")) := T.glo 29
theorem Fx.g_fewest (T : Fx K mg) : mg "fewest" = some (.ref (He.ga K "fewest")) := T.glo 30
theorem Fx.g_serves_all (T : Fx K mg) : mg "serves_all" = some (.ref (He.ga K "serves_all")) := T.glo 31
theorem Fx.g_weight_of (T : Fx K mg) : mg "weight_of" = some (.ref (He.ga K "weight_of")) := T.glo 32
theorem Fx.g_lot_of (T : Fx K mg) : mg "lot_of" = some (.ref (He.ga K "lot_of")) := T.glo 33
theorem Fx.g_least_cost (T : Fx K mg) : mg "least_cost" = some (.ref (He.ga K "least_cost")) := T.glo 34
theorem Fx.g_weight_of_index (T : Fx K mg) : mg "weight_of_index" = some (.ref (He.ga K "weight_of_index")) := T.glo 35
theorem Fx.g_cost (T : Fx K mg) : mg "cost" = some (.ref (He.ga K "cost")) := T.glo 36
theorem Fx.g_narrow_shelf (T : Fx K mg) : mg "narrow_shelf" = some (.ref (He.ga K "narrow_shelf")) := T.glo 37
theorem Fx.g_is_under (T : Fx K mg) : mg "is_under" = some (.ref (He.ga K "is_under")) := T.glo 38
theorem Fx.g_led_lot (T : Fx K mg) : mg "led_lot" = some (.ref (He.ga K "led_lot")) := T.glo 39
theorem Fx.g_lengthened (T : Fx K mg) : mg "lengthened" = some (.ref (He.ga K "lengthened")) := T.glo 40
theorem Fx.g_shelf_led (T : Fx K mg) : mg "shelf_led" = some (.ref (He.ga K "shelf_led")) := T.glo 41
theorem Fx.g_least_added (T : Fx K mg) : mg "least_added" = some (.ref (He.ga K "least_added")) := T.glo 42
theorem Fx.g_led_on (T : Fx K mg) : mg "led_on" = some (.ref (He.ga K "led_on")) := T.glo 43
theorem Fx.g_is_led (T : Fx K mg) : mg "is_led" = some (.ref (He.ga K "is_led")) := T.glo 44
theorem Fx.g_is_led_on (T : Fx K mg) : mg "is_led_on" = some (.ref (He.ga K "is_led_on")) := T.glo 45
theorem Fx.g_least_more (T : Fx K mg) : mg "least_more" = some (.ref (He.ga K "least_more")) := T.glo 46
theorem Fx.g_more_shelf (T : Fx K mg) : mg "more_shelf" = some (.ref (He.ga K "more_shelf")) := T.glo 47
theorem Fx.g_is_more (T : Fx K mg) : mg "is_more" = some (.ref (He.ga K "is_more")) := T.glo 48
theorem Fx.g__law_bag (T : Fx K mg) : mg "_law_bag" = some (.ref (He.ga K "_law_bag")) := T.glo 49
theorem Fx.g__law_take (T : Fx K mg) : mg "_law_take" = some (.ref (He.ga K "_law_take")) := T.glo 50
theorem Fx.g__law_one (T : Fx K mg) : mg "_law_one" = some (.ref (He.ga K "_law_one")) := T.glo 51
theorem Fx.g__law_mixed (T : Fx K mg) : mg "_law_mixed" = some (.ref (He.ga K "_law_mixed")) := T.glo 52
theorem Fx.g__law_names (T : Fx K mg) : mg "_law_names" = some (.ref (He.ga K "_law_names")) := T.glo 53
theorem Fx.g__law_question (T : Fx K mg) : mg "_law_question" = some (.ref (He.ga K "_law_question")) := T.glo 54
theorem Fx.g__law_beginning (T : Fx K mg) : mg "_law_beginning" = some (.ref (He.ga K "_law_beginning")) := T.glo 55
theorem Fx.g__law_questions (T : Fx K mg) : mg "_law_questions" = some (.ref (He.ga K "_law_questions")) := T.glo 56
theorem Fx.g__law_index (T : Fx K mg) : mg "_law_index" = some (.ref (He.ga K "_law_index")) := T.glo 57
theorem Fx.g__law_indexes (T : Fx K mg) : mg "_law_indexes" = some (.ref (He.ga K "_law_indexes")) := T.glo 58
theorem Fx.g__law_table (T : Fx K mg) : mg "_law_table" = some (.ref (He.ga K "_law_table")) := T.glo 59
theorem Fx.g__law_heavy (T : Fx K mg) : mg "_law_heavy" = some (.ref (He.ga K "_law_heavy")) := T.glo 60
theorem Fx.g__law_right (T : Fx K mg) : mg "_law_right" = some (.ref (He.ga K "_law_right")) := T.glo 61
theorem Fx.g__law_ends_right (T : Fx K mg) : mg "_law_ends_right" = some (.ref (He.ga K "_law_ends_right")) := T.glo 62
theorem Fx.g_law (T : Fx K mg) : mg "law" = some (.ref (He.ga K "law")) := T.glo 63
theorem Fx.g_Shelf (T : Fx K mg) : mg "Shelf" = some (.ref (He.ga K "Shelf")) := T.glo 64
theorem Fx.g_Asked (T : Fx K mg) : mg "Asked" = some (.ref (He.ga K "Asked")) := T.glo 65
theorem Fx.g_Lot (T : Fx K mg) : mg "Lot" = some (.ref (He.ga K "Lot")) := T.glo 66
theorem Fx.g_Weights (T : Fx K mg) : mg "Weights" = some (.ref (He.ga K "Weights")) := T.glo 67
theorem Fx.b_isinstance (T : Fx K mg) : mg "isinstance" = none := T.free 68
theorem Fx.b_len (T : Fx K mg) : mg "len" = none := T.free 69
theorem Fx.b_all (T : Fx K mg) : mg "all" = none := T.free 70
theorem Fx.b_any (T : Fx K mg) : mg "any" = none := T.free 71
theorem Fx.b_sorted (T : Fx K mg) : mg "sorted" = none := T.free 72
theorem Fx.b_set (T : Fx K mg) : mg "set" = none := T.free 73
theorem Fx.b_list (T : Fx K mg) : mg "list" = none := T.free 74
theorem Fx.b_tuple (T : Fx K mg) : mg "tuple" = none := T.free 75
theorem Fx.b_enumerate (T : Fx K mg) : mg "enumerate" = none := T.free 76
theorem Fx.b_range (T : Fx K mg) : mg "range" = none := T.free 77
theorem Fx.b_sum (T : Fx K mg) : mg "sum" = none := T.free 78
theorem Fx.b_iter (T : Fx K mg) : mg "iter" = none := T.free 79
theorem Fx.b_abs (T : Fx K mg) : mg "abs" = none := T.free 80
theorem Fx.b_int (T : Fx K mg) : mg "int" = none := T.free 81
theorem Fx.b_bool (T : Fx K mg) : mg "bool" = none := T.free 82
theorem Fx.b_str (T : Fx K mg) : mg "str" = none := T.free 83
theorem Fx.b_dict (T : Fx K mg) : mg "dict" = none := T.free 84
theorem Fx.i_LONGEST (T : Fx K mg) : ∃ t, mg "LONGEST" = some (.int 8 t) := T.int 85
theorem Fx.i_MOST_THINGS (T : Fx K mg) : ∃ t, mg "MOST_THINGS" = some (.int 48 t) := T.int 86
theorem Fx.t_LETTERS (T : Fx K mg) : ∃ t, mg "LETTERS" = some (.str "abcdefghijklmnopqrstuvwxyz" t) := T.str 87
theorem Fx.c_Shelf (T : Fx K mg) : Cls K (He.ga K "Shelf") := He.cls_ok (T.says.fact 88)
theorem Fx.mk_Shelf (T : Fx K mg) : Mk K (He.ga K "Shelf") (He.ma K (He.ga K "Shelf") "__init__") := He.mkr_ok (T.says.fact 89)
theorem Fx.n_kept_indexes (T : Fx K mg) : NoAttr K (He.ga K "Shelf") "kept_indexes" := He.noat_ok (T.says.fact 90)
theorem Fx.c_Asked (T : Fx K mg) : Cls K (He.ga K "Asked") := He.cls_ok (T.says.fact 91)
theorem Fx.mk_Asked (T : Fx K mg) : Mk K (He.ga K "Asked") (He.ma K (He.ga K "Asked") "__init__") := He.mkr_ok (T.says.fact 92)
theorem Fx.n_kept_questions (T : Fx K mg) : NoAttr K (He.ga K "Asked") "kept_questions" := He.noat_ok (T.says.fact 93)
theorem Fx.c_Lot (T : Fx K mg) : Cls K (He.ga K "Lot") := He.cls_ok (T.says.fact 94)
theorem Fx.mk_Lot (T : Fx K mg) : Mk K (He.ga K "Lot") (He.ma K (He.ga K "Lot") "__init__") := He.mkr_ok (T.says.fact 95)
theorem Fx.n_kept_weights (T : Fx K mg) : NoAttr K (He.ga K "Lot") "kept_weights" := He.noat_ok (T.says.fact 96)
theorem Fx.n_kept_pairs (T : Fx K mg) : NoAttr K (He.ga K "Lot") "kept_pairs" := He.noat_ok (T.says.fact 97)
theorem Fx.n_kept_above (T : Fx K mg) : NoAttr K (He.ga K "Lot") "kept_above" := He.noat_ok (T.says.fact 98)
theorem Fx.n_kept_match (T : Fx K mg) : NoAttr K (He.ga K "Lot") "kept_match" := He.noat_ok (T.says.fact 99)
theorem Fx.c_Weights (T : Fx K mg) : Cls K (He.ga K "Weights") := He.cls_ok (T.says.fact 100)
theorem Fx.mk_Weights (T : Fx K mg) : Mk K (He.ga K "Weights") (He.ma K (He.ga K "Weights") "__init__") := He.mkr_ok (T.says.fact 101)
theorem Fx.n_kept_table (T : Fx K mg) : NoAttr K (He.ga K "Weights") "kept_table" := He.noat_ok (T.says.fact 102)
theorem Fx.m_Shelf___init__ (T : Fx K mg) : Meth K (He.ga K "Shelf") "__init__" (He.ma K (He.ga K "Shelf") "__init__") := He.meth_ok (T.says.fact 103)
theorem Fx.m_Shelf_with_index (T : Fx K mg) : Meth K (He.ga K "Shelf") "with_index" (He.ma K (He.ga K "Shelf") "with_index") := He.meth_ok (T.says.fact 104)
theorem Fx.m_Shelf___add__ (T : Fx K mg) : Meth K (He.ga K "Shelf") "__add__" (He.ma K (He.ga K "Shelf") "__add__") := He.meth_ok (T.says.fact 105)
theorem Fx.m_Shelf___getitem__ (T : Fx K mg) : Meth K (He.ga K "Shelf") "__getitem__" (He.ma K (He.ga K "Shelf") "__getitem__") := He.meth_ok (T.says.fact 106)
theorem Fx.m_Shelf___iter__ (T : Fx K mg) : Meth K (He.ga K "Shelf") "__iter__" (He.ma K (He.ga K "Shelf") "__iter__") := He.meth_ok (T.says.fact 107)
theorem Fx.m_Shelf___len__ (T : Fx K mg) : Meth K (He.ga K "Shelf") "__len__" (He.ma K (He.ga K "Shelf") "__len__") := He.meth_ok (T.says.fact 108)
theorem Fx.m_Shelf___eq__ (T : Fx K mg) : Meth K (He.ga K "Shelf") "__eq__" (He.ma K (He.ga K "Shelf") "__eq__") := He.meth_ok (T.says.fact 109)
theorem Fx.m_Lot___init__ (T : Fx K mg) : Meth K (He.ga K "Lot") "__init__" (He.ma K (He.ga K "Lot") "__init__") := He.meth_ok (T.says.fact 110)
theorem Fx.m_Lot_odd_pairs (T : Fx K mg) : Meth K (He.ga K "Lot") "odd_pairs" (He.ma K (He.ga K "Lot") "odd_pairs") := He.meth_ok (T.says.fact 111)
theorem Fx.m_Lot_heavy_first (T : Fx K mg) : Meth K (He.ga K "Lot") "heavy_first" (He.ma K (He.ga K "Lot") "heavy_first") := He.meth_ok (T.says.fact 112)
theorem Fx.m_Lot_steps (T : Fx K mg) : Meth K (He.ga K "Lot") "steps" (He.ma K (He.ga K "Lot") "steps") := He.meth_ok (T.says.fact 113)
theorem Fx.m_Lot_tops_from (T : Fx K mg) : Meth K (He.ga K "Lot") "tops_from" (He.ma K (He.ga K "Lot") "tops_from") := He.meth_ok (T.says.fact 114)
theorem Fx.m_Lot_width (T : Fx K mg) : Meth K (He.ga K "Lot") "width" (He.ma K (He.ga K "Lot") "width") := He.meth_ok (T.says.fact 115)
theorem Fx.m_Lot_least_sum (T : Fx K mg) : Meth K (He.ga K "Lot") "least_sum" (He.ma K (He.ga K "Lot") "least_sum") := He.meth_ok (T.says.fact 116)
theorem Fx.m_Lot_chains (T : Fx K mg) : Meth K (He.ga K "Lot") "chains" (He.ma K (He.ga K "Lot") "chains") := He.meth_ok (T.says.fact 117)
theorem Fx.m_Lot___len__ (T : Fx K mg) : Meth K (He.ga K "Lot") "__len__" (He.ma K (He.ga K "Lot") "__len__") := He.meth_ok (T.says.fact 118)
theorem Fx.m_Asked___init__ (T : Fx K mg) : Meth K (He.ga K "Asked") "__init__" (He.ma K (He.ga K "Asked") "__init__") := He.meth_ok (T.says.fact 119)
theorem Fx.m_Asked_questions (T : Fx K mg) : Meth K (He.ga K "Asked") "questions" (He.ma K (He.ga K "Asked") "questions") := He.meth_ok (T.says.fact 120)
theorem Fx.m_Asked___iter__ (T : Fx K mg) : Meth K (He.ga K "Asked") "__iter__" (He.ma K (He.ga K "Asked") "__iter__") := He.meth_ok (T.says.fact 121)
theorem Fx.m_Asked___len__ (T : Fx K mg) : Meth K (He.ga K "Asked") "__len__" (He.ma K (He.ga K "Asked") "__len__") := He.meth_ok (T.says.fact 122)
theorem Fx.m_Weights___init__ (T : Fx K mg) : Meth K (He.ga K "Weights") "__init__" (He.ma K (He.ga K "Weights") "__init__") := He.meth_ok (T.says.fact 123)
theorem Fx.m_Weights___call__ (T : Fx K mg) : Meth K (He.ga K "Weights") "__call__" (He.ma K (He.ga K "Weights") "__call__") := He.meth_ok (T.says.fact 124)
theorem Fx.d_is_integer (T : Fx K mg) : ∃ fd, FunD K d_is_integer.name d_is_integer.qual (defArgs s_is_integer) (defBody s_is_integer) (defScope s_is_integer) [] (d_is_integer.kws K) (He.fAd K d_is_integer.at_) fd := T.fun_ 0
theorem Fx.d_is_number_below (T : Fx K mg) : ∃ fd, FunD K d_is_number_below.name d_is_number_below.qual (defArgs s_is_number_below) (defBody s_is_number_below) (defScope s_is_number_below) [] (d_is_number_below.kws K) (He.fAd K d_is_number_below.at_) fd := T.fun_ 1
theorem Fx.d_is_column (T : Fx K mg) : ∃ fd, FunD K d_is_column.name d_is_column.qual (defArgs s_is_column) (defBody s_is_column) (defScope s_is_column) [] (d_is_column.kws K) (He.fAd K d_is_column.at_) fd := T.fun_ 2
theorem Fx.d_are_unlike (T : Fx K mg) : ∃ fd, FunD K d_are_unlike.name d_are_unlike.qual (defArgs s_are_unlike) (defBody s_are_unlike) (defScope s_are_unlike) [] (d_are_unlike.kws K) (He.fAd K d_are_unlike.at_) fd := T.fun_ 3
theorem Fx.d_are_columns (T : Fx K mg) : ∃ fd, FunD K d_are_columns.name d_are_columns.qual (defArgs s_are_columns) (defBody s_are_columns) (defScope s_are_columns) [] (d_are_columns.kws K) (He.fAd K d_are_columns.at_) fd := T.fun_ 4
theorem Fx.d_is_last (T : Fx K mg) : ∃ fd, FunD K d_is_last.name d_is_last.qual (defArgs s_is_last) (defBody s_is_last) (defScope s_is_last) [] (d_is_last.kws K) (He.fAd K d_is_last.at_) fd := T.fun_ 5
theorem Fx.d_is_question (T : Fx K mg) : ∃ fd, FunD K d_is_question.name d_is_question.qual (defArgs s_is_question) (defBody s_is_question) (defScope s_is_question) [] (d_is_question.kws K) (He.fAd K d_is_question.at_) fd := T.fun_ 6
theorem Fx.d_is_index (T : Fx K mg) : ∃ fd, FunD K d_is_index.name d_is_index.qual (defArgs s_is_index) (defBody s_is_index) (defScope s_is_index) [] (d_is_index.kws K) (He.fAd K d_is_index.at_) fd := T.fun_ 7
theorem Fx.d_is_weight (T : Fx K mg) : ∃ fd, FunD K d_is_weight.name d_is_weight.qual (defArgs s_is_weight) (defBody s_is_weight) (defScope s_is_weight) [] (d_is_weight.kws K) (He.fAd K d_is_weight.at_) fd := T.fun_ 8
theorem Fx.d_columns_of (T : Fx K mg) : ∃ fd, FunD K d_columns_of.name d_columns_of.qual (defArgs s_columns_of) (defBody s_columns_of) (defScope s_columns_of) [] (d_columns_of.kws K) (He.fAd K d_columns_of.at_) fd := T.fun_ 9
theorem Fx.d_width (T : Fx K mg) : ∃ fd, FunD K d_width.name d_width.qual (defArgs s_width) (defBody s_width) (defScope s_width) [] (d_width.kws K) (He.fAd K d_width.at_) fd := T.fun_ 10
theorem Fx.d_is_below (T : Fx K mg) : ∃ fd, FunD K d_is_below.name d_is_below.qual (defArgs s_is_below) (defBody s_is_below) (defScope s_is_below) [] (d_is_below.kws K) (He.fAd K d_is_below.at_) fd := T.fun_ 11
theorem Fx.d_can_share (T : Fx K mg) : ∃ fd, FunD K d_can_share.name d_can_share.qual (defArgs s_can_share) (defBody s_can_share) (defScope s_can_share) [] (d_can_share.kws K) (He.fAd K d_can_share.at_) fd := T.fun_ 12
theorem Fx.d_split_pair (T : Fx K mg) : ∃ fd, FunD K d_split_pair.name d_split_pair.qual (defArgs s_split_pair) (defBody s_split_pair) (defScope s_split_pair) [] (d_split_pair.kws K) (He.fAd K d_split_pair.at_) fd := T.fun_ 13
theorem Fx.d_climb (T : Fx K mg) : ∃ fd, FunD K d_climb.name d_climb.qual (defArgs s_climb) (defBody s_climb) (defScope s_climb) [] (d_climb.kws K) (He.fAd K d_climb.at_) fd := T.fun_ 14
theorem Fx.d_upwards (T : Fx K mg) : ∃ fd, FunD K d_upwards.name d_upwards.qual (defArgs s_upwards) (defBody s_upwards) (defScope s_upwards) [] (d_upwards.kws K) (He.fAd K d_upwards.at_) fd := T.fun_ 15
theorem Fx.d_first_fault (T : Fx K mg) : ∃ fd, FunD K d_first_fault.name d_first_fault.qual (defArgs s_first_fault) (defBody s_first_fault) (defScope s_first_fault) [] (d_first_fault.kws K) (He.fAd K d_first_fault.at_) fd := T.fun_ 16
theorem Fx.d_serves (T : Fx K mg) : ∃ fd, FunD K d_serves.name d_serves.qual (defArgs s_serves) (defBody s_serves) (defScope s_serves) [] (d_serves.kws K) (He.fAd K d_serves.at_) fd := T.fun_ 17
theorem Fx.d_blocks_of (T : Fx K mg) : ∃ fd, FunD K d_blocks_of.name d_blocks_of.qual (defArgs s_blocks_of) (defBody s_blocks_of) (defScope s_blocks_of) [] (d_blocks_of.kws K) (He.fAd K d_blocks_of.at_) fd := T.fun_ 18
theorem Fx.d_index_for (T : Fx K mg) : ∃ fd, FunD K d_index_for.name d_index_for.qual (defArgs s_index_for) (defBody s_index_for) (defScope s_index_for) [] (d_index_for.kws K) (He.fAd K d_index_for.at_) fd := T.fun_ 19
theorem Fx.d_Shelf___init__ (T : Fx K mg) : ∃ fd, FunD K d_Shelf___init__.name d_Shelf___init__.qual (defArgs s_Shelf___init__) (defBody s_Shelf___init__) (defScope s_Shelf___init__) [] (d_Shelf___init__.kws K) (He.fAd K d_Shelf___init__.at_) fd := T.fun_ 20
theorem Fx.d_Shelf_with_index (T : Fx K mg) : ∃ fd, FunD K d_Shelf_with_index.name d_Shelf_with_index.qual (defArgs s_Shelf_with_index) (defBody s_Shelf_with_index) (defScope s_Shelf_with_index) [] (d_Shelf_with_index.kws K) (He.fAd K d_Shelf_with_index.at_) fd := T.fun_ 21
theorem Fx.d_Shelf___add__ (T : Fx K mg) : ∃ fd, FunD K d_Shelf___add__.name d_Shelf___add__.qual (defArgs s_Shelf___add__) (defBody s_Shelf___add__) (defScope s_Shelf___add__) [] (d_Shelf___add__.kws K) (He.fAd K d_Shelf___add__.at_) fd := T.fun_ 22
theorem Fx.d_Shelf___getitem__ (T : Fx K mg) : ∃ fd, FunD K d_Shelf___getitem__.name d_Shelf___getitem__.qual (defArgs s_Shelf___getitem__) (defBody s_Shelf___getitem__) (defScope s_Shelf___getitem__) [] (d_Shelf___getitem__.kws K) (He.fAd K d_Shelf___getitem__.at_) fd := T.fun_ 23
theorem Fx.d_Shelf___iter__ (T : Fx K mg) : ∃ fd, FunD K d_Shelf___iter__.name d_Shelf___iter__.qual (defArgs s_Shelf___iter__) (defBody s_Shelf___iter__) (defScope s_Shelf___iter__) [] (d_Shelf___iter__.kws K) (He.fAd K d_Shelf___iter__.at_) fd := T.fun_ 24
theorem Fx.d_Shelf___len__ (T : Fx K mg) : ∃ fd, FunD K d_Shelf___len__.name d_Shelf___len__.qual (defArgs s_Shelf___len__) (defBody s_Shelf___len__) (defScope s_Shelf___len__) [] (d_Shelf___len__.kws K) (He.fAd K d_Shelf___len__.at_) fd := T.fun_ 25
theorem Fx.d_Shelf___eq__ (T : Fx K mg) : ∃ fd, FunD K d_Shelf___eq__.name d_Shelf___eq__.qual (defArgs s_Shelf___eq__) (defBody s_Shelf___eq__) (defScope s_Shelf___eq__) [] (d_Shelf___eq__.kws K) (He.fAd K d_Shelf___eq__.at_) fd := T.fun_ 26
theorem Fx.d_are_weights (T : Fx K mg) : ∃ fd, FunD K d_are_weights.name d_are_weights.qual (defArgs s_are_weights) (defBody s_are_weights) (defScope s_are_weights) [] (d_are_weights.kws K) (He.fAd K d_are_weights.at_) fd := T.fun_ 27
theorem Fx.d_are_pairs (T : Fx K mg) : ∃ fd, FunD K d_are_pairs.name d_are_pairs.qual (defArgs s_are_pairs) (defBody s_are_pairs) (defScope s_are_pairs) [] (d_are_pairs.kws K) (He.fAd K d_are_pairs.at_) fd := T.fun_ 28
theorem Fx.d_lead (T : Fx K mg) : ∃ fd, FunD K d_lead.name d_lead.qual (defArgs s_lead) (defBody s_lead) (defScope s_lead) [] (d_lead.kws K) (He.fAd K d_lead.at_) fd := T.fun_ 29
theorem Fx.d_matched (T : Fx K mg) : ∃ fd, FunD K d_matched.name d_matched.qual (defArgs s_matched) (defBody s_matched) (defScope s_matched) [] (d_matched.kws K) (He.fAd K d_matched.at_) fd := T.fun_ 30
theorem Fx.d_chained (T : Fx K mg) : ∃ fd, FunD K d_chained.name d_chained.qual (defArgs s_chained) (defBody s_chained) (defScope s_chained) [] (d_chained.kws K) (He.fAd K d_chained.at_) fd := T.fun_ 31
theorem Fx.d_Lot___init__ (T : Fx K mg) : ∃ fd, FunD K d_Lot___init__.name d_Lot___init__.qual (defArgs s_Lot___init__) (defBody s_Lot___init__) (defScope s_Lot___init__) [] (d_Lot___init__.kws K) (He.fAd K d_Lot___init__.at_) fd := T.fun_ 32
theorem Fx.d_Lot_odd_pairs (T : Fx K mg) : ∃ fd, FunD K d_Lot_odd_pairs.name d_Lot_odd_pairs.qual (defArgs s_Lot_odd_pairs) (defBody s_Lot_odd_pairs) (defScope s_Lot_odd_pairs) [] (d_Lot_odd_pairs.kws K) (He.fAd K d_Lot_odd_pairs.at_) fd := T.fun_ 33
theorem Fx.d_Lot_heavy_first (T : Fx K mg) : ∃ fd, FunD K d_Lot_heavy_first.name d_Lot_heavy_first.qual (defArgs s_Lot_heavy_first) (defBody s_Lot_heavy_first) (defScope s_Lot_heavy_first) [] (d_Lot_heavy_first.kws K) (He.fAd K d_Lot_heavy_first.at_) fd := T.fun_ 34
theorem Fx.d_Lot_steps (T : Fx K mg) : ∃ fd, FunD K d_Lot_steps.name d_Lot_steps.qual (defArgs s_Lot_steps) (defBody s_Lot_steps) (defScope s_Lot_steps) [] (d_Lot_steps.kws K) (He.fAd K d_Lot_steps.at_) fd := T.fun_ 35
theorem Fx.d_Lot_tops_from (T : Fx K mg) : ∃ fd, FunD K d_Lot_tops_from.name d_Lot_tops_from.qual (defArgs s_Lot_tops_from) (defBody s_Lot_tops_from) (defScope s_Lot_tops_from) [] (d_Lot_tops_from.kws K) (He.fAd K d_Lot_tops_from.at_) fd := T.fun_ 36
theorem Fx.d_Lot_width (T : Fx K mg) : ∃ fd, FunD K d_Lot_width.name d_Lot_width.qual (defArgs s_Lot_width) (defBody s_Lot_width) (defScope s_Lot_width) [] (d_Lot_width.kws K) (He.fAd K d_Lot_width.at_) fd := T.fun_ 37
theorem Fx.d_Lot_least_sum (T : Fx K mg) : ∃ fd, FunD K d_Lot_least_sum.name d_Lot_least_sum.qual (defArgs s_Lot_least_sum) (defBody s_Lot_least_sum) (defScope s_Lot_least_sum) [] (d_Lot_least_sum.kws K) (He.fAd K d_Lot_least_sum.at_) fd := T.fun_ 38
theorem Fx.d_Lot_chains (T : Fx K mg) : ∃ fd, FunD K d_Lot_chains.name d_Lot_chains.qual (defArgs s_Lot_chains) (defBody s_Lot_chains) (defScope s_Lot_chains) [] (d_Lot_chains.kws K) (He.fAd K d_Lot_chains.at_) fd := T.fun_ 39
theorem Fx.d_Lot___len__ (T : Fx K mg) : ∃ fd, FunD K d_Lot___len__.name d_Lot___len__.qual (defArgs s_Lot___len__) (defBody s_Lot___len__) (defScope s_Lot___len__) [] (d_Lot___len__.kws K) (He.fAd K d_Lot___len__.at_) fd := T.fun_ 40
theorem Fx.d_Asked___init__ (T : Fx K mg) : ∃ fd, FunD K d_Asked___init__.name d_Asked___init__.qual (defArgs s_Asked___init__) (defBody s_Asked___init__) (defScope s_Asked___init__) [] (d_Asked___init__.kws K) (He.fAd K d_Asked___init__.at_) fd := T.fun_ 41
theorem Fx.d_Asked_questions (T : Fx K mg) : ∃ fd, FunD K d_Asked_questions.name d_Asked_questions.qual (defArgs s_Asked_questions) (defBody s_Asked_questions) (defScope s_Asked_questions) [] (d_Asked_questions.kws K) (He.fAd K d_Asked_questions.at_) fd := T.fun_ 42
theorem Fx.d_Asked___iter__ (T : Fx K mg) : ∃ fd, FunD K d_Asked___iter__.name d_Asked___iter__.qual (defArgs s_Asked___iter__) (defBody s_Asked___iter__) (defScope s_Asked___iter__) [] (d_Asked___iter__.kws K) (He.fAd K d_Asked___iter__.at_) fd := T.fun_ 43
theorem Fx.d_Asked___len__ (T : Fx K mg) : ∃ fd, FunD K d_Asked___len__.name d_Asked___len__.qual (defArgs s_Asked___len__) (defBody s_Asked___len__) (defScope s_Asked___len__) [] (d_Asked___len__.kws K) (He.fAd K d_Asked___len__.at_) fd := T.fun_ 44
theorem Fx.d_is_served (T : Fx K mg) : ∃ fd, FunD K d_is_served.name d_is_served.qual (defArgs s_is_served) (defBody s_is_served) (defScope s_is_served) [] (d_is_served.kws K) (He.fAd K d_is_served.at_) fd := T.fun_ 45
theorem Fx.d_unserved (T : Fx K mg) : ∃ fd, FunD K d_unserved.name d_unserved.qual (defArgs s_unserved) (defBody s_unserved) (defScope s_unserved) [] (d_unserved.kws K) (He.fAd K d_unserved.at_) fd := T.fun_ 46
theorem Fx.d_pairs_of (T : Fx K mg) : ∃ fd, FunD K d_pairs_of.name d_pairs_of.qual (defArgs s_pairs_of) (defBody s_pairs_of) (defScope s_pairs_of) [] (d_pairs_of.kws K) (He.fAd K d_pairs_of.at_) fd := T.fun_ 47
theorem Fx.d_shelf_of (T : Fx K mg) : ∃ fd, FunD K d_shelf_of.name d_shelf_of.qual (defArgs s_shelf_of) (defBody s_shelf_of) (defScope s_shelf_of) [] (d_shelf_of.kws K) (He.fAd K d_shelf_of.at_) fd := T.fun_ 48
theorem Fx.d_plain_lot (T : Fx K mg) : ∃ fd, FunD K d_plain_lot.name d_plain_lot.qual (defArgs s_plain_lot) (defBody s_plain_lot) (defScope s_plain_lot) [] (d_plain_lot.kws K) (He.fAd K d_plain_lot.at_) fd := T.fun_ 49
theorem Fx.d_fewest (T : Fx K mg) : ∃ fd, FunD K d_fewest.name d_fewest.qual (defArgs s_fewest) (defBody s_fewest) (defScope s_fewest) [] (d_fewest.kws K) (He.fAd K d_fewest.at_) fd := T.fun_ 50
theorem Fx.d_serves_all (T : Fx K mg) : ∃ fd, FunD K d_serves_all.name d_serves_all.qual (defArgs s_serves_all) (defBody s_serves_all) (defScope s_serves_all) [] (d_serves_all.kws K) (He.fAd K d_serves_all.at_) fd := T.fun_ 51
theorem Fx.d_weight_of (T : Fx K mg) : ∃ fd, FunD K d_weight_of.name d_weight_of.qual (defArgs s_weight_of) (defBody s_weight_of) (defScope s_weight_of) [] (d_weight_of.kws K) (He.fAd K d_weight_of.at_) fd := T.fun_ 52
theorem Fx.d_lot_of (T : Fx K mg) : ∃ fd, FunD K d_lot_of.name d_lot_of.qual (defArgs s_lot_of) (defBody s_lot_of) (defScope s_lot_of) [] (d_lot_of.kws K) (He.fAd K d_lot_of.at_) fd := T.fun_ 53
theorem Fx.d_least_cost (T : Fx K mg) : ∃ fd, FunD K d_least_cost.name d_least_cost.qual (defArgs s_least_cost) (defBody s_least_cost) (defScope s_least_cost) [] (d_least_cost.kws K) (He.fAd K d_least_cost.at_) fd := T.fun_ 54
theorem Fx.d_weight_of_index (T : Fx K mg) : ∃ fd, FunD K d_weight_of_index.name d_weight_of_index.qual (defArgs s_weight_of_index) (defBody s_weight_of_index) (defScope s_weight_of_index) [] (d_weight_of_index.kws K) (He.fAd K d_weight_of_index.at_) fd := T.fun_ 55
theorem Fx.d_cost (T : Fx K mg) : ∃ fd, FunD K d_cost.name d_cost.qual (defArgs s_cost) (defBody s_cost) (defScope s_cost) [] (d_cost.kws K) (He.fAd K d_cost.at_) fd := T.fun_ 56
theorem Fx.d_narrow_shelf (T : Fx K mg) : ∃ fd, FunD K d_narrow_shelf.name d_narrow_shelf.qual (defArgs s_narrow_shelf) (defBody s_narrow_shelf) (defScope s_narrow_shelf) [] (d_narrow_shelf.kws K) (He.fAd K d_narrow_shelf.at_) fd := T.fun_ 57
theorem Fx.d_is_under (T : Fx K mg) : ∃ fd, FunD K d_is_under.name d_is_under.qual (defArgs s_is_under) (defBody s_is_under) (defScope s_is_under) [] (d_is_under.kws K) (He.fAd K d_is_under.at_) fd := T.fun_ 58
theorem Fx.d_led_lot (T : Fx K mg) : ∃ fd, FunD K d_led_lot.name d_led_lot.qual (defArgs s_led_lot) (defBody s_led_lot) (defScope s_led_lot) [] (d_led_lot.kws K) (He.fAd K d_led_lot.at_) fd := T.fun_ 59
theorem Fx.d_lengthened (T : Fx K mg) : ∃ fd, FunD K d_lengthened.name d_lengthened.qual (defArgs s_lengthened) (defBody s_lengthened) (defScope s_lengthened) [] (d_lengthened.kws K) (He.fAd K d_lengthened.at_) fd := T.fun_ 60
theorem Fx.d_shelf_led (T : Fx K mg) : ∃ fd, FunD K d_shelf_led.name d_shelf_led.qual (defArgs s_shelf_led) (defBody s_shelf_led) (defScope s_shelf_led) [] (d_shelf_led.kws K) (He.fAd K d_shelf_led.at_) fd := T.fun_ 61
theorem Fx.d_least_added (T : Fx K mg) : ∃ fd, FunD K d_least_added.name d_least_added.qual (defArgs s_least_added) (defBody s_least_added) (defScope s_least_added) [] (d_least_added.kws K) (He.fAd K d_least_added.at_) fd := T.fun_ 62
theorem Fx.d_led_on (T : Fx K mg) : ∃ fd, FunD K d_led_on.name d_led_on.qual (defArgs s_led_on) (defBody s_led_on) (defScope s_led_on) [] (d_led_on.kws K) (He.fAd K d_led_on.at_) fd := T.fun_ 63
theorem Fx.d_is_led (T : Fx K mg) : ∃ fd, FunD K d_is_led.name d_is_led.qual (defArgs s_is_led) (defBody s_is_led) (defScope s_is_led) [] (d_is_led.kws K) (He.fAd K d_is_led.at_) fd := T.fun_ 64
theorem Fx.d_is_led_on (T : Fx K mg) : ∃ fd, FunD K d_is_led_on.name d_is_led_on.qual (defArgs s_is_led_on) (defBody s_is_led_on) (defScope s_is_led_on) [] (d_is_led_on.kws K) (He.fAd K d_is_led_on.at_) fd := T.fun_ 65
theorem Fx.d_least_more (T : Fx K mg) : ∃ fd, FunD K d_least_more.name d_least_more.qual (defArgs s_least_more) (defBody s_least_more) (defScope s_least_more) [] (d_least_more.kws K) (He.fAd K d_least_more.at_) fd := T.fun_ 66
theorem Fx.d_more_shelf (T : Fx K mg) : ∃ fd, FunD K d_more_shelf.name d_more_shelf.qual (defArgs s_more_shelf) (defBody s_more_shelf) (defScope s_more_shelf) [] (d_more_shelf.kws K) (He.fAd K d_more_shelf.at_) fd := T.fun_ 67
theorem Fx.d_is_more (T : Fx K mg) : ∃ fd, FunD K d_is_more.name d_is_more.qual (defArgs s_is_more) (defBody s_is_more) (defScope s_is_more) [] (d_is_more.kws K) (He.fAd K d_is_more.at_) fd := T.fun_ 68
theorem Fx.d_Weights___init__ (T : Fx K mg) : ∃ fd, FunD K d_Weights___init__.name d_Weights___init__.qual (defArgs s_Weights___init__) (defBody s_Weights___init__) (defScope s_Weights___init__) [] (d_Weights___init__.kws K) (He.fAd K d_Weights___init__.at_) fd := T.fun_ 69
theorem Fx.d_Weights___call__ (T : Fx K mg) : ∃ fd, FunD K d_Weights___call__.name d_Weights___call__.qual (defArgs s_Weights___call__) (defBody s_Weights___call__) (defScope s_Weights___call__) [] (d_Weights___call__.kws K) (He.fAd K d_Weights___call__.at_) fd := T.fun_ 70
theorem Fx.d__law_bag (T : Fx K mg) : ∃ fd, FunD K d__law_bag.name d__law_bag.qual (defArgs s__law_bag) (defBody s__law_bag) (defScope s__law_bag) [] (d__law_bag.kws K) (He.fAd K d__law_bag.at_) fd := T.fun_ 71
theorem Fx.d__law_take (T : Fx K mg) : ∃ fd, FunD K d__law_take.name d__law_take.qual (defArgs s__law_take) (defBody s__law_take) (defScope s__law_take) [] (d__law_take.kws K) (He.fAd K d__law_take.at_) fd := T.fun_ 72
theorem Fx.d__law_one (T : Fx K mg) : ∃ fd, FunD K d__law_one.name d__law_one.qual (defArgs s__law_one) (defBody s__law_one) (defScope s__law_one) [] (d__law_one.kws K) (He.fAd K d__law_one.at_) fd := T.fun_ 73
theorem Fx.d__law_mixed (T : Fx K mg) : ∃ fd, FunD K d__law_mixed.name d__law_mixed.qual (defArgs s__law_mixed) (defBody s__law_mixed) (defScope s__law_mixed) [] (d__law_mixed.kws K) (He.fAd K d__law_mixed.at_) fd := T.fun_ 74
theorem Fx.d__law_names (T : Fx K mg) : ∃ fd, FunD K d__law_names.name d__law_names.qual (defArgs s__law_names) (defBody s__law_names) (defScope s__law_names) [] (d__law_names.kws K) (He.fAd K d__law_names.at_) fd := T.fun_ 75
theorem Fx.d__law_question (T : Fx K mg) : ∃ fd, FunD K d__law_question.name d__law_question.qual (defArgs s__law_question) (defBody s__law_question) (defScope s__law_question) [] (d__law_question.kws K) (He.fAd K d__law_question.at_) fd := T.fun_ 76
theorem Fx.d__law_beginning (T : Fx K mg) : ∃ fd, FunD K d__law_beginning.name d__law_beginning.qual (defArgs s__law_beginning) (defBody s__law_beginning) (defScope s__law_beginning) [] (d__law_beginning.kws K) (He.fAd K d__law_beginning.at_) fd := T.fun_ 77
theorem Fx.d__law_questions (T : Fx K mg) : ∃ fd, FunD K d__law_questions.name d__law_questions.qual (defArgs s__law_questions) (defBody s__law_questions) (defScope s__law_questions) [] (d__law_questions.kws K) (He.fAd K d__law_questions.at_) fd := T.fun_ 78
theorem Fx.d__law_index (T : Fx K mg) : ∃ fd, FunD K d__law_index.name d__law_index.qual (defArgs s__law_index) (defBody s__law_index) (defScope s__law_index) [] (d__law_index.kws K) (He.fAd K d__law_index.at_) fd := T.fun_ 79
theorem Fx.d__law_indexes (T : Fx K mg) : ∃ fd, FunD K d__law_indexes.name d__law_indexes.qual (defArgs s__law_indexes) (defBody s__law_indexes) (defScope s__law_indexes) [] (d__law_indexes.kws K) (He.fAd K d__law_indexes.at_) fd := T.fun_ 80
theorem Fx.d__law_table (T : Fx K mg) : ∃ fd, FunD K d__law_table.name d__law_table.qual (defArgs s__law_table) (defBody s__law_table) (defScope s__law_table) [] (d__law_table.kws K) (He.fAd K d__law_table.at_) fd := T.fun_ 81
theorem Fx.d__law_heavy (T : Fx K mg) : ∃ fd, FunD K d__law_heavy.name d__law_heavy.qual (defArgs s__law_heavy) (defBody s__law_heavy) (defScope s__law_heavy) [] (d__law_heavy.kws K) (He.fAd K d__law_heavy.at_) fd := T.fun_ 82
theorem Fx.d__law_right (T : Fx K mg) : ∃ fd, FunD K d__law_right.name d__law_right.qual (defArgs s__law_right) (defBody s__law_right) (defScope s__law_right) [] (d__law_right.kws K) (He.fAd K d__law_right.at_) fd := T.fun_ 83
theorem Fx.d__law_ends_right (T : Fx K mg) : ∃ fd, FunD K d__law_ends_right.name d__law_ends_right.qual (defArgs s__law_ends_right) (defBody s__law_ends_right) (defScope s__law_ends_right) [] (d__law_ends_right.kws K) (He.fAd K d__law_ends_right.at_) fd := T.fun_ 84
theorem Fx.d_law (T : Fx K mg) : ∃ fd, FunD K d_law.name d_law.qual (defArgs s_law) (defBody s_law) (defScope s_law) [] (d_law.kws K) (He.fAd K d_law.at_) fd := T.fun_ 85
end
end NK
end

section
set_option Elab.async false
set_option linter.all false
set_option maxRecDepth 100000
set_option maxHeartbeats 4000000
namespace NK
open PySem PySem.Spec L2
open PyProof.Rows hiding St

/-! ### built-ins -/
theorem bt_isinstance : bootBuiltins "isinstance" = some (.builtin "isinstance") := by decide +kernel
theorem bt_len : bootBuiltins "len" = some (.builtin "len") := by decide +kernel
theorem bt_all : bootBuiltins "all" = some (.builtin "all") := by decide +kernel
theorem bt_any : bootBuiltins "any" = some (.builtin "any") := by decide +kernel
theorem bt_sum : bootBuiltins "sum" = some (.builtin "sum") := by decide +kernel
theorem bt_sorted : bootBuiltins "sorted" = some (.builtin "sorted") := by decide +kernel
theorem bt_abs : bootBuiltins "abs" = some (.builtin "abs") := by decide +kernel
theorem bt_iter : bootBuiltins "iter" = some (.builtin "iter") := by decide +kernel
theorem bt_set : bootBuiltins "set" = some (.type "set") := by decide +kernel
theorem bt_list : bootBuiltins "list" = some (.type "list") := by decide +kernel
theorem bt_tuple : bootBuiltins "tuple" = some (.type "tuple") := by decide +kernel
theorem bt_int : bootBuiltins "int" = some (.type "int") := by decide +kernel
theorem bt_bool : bootBuiltins "bool" = some (.type "bool") := by decide +kernel
theorem bt_str : bootBuiltins "str" = some (.type "str") := by decide +kernel
theorem bt_dict : bootBuiltins "dict" = some (.type "dict") := by decide +kernel

section
variable {K : PySem.W.Frag} {σ : L2.St} {S H : Hp} {ta tb te tl : TE} {tt tu : TT} {R T : Rel} {v w : V}
/-- isinstance(e, T) -/
theorem g_isi {n : String} {t : Value} {b : Bool} (h : G te σ S R) (ty : ∀ v H1, R v H1 → TyX K H1 v t) (u : Up R) (k : PySem.W.kitOne K t (.type n) = some b) :
    G (tCB (rIsi K) (tCons te (tCons (tC (.ty n)) tNil))) σ S (Is (.bl b)) :=
  g_cb (ga_two h u g_c) fun vs S1 H1 _ c ⟨v, w, e, r, s⟩ Q q => ⟨v, w, t, .type n, b, e, s ▸ .ty n, ty v H1 (u _ _ _ c r), k, q _ S1 H1 (.refl c) rfl⟩
/-- isinstance(e, C), C a class of the module -/
theorem g_isiO {C : Addr} {t : Value} {b : Bool} (h : G te σ S R) (ty : ∀ v H1, R v H1 → TyX K H1 v t) (u : Up R) (k : PySem.W.kitOne K t (.ref C) = some b) :
    G (tCB (rIsi K) (tCons te (tCons (tC (.ref C)) tNil))) σ S (Is (.bl b)) :=
  g_cb (ga_two h u g_c) fun vs S1 H1 _ c ⟨v, w, e, r, s⟩ Q q => ⟨v, w, t, .ref C, b, e, s ▸ .own C, ty v H1 (u _ _ _ c r), k, q _ S1 H1 (.refl c) rfl⟩
/-- isinstance(e, (T1, T2)) -/
theorem g_isi2 {T1 T2 : String} {t : Value} {b : Bool} (h : G te σ S R) (ty : ∀ v H1, R v H1 → TyX K H1 v t) (u : Up R) (k : PySem.W.kitAny K t [.type T1, .type T2] = some b) :
    G (tCB (rIsiT K) (tCons te (tCons (tTup (tCons (tC (.ty T1)) (tCons (tC (.ty T2)) tNil))) tNil))) σ S (Is (.bl b)) := by
  refine g_cb (ga_two (T := fun v H => ∃ p, v = .ref p ∧ H p = some (.tup [.ty T1, .ty T2])) h u ?_) fun vs S1 H1 _ c ⟨v, w, e, r, p, e2, hp⟩ Q q => ⟨v, p, _, t, [.type T1, .type T2], b, by rw [e, e2], c _ _ hp, .cons (.ty T1) (.cons (.ty T2) .nil), ty v H1 (u _ _ _ c r), k, q _ S1 H1 (.refl c) rfl⟩
  exact fun S1 H1 e c Q q => ⟨(show 2 ≤ sizeLine by decide), fun p hp => q _ _ _ (Gw.new c hp) ⟨p, rfl, upd_same⟩⟩
theorem tyx_int {n : Int} : ∀ v (H1 : Hp), Is (.int n) v H1 → TyX K H1 v (.type "int") := fun v H1 e => e ▸ .base (.int n)
theorem tyx_str {n : Str} : ∀ v (H1 : Hp), Is (.str n) v H1 → TyX K H1 v (.type "str") := fun v H1 e => e ▸ .base (.str n)
theorem tyx_tup {ds : List PyData} : ∀ v (H1 : Hp), D K (.tuple ds) v H1 → TyX K H1 v (.type "tuple") := fun v H1 h => by
  obtain ⟨a, xs, rfl, ha, _⟩ := Dp.tupI h
  rcases ha with (h | ⟨o, h⟩) | ⟨o, its, n, hk, hc, _⟩
  · exact .base (.tup h)
  · exact .fTuple h
  · exact .kTuple hk hc
theorem tyx_lst {ds : List PyData} : ∀ v (H1 : Hp), D K (.list ds) v H1 → TyX K H1 v (.type "list") := fun v H1 h => by
  obtain ⟨a, xs, rfl, ha, _⟩ := Dp.lstI h
  rcases ha with (h | ⟨o, h⟩) | ⟨o, its, n, hk, hc, _⟩
  · exact .base (.lst h)
  · exact .base (.frz h)
  · exact .kList hk hc
theorem kit_cons1 {t : String} {T1 T2 : String} (h : kitB t T1 = some true) : PySem.W.kitAny K (.type t) [.type T1, .type T2] = some true :=
  kitAny_cons (kit_ty h) (fun z => by cases z) (fun _ => rfl)
theorem kit_cons2 {t : String} {T1 T2 : String} (h : kitB t T1 = some false) (h2 : kitB t T2 = some true) : PySem.W.kitAny K (.type t) [.type T1, .type T2] = some true :=
  kitAny_cons (kit_ty h) (fun _ => kitAny_cons (kit_ty h2) (fun z => by cases z) (fun _ => rfl)) (fun z => by cases z)
/-- len -/
abbrev rLn (K : PySem.W.Frag) : List V → Hp → VK → Prop := fun xs H Q => ∃ x n, xs = [x] ∧ LenV K x H n ∧ Q (.int n) H
theorem g_lenL {ds : List PyData} (h : G te σ S (D K (.list ds))) : G (tCB (rLn K) (tCons te tNil)) σ S (Is (.int ds.length)) :=
  g_cb (ga_one h) fun vs S1 H1 _ c ⟨v, e, r⟩ Q q => by
    obtain ⟨a, xs, rfl, ha, hd⟩ := Dp.lstI r
    exact ⟨_, xs.length, e, .inl ⟨xs, Same.sqL c ha, rfl⟩, q _ S1 H1 (.refl c) (by rw [DpAll.len hd])⟩
theorem g_lenT {ds : List PyData} (h : G te σ S (D K (.tuple ds))) : G (tCB (rLn K) (tCons te tNil)) σ S (Is (.int ds.length)) :=
  g_cb (ga_one h) fun vs S1 H1 _ c ⟨v, e, r⟩ Q q => by
    obtain ⟨a, xs, rfl, ha, hd⟩ := Dp.tupI r
    exact ⟨_, xs.length, e, .inr ⟨xs, Same.sqT c ha, rfl⟩, q _ S1 H1 (.refl c) (by rw [DpAll.len hd])⟩
theorem g_lenS {x : Str} (h : G te σ S (Is (.str x))) (hz : x.length ≤ sizeLine) : G (tCB (rLn K) (tCons te tNil)) σ S (Is (.int x.length)) :=
  g_cb (ga_one h) fun vs S1 H1 _ c ⟨v, e, r⟩ Q q => ⟨v, x.length, e, r ▸ ⟨hz, rfl⟩, q _ S1 H1 (.refl c) rfl⟩
/-- a list of the values f b -/
abbrev Ls {β : Type} (K : PySem.W.Frag) (f : β → V) (bs : List β) : Rel := fun v H => ∃ a, v = .ref a ∧ SqL K H a (bs.map f)
/-- all(..), any(..), sum(..) -/
theorem g_all {bs : List Bool} (h : G te σ S (Ls K V.bl bs)) : G (tCB (rAll K) (tCons te tNil)) σ S (Is (.bl (bs.all id))) :=
  g_cb (ga_one h) fun vs S1 H1 _ c ⟨v, e, a, hv, r⟩ Q q => ⟨a, bs, by rw [e, hv], Same.sqL c r, q _ S1 H1 (.refl c) rfl⟩
theorem g_any {bs : List Bool} (h : G te σ S (Ls K V.bl bs)) : G (tCB (rAny K) (tCons te tNil)) σ S (Is (.bl (bs.any id))) :=
  g_cb (ga_one h) fun vs S1 H1 _ c ⟨v, e, a, hv, r⟩ Q q => ⟨a, bs, by rw [e, hv], Same.sqL c r, q _ S1 H1 (.refl c) rfl⟩
theorem g_sum {ns : List Int} (h : G te σ S (Ls K V.int ns)) : G (tCB (rSum K) (tCons te tNil)) σ S (Is (.int ns.sum)) :=
  g_cb (ga_one h) fun vs S1 H1 _ c ⟨v, e, a, hv, r⟩ Q q => ⟨a, ns, by rw [e, hv], Same.sqL c r, q _ S1 H1 (.refl c) rfl⟩
/-- operators on ints, on flat values, on data -/
theorem g_I0 {g : Int → Int → V} {i j : Int} (ha : G ta σ S (Is (.int i))) (hb : G tb σ S (Is (.int j))) : G (tOp (rI0 g) ta tb) σ S (Is (g i j)) :=
  g_op ha .is hb fun x y S1 H1 _ c hx hy Q q => ⟨i, j, hx, hy, q _ S1 H1 (.refl c) rfl⟩
theorem g_I {C : Int → Int → Prop} {g : Int → Int → V} {i j : Int} (ha : G ta σ S (Is (.int i))) (hb : G tb σ S (Is (.int j))) (hc : C i j) : G (tOp (rI C g) ta tb) σ S (Is (g i j)) :=
  g_op ha .is hb fun x y S1 H1 _ c hx hy Q q => ⟨i, j, hx, hy, hc, q _ S1 H1 (.refl c) rfl⟩
theorem g_eqS {x y : V} (ha : G ta σ S (Is x)) (hb : G tb σ S (Is y)) (hs : scal x y = true) : G (tOp rEq ta tb) σ S (Is (.bl (decide (x = y)))) :=
  g_op ha .is hb fun x' y' S1 H1 _ c hx hy Q q => ⟨by rw [hx, hy]; exact hs, q _ S1 H1 (.refl c) (by rw [hx, hy])⟩
theorem g_neS {x y : V} (ha : G ta σ S (Is x)) (hb : G tb σ S (Is y)) (hs : scal x y = true) : G (tOp rNe ta tb) σ S (Is (.bl (!decide (x = y)))) :=
  g_op ha .is hb fun x' y' S1 H1 _ c hx hy Q q => ⟨by rw [hx, hy]; exact hs, q _ S1 H1 (.refl c) (by rw [hx, hy])⟩
theorem g_eqD {d e : PyData} (ha : G ta σ S (D K d)) (hb : G tb σ S (D K e)) (h1 : SeqAt.shaped d = true) (h2 : SeqAt.shaped e = true) : G (tOp (rEqD K) ta tb) σ S (Is (.bl (PyData.eqv d e))) :=
  g_op ha .d hb fun x y S1 H1 _ c hx hy Q q => ⟨d, e, Dp.up c hx, Dp.up c hy, h1, h2, q _ S1 H1 (.refl c) rfl⟩
theorem g_neD {d e : PyData} (ha : G ta σ S (D K d)) (hb : G tb σ S (D K e)) (h1 : SeqAt.shaped d = true) (h2 : SeqAt.shaped e = true) : G (tOp (rNeD K) ta tb) σ S (Is (.bl (!PyData.eqv d e))) :=
  g_op ha .d hb fun x y S1 H1 _ c hx hy Q q => ⟨d, e, Dp.up c hx, Dp.up c hy, h1, h2, q _ S1 H1 (.refl c) rfl⟩
/-- items -/
theorem g_ixT {ds : List PyData} {d : PyData} {i : Nat} (ha : G ta σ S (D K (.tuple ds))) (hb : G tb σ S (Is (.int i))) (h : ds[i]? = some d) : G (tOp (rIxT K) ta tb) σ S (D K d) :=
  g_op ha .d hb fun x y S1 H1 _ c hx hy Q q => by
    obtain ⟨a, xs, rfl, h1, h2⟩ := Dp.tupI hx
    obtain ⟨v, hv, hd⟩ := DpAll.get' h2 h
    exact ⟨a, xs, i, v, rfl, hy, Same.sqT c h1, atI_nat hv, q _ S1 H1 (.refl c) hd⟩
theorem g_ixL {ds : List PyData} {d : PyData} {i : Nat} (ha : G ta σ S (D K (.list ds))) (hb : G tb σ S (Is (.int i))) (h : ds[i]? = some d) : G (tOp (rIxL K) ta tb) σ S (D K d) :=
  g_op ha .d hb fun x y S1 H1 _ c hx hy Q q => by
    obtain ⟨a, xs, rfl, h1, h2⟩ := Dp.lstI hx
    obtain ⟨v, hv, hd⟩ := DpAll.get' h2 h
    exact ⟨a, xs, i, v, rfl, hy, Same.sqL c h1, atI_nat hv, q _ S1 H1 (.refl c) hd⟩
theorem g_isStr {x : Str} (h : G te σ S (D K (.str x))) : G te σ S (Is (.str x)) := h.imp fun _ _ _ r => Dp.strI r
theorem g_isInt {x : Int} (h : G te σ S (D K (.int x))) : G te σ S (Is (.int x)) := h.imp fun _ _ _ r => Dp.intI r
theorem g_dStr {x : Str} (h : G te σ S (Is (.str x))) : G te σ S (D K (.str x)) := h.imp fun _ _ _ r => r ▸ .str x
theorem g_dInt {x : Int} (h : G te σ S (Is (.int x))) : G te σ S (D K (.int x)) := h.imp fun _ _ _ r => r ▸ .int x
theorem g_dv {i : Nat} {d : PyData} (h : σ[i]? = some (some v)) (r : Dp K S v d) : G (tVar i) σ S (D K d) := g_var h r .d
/-- new tuples and lists -/
def DA (K : PySem.W.Frag) (ds : List PyData) : List V → Hp → Prop := fun vs H => DpAll K H vs ds
theorem ga_d0 : GA tNil σ S (DA K []) := fun S1 H1 _ c Q q => q [] S1 H1 (.refl c) .nil
theorem ga_dc {t : TA} {d : PyData} {ds : List PyData} (h : G te σ S (D K d)) (ht : GA t σ S (DA K ds)) : GA (tCons te t) σ S (DA K (d :: ds)) := fun S1 H1 e b Q q =>
  h S1 H1 e b _ fun v S2 H2 e2 r => ht S2 H2 (e.trans e2.ss) e2.sh _ fun ws S3 H3 e3 r3 => q _ S3 H3 (e2.trans e3) (.cons (Dp.up e3.ss r) r3)
theorem dall_new {vs : List V} {ds : List PyData} {p : Addr} {o : HO} (h : DpAll K H vs ds) (hp : H p = none) : DpAll K (upd H p o) vs ds := DpAll.up (Same.new hp) h
theorem g_tup {t : TA} {ds : List PyData} (h : GA t σ S (DA K ds)) (hz : ds.length ≤ 1000) : G (tTup t) σ S (D K (.tuple ds)) := fun S1 H1 e b Q q => h S1 H1 e b _ fun vs S2 H2 e2 r =>
  ⟨Nat.le_trans (by rw [DpAll.len r]; exact hz) (by decide), fun p hp => q _ _ _ (e2.trans (Gw.new e2.sh hp)) (.tup (SqT.of upd_same) (dall_new r (e2.sh.free hp)))⟩
theorem g_lst {t : TA} {ds : List PyData} (h : GA t σ S (DA K ds)) (hz : ds.length ≤ 1000) : G (tLst t) σ S (D K (.list ds)) := fun S1 H1 e b Q q => h S1 H1 e b _ fun vs S2 H2 e2 r =>
  ⟨Nat.le_trans (by rw [DpAll.len r]; exact hz) (by decide), fun p hp => q _ _ _ (e2.trans (Gw.new e2.sh hp)) (.lst (SqL.of upd_same) (dall_new r (e2.sh.free hp)))⟩
end

/-! ### what is walked -/
/-- the turns of J from S0 on: the i-th item a of xs is given as a value v with RI a v -/
def Wk {α : Type} (J : It) (S0 : Hp) (xs : List α) (RI : α → Rel) : Prop :=
  Walk J xs.length (fun H => Same S0 H) (fun i H x H' => ∀ S, Same S0 S → Same S H → ∃ S', Gw S H S' H' ∧ ∃ a, xs[i]? = some a ∧ RI a x S')
/-- an iterable, from S on -/
def GI {α : Type} (wi : TI) (σ : L2.St) (S : Hp) (xs : List α) (RI : α → Rel) : Prop :=
  ∀ S1 H1, Same S S1 → Same S1 H1 → ∀ R : It → Hp → Prop, (∀ J S2 H2, Gw S1 H1 S2 H2 → Wk J S2 xs RI → R J H2) → wi σ H1 R
section
variable {K : PySem.W.Frag} {σ : L2.St} {S H H' : Hp} {te : TE}
theorem gi_list {ds : List PyData} (h : G te σ S (D K (.list ds))) : GI (iList K te) σ S ds (D K) := fun S1 H1 e b R q => h S1 H1 e b _ fun v S2 H2 e2 r => by
  obtain ⟨a, xs, rfl, ha, hd⟩ := Dp.lstI r
  refine ⟨a, rfl, ⟨xs, Same.sqL e2.sh ha⟩, q _ S2 H2 e2 ?_⟩
  have w := walk_list (K := K) (a := a) (xs := xs)
  rw [DpAll.len hd] at w
  refine w.mono (fun H' e' => Same.sqL e' ha) fun i H x H' hi eG ⟨e3, hx⟩ S' s1 s2 => ?_
  obtain ⟨d, e4, e5⟩ := DpAll.get hd hx
  subst e3
  exact ⟨S', .refl s2, d, e4, Dp.up s1 e5⟩
theorem gi_tup {ds : List PyData} (h : G te σ S (D K (.tuple ds))) : GI (iTup K te) σ S ds (D K) := fun S1 H1 e b R q => h S1 H1 e b _ fun v S2 H2 e2 r => by
  obtain ⟨a, xs, rfl, ha, hd⟩ := Dp.tupI r
  refine ⟨a, rfl, ⟨xs, Same.sqT e2.sh ha⟩, q _ S2 H2 e2 ?_⟩
  have w := walk_tup (K := K) (a := a) (xs := xs)
  rw [DpAll.len hd] at w
  refine w.mono (fun H' e' => Same.sqT e' ha) fun i H x H' hi eG ⟨e3, hx⟩ S' s1 s2 => ?_
  obtain ⟨d, e4, e5⟩ := DpAll.get hd hx
  subst e3
  exact ⟨S', .refl s2, d, e4, Dp.up s1 e5⟩
/-- what enumerate gives -/
abbrev RE (K : PySem.W.Frag) (p : Nat × PyData) : Rel := D K (.tuple [.int (p.1 : Nat), p.2])
/-- enumerate(list) -/
theorem gi_enum {ds : List PyData} (h : G te σ S (D K (.list ds))) : GI (iEnum K (tCons te tNil)) σ S ((List.range ds.length).zip ds) (RE K) := fun S1 H1 e b R q => h S1 H1 e b _ fun v S2 H2 e2 r => by
  obtain ⟨a, xs, rfl, ha, hd⟩ := Dp.lstI r
  refine ⟨a, xs, rfl, Same.sqL e2.sh ha, q _ S2 H2 e2 ?_⟩
  have w := walk_enum (K := K) (a := a) (xs := xs)
  have hl : ((List.range ds.length).zip ds).length = xs.length := by rw [List.length_zip, List.length_range, Nat.min_self, DpAll.len hd]
  unfold Wk
  rw [hl]
  refine w.mono (fun H' e' => Same.sqL e' ha) fun i H x H' hi eG hy S' s1 s2 => ?_
  obtain ⟨T, x1, y1, rfl, hT, rfl, h1, h2⟩ := hy
  have h1 : V.int (i : Nat) = x1 := Option.some.inj h1
  subst h1
  obtain ⟨d, e4, e5⟩ := DpAll.get hd h2
  refine ⟨_, Gw.new s2 hT, (i, d), ?_, .tup (SqT.of upd_same) (.cons (.int _) (.cons (Dp.up (s1.trans (Same.new (s2.free hT))) e5) .nil))⟩
  rw [List.getElem?_zip_eq_some]
  exact ⟨by rw [List.getElem?_range (by rw [← DpAll.len hd]; exact hi)], e4⟩
theorem gi_range {n : Nat} {ta : TA} (h : GA ta σ S (fun vs _ => vs = [.int n])) (hn : n < 100000) : GI (iRng1 ta) σ S (List.range n) (fun i => Is (.int (i : Nat))) := fun S1 H1 e b R q => h S1 H1 e b _ fun v S2 H2 e2 r => by
  refine ⟨n, r, by omega, by omega, q _ S2 H2 e2 ?_⟩
  have w := walk_range (lo := 0) (n := ((n : Int)).toNat)
  have hl : ((n : Int)).toNat = n := by omega
  rw [hl] at w ⊢
  unfold Wk
  rw [List.length_range]
  refine w.mono (fun _ _ => trivial) fun i H x H' hi eG ⟨e3, hx⟩ S' s1 s2 => ?_
  subst e3
  have hx' : x = V.int (0 + (i : Nat)) := hx
  exact ⟨S', .refl s2, i, List.getElem?_range hi, by rw [hx', Int.zero_add]⟩
theorem gi_str {x : Str} (h : G te σ S (Is (.str x))) : GI (iStr te) σ S x.cps.toList (fun c => Is (.str ⟨#[c]⟩)) := fun S1 H1 e b R q => h S1 H1 e b _ fun v S2 H2 e2 r => by
  refine ⟨x, r, q _ S2 H2 e2 ?_⟩
  unfold Wk
  have w := walk_str (z := x)
  rw [show x.cps.toList.length = x.cps.size by simp]
  refine w.mono (fun _ _ => trivial) fun i H v H' hi eG ⟨e3, c, hc, hv⟩ S' s1 s2 => ?_
  subst e3
  exact ⟨S', .refl s2, c, by rw [← hc]; simp, hv⟩

/-! ### list comprehensions -/
theorem paired_app {α β : Type} {F : α → β → Prop} : ∀ {xs : List α} {ys : List β} {x : α} {y : β}, Paired F xs ys → F x y → Paired F (xs ++ [x]) (ys ++ [y])
  | _, _, _, _, .nil, h => .cons h .nil
  | _, _, _, _, .cons a t, h => .cons a (paired_app t h)
theorem paired_len {α β : Type} {F : α → β → Prop} : ∀ {xs : List α} {ys : List β}, Paired F xs ys → xs.length = ys.length
  | _, _, .nil => rfl
  | _, _, .cons _ t => congrArg Nat.succ (paired_len t)
theorem take_succ' {α : Type} {l : List α} {i : Nat} {x : α} (h : l[i]? = some x) : l.take (i + 1) = l.take i ++ [x] := by
  obtain ⟨h1, h2⟩ := List.getElem?_eq_some_iff.mp h
  rw [List.take_succ_eq_append_getElem h1, h2]
/-- at p a list whose items stand for bs -/
def LsR {β : Type} (RO : β → Rel) (bs : List β) : Rel := fun v S => ∃ p vs, v = .ref p ∧ S p = some (.lst vs) ∧ Paired (fun x b => RO b x S) vs bs
theorem up_lsR {β : Type} {RO : β → Rel} (u : ∀ b, Up (RO b)) {bs : List β} : Up (LsR RO bs) := fun v H H' e ⟨p, vs, h1, h2, h3⟩ => ⟨p, vs, h1, e _ _ h2, Paired.mapP h3 fun x b r => u b _ _ _ e r⟩
theorem g_lc {α β : Type} {xs : List α} {RI : α → Rel} {RO : β → Rel} {wi : TI} {g : TG} {tt : TT} {te : TE} {vs : List Nat} (f : α → Bool) (o : α → β) (h : GI wi σ S xs RI) (uo : ∀ b, Up (RO b)) (hz : xs.length ≤ 100000)
    (turn : ∀ a x S1 H1, Same S S1 → Same S1 H1 → a ∈ xs → RI a x S1 → ∀ Q : L2.St → Hp → Prop, (∀ σ2 S2 H2, Gw S1 H1 S2 H2 → wipe σ2 vs = wipe σ vs → GT tt σ2 S2 (f a) → (f a = true → G te σ2 S2 (RO (o a))) → Q σ2 H2) → g x (wipe σ vs) H1 Q) :
    G (tLc wi g tt te vs) σ S (LsR RO ((xs.filter f).map o)) := fun S0 H0 e0 b0 Q q => h S0 H0 e0 b0 _ fun J S1 H1 e1 w => fun L hL => by
  have hLS : S1 L = none := e1.sh.free hL
  refine lc_it w (fun i H' => ∃ S' acc, Gw S1 H1 S' H' ∧ S' L = none ∧ H' L = some (.lst acc) ∧ acc.length ≤ i ∧ Paired (fun x b => RO b x S') acc (((xs.take i).filter f).map o)) ?_ ?_ ?_ ?_
  · exact ⟨S1, [], Gw.mut e1.sh hL, hLS, upd_same, Nat.le_refl _, .nil⟩
  · rintro i H' _ ⟨S', acc, g1, _⟩
    exact g1.ss.trans g1.sh
  · rintro i x H2 H3 hi ⟨S2, acc, g1, hs, hacc, hl, pr⟩ hy
    obtain ⟨S3, g2, a, ha, ri⟩ := hy S2 g1.ss g1.sh
    have hs3 : S3 L = none := g2.none hs hacc
    refine turn a x S3 H3 ((e0.trans e1.ss).trans (g1.ss.trans g2.ss)) g2.sh (List.mem_of_getElem? ha) ri _ fun σ2 S4 H4 g3 hw ht he => ⟨hw, ht S4 H4 (Same.refl _) g3.sh _ fun S5 H5 g4 => ?_⟩
    have hacc5 : H5 L = some (.lst acc) := g4.hh _ _ (g3.hh _ _ (g2.hh _ _ hacc))
    have hs5 : S5 L = none := g4.none (g3.none hs3 (g2.hh _ _ hacc)) (g3.hh _ _ (g2.hh _ _ hacc))
    have g25 : Gw S2 H2 S5 H5 := (g2.trans g3).trans g4
    cases hf : f a with
    | true =>
      show te σ2 H5 _
      refine he hf S5 H5 g4.ss g4.sh _ fun y S6 H6 g5 ry => ⟨acc, g5.hh _ _ hacc5, Nat.lt_of_le_of_lt hl (Nat.lt_of_lt_of_le (Nat.lt_of_lt_of_le hi hz) (by decide)), ?_⟩
      have hs6 : S6 L = none := g5.none hs5 hacc5
      refine ⟨S6, _, ((g1.trans g25).trans g5).wr hL hs6, hs6, upd_same, ?_, ?_⟩
      · rw [List.length_append]
        simp only [List.length_singleton]
        omega
      · rw [take_succ' ha, List.filter_append, List.map_append]
        have e1' : ([a].filter f).map o = [o a] := by simp [hf]
        rw [e1']
        exact paired_app (Paired.mapP pr fun z b r => uo b _ _ _ (g25.trans g5).ss r) ry
    | false =>
      show ∃ _, _
      refine ⟨S5, acc, g1.trans g25, hs5, hacc5, by omega, ?_⟩
      rw [take_succ' ha, List.filter_append, List.map_append]
      have e1' : ([a].filter f).map o = [] := by simp [hf]
      rw [e1', List.append_nil]
      exact Paired.mapP pr fun z b r => uo b _ _ _ g25.ss r
  · rintro H' ⟨S', acc, g1, hs, hacc, hl, pr⟩
    rw [List.take_length] at pr
    have g2 := g1.frz hL hs hacc
    exact q _ _ H' (e1.trans g2) ⟨L, acc, rfl, upd_same, Paired.mapP pr fun z b r => uo b _ _ _ (Same.new hs) r⟩
theorem lsR_bl {bs : List Bool} (h : G te σ S (LsR (fun b => Is (.bl b)) bs)) : G te σ S (Ls K V.bl bs) := h.imp fun v S2 _ ⟨p, vs, h1, h2, h3⟩ => ⟨p, h1, SqL.of (by
  rw [h2]
  have : ∀ {vs : List V} {bs : List Bool}, Paired (fun x b => Is (.bl b) x S2) vs bs → vs = bs.map V.bl := fun {vs bs} h => by
    induction h with
    | nil => rfl
    | cons a _ ih => rw [ih, List.map_cons]; exact congrArg (· :: _) a
  rw [this h3])⟩
end
end NK
end

section
set_option Elab.async false
set_option linter.all false
set_option maxRecDepth 100000
set_option maxHeartbeats 4000000
namespace NK
open PySem PySem.Spec L2
open PyProof.Rows hiding St
section
variable {K : PySem.W.Frag} {σ : L2.St} {S H : Hp} {ta tb te tl : TE} {tt tu : TT} {R T : Rel} {v w : V} {α β : Type} {xs : List α} {RI : α → Rel} {RO : β → Rel} {wi : TI} {g : TG} {vs : List Nat}
theorem DpAll.two {H : Hp} {ys : List V} {d e : PyData} (h : DpAll K H ys [d, e]) : ∃ y z, ys = [y, z] ∧ Dp K H y d ∧ Dp K H z e := by
  cases h with
  | cons h1 t =>
    cases t with
    | cons h2 t2 =>
      cases t2
      exact ⟨_, _, rfl, h1, h2⟩
theorem filter_yes {γ : Type} (l : List γ) : l.filter (fun _ => true) = l := List.filter_eq_self.mpr fun _ _ => rfl
/-! ### comprehensions by their target -/
/-- [te for (slot i) in xs if tt] -/
theorem g_lc1 {i : Nat} (f : α → Bool) (o : α → β) (h : GI wi σ S xs RI) (uo : ∀ b, Up (RO b)) (hz : xs.length ≤ 100000) (hw : ∀ x, wipe ((wipe σ vs).set i (some x)) vs = wipe σ vs)
    (turn : ∀ a x S1, Same S S1 → a ∈ xs → RI a x S1 → GT tt ((wipe σ vs).set i (some x)) S1 (f a) ∧ (f a = true → G te ((wipe σ vs).set i (some x)) S1 (RO (o a)))) :
    G (tLc wi (gName i) tt te vs) σ S (LsR RO ((xs.filter f).map o)) :=
  g_lc f o h uo hz fun a x S1 H1 s1 s2 ha ri Q q => by
    obtain ⟨t1, t2⟩ := turn a x S1 s1 ha ri
    exact q _ S1 H1 (.refl s2) (hw x) t1 t2
/-- .. without a test -/
theorem g_lcA {i : Nat} (o : α → β) (h : GI wi σ S xs RI) (uo : ∀ b, Up (RO b)) (hz : xs.length ≤ 100000) (hw : ∀ x, wipe ((wipe σ vs).set i (some x)) vs = wipe σ vs)
    (turn : ∀ a x S1, Same S S1 → a ∈ xs → RI a x S1 → G te ((wipe σ vs).set i (some x)) S1 (RO (o a))) : G (tLc wi (gName i) tYes te vs) σ S (LsR RO (xs.map o)) := by
  have q := g_lc1 (tt := tYes) (fun _ => true) o h uo hz hw fun a x S1 s1 ha ri => ⟨fun S2 H2 _ b Q q => q S2 H2 (.refl b), fun _ => turn a x S1 s1 ha ri⟩
  rw [filter_yes] at q
  exact q
/-- [te for (slot i), (slot j) in xs if tt], the items pairs -/
theorem g_lc2 {i j : Nat} {d1 d2 : α → PyData} (f : α → Bool) (o : α → β) (h : GI wi σ S xs (fun a => D K (.tuple [d1 a, d2 a]))) (uo : ∀ b, Up (RO b)) (hz : xs.length ≤ 100000)
    (hw : ∀ x y, wipe (((wipe σ vs).set i (some x)).set j (some y)) vs = wipe σ vs)
    (turn : ∀ a x y S1, Same S S1 → a ∈ xs → Dp K S1 x (d1 a) → Dp K S1 y (d2 a) → GT tt (((wipe σ vs).set i (some x)).set j (some y)) S1 (f a) ∧ (f a = true → G te (((wipe σ vs).set i (some x)).set j (some y)) S1 (RO (o a)))) :
    G (tLc wi (gTup K 2 (gCons (gName i) (gCons (gName j) gNil))) tt te vs) σ S (LsR RO ((xs.filter f).map o)) :=
  g_lc f o h uo hz fun a x S1 H1 s1 s2 ha ri Q q => by
    obtain ⟨p, ys, rfl, hp, hd⟩ := Dp.tupI ri
    obtain ⟨y1, y2, rfl, h1, h2⟩ := DpAll.two hd
    obtain ⟨t1, t2⟩ := turn a y1 y2 S1 s1 ha h1 h2
    exact ⟨p, [y1, y2], rfl, Same.sqT s2 hp, rfl, y1, [y2], rfl, y2, [], rfl, rfl, q _ S1 H1 (.refl s2) (hw y1 y2) t1 t2⟩
theorem g_lcB {i j : Nat} {d1 d2 : α → PyData} (o : α → β) (h : GI wi σ S xs (fun a => D K (.tuple [d1 a, d2 a]))) (uo : ∀ b, Up (RO b)) (hz : xs.length ≤ 100000)
    (hw : ∀ x y, wipe (((wipe σ vs).set i (some x)).set j (some y)) vs = wipe σ vs)
    (turn : ∀ a x y S1, Same S S1 → a ∈ xs → Dp K S1 x (d1 a) → Dp K S1 y (d2 a) → G te (((wipe σ vs).set i (some x)).set j (some y)) S1 (RO (o a))) :
    G (tLc wi (gTup K 2 (gCons (gName i) (gCons (gName j) gNil))) tYes te vs) σ S (LsR RO (xs.map o)) := by
  have q := g_lc2 (tt := tYes) (fun _ => true) o h uo hz hw fun a x y S1 s1 ha r1 r2 => ⟨fun S2 H2 _ b Q q => q S2 H2 (.refl b), fun _ => turn a x y S1 s1 ha r1 r2⟩
  rw [filter_yes] at q
  exact q
theorem pr_d {enc : β → PyData} {S2 : Hp} : ∀ {vs : List V} {ds : List β}, Paired (fun x b => Dp K S2 x (enc b)) vs ds → DpAll K S2 vs (ds.map enc)
  | _, _, .nil => .nil
  | _, _, .cons a t => .cons a (pr_d t)
theorem pr_v {f : β → V} : ∀ {vs : List V} {ds : List β}, Paired (fun x b => x = f b) vs ds → vs = ds.map f
  | _, _, .nil => rfl
  | _, _, .cons a t => by rw [List.map_cons, ← pr_v t, ← a]
/-- lists of data, of values -/
theorem lsR_d {ds : List β} {enc : β → PyData} : ∀ v S2, LsR (fun b => D K (enc b)) ds v S2 → Dp K S2 v (.list (ds.map enc)) := fun v S2 ⟨p, vs, h1, h2, h3⟩ => by
  subst h1
  exact .lst (SqL.of h2) (pr_d h3)
theorem lsR_v {ds : List β} {f : β → V} : ∀ v S2, LsR (fun b => Is (f b)) ds v S2 → Ls K f ds v S2 := fun v S2 ⟨p, vs, h1, h2, h3⟩ => ⟨p, h1, SqL.of (by rw [h2, pr_v h3])⟩
theorem g_lsD {ds : List β} {enc : β → PyData} (h : G te σ S (LsR (fun b => D K (enc b)) ds)) : G te σ S (D K (.list (ds.map enc))) := h.imp fun v S2 _ r => lsR_d v S2 r
theorem g_lsV {ds : List β} {f : β → V} (h : G te σ S (LsR (fun b => Is (f b)) ds)) : G te σ S (Ls K f ds) := h.imp fun v S2 _ r => lsR_v v S2 r
/-- all([t for ..]) -/
theorem g_allC {ds : List β} {f : β → Bool} (h : G te σ S (LsR (fun b => Is (.bl (f b))) ds)) : G (tCB (rAll K) (tCons te tNil)) σ S (Is (.bl (ds.all f))) := by
  have q : G te σ S (Ls K V.bl (ds.map f)) := h.imp fun v S2 _ r => by
    obtain ⟨a, e1, e2⟩ := lsR_v (K := K) (f := fun b => V.bl (f b)) v S2 r
    exact ⟨a, e1, by rw [List.map_map]; exact e2⟩
  have r := g_all q
  rw [List.all_map] at r
  exact r
theorem g_anyC {ds : List β} {f : β → Bool} (h : G te σ S (LsR (fun b => Is (.bl (f b))) ds)) : G (tCB (rAny K) (tCons te tNil)) σ S (Is (.bl (ds.any f))) := by
  have q : G te σ S (Ls K V.bl (ds.map f)) := h.imp fun v S2 _ r => by
    obtain ⟨a, e1, e2⟩ := lsR_v (K := K) (f := fun b => V.bl (f b)) v S2 r
    exact ⟨a, e1, by rw [List.map_map]; exact e2⟩
  have r := g_any q
  rw [List.any_map] at r
  exact r
theorem g_sumC {ds : List β} {f : β → Int} (h : G te σ S (LsR (fun b => Is (.int (f b))) ds)) : G (tCB (rSum K) (tCons te tNil)) σ S (Is (.int (ds.map f).sum)) := by
  have q : G te σ S (Ls K V.int (ds.map f)) := h.imp fun v S2 _ r => by
    obtain ⟨a, e1, e2⟩ := lsR_v (K := K) (f := fun b => V.int (f b)) v S2 r
    exact ⟨a, e1, by rw [List.map_map]; exact e2⟩
  exact g_sum q
theorem all_eq {ds : List β} {f : β → Bool} (h : ∀ b ∈ ds, f b = true) : ds.all f = true := List.all_eq_true.mpr h

/-! ### chains of comparisons -/
theorem g_chain {p q : Int → Int → Bool} {i j k : Int} (ha : G ta σ S (Is (.int i))) (hb : G tb σ S (Is (.int j))) (hc : G te σ S (Is (.int k))) :
    G (tChain (rI0 fun i j => .bl (p i j)) (rI0 fun i j => .bl (q i j)) ta tb te) σ S (Is (.bl (p i j && q j k))) := fun S1 H1 e b Q k' =>
  ha S1 H1 e b _ fun x S2 H2 e2 hx => hb S2 H2 (e.trans e2.ss) e2.sh _ fun y S3 H3 e3 hy => ⟨i, j, hx, hy, p i j, rfl, by
    cases hp : p i j with
    | true =>
      show te σ H3 _
      exact hc S3 H3 ((e.trans e2.ss).trans e3.ss) e3.sh _ fun z S4 H4 e4 hz => ⟨j, k, hy, hz, k' _ S4 H4 ((e2.trans e3).trans e4) (by show V.bl (q j k) = V.bl (p i j && q j k); rw [hp, Bool.true_and])⟩
    | false => exact k' _ S3 H3 (e2.trans e3) (by show V.bl false = V.bl (p i j && q j k); rw [hp, Bool.false_and])⟩

/-! ### loops -/
variable {tb' : TS} {E : Ends}
theorem s_for (h : GI wi σ S xs RI) (b : Same S H)
    (k : ∀ S1 H1, Gw S H S1 H1 → ∃ Pv : Nat → L2.St → Hp → Hp → Prop, Pv 0 σ S1 H1 ∧ (∀ i σ' S' H', Pv i σ' S' H' → Same S1 S' ∧ Same S' H') ∧
      (∀ i a x σ' S0 H0 S' H', xs[i]? = some a → Pv i σ' S0 H0 → Gw S0 H0 S' H' → RI a x S' → g x σ' H' fun σ2 H2 => tb' { E with nx := fun σ3 H3 => ∃ S3, Pv (i + 1) σ3 S3 H3, ct := fun σ3 H3 => ∃ S3, Pv (i + 1) σ3 S3 H3, bk := E.nx } σ2 H2) ∧
      ∀ σ' S' H', Pv xs.length σ' S' H' → E.nx σ' H') : tFor wi g tb' E σ H := by
  refine h S H (Same.refl S) b _ fun J S1 H1 e1 w => ?_
  obtain ⟨Pv, p0, hg, hs, hd⟩ := k S1 H1 e1
  refine for_it w (fun i σ' H' => ∃ S', Pv i σ' S' H') ⟨S1, p0⟩ (fun i σ' H' _ ⟨S', p⟩ => (hg i σ' S' H' p).1.trans (hg i σ' S' H' p).2) (fun i x σ' H0 H' hi ⟨S0, p⟩ hy => ?_) fun σ' H' ⟨S', p⟩ => hd σ' S' H' p
  obtain ⟨S', g', a, ha, ri⟩ := hy S0 (hg i σ' S0 H0 p).1 (hg i σ' S0 H0 p).2
  exact hs i a x σ' S0 H0 S' H' ha p g' ri
/-- l.append(e), the list in slot i -/
theorem s_app {i : Nat} {l : Addr} {ys : List V} (hl : σ[i]? = some (some (.ref l))) (h : G te σ S R) (b : Same S H) (hL : H l = some (.lst ys)) (hz : ys.length < 100000)
    (k : ∀ v S1 H1, Gw S H S1 H1 → R v S1 → E.nx σ (upd H1 l (.lst (ys ++ [v])))) : tDrop (tBM K "list" rAppend (tVar i) (tCons te tNil)) E σ H :=
  ⟨.ref l, hl, .inl ⟨rfl, ys, SqL.of hL⟩, h S H (Same.refl S) b _ fun v S1 H1 e r => ⟨l, ys, v, rfl, rfl, e.hh _ _ hL, Nat.lt_of_lt_of_le hz (by decide), k v S1 H1 e r⟩⟩
/-- [] in slot i -/
theorem s_new {i : Nat} (b : Same S H) (k : ∀ p, H p = none → S p = none → E.nx (σ.set i (some (.ref p))) (upd H p (.lst []))) : tAsg (tLst tNil) (gName i) E σ H := ⟨Nat.zero_le _, fun p hp => k p hp (b.free hp)⟩
end
end NK
end

section
set_option Elab.async false
set_option linter.all false
set_option maxRecDepth 100000
set_option maxHeartbeats 4000000
namespace NK
open PySem PySem.Spec L2
open PyProof.Rows hiding St
/-- the set at a, its members ws -/
def SetV (w : World) (a : Addr) (ws : List V) : HO := .ext fun h => ∃ (es : Array (Int × Value)) (ep : Nat) (t : SetTable), (∃ o, h.get? a = some o ∧ o.ExactSet ∧ o.data = .set es ep t) ∧ Vals ws (es.toList.map (·.2)) ∧ t.fits es.size = true ∧ es.size < scanBound ∧ L2.Ris t.place.toList ∧
  (w.params.followText "set-order" = true ∨ t.led = true)
def rSortS (K : PySem.W.Frag) (w : World) : List V → Hp → VK → Prop := fun vs H Q => ∃ (a : Addr) (ws : List V) (es : List PyData), vs = [.ref a] ∧ H a = some (SetV w a ws) ∧ DpAll K H ws es ∧ PySem.W.AllAlike es ∧ PySem.W.Sortable es ∧ (∀ e ∈ es, e.depth ≤ 8) ∧
  ∀ (p : Addr) (ws' : List V) (es' : List PyData), H p = none → es'.Perm es → es'.Pairwise (fun x y => PySem.W.dataLe false id x y = true) → ws'.length = es'.length → (∀ z ∈ ws'.zip es', z ∈ ws.zip es) → Q (.ref p) (upd H p (.lst ws'))
/-- sorted(xs) of a list of data -/
def rSortL (K : PySem.W.Frag) : List V → Hp → VK → Prop := fun vs H Q => ∃ (a : Addr) (ws : List V) (es : List PyData), vs = [.ref a] ∧ SqL K H a ws ∧ DpAll K H ws es ∧ PySem.W.AllAlike es ∧ PySem.W.Sortable es ∧ (∀ e ∈ es, e.depth ≤ 8) ∧
  ∀ (p : Addr) (ws' : List V) (es' : List PyData), H p = none → es'.Perm es → es'.Pairwise (fun x y => PySem.W.dataLe false id x y = true) → ws'.length = es'.length → (∀ z ∈ ws'.zip es', z ∈ ws.zip es) → Q (.ref p) (upd H p (.lst ws'))
section
variable {P : Program} {w : World} {K : PySem.W.Frag} {X : Cx} {pins : List (Addr × Obj)} {σ : L2.St} {H : Hp} {s : Shared}
theorem setV_ok {h : Heap} {a : Addr} {ws : List V} {es : Array (Int × Value)} {ep : Nat} {t : SetTable} (ho : ∃ o, h.get? a = some o ∧ o.ExactSet ∧ o.data = .set es ep t) (hv : Vals ws (es.toList.map (·.2))) (hf : t.fits es.size = true) (hb : es.size < scanBound) (hr : L2.Ris t.place.toList)
    (hl : w.params.followText "set-order" = true ∨ t.led = true) : ObjOk P w H h a (SetV w a ws) :=
  ⟨⟨es, ep, t, ho, hv, hf, hb, hr, hl⟩, let ⟨o, h1, _⟩ := ho; ⟨o, h1⟩, fun h1 h2 ⟨es', ep', t', ⟨o, q1, q2⟩, q⟩ k => ⟨es', ep', t', ⟨o, k o q1, q2⟩, q⟩⟩
/-- a new object, other parts of the state moved too -/
theorem inv_new {s' : Shared} {p : Addr} {o : HO} (I : Inv X pins σ H s) (k : ∀ b u, s.heap.get? b = some u → s'.heap.get? b = some u) (hp : s.heap.objs.size ≤ p) (g : s'.gens = s.gens) (eo : s'.os = s.os) (new : ObjOk X.prog X.w (upd H p o) s'.heap p o) : Inv X pins σ (upd H p o) s' :=
  I.call' (ch := []) eo (Un.laid k hp (I.hok.fresh hp)) (I.hok.laid k hp new) (by rw [g]; exact I.bare) fun _ z => nomatch z
theorem each_perm {α β : Type} {R : α → β → Prop} : ∀ {as bs : List α} (_ : as.Perm bs) {cs : List β}, PySem.W.EachIs R as cs → ∃ ds, ds.Perm cs ∧ PySem.W.EachIs R bs ds := by
  intro as bs p
  induction p with
  | nil => exact fun h => ⟨_, List.Perm.refl _, h⟩
  | cons x _ ih =>
    intro cs h
    cases h with
    | cons h1 h2 =>
      obtain ⟨ds, q1, q2⟩ := ih h2
      exact ⟨_, q1.cons _, .cons h1 q2⟩
  | swap x y l =>
    intro cs h
    cases h with
    | cons h1 h2 =>
      cases h2 with
      | cons h2 h3 => exact ⟨_, List.Perm.swap _ _ _, .cons h2 (.cons h1 h3)⟩
  | trans _ _ ih1 ih2 =>
    intro cs h
    obtain ⟨ds, q1, q2⟩ := ih1 h
    obtain ⟨es, q3, q4⟩ := ih2 q2
    exact ⟨es, q3.trans q1, q4⟩
theorem each_vals : ∀ {vs : List V} {us : List Value} {ds : List PyData}, Vals vs us → vs.length = ds.length → PySem.W.EachIs (fun (u : Value) (b : V × PyData) => RelV b.1 u) us (vs.zip ds)
  | [], _, _, .nil, _ => .nil
  | _ :: _, _, [], .cons _ _, h => nomatch h
  | _ :: _, _, _ :: _, .cons r t, h => .cons r (each_vals t (Nat.succ.inj h))
theorem vals_each : ∀ {us : List Value} {bs : List (V × PyData)}, PySem.W.EachIs (fun (u : Value) (b : V × PyData) => RelV b.1 u) us bs → Vals (bs.map (·.1)) us
  | _, _, .nil => .nil
  | _, _, .cons r t => .cons r (vals_each t)
theorem zip_same {α β : Type} : ∀ bs : List (α × β), (bs.map (·.1)).zip (bs.map (·.2)) = bs
  | [] => rfl
  | b :: bs => congrArg (b :: ·) (zip_same bs)
theorem dp_in {vs : List V} {ds : List PyData} {b : V × PyData} (hd : DpAll K H vs ds) (hb : b ∈ vs.zip ds) : Dp K H b.1 b.2 := by
  induction vs generalizing ds with
  | nil => cases hb
  | cons v vs ih =>
    cases hd with
    | cons h1 h2 =>
      rcases List.mem_cons.mp hb with e | hb
      · rw [e]
        exact h1
      · exact ih h2 hb
theorem each_reads (I : Inv X pins σ H s) {vs : List V} {ds : List PyData} (hd : DpAll X.K H vs ds) : ∀ {us : List Value} {bs : List (V × PyData)}, PySem.W.EachIs (fun (u : Value) (b : V × PyData) => RelV b.1 u) us bs → (∀ b ∈ bs, b ∈ vs.zip ds) → PySem.W.EachIs (fun (u : Value) (b : V × PyData) => ∃ as, Reads s.heap u b.2 as) us bs
  | _, _, .nil, _ => .nil
  | _, _, .cons r t, h => .cons (Dp.reads I _ _ _ (dp_in hd (h _ List.mem_cons_self)) r) (each_reads I hd t fun b hb => h b (List.mem_cons_of_mem _ hb))
theorem snd_zip : ∀ {vs : List V} {ds : List PyData}, vs.length = ds.length → (vs.zip ds).map (·.2) = ds
  | [], [], _ => rfl
  | [], _ :: _, h => nomatch h
  | _ :: _, [], h => nomatch h
  | _ :: _, d :: _, h => congrArg (d :: ·) (snd_zip (Nat.succ.inj h))
/-- what a sort of the pairs gives -/
theorem sort_out {vs : List V} {ds : List PyData} {bs : List (V × PyData)} {out : List Value} (hl : vs.length = ds.length) (hp : bs.Perm (vs.zip ds)) (eo : PySem.W.EachIs (fun (u : Value) (b : V × PyData) => RelV b.1 u) out (bs.mergeSort (PySem.W.dataLe false (·.2)))) :
    ∃ (ws' : List V) (es' : List PyData), Vals ws' out ∧ es'.Perm ds ∧ es'.Pairwise (fun x y => PySem.W.dataLe false id x y = true) ∧ ws'.length = es'.length ∧ ∀ z ∈ ws'.zip es', z ∈ vs.zip ds := by
  have pm := (List.mergeSort_perm bs (PySem.W.dataLe false (·.2))).trans hp
  refine ⟨(bs.mergeSort (PySem.W.dataLe false (·.2))).map (·.1), (bs.mergeSort (PySem.W.dataLe false (·.2))).map (·.2), vals_each eo, ?_, ?_, by rw [List.length_map, List.length_map], fun z hz => ?_⟩
  · rw [← snd_zip hl]
    exact pm.map _
  · exact List.pairwise_map.mpr (PySem.W.sort_pairwise (PySem.W.sortLe_total _ _ _) bs)
  · rw [zip_same] at hz
    exact pm.mem_iff.mp hz
end
section
variable {X : Cx}
theorem cr_lenV : CallR X (.builtin "len") (fun vs H Q => ∃ a ws, vs = [V.ref a] ∧ H a = some (SetV X.w a ws) ∧ Q (.int ws.length) H) := by
  intro pins s σ H vs us Q I r ⟨a, ws, ev, ha, q⟩
  subst ev
  obtain ⟨es, ep, t, ⟨o, ho, hex, hdt⟩, hv, hf, hb, hr, hl⟩ := (I.hok a _ ha).1
  rw [Vals.ref1 r]
  have hn : es.size = ws.length := by rw [hv.length, List.length_map, Array.length_toList]
  have h63 : (es.size : Int) < 2 ^ 63 := by unfold scanBound at hb; omega
  refine call_len_set ho hex hdt hf h63 ?_
  rw [hn]
  exact ⟨.int ws.length, H, (I.tok _), ⟨_, rfl⟩, q⟩
theorem cr_sortS (hc : X.calm = true) (hr : Room 6 X.A) : CallR X (.builtin "sorted") (rSortS X.K X.w) := by
  intro pins s σ H vs us Q I r ⟨a, ws, ds, ev, ha, hd, hal, hk, hdp, q⟩
  subst ev
  obtain ⟨es, ep, t, ⟨o, ho, hex, hdt⟩, hv, hf, hb, hri, hl⟩ := (I.hok a _ ha).1
  have hlen := DpAll.len hd
  have hln : (es.toList.map (·.2)).length = ds.length := by rw [← hlen]; exact hv.length.symm
  have hsz : es.size = ds.length := by rw [← hln, List.length_map, Array.length_toList]
  rw [Vals.ref1 r]
  refine Calls.call_function_entry kind_sorted plain_sorted entry_sorted (args_sorted1 _) (wpAny_bind (m := checkCount "sorted" 1 1 _) (wpAny_pure ?_))
  refine wpAny_bind (collect_set (A := X.A.in1) (es := es) (I.ok.hd hc) ⟨o, ho, hex.1, hdt⟩ hf hb hri hl fun s1 xs k1 hz g1 o1 pm => ?_)
  obtain ⟨bs, p1, e1⟩ := each_perm pm.symm (each_vals hv hlen)
  have hb2 : ∀ b ∈ bs, b ∈ ws.zip ds := fun b hb => p1.mem_iff.mp hb
  have er := each_reads I hd e1 hb2
  have hxl : xs.length = ds.length := pm.length_eq.trans hln
  have hxs : xs.length ≤ sizeLine := by rw [hxl, ← hsz]; exact Nat.le_trans (Nat.le_of_lt hb) (by decide)
  refine wpAny_bind (wpAny_newList ?_ hxs)
  have hoL : (s1.heap.push (seqObj "list" xs.toArray 0)).get? s1.heap.objs.size = some (seqObj "list" xs.toArray 0) := Heap.get?_push_size _ rfl
  have hmem : ∀ d ∈ bs.map (·.2), d ∈ ds := fun d hd' => by
    obtain ⟨b, hb', rfl⟩ := List.mem_map.mp hd'
    exact (List.of_mem_zip (hb2 b hb')).2
  have er2 : PySem.W.EachIs (fun (u : Value) (b : V × PyData) => ∃ as, Reads (PySem.W.sortingHeap (s1.heap.push (seqObj "list" xs.toArray 0)) s1.heap.objs.size xs) u b.2 as) xs bs := er.mono fun u b ⟨as, r⟩ => ⟨as, Reads.keeps (fun c oc ec => PySem.W.sortingHeap_old (Nat.ne_of_lt (Heap.lt_size (k1 c oc ec))) (Heap.get?_push_of_some _ (k1 c oc ec))) r⟩
  have hdep : ∀ d ∈ bs.map (·.2), X.A.in1.in1.units + d.depth < cLine := fun d hd' => by
    have h1 := hdp d (hmem d hd')
    have h2 := hr.un
    show X.A.units + 1 + 1 + d.depth < cLine
    omega
  have hal2 : PySem.W.AllAlike (bs.map (·.2)) := fun d h1 d' h2 => hal d (hmem d h1) d' (hmem d' h2)
  have hk2 : PySem.W.Sortable (bs.map (·.2)) := hk.imp (fun z d h1 => z d (hmem d h1)) fun z d h1 => z d (hmem d h1)
  have SA := PySem.W.SortsAt.data (prog := X.prog) (w := X.w) (A := X.A.in1.in1) (s := { s1 with heap := PySem.W.sortingHeap (s1.heap.push (seqObj "list" xs.toArray 0)) s1.heap.objs.size xs }) (PySem.W.each_map (R := fun v d => ∃ as, Reads (PySem.W.sortingHeap (s1.heap.push (seqObj "list" xs.toArray 0)) s1.heap.objs.size xs) v d as) (fun b : V × PyData => b.2) er2) hal2 hk2 hdep
  refine wpAny_bind (wpAny_holding (wpAny_call_entry slot_list_sort ⟨_, hoL, rfl⟩ entry_list_sort (PySem.W.list_sort_vals (s := { s1 with heap := s1.heap.push (seqObj "list" xs.toArray 0) }) hoL SA hxs ⟨.none, rfl, ?_⟩) (args_list_sort _)))
  have eo := PySem.W.sortVals_data (h' := PySem.W.sortingHeap (s1.heap.push (seqObj "list" xs.toArray 0)) s1.heap.objs.size xs) (enc := (·.2)) false e1 er2 hal2
  obtain ⟨ws', es', h1, h2, h3, h4, h5⟩ := sort_out hlen p1 eo
  obtain ⟨c, hc2⟩ := sortedHeap_at (vs := xs) (out := (PySem.W.sortVals (PySem.W.dataKind (PySem.W.sortingHeap (s1.heap.push (seqObj "list" xs.toArray 0)) s1.heap.objs.size xs) (bs.map (·.2))) false xs xs).toArray) hoL
  have hp1 : s.heap.objs.size ≤ s1.heap.objs.size := hz
  refine wpAny_pure ⟨_, rfl, .ref s1.heap.objs.size, upd H s1.heap.objs.size (.lst ws'), inv_new I (fun b u e => ?_) hp1 g1 o1 ⟨?_, _, c, h1, hc2⟩, rfl, q _ ws' es' (I.hok.fresh hp1) h2 h3 h4 h5⟩
  · have hlt := Heap.lt_size (k1 b u e)
    exact (sortedHeap_old (Nat.ne_of_lt hlt) (by rw [size_push']; exact Nat.lt_succ_of_lt hlt)).trans (Heap.get?_push_of_some _ (k1 b u e))
  · rw [h4, h2.length_eq, ← hxl]
    exact hxs
theorem cr_sortL (hr : Room 6 X.A) : CallR X (.builtin "sorted") (rSortL X.K) := by
  intro pins s σ H vs us Q I r ⟨a, ws, ds, ev, ha, hd, hal, hk, hdp, q⟩
  subst ev
  obtain ⟨its, rv, pl, hz⟩ := I.list ha
  have hlen := DpAll.len hd
  rw [Vals.ref1 r]
  have e1 := each_vals rv hlen
  have hz2 : (ws.zip ds).length ≤ sizeLine := by rw [List.length_zip, hlen, Nat.min_self, ← hlen]; exact hz
  refine PySem.W.sorted_data (bs := ws.zip ds) (enc := (·.2)) pl.isList e1 (each_reads I hd e1 fun _ h => h) (by rw [snd_zip hlen]; exact hal) (by rw [snd_zip hlen]; exact hk) hz2 (fun b hb => ?_) fun out ho eo => ?_
  · have h1 := hdp _ (List.of_mem_zip hb).2
    have h2 := hr.un
    omega
  · obtain ⟨ws', es', h1, h2, h3, h4, h5⟩ := sort_out hlen (List.Perm.refl _) eo
    obtain ⟨c, hc⟩ := sortedAll_at s.heap its out.toArray
    have hp : s.heap.objs.size ≤ s.heap.objs.size + 1 := Nat.le_succ _
    refine ⟨.ref (s.heap.objs.size + 1), upd H (s.heap.objs.size + 1) (.lst ws'), I.laid (t' := s.toks) (fun _ _ => sortedAll_old) hp ⟨?_, out, c, h1, hc⟩, rfl, q _ ws' es' (I.hok.fresh hp) h2 h3 h4 h5⟩
    rw [h4, h2.length_eq, ← hlen]
    exact hz
end
end NK
end

section
set_option Elab.async false
set_option linter.all false
set_option maxRecDepth 100000
set_option maxHeartbeats 4000000
namespace NK
open PySem PySem.Spec L2
open PyProof.Rows hiding St
/-! ### tables of sets: masks up to 511 -/
/-- the numbers met from 0 on -/
def metN (m : Nat) : Nat → Nat → List Nat
  | 0, _ => []
  | f + 1, x => x :: metN m f ((x * 5 + 1) % (m + 1))
theorem metN_lcg (m : Nat) : ∀ (f b x : Nat), x = lcgN m b → ∀ y ∈ metN m f x, ∃ c, c < b + f ∧ y = lcgN m c
  | 0, _, _, _, _, h => nomatch h
  | f + 1, b, x, e, y, h => by
    rcases List.mem_cons.mp h with rfl | h
    · exact ⟨b, by omega, e⟩
    · obtain ⟨c, hc, ec⟩ := metN_lcg m f (b + 1) _ (by rw [e]; rfl) y h
      exact ⟨c, by omega, ec⟩
theorem met511 : ((List.range 512).all fun j => (metN 511 512 0).contains j) = true := by decide +kernel
theorem lcg511 {j : Nat} (hj : j ≤ 511) : ∃ b, b ≤ 511 ∧ lcgN 511 b = j := by
  have h := List.all_eq_true.mp met511 j (List.mem_range.mpr (Nat.lt_succ_of_le hj))
  obtain ⟨c, hc, e⟩ := metN_lcg 511 512 0 0 rfl j (List.contains_iff_mem.mp h)
  exact ⟨c, by omega, e.symm⟩
theorem lcg511_mod : ∀ k, lcgN 511 (512 + k) = lcgN 511 k
  | 0 => by decide +kernel
  | k + 1 => congrArg (fun x => (x * 5 + 1) % 512) (lcg511_mod k)
theorem lcgI511 {i j : Nat} (hi : i ≤ 511) (hj : j ≤ 511) : ∃ k, k ≤ 511 ∧ lcgI 511 i k = j := by
  obtain ⟨a, ha, rfl⟩ := lcg511 hi
  obtain ⟨b, hb, rfl⟩ := lcg511 hj
  by_cases c : a ≤ b
  · exact ⟨b - a, by omega, by rw [lcgN_add, Nat.add_sub_cancel' c]⟩
  · refine ⟨b + 512 - a, by omega, ?_⟩
    rw [lcgN_add, show a + (b + 512 - a) = 512 + b by omega]
    exact lcg511_mod b
/-- a mask from whose every slot each slot is met -/
structure Msk (m : Nat) : Prop where
  cas : m = 7 ∨ m = 31 ∨ m = 127 ∨ m = 511
  odd : m % 2 = 1
  big : m ≤ 511
  all : ∀ (h : Int) (j : Nat), j ≤ m → ∃ n, n ≤ m + 12 ∧ runI m (SetTable.bits h) n = j
theorem msk_of {m : Nat} (h : MaskOk m) : Msk m := ⟨h.imp_right (Or.imp_right .inl), mask_odd h, by rcases h with rfl | rfl | rfl <;> decide, fun x j hj => run_meets h x hj⟩
theorem msk511 : Msk 511 := ⟨.inr (.inr (.inr rfl)), rfl, Nat.le_refl _, fun h j hj => by
  obtain ⟨k, hk, e⟩ := lcgI511 (runI_le 511 (SetTable.bits h) 12) hj
  exact ⟨12 + k, by omega, (runI_tail (bits_lt h) k).trans e⟩⟩
/-- each slot, early on the way; its run begins early, too -/
theorem way_meets {m : Nat} (hm : Msk m) (h : Int) {j : Nat} (hj : j ≤ m) : (∃ k, k < 10 * SetTable.turns m ∧ way m h k = j) ∧ ∃ n, n < SetTable.turns m ∧ way m h (off m (SetTable.bits h % (m + 1)) (SetTable.bits h) n) = j := by
  obtain ⟨n, hn, e⟩ := hm.all h j hj
  obtain ⟨k, hk, e2⟩ := run_nth m (SetTable.bits h) n
  refine ⟨⟨k, by unfold SetTable.turns; omega, ?_⟩, n, by unfold SetTable.turns; omega, ?_⟩
  · exact (congrArg SetTable.Probe.j e2).trans e
  · exact (congrArg SetTable.Probe.j ((nth_off m n _ _).trans (by rw [itL_run]))).trans e
theorem way_in {m : Nat} (h : Int) (k : Nat) : way m h k ≤ m := by
  have r := runEnd_bd (m := m) (i := SetTable.bits h % (m + 1)) (Nat.le_of_lt_succ (Nat.mod_lt _ (Nat.succ_pos _)))
  have q := nth_in (m := m) k (runAt m (SetTable.bits h % (m + 1)) (SetTable.bits h)) (Nat.le_trans (Nat.le_of_eq (Nat.add_sub_cancel' r.2.1)) r.1)
  exact Nat.le_trans (Nat.le_add_right _ _) q
/-- a table in which each entry is found from its hash -/
structure Tb (t : SetTable) (hs : List Int) : Prop where
  ris : Ris t.place.toList
  dm : t.dummies = #[]
  sz : t.place.size = hs.length
  mok : Msk t.mask
  bd : ∀ x ∈ t.place.toList, x ≤ t.mask
  reach : ∀ (i : Nat) (h : Int) (j : Nat), hs[i]? = some h → t.place.toList[i]? = some j → ∃ k, way t.mask h k = j ∧ ∀ c, c < k → way t.mask h c ∈ t.place.toList
section
variable {t : SetTable} {hs : List Int} {h : Int} {K : Nat}
theorem Tb.first (T : Tb t hs) (hl : hs.length ≤ t.mask) (h : Int) : ∃ K, K < 10 * SetTable.turns t.mask ∧ way t.mask h K ∉ t.place.toList ∧ ∀ k, k < K → way t.mask h k ∈ t.place.toList := by
  obtain ⟨j, hj, hn⟩ := st_missing t.place.toList (t.mask + 1) (by rw [Array.length_toList, T.sz]; omega)
  obtain ⟨⟨k, hk, e⟩, _⟩ := way_meets T.mok h (Nat.le_of_lt_succ hj)
  obtain ⟨K, h1, h2, h3⟩ := st_least (p := fun k => way t.mask h k ∉ t.place.toList) k (fun z => hn (e ▸ z))
  exact ⟨K, Nat.lt_of_le_of_lt h1 hk, h2, fun c hc => Classical.byContradiction (h3 c hc)⟩
theorem Tb.before (T : Tb t hs) {i j : Nat} (hK : way t.mask h K ∉ t.place.toList) (hi : hs[i]? = some h) (hj : t.place.toList[i]? = some j) : ∃ k, k < K ∧ way t.mask h k = j := by
  obtain ⟨k, e, hb⟩ := T.reach i h j hi hj
  refine ⟨k, Nat.lt_of_not_le fun c => ?_, e⟩
  rcases Nat.eq_or_lt_of_le c with rfl | c
  · exact hK (e ▸ List.mem_of_getElem? hj)
  · exact hK (hb K c)
/-- an entry put in, at the place p -/
theorem Tb.put (T : Tb t hs) (hK : way t.mask h K ∉ t.place.toList) (hb : ∀ k, k < K → way t.mask h k ∈ t.place.toList) : ∃ p, p = SetTable.below t.place (way t.mask h K) ∧ p ≤ hs.length ∧ Tb (t.put (way t.mask h K)).1 (hs.take p ++ h :: hs.drop p) ∧
    (t.put (way t.mask h K)).1.fill = hs.length + 1 := by
  have hjm : way t.mask h K ≤ t.mask := way_in h K
  generalize hj : way t.mask h K = j at hK hjm ⊢
  have c1 := (below_cut T.ris j).1
  have hpp := put_place t j
  have hnp : t.place[SetTable.below t.place j]? ≠ some j := fun e => hK (List.mem_of_getElem? (Array.getElem?_toList .. ▸ e))
  obtain ⟨p, hp⟩ : ∃ p, p = SetTable.below t.place j := ⟨_, rfl⟩
  rw [← hp] at hpp c1
  have hph : p ≤ hs.length := T.sz ▸ c1
  have hpl : p ≤ t.place.toList.length := c1
  have hsize : (t.put j).1.place.size = hs.length + 1 := by
    rw [← Array.length_toList, hpp, len_ins _ hpl, Array.length_toList, T.sz]
  have up : ∀ x, x ∈ t.place.toList → x ∈ (t.put j).1.place.toList := fun x hx => hpp ▸ mem_ins.2 (.inr hx)
  refine ⟨p, hp, hph, ⟨ris_insert T.ris hnp, put_dm T.dm j, by rw [len_ins _ hph]; exact hsize, T.mok, fun x hx => ?_, fun i h' j' h1 h2 => ?_⟩, by show (t.put j).1.place.size + (t.put j).1.dummies.size = _; rw [hsize, put_dm T.dm j]; rfl⟩
  · rw [hpp] at hx
    rcases mem_ins.1 hx with rfl | z
    · exact hjm
    · exact T.bd x z
  · rw [tins_get hs hph] at h1
    rw [hpp, tins_get _ hpl] at h2
    have old : ∀ i, hs[i]? = some h' → t.place.toList[i]? = some j' → ∃ k, way t.mask h' k = j' ∧ ∀ c, c < k → way t.mask h' c ∈ (t.put j).1.place.toList := fun i a b => by
      obtain ⟨k, e, z⟩ := T.reach i h' j' a b
      exact ⟨k, e, fun c hc => up _ (z c hc)⟩
    split at h1
    · rename_i c
      rw [if_pos c] at h2
      exact old i h1 h2
    · rename_i c
      rw [if_neg c] at h2
      split at h1
      · rename_i d
        rw [if_pos d] at h2
        obtain rfl := Option.some.inj h1
        obtain rfl := Option.some.inj h2
        exact ⟨K, hj, fun c hc => up _ (hb c hc)⟩
      · rename_i d
        rw [if_neg d] at h2
        exact old (i - 1) h1 h2
end
/-- the first free slot of the way is found -/
theorem free_at {m : Nat} (hm : Msk m) (ow : Array (Option Nat)) (h : Int) {j : Nat} (hj : j ≤ m) (hf : oAt ow j = none) :
    ∃ K, SetTable.layClean.free m ow (SetTable.turns m) (SetTable.bits h % (m + 1)) (SetTable.bits h) = some (way m h K) ∧ oAt ow (way m h K) = none ∧ ∀ k, k < K → oAt ow (way m h k) ≠ none := by
  obtain ⟨_, n, hn, e⟩ := way_meets hm h hj
  obtain ⟨K, k1, k2, k3⟩ := st_least (p := fun k => oAt ow (way m h k) = none) _ (show oAt ow (way m h (off m (SetTable.bits h % (m + 1)) (SetTable.bits h) n)) = none from e ▸ hf)
  exact ⟨K, free_spec m ow (SetTable.turns m) n _ _ K hn k1 (fun k hk => Option.isNone_eq_false_iff.mpr (Option.isSome_iff_ne_none.mpr (k3 k hk))) (Option.isNone_iff_eq_none.mpr k2), k2, k3⟩
theorem own_next {m : Nat} (hm : Msk m) {done : List Int} {ow : Array (Option Nat)} (W : Own m done ow) (hl : done.length ≤ m) (h : Int) : ∃ ow', stepF m (some (ow, done.length)) h = some (ow', (done ++ [h]).length) ∧ Own m (done ++ [h]) ow' := by
  obtain ⟨ps, hps, hin⟩ := W.ps
  obtain ⟨j0, h0, hn0⟩ := st_missing ps (m + 1) (by omega)
  have hj0 : oAt ow j0 = none := Classical.byContradiction fun z => hn0 (hin j0 (Nat.le_of_lt_succ h0) z)
  obtain ⟨K, e1, e2, e3⟩ := free_at hm ow h (Nat.le_of_lt_succ h0) hj0
  have hjm := way_in (m := m) h K
  generalize hj : way m h K = j at e1 e2 hjm
  have self := oAt_set_self (owner := ow) (j := j) (some done.length) (by rw [W.sz]; omega)
  have up : ∀ i, oAt ow i ≠ none → oAt (ow.setIfInBounds j (some done.length)) i ≠ none := fun i hi => by
    by_cases c : i = j
    · subst c
      exact absurd e2 hi
    · rwa [oAt_set_ne _ c]
  have hlen : (done ++ [h]).length = done.length + 1 := List.length_append ..
  refine ⟨ow.setIfInBounds j (some done.length), by rw [stepF_some e1, hlen], by rw [Array.size_setIfInBounds]; exact W.sz, fun i k hi e => ?_, fun k hk => ?_, j :: ps, by rw [List.length_cons, hps, hlen], fun i hi e => ?_⟩
  · by_cases c : i = j
    · subst c
      rw [self] at e
      obtain rfl := Option.some.inj e
      exact ⟨h, K, by simp, hj, fun c hc => up _ (e3 c hc)⟩
    · rw [oAt_set_ne _ c] at e
      obtain ⟨h', K', a1, a2, a3⟩ := W.at_ i k hi e
      exact ⟨h', K', (List.getElem?_append_left (List.getElem?_eq_some_iff.mp a1).1).trans a1, a2, fun c hc => up _ (a3 c hc)⟩
  · by_cases c : k < done.length
    · obtain ⟨i, hi, e⟩ := W.all k c
      refine ⟨i, hi, ?_⟩
      rw [oAt_set_ne _ fun z => ?_]
      · exact e
      · rw [z, e2] at e
        cases e
    · exact ⟨j, hjm, by rw [show k = done.length by omega]; exact self⟩
  · by_cases c : i = j
    · exact c ▸ List.mem_cons_self
    · rw [oAt_set_ne _ c] at e
      exact List.mem_cons_of_mem _ (hin i hi e)
theorem own_fold {m : Nat} (hm : Msk m) : ∀ (rest done : List Int) (ow : Array (Option Nat)), Own m done ow → done.length + rest.length ≤ m → ∃ ow', rest.foldl (stepF m) (some (ow, done.length)) = some (ow', (done ++ rest).length) ∧ Own m (done ++ rest) ow'
  | [], done, ow, W, _ => ⟨ow, by rw [List.append_nil]; rfl, by rw [List.append_nil]; exact W⟩
  | h :: rest, done, ow, W, hl => by
    rw [List.length_cons] at hl
    obtain ⟨ow1, e1, W1⟩ := own_next hm W (by omega) h
    obtain ⟨ow2, e2, W2⟩ := own_fold hm rest (done ++ [h]) ow1 W1 (by rw [List.length_append, List.length_singleton]; omega)
    rw [List.append_assoc] at e2 W2
    exact ⟨ow2, (congrArg (List.foldl (stepF m) · rest) e1).trans e2, W2⟩
/-- the table laid anew -/
theorem tb_relaid (t : SetTable) {hs : Array Int} {wanted M : Nat} (hw : SetTable.sizeAbove wanted - 1 = M) (hM : Msk M) (hn : hs.size ≤ M) :
    ∃ t' order, t.relaid hs wanted = some (t', order) ∧ order.toList.Perm (List.range hs.size) ∧ Tb t' (order.toList.map fun i => hs.getD i 0) ∧ t'.mask = M ∧ t'.led = t.led ∧ t'.plain = t.plain := by
  obtain ⟨ow, f, W⟩ := own_fold hM hs.toList [] _ (Own.init M) (by rw [Array.length_toList]; show 0 + hs.size ≤ M; omega)
  rw [List.nil_append] at W
  have hr : t.relaid hs wanted = some (tabOf t M ow, ((liveOf M ow).map (·.2)).toArray) := by
    rw [relaid_eq, hw, layClean_eq]
    exact congrArg (fun z => (Option.map (·.1) z).bind fun o => some (tabOf t M o, ((liveOf M o).map (·.2)).toArray)) f
  have ris := ris_live (fun j => ow.getD j none) (List.range (M + 1)) List.pairwise_lt_range
  have r1 : Ris ((liveOf M ow).map (·.1)) := ris.1
  have nd : ((liveOf M ow).map (·.1)).Nodup := r1.imp fun h => Nat.ne_of_lt h
  have at_ : ∀ {j k : Nat}, (j, k) ∈ liveOf M ow → j ≤ M ∧ oAt ow j = some k := fun h => (mem_live W.sz).1 h
  have all : ∀ k, k < hs.size → k ∈ (liveOf M ow).map (·.2) := fun k hk => by
    obtain ⟨j, b1, b2⟩ := W.all k hk
    exact List.mem_map.mpr ⟨(j, k), (mem_live W.sz).2 ⟨b1, b2⟩, rfl⟩
  have hlen : ((liveOf M ow).map (·.2)).length = hs.size := by
    obtain ⟨ps, p1, p2⟩ := W.ps
    have a := nat_nodup_len ((liveOf M ow).map (·.1)) ps nd fun x hx => by
      obtain ⟨⟨y, k⟩, hq, rfl⟩ := List.mem_map.mp hx
      exact p2 y (at_ hq).1 (by rw [(at_ hq).2]; exact fun z => nomatch z)
    have b := nat_nodup_len (List.range hs.size) ((liveOf M ow).map (·.2)) List.nodup_range fun k hk => all k (List.mem_range.mp hk)
    rw [List.length_map] at a b ⊢
    rw [List.length_range] at b
    have z : hs.toList.length = hs.size := rfl
    omega
  refine ⟨_, _, hr, perm_range hs.size _ hlen all, ⟨r1, rfl, ?_, hM, fun x hx => ?_, fun i h j h1 h2 => ?_⟩, rfl, rfl, rfl⟩
  · show ((liveOf M ow).map (·.1)).length = (((liveOf M ow).map (·.2)).map fun i => hs.getD i 0).length
    rw [List.length_map, List.length_map, List.length_map]
  · exact Nat.le_of_lt_succ (List.mem_range.mp (ris.2 x hx))
  · have h1 : (((liveOf M ow).map (·.2)).map fun i => hs.getD i 0)[i]? = some h := h1
    have h2 : ((liveOf M ow).map (·.1))[i]? = some j := h2
    rw [List.getElem?_map] at h2
    rw [List.getElem?_map, List.getElem?_map] at h1
    obtain ⟨⟨y, k⟩, hq, rfl⟩ := Option.map_eq_some_iff.mp h2
    rw [hq] at h1
    have eh : hs.getD k 0 = h := Option.some.inj h1
    obtain ⟨b1, b2⟩ := at_ (List.mem_of_getElem? hq)
    obtain ⟨h0, K, a1, a2, a3⟩ := W.at_ y k b1 b2
    have e0 : hs.getD k 0 = h0 := by
      rw [Array.getD_eq_getD_getElem?, ← Array.getElem?_toList, a1]
      rfl
    obtain rfl := e0.symm.trans eh
    refine ⟨K, a2, fun c hc => ?_⟩
    obtain ⟨k2, z⟩ := Option.ne_none_iff_exists'.mp (a3 c hc)
    exact List.mem_map.mpr ⟨(_, k2), (mem_live W.sz).2 ⟨way_in _ c, z⟩, rfl⟩
end NK
end

section
set_option Elab.async false
set_option linter.all false
set_option maxRecDepth 100000
set_option maxHeartbeats 4000000
namespace NK
open PySem PySem.Spec L2
open PyProof.Rows hiding St
section
variable {P : Program} {w : World} {A : Around} {E : Value → Shared → Prop} {s : Shared}
/-- what is asked of a key's value -/
theorem hbv : ∀ (n : Nat) (k : NestedKey) (v : Value) {Q : Bool → Shared → Prop}, NestedIs s.heap k v → (∀ r, Q r s) → wpAny (model P w) A (hashByValue n v) Q E s := by
  intro n
  induction n with
  | zero =>
    intro k v Q x h
    cases x with
    | none => exact wpAny_pure (h _)
    | bool _ => exact wpAny_pure (h _)
    | int _ _ => exact wpAny_pure (h _)
    | text _ _ => exact wpAny_pure (h _)
    | tup _ _ _ _ => exact wpAny_pure (h _)
  | succ n ih =>
    intro k v Q x h
    cases x with
    | none => exact wpAny_pure (h _)
    | bool _ => exact wpAny_pure (h _)
    | int _ _ => exact wpAny_pure (h _)
    | text _ _ => exact wpAny_pure (h _)
    | @tup b o items c ks h1 h2 h3 h4 =>
      have hT : s.TypeIs (.ref b) "tuple" := ⟨o, h1, h2⟩
      unfold hashByValue
      refine wpAny_bind (wpAny_specialOf hT F.slot_tuple_hash.lookup ?_)
      show wpAny _ _ (seqItems? (.ref b) >>= _) _ _ s
      refine wpAny_bind (wpAny_seqItems h1 h3 (wpAny_bind ?_))
      show wpAny _ _ (forIn items _ _) _ _ s
      rw [← Array.forIn_toList]
      refine wpAny_forIn_list _ (fun rest r s' => s' = s ∧ ∃ ks, NestedAll s.heap ks rest) _ ?_ ?_ _ _ ⟨rfl, ks, h4⟩
      · rintro v rest r s' ⟨rfl, ks, hall⟩
        cases hall with
        | cons q1 q2 =>
          refine wpAny_bind (ih _ _ q1 fun r => ?_)
          cases r with
          | true => exact wpAny_pure ⟨rfl, _, q2⟩
          | false => exact wpAny_pure (by first | exact ⟨rfl, _, q2⟩ | exact wpAny_pure (h _))
      · rintro ⟨r1, r2⟩ s' ⟨rfl, _⟩
        cases r1 with
        | none => exact wpAny_pure (h _)
        | some b => exact wpAny_pure (h _)
/-- a key is of no class of the text -/
theorem oac : ∀ (n : Nat) (k : NestedKey) (v : Value) {Q : Bool → Shared → Prop}, NestedIs s.heap k v → k.depth ≤ n → Q false s → wpAny (model P w) A (ofAClassStatement n v) Q E s := by
  intro n
  induction n with
  | zero =>
    intro k v Q x hn h
    cases x with
    | none => exact wpAny_pure h
    | bool _ => exact wpAny_pure h
    | int _ _ => exact wpAny_pure h
    | text _ _ => exact wpAny_pure h
    | tup _ _ _ _ => exact absurd hn (by simp [NestedKey.depth])
  | succ n ih =>
    intro k v Q x hn h
    cases x with
    | none => exact wpAny_pure h
    | bool _ => exact wpAny_pure h
    | int _ _ => exact wpAny_pure h
    | text _ _ => exact wpAny_pure h
    | @tup b o items c ks h1 h2 h3 h4 =>
      have hT : s.TypeIs (.ref b) "tuple" := ⟨o, h1, h2⟩
      have hks : NestedKey.depthAll ks ≤ n := by simpa [NestedKey.depth] using hn
      unfold ofAClassStatement
      refine wpAny_bind (wpAny_typeOf hT ?_)
      dsimp only
      have et : (("tuple" : String) == "tuple") = true := by decide
      simp only [et, if_true, Bool.not_true, Bool.false_eq_true, if_false]
      refine wpAny_bind (wpAny_pure ?_)
      simp only [Bool.not_true, Bool.false_eq_true, if_false]
      show wpAny _ _ (seqItems? (.ref b) >>= _) _ _ s
      refine wpAny_bind (wpAny_seqItems h1 h3 ?_)
      dsimp only
      refine wpAny_bind ?_
      show wpAny _ _ (forIn items _ _) _ _ s
      rw [← Array.forIn_toList]
      refine wpAny_forIn_list _ (fun rest r s' => r.1 = none ∧ s' = s ∧ ∃ ks, NestedAll s.heap ks rest ∧ NestedKey.depthAll ks ≤ n) _ ?_ ?_ _ _ ⟨rfl, rfl, ks, h4, hks⟩
      · rintro v rest r s' ⟨hr, rfl, ks, hall, hd⟩
        cases hall with
        | @cons k1 v1 ks1 vs1 q1 q2 =>
          have hd2 : max (NestedKey.depth k1) (NestedKey.depthAll ks1) ≤ n := by simpa [NestedKey.depthAll] using hd
          refine wpAny_bind (ih k1 _ q1 (by omega) ?_)
          exact wpAny_pure ⟨rfl, rfl, ks1, q2, by omega⟩
      · rintro ⟨r1, r2⟩ s' ⟨hr, rfl, _⟩
        obtain rfl : r1 = none := hr
        exact wpAny_pure h
/-- a member: a tuple -/
structure Mem (h : Heap) (p : Value × NestedKey) : Prop where
  is : NestedIs h p.2 p.1
  dep : p.2.depth ≤ 8
  ref : ∃ b, p.1 = .ref b
theorem seen_no {x : Value × NestedKey} (hx : Mem s.heap x) {ys : List Value} (hy : ∀ y ∈ ys, ∃ k, Mem s.heap (y, k)) {Q : Bool → Shared → Prop} (h : Q false s) : wpAny (model P w) A (searchCouldBeSeen x.1 ys) Q E s := by
  obtain ⟨b, eb⟩ := hx.ref
  have hi := hx.is
  rw [eb] at hi ⊢
  unfold searchCouldBeSeen
  refine wpAny_bind ?_
  refine wpAny_forIn_list _ (fun rest r s' => r.1 = none ∧ s' = s ∧ ∀ y ∈ rest, ∃ k, Mem s.heap (y, k)) _ ?_ ?_ _ _ ⟨rfl, rfl, hy⟩
  · rintro v rest r s' ⟨hr, rfl, hall⟩
    obtain ⟨k', hm⟩ := hall v List.mem_cons_self
    obtain ⟨c, rfl⟩ : ∃ c, v = Value.ref c := hm.ref
    have hi2 := hm.is
    have rest' : ∀ y ∈ rest, ∃ k, Mem s'.heap (y, k) := fun u hu => hall u (List.mem_cons_of_mem _ hu)
    dsimp only
    by_cases hv : (b == c || (carriedByValue (.ref b) && carriedByValue (.ref c))) = true
    · exact wp_if_pos hv (wpAny_pure ⟨rfl, rfl, rest'⟩)
    · refine wp_if_neg hv (wpAny_bind (quiet_key _ _ 8 s' hi hx.dep _ _ _ ?_))
      simp only [Bool.not_true, Bool.false_eq_true, if_false]
      refine wpAny_bind (quiet_key _ _ 8 s' hi2 hm.dep _ _ _ ?_)
      simp only [Bool.not_true, Bool.false_eq_true, if_false]
      refine wpAny_bind (oac 8 _ _ hi hx.dep ?_)
      simp only [Bool.false_eq_true, if_false]
      refine wpAny_bind (oac 8 _ _ hi2 hm.dep ?_)
      simp only [Bool.false_eq_true, if_false]
      exact wpAny_pure ⟨rfl, rfl, rest'⟩
  · rintro ⟨r1, r2⟩ s' ⟨hr, rfl, _⟩
    obtain rfl : r1 = none := hr
    exact wpAny_pure h
end
/-! ### the set of tuples -/
abbrev Ent := Value × NestedKey
def rws (w : World) (L : List Ent) : List (Int × Value) := L.map fun p => (p.2.hash w, p.1)
structure STb (w : World) (h : Heap) (a : Addr) (L : List Ent) (es : Array (Int × Value)) (ep : Nat) (t : SetTable) : Prop where
  ob : ∃ o, h.get? a = some o ∧ o.ExactSet ∧ o.data = .set es ep t
  rows : es.toList = rws w L
  tab : Tb t (L.map fun p => p.2.hash w)
  nd : (L.map (·.2)).Nodup
  mem : ∀ p ∈ L, Mem h p
  led : w.params.followText "set-order" = true ∨ t.led = true
  room : L.length * 5 < t.mask * 3
  few : L.length ≤ 300
section
variable {P : Program} {w : World} {A : Around} {E : Value → Shared → Prop} {s : Shared} {a : Addr} {L : List Ent} {es : Array (Int × Value)} {ep : Nat} {t : SetTable}
theorem STb.size {h : Heap} (R : STb w h a L es ep t) : es.size = L.length := (Array.length_toList ..).symm.trans ((congrArg List.length R.rows).trans (List.length_map ..))
theorem STb.fits {h : Heap} (R : STb w h a L es ep t) : t.fits es.size = true := by
  have h1 := R.tab.sz
  have h2 := R.size
  have h3 := R.room
  rw [List.length_map] at h1
  unfold SetTable.fits SetTable.fill
  rw [R.tab.dm, Bool.and_eq_true, beq_iff_eq, decide_eq_true_eq]
  exact ⟨by omega, by show t.place.size + 0 ≤ t.mask; omega⟩
theorem STb.ent {h : Heap} (R : STb w h a L es ep t) {i : Nat} {p : Ent} (hp : L[i]? = some p) : es[i]? = some (p.2.hash w, p.1) := by
  rw [← Array.getElem?_toList, R.rows]
  unfold rws
  rw [List.getElem?_map, hp]
  rfl
/-- the search for x, from the c-th step of its way on -/
theorem seek_from (R : STb w s.heap a L es ep t) {x : Ent} (hx : Mem s.heap x) (hu : A.units + 8 < cLine) {K : Nat} (hKf : K < 10 * SetTable.turns t.mask) (hK : way t.mask (x.2.hash w) K ∉ t.place.toList) (hKb : ∀ c, c < K → way t.mask (x.2.hash w) c ∈ t.place.toList)
    {Q : SetFound → Shared → Prop} (hin : x.2 ∈ L.map (·.2) → Q (.there none) s) (hout : x.2 ∉ L.map (·.2) → Q (.free (way t.mask (x.2.hash w) K) false) s) :
    ∀ (f c : Nat) (stand : Option SetTable.Probe), stand.getD (t.probeStart (x.2.hash w)) = nth t.mask (runAt t.mask (SetTable.bits (x.2.hash w) % (t.mask + 1)) (SetTable.bits (x.2.hash w))) c → c ≤ K → K - c < f →
      (∀ (i : Nat) p, L[i]? = some p → p.2 = x.2 → ∃ d, c ≤ d ∧ d < K ∧ t.place.toList[i]? = some (way t.mask (x.2.hash w) d)) → wpAny (model P w) A (setSearchFrom a x.1 (x.2.hash w) true f stand) Q E s
  | 0, c, stand, _, _, hf, _ => absurd hf (Nat.not_lt_zero _)
  | f + 1, c, stand, hst, hc, hf, hre => by
    obtain ⟨o, ho, hex, hd⟩ := R.ob
    generalize hp0 : runAt t.mask (SetTable.bits (x.2.hash w) % (t.mask + 1)) (SetTable.bits (x.2.hash w)) = p0 at hst
    have hway : ∀ k, way t.mask (x.2.hash w) k = (nth t.mask p0 k).j := fun k => by rw [← hp0]
    have hnd : ∀ (n : Nat) (p : SetTable.Probe), p.dummy = none → (nth t.mask p n).dummy = none := by
      intro n
      induction n with
      | zero => exact fun p h => h
      | succ n ih =>
        refine fun p h => ih (adv t.mask p) ?_
        unfold adv
        split <;> exact h
    have sh : ∀ q, nth t.mask (nth t.mask p0 c) q = nth t.mask p0 (c + q) := fun q => (nth_add t.mask c p0 q).symm
    have e1 : ∀ q, (nth t.mask (nth t.mask p0 c) q).j = way t.mask (x.2.hash w) (c + q) := fun q => by rw [sh, hway]
    have spec := go_spec t R.tab.ris R.tab.dm (fun i => (es[i]?.map (·.1)).getD 0) (x.2.hash w) (10 * SetTable.turns t.mask) (K - c) _ (hnd c p0 (by rw [← hp0]; rfl)) (by omega) (fun q hq => by rw [e1]; exact hKb _ (by omega)) (by rw [e1, Nat.add_sub_cancel' hc]; exact hK)
    have hashAt : ∀ (i : Nat) p, L[i]? = some p → (fun i => (es[i]?.map (·.1)).getD 0) i = p.2.hash w := fun i p hp => by
      show (es[i]?.map (·.1)).getD 0 = _
      rw [R.ent hp]
      rfl
    have gw : ¬ t.gaveWay = true := by
      unfold SetTable.gaveWay
      rw [R.tab.mok.odd]
      decide
    rw [setSearchFrom_succ]
    refine wpAny_bind (wpAny_setState_of ho hd R.fits (wp_if_neg gw ?_))
    try refine wpAny_bind (wpAny_pure ?_)
    rcases spec with ⟨q, i, hq, hi, hh, hno, hpr⟩ | ⟨hno, hpr⟩
    · rw [show t.probe (fun i => (es[i]?.map (·.1)).getD 0) (x.2.hash w) (stand.getD (t.probeStart (x.2.hash w))) = some (.candidate (way t.mask (x.2.hash w) (c + q)) i (nth t.mask p0 (c + (q + 1)))) by rw [hst, ← e1, ← sh]; exact hpr]
      dsimp only
      rw [e1] at hi
      have hil : i < L.length := by
        have h1 := (List.getElem?_eq_some_iff.mp hi).1
        have h2 := R.tab.sz
        rw [List.length_map] at h2
        rw [Array.length_toList] at h1
        omega
      obtain ⟨p, hp⟩ : ∃ p, L[i]? = some p := ⟨_, List.getElem?_eq_getElem hil⟩
      have hmem := List.mem_of_getElem? hp
      have hpt := R.mem p hmem
      obtain ⟨pb, epb⟩ := hpt.ref
      have hsl : t.slot (way t.mask (x.2.hash w) (c + q)) = .live i := slot_live R.tab.ris hi
      have rest : wpAny (model P w) A (searchRest a x.1 (x.2.hash w) true f es t (way t.mask (x.2.hash w) (c + q)) i (nth t.mask p0 (c + (q + 1)))) Q E s := by
        unfold searchRest
        rw [R.ent hp]
        dsimp only
        refine wpAny_bind (wpAny_holding (eqAt_key p.2 x.2 A s _ _ hpt.is hx.is (by have := hpt.dep; omega) _ _ _ _ ?_))
        refine wpAny_bind (wpAny_setState_of ho hd R.fits ?_)
        rw [← NestedKey.decide_eq]
        by_cases hkk : p.2 = x.2
        · refine wp_if_pos (by simp [hkk]) (wpAny_pure (hin ?_))
          exact hkk ▸ List.mem_map_of_mem hmem
        · refine wp_if_neg (by simp [hkk]) ?_
          try refine wpAny_bind (wpAny_pure ?_)
          rw [sameMem]
          dsimp only
          simp only [if_true, hsl, R.ent hp]
          rw [epb]
          refine wpAny_bind (wpAny_isSame_ref_self (wpAny_bind (wpAny_pure ?_)))
          simp only [if_true]
          refine wp_if_neg (by simp [hkk]) (seek_from R hx hu hKf hK hKb hin hout f (c + (q + 1)) _ (by rw [hp0]; rfl) (by omega) (by omega) fun i0 q0 h0 hk0 => ?_)
          obtain ⟨d, a1, a2, a3⟩ := hre i0 q0 h0 hk0
          refine ⟨d, ?_, a2, a3⟩
          refine Nat.lt_of_not_le fun z => ?_
          have z : d ≤ c + q := z
          rcases Nat.lt_or_ge d (c + q) with y | y
          · exact hno (d - c) i0 (by omega) (by rw [e1, Nat.add_sub_cancel' a1]; exact a3) ((hashAt i0 q0 h0).trans (by rw [hk0]))
          · obtain rfl : d = c + q := by omega
            have s0 := (slot_live R.tab.ris a3).symm.trans hsl
            injection s0 with s0
            rw [s0, hp] at h0
            exact hkk ((congrArg Prod.snd (Option.some.inj h0)).trans hk0)
      by_cases hl : t.led = true
      · refine wp_if_neg (by simp [hl]) ?_
        try refine wpAny_bind (wpAny_pure ?_)
        exact rest
      · refine wp_if_pos (by simp [hl]) (wpAny_bind (seen_no hx (fun y hy => ?_) ?_))
        · obtain ⟨e, he, rfl⟩ := List.mem_map.mp hy
          have he1 : e ∈ es ∧ e.1 = x.2.hash w := by simpa using he
          have he2 : e ∈ es.toList := Array.mem_toList_iff.mpr he1.1
          rw [R.rows] at he2
          obtain ⟨p2, hp2, rfl⟩ := List.mem_map.mp he2
          exact ⟨p2.2, R.mem p2 hp2⟩
        · refine wp_if_neg (by decide) ?_
          try refine wpAny_bind (wpAny_pure ?_)
          exact rest
    · rw [show t.probe (fun i => (es[i]?.map (·.1)).getD 0) (x.2.hash w) (stand.getD (t.probeStart (x.2.hash w))) = some (.empty (way t.mask (x.2.hash w) K) none) by
        have e2 := e1 (K - c)
        rw [Nat.add_sub_cancel' hc] at e2
        rw [hst, ← e2]
        exact hpr]
      refine wpAny_pure (hout fun hm => ?_)
      obtain ⟨p1, h0, hk0⟩ := List.mem_map.mp hm
      obtain ⟨i0, h00⟩ := List.mem_iff_getElem?.mp h0
      obtain ⟨d, a1, a2, a3⟩ := hre i0 p1 h00 hk0
      exact hno (d - c) i0 (by omega) (by rw [e1, Nat.add_sub_cancel' a1]; exact a3) ((hashAt i0 p1 h00).trans (by rw [hk0]))
/-- the search, as adding asks for it -/
theorem seek_at (R : STb w s.heap a L es ep t) {x : Ent} (hx : Mem s.heap x) (hu : A.units + 8 < cLine) {Q : SetFound → Shared → Prop} (hin : x.2 ∈ L.map (·.2) → Q (.there none) s)
    (hout : ∀ K, x.2 ∉ L.map (·.2) → way t.mask (x.2.hash w) K ∉ t.place.toList → (∀ c, c < K → way t.mask (x.2.hash w) c ∈ t.place.toList) → Q (.free (way t.mask (x.2.hash w) K) false) s) : wpAny (model P w) A (setSearch a x.1 (x.2.hash w) true) Q E s := by
  have hroom := R.room
  obtain ⟨K, hKf, hK, hKb⟩ := R.tab.first (by rw [List.length_map]; omega) (x.2.hash w)
  have hb := R.tab.mok.big
  refine seek_from R hx hu hKf hK hKb hin (fun hn => hout K hn hK hKb) 100000 0 none rfl (Nat.zero_le _) (by unfold SetTable.turns at hKf; omega) fun i p hp hk => ?_
  have hil : i < t.place.toList.length := by
    have h1 := (List.getElem?_eq_some_iff.mp hp).1
    have h2 := R.tab.sz
    rw [List.length_map] at h2
    rw [Array.length_toList]
    omega
  have hj := List.getElem?_eq_getElem hil
  obtain ⟨c, hc, e⟩ := R.tab.before hK (show (L.map fun p => p.2.hash w)[i]? = some (x.2.hash w) by rw [List.getElem?_map, hp, ← hk]; rfl) hj
  exact ⟨c, Nat.zero_le _, hc, by rw [hj, e]⟩
theorem range_all {α : Type} : ∀ L : List α, (List.range L.length).filterMap (fun i => L[i]?) = L
  | [] => rfl
  | x :: L => by
    rw [List.length_cons, List.range_succ_eq_map, List.filterMap_cons, List.filterMap_map]
    exact congrArg (x :: ·) (range_all L)
theorem rws_order (L : List Ent) (es : Array (Int × Value)) (ord : Array Nat) (hr : es.toList = rws w L) (hp : ord.toList.Perm (List.range L.length)) :
    ∃ L2 : List Ent, (ord.filterMap (es[·]?)).toList = rws w L2 ∧ L2.Perm L ∧ (L2.map fun p => p.2.hash w) = ord.toList.map fun i => (es.map (·.1)).getD i 0 := by
  have hes : ∀ i, es[i]? = (L[i]?).map fun (p : Ent) => (p.2.hash w, p.1) := fun i => by
    rw [← Array.getElem?_toList, hr]
    exact List.getElem?_map ..
  refine ⟨ord.toList.filterMap (L[·]?), ?_, ?_, ?_⟩
  · rw [Array.toList_filterMap]
    unfold rws
    rw [List.map_filterMap]
    exact congrArg (List.filterMap · _) (funext hes)
  · have q := hp.filterMap (fun i => L[i]?)
    rwa [range_all] at q
  · have lt : ∀ i ∈ ord.toList, i < L.length := fun i hi => List.mem_range.mp (hp.mem_iff.mp hi)
    generalize ord.toList = l at lt
    induction l with
    | nil => rfl
    | cons i l ih =>
      have hi := lt i List.mem_cons_self
      have e : (es.map (·.1)).getD i 0 = (L[i]).2.hash w := by
        rw [Array.getD_eq_getD_getElem?, Array.getElem?_map, hes, List.getElem?_eq_getElem hi]
        rfl
      rw [List.filterMap_cons_some (List.getElem?_eq_getElem hi), List.map_cons, List.map_cons, e, ih fun j hj => lt j (List.mem_cons_of_mem _ hj)]
theorem mem_same {h h' : Heap} {p : Ent} {o : Obj} (m : Mem h p) (ho : h.get? a = some o) (hd : o.data = .set es ep t) (hs : Heap.SameBut a h h') : Mem h' p :=
  ⟨NestedIs.at (fun b ob vs n hb hc => (hs.2 b fun e => by
    subst e
    rw [ho] at hb
    cases hb
    rw [hd] at hc
    cases hc).trans hb) _ _ m.is, m.dep, m.ref⟩
/-- what stands but for the room -/
structure SPr (w : World) (h : Heap) (L : List Ent) (es : Array (Int × Value)) (t : SetTable) : Prop where
  rows : es.toList = rws w L
  tab : Tb t (L.map fun p => p.2.hash w)
  nd : (L.map (·.2)).Nodup
  mem : ∀ p ∈ L, Mem h p
  led : w.params.followText "set-order" = true ∨ t.led = true
  few : L.length ≤ 300
  fit : L.length ≤ t.mask
theorem relay_to {o : Obj} (ho : s.heap.get? a = some o) (hex : o.ExactSet) (hd : o.data = .set es ep t) (R : SPr w s.heap L es t) {wanted M : Nat} (hw : SetTable.sizeAbove wanted = M + 1) (hM : Msk M) (hn : L.length * 5 < M * 3) {Q : Unit → Shared → Prop}
    (hQ : ∀ h' L' es' ep' t', Heap.SameBut a s.heap h' → STb w h' a L' es' ep' t' → L'.Perm L → Q () { s with heap := h' }) : wpAny (model P w) A (setRelay a wanted) Q E s := by
  have hsl : es.size = L.length := (Array.length_toList ..).symm.trans ((congrArg List.length R.rows).trans (List.length_map ..))
  have hsz := R.tab.sz
  have hfit := R.fit
  have hbig := hM.big
  have hfew := R.few
  rw [List.length_map] at hsz
  have hfits : t.fits es.size = true := by
    unfold SetTable.fits SetTable.fill
    rw [R.tab.dm, Bool.and_eq_true, beq_iff_eq, decide_eq_true_eq]
    exact ⟨by omega, by show t.place.size + 0 ≤ t.mask; omega⟩
  obtain ⟨t', ord, e, hp, T, em, el, _⟩ := tb_relaid t (hs := es.map (·.1)) (wanted := wanted) (by rw [hw]; rfl) hM (by rw [Array.size_map, hsl]; omega)
  rw [Array.size_map, hsl] at hp
  obtain ⟨L2, r1, r2, r3⟩ := rws_order L es ord R.rows hp
  rw [← r3] at T
  have hs2 : (ord.filterMap (es[·]?)).size = es.size := (Array.length_toList ..).symm.trans ((congrArg List.length r1).trans ((List.length_map ..).trans (r2.length_eq.trans hsl.symm)))
  have hsl2 : (ord.filterMap (es[·]?)).size ≤ sizeLine := by
    rw [hs2, hsl, sizeLine_eq]
    omega
  rw [setRelay_eq]
  refine wpAny_bind (wpAny_setState_of ho hd hfits (wp_if_neg (by rw [sizeLine_eq, hw]; omega) ?_))
  try refine wpAny_bind (wpAny_pure ?_)
  rw [e]
  dsimp only
  refine wpAny_bind (wp_if_neg (by rw [hs2]; simp) ?_)
  try refine wpAny_bind (wpAny_pure ?_)
  refine wpAny_pure (wpAny_storeSet_of ho hd ?_ hsl2)
  have sb : Heap.SameBut a s.heap (s.heap.update a (Obj.putSet (ord.filterMap (es[·]?)) t')) := Heap.SameBut.update ..
  refine hQ _ L2 (ord.filterMap (es[·]?)) (ep + 1) t' sb ⟨⟨_, store_at ho hd, hex, rfl⟩, r1, T, (r2.map (·.2)).nodup_iff.mpr R.nd, fun p hpm => mem_same (R.mem p (r2.mem_iff.mp hpm)) ho hd sb, R.led.imp_right fun z => el.trans z, ?_, ?_⟩ r2
  · rw [r2.length_eq, em]
    exact hn
  · rw [r2.length_eq]
    exact hfew
theorem size_77 : SetTable.sizeAbove (SetTable.grown 77) = 512 := by decide +kernel
/-- a member more -/
theorem add_to (R : STb w s.heap a L es ep t) {x : Ent} (hx : Mem s.heap x) (hu : A.units + 8 < cLine) (hfew : L.length + 1 ≤ 300) {Q : Bool → Shared → Prop}
    (hQ : ∀ b h' L' es' ep' t', Heap.SameBut a s.heap h' → STb w h' a L' es' ep' t' → (x.2 ∈ L.map (·.2) → L' = L) → (x.2 ∉ L.map (·.2) → L'.Perm (x :: L)) → Q b { s with heap := h' }) :
    wpAny (model P w) A (setAddHashed a x.1 (x.2.hash w)) Q E s := by
  obtain ⟨o, ho, hex, hd⟩ := R.ob
  have hsl := R.size
  have hroom := R.room
  have hby : ∀ es : Array (Int × Value), ¬ byScan x.1 es = true := fun es => by
    obtain ⟨b, eb⟩ := hx.ref
    rw [eb]
    simp [byScan, Value.scannable]
  unfold setAddHashed
  refine wpAny_holding ?_
  rw [show (100000 : Nat) = 99999 + 1 from rfl, setAddHashedIn_succ]
  refine wpAny_bind (wpAny_setState_of ho hd R.fits (wp_if_neg (hby es) ?_))
  try refine wpAny_bind (wpAny_pure ?_)
  refine wpAny_bind (seek_at R hx hu (fun hm => ?_) fun K hm hK hb => ?_)
  · exact wpAny_pure (hQ false s.heap L es ep t (Heap.SameBut.refl a s.heap) R (fun _ => rfl) fun z => absurd hm z)
  · dsimp only
    refine wpAny_bind (wpAny_setState_of ho hd R.fits ?_)
    dsimp only
    obtain ⟨p, ep1, hpl, T1, hfill⟩ := R.tab.put hK hb
    have hmask : (t.put (way t.mask (x.2.hash w) K)).1.mask = t.mask := rfl
    have hled : (t.put (way t.mask (x.2.hash w) K)).1.led = t.led := rfl
    have hp2 : (t.put (way t.mask (x.2.hash w) K)).2 = p := ep1.symm
    generalize t.put (way t.mask (x.2.hash w) K) = pt at T1 hfill hmask hled hp2 ⊢
    obtain ⟨t1, p'⟩ := pt
    obtain rfl : p' = p := hp2
    dsimp only at T1 hfill hmask hled ⊢
    have pm : (L.take p' ++ x :: L.drop p').Perm (x :: L) := by
      have q : (L.take p' ++ x :: L.drop p').Perm (x :: (L.take p' ++ L.drop p')) := List.perm_middle
      rwa [List.take_append_drop] at q
    have hin : (SetTable.insertAt es p' (x.2.hash w, x.1)).toList = rws w (L.take p' ++ x :: L.drop p') := by
      rw [SetTable.toList_insertAt, R.rows]
      unfold rws
      rw [List.map_append, List.map_cons, List.map_take, List.map_drop]
    have hhs : (L.take p' ++ x :: L.drop p').map (fun p => p.2.hash w) = (L.map fun p => p.2.hash w).take p' ++ x.2.hash w :: (L.map fun p => p.2.hash w).drop p' := by
      rw [List.map_append, List.map_cons, List.map_take, List.map_drop]
    rw [← hhs] at T1
    have hlen : (L.take p' ++ x :: L.drop p').length = L.length + 1 := pm.length_eq
    have nd1 : ((L.take p' ++ x :: L.drop p').map (·.2)).Nodup := (pm.map (·.2)).nodup_iff.mpr (List.nodup_cons.mpr ⟨hm, R.nd⟩)
    have hes : (SetTable.insertAt es p' (x.2.hash w, x.1)).size = L.length + 1 := (Array.length_toList ..).symm.trans ((congrArg List.length hin).trans ((List.length_map ..).trans hlen))
    rw [List.length_map] at hfill
    generalize SetTable.insertAt es p' (x.2.hash w, x.1) = es1 at hin hes ⊢
    generalize L.take p' ++ x :: L.drop p' = L1 at pm hlen T1 nd1 hin
    have done : ∀ t2 : SetTable, Tb t2 (L1.map fun p => p.2.hash w) → t2.fill = L.length + 1 → t2.mask = t.mask → t2.led = t.led →
        wpAny (model P w) A (do
          storeSet a es1 t2
          if (!false && t2.tooFull) = true then do
              setRelay a (SetTable.grown (es.size + 1))
              pure true
            else pure true) Q E s := fun t2 T2 f2 m2 l2 => by
      refine wpAny_bind (wpAny_storeSet_of ho hd ?_ (by rw [hes, sizeLine_eq]; omega))
      have sb : Heap.SameBut a s.heap (s.heap.update a (Obj.putSet es1 t2)) := Heap.SameBut.update ..
      have ho1 := store_at (es' := es1) (t' := t2) ho hd
      generalize s.heap.update a (Obj.putSet es1 t2) = h1 at sb ho1 ⊢
      have mem1 : ∀ p ∈ L1, Mem h1 p := fun p hp => by
        rcases List.mem_cons.mp (pm.mem_iff.mp hp) with e | hp
        · rw [e]
          exact mem_same hx ho hd sb
        · exact mem_same (R.mem p hp) ho hd sb
      have ld : w.params.followText "set-order" = true ∨ t2.led = true := by
        rw [l2]
        exact R.led
      by_cases hf : t2.tooFull = true
      · refine wp_if_pos (by simp [hf]) ?_
        have hfull : (L.length + 1) * 5 ≥ t.mask * 3 := by
          have h := hf
          unfold SetTable.tooFull at h
          rwa [decide_eq_true_eq, f2, m2] at h
        rw [hsl]
        have go : ∀ M, SetTable.sizeAbove (SetTable.grown (L.length + 1)) = M + 1 → Msk M → (L.length + 1) * 5 < M * 3 → L.length + 1 ≤ t.mask →
            wpAny (model P w) A (do setRelay a (SetTable.grown (L.length + 1)); pure true) Q E { s with heap := h1 } := fun M g1 g2 g3 g4 => by
          refine wpAny_bind (relay_to (s := { s with heap := h1 }) (L := L1) ho1 hex rfl ⟨hin, T2, nd1, mem1, ld, by rw [hlen]; exact hfew, by rw [hlen, m2]; exact g4⟩ g1 g2 (by rw [hlen]; exact g3) fun h2 L2 es2 ep2 t3 sb2 R2 pm2 => ?_)
          exact wpAny_pure (hQ true h2 L2 es2 ep2 t3 (sb.trans sb2) R2 (fun z => absurd z hm) fun _ => pm2.trans pm)
        rcases R.tab.mok.cas with e | e | e | e
        · have e2 : L.length = 4 := by omega
          refine go 31 ?_ (msk_of (.inr (.inl rfl))) (by omega) (by omega)
          rw [e2]
          exact size_20
        · have e2 : L.length = 18 := by omega
          refine go 127 ?_ (msk_of (.inr (.inr rfl))) (by omega) (by omega)
          rw [e2]
          exact size_76
        · have e2 : L.length = 76 := by omega
          refine go 511 ?_ msk511 (by omega) (by omega)
          rw [e2]
          exact size_77
        · omega
      · refine wp_if_neg (by simp [hf]) ?_
        refine wpAny_pure (hQ true h1 L1 es1 (ep + 1) t2 sb ⟨⟨_, ho1, hex, rfl⟩, hin, T2, nd1, mem1, ld, ?_, by rw [hlen]; exact hfew⟩ (fun z => absurd z hm) fun _ => pm)
        have h := hf
        unfold SetTable.tooFull at h
        rw [decide_eq_true_eq, f2, m2] at h
        rw [hlen, m2]
        omega
    by_cases hpn : t1.plain = true
    · refine wp_if_pos hpn (wpAny_bind (hbv 8 _ _ hx.is fun r => ?_))
      cases r with
      | true => exact done t1 T1 hfill hmask hled
      | false => exact done { t1 with plain := false } ⟨T1.ris, T1.dm, T1.sz, T1.mok, T1.bd, T1.reach⟩ hfill hmask hled
    · refine wp_if_neg hpn (wpAny_bind (wpAny_pure ?_))
      exact done t1 T1 hfill hmask hled
end
end NK
end

section
set_option Elab.async false
set_option linter.all false
set_option maxRecDepth 100000
set_option maxHeartbeats 4000000
namespace NK
open PySem PySem.Spec L2
open PyProof.Rows hiding St
/-- what the set has of the first i -/
structure Has (ks : List Ent) (i : Nat) (L : List Ent) : Prop where
  sub : ∀ p ∈ L, p ∈ ks.take i
  all : ∀ p ∈ ks.take i, p.2 ∈ L.map (·.2)
  len : L.length ≤ i
theorem Has.next {ks L L' : List Ent} {i : Nat} {x : Ent} (g : Has ks i L) (h : ks[i]? = some x) (c1 : x.2 ∈ L.map (·.2) → L' = L) (c2 : x.2 ∉ L.map (·.2) → L'.Perm (x :: L)) : Has ks (i + 1) L' := by
  have ht : ks.take (i + 1) = ks.take i ++ [x] := by rw [List.take_add_one, h]; rfl
  have hl := g.len
  by_cases c : x.2 ∈ L.map (·.2)
  · rw [c1 c]
    refine ⟨fun p hp => ht ▸ List.mem_append_left _ (g.sub p hp), fun p hp => ?_, by omega⟩
    rw [ht] at hp
    rcases List.mem_append.mp hp with hp | hp
    · exact g.all p hp
    · exact List.mem_singleton.mp hp ▸ c
  · have pm := c2 c
    refine ⟨fun p hp => ?_, fun p hp => ?_, by rw [pm.length_eq, List.length_cons]; omega⟩
    · rw [ht]
      rcases List.mem_cons.mp (pm.mem_iff.mp hp) with rfl | hp
      · exact List.mem_append_right _ (List.mem_singleton.mpr rfl)
      · exact List.mem_append_left _ (g.sub p hp)
    · rw [(pm.map (·.2)).mem_iff, List.map_cons]
      rw [ht] at hp
      rcases List.mem_append.mp hp with hp | hp
      · exact List.mem_cons_of_mem _ (g.all p hp)
      · exact List.mem_singleton.mp hp ▸ List.mem_cons_self
/-- a kind of sets that can be added to -/
structure Adds (P : Program) (w : World) (J : Heap → Addr → List Ent → Prop) (El : Heap → Ent → Prop) : Prop where
  add : ∀ {A : Around} {E : Value → Shared → Prop} {s : Shared} {a : Addr} {x : Ent} {L : List Ent} {Q : Bool → Shared → Prop}, A.units + 8 < cLine → J s.heap a L → El s.heap x → L.length + 1 ≤ 300 →
    (∀ b h' L', Heap.SameBut a s.heap h' → J h' a L' → (x.2 ∈ L.map (·.2) → L' = L) → (x.2 ∉ L.map (·.2) → L'.Perm (x :: L)) → Q b { s with heap := h' }) → wpAny (model P w) A (setAddHashed a x.1 (x.2.hash w)) Q E s
  stay : ∀ {h h' : Heap} {a : Addr} {L : List Ent}, J h a L → (∀ o, h.get? a = some o → h'.get? a = some o) → (∀ p ∈ L, El h' p) → J h' a L
  keep : ∀ {h h' : Heap} {p : Ent}, El h p → (∀ b o, h.get? b = some o → h'.get? b = some o) → El h' p
  key : ∀ {h : Heap} {p : Ent}, El h p → NestedIs h p.2 p.1 ∧ p.2.depth ≤ 8
  new : ∀ {h : Heap} {a : Addr}, h.get? a = some { cls := .type "set", dict := none, data := .set #[] 0 (.fresh 0 0 (!w.params.followText "set-order")) } → J h a []
section
variable {P : Program} {w : World} {A : Around} {E : Value → Shared → Prop} {s : Shared} {J : Heap → Addr → List Ent → Prop} {El : Heap → Ent → Prop}
theorem upd_loop (AD : Adds P w J El) {I : Addr} {fp wr : List Addr} {G : Array GenState → Array GenState → Prop} {n : Nat} {Pv : Nat → Value → Prop} {St : Nat → Shared → Prop} {R : Result → Shared → Prop} (W : WalksS P w A.in1 I fp wr G n Pv St) {S : Addr} (hSf : S ∉ fp) {ks : List Ent} (hn : n = ks.length) (hfew : ks.length ≤ 300)
    (hval : ∀ i v, Pv i v → ∃ p, ks[i]? = some p ∧ v = p.1) {h0 : Heap} (hk : ∀ p ∈ ks, El h0 p) (hS0 : h0.get? S = none) (hw0 : ∀ b ∈ wr, h0.get? b = none) (hu : A.in1.units + 8 < cLine) :
    ∀ (k i : Nat) (s : Shared), n - i = k → i ≤ n → St i s → (∀ b o, h0.get? b = some o → s.heap.get? b = some o) → (∃ L, J s.heap S L ∧ Has ks i L) →
      (∀ s' L, Moved (S :: wr) G s s' → J s'.heap S L → Has ks n L → (∀ b o, h0.get? b = some o → s'.heap.get? b = some o) → R (.ok (.ret .none)) s') → codeAny (model P w) A (.builtin "set.update.loop" ⟨[.ref S, .ref I], []⟩) R s := by
  have hSw : S ∉ wr := fun h => hSf (W.sub _ h)
  have sub : ∀ b ∈ wr, b ∈ S :: wr := fun b hb => List.mem_cons_of_mem _ hb
  have on : ∀ {s s' : Shared}, Moved wr G s s' → (∀ b o, h0.get? b = some o → s.heap.get? b = some o) → ∀ b o, h0.get? b = some o → s'.heap.get? b = some o := fun hm hkp b o e =>
    hm.heap b o (fun hb => absurd ((hw0 b hb).symm.trans e) (by simp)) (hkp b o e)
  intro k
  induction k with
  | zero =>
    intro i s hk' hi hst hkp ⟨L, hS, g⟩ hR
    obtain rfl : i = n := by omega
    refine codeAny_builtin F.entry_set_update_loop (Around.under_plainId F.plain_set_update_loop _ ▸ ?_)
    show wpAny _ A.in1 (pyNext (.ref I) >>= fun _ => _) _ _ s
    refine wpAny_bind (W.done s _ _ hst fun s' hm => ?_)
    have hkp' := on hm hkp
    exact wpAny_pure (hR s' L (hm.mono sub) (AD.stay hS (fun o e => hm.heap S o hSw e) fun p hp => AD.keep (hk p (List.mem_of_mem_take (g.sub p hp))) hkp') g hkp')
  | succ k ih =>
    intro i s hk' hi hst hkp ⟨L, hS, g⟩ hR
    have hlt : i < n := by omega
    refine codeAny_builtin F.entry_set_update_loop (Around.under_plainId F.plain_set_update_loop _ ▸ ?_)
    show wpAny _ A.in1 (pyNext (.ref I) >>= fun _ => _) _ _ s
    refine wpAny_bind (W.item i s _ _ hlt hst fun v s' hP hst' hm => ?_)
    obtain ⟨p, hp, rfl⟩ := hval i v hP
    have hkp' := on hm hkp
    have hx := AD.keep (hk p (List.mem_of_getElem? hp)) hkp'
    have hS' := AD.stay hS (fun o e => hm.heap S o hSw e) fun q hq => AD.keep (hk q (List.mem_of_mem_take (g.sub q hq))) hkp'
    obtain ⟨hid, hdep⟩ := AD.key hx
    show wpAny _ A.in1 (holding [p.1] (setAdd S p.1) >>= fun _ => _) _ _ s'
    refine wpAny_bind (wpAny_holding ?_)
    unfold setAdd
    refine wpAny_holding (wpAny_bind (pyHash_key _ _ _ _ _ hid (by omega) ?_))
    refine AD.add (s := { s' with toks := s'.toks + p.2.draws }) hu hS' hx (by have := g.len; omega) fun b h' L' hsb hS2 c1 c2 => ?_
    have hkp2 : ∀ b o, h0.get? b = some o → h'.get? b = some o := fun b o e => (hsb.2 b (fun z => absurd (hS0.symm.trans (z ▸ e)) (by simp))).trans (hkp' b o e)
    refine wpAny_pure ⟨plainId_quiet F.plain_set_update_loop _, ih (i + 1) _ (by omega) hlt (W.frame _ s' _ _ hst' (Nat.le_add_right _ _) fun b hb o e => ?_) hkp2 ⟨L', hS2, g.next hp c1 c2⟩ fun s'' L2 hm'' hS'' g'' hkp'' => ?_⟩
    · exact (hsb.2 b (fun h : b = S => hSf (h ▸ hb))).trans e
    · refine hR s'' L2 (Moved.trans W.gtrans ((hm.mono sub).then_heap (Nat.le_add_right _ _) fun b o hb e => ?_) hm'') hS'' g'' hkp''
      exact (hsb.2 b (fun h : b = S => hb (h ▸ List.mem_cons_self))).trans e
/-- the object of a new set -/
abbrev set0 (w : World) : Obj := { cls := .type "set", dict := none, data := .set #[] 0 (.fresh 0 0 (!w.params.followText "set-order")) }
/-- set(xs), by the code of its __init__ -/
theorem call_set1 {l : Addr} {Q : Value → Shared → Prop} (hi : ∀ s₁, s₁ = { s with heap := s.heap.push (set0 w) } → codeAny (model P w) A.in1 (.call (.builtin "set.__init__") ⟨[.ref s.heap.objs.size, .ref l], []⟩) (wants (fun r s₂ => r = .none ∧ Q (.ref s.heap.objs.size) s₂) E) s₁) :
    wpAny (model P w) A (call (.type "set") [.ref l]) Q E s := by
  obtain ⟨c, tl, hmro⟩ := F.called_set.mro
  obtain ⟨hmade, hsub, h1, h2⟩ := And.intro F.called_set.made (And.intro F.called_set.sub (And.intro F.called_set.notType F.called_set.canCreate))
  refine wpAny_call (codeAny_of_tree (show wpAny _ _ (callAny (.type "set") _) _ _ _ from wpAny_pure ⟨Code.quiet_builtin _ (by decide +kernel), codeAny_builtin F.entry_type_call ?_⟩))
  have hct := F.typeCall_set_1 (.ref l); rw [Around.under_plain (weight_type_call_type "set" [.ref l] []) rfl]
  repeat (any_goals (first | assumption | wp_step))
  refine codeAny_mono (code_set_led1 (.ref l) (E := E) (Q₁ := fun obj s₁ => obj = .ref s.heap.objs.size ∧ s₁ = { s with heap := s.heap.push (set0 w) }) ⟨rfl, rfl⟩) fun r s₁ hr => ?_
  match r, hr with
  | .error e, hr => exact hr
  | .ok (.ret obj), hr =>
    obtain ⟨rfl, es⟩ := hr
    have hT : s₁.TypeIs (.ref s.heap.objs.size) "set" := es ▸ ⟨_, Heap.get?_push_size _ rfl, rfl⟩
    obtain ⟨hli, hbi⟩ := And.intro F.called_set.init.lookup (F.called_set.init.bind (.ref s.heap.objs.size))
    have hi1 := hi s₁ es
    repeat (any_goals (first | assumption | wp_step))
    refine codeAny_mono hi1 fun r₂ s₂ hr₂ => ?_
    match r₂, hr₂ with
    | .error e, hr₂ => exact hr₂
    | .ok (.ret r), hr₂ =>
      obtain ⟨rfl, hq⟩ := hr₂
      repeat (any_goals (first | assumption | wp_step))
theorem call_setK (AD : Adds P w J El) {l : Addr} {T : String} {n : Nat} {dc : Option Addr} {sl : Array (Option Value)} {items : Array Value} (ks : List Ent) {Q : Value → Shared → Prop} (hh : A.handled = none) (hT : T = "list" ∨ T = "tuple") (hl : s.heap.get? l = some ⟨.type T, dc, .seq items n, sl⟩) (hit : items.toList = ks.map (·.1))
    (hk : ∀ p ∈ ks, El s.heap p) (hfew : ks.length ≤ 300) (hu : A.units + 40 < cLine)
    (h : ∀ (h' : Heap) (tk : Nat) L, J h' s.heap.objs.size L → Has ks ks.length L → (∀ b o, s.heap.get? b = some o → h'.get? b = some o) → Q (.ref s.heap.objs.size) { s with heap := h', toks := tk }) :
    wpAny (model P w) A (call (.type "set") [.ref l]) Q E s := by
  refine call_set1 fun s₁ es₁ => ?_
  subst es₁
  have hS : (s.heap.push (set0 w)).get? s.heap.objs.size = some (set0 w) := Heap.get?_push_size _ rfl
  have hTy : Shared.TypeIs { s with heap := s.heap.push (set0 w) } (.ref s.heap.objs.size) "set" := ⟨_, hS, rfl⟩
  have hl' : (s.heap.push (set0 w)).get? l = some ⟨.type T, dc, .seq items n, sl⟩ := Heap.get?_push_of_some _ hl
  refine codeAny_call_builtin F.called_set.init.plain F.entry_set_init (check_set_init_1 hTy ?_)
  have hsz : items.size = ks.length := (Array.length_toList ..).symm.trans ((congrArg List.length hit).trans (List.length_map ..))
  have hlS : l < s.heap.objs.size := Heap.lt_size hl
  have zI : (s.heap.push (set0 w)).objs.size = s.heap.objs.size + 1 := Heap.size_push ..
  have hval : ∀ (i : Nat) (v : Value), items[i]? = some v → ∃ p, ks[i]? = some p ∧ v = p.1 := fun i v hv => by
    rw [← Array.getElem?_toList, hit, List.getElem?_map] at hv
    obtain ⟨p, h1, h2⟩ := Option.map_eq_some_iff.mp hv
    exact ⟨p, h1, h2.symm⟩
  have hneI : l ≠ (s.heap.push (set0 w)).objs.size := zI ▸ Nat.ne_of_lt (Nat.lt_succ_of_lt hlS)
  have hSf : s.heap.objs.size ∉ [(s.heap.push (set0 w)).objs.size, l] := by
    rw [zI]
    simp only [List.mem_cons, List.not_mem_nil, or_false, not_or]
    exact ⟨Nat.ne_of_lt (Nat.lt_succ_self _), Nat.ne_of_gt hlS⟩
  have hne : (Value.type T == Value.type "dict") = false := by rcases hT with rfl | rfl <;> decide
  have hsls : isSubtype (.type T) (.type "set") = pure false := by rcases hT with rfl | rfl; exact PySem.F.sub_list_set; exact PySem.F.sub_tuple_set
  have hslf : isSubtype (.type T) (.type "frozenset") = pure false := by rcases hT with rfl | rfl; exact PySem.F.sub_list_frozenset; exact PySem.F.sub_tuple_frozenset
  unfold Builtin.«set.__init__» noKeywords Builtin.Frozenset.updateFrom
  generalize hPI : pyIter = PI
  wp_walk
  subst hPI
  have hh3 : A.in1.in1.in1.handled = none := by simp [hh]
  have fin : ∀ (ob : Obj) (St : Nat → Heap → Prop), Walks P w A.in1.in1.in1 (s.heap.push (set0 w)).objs.size [(s.heap.push (set0 w)).objs.size, l] [(s.heap.push (set0 w)).objs.size] items.size (fun i v => items[i]? = some v) St → St 0 ((s.heap.push (set0 w)).push ob) →
      codeAny (model P w) A.in1.in1 (.builtin "set.update.loop" ⟨[.ref s.heap.objs.size, .ref (s.heap.push (set0 w)).objs.size], []⟩) (wants (fun r s₂ => r = .none ∧ ∃ h' tk L, s₂ = { s with heap := h', toks := tk } ∧ J h' s.heap.objs.size L ∧ Has ks ks.length L ∧ ∀ b o, s.heap.get? b = some o → h'.get? b = some o) E)
        { s with heap := (s.heap.push (set0 w)).push ob } := fun ob St W st => by
    have old : ∀ b o, s.heap.get? b = some o → ((s.heap.push (set0 w)).push ob).get? b = some o := fun b o e => Heap.get?_push_of_some _ (Heap.get?_push_of_some _ e)
    have has0 : Has ks 0 [] := ⟨fun p hp => (by cases hp), fun p hp => (by rw [List.take_zero] at hp; cases hp), Nat.le_refl _⟩
    refine upd_loop AD W.toS hSf hsz hfew hval hk (h0 := s.heap) (Heap.get?_none_of_le (Nat.le_refl _)) (fun b hb => ?_) (show A.units + 3 + 8 < cLine by omega) (items.size - 0) 0 _ rfl (Nat.zero_le _) st old ⟨[], AD.new (Heap.get?_push_of_some _ hS), has0⟩ fun s' L hm hJ hg hkp => ?_
    · obtain rfl := List.mem_singleton.mp hb
      exact Heap.get?_none_of_le (zI ▸ Nat.le_succ _)
    · obtain ⟨h', g', d', tk', os'⟩ := s'
      obtain ⟨eg, ed, eo⟩ : g' = s.gens ∧ d' = s.drawn ∧ os' = s.os := ⟨hm.gens, hm.drawn, hm.os⟩
      subst eg ed eo
      rw [hsz] at hg
      exact ⟨rfl, h', tk', L, rfl, hJ, hg, hkp⟩
  have cont : ∀ (r : Result) (s₂ : Shared), (wants (fun r s₂ => r = .none ∧ ∃ h' tk L, s₂ = { s with heap := h', toks := tk } ∧ J h' s.heap.objs.size L ∧ Has ks ks.length L ∧ ∀ b o, s.heap.get? b = some o → h'.get? b = some o) E) r s₂ →
      wants (fun r s₂ => r = .none ∧ Q (.ref s.heap.objs.size) s₂) E r s₂ := fun r s₂ hr => by
    match r, hr with
    | .error e, hr => exact hr
    | .ok (.ret v), hr =>
      obtain ⟨rfl, h', tk, L, rfl, hJ, hg, hkp⟩ := hr
      exact ⟨rfl, h h' tk L hJ hg hkp⟩
  rcases hT with rfl | rfl
  · have hl1 : (s.heap.push (set0 w)).IsList l items := ⟨_, hl', rfl, n, rfl⟩
    refine wpAny_pyIter_list hl1 (wpAny_bind (wpAny_runValue (codeAny_mono (fin _ _ (Walks.list hh3 _ l hneI items) ⟨⟨_, Heap.get?_push_size _ rfl, rfl, rfl⟩, hl1.push _⟩) fun r s₂ hr => ?_)))
    have hr' := cont r s₂ hr
    match r, hr' with
    | .error e, hr' => exact hr'
    | .ok (.ret v), hr' => exact wpAny_pure (show wpAny _ _ (ret Value.none) _ _ _ from wpAny_pure ⟨rfl, hr'.2⟩)
  · have hl1 : (s.heap.push (set0 w)).IsTuple l items := ⟨_, hl', rfl, n, rfl⟩
    refine wpAny_pyIter_tuple hl1 (wpAny_bind (wpAny_runValue (codeAny_mono (fin _ _ (Walks.tuple hh3 _ l hneI items) ⟨⟨_, Heap.get?_push_size _ rfl, rfl, rfl⟩, hl1.push _⟩) fun r s₂ hr => ?_)))
    have hr' := cont r s₂ hr
    match r, hr' with
    | .error e, hr' => exact hr'
    | .ok (.ret v), hr' => exact wpAny_pure (show wpAny _ _ (ret Value.none) _ _ _ from wpAny_pure ⟨rfl, hr'.2⟩)
end
end NK
end

section
set_option Elab.async false
set_option linter.all false
set_option maxRecDepth 100000
set_option maxHeartbeats 4000000
namespace NK
open PySem PySem.Spec L2
open PyProof.Rows hiding St
section
variable {P : Program} {w : World} {A : Around} {E : Value → Shared → Prop} {s : Shared}
theorem led_fresh : w.params.followText "set-order" = true ∨ (SetTable.fresh 0 0 (!w.params.followText "set-order")).led = true := by
  show _ ∨ (!w.params.followText "set-order") = true
  cases w.params.followText "set-order" <;> simp
theorem adds_tup : Adds P w (fun h a L => ∃ es ep t, STb w h a L es ep t) Mem where
  add := fun hu ⟨es, ep, t, R⟩ hx hf hQ => add_to R hx hu hf fun b h' L' es' ep' t' sb R' c1 c2 => hQ b h' L' sb ⟨es', ep', t', R'⟩ c1 c2
  stay := fun ⟨es, ep, t, R⟩ k m => ⟨es, ep, t, let ⟨o, ho, q⟩ := R.ob; ⟨o, k o ho, q⟩, R.rows, R.tab, R.nd, m, R.led, R.room, R.few⟩
  keep := fun m k => ⟨NestedIs.at (fun b o _ _ e _ => k b o e) _ _ m.is, m.dep, m.ref⟩
  key := fun m => ⟨m.is, m.dep⟩
  new := fun ho => ⟨#[], 0, _, ⟨_, ho, ⟨rfl, rfl, rfl⟩, rfl⟩, rfl, ⟨List.Pairwise.nil, rfl, rfl, msk_of (.inl rfl), fun x hx => (by cases hx), fun i h j hi => by simp at hi⟩, List.nodup_nil, fun p hp => (by cases hp), led_fresh, (by show 0 * 5 < 7 * 3; decide), by decide⟩
/-! ### sets of ints and texts -/
def nkOf : Key → NestedKey
  | .inl i => .num i
  | .inr x => .text x
theorem nk_hash (k : Key) : (nkOf k).hash w = keyH w k := by cases k <;> rfl
theorem nk_inj {a b : Key} (h : nkOf a = nkOf b) : a = b := by
  cases a <;> cases b <;> simp [nkOf] at h <;> rw [h]
/-- a member: an int or a text -/
def Flm (p : Ent) : Prop := ∃ k : Key, keyIs k p.1 = true ∧ p.2 = nkOf k
theorem Flm.is {p : Ent} {h : Heap} (m : Flm p) : NestedIs h p.2 p.1 ∧ p.2.depth ≤ 8 := by
  obtain ⟨k, hk, e⟩ := m
  rw [e]
  rcases keyIs_shape hk with ⟨i, t, rfl, e1⟩ | ⟨x, t, rfl, e1⟩
  · rw [e1]
    exact ⟨.int i t, Nat.zero_le _⟩
  · rw [e1]
    exact ⟨.text x t, Nat.zero_le _⟩
theorem Flm.scan {p : Ent} (m : Flm p) : p.1.scannable = true := by
  obtain ⟨k, hk, _⟩ := m
  rcases keyIs_shape hk with ⟨i, t, _, e1⟩ | ⟨x, t, _, e1⟩ <;> rw [e1] <;> rfl
structure SFl (w : World) (h : Heap) (a : Addr) (L : List Ent) (es : Array (Int × Value)) (ep : Nat) (t : SetTable) : Prop where
  ob : ∃ o, h.get? a = some o ∧ o.ExactSet ∧ o.data = .set es ep t
  rows : es.toList = rws w L
  nd : (L.map (·.2)).Nodup
  mem : ∀ p ∈ L, Flm p
  fits : t.fits es.size = true
  ris : Ris t.place.toList
  led : w.params.followText "set-order" = true ∨ t.led = true
  few : L.length ≤ 300
theorem rws_perm {L : List Ent} : ∀ {l : List (Int × Value)} (_ : l.Perm (rws w L)), ∃ L2 : List Ent, l = rws w L2 ∧ L2.Perm L := by
  suffices h : ∀ {l k : List (Int × Value)}, l.Perm k → ∀ L : List Ent, k = rws w L → ∃ L2 : List Ent, l = rws w L2 ∧ L2.Perm L from fun {_} p => h p L rfl
  intro l k p
  induction p with
  | nil => exact fun L e => ⟨[], rfl, by cases L with | nil => exact .refl _ | cons _ _ => cases e⟩
  | cons x _ ih =>
    intro L e
    cases L with
    | nil => cases e
    | cons y L =>
      obtain ⟨e1, e2⟩ := List.cons.inj e
      obtain ⟨L2, q1, q2⟩ := ih L e2
      exact ⟨y :: L2, by rw [q1, e1]; rfl, q2.cons y⟩
  | swap x y l =>
    intro L e
    match L, e with
    | a :: b :: L, e =>
      obtain ⟨e1, e2⟩ := List.cons.inj e
      obtain ⟨e3, e4⟩ := List.cons.inj e2
      exact ⟨b :: a :: L, by rw [e1, e3, e4]; rfl, .swap _ _ _⟩
  | trans _ _ ih1 ih2 =>
    intro L e
    obtain ⟨L2, q1, q2⟩ := ih2 L e
    obtain ⟨L3, q3, q4⟩ := ih1 L2 q1
    exact ⟨L3, q3, q4.trans q2⟩
theorem flat_elems {L : List Ent} (m : ∀ p ∈ L, Flm p) : ElemsOf (mixKind P w) (rws w L) := fun e he => by
  obtain ⟨p, hp, rfl⟩ := List.mem_map.mp he
  obtain ⟨k, hk, e2⟩ := m p hp
  exact ⟨⟨k, hk, by rw [e2, nk_hash]; rfl⟩, (m p hp).scan⟩
theorem flat_find {L : List Ent} (m : ∀ p ∈ L, Flm p) {k : Key} : (∃ e ∈ rws w L, (mixKind P w).is k e.2 = true) ↔ nkOf k ∈ L.map (·.2) := by
  constructor
  · rintro ⟨e, he, q⟩
    obtain ⟨p, hp, rfl⟩ := List.mem_map.mp he
    obtain ⟨k', hk', e2⟩ := m p hp
    have : k = k' := (mixKind P w).inj p.1 k k' q hk'
    rw [this, ← e2]
    exact List.mem_map_of_mem hp
  · intro h
    obtain ⟨p, hp, e⟩ := List.mem_map.mp h
    obtain ⟨k', hk', e2⟩ := m p hp
    have : k' = k := nk_inj (e2.symm.trans e)
    exact ⟨_, List.mem_map.mpr ⟨p, hp, rfl⟩, this ▸ hk'⟩
variable {a : Addr} {L : List Ent} {es : Array (Int × Value)} {ep : Nat} {t : SetTable}
theorem SFl.size {h : Heap} (R : SFl w h a L es ep t) : es.size = L.length := (Array.length_toList ..).symm.trans ((congrArg List.length R.rows).trans (List.length_map ..))
/-- stored, and laid anew where it is too full -/
theorem flat_tail {g : Bool → Sem Unit} (hg : ∀ (b : Bool) (s₁ : Shared) (Q' : Unit → Shared → Prop), Q' () s₁ → wpAny (model P w) A (g b) Q' E s₁) {o : Obj} (ho : s.heap.get? a = some o) (hex : o.ExactSet) (hd : o.data = .set es ep t)
    {es1 : Array (Int × Value)} {t2 : SetTable} {L1 : List Ent} (rows : es1.toList = rws w L1) (nd : (L1.map (·.2)).Nodup) (mem : ∀ p ∈ L1, Flm p) (few : L1.length ≤ 300) (hf : t2.fits es1.size = true) (hr : Ris t2.place.toList) (hl : w.params.followText "set-order" = true ∨ t2.led = true) {wd : Bool} {R : Option Bool → Shared → Prop}
    (hR : ∀ h' L' es' ep' t', Heap.SameBut a s.heap h' → SFl w h' a L' es' ep' t' → L'.Perm L1 → R (some true) { s with heap := h' }) :
    wpAny (model P w) A (do
        storeSet a es1 t2
        if (!wd && t2.tooFull) = true then do
            g (relayAll t2 es1 (SetTable.grown es1.size)).2.2
            storeSet a (relayAll t2 es1 (SetTable.grown es1.size)).1 (relayAll t2 es1 (SetTable.grown es1.size)).2.1
            pure (some true)
          else pure (some true)) R E s := by
  have hsz : es1.size = L1.length := (Array.length_toList ..).symm.trans ((congrArg List.length rows).trans (List.length_map ..))
  have hz : es1.size ≤ sizeLine := by rw [sizeLine_eq]; omega
  refine wpAny_bind (wpAny_storeSet_of ho hd ?_ hz)
  have ho1 := store_at (es' := es1) (t' := t2) ho hd
  have sb1 := Heap.SameBut.update s.heap a (Obj.putSet es1 t2)
  split
  · have q := And.intro (relayAll_perm t2 es1 (SetTable.grown es1.size)) (And.intro (relayAll_fits t2 es1 (SetTable.grown es1.size)) (And.intro (relayAll_ris t2 es1 (SetTable.grown es1.size)) (relayAll_led t2 es1 (SetTable.grown es1.size))))
    generalize relayAll t2 es1 (SetTable.grown es1.size) = Z at q ⊢
    obtain ⟨es2, t3, gave⟩ := Z
    obtain ⟨pm, hf3, hr3, hl3⟩ := q
    dsimp only at pm hf3 hr3 hl3 ⊢
    rw [rows] at pm
    obtain ⟨L2, r2, p2⟩ := rws_perm pm
    have hz2 : es2.size ≤ sizeLine := by
      have : es2.size = L2.length := (Array.length_toList ..).symm.trans ((congrArg List.length r2).trans (List.length_map ..))
      rw [this, p2.length_eq, ← hsz]
      exact hz
    refine wpAny_bind (hg _ _ _ (wpAny_bind (wpAny_storeSet_of ho1 rfl ?_ hz2)))
    exact wpAny_pure (hR _ L2 es2 _ t3 (sb1.trans (Heap.SameBut.update _ a _)) ⟨⟨_, store_at (es' := es2) (t' := t3) ho1 rfl, hex, rfl⟩, r2, (p2.map (·.2)).nodup_iff.mpr nd, fun p hp => mem p (p2.mem_iff.mp hp), hf3, hr3, hl.imp_right fun z => hl3.trans z, by rw [p2.length_eq]; exact few⟩ p2)
  · exact wpAny_pure (hR _ L1 es1 _ t2 sb1 ⟨⟨_, ho1, hex, rfl⟩, rows, nd, mem, hf, hr, hl, few⟩ (.refl _))
theorem flat_add (R : SFl w s.heap a L es ep t) {x : Ent} (hx : Flm x) (hfew : L.length + 1 ≤ 300) {Q : Bool → Shared → Prop}
    (hQ : ∀ b h' L' es' ep' t', Heap.SameBut a s.heap h' → SFl w h' a L' es' ep' t' → (x.2 ∈ L.map (·.2) → L' = L) → (x.2 ∉ L.map (·.2) → L'.Perm (x :: L)) → Q b { s with heap := h' }) :
    wpAny (model P w) A (setAddHashed a x.1 (x.2.hash w)) Q E s := by
  obtain ⟨o, ho, hex, hd⟩ := R.ob
  obtain ⟨k, hkey, ek⟩ := id hx
  have hsc := hx.scan
  have hsl := R.size
  have hel : ElemsOf (mixKind P w) es.toList := R.rows ▸ flat_elems R.mem
  have hb : es.size < scanBound := by unfold scanBound; omega
  have ehash : x.2.hash w = (mixKind P w).hash k := by rw [ek, nk_hash]; rfl
  have hkey : (mixKind P w).is k x.1 = true := hkey
  rw [ehash]
  unfold setAddHashed setAddHashedIn
  refine wpAny_holding (wpAny_bind (wpAny_setState_of ho hd R.fits ?_))
  dsimp only
  rw [byScan_of hsc hb hel]
  simp only [↓reduceIte]
  unfold setAddByScan
  refine wpAny_bind (wpAny_bind (wpAny_rule (wpAny_bind (wpAny_setScan_of hkey ho hd R.fits hel ?_))))
  cases hfi : List.findIdx? (fun e => (mixKind P w).is k e.2) es.toList with
  | some j =>
    obtain ⟨hj, pj, _⟩ := List.findIdx?_eq_some_iff_getElem.mp hfi
    have hin : x.2 ∈ L.map (·.2) := by
      rw [ek]
      refine (flat_find (P := P) (w := w) R.mem).mp ⟨es.toList[j], ?_, pj⟩
      rw [← R.rows]
      exact List.getElem_mem hj
    exact wpAny_pure (wpAny_pure (hQ _ s.heap L es ep t (Heap.SameBut.refl a s.heap) R (fun _ => rfl) fun z => absurd hin z))
  | none =>
    dsimp only
    have hout : x.2 ∉ L.map (·.2) := fun z => by
      rw [ek] at z
      obtain ⟨e, he, q⟩ := (flat_find (P := P) (w := w) R.mem).mpr z
      rw [← R.rows] at he
      have c := List.findIdx?_eq_none_iff.mp hfi e he
      rw [q] at c
      cases c
    have hgw : ∀ (b : Bool) (s₁ : Shared) (Q' : Unit → Shared → Prop), Q' () s₁ → wpAny (model P w) A (match b with | true => rule "set.scan.the-table-gave-way" | false => pure ()) Q' E s₁ := fun b s₁ Q' q => by
      cases b <;> first | exact wpAny_pure q | exact wpAny_rule q
    have q := And.intro (layNew_perm t es ((mixKind P w).hash k) x.1) (And.intro (layNew_fits t es ((mixKind P w).hash k) x.1) (And.intro (layNew_ris t es ((mixKind P w).hash k) x.1 R.ris) (layNew_led t es ((mixKind P w).hash k) x.1)))
    generalize layNew t es ((mixKind P w).hash k) x.1 = Z at q ⊢
    obtain ⟨es1, t1, wd, gave⟩ := Z
    obtain ⟨pm, hf1, hr1, hl1⟩ := q
    dsimp only at pm hf1 hr1 hl1 ⊢
    rw [Array.toList_push, R.rows, ← ehash] at pm
    have pc : es1.toList.Perm (rws w (x :: L)) := pm.trans (List.perm_append_singleton _ _)
    obtain ⟨L1, r1, p1⟩ := rws_perm pc
    have nd1 : (L1.map (·.2)).Nodup := (p1.map (·.2)).nodup_iff.mpr (List.nodup_cons.mpr ⟨hout, R.nd⟩)
    have mem1 : ∀ p ∈ L1, Flm p := fun p hp => by
      rcases List.mem_cons.mp (p1.mem_iff.mp hp) with rfl | hp
      · exact hx
      · exact R.mem p hp
    have few1 : L1.length ≤ 300 := by rw [p1.length_eq]; exact hfew
    have led1 : w.params.followText "set-order" = true ∨ t1.led = true := R.led.imp_right fun z => hl1.trans z
    have fin : ∀ h' L' es' ep' t', Heap.SameBut a s.heap h' → SFl w h' a L' es' ep' t' → L'.Perm L1 → Q true { s with heap := h' } := fun h' L' es' ep' t' sb r p => hQ true h' L' es' ep' t' sb r (fun z => absurd z hout) fun _ => p.trans p1
    refine wpAny_bind (hgw _ _ _ ?_)
    split
    · rw [hashByValue_scannable 8 hsc]
      refine wpAny_bind (wpAny_pure ?_)
      refine flat_tail hgw ho hex hd r1 nd1 mem1 few1 ?_ ?_ ?_ ?_
      · split
        · exact hf1
        · exact SetTable.fits_plain_off hf1
      · split <;> exact hr1
      · split <;> exact led1
      · exact fun h' L' es' ep' t' sb r p => wpAny_pure (fin h' L' es' ep' t' sb r p)
    · refine wpAny_bind (wpAny_pure ?_)
      simp only [↓reduceIte]
      exact flat_tail hgw ho hex hd r1 nd1 mem1 few1 hf1 hr1 led1 fun h' L' es' ep' t' sb r p => wpAny_pure (fin h' L' es' ep' t' sb r p)
theorem adds_flat : Adds P w (fun h a L => ∃ es ep t, SFl w h a L es ep t) (fun _ p => Flm p) where
  add := fun hu ⟨es, ep, t, R⟩ hx hf hQ => flat_add R hx hf fun b h' L' es' ep' t' sb R' c1 c2 => hQ b h' L' sb ⟨es', ep', t', R'⟩ c1 c2
  stay := fun ⟨es, ep, t, R⟩ k m => ⟨es, ep, t, let ⟨o, ho, q⟩ := R.ob; ⟨o, k o ho, q⟩, R.rows, R.nd, m, R.fits, R.ris, R.led, R.few⟩
  keep := fun m _ => m
  key := fun m => m.is
  new := fun ho => ⟨#[], 0, _, ⟨_, ho, ⟨rfl, rfl, rfl⟩, rfl⟩, rfl, List.nodup_nil, fun p hp => (by cases hp), rfl, List.Pairwise.nil, led_fresh, by decide⟩
end
end NK
end

section
set_option Elab.async false
set_option linter.all false
set_option maxRecDepth 100000
set_option maxHeartbeats 4000000
namespace NK
open PySem PySem.Spec L2
open PyProof.Rows hiding St
/-! ### sets, sorting: the rules -/
/-- ints and texts -/
def flatD : PyData → Bool
  | .int _ => true
  | .str _ => true
  | _ => false
/-- a tuple of ints, texts and flat tuples -/
def tupD : PyData → Bool
  | .tuple ds => ds.all fun d => flatD d || match d with
    | .tuple es => es.all flatD
    | _ => false
  | _ => false
def rSetD (K : PySem.W.Frag) (w : World) : List V → Hp → VK → Prop := fun vs H Q => ∃ (l : Addr) (xs : List V) (ds : List PyData), vs = [.ref l] ∧ (SqL K H l xs ∨ SqT K H l xs) ∧ DpAll K H xs ds ∧ (ds.all flatD = true ∨ ds.all tupD = true) ∧ xs.length ≤ 300 ∧
  ∀ (a : Addr) (ws : List V) (es : List PyData), H a = none → ws.length = es.length → (∀ p ∈ ws.zip es, p ∈ xs.zip ds) → es.Nodup → (∀ d ∈ ds, d ∈ es) → Q (.ref a) (upd H a (SetV w a ws))
/-- data as keys -/
def nk1 : PyData → NestedKey
  | .int i => .num i
  | .str x => .text x
  | _ => .none
def nk2 : PyData → NestedKey
  | .tuple ds => .tup (ds.map nk1)
  | d => nk1 d
def nk3 : PyData → NestedKey
  | .tuple ds => .tup (ds.map nk2)
  | d => nk1 d
def flat2 (d : PyData) : Bool := flatD d || match d with
    | .tuple es => es.all flatD
    | _ => false
theorem flat_inv {d : PyData} (h : flatD d = true) : (∃ i, d = .int i) ∨ ∃ x, d = .str x := by
  cases d with
  | int i => exact .inl ⟨i, rfl⟩
  | str x => exact .inr ⟨x, rfl⟩
  | _ => cases h
theorem nk1_inj {d e : PyData} (h1 : flatD d = true) (h2 : flatD e = true) (h : nk1 d = nk1 e) : d = e := by
  rcases flat_inv h1 with ⟨i, rfl⟩ | ⟨x, rfl⟩ <;> rcases flat_inv h2 with ⟨j, rfl⟩ | ⟨y, rfl⟩ <;> simp [nk1] at h <;> rw [h]
theorem map_inj_on {α β : Type} {f : α → β} {p : α → Bool} (hf : ∀ a b, p a = true → p b = true → f a = f b → a = b) : ∀ {l m : List α}, l.all p = true → m.all p = true → l.map f = m.map f → l = m
  | [], [], _, _, _ => rfl
  | [], _ :: _, _, _, h => by simp at h
  | _ :: _, [], _, _, h => by simp at h
  | a :: l, b :: m, h1, h2, h => by
    rw [List.all_cons, Bool.and_eq_true] at h1 h2
    rw [List.map_cons, List.map_cons] at h
    obtain ⟨e1, e2⟩ := List.cons.inj h
    rw [hf a b h1.1 h2.1 e1, map_inj_on hf h1.2 h2.2 e2]
theorem flat2_inv {d : PyData} (h : flat2 d = true) : (flatD d = true ∧ nk2 d = nk1 d) ∨ ∃ es, d = .tuple es ∧ es.all flatD = true := by
  cases d with
  | int i => exact .inl ⟨rfl, rfl⟩
  | str x => exact .inl ⟨rfl, rfl⟩
  | tuple es => exact .inr ⟨es, rfl, h⟩
  | _ => cases h
theorem nk1_ne {d : PyData} {ks : List NestedKey} : nk1 d ≠ .tup ks := by cases d <;> simp [nk1]
theorem nk2_inj {d e : PyData} (h1 : flat2 d = true) (h2 : flat2 e = true) (h : nk2 d = nk2 e) : d = e := by
  rcases flat2_inv h1 with ⟨a1, a2⟩ | ⟨es, rfl, a1⟩ <;> rcases flat2_inv h2 with ⟨b1, b2⟩ | ⟨fs, rfl, b1⟩
  · rw [a2, b2] at h
    exact nk1_inj a1 b1 h
  · rw [a2] at h
    exact absurd h nk1_ne
  · rw [b2] at h
    exact absurd h.symm nk1_ne
  · have h : es.map nk1 = fs.map nk1 := NestedKey.tup.inj h
    rw [map_inj_on (fun a b => nk1_inj) a1 b1 h]
theorem tup_inv {d : PyData} (h : tupD d = true) : ∃ es, d = .tuple es ∧ es.all flat2 = true := by
  cases d with
  | tuple es => exact ⟨es, rfl, h⟩
  | _ => cases h
theorem nk3_inj {d e : PyData} (h1 : tupD d = true) (h2 : tupD e = true) (h : nk3 d = nk3 e) : d = e := by
  obtain ⟨es, rfl, a⟩ := tup_inv h1
  obtain ⟨fs, rfl, b⟩ := tup_inv h2
  rw [map_inj_on (fun a b => nk2_inj) a b (NestedKey.tup.inj h)]
theorem reads_nk1 {h : Heap} {d : PyData} {u : Value} {as : List Addr} (f : flatD d = true) (r : Reads h u d as) : NestedIs h (nk1 d) u := by
  rcases flat_inv f with ⟨i, rfl⟩ | ⟨x, rfl⟩
  · cases r
    exact .int _ _
  · cases r
    exact .text _ _
theorem reads_all {h : Heap} {f : PyData → NestedKey} {p : PyData → Bool} (one : ∀ d u as, p d = true → Reads h u d as → NestedIs h (f d) u) : ∀ {ds : List PyData} {us : List Value} {as : List Addr}, ds.all p = true → ReadsAll h us ds as → NestedAll h (ds.map f) us
  | [], _, _, _, r => by
    cases r
    exact .nil
  | d :: ds, _, _, hp, r => by
    rw [List.all_cons, Bool.and_eq_true] at hp
    cases r with
    | cons r1 r2 => exact .cons (one _ _ _ hp.1 r1) (reads_all one hp.2 r2)
theorem reads_nk2 {h : Heap} {d : PyData} {u : Value} {as : List Addr} (f : flat2 d = true) (r : Reads h u d as) : NestedIs h (nk2 d) u := by
  rcases flat2_inv f with ⟨a1, a2⟩ | ⟨es, rfl, a1⟩
  · rw [a2]
    exact reads_nk1 a1 r
  · cases r with
    | tuple h1 h2 h3 h4 => exact .tup h1 h2 h3 (reads_all (fun _ _ _ => reads_nk1) a1 h4)
theorem reads_nk3 {h : Heap} {d : PyData} {u : Value} {as : List Addr} (f : tupD d = true) (r : Reads h u d as) : NestedIs h (nk3 d) u ∧ ∃ b, u = .ref b := by
  obtain ⟨es, rfl, a⟩ := tup_inv f
  cases r with
  | tuple h1 h2 h3 h4 => exact ⟨.tup h1 h2 h3 (reads_all (fun _ _ _ => reads_nk2) a h4), _, rfl⟩
theorem dep1 (d : PyData) : (nk1 d).depth = 0 := by cases d <;> rfl
theorem dep_all {f : PyData → NestedKey} {n : Nat} (h : ∀ d, (f d).depth ≤ n) : ∀ ds : List PyData, NestedKey.depthAll (ds.map f) ≤ n
  | [] => Nat.zero_le _
  | d :: ds => Nat.max_le.mpr ⟨h d, dep_all h ds⟩
theorem dep2 (d : PyData) : (nk2 d).depth ≤ 1 := by
  cases d with
  | tuple ds => exact Nat.succ_le_succ (dep_all (fun d => Nat.le_of_eq (dep1 d)) ds)
  | _ => exact Nat.zero_le _
theorem dep3 (d : PyData) : (nk3 d).depth ≤ 2 := by
  cases d with
  | tuple ds => exact Nat.succ_le_succ (dep_all dep2 ds)
  | _ => exact Nat.zero_le _
section
variable {X : Cx} {pins : List (Addr × Obj)} {σ : L2.St} {H : Hp} {s : Shared}
theorem ent_of : ∀ {xs : List V} {us : List Value} {ds : List PyData} {f : PyData → NestedKey} {p : Ent}, Vals xs us → xs.length = ds.length → p ∈ us.zip (ds.map f) → ∃ b ∈ xs.zip ds, RelV b.1 p.1 ∧ p.2 = f b.2
  | _, _, [], _, _, .nil, _, h => nomatch h
  | _, _, [], _, _, .cons _ _, e, _ => nomatch e
  | _, _, _ :: _, _, _, .nil, e, _ => nomatch e
  | x :: xs, u :: us, d :: ds, f, p, .cons r t, e, h => by
    rcases List.mem_cons.mp h with rfl | h
    · exact ⟨(x, d), List.mem_cons_self, r, rfl⟩
    · obtain ⟨b, hb, q⟩ := ent_of t (Nat.succ.inj e) h
      exact ⟨b, List.mem_cons_of_mem _ hb, q⟩
theorem choose_all {α β : Type} {R : α → β → Prop} : ∀ {L : List α}, (∀ p ∈ L, ∃ b, R p b) → ∃ M : List β, PySem.W.EachIs R L M
  | [], _ => ⟨[], .nil⟩
  | p :: L, h => by
    obtain ⟨b, hb⟩ := h p List.mem_cons_self
    obtain ⟨M, hM⟩ := choose_all fun q hq => h q (List.mem_cons_of_mem _ hq)
    exact ⟨b :: M, .cons hb hM⟩
theorem set_out {L : List Ent} {M : List (V × PyData)} {xs : List V} {ds : List PyData} {f : PyData → NestedKey} (e : PySem.W.EachIs (fun (p : Ent) (b : V × PyData) => b ∈ xs.zip ds ∧ RelV b.1 p.1 ∧ p.2 = f b.2) L M) :
    Vals (M.map (·.1)) (L.map (·.1)) ∧ (M.map (·.2)).map f = L.map (·.2) ∧ ∀ b ∈ M, b ∈ xs.zip ds := by
  induction e with
  | nil => exact ⟨.nil, rfl, fun b hb => nomatch hb⟩
  | cons h _ ih => exact ⟨.cons h.2.1 ih.1, by rw [List.map_cons, List.map_cons, List.map_cons, ih.2.1, h.2.2], fun b hb => (List.mem_cons.mp hb).elim (fun z => z ▸ h.1) (ih.2.2 b)⟩
/-- set(xs) of keys of one kind -/
theorem set_run {J : Heap → Addr → List Ent → Prop} {El : Heap → Ent → Prop} (AD : Adds X.prog X.w J El) (hc : X.calm = true) (hr : Room 6 X.A) (I : Inv X pins σ H s) {l : Addr} {xs : List V} {ds : List PyData} {f : PyData → NestedKey} {Q : VK} (hs : SqL X.K H l xs ∨ SqT X.K H l xs) (hd : DpAll X.K H xs ds)
    (inj : ∀ d ∈ ds, ∀ e ∈ ds, f d = f e → d = e) (el : ∀ d ∈ ds, ∀ u as, Reads s.heap u d as → El s.heap (u, f d)) (h3 : xs.length ≤ 300)
    (out : ∀ h a L, J h a L → (L.map (·.2)).Nodup ∧ ∃ (es : Array (Int × Value)) (ep : Nat) (t : SetTable), (∃ o, h.get? a = some o ∧ o.ExactSet ∧ o.data = .set es ep t) ∧ es.toList.map (·.2) = L.map (·.1) ∧ t.fits es.size = true ∧ es.size < scanBound ∧ L2.Ris t.place.toList ∧ (X.w.params.followText "set-order" = true ∨ t.led = true))
    (q : ∀ (a : Addr) (ws : List V) (es : List PyData), H a = none → ws.length = es.length → (∀ p ∈ ws.zip es, p ∈ xs.zip ds) → es.Nodup → (∀ d ∈ ds, d ∈ es) → Q (.ref a) (upd H a (SetV X.w a ws))) :
    wpAny (model X.prog X.w) X.A (call (.type "set") [.ref l]) (EP X pins σ Q) X.xe s := by
  have hlen := DpAll.len hd
  have go : ∀ (T : String) (its : List Value) (o : Obj) (n : Nat), Vals xs its → T = "list" ∨ T = "tuple" → s.heap.get? l = some o → o.cls = .type T → o.data = .seq its.toArray n → wpAny (model X.prog X.w) X.A (call (.type "set") [.ref l]) (EP X pins σ Q) X.xe s := fun T its o n rv hT ho hcl hdt => by
    have hil : its.length = ds.length := rv.length.symm.trans hlen
    obtain ⟨c, dc, dt, sl⟩ := o
    obtain rfl : c = .type T := hcl
    obtain rfl : dt = .seq its.toArray n := hdt
    have efst : (its.zip (ds.map f)).map (·.1) = its := List.map_fst_zip (by rw [List.length_map, hil]; exact Nat.le_refl _)
    have esnd : (its.zip (ds.map f)).map (·.2) = ds.map f := List.map_snd_zip (by rw [List.length_map, hil]; exact Nat.le_refl _)
    have kl : (its.zip (ds.map f)).length ≤ 300 := by rw [List.length_zip, List.length_map, hil, Nat.min_self, ← hlen]; exact h3
    have hun := hr.un
    refine call_setK AD (its.zip (ds.map f)) (I.ok.hd hc) hT ho (by rw [efst]) (fun p hp => ?_) kl (by omega) fun h' tk L hJ hg k => ?_
    · obtain ⟨b, hb, r1, r2⟩ := ent_of rv hlen hp
      obtain ⟨as, rr⟩ := Dp.reads I _ _ _ (dp_in hd hb) r1
      have := el b.2 (List.of_mem_zip hb).2 p.1 as rr
      rw [← r2] at this
      exact this
    · obtain ⟨nd, es, ep, t, hob, hes, hf, hb, hri, hl⟩ := out h' _ L hJ
      have sub : ∀ p ∈ L, p ∈ its.zip (ds.map f) := fun p hp => List.mem_of_mem_take (hg.sub p hp)
      obtain ⟨M, eM⟩ := choose_all (R := fun (p : Ent) (b : V × PyData) => b ∈ xs.zip ds ∧ RelV b.1 p.1 ∧ p.2 = f b.2) fun p hp => ent_of rv hlen (sub p hp)
      obtain ⟨m1, m2, m3⟩ := set_out eM
      have nM : (M.map (·.2)).Nodup := nodup_of_map (f := f) (m2 ▸ nd)
      refine ⟨.ref s.heap.objs.size, upd H s.heap.objs.size (SetV X.w s.heap.objs.size (M.map (·.1))), I.laid (t' := tk) k (Nat.le_refl _) (setV_ok hob (hes ▸ m1) hf hb hri hl), rfl, q _ (M.map (·.1)) (M.map (·.2)) (I.hok.fresh (Nat.le_refl _)) (by rw [List.length_map, List.length_map]) (fun p hp => ?_) nM fun d hd' => ?_⟩
      · rw [zip_same] at hp
        exact m3 p hp
      · have h1 : f d ∈ (its.zip (ds.map f)).map (·.2) := by
          rw [esnd]
          exact List.mem_map_of_mem hd'
        obtain ⟨p, hp, ep2⟩ := List.mem_map.mp h1
        have h2 : f d ∈ L.map (·.2) := by
          rw [← ep2]
          exact hg.all p (by rw [List.take_length]; exact hp)
        rw [← m2] at h2
        obtain ⟨e, he, ee⟩ := List.mem_map.mp h2
        obtain ⟨b, hbM, rfl⟩ := List.mem_map.mp he
        have hbd : b.2 ∈ ds := (List.of_mem_zip (m3 b hbM)).2
        rw [inj d hd' b.2 hbd ee.symm]
        exact he
  rcases hs with hs | hs
  · obtain ⟨its, rv, pl, hz⟩ := I.list hs
    obtain ⟨o, ho, hcl, n, hdt⟩ := pl.isList
    exact go "list" its o n rv (.inl rfl) ho hcl hdt
  · obtain ⟨its, rv, ⟨o, ho, hcl, n, hdt⟩, hz⟩ := I.tuple hs
    exact go "tuple" its o n rv (.inr rfl) ho hcl hdt
theorem cr_setD (hc : X.calm = true) (hr : Room 6 X.A) : CallR X (.type "set") (rSetD X.K X.w) := by
  intro pins s σ H vs us Q I r ⟨l, xs, ds, ev, hs, hd, hk, h3, q⟩
  subst ev
  rw [Vals.ref1 r]
  rcases hk with hk | hk
  · have hk := List.all_eq_true.mp hk
    refine set_run adds_flat hc hr I (f := nk1) hs hd (fun d h1 e h2 => nk1_inj (hk d h1) (hk e h2)) (fun d hd' u as rr => ?_) h3 (fun h a L ⟨es, ep, t, R⟩ => ⟨R.nd, es, ep, t, R.ob, ?_, R.fits, ?_, R.ris, R.led⟩) q
    · rcases flat_inv (hk d hd') with ⟨i, rfl⟩ | ⟨x, rfl⟩
      · cases rr
        exact ⟨.inl i, keyIs_int _ _, rfl⟩
      · cases rr
        exact ⟨.inr x, keyIs_str _ _, rfl⟩
    · rw [R.rows]
      unfold rws
      rw [List.map_map]
      rfl
    · have h1 := R.size
      have h2 := R.few
      unfold scanBound
      omega
  · have hk := List.all_eq_true.mp hk
    refine set_run adds_tup hc hr I (f := nk3) hs hd (fun d h1 e h2 => nk3_inj (hk d h1) (hk e h2)) (fun d hd' u as rr => ?_) h3 (fun h a L ⟨es, ep, t, R⟩ => ⟨R.nd, es, ep, t, R.ob, ?_, R.fits, ?_, R.tab.ris, R.led⟩) q
    · obtain ⟨h1, h2⟩ := reads_nk3 (hk d hd') rr
      exact ⟨h1, Nat.le_trans (dep3 d) (by decide), h2⟩
    · rw [R.rows]
      unfold rws
      rw [List.map_map]
      rfl
    · have h1 := R.size
      have h2 := R.few
      unfold scanBound
      omega
end
end NK
end

section
set_option Elab.async false
set_option linter.all false
set_option maxRecDepth 100000
set_option maxHeartbeats 4000000
namespace NK
open PySem PySem.Spec L2
open PyProof.Rows hiding St

section
variable {K : PySem.W.Frag} {w : World} {σ : L2.St} {S H : Hp} {te : TE}
theorem dp_zip {K : PySem.W.Frag} {H : Hp} : ∀ {vs : List V} {ds : List PyData}, DpAll K H vs ds → ∀ p ∈ vs.zip ds, Dp K H p.1 p.2
  | _, _, .nil, p, h => by simp at h
  | _, _, .cons a t, p, h => by
    rw [List.zip_cons_cons] at h
    rcases List.mem_cons.mp h with e | h
    · rw [e]; exact a
    · exact dp_zip t p h
theorem dp_of_zip {K : PySem.W.Frag} {H : Hp} : ∀ {vs : List V} {ds : List PyData}, vs.length = ds.length → (∀ p ∈ vs.zip ds, Dp K H p.1 p.2) → DpAll K H vs ds
  | [], [], _, _ => .nil
  | [], _ :: _, h, _ => by cases h
  | _ :: _, [], h, _ => by cases h
  | v :: vs, d :: ds, h, hp => .cons (hp (v, d) (by rw [List.zip_cons_cons]; exact List.mem_cons_self)) (dp_of_zip (Nat.succ.inj h) fun p q => hp p (by rw [List.zip_cons_cons]; exact List.mem_cons_of_mem _ q))
/-- a set of the data es -/
abbrev SetR' (K : PySem.W.Frag) (w : World) (ds : List PyData) : Rel := fun v S => ∃ a ws es, v = .ref a ∧ S a = some (SetV w a ws) ∧ DpAll K S ws es ∧ es.Nodup ∧ ∀ d, d ∈ es ↔ d ∈ ds
theorem g_set {ds : List PyData} {RR : Rel} (h : G te σ S RR) (hR : ∀ v S, RR v S → Dp K S v (.list ds) ∨ Dp K S v (.tuple ds)) (hd : ds.all flatD = true ∨ ds.all tupD = true) (hz : ds.length ≤ 300) : G (tCB (rSetD K w) (tCons te tNil)) σ S (SetR' K w ds) :=
  g_cb (ga_one h) fun vs S1 H1 _ c ⟨v, e, r⟩ Q q => by
    obtain ⟨a, xs, rfl, hs, hx⟩ : ∃ a xs, v = .ref a ∧ (SqL K S1 a xs ∨ SqT K S1 a xs) ∧ DpAll K S1 xs ds := by
      rcases hR v S1 r with z | z
      · obtain ⟨a, xs, e1, e2, e3⟩ := Dp.lstI z
        exact ⟨a, xs, e1, .inl e2, e3⟩
      · obtain ⟨a, xs, e1, e2, e3⟩ := Dp.tupI z
        exact ⟨a, xs, e1, .inr e2, e3⟩
    refine ⟨a, xs, ds, e, hs.imp (Same.sqL c) (Same.sqT c), DpAll.up c hx, hd, by rw [DpAll.len hx]; exact hz, fun p ws es hp hl hm hn ha => ?_⟩
    refine q _ _ _ (Gw.new c hp) ⟨p, ws, es, rfl, upd_same, dp_of_zip hl fun z hz' => Dp.up (Same.new (c.free hp)) (dp_zip hx z (hm z hz')), hn, fun d => ⟨fun hd' => ?_, ha d⟩⟩
    obtain ⟨i, hi, e1⟩ := List.getElem_of_mem hd'
    have hi' : i < ws.length := by rw [hl]; exact hi
    have := hm (ws[i], es[i]) (List.mem_of_getElem? (i := i) (by rw [List.getElem?_zip_eq_some]; exact ⟨List.getElem?_eq_getElem hi', List.getElem?_eq_getElem hi⟩))
    rw [← e1]
    exact (List.of_mem_zip this).2
/-- in order -/
def Asc (es : List PyData) : Prop := es.Pairwise fun x y => PySem.W.dataLe false id x y = true
theorem g_sortS {ds : List PyData} (h : G te σ S (SetR' K w ds)) (hal : ∀ d ∈ ds, ∀ d' ∈ ds, PySem.W.alike d d' = true) (hs : (∀ d, d ∈ ds → ∃ x r, d = .tuple (x :: r)) ∨ ∀ d, d ∈ ds → d ≠ .none ∧ ∀ xs, d ≠ .tuple xs) (hd : ∀ d ∈ ds, d.depth ≤ 8) :
    G (tCB (rSortS K w) (tCons te tNil)) σ S (fun v S => ∃ es, Dp K S v (.list es) ∧ es.Nodup ∧ (∀ d, d ∈ es ↔ d ∈ ds) ∧ Asc es) :=
  g_cb (ga_one h) fun vs S1 H1 _ c ⟨v, e, a, ws, es, hv, ha, hw, hn, hm⟩ Q q => by
    subst hv
    refine ⟨a, ws, es, e, c _ _ ha, DpAll.up c hw, fun d h1 d' h2 => hal d ((hm d).mp h1) d' ((hm d').mp h2), hs.imp (fun z d h1 => z d ((hm d).mp h1)) (fun z d h1 => z d ((hm d).mp h1)), fun d h1 => hd d ((hm d).mp h1), fun p ws' es' hp pm pw hl hz => ?_⟩
    exact q _ _ _ (Gw.new c hp) ⟨es', .lst (SqL.of upd_same) (dp_of_zip hl fun z hz' => Dp.up (Same.new (c.free hp)) (dp_zip hw z (hz z hz'))), pm.nodup_iff.mpr hn, fun d => (pm.mem_iff).trans (hm d), pw⟩
theorem g_sortS0 {ds : List PyData} (h : G te σ S (SetR' K w ds)) (hal : ∀ d ∈ ds, ∀ d' ∈ ds, PySem.W.alike d d' = true) (hs : (∀ d, d ∈ ds → ∃ x r, d = .tuple (x :: r)) ∨ ∀ d, d ∈ ds → d ≠ .none ∧ ∀ xs, d ≠ .tuple xs) (hd : ∀ d ∈ ds, d.depth ≤ 8) :
    G (tCB (rSortS K w) (tCons te tNil)) σ S (fun v S => ∃ es, (∃ p vs, v = V.ref p ∧ S p = some (.lst vs) ∧ DpAll K S vs es) ∧ es.Nodup ∧ (∀ d, d ∈ es ↔ d ∈ ds) ∧ Asc es) :=
  g_cb (ga_one h) fun vs S1 H1 _ c ⟨v, e, a, ws, es, hv, ha, hw, hn, hm⟩ Q q => by
    subst hv
    refine ⟨a, ws, es, e, c _ _ ha, DpAll.up c hw, fun d h1 d' h2 => hal d ((hm d).mp h1) d' ((hm d').mp h2), hs.imp (fun z d h1 => z d ((hm d).mp h1)) (fun z d h1 => z d ((hm d).mp h1)), fun d h1 => hd d ((hm d).mp h1), fun p ws' es' hp pm pw hl hz => ?_⟩
    exact q _ _ _ (Gw.new c hp) ⟨es', ⟨p, ws', rfl, upd_same, dp_of_zip hl fun z hz' => Dp.up (Same.new (c.free hp)) (dp_zip hw z (hz z hz'))⟩, pm.nodup_iff.mpr hn, fun d => (pm.mem_iff).trans (hm d), pw⟩
theorem g_sortL {ds : List PyData} (h : G te σ S (D K (.list ds))) (hal : ∀ d ∈ ds, ∀ d' ∈ ds, PySem.W.alike d d' = true) (hs : (∀ d, d ∈ ds → ∃ x r, d = .tuple (x :: r)) ∨ ∀ d, d ∈ ds → d ≠ .none ∧ ∀ xs, d ≠ .tuple xs) (hd : ∀ d ∈ ds, d.depth ≤ 8) :
    G (tCB (rSortL K) (tCons te tNil)) σ S (fun v S => ∃ es, Dp K S v (.list es) ∧ es.Perm ds ∧ Asc es) :=
  g_cb (ga_one h) fun vs S1 H1 _ c ⟨v, e, r⟩ Q q => by
    obtain ⟨a, ws, rfl, ha, hw⟩ := Dp.lstI r
    refine ⟨a, ws, ds, e, Same.sqL c ha, DpAll.up c hw, hal, hs, hd, fun p ws' es' hp pm pw hl hz => ?_⟩
    exact q _ _ _ (Gw.new c hp) ⟨es', .lst (SqL.of upd_same) (dp_of_zip hl fun z hz' => Dp.up (Same.new (c.free hp)) (dp_zip hw z (hz z hz'))), pm, pw⟩
theorem g_lenV {ds : List PyData} (h : G te σ S (SetR' K w ds)) : G (tCB (fun vs H Q => ∃ a ws, vs = [V.ref a] ∧ H a = some (SetV w a ws) ∧ Q (.int ws.length) H) (tCons te tNil)) σ S (fun v S => ∃ es : List PyData, v = .int es.length ∧ es.Nodup ∧ ∀ d, d ∈ es ↔ d ∈ ds) :=
  g_cb (ga_one h) fun vs S1 H1 _ c ⟨v, e, a, ws, es, hv, ha, hw, hn, hm⟩ Q q => by
    subst hv
    exact ⟨a, ws, e, c _ _ ha, q _ _ _ (.refl c) ⟨es, by rw [DpAll.len hw], hn, hm⟩⟩
end
end NK
end

section
set_option Elab.async false
set_option linter.all false
set_option maxRecDepth 100000
set_option maxHeartbeats 4000000
namespace NK
open PySem PySem.Spec L2
open PyProof.Rows hiding St

/-! ### arguments -/
abbrev A1 (R : Rel) : List V → Hp → Prop := fun vs S => ∃ v, vs = [v] ∧ R v S
abbrev A2 (R T : Rel) : List V → Hp → Prop := fun vs S => ∃ v w, vs = [v, w] ∧ R v S ∧ T w S
abbrev A3 (R T U : Rel) : List V → Hp → Prop := fun vs S => ∃ v w x, vs = [v, w, x] ∧ R v S ∧ T w S ∧ U x S
abbrev A4 (R T U W : Rel) : List V → Hp → Prop := fun vs S => ∃ v w x y, vs = [v, w, x, y] ∧ R v S ∧ T w S ∧ U x S ∧ W y S
section
variable {σ : L2.St} {S : Hp} {ta tb tc td : TE} {R T U W : Rel}
theorem ga_three (h : G ta σ S R) (u : Up R) (k : G tb σ S T) (v : Up T) (l : G tc σ S U) : GA (tCons ta (tCons tb (tCons tc tNil))) σ S (A3 R T U) := fun S1 H1 e b Q q =>
  h S1 H1 e b _ fun x S2 H2 e2 r => ga_two k v l S2 H2 (e.trans e2.ss) e2.sh _ fun ys S3 H3 e3 ⟨y, z, ey, r2, r3⟩ => q _ S3 H3 (e2.trans e3) ⟨x, y, z, by rw [ey], u _ _ _ e3.ss r, r2, r3⟩
theorem ga_four (h : G ta σ S R) (u : Up R) (k : G tb σ S T) (v : Up T) (l : G tc σ S U) (w : Up U) (m : G td σ S W) : GA (tCons ta (tCons tb (tCons tc (tCons td tNil)))) σ S (A4 R T U W) := fun S1 H1 e b Q q =>
  h S1 H1 e b _ fun x S2 H2 e2 r => ga_three k v l w m S2 H2 (e.trans e2.ss) e2.sh _ fun ys S3 H3 e3 ⟨y, z, z2, ey, r2, r3, r4⟩ => q _ S3 H3 (e2.trans e3) ⟨x, y, z, z2, by rw [ey], u _ _ _ e3.ss r, r2, r3, r4⟩
end
section
variable {σ : L2.St} {S0 H0 S H : Hp} {te : TE} {ts tz : TS} {tt : TT} {R : Rel} {E : Ends}
theorem s_retK (h : G te σ S R) (e : Gw S0 H0 S H) (k : ∀ v S1 H1, Gw S0 H0 S1 H1 → R v S1 → E.rt v H1) : tRet te E σ H := s_ret h e.sh fun v S1 H1 e1 r => k v S1 H1 (e.trans e1) r
/-- a test that fails: the rest goes on -/
theorem s_no (h : GT tt σ S false) (e : Gw S0 H0 S H) (k : ∀ S1 H1, Gw S0 H0 S1 H1 → Same S S1 → tz E σ H1) : tIfS tt ts tz E σ H := s_if h e.sh (fun z => by cases z) fun _ S1 H1 e1 => k S1 H1 (e.trans e1) e1.ss
theorem s_no0 (h : GT tt σ S false) (e : Gw S0 H0 S H) (k : ∀ S1 H1, Gw S0 H0 S1 H1 → Same S S1 → E.nx σ H1) : tIfS tt ts tNext E σ H := s_no h e k
theorem q_no {u : TS} (h : GT tt σ S false) (e : Gw S0 H0 S H) (k : ∀ S1 H1, Gw S0 H0 S1 H1 → Same S S1 → u E σ H1) : tSeq (tIfS tt ts tNext) u E σ H := s_no h e k
theorem q_set {u : TS} {i : Nat} (h : G te σ S R) (e : Gw S0 H0 S H) (k : ∀ v S1 H1, Gw S0 H0 S1 H1 → Same S S1 → R v S1 → u E (σ.set i (some v)) H1) : tSeq (tAsg te (gName i)) u E σ H := s_set h e.sh fun v S1 H1 e1 r => k v S1 H1 (e.trans e1) e1.ss r
theorem s_yes (h : GT tt σ S true) (e : Gw S0 H0 S H) (k : ∀ S1 H1, Gw S0 H0 S1 H1 → Same S S1 → ts E σ H1) : tIfS tt ts tz E σ H := s_if h e.sh (fun _ S1 H1 e1 => k S1 H1 (e.trans e1) e1.ss) fun z => by cases z
theorem s_setK {i : Nat} (h : G te σ S R) (e : Gw S0 H0 S H) (k : ∀ v S1 H1, Gw S0 H0 S1 H1 → Same S S1 → R v S1 → E.nx (σ.set i (some v)) H1) : tAsg te (gName i) E σ H := s_set h e.sh fun v S1 H1 e1 r => k v S1 H1 (e.trans e1) e1.ss r
end
/-! ### what the law's things are -/
/-- the names the law draws from -/
def menu : List Str := ["a", "b", "ab", "ba", "job", "view", "pin", "quay", "stock", "golfer", "exhumed", "zzzzzzzz"]
abbrev Qn := List Str × Str
abbrev encC (cs : List Str) : PyData := .tuple (cs.map .str)
abbrev encQ (q : Qn) : PyData := .tuple [encC q.1, .str q.2]
abbrev encP (p : Int × Int) : PyData := .tuple [.int p.1, .int p.2]
theorem eqv_str (a b : Str) : PyData.eqv (.str a) (.str b) = decide (a = b) := by
  simp only [PyData.eqv]
  by_cases h : a = b
  · subst h
    simp
  · rw [decide_eq_false h]
    exact beq_eq_false_iff_ne.mpr h
/-- the order of two texts -/
def ltS (a b : Str) : Prop := a.cps.toList < b.cps.toList
theorem str_ext {a b : Str} (h : a.cps.toList = b.cps.toList) : a = b := by
  cases a; cases b
  congr
  exact Array.toList_inj.mp h
theorem str_anti {a b : Str} (h1 : PySem.W.dataLe false id (PyData.str a) (.str b) = true) (h2 : PySem.W.dataLe false id (PyData.str b) (.str a) = true) : a = b := by
  have e1 : (!PySem.W.dataLt (.str b) (.str a)) = true := h1
  have e2 : (!PySem.W.dataLt (.str a) (.str b)) = true := h2
  rw [PySem.W.dataLt_str, Bool.not_eq_true', decide_eq_false_iff_not] at e1 e2
  exact str_ext (List.le_antisymm (List.not_lt.mp e1) (List.not_lt.mp e2))

section
variable {K : PySem.W.Frag} {w : World} {σ : L2.St} {S H : Hp} {ta tb te : TE} {R T : Rel}
theorem inV_str (c : Str) : ∀ cs : List Str, inV (.str c) (cs.map V.str) = decide (c ∈ cs)
  | [] => rfl
  | a :: cs => by
    have ih := inV_str c cs
    unfold inV at ih ⊢
    rw [List.map_cons, List.any_cons, ih]
    by_cases h : c = a
    · subst h
      simp [eqV]
    · have h2 : eqV (.str a) (.str c) = false := by simp [eqV]; exact fun e => h e.symm
      simp [h2, h]
theorem inV_int (c : Int) : ∀ cs : List Int, inV (.int c) (cs.map V.int) = decide (c ∈ cs)
  | [] => rfl
  | a :: cs => by
    have ih := inV_int c cs
    unfold inV at ih ⊢
    rw [List.map_cons, List.any_cons, ih]
    by_cases h : c = a
    · subst h
      simp [eqV]
    · have h2 : eqV (.int a) (.int c) = false := by simp [eqV]; exact fun e => h e.symm
      simp [h2, h]
theorem all_flatS (cs : List Str) : (cs.map V.str).all flatV = true := by simp [flatV]
theorem all_flatI (cs : List Int) : (cs.map V.int).all flatV = true := by simp [flatV]
/-- a row of texts, of ints -/
def SeqR (K : PySem.W.Frag) (ds : List PyData) : Rel := fun v S => Dp K S v (.list ds) ∨ Dp K S v (.tuple ds)
theorem g_seqT {ds : List PyData} (h : G te σ S (D K (.tuple ds))) : G te σ S (SeqR K ds) := h.imp fun _ _ _ r => .inr r
theorem g_seqL {ds : List PyData} (h : G te σ S (D K (.list ds))) : G te σ S (SeqR K ds) := h.imp fun _ _ _ r => .inl r
theorem seqR_at {ds : List PyData} {v : V} {S H : Hp} (c : Same S H) (r : SeqR K ds v S) : ∃ p xs, v = .ref p ∧ (SqL K H p xs ∨ SqT K H p xs) ∧ DpAll K S xs ds := by
  rcases r with r | r
  · obtain ⟨a, xs, rfl, h1, h2⟩ := Dp.lstI r
    exact ⟨a, xs, rfl, .inl (Same.sqL c h1), h2⟩
  · obtain ⟨a, xs, rfl, h1, h2⟩ := Dp.tupI r
    exact ⟨a, xs, rfl, .inr (Same.sqT c h1), h2⟩
theorem g_inS {c : Str} {cs : List Str} (ha : G ta σ S (Is (.str c))) (hb : G tb σ S (SeqR K (cs.map .str))) : G (tOp (rIn K false) ta tb) σ S (Is (.bl (decide (c ∈ cs)))) :=
  g_op ha .is hb fun x y S1 H1 _ c1 hx hy Q q => by
    obtain ⟨p, xs, e, h1, h2⟩ := seqR_at c1 hy
    obtain rfl := DpAll.strs h2
    subst hx
    refine ⟨p, _, e, h1, rfl, all_flatS _, ?_⟩
    rw [if_neg Bool.false_ne_true, inV_str]
    exact q _ S1 H1 (.refl c1) rfl
theorem g_notInS {c : Str} {cs : List Str} (ha : G ta σ S (Is (.str c))) (hb : G tb σ S (SeqR K (cs.map .str))) : G (tOp (rIn K true) ta tb) σ S (Is (.bl (!decide (c ∈ cs)))) :=
  g_op ha .is hb fun x y S1 H1 _ c1 hx hy Q q => by
    obtain ⟨p, xs, e, h1, h2⟩ := seqR_at c1 hy
    obtain rfl := DpAll.strs h2
    subst hx
    refine ⟨p, _, e, h1, rfl, all_flatS _, ?_⟩
    rw [if_pos rfl, inV_str]
    exact q _ S1 H1 (.refl c1) rfl
theorem g_notInI {c : Int} {cs : List Int} (ha : G ta σ S (Is (.int c))) (hb : G tb σ S (SeqR K (cs.map .int))) : G (tOp (rIn K true) ta tb) σ S (Is (.bl (!decide (c ∈ cs)))) :=
  g_op ha .is hb fun x y S1 H1 _ c1 hx hy Q q => by
    obtain ⟨p, xs, e, h1, h2⟩ := seqR_at c1 hy
    obtain rfl := DpAll.ints h2
    subst hx
    refine ⟨p, _, e, h1, rfl, all_flatI _, ?_⟩
    rw [if_pos rfl, inV_int]
    exact q _ S1 H1 (.refl c1) rfl
/-- a sign in a text -/
theorem g_inStr {a b : Str} (ha : G ta σ S (Is (.str a))) (hb : G tb σ S (Is (.str b))) : G (tOp (fun x y H Q => ∃ i j, x = .str i ∧ y = .str j ∧ Q (.bl (!(Builtin.Str.occurrences j i 0 j.length 1).isEmpty)) H) ta tb) σ S (Is (.bl (!(Builtin.Str.occurrences b a 0 b.length 1).isEmpty))) :=
  g_op ha .is hb fun x y S1 H1 _ c1 hx hy Q q => ⟨a, b, hx, hy, q _ S1 H1 (.refl c1) rfl⟩
/-- list(x) -/
theorem g_listOf {ds : List PyData} (h : G te σ S (SeqR K ds)) : G (tCB (fun xs H Q => ∃ p ys, xs = [.ref p] ∧ (SqL K H p ys ∨ SqT K H p ys) ∧ ∀ l, H l = none → Q (.ref l) (upd H l (.lst ys))) (tCons te tNil)) σ S (D K (.list ds)) :=
  g_cb (ga_one h) fun vs S1 H1 _ c ⟨v, e, r⟩ Q q => by
    obtain ⟨p, xs, rfl, h1, h2⟩ := seqR_at c r
    exact ⟨p, xs, e, h1, fun l hl => q _ _ _ (Gw.new c hl) (.lst (SqL.of upd_same) (dall_new h2 (c.free hl)))⟩
/-- tuple(x) -/
abbrev rTupOf (K : PySem.W.Frag) : List V → Hp → VK → Prop := fun xs H Q => ∃ p ys, xs = [.ref p] ∧ ((SqL K H p ys ∧ ∀ l, H l = none → Q (.ref l) (upd H l (.tup ys))) ∨ (SqT K H p ys ∧ Q (.ref p) H))
theorem g_tupOfL {ds : List PyData} (h : G te σ S (D K (.list ds))) : G (tCB (rTupOf K) (tCons te tNil)) σ S (D K (.tuple ds)) :=
  g_cb (ga_one h) fun vs S1 H1 _ c ⟨v, e, r⟩ Q q => by
    obtain ⟨a, xs, rfl, e2, h2⟩ := Dp.lstI r
    exact ⟨a, xs, e, .inl ⟨Same.sqL c e2, fun l hl => q _ _ _ (Gw.new c hl) (.tup (SqT.of upd_same) (dall_new h2 (c.free hl)))⟩⟩
theorem g_tupOfT {ds : List PyData} (h : G te σ S (D K (.tuple ds))) : G (tCB (rTupOf K) (tCons te tNil)) σ S (D K (.tuple ds)) :=
  g_cb (ga_one h) fun vs S1 H1 _ c ⟨v, e, r⟩ Q q => by
    obtain ⟨a, xs, rfl, e2, h2⟩ := Dp.tupI r
    exact ⟨a, xs, e, .inr ⟨Same.sqT c e2, q _ S1 H1 (.refl c) r⟩⟩
end

section
variable {K : PySem.W.Frag} {σ : L2.St} {S : Hp} {te : TE} {tt : TT} {α : Type} {xs : List α} {RI : α → Rel} {wi : TI} {vs : List Nat} {i j : Nat}
theorem g_all1 (f : α → Bool) (h : GI wi σ S xs RI) (hz : xs.length ≤ 100000) (turn : ∀ a x S1, Same S S1 → a ∈ xs → RI a x S1 → G te ((wipe σ vs).set i (some x)) S1 (Is (.bl (f a))))
    (hw : ∀ x, wipe ((wipe σ vs).set i (some x)) vs = wipe σ vs := by intro _; rfl) : G (tCB (rAll K) (tCons (tLc wi (gName i) tYes te vs) tNil)) σ S (Is (.bl (xs.all f))) := by
  have q := g_allC (K := K) (f := f) (g_lcA (RO := fun b => Is (.bl (f b))) id h (fun _ => .is) hz hw turn)
  rw [List.map_id] at q
  exact q
theorem g_any1 (f : α → Bool) (h : GI wi σ S xs RI) (hz : xs.length ≤ 100000) (turn : ∀ a x S1, Same S S1 → a ∈ xs → RI a x S1 → G te ((wipe σ vs).set i (some x)) S1 (Is (.bl (f a))))
    (hw : ∀ x, wipe ((wipe σ vs).set i (some x)) vs = wipe σ vs := by intro _; rfl) : G (tCB (rAny K) (tCons (tLc wi (gName i) tYes te vs) tNil)) σ S (Is (.bl (xs.any f))) := by
  have q := g_anyC (K := K) (f := f) (g_lcA (RO := fun b => Is (.bl (f b))) id h (fun _ => .is) hz hw turn)
  rw [List.map_id] at q
  exact q
theorem g_sum1 (f : α → Int) (h : GI wi σ S xs RI) (hz : xs.length ≤ 100000) (turn : ∀ a x S1, Same S S1 → a ∈ xs → RI a x S1 → G te ((wipe σ vs).set i (some x)) S1 (Is (.int (f a))))
    (hw : ∀ x, wipe ((wipe σ vs).set i (some x)) vs = wipe σ vs := by intro _; rfl) : G (tCB (rSum K) (tCons (tLc wi (gName i) tYes te vs) tNil)) σ S (Is (.int (xs.map f).sum)) := by
  have q := g_sumC (K := K) (f := f) (g_lcA (RO := fun b => Is (.int (f b))) id h (fun _ => .is) hz hw turn)
  rw [List.map_id] at q
  exact q
/-- [te for x in xs], a list of data -/
theorem g_map1 {β : Type} (o : α → β) (enc : β → PyData) (h : GI wi σ S xs RI) (hz : xs.length ≤ 100000) (turn : ∀ a x S1, Same S S1 → a ∈ xs → RI a x S1 → G te ((wipe σ vs).set i (some x)) S1 (D K (enc (o a))))
    (hw : ∀ x, wipe ((wipe σ vs).set i (some x)) vs = wipe σ vs := by intro _; rfl) : G (tLc wi (gName i) tYes te vs) σ S (D K (.list ((xs.map o).map enc))) :=
  g_lsD (g_lcA (RO := fun b => D K (enc b)) o h (fun _ => .d) hz hw turn)
/-- [te for x in xs if tt], a list of data -/
theorem g_sel1 {β : Type} (f : α → Bool) (o : α → β) (enc : β → PyData) (h : GI wi σ S xs RI) (hz : xs.length ≤ 100000)
    (turn : ∀ a x S1, Same S S1 → a ∈ xs → RI a x S1 → GT tt ((wipe σ vs).set i (some x)) S1 (f a) ∧ (f a = true → G te ((wipe σ vs).set i (some x)) S1 (D K (enc (o a)))))
    (hw : ∀ x, wipe ((wipe σ vs).set i (some x)) vs = wipe σ vs := by intro _; rfl) : G (tLc wi (gName i) tt te vs) σ S (D K (.list (((xs.filter f).map o).map enc))) :=
  g_lsD (g_lc1 (RO := fun b => D K (enc b)) f o h (fun _ => .d) hz hw turn)
theorem g_sel2 {β : Type} {d1 d2 : α → PyData} (f : α → Bool) (o : α → β) (enc : β → PyData) (h : GI wi σ S xs (fun a => D K (.tuple [d1 a, d2 a]))) (hz : xs.length ≤ 100000)
    (turn : ∀ a x y S1, Same S S1 → a ∈ xs → Dp K S1 x (d1 a) → Dp K S1 y (d2 a) → GT tt (((wipe σ vs).set i (some x)).set j (some y)) S1 (f a) ∧ (f a = true → G te (((wipe σ vs).set i (some x)).set j (some y)) S1 (D K (enc (o a)))))
    (hw : ∀ x y, wipe (((wipe σ vs).set i (some x)).set j (some y)) vs = wipe σ vs := by intro _ _; rfl) : G (tLc wi (gTup K 2 (gCons (gName i) (gCons (gName j) gNil))) tt te vs) σ S (D K (.list (((xs.filter f).map o).map enc))) :=
  g_lsD (g_lc2 (RO := fun b => D K (enc b)) f o h (fun _ => .d) hz hw turn)
theorem g_map2 {β : Type} {d1 d2 : α → PyData} (o : α → β) (enc : β → PyData) (h : GI wi σ S xs (fun a => D K (.tuple [d1 a, d2 a]))) (hz : xs.length ≤ 100000)
    (turn : ∀ a x y S1, Same S S1 → a ∈ xs → Dp K S1 x (d1 a) → Dp K S1 y (d2 a) → G te (((wipe σ vs).set i (some x)).set j (some y)) S1 (D K (enc (o a))))
    (hw : ∀ x y, wipe (((wipe σ vs).set i (some x)).set j (some y)) vs = wipe σ vs := by intro _ _; rfl) : G (tLc wi (gTup K 2 (gCons (gName i) (gCons (gName j) gNil))) tYes te vs) σ S (D K (.list ((xs.map o).map enc))) :=
  g_lsD (g_lcB (RO := fun b => D K (enc b)) o h (fun _ => .d) hz hw turn)
end

/-! ### the order of data -/
theorem perm_of_mem {α : Type} {l m : List α} (h1 : l.Nodup) (h2 : m.Nodup) (h : ∀ x, x ∈ l ↔ x ∈ m) : l.Perm m := (List.perm_ext_iff_of_nodup h1 h2).mpr h
theorem asc_uniq {l m : List PyData} (anti : ∀ a b, a ∈ l → b ∈ m → PySem.W.dataLe false id a b = true → PySem.W.dataLe false id b a = true → a = b) (h1 : Asc l) (h2 : Asc m) (p : l.Perm m) : l = m := List.Perm.eq_of_pairwise anti h1 h2 p
theorem nodup_map {α β : Type} {f : α → β} (inj : ∀ a b, f a = f b → a = b) {l : List α} (h : l.Nodup) : (l.map f).Nodup := by
  rw [List.nodup_iff_pairwise_ne] at h ⊢
  rw [List.pairwise_map]
  exact h.imp fun hne e => hne (inj _ _ e)
theorem str_inj (a b : Str) (h : PyData.str a = .str b) : a = b := by cases h; rfl
/-- texts in order -/
def AscS (cs : List Str) : Prop := Asc (cs.map .str)
theorem ascS_uniq {es : List PyData} {cs : List Str} (h1 : Asc es) (h2 : AscS cs) (hn : es.Nodup) (hc : cs.Nodup) (h : ∀ d, d ∈ es ↔ d ∈ cs.map PyData.str) : es = cs.map .str := by
  refine asc_uniq (fun a b ha hb e1 e2 => ?_) h1 h2 (perm_of_mem hn (nodup_map str_inj hc) h)
  obtain ⟨x, _, rfl⟩ := List.mem_map.mp ((h a).mp ha)
  obtain ⟨y, _, rfl⟩ := List.mem_map.mp hb
  rw [str_anti e1 e2]
/-- data without dicts, of few levels -/
def Flt (n : Nat) (d : PyData) : Prop := d.canLay0 = true ∧ d.depth ≤ n
theorem Flt.sh {n : Nat} {d : PyData} (h : Flt n d) (hn : n ≤ 64 := by decide) : SeqAt.shaped d = true := Bool.and_eq_true_iff.mpr ⟨h.1, decide_eq_true (Nat.le_trans h.2 hn)⟩
theorem flt_all {n : Nat} : ∀ {ds : List PyData}, (∀ d ∈ ds, Flt n d) → PyData.canLayAll0 ds = true ∧ PyData.depthAll ds ≤ n
  | [], _ => ⟨by simp only [PyData.canLayAll0], by simp [PyData.depthAll]⟩
  | d :: ds, h => by
    have ih := flt_all (ds := ds) fun x hx => h x (List.mem_cons_of_mem _ hx)
    have h1 := h d List.mem_cons_self
    refine ⟨?_, ?_⟩
    · simp only [PyData.canLayAll0, h1.1, ih.1, Bool.and_self]
    · simp only [PyData.depthAll]
      have := h1.2
      have := ih.2
      omega
theorem flt_tup {n : Nat} {ds : List PyData} (h : ∀ d ∈ ds, Flt n d) : Flt (n + 1) (.tuple ds) := by
  have q := flt_all h
  refine ⟨by simp only [PyData.canLay0, q.1], ?_⟩
  simp only [PyData.depth]
  have := q.2
  omega
theorem flt_lst {n : Nat} {ds : List PyData} (h : ∀ d ∈ ds, Flt n d) : Flt (n + 1) (.list ds) := by
  have q := flt_all h
  refine ⟨by simp only [PyData.canLay0, q.1], ?_⟩
  simp only [PyData.depth]
  have := q.2
  omega
theorem flt_int (i : Int) : Flt 1 (.int i) := ⟨by simp only [PyData.canLay0], by simp [PyData.depth]⟩
theorem flt_menu {c : Str} (h : c ∈ menu ∨ c = "") : Flt 1 (.str c) := by
  refine ⟨?_, by simp [PyData.depth]⟩
  have q : ∀ c ∈ ("" : Str) :: menu, (PyData.str c).canLay0 = true := by decide +kernel
  exact q c (by rcases h with h | h <;> simp [h])
theorem flt_strs {cs : List Str} (h : ∀ c ∈ cs, c ∈ menu) : ∀ d ∈ cs.map PyData.str, Flt 1 d := fun d hd => by
  obtain ⟨c, hc, rfl⟩ := List.mem_map.mp hd
  exact flt_menu (.inl (h c hc))
theorem Flt.mono {m n : Nat} {d : PyData} (h : Flt m d) (hn : m ≤ n) : Flt n d := ⟨h.1, Nat.le_trans h.2 hn⟩
theorem nodup_len {es ds : List PyData} (h1 : es.Nodup) (h2 : ds.Nodup) (h : ∀ d, d ∈ es ↔ d ∈ ds) : es.length = ds.length := (perm_of_mem h1 h2 h).length_eq
theorem eqvAll_self : ∀ cs : List Str, PyData.eqv (encC cs) (encC cs) = true := fun cs => by
  simp only [PyData.eqv]
  induction cs with
  | nil => rfl
  | cons a cs ih => simp [PyData.eqvAll, PyData.eqv] at ih ⊢; exact ih
theorem alike_str {cs : List Str} : ∀ d ∈ cs.map PyData.str, ∀ d' ∈ cs.map PyData.str, PySem.W.alike d d' = true := fun d h d' h' => by
  obtain ⟨x, _, rfl⟩ := List.mem_map.mp h
  obtain ⟨y, _, rfl⟩ := List.mem_map.mp h'
  rfl
theorem sortable_str {cs : List Str} : (∀ d, d ∈ cs.map PyData.str → ∃ x r, d = .tuple (x :: r)) ∨ ∀ d, d ∈ cs.map PyData.str → d ≠ .none ∧ ∀ xs, d ≠ .tuple xs := .inr fun d h => by
  obtain ⟨x, _, rfl⟩ := List.mem_map.mp h
  exact ⟨fun e => (by cases e), fun xs e => (by cases e)⟩
theorem flat_str {cs : List Str} : (cs.map PyData.str).all flatD = true := by
  rw [List.all_eq_true]
  intro d h
  obtain ⟨x, _, rfl⟩ := List.mem_map.mp h
  rfl
theorem depth_str {cs : List Str} : ∀ d ∈ cs.map PyData.str, d.depth ≤ 8 := fun d h => by
  obtain ⟨x, _, rfl⟩ := List.mem_map.mp h
  exact (by decide : (0 : Nat) ≤ 8)
end NK
end

section
set_option Elab.async false
set_option linter.all false
set_option maxRecDepth 100000
set_option maxHeartbeats 4000000
namespace NK
open PySem PySem.Spec L2
open PyProof.Rows hiding St
section
variable {X : Cx} {k : Nat} {pins : List (Addr × Obj)} {σ : L2.St} {H : Hp} {s : Shared}
/-- a call of a def from below, errors told as E -/
theorem run_in2 {f : Addr} {Q : VK} {E : Value → Shared → Prop} {us : List Value} {vs : List V} {sp : Sp} (F : FnR X.prog X.w X.K X.mg X.base CX0 k f sp) (hr : Room (k + 2) X.A) (I : Inv X pins σ H s) (r : Vals vs us) (h : sp vs H Q E0) :
    wpAny (model X.prog X.w) X.A.in1.in1 (call (.ref f) us) (EP X pins σ Q) E s := by
  refine wpAny_call (codeAny_mono (F X.A.in1.in1 X.stack s H us vs Q E0 hr.in1.in1 I.env0.in1.in1 r h) fun r s' hq => ?_)
  cases r with
  | error e => exact False.elim hq
  | ok fl =>
    cases fl with
    | ret u => exact I.after hq
    | next => exact False.elim hq
    | brk => exact False.elim hq
    | cont => exact False.elim hq
/-- the heap without the object at a -/
def wo (h : Heap) (a : Addr) : Heap := h.update a fun _ => { cls := .none, data := .freed }
theorem wo_none (h : Heap) (a : Addr) : (wo h a).get? a = none := by
  cases e : (wo h a).get? a with
  | none => rfl
  | some o =>
    obtain ⟨e1, e2⟩ := Heap.get?_some_iff.mp e
    unfold wo at e1
    rw [Heap.objs_update_self] at e1
    obtain ⟨x, _, rfl⟩ := Option.map_eq_some_iff.mp e1
    cases e2
theorem wo_ne (h : Heap) {a b : Addr} (n : b ≠ a) : (wo h a).get? b = h.get? b := Heap.get?_update_other h _ n.symm
section
variable {α : Type} {Ok : α → Prop} {enc key : α → PyData} {f : Addr}
theorem vals_snoc : ∀ {vs : List V} {us : List Value} {v : V} {u : Value}, Vals vs us → RelV v u → Vals (vs ++ [v]) (us ++ [u])
  | _, _, _, _, .nil, r => .cons r .nil
  | _, _, _, _, .cons a t, r => .cons a (vals_snoc t r)
/-- while the keys are made: the list at a empty, the keys so far at kS -/
structure KeyI (X : Cx) (pins : List (Addr × Obj)) (σ : L2.St) (H : Hp) (a kS : Addr) (e1 : Nat) (key : α → PyData) (done : List α) (s' : Shared) : Prop where
  ex : ∃ H' kA e vs, Inv X ((kS, seqObj "list" kA e) :: (a, seqObj "list" #[] e1) :: pins) σ H' s' ∧ Same H H' ∧ DpAll X.K H' vs (done.map key) ∧ Vals vs kA.toList
theorem key_turn (F : FnR X.prog X.w X.K X.mg X.base CX0 k f (Pu (fun (q : {q : α // Ok q}) => A1 (D X.K (enc q.1))) (fun q => D X.K (key q.1)))) (hr : Room (k + 2) X.A) {a kS : Addr} (hka : kS ≠ a) (fk : FpOk X pins H kS) (fa : FpOk X pins H a) {e1 : Nat} {done : List α} {q : α} (ok : Ok q) {v : V} {u : Value} (hv : Dp X.K H v (enc q)) (hu : RelV v u) {s' : Shared} (hz : done.length ≤ 1000) (J : KeyI X pins σ H a kS e1 key done s')
    {E E' : Value → Shared → Prop} :
    wpAny (model X.prog X.w) X.A.in1.in1 (call (.ref f) [u]) (fun r s2 => wpAny (model X.prog X.w) X.A.in1.in1 (Builtin.List.listUpdate (.ref kS) (·.push r)) (fun _ s3 => KeyI X pins σ H a kS e1 key (done ++ [q]) s3) E' s2) E s' := by
  obtain ⟨H', kA, e, vs, I, sm, hd, hvs⟩ := J.ex
  refine wpAny_mono (run_in2 (E := E) F hr I (.cons hu .nil) (Q := fun x H2 => Same H' H2 ∧ Dp X.K H2 x (key q)) ⟨⟨q, ok⟩, H', Same.refl _, ⟨v, rfl, Dp.up sm hv⟩, fun x S2 H2 g r => ⟨g.hh, Dp.up g.sh r⟩⟩) (fun r s2 hq => ?_) fun _ _ z => z
  obtain ⟨x, H2, I2, rx, sm2, dx⟩ := hq
  have pk := I2.pin (kS, seqObj "list" kA e) (List.mem_append_right _ List.mem_cons_self)
  have pa := I2.pin (a, seqObj "list" #[] e1) (List.mem_append_right _ (List.mem_cons_of_mem _ List.mem_cons_self))
  have hlen : kA.size ≤ 1000 := by
    have h1 := hvs.length
    have h2 := DpAll.len hd
    rw [List.length_map] at h2
    have h3 : kA.toList.length = kA.size := Array.length_toList
    omega
  refine listUpdate_at pk.1 rfl ?_ (by rw [sizeLine_eq]; omega) (by rw [Array.size_push, sizeLine_eq]; omega)
  have s1 := Heap.SameBut.update s2.heap kS (Obj.mapSeq (·.push r))
  obtain ⟨c2, hc2⟩ : ∃ c2, (s2.heap.update kS (Obj.mapSeq (·.push r))).get? kS = some (seqObj "list" (kA.push r) c2) := ⟨_, get?_update_seq pk.1 (·.push r)⟩
  have I3 : Inv X ((a, seqObj "list" #[] e1) :: pins) σ H2 s2 := I2.pins_of fun p hp => I2.pin p (List.mem_append_right _ (List.mem_cons_of_mem _ hp))
  have I4 : Inv X ((a, seqObj "list" #[] e1) :: pins) σ H2 { s2 with heap := s2.heap.update kS (Obj.mapSeq (·.push r)) } := I3.turned (t' := s2.toks) (fun b o hb e => (s1.2 b hb).trans e) pk.2.1 fk.2.1 fk.2.2.2.1 fk.2.2.2.2.1 fun p hp => by
    rcases List.mem_append.mp hp with z | z
    · exact fk.2.2.2.2.2 p (List.mem_append_left _ z)
    · rcases List.mem_cons.mp z with rfl | z
      · exact hka.symm
      · exact fk.2.2.2.2.2 p (List.mem_append_right _ z)
  have I5 : Inv X ((kS, seqObj "list" (kA.push r) c2) :: (a, seqObj "list" #[] e1) :: pins) σ H2 { s2 with heap := s2.heap.update kS (Obj.mapSeq (·.push r)) } := I4.pins_of fun p hp => by
    rcases List.mem_cons.mp hp with rfl | hp
    · exact ⟨hc2, pk.2.1, fk.2.1, fk.2.2.1, fun v z => nomatch z⟩
    · exact I4.pin p (List.mem_append_right _ hp)
  refine ⟨H2, kA.push r, c2, vs ++ [x], I5, sm.trans sm2, ?_, ?_⟩
  · rw [List.map_append]
    exact DpAll.app (DpAll.up sm2 hd) (.cons dx .nil)
  · rw [Array.toList_push]
    exact vals_snoc hvs rx
theorem each_dp (I : Inv X pins σ H s) : ∀ {vs : List V} {us : List Value} {ds : List PyData}, DpAll X.K H vs ds → Vals vs us → PySem.W.EachIs (fun v k => ∃ as, Reads s.heap v k as) us ds
  | _, _, _, .nil, .nil => .nil
  | _, _, _, .cons a t, .cons r u => .cons (Dp.reads I _ _ _ a r) (each_dp I t u)
theorem snd_zipA {β : Type} : ∀ {vs : List V} {ds : List β}, vs.length = ds.length → (vs.zip ds).map (·.2) = ds
  | [], [], _ => rfl
  | [], _ :: _, h => nomatch h
  | _ :: _, [], h => nomatch h
  | _ :: _, d :: _, h => congrArg (d :: ·) (snd_zipA (Nat.succ.inj h))
theorem each_valsA {β : Type} : ∀ {vs : List V} {us : List Value} {ds : List β}, Vals vs us → vs.length = ds.length → PySem.W.EachIs (fun (u : Value) (b : V × β) => RelV b.1 u) us (vs.zip ds)
  | [], _, _, .nil, _ => .nil
  | _ :: _, _, [], .cons _ _, h => nomatch h
  | _ :: _, _, _ :: _, .cons r t, h => .cons r (each_valsA t (Nat.succ.inj h))
theorem vals_eachA {β : Type} : ∀ {us : List Value} {bs : List (V × β)}, PySem.W.EachIs (fun (u : Value) (b : V × β) => RelV b.1 u) us bs → Vals (bs.map (·.1)) us
  | _, _, .nil => .nil
  | _, _, .cons r t => .cons r (vals_eachA t)
/-- sorted(xs, key=f) -/
theorem sort_by {fk : Addr} (F : FnR X.prog X.w X.K X.mg X.base CX0 k fk (Pu (fun (q : {q : α // Ok q}) => A1 (D X.K (enc q.1))) (fun q => D X.K (key q.1)))) (hr : Room (k + 3) X.A) (I : Inv X pins σ H s) {l : Addr} {ws : List V} {qs : List α} {Q : VK} (hs : SqL X.K H l ws) (hd : DpAll X.K H ws (qs.map enc)) (ok : ∀ q ∈ qs, Ok q) (hl : qs.length ≤ 1000)
    (hal : PySem.W.AllAlike (qs.map key)) (hsk : PySem.W.Sortable (qs.map key)) (hdp : ∀ q ∈ qs, (key q).depth ≤ 8)
    (q : ∀ (p : Addr) (ws' : List V) (H2 : Hp), (∀ b o, H b = some o → H2 b = some o) → H2 p = none → ws'.length = qs.length → (∀ z ∈ ws'.zip (qs.mergeSort (PySem.W.dataLe false key)), ∃ v ∈ ws.zip qs, z = v) → Q (.ref p) (upd H2 p (.lst ws'))) :
    wpAny (model X.prog X.w) X.A (call (.builtin "sorted") [.ref l] [(Str.ofString "key", .ref fk)]) (EP X pins σ Q) X.xe s := by
  obtain ⟨its, rv, pl, hz⟩ := I.list hs
  have hlen : ws.length = qs.length := (DpAll.len hd).trans (List.length_map ..)
  have hil : its.length = qs.length := rv.length.symm.trans hlen
  have hsz : its.length ≤ sizeLine := by rw [hil, sizeLine_eq]; omega
  refine PySem.W.sorted_of_sort pl.isList hsz (ksk_s1 _ _) (fun _ => ksk_l1 _ _) fun E' => ?_
  rw [ksk_t1]
  obtain ⟨a, ea⟩ : ∃ a, a = s.heap.objs.size + 1 := ⟨_, rfl⟩
  rw [← ea]
  have ho : (PySem.W.copyHeap s.heap its).get? a = some (seqObj "list" its.toArray 0) := ea ▸ PySem.W.copyHeap_at s.heap its
  have has : a < (PySem.W.copyHeap s.heap its).objs.size := Heap.lt_size ho
  obtain ⟨e1, ho1⟩ : ∃ e1, ((PySem.W.copyHeap s.heap its).update a (Obj.mapSeq fun _ => (#[] : Array Value))).get? a = some (seqObj "list" #[] e1) := ⟨_, get?_update_seq ho fun _ => #[]⟩
  unfold ksk_tree
  refine wpAny_bind (listItems_at ho rfl (wpAny_bind (listUpdate_at ho rfl ?_ (by rw [List.size_toArray]; exact hsz) (Nat.zero_le _))))
  refine wpAny_bind (seqEpoch_at ho1 rfl (wpAny_bind (wpAny_newTuple ?_ (show its.length ≤ _ from hsz))))
  refine wpAny_bind (wpAny_newList (wpAny_holding ?_) (Nat.zero_le _))
  obtain ⟨kS, ek⟩ : ∃ kS, kS = (((PySem.W.copyHeap s.heap its).update a (Obj.mapSeq fun _ => (#[] : Array Value))).push (seqObj "tuple" its.toArray 0)).objs.size := ⟨_, rfl⟩
  have hkz : kS = (PySem.W.copyHeap s.heap its).objs.size + 1 := by rw [ek, size_push', Heap.size_update]
  have hsa : s.heap.objs.size ≤ a := ea ▸ Nat.le_succ _
  have hak : a < kS := hkz ▸ Nat.lt_succ_of_lt has
  have nk : ((((PySem.W.copyHeap s.heap its).update a (Obj.mapSeq fun _ => (#[] : Array Value))).push (seqObj "tuple" its.toArray 0)).push (seqObj "list" #[] 0)).get? kS = some (seqObj "list" #[] 0) := ek ▸ Heap.get?_push_size _ rfl
  have na : ((((PySem.W.copyHeap s.heap its).update a (Obj.mapSeq fun _ => (#[] : Array Value))).push (seqObj "tuple" its.toArray 0)).push (seqObj "list" #[] 0)).get? a = some (seqObj "list" #[] e1) := Heap.get?_push_of_some _ (Heap.get?_push_of_some _ ho1)
  have old : ∀ b o, s.heap.get? b = some o → ((((PySem.W.copyHeap s.heap its).update a (Obj.mapSeq fun _ => (#[] : Array Value))).push (seqObj "tuple" its.toArray 0)).push (seqObj "list" #[] 0)).get? b = some o := fun b o e => ea ▸ PySem.W.sorting_copy_old e
  show wpAny _ _ (ksk_rest a (.ref fk) false its.toArray e1 (.ref (((PySem.W.copyHeap s.heap its).update a (Obj.mapSeq fun _ => (#[] : Array Value))).push (seqObj "tuple" its.toArray 0)).objs.size)) _ _ _
  rw [← ek]
  generalize (((PySem.W.copyHeap s.heap its).update a (Obj.mapSeq fun _ => (#[] : Array Value))).push (seqObj "tuple" its.toArray 0)).push (seqObj "list" #[] 0) = hB at nk na old ⊢
  have hka : kS ≠ a := Nat.ne_of_gt hak
  have fpk : FpOk X pins H kS := I.fpOk (Nat.le_trans hsa (Nat.le_of_lt hak)) (I.hok.fresh (Nat.le_trans hsa (Nat.le_of_lt hak)))
  have fpa : FpOk X pins H a := I.fpOk hsa (I.hok.fresh hsa)
  have I1 : Inv X pins σ H { s with heap := hB } := I.kept (t' := s.toks) old
  have J0 : KeyI X pins σ H a kS e1 key ([] : List α) { s with heap := hB } := ⟨H, #[], 0, [], I1.pins_of fun p hp => by
    rcases List.mem_cons.mp hp with rfl | hp
    · exact ⟨nk, fpk.1, fpk.2.1, fpk.2.2.1, fun v z => nomatch z⟩
    · rcases List.mem_cons.mp hp with rfl | hp
      · exact ⟨na, fpa.1, fpa.2.1, fpa.2.2.1, fun v z => nomatch z⟩
      · exact I1.pin p (List.mem_append_right _ hp), Same.refl _, .nil, .nil⟩
  unfold ksk_rest
  refine wpAny_bind (wpAny_rule ?_)
  rw [← Array.forIn_toList]
  refine wpAny_bind (ksk_fold (fun i s' => KeyI X pins σ H a kS e1 key (qs.take i) s') its 0 _ J0 (fun j x s' hx J => ?_) fun s' J => ?_)
  · rw [Nat.zero_add] at J ⊢
    have hj : j < its.length := (List.getElem?_eq_some_iff.mp hx).1
    have hq : qs[j]? = some qs[j] := List.getElem?_eq_getElem (hil ▸ hj)
    obtain ⟨v, hv, dv⟩ := DpAll.get' hd (show (qs.map enc)[j]? = some (enc qs[j]) by rw [List.getElem?_map, hq]; rfl)
    obtain ⟨u, hu, ru⟩ := rv.get hv
    obtain rfl := Option.some.inj (hu.symm.trans hx)
    refine wpAny_bind (wpAny_attempt (wpAny_mono (key_turn (E' := E') F (hr.mono (by omega)) hka fpk fpa (ok _ (List.getElem_mem _)) dv ru (by rw [List.length_take]; omega) J) (fun r s2 h2 => ?_) fun _ _ z => z))
    refine wpAny_bind (wpAny_mono h2 (fun _ s3 J3 => wpAny_pure ⟨rfl, ?_⟩) fun _ _ z => z)
    rw [take_succ' hq]
    exact J3
  · rw [Nat.zero_add, List.take_of_length_le (by omega)] at J
    obtain ⟨H', kA, e, vs, I2, sm, hd2, hvs⟩ := J.ex
    have pk := I2.pin (kS, seqObj "list" kA e) (List.mem_append_right _ List.mem_cons_self)
    have pa := I2.pin (a, seqObj "list" #[] e1) (List.mem_append_right _ (List.mem_cons_of_mem _ List.mem_cons_self))
    have I3 : Inv X pins σ H' s' := I2.pins_of fun p hp => I2.pin p (List.mem_append_right _ (List.mem_cons_of_mem _ (List.mem_cons_of_mem _ hp)))
    have hk2 : PySem.W.EachIs (fun v k => ∃ as, Reads s'.heap v k as) kA.toList (qs.map key) := each_dp I3 hd2 hvs
    have hks : kA.size = its.length := by
      have h1 := hk2.length
      rw [List.length_map, Array.length_toList] at h1
      omega
    have hdep : ∀ d, d ∈ qs.map key → X.A.in1.in1.units + d.depth < cLine := fun d hd' => by
      obtain ⟨z, hz', rfl⟩ := List.mem_map.mp hd'
      have h1 := hdp z hz'
      have h2 := hr.un
      show X.A.units + 1 + 1 + (key z).depth < cLine
      omega
    refine wpAny_bind (listItems_at pk.1 rfl ?_)
    refine PySem.W.keyH_end (κ := PySem.W.dataKind s'.heap (qs.map key)) (h₁ := wo s'.heap kS) (fun b o hb eb => ?_) (wo_none _ _) pk.1 pa.1 hka (PySem.W.SortsAt.data (s := s') hk2 hal hsk hdep) hks hsz fun h' tk c kp hc => ⟨rfl, ?_⟩
    · by_cases n : b = kS
      · subst n
        rw [wo_none] at eb
        cases eb
      · exact (wo_ne s'.heap n).symm.trans eb
    · have I4 : Inv X pins σ H' { s' with heap := wo s'.heap kS } := I3.turned (t' := s'.toks) (fun b o hb eb => (wo_ne s'.heap hb).trans eb) pk.2.1 fpk.2.1 fpk.2.2.2.1 fpk.2.2.2.2.1 fpk.2.2.2.2.2
      have I5 : Inv X pins σ H' { s' with heap := wo (wo s'.heap kS) a } := I4.turned (t' := s'.toks) (fun b o hb eb => (wo_ne (wo s'.heap kS) hb).trans eb) pa.2.1 fpa.2.1 fpa.2.2.2.1 fpa.2.2.2.2.1 fpa.2.2.2.2.2
      have emap : (ws.zip qs).map (fun b => key b.2) = qs.map key := by
        have := congrArg (List.map key) (snd_zipA hlen)
        rwa [List.map_map] at this
      have eR : PySem.W.EachIs (fun (u : Value) (b : V × α) => RelV b.1 u) its (ws.zip qs) := each_valsA rv hlen
      have ko : PySem.W.KeyedOut false ((ws.zip qs).map fun b => key b.2) its (PySem.W.sortVals (PySem.W.dataKind s'.heap (qs.map key)) false kA.toList its) := by
        rw [emap]
        exact ⟨s'.heap, kA.toList, hal, rfl, hk2⟩
      have eo := PySem.W.keyedOut_each (fun b => key b.2) ko eR
      have em : ((ws.zip qs).mergeSort (PySem.W.dataLe false fun b => key b.2)).map (·.2) = qs.mergeSort (PySem.W.dataLe false key) := by
        have q2 := List.map_mergeSort (r := PySem.W.dataLe false fun b : V × α => key b.2) (s := PySem.W.dataLe false key) (f := (·.2)) (l := ws.zip qs) (fun _ _ _ _ => rfl)
        rwa [snd_zipA hlen] at q2
      have pm := List.mergeSort_perm (ws.zip qs) (PySem.W.dataLe false fun b => key b.2)
      obtain ⟨B, eB⟩ : ∃ B, B = (ws.zip qs).mergeSort (PySem.W.dataLe false fun b => key b.2) := ⟨_, rfl⟩
      rw [← eB] at eo em pm
      have hBl : B.length = qs.length := by rw [pm.length_eq, List.length_zip, hlen, Nat.min_self]
      have hBs : (B.map (·.1)).length ≤ sizeLine := by rw [List.length_map, hBl, ← hil]; exact hsz
      refine ⟨.ref a, upd H' a (.lst (B.map (·.1))), I5.un (h' := h') (t' := tk) (Un.laidN (fun b o eb => ?_) (wo_none _ _) pa.2.1) (I5.hok.laidN (fun b o eb => ?_) pa.2.1 ⟨hBs, _, c, vals_eachA eo, hc⟩), rfl, q a (B.map (·.1)) H' sm pa.2.1 (by rw [List.length_map, hBl]) fun z hz' => ⟨z, ?_, rfl⟩⟩
      · have n : b ≠ a := fun n => by
          subst n
          rw [show ({ s' with heap := wo (wo s'.heap kS) b } : Shared).heap = wo (wo s'.heap kS) b from rfl, wo_none] at eb
          cases eb
        exact kp b o n ((wo_ne (wo s'.heap kS) n).symm.trans eb)
      · have n : b ≠ a := fun n => by
          subst n
          rw [show ({ s' with heap := wo (wo s'.heap kS) b } : Shared).heap = wo (wo s'.heap kS) b from rfl, wo_none] at eb
          cases eb
        exact kp b o n ((wo_ne (wo s'.heap kS) n).symm.trans eb)
      · rw [← em, zip_same] at hz'
        exact pm.mem_iff.mp hz'
end
end
end NK
end

section
set_option Elab.async false
set_option linter.all false
set_option maxRecDepth 100000
set_option maxHeartbeats 4000000
namespace NK
open PySem PySem.Spec L2
open PyProof.Rows hiding St
section
variable {K : PySem.W.Frag} {w : World} {σ : L2.St} {S0 H0 S H : Hp} {ta tb te : TE} {R T : Rel} {E : Ends} {tt : TT} {α β : Type} {xs : List α} {RI : α → Rel} {wi : TI} {g : TG}
/-- a list of data that is a list of its own -/
def L0 (K : PySem.W.Frag) (ds : List PyData) : Rel := fun v S => ∃ p vs, v = .ref p ∧ S p = some (.lst vs) ∧ DpAll K S vs ds
theorem up_l0 {ds : List PyData} : Up (L0 K ds) := fun v H H' e ⟨p, vs, h1, h2, h3⟩ => ⟨p, vs, h1, e _ _ h2, DpAll.up e h3⟩
theorem g_l0D {ds : List PyData} (h : G te σ S (L0 K ds)) : G te σ S (D K (.list ds)) := h.imp fun v S2 _ ⟨p, vs, h1, h2, h3⟩ => by
  subst h1
  exact .lst (SqL.of h2) h3
theorem g_lsL0 {ds : List β} {enc : β → PyData} (h : G te σ S (LsR (fun b => D K (enc b)) ds)) : G te σ S (L0 K (ds.map enc)) := h.imp fun v S2 _ ⟨p, vs, h1, h2, h3⟩ => ⟨p, vs, h1, h2, pr_d h3⟩
theorem g_lst0 {t : TA} {ds : List PyData} (h : GA t σ S (DA K ds)) (hz : ds.length ≤ 1000) : G (tLst t) σ S (L0 K ds) := fun S1 H1 e b Q q => h S1 H1 e b _ fun vs S2 H2 e2 r =>
  ⟨Nat.le_trans (by rw [DpAll.len r]; exact hz) (by decide), fun p hp => q _ _ _ (e2.trans (Gw.new e2.sh hp)) ⟨p, vs, rfl, upd_same, dall_new r (e2.sh.free hp)⟩⟩
/-- list + list -/
theorem g_cat {ds es : List PyData} (ha : G ta σ S (L0 K ds)) (hb : G tb σ S (L0 K es)) (hz : ds.length + es.length ≤ 1000) : G (tOp rCat ta tb) σ S (L0 K (ds ++ es)) :=
  g_op ha up_l0 hb fun x y S1 H1 _ c ⟨p, vs, e1, e2, e3⟩ ⟨p', ws, e4, e5, e6⟩ Q q => ⟨p, p', vs, ws, e1, e4, c _ _ e2, c _ _ e5, Nat.le_trans (by rw [DpAll.len e3, DpAll.len e6]; exact hz) (by decide),
    fun l hl => q _ _ _ (Gw.new c hl) ⟨l, vs ++ ws, rfl, upd_same, dall_new (DpAll.app e3 e6) (c.free hl)⟩⟩
/-- slices of lists -/
theorem sIx_some {n d i : Nat} : HT.sIx n d (some (i : Int)) = min i n := by
  show (if (i : Int) < 0 then ((i : Int) + (n : Int)).toNat else min (i : Int).toNat n) = _
  rw [if_neg (by omega), Int.toNat_natCast]
theorem cut_lo {xs : List V} {i : Nat} : cutV xs (some (i : Int)) none = xs.drop i := by
  unfold cutV
  rw [sIx_some]
  show List.take (xs.length - _) _ = _
  rcases Nat.le_total i xs.length with h | h
  · rw [Nat.min_eq_left h]
    exact List.take_of_length_le (by rw [List.length_drop]; omega)
  · rw [Nat.min_eq_right h, Nat.sub_self, List.take_zero, List.drop_eq_nil_of_le h]
theorem cut_hi {xs : List V} {i : Nat} : cutV xs none (some (i : Int)) = xs.take i := by
  unfold cutV
  rw [sIx_some]
  show List.take (_ - 0) (List.drop 0 xs) = _
  rw [Nat.sub_zero, List.drop_zero]
  rcases Nat.le_total i xs.length with h | h
  · rw [Nat.min_eq_left h]
  · rw [Nat.min_eq_right h, List.take_of_length_le (Nat.le_refl _), List.take_of_length_le h]
theorem g_slLo {ds : List PyData} {i : Nat} (ha : G ta σ S (D K (.list ds))) (hb : G tb σ S (Is (.int i))) : G (tSl (rSlL K) ta (tPart tb) tNoPart) σ S (L0 K (ds.drop i)) := fun S1 H1 e b Q q =>
  ha S1 H1 e b _ fun x S2 H2 e2 hx => hb S2 H2 (e.trans e2.ss) e2.sh _ fun y S3 H3 e3 hy => by
    obtain ⟨a, xs, rfl, h1, h2⟩ := Dp.lstI hx
    refine ⟨i, hy, a, xs, rfl, Same.sqL (e3.ss.trans e3.sh) h1, fun p hp => q _ _ _ ((e2.trans e3).trans (Gw.new e3.sh hp)) ⟨p, _, rfl, upd_same, ?_⟩⟩
    rw [cut_lo]
    exact dall_new (DpAll.drop i (DpAll.up e3.ss h2)) (e3.sh.free hp)
theorem g_slHi {ds : List PyData} {i : Nat} (ha : G ta σ S (D K (.list ds))) (hb : G tb σ S (Is (.int i))) : G (tSl (rSlL K) ta tNoPart (tPart tb)) σ S (L0 K (ds.take i)) := fun S1 H1 e b Q q =>
  ha S1 H1 e b _ fun x S2 H2 e2 hx => hb S2 H2 (e.trans e2.ss) e2.sh _ fun y S3 H3 e3 hy => by
    obtain ⟨a, xs, rfl, h1, h2⟩ := Dp.lstI hx
    refine ⟨i, hy, a, xs, rfl, Same.sqL (e3.ss.trans e3.sh) h1, fun p hp => q _ _ _ ((e2.trans e3).trans (Gw.new e3.sh hp)) ⟨p, _, rfl, upd_same, ?_⟩⟩
    rw [cut_hi]
    exact dall_new (DpAll.take i (DpAll.up e3.ss h2)) (e3.sh.free hp)
/-- *x in a display -/
theorem ga_star {t : TA} {ds es : List PyData} (h : G te σ S (SeqR K ds)) (ht : GA t σ S (DA K es)) : GA (StX.tStar K te t) σ S (DA K (ds ++ es)) := fun S1 H1 e b Q q =>
  h S1 H1 e b _ fun v S2 H2 e2 r => by
    obtain ⟨p, xs, e3, h1, h2⟩ := seqR_at e2.sh r
    exact ⟨p, xs, e3, h1.symm, ht S2 H2 (e.trans e2.ss) e2.sh _ fun ys S3 H3 e4 r3 => q _ S3 H3 (e2.trans e4) (DpAll.app (DpAll.up e4.ss h2) r3)⟩
/-- a field -/
theorem g_fld {C : Addr} {f : Str} (h : G te σ S R) (hc : Cls K C) (hn : NoAttr K C f) (hR : ∀ v S, R v S → ∃ a dx fs t, v = .ref a ∧ S a = some (.ins C dx fs) ∧ fs.lookup f = some t ∧ T t S) : G (tFld K te f) σ S T := fun S1 H1 e b Q q =>
  h S1 H1 e b _ fun v S2 H2 e2 r => by
    obtain ⟨a, dx, fs, t, e3, e4, e5, e6⟩ := hR v S2 r
    exact ⟨a, C, dx, fs, t, e3, e2.sh _ _ e4, hc, hn, e5, q t S2 H2 e2 e6⟩
/-- an instance with one field of data -/
def I1 (K : PySem.W.Frag) (C f : Str) (d : PyData) : Rel := fun v S => ∃ a dx t, v = .ref a ∧ S a = some (.ins (He.ga K C) dx [(f, t)]) ∧ Dp K S t d
theorem up_i1 {C f : Str} {d : PyData} : Up (I1 K C f d) := fun v H H' e ⟨a, dx, t, h1, h2, h3⟩ => ⟨a, dx, t, h1, e _ _ h2, Dp.up e h3⟩
theorem g_fld1 {C f : Str} {d : PyData} (h : G te σ S (I1 K C f d)) (hc : Cls K (He.ga K C)) (hn : NoAttr K (He.ga K C) f) : G (tFld K te f) σ S (D K d) :=
  g_fld h hc hn fun v S ⟨a, dx, t, h1, h2, h3⟩ => ⟨a, dx, _, t, h1, h2, by simp [List.lookup], h3⟩
abbrev AskedV (K : PySem.W.Frag) (qs : List Qn) : Rel := I1 K "Asked" "kept_questions" (.tuple (qs.map encQ))
abbrev ShelfV (K : PySem.W.Frag) (rs : List (List Str)) : Rel := I1 K "Shelf" "kept_indexes" (.tuple (rs.map encC))
/-- a method of an instance -/
theorem g_m0 {C m : Str} {α : Type} {A : α → Rel} {R : α → Rel} {a : α} (h : G te σ S (A a)) (hA : ∀ v S, A a v S → ∃ p dx fs, v = .ref p ∧ S p = some (.ins (He.ga K C) dx fs) ∧ fs.lookup m = none) : G (tM C m K (Pu (fun a => A1 (A a)) R) te tNil) σ S (R a) := fun S1 H1 e b Q q =>
  h S1 H1 e b _ fun v S2 H2 e2 r => by
    obtain ⟨p, dx, fs, e3, e4, e5⟩ := hA v S2 r
    exact ⟨p, dx, fs, e3, e2.sh _ _ e4, e5, a, S2, e2.sh, ⟨v, rfl, r⟩, fun v S3 H3 e3 rv => q v S3 H3 (e2.trans e3) rv⟩
theorem g_m1 {C m : Str} {α : Type} {A B : α → Rel} {R : α → Rel} {a : α} (h : G te σ S (A a)) (hA : ∀ v S, A a v S → ∃ p dx fs, v = .ref p ∧ S p = some (.ins (He.ga K C) dx fs) ∧ fs.lookup m = none) (u : Up (A a)) (hb : G tb σ S (B a)) :
    G (tM C m K (Pu (fun a => A2 (A a) (B a)) R) te (tCons tb tNil)) σ S (R a) := fun S1 H1 e b Q q =>
  h S1 H1 e b _ fun v S2 H2 e2 r => by
    obtain ⟨p, dx, fs, e3, e4, e5⟩ := hA v S2 r
    exact ⟨p, dx, fs, e3, e2.sh _ _ e4, e5, ga_one hb S2 H2 (e.trans e2.ss) e2.sh _ fun vs S3 H3 e6 ⟨y, ey, ry⟩ => ⟨a, S3, e6.sh, ⟨v, y, by rw [ey], u _ _ _ e6.ss r, ry⟩, fun v S4 H4 e7 rv => q v S4 H4 ((e2.trans e6).trans e7) rv⟩⟩
theorem i1_at {C f m : Str} {d : PyData} (hm : (m == f) = false := by decide) : ∀ v S, I1 K C f d v S → ∃ p dx fs, v = .ref p ∧ S p = some (.ins (He.ga K C) dx fs) ∧ fs.lookup m = none := fun v S ⟨a, dx, t, h1, h2, h3⟩ => ⟨a, dx, _, h1, h2, by
  rw [List.lookup_cons, hm]
  rfl⟩
/-- C(..): the promise of the __init__ that sets one field -/
def spMk1 {α : Type} (K : PySem.W.Frag) (C f : Str) (A : α → List V → Hp → Prop) (d : α → PyData) : Sp := fun vs H Q _ => ∃ a x dx us S, vs = .ref x :: us ∧ H x = some (.ins (He.ga K C) dx []) ∧ S x = none ∧ Same S H ∧ A a us S ∧
  ∀ S' H' t, Gw S H S' H' → S' x = none → Dp K S' t (d a) → Q .non (upd H' x (.ins (He.ga K C) dx [(f, t)]))
theorem g_mk1 {C f : Str} {α : Type} {A : α → List V → Hp → Prop} {d : α → PyData} {t : TA} {a : α} (h : GA t σ S (A a)) (hu : ∀ vs S S', Same S S' → A a vs S → A a vs S') : G (StX.tMakeR (He.ga K C) (spMk1 K C f A d) E0 t) σ S (I1 K C f (d a)) := fun S1 H1 e b Q q =>
  h S1 H1 e b _ fun vs S2 H2 e2 r x dx hx hdx ne => by
    have b2 : Same S2 (upd (upd H2 dx (.own x)) x (.ins (He.ga K C) dx [])) := Same.wr (Same.wr e2.sh (e2.sh.free hdx)) (e2.sh.free hx)
    refine ⟨a, x, dx, vs, S2, rfl, upd_same, e2.sh.free hx, b2, r, fun S' H' t g hs hd => ⟨rfl, ?_⟩⟩
    have hH : H' x = some (.ins (He.ga K C) dx []) := g.hh _ _ upd_same
    have g0 : Gw S2 H2 S' H' := by
      refine ⟨g.ss, fun p o hp => g.hh p o ?_, g.sh, fun p o hp => g.old p o ?_⟩
      · have n1 : p ≠ x := ne_of_none hp hx
        have n2 : p ≠ dx := ne_of_none hp hdx
        rw [upd_ne n1, upd_ne n2]
        exact hp
      · have n1 : p ≠ x := ne_of_none hp hx
        have n2 : p ≠ dx := ne_of_none hp hdx
        rw [upd_ne n1, upd_ne n2]
        exact hp
    have g1 := (g0.wr (o := .ins (He.ga K C) dx [(f, t)]) hx hs)
    have g2 := g1.frz hx hs upd_same
    refine q (.ref x) _ _ (e2.trans g2) ⟨x, dx, t, rfl, upd_same, Dp.up (Same.new hs) hd⟩
/-- x, y = a pair -/
theorem q_unp {u : TS} {i j : Nat} {d1 d2 : PyData} (h : G te σ S (D K (.tuple [d1, d2]))) (e : Gw S0 H0 S H) (k : ∀ x y S1 H1, Gw S0 H0 S1 H1 → Same S S1 → Dp K S1 x d1 → Dp K S1 y d2 → u E ((σ.set i (some x)).set j (some y)) H1) :
    tSeq (tAsg te (gTup K 2 (gCons (gName i) (gCons (gName j) gNil)))) u E σ H := h S H (Same.refl S) e.sh _ fun v S1 H1 e1 r => by
  obtain ⟨p, ys, rfl, hp, hd⟩ := Dp.tupI r
  obtain ⟨y1, y2, rfl, h1, h2⟩ := DpAll.two hd
  exact ⟨p, [y1, y2], rfl, Same.sqT e1.sh hp, rfl, y1, [y2], rfl, y2, [], rfl, rfl, k y1 y2 S1 H1 (e.trans e1) e1.ss h1 h2⟩
/-- a pair taken apart -/
theorem g_un2 {i j : Nat} {d1 d2 : PyData} {x : V} {k : L2.St → Hp → Prop} (hx : Dp K S x (.tuple [d1, d2])) (b : Same S H) (h : ∀ y z, Dp K S y d1 → Dp K S z d2 → k ((σ.set i (some y)).set j (some z)) H) :
    gTup K 2 (gCons (gName i) (gCons (gName j) gNil)) x σ H k := by
  obtain ⟨p, ys, rfl, hp, hd⟩ := Dp.tupI hx
  obtain ⟨y1, y2, rfl, h1, h2⟩ := DpAll.two hd
  exact ⟨p, [y1, y2], rfl, Same.sqT b hp, rfl, y1, [y2], rfl, y2, [], rfl, rfl, h y1 y2 h1 h2⟩
theorem q_yes {u ts tz : TS} (h : GT tt σ S true) (e : Gw S0 H0 S H) (k : ∀ S1 H1, Gw S0 H0 S1 H1 → Same S S1 → ts { E with nx := u E } σ H1) : tSeq (tIfS tt ts tz) u E σ H := s_yes h e k
theorem g_isN {b : Bool} (h : G te σ S R) (hR : ∀ v S, R v S → decide (v = .non) = b) : G (tIsN te) σ S (Is (.bl b)) := fun S1 H1 e c Q q => h S1 H1 e c _ fun v S2 H2 e2 r => q _ S2 H2 e2 (by rw [hR v S2 r])
theorem g_notN {b : Bool} (h : G te σ S R) (hR : ∀ v S, R v S → decide (v = .non) = b) : G (tNotN te) σ S (Is (.bl (!b))) := fun S1 H1 e c Q q => h S1 H1 e c _ fun v S2 H2 e2 r => q _ S2 H2 e2 (by rw [hR v S2 r])
/-- loops -/
theorem q_for {u tb' : TS} (h : GI wi σ S xs RI) (b : Same S H)
    (k : ∀ S1 H1, Gw S H S1 H1 → ∃ Pv : Nat → L2.St → Hp → Hp → Prop, Pv 0 σ S1 H1 ∧ (∀ i σ' S' H', Pv i σ' S' H' → Same S1 S' ∧ Same S' H') ∧
      (∀ i a x σ' S0 H0 S' H', xs[i]? = some a → Pv i σ' S0 H0 → Gw S0 H0 S' H' → RI a x S' → g x σ' H' fun σ2 H2 => tb' { E with nx := fun σ3 H3 => ∃ S3, Pv (i + 1) σ3 S3 H3, bk := u E, ct := fun σ3 H3 => ∃ S3, Pv (i + 1) σ3 S3 H3 } σ2 H2) ∧
      ∀ σ' S' H', Pv xs.length σ' S' H' → u E σ' H') : tSeq (tFor wi g tb') u E σ H := s_for (E := { E with nx := u E }) h b k
end
section
variable {X : Cx} {K : PySem.W.Frag} {e tg : Expr} {te : TE} {f : Str} {pos : Pos}
theorem pe_fldK (he : PE X e te) (hK : X.K = K := by rfl) (hb : attributeBase e f X.env (eval e X.env) = eval e X.env := by rfl) : PE X (.Attribute e f pos) (tFld K te f) := hK ▸ pe_fld he hb
theorem pg_tupK {es : List Expr} {kk : Nat} {t : TGs} {n : Nat} (hc : X.calm = true) (h : PGs X es t) (hK : X.K = K := by rfl) (hn : (assignEach es X.env).length = n := by rfl) (hst : (assignEach es X.env).findIdx? (·.1) = none := by rfl) : PG X (.Tuple es kk pos) (gTup K n t) := hK ▸ pg_tup hc h hn hst
theorem pe_m0K {o : Expr} {ta : TE} {apos : Pos} {k : Nat} {C m : Str} {sp : Sp} {pl : Sem Bool} (F : CalM X.prog X.w X.K X.mg X.base k C m sp) (hr : Room k X.A) (he : PE X o ta) (hK : X.K = K := by rfl)
    (ht : eval (.Call (.Attribute o m apos) [] [] pos) X.env = (do
      let ov ← eval o X.env
      standAt apos.atName
      let (f, first) ← holding [ov] (getMethod ov m pl)
      callWith pos f first (backTo pos (starEach [] X.env)) (backToKw pos (keywordEach [] X.env))) := by rfl) : PE X (.Call (.Attribute o m apos) [] [] pos) (tM C m K sp ta tNil) := hK ▸ pe_m0 F hr he ht
theorem pe_mK {o e : Expr} {es : List Expr} {ta : TE} {t : TA} {apos : Pos} {k : Nat} {C m : Str} {sp : Sp} {pl : Sem Bool} (F : CalM X.prog X.w X.K X.mg X.base k C m sp) (hr : Room k X.A) (he : PE X o ta) (ha : PA X (e :: es) t) (hK : X.K = K := by rfl)
    (hst : starEach (e :: es) X.env = (false, eval e X.env) :: starEach es X.env := by rfl) (hpl : (backTo pos (starEach es X.env)).any (·.1) = false := by rfl)
    (ht : eval (.Call (.Attribute o m apos) (e :: es) [] pos) X.env = (do
      let ov ← eval o X.env
      standAt apos.atName
      let (f, first) ← holding [ov] (getMethod ov m pl)
      callWith pos f first (backTo pos (starEach (e :: es) X.env)) (backToKw pos (keywordEach [] X.env))) := by rfl) : PE X (.Call (.Attribute o m apos) (e :: es) [] pos) (tM C m K sp ta t) := hK ▸ pe_m F hr he ha hst hpl ht
theorem pi_listK {l : Expr} (h : PE X l te) (hK : X.K = K := by rfl) : PI X tg l (iList K te) := hK ▸ pi_list h
theorem pi_tupK {l : Expr} (h : PE X l te) (hK : X.K = K := by rfl) : PI X tg l (iTup K te) := hK ▸ pi_tup h
end
end NK
end

section
set_option Elab.async false
set_option linter.all false
set_option maxRecDepth 100000
set_option maxHeartbeats 4000000
namespace NK
open PySem PySem.Spec L2
open PyProof.Rows hiding St
def del (S : Hp) (l : Addr) : Hp := fun b => if b = l then Option.none else S b
section
variable {K : PySem.W.Frag} {w : World} {σ : L2.St} {S0 H0 S H S1 H1 : Hp} {ta tb te : TE} {R T : Rel} {E : Ends} {tt : TT} {α β : Type} {xs : List α} {RI : α → Rel} {RO : β → Rel} {wi : TI} {g : TG} {l : Addr} {o : HO} {u : TS} {vs : List Nat}
theorem del_ne {b : Addr} (h : b ≠ l) : del S l b = S b := if_neg h
theorem del_same : del S l l = Option.none := if_pos rfl
/-- what may change is held for a while -/
theorem Gw.lent (g : Gw (upd S l o) H S1 H1) (hs : S l = Option.none) : Gw S H (del S1 l) H1 := by
  refine ⟨fun b u h => ?_, g.hh, fun b u h => ?_, fun b u h => ?_⟩
  · have n : b ≠ l := ne_of_none h hs
    rw [del_ne n]
    exact g.ss b u (by rw [upd_ne n]; exact h)
  · by_cases n : b = l
    · subst n
      rw [del_same] at h
      cases h
    · rw [del_ne n] at h
      exact g.sh b u h
  · by_cases n : b = l
    · subst n
      rw [del_same, hs]
    · rw [del_ne n, g.old b u h, upd_ne n]
theorem lend (b : Same S H) (hl : H l = some o) : Same (upd S l o) H := fun a u h => by
  by_cases n : a = l
  · subst n
    rw [upd_same] at h
    rw [hl]
    exact h
  · rw [upd_ne n] at h
    exact b a u h
theorem GT.lent {c : Bool} (h : GT tt σ (upd S l o) c) (s : Same S S1) (b : Same S1 H1) (hl : H1 l = some o) (hs : S1 l = none) {Q : Bool → Hp → Prop} (k : ∀ S2 H2, Gw S1 H1 S2 H2 → S2 l = none → Q c H2) : tt σ H1 Q :=
  h (upd S1 l o) H1 (upd_mono s) (lend b hl) Q fun S2 H2 g => k _ H2 (g.lent hs) del_same
/-- a comprehension at a heap at which l holds o for now -/
theorem lc_at {Q : VK} (f : α → Bool) (oo : α → β) (b : Same S H) (hl : H l = some o) (hs : S l = none) (h : GI wi σ S xs RI) (uo : ∀ b, Up (RO b)) (hz : xs.length ≤ 100000)
    (turn : ∀ a x S1 H1, Same S S1 → Same S1 H1 → S1 l = none → a ∈ xs → RI a x S1 → ∀ Q : L2.St → Hp → Prop, (∀ σ2 S2 H2, Gw S1 H1 S2 H2 → wipe σ2 vs = wipe σ vs → GT tt σ2 (upd S2 l o) (f a) → (f a = true → G te σ2 S2 (RO (oo a))) → Q σ2 H2) → g x (wipe σ vs) H1 Q)
    (k : ∀ v S1 H1, Gw S H S1 H1 → (∃ p ws, v = .ref p ∧ p ≠ l ∧ S1 p = some (.lst ws) ∧ Paired (fun x b => RO b x S1) ws ((xs.filter f).map oo)) → Q v H1) : tLc wi g tt te vs σ H Q := h S H (Same.refl S) b _ fun J S1 H1 e1 w => fun L hL => by
  have hLS : S1 L = none := e1.sh.free hL
  have hlH : H1 l = some o := e1.hh _ _ hl
  have hlS : S1 l = none := e1.none hs hl
  have hLl : L ≠ l := fun e => by
    rw [e, hlH] at hL
    cases hL
  refine lc_it w (fun i H' => ∃ S' acc, Gw S1 H1 S' H' ∧ S' L = none ∧ H' L = some (.lst acc) ∧ acc.length ≤ i ∧ Paired (fun x b => RO b x S') acc (((xs.take i).filter f).map oo)) ?_ ?_ ?_ ?_
  · exact ⟨S1, [], Gw.mut e1.sh hL, hLS, upd_same, Nat.le_refl _, .nil⟩
  · rintro i H' _ ⟨S', acc, g1, _⟩
    exact g1.ss.trans g1.sh
  · rintro i x H2 H3 hi ⟨S2, acc, g1, hs', hacc, hln, pr⟩ hy
    obtain ⟨S3, g2, a, ha, ri⟩ := hy S2 g1.ss g1.sh
    have hs3 : S3 L = none := g2.none hs' hacc
    refine turn a x S3 H3 (e1.ss.trans (g1.ss.trans g2.ss)) g2.sh ((g1.trans g2).none hlS hlH) (List.mem_of_getElem? ha) ri _ fun σ2 S4 H4 g3 hw ht he => ⟨hw, ht.lent (Same.refl _) g3.sh ((((g1.trans g2).trans g3).hh) _ _ hlH) (((g1.trans g2).trans g3).none hlS hlH) fun S5 H5 g4 _ => ?_⟩
    have hacc5 : H5 L = some (.lst acc) := g4.hh _ _ (g3.hh _ _ (g2.hh _ _ hacc))
    have hs5 : S5 L = none := g4.none (g3.none hs3 (g2.hh _ _ hacc)) (g3.hh _ _ (g2.hh _ _ hacc))
    have g25 : Gw S2 H2 S5 H5 := (g2.trans g3).trans g4
    cases hf : f a with
    | true =>
      show te σ2 H5 _
      refine he hf S5 H5 g4.ss g4.sh _ fun y S6 H6 g5 ry => ⟨acc, g5.hh _ _ hacc5, Nat.lt_of_le_of_lt hln (Nat.lt_of_lt_of_le (Nat.lt_of_lt_of_le hi hz) (by decide)), ?_⟩
      have hs6 : S6 L = none := g5.none hs5 hacc5
      refine ⟨S6, _, ((g1.trans g25).trans g5).wr hL hs6, hs6, upd_same, ?_, ?_⟩
      · rw [List.length_append]
        simp only [List.length_singleton]
        omega
      · rw [take_succ' ha, List.filter_append, List.map_append]
        have e1' : ([a].filter f).map oo = [oo a] := by simp [hf]
        rw [e1']
        exact paired_app (Paired.mapP pr fun z b r => uo b _ _ _ (g25.trans g5).ss r) ry
    | false =>
      show ∃ _, _
      refine ⟨S5, acc, g1.trans g25, hs5, hacc5, by omega, ?_⟩
      rw [take_succ' ha, List.filter_append, List.map_append]
      have e1' : ([a].filter f).map oo = [] := by simp [hf]
      rw [e1', List.append_nil]
      exact Paired.mapP pr fun z b r => uo b _ _ _ g25.ss r
  · rintro H' ⟨S', acc, g1, hs', hacc, hln, pr⟩
    rw [List.take_length] at pr
    have g2 := g1.frz hL hs' hacc
    exact k _ _ H' (e1.trans g2) ⟨L, acc, rfl, hLl, upd_same, Paired.mapP pr fun z b r => uo b _ _ _ (Same.new hs') r⟩
theorem q_lcAt {i : Nat} (f : α → Bool) (oo : α → β) (b : Same S H) (hl : H l = some o) (hs : S l = none) (h : GI wi σ S xs RI) (uo : ∀ b, Up (RO b)) (hz : xs.length ≤ 100000)
    (turn : ∀ a x S1 H1, Same S S1 → Same S1 H1 → S1 l = none → a ∈ xs → RI a x S1 → ∀ Q : L2.St → Hp → Prop, (∀ σ2 S2 H2, Gw S1 H1 S2 H2 → wipe σ2 vs = wipe σ vs → GT tt σ2 (upd S2 l o) (f a) → (f a = true → G te σ2 S2 (RO (oo a))) → Q σ2 H2) → g x (wipe σ vs) H1 Q)
    (k : ∀ v S1 H1, Gw S H S1 H1 → (∃ p ws, v = .ref p ∧ p ≠ l ∧ S1 p = some (.lst ws) ∧ Paired (fun x b => RO b x S1) ws ((xs.filter f).map oo)) → u E (σ.set i (some v)) H1) : tSeq (tAsg (tLc wi g tt te vs) (gName i)) u E σ H :=
  lc_at f oo b hl hs h uo hz turn k
theorem Gw.chg {H2 : Hp} {r : Addr} (g : Gw S H S1 H1) (h : H r = Option.none) (hs : S1 r = Option.none) (hb : ∀ b, b ≠ r → H2 b = H1 b) : Gw S H S1 H2 :=
  ⟨g.ss, fun b u e => (hb b (ne_of_none e h)).trans (g.hh b u e), fun b u e => (hb b (ne_of_none e hs)).trans (g.sh b u e), g.old⟩
/-- x = [e] if c else [] -/
theorem q_opt {i : Nat} {c : Bool} (ht : GT tt σ S c) (h : G te σ S R) (b : Same S H) (k : ∀ r S1 H1 ws, Gw S H S1 H1 → H1 r = none → (c = true → ∃ v, ws = [v] ∧ R v S1) → (c = false → ws = []) → u E (σ.set i (some (.ref r))) (upd H1 r (.lst ws))) :
    tSeq (tAsg (tIf tt (tLst (tCons te tNil)) (tLst tNil)) (gName i)) u E σ H := ht S H (Same.refl S) b _ fun S1 H1 e1 => by
  cases c with
  | true => exact h S1 H1 e1.ss e1.sh _ fun v S2 H2 e2 r => ⟨(show 1 ≤ sizeLine by decide), fun p hp => k p S2 H2 [v] (e1.trans e2) hp (fun _ => ⟨v, rfl, r⟩) fun z => by cases z⟩
  | false => exact ⟨Nat.zero_le _, fun p hp => k p S1 H1 [] e1 hp (fun z => by cases z) fun _ => rfl⟩
theorem q_app {i : Nat} {ys : List V} (hl : σ[i]? = some (some (.ref l))) (h : G te σ S R) (b : Same S H) (hL : H l = some (.lst ys)) (hz : ys.length < 100000)
    (k : ∀ v S1 H1, Gw S H S1 H1 → R v S1 → u E σ (upd H1 l (.lst (ys ++ [v])))) : tSeq (tDrop (tBM K "list" rAppend (tVar i) (tCons te tNil))) u E σ H := s_app (E := { E with nx := u E }) hl h b hL hz k
/-- if c: l.append(e) -/
theorem q_appIf {i : Nat} {c : Bool} {ys : List V} (ht : GT tt σ S c) (hl : σ[i]? = some (some (.ref l))) (h : G te σ S R) (b : Same S H) (hL : H l = some (.lst ys)) (hz : ys.length < 100000)
    (k : ∀ S1 H1 ws, Gw S H S1 H1 → H1 l = some (.lst ys) → (c = true → ∃ v, ws = ys ++ [v] ∧ R v S1) → (c = false → ws = ys) → ∀ H2, (∀ b, b ≠ l → H2 b = H1 b) → H2 l = some (.lst ws) → u E σ H2) :
    tSeq (tIfS tt (tDrop (tBM K "list" rAppend (tVar i) (tCons te tNil))) tNext) u E σ H := ht S H (Same.refl S) b _ fun S1 H1 e1 => by
  cases c with
  | true => exact s_app (E := { E with nx := u E }) hl (h.up e1.ss) e1.sh (e1.hh _ _ hL) hz fun v S2 H2 e2 r => k S2 H2 _ (e1.trans e2) (e2.hh _ _ (e1.hh _ _ hL)) (fun _ => ⟨v, rfl, r⟩) (fun z => by cases z) _ (fun b hb => upd_ne hb) upd_same
  | false => exact k S1 H1 ys e1 (e1.hh _ _ hL) (fun z => by cases z) (fun _ => rfl) H1 (fun _ _ => rfl) (e1.hh _ _ hL)
theorem q_ext {i : Nat} {ys : List V} {ds : List PyData} (hl : σ[i]? = some (some (.ref l))) (h : G te σ S (L0 K ds)) (b : Same S H) (hL : H l = some (.lst ys)) (hz : ys.length + ds.length ≤ 100000)
    (k : ∀ ws S1 H1, Gw S H S1 H1 → DpAll K S1 ws ds → u E σ (upd H1 l (.lst (ys ++ ws)))) : tSeq (tDrop (tBM K "list" rExtend (tVar i) (tCons te tNil))) u E σ H :=
  ⟨.ref l, hl, .inl ⟨rfl, ys, SqL.of hL⟩, h S H (Same.refl S) b _ fun v S1 H1 e ⟨p, ws, e1, e2, e3⟩ => ⟨l, p, ys, ws, rfl, by rw [e1], e.hh _ _ hL, e.sh _ _ e2, Nat.le_trans (by rw [DpAll.len e3]; exact hz) (by decide), k ws S1 H1 e e3⟩⟩
/-- l.extend(e), the list in slot i -/
theorem s_ext {i : Nat} {ys : List V} {ds : List PyData} (hl : σ[i]? = some (some (.ref l))) (h : G te σ S (L0 K ds)) (b : Same S H) (hL : H l = some (.lst ys)) (hz : ys.length + ds.length ≤ 100000)
    (k : ∀ ws S1 H1, Gw S H S1 H1 → DpAll K S1 ws ds → E.nx σ (upd H1 l (.lst (ys ++ ws)))) : tDrop (tBM K "list" rExtend (tVar i) (tCons te tNil)) E σ H :=
  ⟨.ref l, hl, .inl ⟨rfl, ys, SqL.of hL⟩, h S H (Same.refl S) b _ fun v S1 H1 e ⟨p, ws, e1, e2, e3⟩ => ⟨l, p, ys, ws, rfl, by rw [e1], e.hh _ _ hL, e.sh _ _ e2, Nat.le_trans (by rw [DpAll.len e3]; exact hz) (by decide), k ws S1 H1 e e3⟩⟩
/-- x, y = [], [] by a tuple -/
theorem q_new2 {i j : Nat} (k : ∀ p q H1, p ≠ q → H p = none → H q = none → (∀ b u, H b = some u → H1 b = some u) → H1 p = some (.lst []) → H1 q = some (.lst []) → u E ((σ.set i (some (.ref p))).set j (some (.ref q))) H1) :
    tSeq (tAsg (tTup (tCons (tLst tNil) (tCons (tLst tNil) tNil))) (gTup K 2 (gCons (gName i) (gCons (gName j) gNil)))) u E σ H :=
  ⟨Nat.zero_le _, fun p hp => ⟨Nat.zero_le _, fun q hq => ⟨(show 2 ≤ sizeLine by decide), fun t ht => by
    have npq : p ≠ q := fun e => by
      subst e
      rw [upd_same] at hq
      cases hq
    have hq' : H q = none := by rw [upd_ne npq.symm] at hq; exact hq
    have ntq : q ≠ t := fun e => by
      subst e
      rw [upd_same] at ht
      cases ht
    have ntp : p ≠ t := fun e => by
      subst e
      rw [upd_ne npq, upd_same] at ht
      cases ht
    refine ⟨t, [.ref p, .ref q], rfl, SqT.of upd_same, rfl, .ref p, [.ref q], rfl, .ref q, [], rfl, rfl, k p q _ npq hp hq' (fun b v hb => ?_) ?_ ?_⟩
    · have n1 : b ≠ p := ne_of_none hb hp
      have n2 : b ≠ q := ne_of_none hb hq'
      have h3 : upd (upd H p (.lst [])) q (.lst []) b = some v := by rw [upd_ne n2, upd_ne n1]; exact hb
      rw [upd_ne (ne_of_none h3 ht)]
      exact h3
    · rw [upd_ne ntp, upd_ne npq, upd_same]
    · rw [upd_ne ntq, upd_same]⟩⟩⟩
theorem gi_lsR {bs : List β} (h : G te σ S (LsR RO bs)) (uo : ∀ b, Up (RO b)) : GI (iList K te) σ S bs RO := fun S1 H1 e b R q => h S1 H1 e b _ fun v S2 H2 e2 ⟨p, ws, e3, e4, e5⟩ => by
  refine ⟨p, e3, ⟨ws, SqL.of (e2.sh _ _ e4)⟩, q _ S2 H2 e2 ?_⟩
  have w := walk_list (K := K) (a := p) (xs := ws)
  rw [paired_len e5] at w
  refine w.mono (fun H' e' => SqL.of (e' _ _ e4)) fun i H x H' hi eG ⟨e6, hx⟩ S' s1 s2 => ?_
  subst e6
  have : ∀ {ws : List V} {bs : List β} {i : Nat}, Paired (fun x b => RO b x S2) ws bs → ws[i]? = some x → ∃ b, bs[i]? = some b ∧ RO b x S2 := fun {ws bs i} hp => by
    induction hp generalizing i with
    | nil => intro h; simp at h
    | cons a t ih =>
      intro h
      cases i with
      | zero =>
        have h := Option.some.inj h
        subst h
        exact ⟨_, rfl, a⟩
      | succ i => exact ih h
  obtain ⟨d, e7, e8⟩ := this e5 hx
  exact ⟨S', .refl s2, d, e7, uo d _ _ _ s1 e8⟩
end
end NK
end

section
set_option Elab.async false
set_option linter.all false
set_option maxRecDepth 100000
set_option maxHeartbeats 4000000
namespace NK
open PySem PySem.Spec L2
open PyProof.Rows hiding St
section
variable {K : PySem.W.Frag} {w : World} {σ : L2.St} {S : Hp} {α β : Type} {xs : List α} {RI : α → Rel} {RO : β → Rel} {wi wi1 : TI} {vs vs1 : List Nat}
/-- self.f = e, at the end of __init__ -/
theorem s_fset {C f : Str} {x : Addr} {dx : Addr} {d : PyData} {te : TE} {H S0 H0 : Hp} {E : Ends} {i : Nat} (hi : σ[i]? = some (some (.ref x))) (h : G te σ S (D K d)) (e : Gw S0 H0 S H) (hx : H x = some (.ins (He.ga K C) dx [])) (hs : S x = none) (hc : Cls K (He.ga K C)) (hn : NoAttr K (He.ga K C) f)
    (k : ∀ S' H' t, Gw S0 H0 S' H' → S' x = none → Dp K S' t d → E.nx σ (upd H' x (.ins (He.ga K C) dx [(f, t)]))) : sFld K (tVar i) te f E σ H :=
  h S H (Same.refl S) e.sh _ fun v S1 H1 e1 r => ⟨.ref x, hi, x, _, dx, [], rfl, e1.hh _ _ hx, hc, hn, by decide, k S1 H1 v (e.trans e1) (e1.none hs hx) r⟩
theorem kit_self {C : Addr} : PySem.W.kitOne K (.ref C) (.ref C) = some true := by simp [PySem.W.kitOne]
/-- the items of a list of the data enc a -/
theorem gi_listE {te : TE} {enc : α → PyData} (h : G te σ S (D K (.list (xs.map enc)))) : GI (iList K te) σ S xs (fun a => D K (enc a)) := fun S1 H1 e b R q => gi_list h S1 H1 e b R fun J S2 H2 e2 w => q J S2 H2 e2 (by
  unfold Wk at w ⊢
  rw [List.length_map] at w
  refine w.mono (fun _ z => z) fun i H x H' hi eG hy S' s1 s2 => ?_
  obtain ⟨S3, g, d, h1, h2⟩ := hy S' s1 s2
  rw [List.getElem?_map] at h1
  cases h3 : xs[i]? with
  | none => rw [h3] at h1; cases h1
  | some a =>
    rw [h3] at h1
    have h1 := Option.some.inj h1
    subst h1
    exact ⟨S3, g, a, rfl, h2⟩)
theorem gi_tupE {te : TE} {enc : α → PyData} (h : G te σ S (D K (.tuple (xs.map enc)))) : GI (iTup K te) σ S xs (fun a => D K (enc a)) := fun S1 H1 e b R q => gi_tup h S1 H1 e b R fun J S2 H2 e2 w => q J S2 H2 e2 (by
  unfold Wk at w ⊢
  rw [List.length_map] at w
  refine w.mono (fun _ z => z) fun i H x H' hi eG hy S' s1 s2 => ?_
  obtain ⟨S3, g, d, h1, h2⟩ := hy S' s1 s2
  rw [List.getElem?_map] at h1
  cases h3 : xs[i]? with
  | none => rw [h3] at h1; cases h1
  | some a =>
    rw [h3] at h1
    have h1 := Option.some.inj h1
    subst h1
    exact ⟨S3, g, a, rfl, h2⟩)
/-- [y for x in xs for y in x] -/
theorem g_lcN {i j : Nat} (ys : α → List β) (h : GI wi σ S xs RI) (uo : ∀ b, Up (RO b)) (hz : (xs.map ys).flatten.length ≤ 100000)
    (hi : ∀ a x S1, Same S S1 → a ∈ xs → RI a x S1 → GI wi1 ((wipe σ vs).set i (some x)) S1 (ys a) RO)
    (hw : ∀ x, wipe ((wipe σ vs).set i (some x)) vs = wipe σ vs := by intro _; rfl) (hw1 : ∀ x y, wipe ((wipe ((wipe σ vs).set i (some x)) vs1).set j (some y)) vs1 = wipe ((wipe σ vs).set i (some x)) vs1 := by intro _ _; rfl)
    (hj : ∀ x y, ((wipe ((wipe σ vs).set i (some x)) vs1).set j (some y))[j]? = some (some y) := by intro _ _; rfl) :
    G (tLc2 wi (gName i) tYes wi1 (gName j) tYes (tVar j) vs vs1) σ S (LsR RO (xs.map ys).flatten) := fun S0 H0 e0 b0 Q q => h S0 H0 e0 b0 _ fun J S1 H1 e1 w L hL => by
  have hLS : S1 L = none := e1.sh.free hL
  have key : ∀ (l m : List α), l ++ m = xs → ((l.map ys).flatten).length ≤ 100000 := fun l m e => by
    subst e
    rw [List.map_append, List.flatten_append, List.length_append] at hz
    omega
  refine ⟨fun i' m H' => m = xs.length - i' ∧ i' ≤ xs.length ∧ ∃ S' acc, Gw S1 H1 S' H' ∧ S' L = none ∧ H' L = some (.lst acc) ∧ Paired (fun x b => RO b x S') acc ((xs.take i').map ys).flatten, ⟨_, rfl, Nat.zero_le _, S1, [], Gw.mut e1.sh hL, hLS, upd_same, .nil⟩, ?_⟩
  rintro i' m H2 ⟨rfl, hi', S2, acc, g1, hs, hacc, pr⟩
  by_cases hlt : i' < xs.length
  · refine .inr ⟨w.goes i' H2 hlt (g1.ss.trans g1.sh), fun H' => i' + 1 ≤ xs.length ∧ ∃ S' acc, Gw S1 H1 S' H' ∧ S' L = none ∧ H' L = some (.lst acc) ∧ Paired (fun x b => RO b x S') acc ((xs.take (i' + 1)).map ys).flatten, fun H' p => ⟨xs.length - (i' + 1), by omega, rfl, p.1, p.2⟩, fun x H3 hy => ?_⟩
    obtain ⟨S3, g2, a, ha, ri⟩ := w.yields i' H2 x H3 hlt (g1.ss.trans g1.sh) hy S2 g1.ss g1.sh
    have hs3 : S3 L = none := g2.none hs hacc
    refine ⟨hw x, ?_⟩
    show wi1 _ H3 _
    refine hi a x S3 ((e0.trans e1.ss).trans (g1.ss.trans g2.ss)) (List.mem_of_getElem? ha) ri S3 H3 (Same.refl _) g2.sh _ fun J1 S4 H4 g3 w1 => ?_
    have etk : xs.take (i' + 1) = xs.take i' ++ [a] := take_succ' ha
    have hfl : ((xs.take (i' + 1)).map ys).flatten = ((xs.take i').map ys).flatten ++ ys a := by rw [etk, List.map_append, List.flatten_append]; simp
    have hbd : ((xs.take i').map ys).flatten.length + (ys a).length ≤ 100000 := by
      have := key (xs.take (i' + 1)) (xs.drop (i' + 1)) (List.take_append_drop _ _)
      rw [hfl, List.length_append] at this
      exact this
    have g4 : Gw S1 H1 S4 H4 := (g1.trans g2).trans g3
    have hs4 : S4 L = none := g3.none hs3 (g2.hh _ _ hacc)
    have hacc4 : H4 L = some (.lst acc) := g3.hh _ _ (g2.hh _ _ hacc)
    have pr4 : Paired (fun x b => RO b x S4) acc ((xs.take i').map ys).flatten := Paired.mapP pr fun z b r => uo b _ _ _ (g2.ss.trans g3.ss) r
    refine ⟨fun j' m H' => m = (ys a).length - j' ∧ j' ≤ (ys a).length ∧ ∃ S' acc, (Gw S1 H1 S' H' ∧ Same S4 S') ∧ S' L = none ∧ H' L = some (.lst acc) ∧ Paired (fun x b => RO b x S') acc (((xs.take i').map ys).flatten ++ (ys a).take j'), ⟨_, rfl, Nat.zero_le _, S4, acc, ⟨g4, Same.refl _⟩, hs4, hacc4, by rw [List.take_zero, List.append_nil]; exact pr4⟩, ?_⟩
    rintro j' m H5 ⟨rfl, hj', S5, acc5, ⟨g5, s5⟩, hs5, hacc5, pr5⟩
    by_cases hlt2 : j' < (ys a).length
    · refine .inr ⟨w1.goes j' H5 hlt2 (s5.trans g5.sh), fun H' => j' + 1 ≤ (ys a).length ∧ ∃ S' acc, (Gw S1 H1 S' H' ∧ Same S4 S') ∧ S' L = none ∧ H' L = some (.lst acc) ∧ Paired (fun x b => RO b x S') acc (((xs.take i').map ys).flatten ++ (ys a).take (j' + 1)), fun H' p => ⟨(ys a).length - (j' + 1), by omega, rfl, p.1, p.2⟩, fun y H6 hy => ?_⟩
      obtain ⟨S6, g6, b, hb, rb⟩ := w1.yields j' H5 y H6 hlt2 (s5.trans g5.sh) hy S5 s5 g5.sh
      refine ⟨hw1 x y, ?_⟩
      unfold tYes
      refine iteT ?_
      unfold tVar
      refine ⟨y, hj x y, acc5, g6.hh _ _ hacc5, ?_, by omega, S6, acc5 ++ [y], ⟨(g5.trans g6).wr hL (g6.none hs5 hacc5), s5.trans g6.ss⟩, g6.none hs5 hacc5, upd_same, ?_⟩
      · have h1 := paired_len pr5
        rw [List.length_append, List.length_take] at h1
        exact Nat.lt_of_lt_of_le (by omega : acc5.length < 100001) (by decide)
      · rw [take_succ' hb, ← List.append_assoc]
        exact paired_app (Paired.mapP pr5 fun z b r => uo b _ _ _ g6.ss r) rb
    · have e : j' = (ys a).length := by omega
      subst e
      rw [List.take_length] at pr5
      refine .inl ⟨w1.stops H5 (s5.trans g5.sh), hlt, S5, acc5, g5, hs5, hacc5, ?_⟩
      rw [hfl]
      exact pr5
  · have e : i' = xs.length := by omega
    subst e
    rw [List.take_length] at pr
    have g2 := g1.frz hL hs hacc
    exact .inl ⟨w.stops H2 (g1.ss.trans g1.sh), q _ _ H2 (e1.trans g2) ⟨L, acc, rfl, upd_same, Paired.mapP pr fun z b r => uo b _ _ _ (Same.new hs) r⟩⟩
end
end NK
end

section
set_option Elab.async false
set_option linter.all false
set_option maxRecDepth 100000
set_option maxHeartbeats 4000000
namespace NK
open PySem PySem.Spec L2
open PyProof.Rows hiding St

/-! ### iterators of tuples; own iteration -/
/-- at it a tuple's iterator, at its beginning -/
def ItT (t it : Addr) : HO := .ext fun h => h.IsTupleIter it t 0
theorem itT_ok {P : Program} {w : World} {H : Hp} {h : Heap} {t it : Addr} (e : h.IsTupleIter it t 0) : ObjOk P w H h it (ItT t it) := ⟨e, let ⟨o, ho, _⟩ := e; ⟨o, ho⟩, fun _ _ q k => q.at k⟩
abbrev rIterT (K : PySem.W.Frag) (n : Nat) : List V → Hp → VK → Prop := fun xs H Q => ∃ (t : Addr) (zs : List V), xs = [.ref t] ∧ SqT K H t zs ∧ ∀ it, H it = none → n ≤ it → Q (.ref it) (upd H it (ItT t it))
section
variable {X : Cx}
theorem cr_iterT : CallR X (.builtin "iter") (rIterT X.K X.s_0.heap.objs.size) := by
  intro pins s σ H xs us Q I r h
  obtain ⟨t, zs, rfl, hq, q⟩ := h
  obtain ⟨u, rfl, ru⟩ := vals1 r
  cases ru
  obtain ⟨its, rv, pl, hz⟩ := I.tuple hq
  refine Calls.call_function_entry (by decide +kernel) (by decide +kernel) PySem.W.kdk_entry_iter (PySem.W.kdk_args_iter _) ?_
  unfold Builtin.«iter»
  refine wpAny_bind (m := someArgs "iter" 1 2 _) (wpAny_of_eq (a := [Value.ref t]) (by first | rfl | kernel_rfl!) ?_)
  show wpAny _ _ (pyIter (.ref t) >>= _) _ _ _
  refine wpAny_bind (wpAny_pyIter_tuple (show s.heap.IsTuple t its.toArray from pl) ?_)
  exact wpAny_pure ⟨_, rfl, .ref s.heap.objs.size, _, I.laid (t' := s.toks) (fun b u e => Heap.get?_push_of_some _ e) (Nat.le_refl _) (itT_ok ⟨_, Heap.get?_push_size _ rfl, rfl, rfl⟩), rfl, q _ (I.hok.fresh (Nat.le_refl _)) I.sz⟩
end
section
variable {P : Program} {w : World} {K : PySem.W.Frag} {mg : Str → Option Value} {base : Heap} {k : Nat}
/-- a def of the text, called from this very state -/
theorem call_here {name qual : Str} {params : Arguments} {body : List Stmt} {scope : Scope} {N ps : List Str} {f : Addr} {fd : FuncData} (F : FunD K name qual params body scope [] [] f fd) (S : FnScope N ps scope)
    {A : Around} {outer : List Env} {s : Shared} {H : Hp} {us : List Value} {vs : List V} {Q : VK} {E : XK} (hr : Room (k + 1) A) (e0 : Env0 P w K mg base A outer s H)
    (hb : ∀ (kV doc pm : Value) (an : Option Addr) (cdv ct : Value) (us : List Value), us.length = ps.length → bindArgs (PySem.W.fnOf name qual params body scope .none kV doc pm an cdv ct) ⟨us, []⟩ = pure (ps.zip us)) (r : Vals vs us) (hl : vs.length = ps.length)
    (hbody : ∀ cdv, Room k (A.deeper (envOfC qual scope s.heap.objs.size f cdv)) → ∃ t, PSs (cxOf CX0 P w K mg base N qual scope f cdv A outer s H E) body t ∧ t { nx := fun _ H' => Q .non H', rt := Q } (start N vs) H) :
    codeAny (model P w) A (.call (.ref f) ⟨us, []⟩) (CR CX0 outer P w H s Q E) s := by
  have hbt := FunD.bindsA F hb s us (r.length.symm.trans hl)
  obtain ⟨oc, od, dV, kV, doc, pm, an, cdv, ct, osl, rfl, lk, hcd, _, _⟩ := F.ex
  have inHeap : K.In s.heap := e0.mod.kin.keeps fun b o e => (e0.bs b o e).1
  have places : ∀ z ∈ ps.zip us, scope.names.lookup z.1 = some .local ∨ (scope.names.lookup z.1 = some .cell ∧ ((cellsFrom (s.heap.objs.size + 1) scope.names []).lookup z.1).isSome = true) := fun z hz =>
    (S.par z.1 (List.of_mem_zip (a := z.1) (b := z.2) hz).1).imp id fun q => ⟨q, PySem.W.cellsFrom_some _ _ _ (.inl q)⟩
  refine codeAny_call_function hr.depth (inHeap _ _ lk) rfl S.co S.gen rfl (PySem.W.codeRec_of inHeap hcd) (hbt _ _ _ _ ?_)
  refine wpAny_newFunctionEnv_cells S.kind places fun env he s1 x => ?_
  subst he
  have noLim : s.heap.NoLimit := e0.mod.nolimit.keeps fun b o e => (e0.bs b o e).1
  refine ⟨noLim.keeps x.toInCall.keep, codeAny_func ?_⟩
  obtain ⟨t, ht, hq⟩ := hbody cdv (hr.deeper _)
  have I0 : Inv (cxOf CX0 P w K mg base N qual scope f cdv A outer s H E) [] (start N vs) H s1 := inv_start S hr.hd e0 hl r x
  refine wpAny_mono (ht.run [] s1 (start N vs) H _ I0 hq) (fun fl s2 hs => ?_) fun _ _ z => z
  cases fl with
  | ret u =>
    obtain ⟨v, σ2, H2, J, rv, q⟩ := hs
    exact ⟨v, H2, J.os, J.bare, J.base, J.hok, rv, q⟩
  | next =>
    obtain ⟨σ2, H2, J, q⟩ := hs
    exact ⟨V.non, H2, J.os, J.bare, J.base, J.hok, rfl, q⟩
  | brk =>
    obtain ⟨_, _, _, q⟩ := hs
    exact q.elim
  | cont =>
    obtain ⟨_, _, _, q⟩ := hs
    exact q.elim
/-- the __iter__ of a class that hands out its tuple's iterator: the tuple stands in the field f -/
structure CalI (P : Program) (w : World) (K : PySem.W.Frag) (mg : Str → Option Value) (base : Heap) (k : Nat) (C f : Str) : Prop where
  run : ∀ (A : Around) (outer : List Env) (s : Shared) (H : Hp) (a dx t : Addr) (fs : List (Str × V)) (xs : List V), Room k A → Env0 P w K mg base A outer s H → H a = some (.ins (He.ga K C) dx fs) → fs.lookup f = some (.ref t) → SqT K H t xs →
    codeAny (model P w) A (.call (.ref (He.ma K (He.ga K C) "__iter__")) ⟨[.ref a], []⟩) (CR CX0 outer P w H s (fun v H' => ∃ it, v = .ref it ∧ H it = none ∧ s.heap.objs.size ≤ it ∧ H' = upd H it (ItT t it)) E0) s
  mt : Meth K (He.ga K C) "__iter__" (He.ma K (He.ga K C) "__iter__")
theorem CalI.mono {j : Nat} {C f : Str} (F : CalI P w K mg base j C f) (h : j ≤ k) : CalI P w K mg base k C f := ⟨fun A outer s H a dx t fs xs hr => F.run A outer s H a dx t fs xs (hr.mono h), F.mt⟩
end
section
variable {X : Cx} {k : Nat} {C f : Str}
/-- what pyIter of such an instance gives -/
theorem own_it {A : Around} {pins : List (Addr × Obj)} {σ : L2.St} {H : Hp} {s : Shared} {a dx t : Addr} {fs : List (Str × V)} {xs : List V} {Q E : Value → Shared → Prop} (F : CalI X.prog X.w X.K X.mg X.base k C f) (hA : A = X.A ∨ A = X.A.in1 ∨ A = X.A.in1.in1) (hr : Room (k + 2) X.A) (I : Inv X pins σ H s)
    (ha : H a = some (.ins (He.ga X.K C) dx fs)) (hf : fs.lookup f = some (.ref t)) (ht : SqT X.K H t xs) (hQ : ∀ it s', Inv X pins σ H s' → s'.heap.IsTupleIter it t 0 → FpOk X pins H it → s.heap.objs.size ≤ it → Q (.ref it) s') : wpAny (model X.prog X.w) A (pyIter (.ref a)) Q E s := by
  obtain ⟨od, J⟩ := inst_of I ha
  obtain ⟨m, hF⟩ := I.fr
  have fin : ∀ u s', CE X.stack X.prog X.w H s (fun v H' => ∃ it, v = .ref it ∧ H it = none ∧ s.heap.objs.size ≤ it ∧ H' = upd H it (ItT t it)) u s' → PySem.W.OwitIt (model X.prog X.w) A Q E u s' := fun u s' hq => by
    obtain ⟨v, H', I2, rv, it, rfl, hn, hsz, rfl⟩ := I.after (Q := fun v H' => ∃ it, v = .ref it ∧ H it = none ∧ s.heap.objs.size ≤ it ∧ H' = upd H it (ItT t it)) hq
    obtain rfl : u = .ref it := rv
    have st : s'.heap.IsTupleIter it t 0 := (I2.hok it _ upd_same).1
    have I3 := ItX.inv_drop I2 (a := it) (φ := fun h => h.IsTupleIter it t 0) upd_same
    have fp := ItX.inv_fp I2 (a := it) upd_same (Nat.le_trans I.sz hsz)
    rw [ItX.dropH_upd hn] at I3 fp
    unfold PySem.W.OwitIt
    exact wpAny_specialOf (name := Str.ofString "__next__") st.typeIs PySem.F.slot_tuple_iterator_next.lookup (hQ it s' I3 st fp hsz)
  refine PySem.W.owit_iter hF I.ok.mod.kin J F.mt.at_ F.mt.fn (wpAny_call ?_)
  have go : ∀ A', Room k A' → Env0 X.prog X.w X.K X.mg X.base A' X.stack s H → codeAny (model X.prog X.w) A' (.call (.ref (He.ma X.K (He.ga X.K C) "__iter__")) ⟨[.ref a], []⟩) (fun r s' => match r with | .ok (.ret v) => PySem.W.OwitIt (model X.prog X.w) A Q E v s' | .ok _ => False | .error e => E e s') s := fun A' hr' e0 => by
    refine codeAny_mono (F.run A' X.stack s H a dx t fs xs hr' e0 ha hf ht) fun r s' hq => ?_
    cases r with
    | error e => exact False.elim hq
    | ok fl =>
      cases fl with
      | ret u => exact fin u s' hq
      | next => exact False.elim hq
      | brk => exact False.elim hq
      | cont => exact False.elim hq
  rcases hA with rfl | rfl | rfl
  · exact go _ (hr.mono (by omega)) I.env0
  · exact go _ ((hr.mono (by omega : k + 1 ≤ k + 2)).in1) I.env0.in1
  · exact go _ hr.in1.in1 I.env0.in1.in1
abbrev iOwn (K : PySem.W.Frag) (C f : Str) (te : TE) : TI := fun σ H R => te σ H fun x H1 => ∃ a dx fs t xs, x = .ref a ∧ H1 a = some (.ins (He.ga K C) dx fs) ∧ fs.lookup f = some (.ref t) ∧ SqT K H1 t xs ∧ R (Itt K t) H1
theorem pi_own {e tg : Expr} {te : TE} (F : CalI X.prog X.w X.K X.mg X.base k C f) (hr : Room (k + 2) X.A) (he : PE X e te) : PI X tg e (iOwn X.K C f te) := by
  refine ⟨fun pins s σ H R I h => ?_⟩
  refine thn (he.run pins s σ H _ I h) fun v s1 ⟨x, H1, I1, r1, a, dx, fs, t, xs, e1, e2, e3, e4, q⟩ => ?_
  subst e1
  obtain rfl : v = .ref a := r1
  refine own_it F (.inl rfl) hr I1 e2 e3 e4 fun it s' I2 st fp _ => ?_
  refine ⟨it, [it], _, _, H1, rfl, I2, turn_tuple t it, st, fun b hb => ?_, q⟩
  have e : b = it := by simpa using hb
  rw [e]
  exact fp
end
section
variable {K : PySem.W.Frag} {σ : L2.St} {S : Hp} {te : TE} {α : Type} {xs : List α} {enc : α → PyData} {C f : Str}
theorem gi_own (h : G te σ S (I1 K C f (.tuple (xs.map enc)))) : GI (iOwn K C f te) σ S xs (fun a => D K (enc a)) := fun S1 H1 e b R q => h S1 H1 e b _ fun v S2 H2 e2 ⟨a, dx, t, ev, ha, ht⟩ => by
  obtain ⟨p, ys, rfl, hp, hd⟩ := Dp.tupI ht
  refine ⟨a, dx, _, p, ys, ev, e2.sh _ _ ha, by simp [List.lookup], Same.sqT e2.sh hp, q _ S2 H2 e2 ?_⟩
  have w := walk_tup (K := K) (a := p) (xs := ys)
  unfold Wk
  have hl := DpAll.len hd
  rw [List.length_map] at hl
  rw [hl] at w
  refine w.mono (fun H' e' => Same.sqT e' hp) fun i H x H' hi eG ⟨e3, hx⟩ S' s1 s2 => ?_
  obtain ⟨d, e4, e5⟩ := DpAll.get hd hx
  subst e3
  rw [List.getElem?_map] at e4
  cases h3 : xs[i]? with
  | none => rw [h3] at e4; cases e4
  | some a =>
    rw [h3] at e4
    have e4 := Option.some.inj e4
    subst e4
    exact ⟨S', .refl s2, a, rfl, Dp.up s1 e5⟩
end
end NK
end

section
set_option Elab.async false
set_option linter.all false
set_option maxRecDepth 100000
set_option maxHeartbeats 4000000
namespace NK
open PySem PySem.Spec L2
open PyProof.Rows hiding St
section
variable {K : PySem.W.Frag} {w : World} {σ : L2.St} {S0 H0 S H S1 H1 : Hp} {ta tb te : TE} {R T : Rel} {E : Ends} {tt : TT} {α β : Type} {xs : List α} {RI : α → Rel} {RO : β → Rel} {wi : TI} {g : TG} {l : Addr} {o : HO} {u : TS} {vs : List Nat} {enc : α → PyData}
/-- with its place -/
def plc (xs : List α) : List (Nat × α) := (List.range xs.length).zip xs
theorem plc_at {xs : List α} {i : Nat} {p : Nat × α} : (plc xs)[i]? = some p ↔ p.1 = i ∧ xs[i]? = some p.2 := by
  unfold plc
  rw [List.getElem?_zip_eq_some]
  constructor
  · rintro ⟨h1, h2⟩
    have := (List.getElem?_eq_some_iff.mp h2).1
    rw [List.getElem?_range this] at h1
    exact ⟨(Option.some.inj h1).symm, h2⟩
  · rintro ⟨rfl, h2⟩
    exact ⟨List.getElem?_range (List.getElem?_eq_some_iff.mp h2).1, h2⟩
theorem plc_len {xs : List α} : (plc xs).length = xs.length := by
  unfold plc
  rw [List.length_zip, List.length_range, Nat.min_self]
theorem plc_mem {xs : List α} {p : Nat × α} : p ∈ plc xs ↔ xs[p.1]? = some p.2 := by
  rw [List.mem_iff_getElem?]
  constructor
  · rintro ⟨i, h⟩
    obtain ⟨rfl, h2⟩ := plc_at.mp h
    exact h2
  · exact fun h => ⟨p.1, plc_at.mpr ⟨rfl, h⟩⟩
abbrev RP (K : PySem.W.Frag) (enc : α → PyData) (p : Nat × α) : Rel := D K (.tuple [.int (p.1 : Nat), enc p.2])
theorem gi_enumE (h : G te σ S (D K (.list (xs.map enc)))) : GI (iEnum K (tCons te tNil)) σ S (plc xs) (RP K enc) := fun S1 H1 e b R q => gi_enum h S1 H1 e b R fun J S2 H2 e2 w => q J S2 H2 e2 (by
  unfold Wk at w ⊢
  have e1 : ((List.range (xs.map enc).length).zip (xs.map enc)).length = (plc xs).length := by rw [plc_len, List.length_zip, List.length_range, Nat.min_self, List.length_map]
  rw [e1] at w
  refine w.mono (fun _ z => z) fun i H x H' hi eG hy S' s1 s2 => ?_
  obtain ⟨S3, g, d, h1, h2⟩ := hy S' s1 s2
  have h1 : (plc (xs.map enc))[i]? = some d := h1
  obtain ⟨h3, h4⟩ := plc_at.mp h1
  rw [List.getElem?_map] at h4
  cases h5 : xs[i]? with
  | none => rw [h5] at h4; cases h4
  | some a =>
    rw [h5] at h4
    have h4 := Option.some.inj h4
    refine ⟨S3, g, (i, a), plc_at.mpr ⟨rfl, h5⟩, ?_⟩
    have h2 : Dp K S3 x (.tuple [.int (d.1 : Nat), d.2]) := h2
    rw [h3, ← h4] at h2
    exact h2)
/-- promises of a new list that may change -/
def PuM {α : Type} (K : PySem.W.Frag) (A : α → List V → Hp → Prop) (ds : α → List PyData) : Sp := fun vs H Q _ => ∃ a S, Same S H ∧ A a vs S ∧ ∀ p ws S' H', Gw S H S' H' → H p = none → S' p = none → H' p = some (.lst ws) → DpAll K S' ws (ds a) → Q (.ref p) H'
theorem g_callM {t : TA} {α : Type} {A : α → List V → Hp → Prop} {ds : α → List PyData} {a : α} (h : GA t σ S (A a)) : G (tF (PuM K A ds) t) σ S (L0 K (ds a)) := fun S1 H1 e b Q q => h S1 H1 e b _ fun vs S2 H2 e2 r => ⟨a, S2, e2.sh, r, fun p ws S3 H3 e3 hp hs hH hd => by
  have g := e3.frz hp hs hH
  exact q (.ref p) _ H3 (e2.trans g) ⟨p, ws, rfl, upd_same, DpAll.up (Same.new hs) hd⟩⟩
theorem q_callM {t : TA} {α : Type} {A : α → List V → Hp → Prop} {ds : α → List PyData} {a : α} {i : Nat} (h : GA t σ S (A a)) (e : Gw S0 H0 S H) (k : ∀ p ws S1 H1, Gw S0 H0 S1 H1 → Same S S1 → H p = none → S1 p = none → H1 p = some (.lst ws) → DpAll K S1 ws (ds a) → u E (σ.set i (some (.ref p))) H1) :
    tSeq (tAsg (tF (PuM K A ds) t) (gName i)) u E σ H := h S H (Same.refl S) e.sh _ fun vs S1 H1 e1 r => ⟨a, S1, e1.sh, r, fun p ws S2 H2 e2 hp hs hH hd => k p ws S2 H2 (e.trans (e1.trans e2)) (e1.ss.trans e2.ss) (e1.hh.free hp) hs hH hd⟩
/-- x = [] -/
theorem q_newL {i : Nat} (e : Gw S0 H0 S H) (k : ∀ p H1, H p = none → Gw S0 H0 S H1 → S p = none → H1 p = some (.lst []) → u E (σ.set i (some (.ref p))) H1) : tSeq (tAsg (tLst tNil) (gName i)) u E σ H :=
  ⟨Nat.zero_le _, fun p hp => k p _ hp (e.trans (Gw.mut e.sh hp)) (e.sh.free hp) upd_same⟩
end
end NK
end

section
set_option maxRecDepth 4000
namespace NK

/-! ### lists -/
theorem len_le_of_sub : ∀ {l D : List Nat}, l.Nodup → (∀ x ∈ l, x ∈ D) → l.length ≤ D.length
  | [], _, _, _ => Nat.zero_le _
  | x :: l, D, hn, hs => by
    obtain ⟨h1, h2⟩ := List.nodup_cons.mp hn
    have hx : x ∈ D := hs x (List.mem_cons_self ..)
    have ih := len_le_of_sub (l := l) (D := D.erase x) h2 (fun y hy => by
      have : y ≠ x := fun e => h1 (e ▸ hy)
      exact (List.mem_erase_of_ne this).mpr (hs y (List.mem_cons_of_mem _ hy)))
    have e := List.length_erase_of_mem hx
    have p : 0 < D.length := List.length_pos_of_mem hx
    simp only [List.length_cons]
    omega

theorem filter_split {α : Type} (p : α → Bool) : ∀ l : List α, (l.filter p).length + (l.filter fun x => !p x).length = l.length
  | [] => rfl
  | x :: l => by
    have ih := filter_split p l
    cases h : p x <;> simp [List.filter_cons, h] <;> omega

def nub : List Nat → List Nat
  | [] => []
  | x :: l => if x ∈ nub l then nub l else x :: nub l
theorem mem_nub {x : Nat} : ∀ {l : List Nat}, x ∈ nub l ↔ x ∈ l
  | [] => Iff.rfl
  | y :: l => by
    unfold nub
    have ih := mem_nub (x := x) (l := l)
    split
    · rename_i h
      rw [ih, List.mem_cons]
      exact ⟨.inr, fun z => z.elim (fun e => ih.mp (e ▸ h)) id⟩
    · rw [List.mem_cons, List.mem_cons, ih]
theorem nodup_nub : ∀ l : List Nat, (nub l).Nodup
  | [] => List.nodup_nil
  | y :: l => by
    unfold nub
    split
    · exact nodup_nub l
    · rename_i h
      exact List.nodup_cons.mpr ⟨h, nodup_nub l⟩

/-! ### orders of numbers, matchings -/
structure Ordd (n : Nat) (ab : Nat → List Nat) : Prop where
  lt : ∀ i j, i < n → j ∈ ab i → j < n
  irr : ∀ i, i < n → i ∉ ab i
  tr : ∀ i j k, i < n → j ∈ ab i → k ∈ ab j → k ∈ ab i
  nd : ∀ i, i < n → (ab i).Nodup

/-- no two above one another -/
def Anti (ab : Nat → List Nat) (A : List Nat) : Prop := ∀ x ∈ A, ∀ y ∈ A, y ∉ ab x

/-- k is the greatest length of an antichain of numbers below n with P -/
def MaxA (n : Nat) (ab : Nat → List Nat) (P : Nat → Prop) (k : Nat) : Prop :=
  (∃ A : List Nat, A.Nodup ∧ (∀ x ∈ A, x < n ∧ P x) ∧ Anti ab A ∧ A.length = k) ∧
  ∀ A : List Nat, A.Nodup → (∀ x ∈ A, x < n ∧ P x) → Anti ab A → A.length ≤ k

/-- m takes a low thing to the high one that it is matched with -/
structure Mtch (n : Nat) (ab : Nat → List Nat) (m : Nat → Option Nat) : Prop where
  edge : ∀ l h, m l = some h → l < n ∧ h ∈ ab l
  inj : ∀ l l' h, m l = some h → m l' = some h → l = l'

/-- the certificate -/
def Cert (n : Nat) (ab : Nat → List Nat) (m : Nat → Option Nat) (P : Nat → Prop) : Prop :=
  ∃ D : List Nat, (∀ h ∈ D, ∃ l, m l = some h ∧ P l ∧ ∀ x ∈ ab l, x ∈ D) ∧ ∀ l, l < n → P l → m l = none → ∀ x ∈ ab l, x ∈ D

def tops (n : Nat) (m : Nat → Option Nat) (p : Nat → Bool) : List Nat := (List.range n).filter fun l => p l && (m l).isNone

theorem nodup_filterMap {α β : Type} {f : α → Option β} : ∀ {l : List α}, l.Nodup → (∀ a ∈ l, ∀ b ∈ l, ∀ y, f a = some y → f b = some y → a = b) → (l.filterMap f).Nodup
  | [], _, _ => by simp
  | x :: l, hn, hf => by
    obtain ⟨h1, h2⟩ := List.nodup_cons.mp hn
    have ih := nodup_filterMap h2 (fun a ha b hb => hf a (List.mem_cons_of_mem _ ha) b (List.mem_cons_of_mem _ hb))
    cases e : f x with
    | none => simpa [List.filterMap_cons, e] using ih
    | some y =>
      rw [List.filterMap_cons, e]
      refine List.nodup_cons.mpr ⟨fun hy => ?_, ih⟩
      obtain ⟨a, ha, ea⟩ := List.mem_filterMap.mp hy
      have := hf x (List.mem_cons_self ..) a (List.mem_cons_of_mem _ ha) y e ea
      exact h1 (this ▸ ha)

theorem nodupMapOn {α β : Type} {f : α → β} : ∀ {l : List α}, l.Nodup → (∀ a ∈ l, ∀ b ∈ l, f a = f b → a = b) → (l.map f).Nodup
  | [], _, _ => by simp
  | x :: l, hn, hf => by
    obtain ⟨h1, h2⟩ := List.nodup_cons.mp hn
    rw [List.map_cons]
    refine List.nodup_cons.mpr ⟨fun hy => ?_, nodupMapOn h2 fun a ha b hb => hf a (List.mem_cons_of_mem _ ha) b (List.mem_cons_of_mem _ hb)⟩
    obtain ⟨a, ha, ea⟩ := List.mem_map.mp hy
    exact h1 (hf x (List.mem_cons_self ..) a (List.mem_cons_of_mem _ ha) ea.symm ▸ ha)
theorem length_filterMap_all {α β : Type} {f : α → Option β} : ∀ {l : List α}, (∀ a ∈ l, (f a).isSome) → (l.filterMap f).length = l.length
  | [], _ => rfl
  | x :: l, h => by
    have hx := h x (List.mem_cons_self ..)
    cases e : f x with
    | none => rw [e] at hx; cases hx
    | some y =>
      rw [List.filterMap_cons, e]
      simp [length_filterMap_all (l := l) fun a ha => h a (List.mem_cons_of_mem _ ha)]

theorem nodup_filter {α : Type} {p : α → Bool} {l : List α} (h : l.Nodup) : (l.filter p).Nodup := h.filter p

theorem anti_exists {n : Nat} {ab : Nat → List Nat} {m : Nat → Option Nat} {p : Nat → Bool} (M : Mtch n ab m) (c : Cert n ab m (fun l => p l = true)) :
    ∃ A : List Nat, A.Nodup ∧ (∀ x ∈ A, x < n ∧ p x = true) ∧ Anti ab A ∧ (tops n m p).length ≤ A.length := by
  obtain ⟨D0, c1, c2⟩ := c
  -- without doubles
  obtain ⟨D, dn, dm⟩ : ∃ D : List Nat, D.Nodup ∧ ∀ x, x ∈ D ↔ x ∈ D0 := ⟨nub D0, nodup_nub D0, fun x => mem_nub⟩
  let inv : Nat → Option Nat := fun h => (List.range n).find? fun l => decide (m l = some h)
  have invs : ∀ h ∈ D, ∃ l, inv h = some l ∧ m l = some h ∧ p l = true ∧ ∀ x ∈ ab l, x ∈ D := fun h hh => by
    obtain ⟨l, e, pl, cl⟩ := c1 h ((dm h).mp hh)
    cases q : inv h with
    | none =>
      have := List.find?_eq_none.mp q l (List.mem_range.mpr (M.edge l h e).1)
      simp [e] at this
    | some l' =>
      have e' : m l' = some h := by simpa using List.find?_some q
      have := M.inj l l' h e e'
      subst this
      exact ⟨l, rfl, e, pl, fun x hx => (dm x).mpr (cl x hx)⟩
  let LD := D.filterMap inv
  have hLD : ∀ l ∈ LD, ∃ h ∈ D, m l = some h ∧ p l = true ∧ ∀ x ∈ ab l, x ∈ D := fun l hl => by
    obtain ⟨h, hh, e⟩ := List.mem_filterMap.mp hl
    obtain ⟨l', e1, e2, e3, e4⟩ := invs h hh
    rw [e1] at e
    have := Option.some.inj e
    subst this
    exact ⟨h, hh, e2, e3, e4⟩
  have lLD : LD.length = D.length := length_filterMap_all fun h hh => by
    obtain ⟨l, e, _⟩ := invs h hh
    rw [e]
    rfl
  have nLD : LD.Nodup := nodup_filterMap dn fun a ha b hb y ea eb => by
    obtain ⟨l, e1, e2, _⟩ := invs a ha
    obtain ⟨l', e1', e2', _⟩ := invs b hb
    rw [e1] at ea
    rw [e1'] at eb
    cases ea
    cases eb
    rw [e2] at e2'
    exact Option.some.inj e2'
  let U := tops n m p
  have hU : ∀ l ∈ U, l < n ∧ p l = true ∧ m l = none := fun l hl => by
    obtain ⟨h1, h2⟩ := List.mem_filter.mp hl
    rw [Bool.and_eq_true] at h2
    exact ⟨List.mem_range.mp h1, h2.1, Option.isNone_iff_eq_none.mp h2.2⟩
  have nU : U.Nodup := List.nodup_range.filter _
  have nB : (U ++ LD).Nodup := List.nodup_append.mpr ⟨nU, nLD, fun a ha b hb e => by
    subst e
    obtain ⟨h, _, e2, _⟩ := hLD a hb
    rw [(hU a ha).2.2] at e2
    cases e2⟩
  have cl : ∀ l ∈ U ++ LD, ∀ x ∈ ab l, x ∈ D := fun l hl x hx => by
    rcases List.mem_append.mp hl with h | h
    · obtain ⟨h1, h2, h3⟩ := hU l h
      exact (dm x).mpr (c2 l h1 h2 h3 x hx)
    · obtain ⟨_, _, _, _, e4⟩ := hLD l h
      exact e4 x hx
  refine ⟨(U ++ LD).filter fun x => !decide (x ∈ D), nB.filter _, fun x hx => ?_, fun x hx y hy hxy => ?_, ?_⟩
  · obtain ⟨h1, _⟩ := List.mem_filter.mp hx
    rcases List.mem_append.mp h1 with h | h
    · exact ⟨(hU x h).1, (hU x h).2.1⟩
    · obtain ⟨h', _, e2, e3, _⟩ := hLD x h
      exact ⟨(M.edge x h' e2).1, e3⟩
  · obtain ⟨h1, _⟩ := List.mem_filter.mp hx
    obtain ⟨_, h2⟩ := List.mem_filter.mp hy
    have := cl x h1 y hxy
    simp [this] at h2
  · have s := filter_split (fun x => decide (x ∈ D)) (U ++ LD)
    have b : ((U ++ LD).filter fun x => decide (x ∈ D)).length ≤ D.length := len_le_of_sub (nB.filter _) fun x hx => by
      have := (List.mem_filter.mp hx).2
      simpa using this
    rw [List.length_append, lLD] at s
    show U.length ≤ _
    omega

/-! ### the way up a chain -/
theorem ab_less {n : Nat} {ab : Nat → List Nat} (O : Ordd n ab) {x y : Nat} (hx : x < n) (h : y ∈ ab x) : (ab y).length < (ab x).length := by
  have hy : y < n := O.lt x y hx h
  have := len_le_of_sub (l := y :: ab y) (D := ab x) (List.nodup_cons.mpr ⟨O.irr y hy, O.nd y hy⟩) (fun z hz => by
    rcases List.mem_cons.mp hz with e | e
    · rw [e]; exact h
    · exact O.tr x y z hx h e)
  simp only [List.length_cons] at this
  omega

/-- the top of the chain of x (at most k steps) -/
def topK (m : Nat → Option Nat) : Nat → Nat → Nat
  | 0, x => x
  | k + 1, x => match m x with
    | some y => topK m k y
    | none => x

/-- y is reached from x by the match -/
inductive Rch (m : Nat → Option Nat) : Nat → Nat → Prop
  | refl (x : Nat) : Rch m x x
  | step {x y z : Nat} : m x = some y → Rch m y z → Rch m x z

theorem Rch.trans {m : Nat → Option Nat} {x y z : Nat} (a : Rch m x y) (b : Rch m y z) : Rch m x z := by
  induction a with
  | refl => exact b
  | step e _ ih => exact .step e (ih b)
theorem Rch.above {n : Nat} {ab : Nat → List Nat} {m : Nat → Option Nat} (O : Ordd n ab) (M : Mtch n ab m) {x y : Nat} (a : Rch m x y) : x = y ∨ (x < n ∧ y ∈ ab x) := by
  induction a with
  | refl => exact .inl rfl
  | @step x y z e _ ih =>
    obtain ⟨h1, h2⟩ := M.edge _ _ e
    rcases ih with rfl | ⟨h3, h4⟩
    · exact .inr ⟨h1, h2⟩
    · exact .inr ⟨h1, O.tr _ _ _ h1 h2 h4⟩
theorem Rch.last {m : Nat → Option Nat} {x z : Nat} (a : Rch m x z) : x = z ∨ ∃ y, Rch m x y ∧ m y = some z := by
  induction a with
  | refl => exact .inl rfl
  | @step x y z e _ ih =>
    rcases ih with rfl | ⟨w, h1, h2⟩
    · exact .inr ⟨x, .refl x, e⟩
    · exact .inr ⟨w, .step e h1, h2⟩
/-- two that reach one -/
theorem Rch.both {n : Nat} {ab : Nat → List Nat} {m : Nat → Option Nat} (M : Mtch n ab m) {x z : Nat} (a : Rch m x z) : ∀ {y : Nat}, Rch m y z → Rch m x y ∨ Rch m y x := by
  induction a with
  | refl x => exact fun b => .inr b
  | @step x w z e t ih =>
    intro y b
    rcases ih b with h | h
    · exact .inl (.step e h)
    · rcases h.last with rfl | ⟨v, h1, h2⟩
      · exact .inl (.step e (.refl _))
      · have := M.inj v x w h2 e
        subst this
        exact .inr h1
theorem topK_rch (m : Nat → Option Nat) : ∀ (k x : Nat), Rch m x (topK m k x)
  | 0, x => .refl x
  | k + 1, x => by
    unfold topK
    cases e : m x with
    | none => exact .refl x
    | some y => exact .step e (topK_rch m k y)
theorem topK_top {n : Nat} {ab : Nat → List Nat} {m : Nat → Option Nat} (O : Ordd n ab) (M : Mtch n ab m) : ∀ (k x : Nat), x < n → (ab x).length ≤ k → m (topK m k x) = none
  | 0, x, hx, hk => by
    show m x = none
    cases e : m x with
    | none => rfl
    | some y =>
      have := (M.edge x y e).2
      have : 0 < (ab x).length := List.length_pos_of_mem this
      omega
  | k + 1, x, hx, hk => by
    unfold topK
    cases e : m x with
    | none => exact e
    | some y =>
      have h := (M.edge x y e).2
      exact topK_top O M k y (O.lt x y hx h) (by have := ab_less O hx h; omega)

theorem anti_bound {n : Nat} {ab : Nat → List Nat} {m : Nat → Option Nat} {p : Nat → Bool} (O : Ordd n ab) (M : Mtch n ab m) (up : ∀ x y, x < n → y ∈ ab x → p x = true → p y = true)
    {A : List Nat} (nA : A.Nodup) (hA : ∀ x ∈ A, x < n ∧ p x = true) (an : Anti ab A) : A.length ≤ (tops n m p).length := by
  let f : Nat → Nat := fun x => topK m (ab x).length x
  have rf : ∀ x, Rch m x (f x) := fun x => topK_rch m _ x
  have hf : ∀ x ∈ A, f x ∈ tops n m p := fun x hx => by
    obtain ⟨h1, h2⟩ := hA x hx
    have ht : m (f x) = none := topK_top O M _ x h1 (Nat.le_refl _)
    have hn : f x < n ∧ p (f x) = true := by
      rcases (rf x).above O M with e | ⟨_, e⟩
      · rw [← e]; exact ⟨h1, h2⟩
      · exact ⟨O.lt x _ h1 e, up x _ h1 e h2⟩
    exact List.mem_filter.mpr ⟨List.mem_range.mpr hn.1, by simp [hn.2, ht]⟩
  have nd : (A.map f).Nodup := by
    refine nodupMapOn nA fun a ha b hb e => ?_
    have r : Rch m b (f a) := by rw [e]; exact rf b
    rcases (rf a).both M r with h | h
    · rcases h.above O M with z | ⟨_, z⟩
      · exact z
      · exact absurd z (an a ha b hb)
    · rcases h.above O M with z | ⟨_, z⟩
      · exact z.symm
      · exact absurd z (an b hb a ha)
  have := len_le_of_sub nd (D := tops n m p) fun y hy => by
    obtain ⟨x, hx, e⟩ := List.mem_map.mp hy
    rw [← e]
    exact hf x hx
  simpa using this

theorem maxA_tops {n : Nat} {ab : Nat → List Nat} {m : Nat → Option Nat} {p : Nat → Bool} (O : Ordd n ab) (M : Mtch n ab m) (up : ∀ x y, x < n → y ∈ ab x → p x = true → p y = true)
    (c : Cert n ab m (fun l => p l = true)) : MaxA n ab (fun l => p l = true) (tops n m p).length := by
  refine ⟨?_, fun A nA hA an => anti_bound O M up nA hA an⟩
  obtain ⟨A, nA, hA, an, hl⟩ := anti_exists M c
  exact ⟨A, nA, hA, an, Nat.le_antisymm (anti_bound O M up nA hA an) hl⟩

theorem MaxA.uniq {n : Nat} {ab : Nat → List Nat} {P : Nat → Prop} {k k' : Nat} (a : MaxA n ab P k) (b : MaxA n ab P k') : k = k' := by
  obtain ⟨⟨A, n1, h1, an1, e1⟩, m1⟩ := a
  obtain ⟨⟨B, n2, h2, an2, e2⟩, m2⟩ := b
  have x := m2 A n1 h1 an1
  have y := m1 B n2 h2 an2
  omega
end NK
end

section
set_option Elab.async false
set_option linter.all false
namespace NK
/-! ### a dict of numbers by its entries -/
abbrev BL := List (Nat × Nat)
def getN (b : BL) (h : Nat) : Option Nat := (b.find? fun p => decide (p.1 = h)).map (·.2)
def putN (b : BL) (h l : Nat) : BL := if (b.any fun p => decide (p.1 = h)) = true then b.map fun p => if p.1 = h then (p.1, l) else p else b ++ [(h, l)]
def cntN (b : BL) (l : Nat) : Nat := (b.filter fun p => decide (p.2 = l)).length
def keysN (b : BL) : List Nat := b.map (·.1)
theorem getN_cons (p : Nat × Nat) (b : BL) (h : Nat) : getN (p :: b) h = if p.1 = h then some p.2 else getN b h := by
  unfold getN
  rw [List.find?_cons]
  by_cases e : p.1 = h
  · rw [if_pos e, decide_eq_true e]
    rfl
  · rw [if_neg e, decide_eq_false e]
theorem getN_none {b : BL} {h : Nat} : getN b h = none ↔ h ∉ keysN b := by
  induction b with
  | nil => simp [getN, keysN]
  | cons p b ih =>
    rw [getN_cons]
    unfold keysN at *
    by_cases e : p.1 = h
    · simp [e]
    · rw [if_neg e, ih]
      simp [Ne.symm e, fun z : h = p.1 => e z.symm]
theorem any_key {b : BL} {h : Nat} : (b.any fun p => decide (p.1 = h)) = true ↔ h ∈ keysN b := by
  unfold keysN
  simp [List.any_eq_true, List.mem_map]
theorem getN_mem {b : BL} {h l : Nat} (hb : getN b h = some l) : (h, l) ∈ b := by
  induction b with
  | nil => simp [getN] at hb
  | cons p b ih =>
    rw [getN_cons] at hb
    by_cases e : p.1 = h
    · rw [if_pos e] at hb
      have := Option.some.inj hb
      subst e this
      exact List.mem_cons_self
    · rw [if_neg e] at hb
      exact List.mem_cons_of_mem _ (ih hb)
theorem getN_of_mem {b : BL} {h l : Nat} (nd : (keysN b).Nodup) (hm : (h, l) ∈ b) : getN b h = some l := by
  induction b with
  | nil => cases hm
  | cons p b ih =>
    have nd := List.nodup_cons.mp nd
    rw [getN_cons]
    rcases List.mem_cons.mp hm with rfl | hm
    · rw [if_pos rfl]
    · have : p.1 ≠ h := fun e => nd.1 (List.mem_map.mpr ⟨(h, l), hm, e.symm⟩)
      rw [if_neg this]
      exact ih nd.2 hm
theorem keysN_put {b : BL} {h l : Nat} : keysN (putN b h l) = if h ∈ keysN b then keysN b else keysN b ++ [h] := by
  unfold putN
  by_cases e : h ∈ keysN b
  · rw [if_pos (any_key.mpr e), if_pos e]
    unfold keysN
    rw [List.map_map]
    refine List.map_congr_left fun p _ => ?_
    show (if p.1 = h then (p.1, l) else p).1 = p.1
    split <;> rfl
  · rw [if_neg (fun z => e (any_key.mp z)), if_neg e]
    unfold keysN
    simp
theorem keysN_put_nd {b : BL} {h l : Nat} (nd : (keysN b).Nodup) : (keysN (putN b h l)).Nodup := by
  rw [keysN_put]
  split
  · exact nd
  · rename_i e
    rw [List.nodup_append]
    exact ⟨nd, List.nodup_cons.mpr ⟨by simp, List.nodup_nil⟩, fun a ha b hb => by rw [List.mem_singleton.mp hb]; exact fun z => e (z ▸ ha)⟩
theorem getN_put {b : BL} {h l x : Nat} : getN (putN b h l) x = if x = h then some l else getN b x := by
  unfold putN
  by_cases e : (b.any fun p => decide (p.1 = h)) = true
  · rw [if_pos e]
    have hk := any_key.mp e
    clear e
    induction b with
    | nil => cases hk
    | cons p b ih =>
      rw [List.map_cons, getN_cons, getN_cons]
      by_cases e1 : p.1 = h
      · rw [if_pos e1]
        by_cases e2 : x = h
        · subst e2
          simp [e1]
        · have n1 : ¬ p.1 = x := fun z => e2 (z.symm.trans e1)
          rw [if_neg n1, if_neg e2, if_neg n1]
          clear ih hk
          induction b with
          | nil => rfl
          | cons q b ih2 =>
            rw [List.map_cons, getN_cons, getN_cons, ih2]
            by_cases e3 : q.1 = h
            · rw [if_pos e3]
              have n3 : ¬ q.1 = x := fun z => e2 (z.symm.trans e3)
              simp [n3]
            · rw [if_neg e3]
      · rw [if_neg e1]
        have hk' : h ∈ keysN b := by
          rcases List.mem_cons.mp hk with z | z
          · exact absurd z.symm e1
          · exact z
        rw [ih hk']
        by_cases e2 : x = h
        · subst e2
          simp [e1]
        · simp [e2]
  · rw [if_neg e]
    have hk : h ∉ keysN b := fun z => e (any_key.mpr z)
    have hn := getN_none.mpr hk
    clear e
    induction b with
    | nil =>
      rw [List.nil_append, getN_cons]
      by_cases e2 : x = h
      · simp [e2]
      · simp [e2, Ne.symm e2]
    | cons p b ih =>
      rw [List.cons_append, getN_cons, getN_cons]
      rw [getN_cons] at hn
      have n1 : ¬ p.1 = h := fun z => by rw [if_pos z] at hn; cases hn
      rw [if_neg n1] at hn
      rw [ih (fun z => hk (List.mem_cons_of_mem _ z)) hn]
      by_cases e2 : x = h
      · subst e2
        simp [n1]
      · simp [e2]
theorem getN_put_ne {b : BL} {h l x : Nat} (e : x ≠ h) : getN (putN b h l) x = getN b x := by rw [getN_put, if_neg e]
theorem cntN_cons (p : Nat × Nat) (b : BL) (l : Nat) : cntN (p :: b) l = (if p.2 = l then 1 else 0) + cntN b l := by
  unfold cntN
  rw [List.filter_cons]
  by_cases e : p.2 = l
  · simp [e, Nat.add_comm]
  · simp [e]
theorem cntN_put_new {b : BL} {h l x : Nat} (hn : getN b h = none) : cntN (putN b h l) x = cntN b x + if x = l then 1 else 0 := by
  unfold putN
  rw [if_neg (fun z => getN_none.mp hn (any_key.mp z))]
  unfold cntN
  rw [List.filter_append, List.length_append]
  by_cases e : x = l
  · simp [e]
  · have e' : ¬ l = x := fun z => e z.symm
    simp [e, e']
theorem cntN_put_old {b : BL} {h l l' x : Nat} (nd : (keysN b).Nodup) (hs : getN b h = some l') : cntN (putN b h l) x + (if x = l' then 1 else 0) = cntN b x + if x = l then 1 else 0 := by
  have hk : h ∈ keysN b := Decidable.byContradiction fun z => by rw [getN_none.mpr z] at hs; cases hs
  unfold putN
  rw [if_pos (any_key.mpr hk)]
  induction b with
  | nil => cases hk
  | cons p b ih =>
    have nd := List.nodup_cons.mp nd
    rw [List.map_cons, cntN_cons, cntN_cons]
    rw [getN_cons] at hs
    by_cases e1 : p.1 = h
    · rw [if_pos e1] at hs ⊢
      have hs := Option.some.inj hs
      have same : (b.map fun p => if p.1 = h then (p.1, l) else p) = b := by
        refine (List.map_congr_left fun q hq => ?_).trans (List.map_id b)
        have : q.1 ≠ h := fun z => nd.1 (List.mem_map.mpr ⟨q, hq, z.trans e1.symm⟩)
        rw [if_neg this]
        rfl
      rw [same]
      subst hs
      have e3 : (if l = x then 1 else 0) = (if x = l then 1 else 0 : Nat) := by
        by_cases z : x = l
        · rw [if_pos z, if_pos z.symm]
        · rw [if_neg z, if_neg (Ne.symm z)]
      have e4 : (if p.2 = x then 1 else 0) = (if x = p.2 then 1 else 0 : Nat) := by
        by_cases z : x = p.2
        · rw [if_pos z, if_pos z.symm]
        · rw [if_neg z, if_neg (Ne.symm z)]
      show (if l = x then 1 else 0) + _ + _ = _
      rw [e3, e4]
      omega
    · rw [if_neg e1] at hs ⊢
      have := ih nd.2 hs (by
        rcases List.mem_cons.mp hk with z | z
        · exact absurd z.symm e1
        · exact z)
      omega
theorem cntN_pos {b : BL} {l : Nat} : 0 < cntN b l ↔ ∃ h, (h, l) ∈ b := by
  unfold cntN
  rw [List.length_pos_iff_exists_mem]
  constructor
  · rintro ⟨p, hp⟩
    have := List.mem_filter.mp hp
    exact ⟨p.1, by have e := of_decide_eq_true this.2; rw [← e]; exact this.1⟩
  · rintro ⟨h, hh⟩
    exact ⟨(h, l), List.mem_filter.mpr ⟨hh, by simp⟩⟩

/-! ### one search -/
/-- what stands of the match while it is made -/
structure BOk (n : Nat) (ab : Nat → List Nat) (b : BL) : Prop where
  nd : (keysN b).Nodup
  edge : ∀ h l, getN b h = some l → l < n ∧ h ∈ ab l
def Closed (ab : Nat → List Nat) (b : BL) (D : List Nat) : Prop := ∀ h ∈ D, ∃ l, getN b h = some l ∧ ∀ x ∈ ab l, x ∈ D
structure SOk (n : Nat) (s : List Nat) : Prop where
  nd : s.Nodup
  lt : ∀ x ∈ s, x < n
/-- it was found -/
structure Found (n : Nat) (ab : Nat → List Nat) (b : BL) (s : List Nat) (low : Nat) (b' : BL) : Prop where
  ok : BOk n ab b'
  keep : ∀ h ∈ s, getN b' h = getN b h
  cnt : ∀ l, cntN b' l = cntN b l + if l = low then 1 else 0
  clos : ∀ D, Closed ab b D → (∃ h ∈ ab low, h ∉ D) ∧ ∀ h ∈ D, getN b' h = getN b h
/-- it was not -/
structure Dead (ab : Nat → List Nat) (b : BL) (s : List Nat) (hs : List Nat) (s' : List Nat) : Prop where
  sub : ∀ h ∈ s, h ∈ s'
  all : ∀ h ∈ hs, h ∈ s'
  clos : ∀ h ∈ s', h ∉ s → ∃ l, getN b h = some l ∧ ∀ x ∈ ab l, x ∈ s'
theorem BOk.put {n : Nat} {ab : Nat → List Nat} {b : BL} {h l : Nat} (o : BOk n ab b) (hl : l < n) (he : h ∈ ab l) : BOk n ab (putN b h l) :=
  ⟨keysN_put_nd o.nd, fun x y e => by
    rw [getN_put] at e
    by_cases z : x = h
    · rw [if_pos z] at e
      have e := Option.some.inj e
      subst e z
      exact ⟨hl, he⟩
    · rw [if_neg z] at e
      exact o.edge x y e⟩
theorem found_new {n : Nat} {ab : Nat → List Nat} {b : BL} {s si : List Nat} {low h : Nat} (o : BOk n ab b) (hl : low < n) (he : h ∈ ab low) (hn : getN b h = none) (hs : h ∉ si) (sub : ∀ x ∈ s, x ∈ si) : Found n ab b s low (putN b h low) :=
  ⟨o.put hl he, fun x hx => getN_put_ne fun z => hs (by rw [← z]; exact sub x hx), fun l => cntN_put_new hn, fun D c => by
    have hD : h ∉ D := fun z => by
      obtain ⟨l, e, _⟩ := c h z
      rw [hn] at e
      cases e
    exact ⟨⟨h, he, hD⟩, fun x hx => getN_put_ne fun z => hD (by rw [← z]; exact hx)⟩⟩
theorem found_on {n : Nat} {ab : Nat → List Nat} {b b' : BL} {s si : List Nat} {low low' h : Nat} (o : BOk n ab b) (hl : low < n) (he : h ∈ ab low) (hg : getN b h = some low') (hs : h ∉ si) (sub : ∀ x ∈ s, x ∈ si) (f : Found n ab b (si ++ [h]) low' b') : Found n ab b s low (putN b' h low) := by
  have hk : getN b' h = some low' := (f.keep h (by simp)).trans hg
  refine ⟨f.ok.put hl he, fun x hx => ?_, fun l => ?_, fun D c => ?_⟩
  · rw [getN_put_ne (fun z => hs (by rw [← z]; exact sub x hx))]
    exact f.keep x (List.mem_append_left _ (sub x hx))
  · have := cntN_put_old (l := low) (x := l) f.ok.nd hk
    have := f.cnt l
    omega
  · obtain ⟨⟨x, hx1, hx2⟩, h2⟩ := f.clos D c
    have hD : h ∉ D := fun z => by
      obtain ⟨l, e, e2⟩ := c h z
      rw [hg] at e
      have e := Option.some.inj e
      subst e
      exact hx2 (e2 x hx1)
    exact ⟨⟨h, he, hD⟩, fun x hx => by rw [getN_put_ne (fun z => hD (by rw [← z]; exact hx))]; exact h2 x hx⟩
theorem dead_in {ab : Nat → List Nat} {b : BL} {s hs si : List Nat} {h : Nat} (d : Dead ab b s hs si) (hi : h ∈ si) : Dead ab b s (hs ++ [h]) si :=
  ⟨d.sub, fun x hx => (List.mem_append.mp hx).elim (d.all x) fun z => by rw [List.mem_singleton.mp z]; exact hi, d.clos⟩
theorem dead_on {ab : Nat → List Nat} {b : BL} {s hs si s2 : List Nat} {h low' : Nat} (d : Dead ab b s hs si) (hg : getN b h = some low') (d2 : Dead ab b (si ++ [h]) (ab low') s2) : Dead ab b s (hs ++ [h]) s2 := by
  have sub : ∀ x ∈ si, x ∈ s2 := fun x hx => d2.sub x (List.mem_append_left _ hx)
  have hh : h ∈ s2 := d2.sub h (by simp)
  refine ⟨fun x hx => sub x (d.sub x hx), fun x hx => (List.mem_append.mp hx).elim (fun z => sub x (d.all x z)) fun z => by rw [List.mem_singleton.mp z]; exact hh, fun x hx hns => ?_⟩
  by_cases e1 : x ∈ si
  · obtain ⟨l, h1, h2⟩ := d.clos x e1 hns
    exact ⟨l, h1, fun y hy => sub y (h2 y hy)⟩
  · by_cases e2 : x = h
    · subst e2
      exact ⟨low', hg, d2.all⟩
    · exact d2.clos x hx fun z => (List.mem_append.mp z).elim e1 fun z => e2 (List.mem_singleton.mp z)

/-! ### the whole match -/
/-- the lows of P are searched for: the certificate -/
def CertB (ab : Nat → List Nat) (b : BL) (P : List Nat) : Prop := ∃ D : List Nat, (∀ h ∈ D, ∃ l, getN b h = some l ∧ l ∈ P ∧ ∀ x ∈ ab l, x ∈ D) ∧ ∀ l ∈ P, cntN b l = 0 → ∀ x ∈ ab l, x ∈ D
/-- what holds when the first i of ord are done -/
structure MInv (n : Nat) (ab : Nat → List Nat) (ord : List Nat) (i : Nat) (b : BL) : Prop where
  ok : BOk n ab b
  one : ∀ l, cntN b l ≤ 1
  only : ∀ l, 0 < cntN b l → l ∈ ord.take i
  cert : ∀ j, j ≤ i → CertB ab b (ord.take j)
theorem MInv.start {n : Nat} {ab : Nat → List Nat} {ord : List Nat} : MInv n ab ord 0 [] :=
  ⟨⟨List.nodup_nil, fun h l e => by simp [getN] at e⟩, fun l => by simp [cntN], fun l h => by simp [cntN] at h, fun j hj => by
    obtain rfl : j = 0 := by omega
    exact ⟨[], ⟨fun h hh => (by cases hh), fun l hl => (by simp at hl)⟩⟩⟩
theorem CertB.closed {ab : Nat → List Nat} {b : BL} {P D : List Nat} (h : ∀ h ∈ D, ∃ l, getN b h = some l ∧ l ∈ P ∧ ∀ x ∈ ab l, x ∈ D) : Closed ab b D := fun x hx => by
  obtain ⟨l, h1, _, h2⟩ := h x hx
  exact ⟨l, h1, h2⟩
theorem take_in {ord : List Nat} {i : Nat} {low : Nat} (h : ord[i]? = some low) : ord.take (i + 1) = ord.take i ++ [low] := by
  obtain ⟨h1, h2⟩ := List.getElem?_eq_some_iff.mp h
  rw [List.take_succ_eq_append_getElem h1, h2]
theorem MInv.found {n : Nat} {ab : Nat → List Nat} {ord : List Nat} {i low : Nat} {b b' : BL} (m : MInv n ab ord i b) (nd : ord.Nodup) (hi : ord[i]? = some low) (f : Found n ab b [] low b') : MInv n ab ord (i + 1) b' := by
  have hni : low ∉ ord.take i := fun z => by
    have := take_in hi
    have h2 : (ord.take (i + 1)).Nodup := nd.sublist (List.take_sublist _ _)
    rw [this, List.nodup_append] at h2
    exact h2.2.2 low z low (by simp) rfl
  have c0 : cntN b low = 0 := Decidable.byContradiction fun z => hni (m.only low (by omega))
  have mono : ∀ l, cntN b' l = 0 → cntN b l = 0 := fun l h => by
    have := f.cnt l
    omega
  refine ⟨f.ok, fun l => ?_, fun l hl => ?_, fun j hj => ?_⟩
  · have := f.cnt l
    have := m.one l
    by_cases e : l = low
    · subst e
      simp at *
      omega
    · simp [e] at *
      omega
  · rw [take_in hi]
    have := f.cnt l
    by_cases e : l = low
    · simp [e]
    · rw [if_neg e] at this
      exact List.mem_append_left _ (m.only l (by omega))
  · by_cases e : j ≤ i
    · obtain ⟨D, h1, h2⟩ := m.cert j e
      have hk := (f.clos D (CertB.closed h1)).2
      exact ⟨D, fun h hh => by rw [hk h hh]; exact h1 h hh, fun l hl hc => h2 l hl (mono l hc)⟩
    · obtain rfl : j = i + 1 := by omega
      obtain ⟨D, h1, h2⟩ := m.cert i (Nat.le_refl _)
      have hk := (f.clos D (CertB.closed h1)).2
      refine ⟨D, fun h hh => ?_, fun l hl hc => ?_⟩
      · rw [hk h hh]
        obtain ⟨l, a1, a2, a3⟩ := h1 h hh
        exact ⟨l, a1, by rw [take_in hi]; exact List.mem_append_left _ a2, a3⟩
      · rw [take_in hi] at hl
        rcases List.mem_append.mp hl with hl | hl
        · exact h2 l hl (mono l hc)
        · have e := List.mem_singleton.mp hl
          have := f.cnt l
          rw [if_pos e] at this
          omega
theorem MInv.dead {n : Nat} {ab : Nat → List Nat} {ord : List Nat} {i low : Nat} {b : BL} {s' : List Nat} (m : MInv n ab ord i b) (hi : ord[i]? = some low) (d : Dead ab b [] (ab low) s') : MInv n ab ord (i + 1) b := by
  have ein := take_in hi
  refine ⟨m.ok, m.one, fun l hl => by rw [ein]; exact List.mem_append_left _ (m.only l hl), fun j hj => ?_⟩
  by_cases e : j ≤ i
  · exact m.cert j e
  · obtain rfl : j = i + 1 := by omega
    obtain ⟨D, h1, h2⟩ := m.cert i (Nat.le_refl _)
    refine ⟨D ++ s', fun h hh => ?_, fun l hl hc x hx => ?_⟩
    · rcases List.mem_append.mp hh with hh | hh
      · obtain ⟨l, a1, a2, a3⟩ := h1 h hh
        exact ⟨l, a1, by rw [ein]; exact List.mem_append_left _ a2, fun x hx => List.mem_append_left _ (a3 x hx)⟩
      · obtain ⟨l, a1, a3⟩ := d.clos h hh (by simp)
        exact ⟨l, a1, by rw [ein]; exact List.mem_append_left _ (m.only l (cntN_pos.mpr ⟨h, getN_mem a1⟩)), fun x hx => List.mem_append_right _ (a3 x hx)⟩
    · rw [ein] at hl
      rcases List.mem_append.mp hl with hl | hl
      · exact List.mem_append_left _ (h2 l hl hc x hx)
      · rw [List.mem_singleton.mp hl] at hx
        exact List.mem_append_right _ (d.all x hx)
end NK
end

section
set_option Elab.async false
set_option linter.all false
set_option maxRecDepth 100000
set_option maxHeartbeats 4000000
namespace NK
open PySem PySem.Spec L2
open PyProof.Rows hiding St
/-! ### dicts of numbers -/
abbrev ky (h : Nat) : Key := Sum.inl (h : Int)
def encB (b : BL) : List (Key × V) := b.map fun p => (ky p.1, V.int (p.2 : Nat))
def encS (s : List Nat) : List (Key × V) := s.map fun x => (ky x, V.bl true)
theorem ky_eq {a b : Nat} : ky a = ky b ↔ a = b := by
  constructor
  · intro h
    have := Sum.inl.inj h
    omega
  · rintro rfl
    rfl
theorem kV_ky (h : Nat) : kV (ky h) = .int (h : Nat) := rfl
theorem valV_encB (b : BL) (h : Nat) : valV (encB b) (ky h) = (getN b h).map fun l => V.int (l : Nat) := by
  induction b with
  | nil => rfl
  | cons p b ih =>
    unfold valV encB at ih ⊢
    rw [List.map_cons, List.find?_cons, getN_cons]
    by_cases e : p.1 = h
    · rw [if_pos e, decide_eq_true (ky_eq.mpr e)]
      rfl
    · rw [if_neg e, decide_eq_false (fun z => e (ky_eq.mp z))]
      exact ih
theorem putK_encB (b : BL) (h l : Nat) : putK (encB b) (ky h) (V.int (l : Nat)) = encB (putN b h l) := by
  have e : ((encB b).any fun kv => decide (kv.1 = ky h)) = b.any fun p => decide (p.1 = h) := by
    unfold encB
    rw [List.any_map]
    congr 1
    funext p
    show decide (ky p.1 = ky h) = decide (p.1 = h)
    by_cases z : p.1 = h
    · rw [decide_eq_true z, decide_eq_true (ky_eq.mpr z)]
    · rw [decide_eq_false z, decide_eq_false (fun q => z (ky_eq.mp q))]
  unfold putK putN
  rw [e]
  split
  · unfold encB
    rw [List.map_map, List.map_map]
    refine List.map_congr_left fun p _ => ?_
    show (if ky p.1 = ky h then (ky p.1, V.int (l : Nat)) else (ky p.1, V.int (p.2 : Nat))) = _
    by_cases z : p.1 = h
    · rw [if_pos (ky_eq.mpr z)]
      simp [z]
    · rw [if_neg (fun q => z (ky_eq.mp q))]
      simp [z]
  · unfold encB
    rw [List.map_append]
    rfl
theorem valV_encS (s : List Nat) (h : Nat) : valV (encS s) (ky h) = if h ∈ s then some (V.bl true) else none := by
  induction s with
  | nil => rfl
  | cons x s ih =>
    unfold valV encS at ih ⊢
    rw [List.map_cons, List.find?_cons]
    by_cases e : x = h
    · rw [decide_eq_true (ky_eq.mpr e)]
      simp [e]
    · rw [decide_eq_false (fun z => e (ky_eq.mp z))]
      refine ih.trans ?_
      simp [Ne.symm e, fun z : h = x => e z.symm]
theorem putK_encS {s : List Nat} {h : Nat} (hn : h ∉ s) : putK (encS s) (ky h) (V.bl true) = encS (s ++ [h]) := by
  have e : ¬ ((encS s).any fun kv => decide (kv.1 = ky h)) = true := fun z => by
    unfold encS at z
    rw [List.any_map, List.any_eq_true] at z
    obtain ⟨x, hx, hd⟩ := z
    have : x = h := ky_eq.mp (of_decide_eq_true hd)
    exact hn (this ▸ hx)
  unfold putK
  rw [if_neg e]
  unfold encS
  rw [List.map_append]
  rfl
/-! ### two that change -/
/-- all but p and q stands -/
structure Gx (p q : Addr) (S H S' H' : Hp) : Prop where
  ss : Same S S'
  hh : ∀ a o, a ≠ p → a ≠ q → H a = some o → H' a = some o
  sh : Same S' H'
  old : ∀ a o, H a = some o → S' a = S a
section
variable {p q : Addr} {S H S1 H1 S2 H2 : Hp} {o : HO}
theorem Gx.refl (e : Same S H) : Gx p q S H S H := ⟨Same.refl S, fun _ _ _ _ h => h, e, fun _ _ _ => rfl⟩
theorem Gx.on (g : Gx p q S H S1 H1) (e : Gw S1 H1 S2 H2) (hp : ∃ o, H1 p = some o) (hq : ∃ o, H1 q = some o) : Gx p q S H S2 H2 := by
  refine ⟨g.ss.trans e.ss, fun a o n1 n2 h => e.hh a o (g.hh a o n1 n2 h), e.sh, fun a o h => ?_⟩
  by_cases n1 : a = p
  · subst n1
    obtain ⟨o', h'⟩ := hp
    exact (e.old a o' h').trans (g.old a o h)
  · by_cases n2 : a = q
    · subst n2
      obtain ⟨o', h'⟩ := hq
      exact (e.old a o' h').trans (g.old a o h)
    · exact (e.old a o (g.hh a o n1 n2 h)).trans (g.old a o h)
theorem Gx.trans (g : Gx p q S H S1 H1) (e : Gx p q S1 H1 S2 H2) (hp : ∃ o, H1 p = some o) (hq : ∃ o, H1 q = some o) : Gx p q S H S2 H2 := by
  refine ⟨g.ss.trans e.ss, fun a o n1 n2 h => e.hh a o n1 n2 (g.hh a o n1 n2 h), e.sh, fun a o h => ?_⟩
  by_cases n1 : a = p
  · subst n1
    obtain ⟨o', h'⟩ := hp
    exact (e.old a o' h').trans (g.old a o h)
  · by_cases n2 : a = q
    · subst n2
      obtain ⟨o', h'⟩ := hq
      exact (e.old a o' h').trans (g.old a o h)
    · exact (e.old a o (g.hh a o n1 n2 h)).trans (g.old a o h)
theorem Gx.wrp (g : Gx p q S H S1 H1) (hs : S1 p = none) : Gx p q S H S1 (upd H1 p o) :=
  ⟨g.ss, fun a u n1 n2 h => (upd_ne n1).trans (g.hh a u n1 n2 h), fun a u h => (upd_ne (ne_of_none h hs)).trans (g.sh a u h), g.old⟩
theorem Gx.wrq (g : Gx p q S H S1 H1) (hs : S1 q = none) : Gx p q S H S1 (upd H1 q o) :=
  ⟨g.ss, fun a u n1 n2 h => (upd_ne n2).trans (g.hh a u n1 n2 h), fun a u h => (upd_ne (ne_of_none h hs)).trans (g.sh a u h), g.old⟩
end
theorem Gx.gw {p q : Addr} {S0 H0 S H S' H' : Hp} (g0 : Gw S0 H0 S H) (g : Gx p q S H S' H') (hp : H0 p = none) (hq : H0 q = none) : Gw S0 H0 S' H' :=
  ⟨g0.ss.trans g.ss, fun a o h => g.hh a o (ne_of_none h hp) (ne_of_none h hq) (g0.hh a o h), g.sh, fun a o h => (g.old a o (g0.hh a o h)).trans (g0.old a o h)⟩
def swapN (b : BL) : BL := b.map fun p => (p.2, p.1)
theorem one_nd {b : BL} (h : ∀ l, cntN b l ≤ 1) : (keysN (swapN b)).Nodup := by
  unfold keysN swapN
  rw [List.map_map]
  show (b.map fun p => p.2).Nodup
  induction b with
  | nil => exact List.nodup_nil
  | cons p b ih =>
    rw [List.map_cons, List.nodup_cons]
    refine ⟨fun hm => ?_, ih fun l => Nat.le_trans (by rw [cntN_cons]; omega) (h l)⟩
    obtain ⟨q, hq, e⟩ := List.mem_map.mp hm
    have h1 := h p.2
    rw [cntN_cons, if_pos rfl] at h1
    have : 0 < cntN b p.2 := cntN_pos.mpr ⟨q.1, by rw [← e]; exact hq⟩
    omega
theorem swap_step {b : BL} (h : ∀ l, cntN b l ≤ 1) {i : Nat} {p : Nat × Nat} (hi : b[i]? = some p) : putN (swapN (b.take i)) p.2 p.1 = swapN (b.take (i + 1)) := by
  obtain ⟨h1, h2⟩ := List.getElem?_eq_some_iff.mp hi
  have et : b.take (i + 1) = b.take i ++ [p] := by rw [List.take_succ_eq_append_getElem h1, h2]
  have nd := one_nd h
  have hn : p.2 ∉ keysN (swapN (b.take i)) := fun hm => by
    have e : keysN (swapN b) = keysN (swapN (b.take (i + 1))) ++ keysN (swapN (b.drop (i + 1))) := by
      unfold keysN swapN
      rw [List.map_map, List.map_map, List.map_map, ← List.map_append, List.take_append_drop]
    rw [e, List.nodup_append] at nd
    have nd := nd.1
    rw [et] at nd
    unfold keysN swapN at nd hm
    rw [List.map_append, List.map_append, List.nodup_append] at nd
    exact nd.2.2 p.2 hm p.2 (by simp) rfl
  unfold putN
  rw [if_neg (fun z => hn (any_key.mp z)), et]
  unfold swapN
  rw [List.map_append]
  rfl
abbrev encNs (l : List Nat) : List PyData := l.map fun (x : Nat) => PyData.int (x : Int)
abbrev encAb (ab : List (List Nat)) : PyData := .list (ab.map fun l => .list (encNs l))
def abF (ab : List (List Nat)) (i : Nat) : List Nat := ab.getD i []
theorem encNs_int (l : List Nat) : encNs l = (l.map fun (x : Nat) => (x : Int)).map PyData.int := by
  unfold encNs
  rw [List.map_map]
  rfl
/-- what lead is given -/
structure LdIn (n : Nat) (ab : List (List Nat)) (b : BL) (s : List Nat) (low : Nat) : Prop where
  len : ab.length = n
  n48 : n ≤ 48
  lt : ∀ l, ∀ h ∈ abF ab l, h < n
  nd : ∀ l, (abF ab l).Nodup
  ok : BOk n (abF ab) b
  sk : SOk n s
  low : low < n
/-- what lead says of numbers -/
def LdOut (n : Nat) (ab : List (List Nat)) (b : BL) (s : List Nat) (low : Nat) (r : Bool) (b' : BL) (s' : List Nat) : Prop :=
  (r = true ∧ Found n (abF ab) b s low b' ∧ SOk n s' ∧ ∀ x ∈ s, x ∈ s') ∨ (r = false ∧ b' = b ∧ SOk n s' ∧ Dead (abF ab) b s (abF ab low) s')
def sp_lead (K : PySem.W.Frag) (d : Nat) : Sp := fun vs H Q _ => ∃ (S : Hp) (va : V) (pb ps : Addr) (n : Nat) (ab : List (List Nat)) (b : BL) (s : List Nat) (low : Nat), Same S H ∧ vs = [va, .ref pb, .int (low : Nat), .ref ps] ∧ Dp K S va (encAb ab) ∧ pb ≠ ps ∧
  H pb = some (.dK (encB b)) ∧ H ps = some (.dK (encS s)) ∧ S pb = none ∧ S ps = none ∧ LdIn n ab b s low ∧ n - s.length < d ∧
  ∀ r b' s' S' H', Gx pb ps S H S' H' → H' pb = some (.dK (encB b')) → H' ps = some (.dK (encS s')) → LdOut n ab b s low r b' s' → Q (.bl r) H'
end NK
end

section
set_option Elab.async false
set_option linter.all false
set_option maxRecDepth 100000
set_option maxHeartbeats 4000000
namespace NK
open PySem PySem.Spec L2
open PyProof.Rows hiding St
/-! ### list(d.values()) -/
def VwO (d v : Addr) : HO := .ext fun h => h.IsValuesView v d
theorem vwO_ok {P : Program} {w : World} {H : Hp} {h : Heap} {d v : Addr} (e : h.IsValuesView v d) : ObjOk P w H h v (VwO d v) := ⟨e, let ⟨o, ho, _⟩ := e; ⟨o, ho⟩, fun _ _ q k => let ⟨o, ho, x⟩ := q; ⟨o, k o ho, x⟩⟩
def tVals (te : TE) : TE := fun σ H Q => te σ H fun x H1 => ∃ d kvs, x = .ref d ∧ H1 d = some (.dK kvs) ∧ ∀ v, H1 v = none → Q (.ref v) (upd H1 v (VwO d v))
def rListV : List V → Hp → VK → Prop := fun xs H Q => ∃ d v kvs, xs = [.ref v] ∧ H v = some (VwO d v) ∧ H d = some (.dK kvs) ∧ ∀ q, H q = none → Q (.ref q) (upd H q (.lst (kvs.map (·.2))))
theorem paired_at {α β : Type} {F : α → β → Prop} : ∀ {l : List α} {m : List β} {j : Nat} {a : α} {b : β}, Paired F l m → l[j]? = some a → m[j]? = some b → F a b
  | _, _, 0, _, _, .cons h _, h1, h2 => by
    have h1 := Option.some.inj h1
    have h2 := Option.some.inj h2
    subst h1 h2
    exact h
  | _, _, j + 1, _, _, .cons _ t, h1, h2 => paired_at (j := j) t h1 h2
section
variable {X : Cx} {e : Expr} {te : TE} {apos cpos : Pos}
theorem pe_vals (he : PE X e te) (hbase : attributeBase e "values" X.env (eval e X.env) = eval e X.env := by rfl) (hline : (apos.endLine == cpos.line) = true := by rfl) : PE X (.Call (.Attribute e "values" apos) [] [] cpos) (tVals te) := by
  refine ⟨fun pins s σ H Q I h => ?_⟩
  refine wpAny_Call_method (T := "dict") (id := "dict.values") hbase rfl hline PySem.F.plainAttrs_dict PySem.F.slot_dict_values PySem.F.type_dict_values (thn (he.run pins s σ H _ I h) fun u s1 ⟨x, H1, I1, rx, d, kvs, ex, hd, q⟩ => ?_)
  subst ex
  obtain rfl : u = Value.ref d := rx
  obtain ⟨hz, low, vs, kv, hm⟩ := (show ObjOk X.prog X.w H1 s1.heap d (.dK kvs) from I1.hok d _ hd)
  refine ⟨hm.typeIs, hm.mapOf.noDict, ?_⟩
  refine method_meetsIn PySem.F.slot_dict_values PySem.F.entry_dict_values rfl (PySem.evalArgs_none ⟨rfl, hm.typeIs, PySem.F.args_dict_values_1 _, _, meets_dict_values (mixKind X.prog X.w) d low, ⟨vs, hm⟩, ?_⟩)
  exact ⟨.ref s1.heap.objs.size, _, I1.laid (t' := s1.toks) (fun b u e => Heap.get?_push_of_some _ e) (Nat.le_refl _) (vwO_ok ⟨_, Heap.get?_push_size _ rfl, rfl, rfl⟩), rfl, q _ (I1.hok.fresh (Nat.le_refl _))⟩
theorem cr_listV (hc : X.calm = true) : CallR X (.type "list") rListV := by
  intro pins s σ H xs us Q I r h
  obtain ⟨d, v, kvs, rfl, hv, hd, q⟩ := h
  obtain ⟨u, rfl, ru⟩ := vals1 r
  obtain rfl : u = Value.ref v := ru
  obtain ⟨hz, low, vs, kv, hm⟩ := (show ObjOk X.prog X.w H s.heap d (.dK kvs) from I.hok d _ hd)
  obtain ⟨ep, hat⟩ := hm.dictAt
  have hl : kvs.length = vs.length := Paired.length kv
  have hview : s.heap.IsValuesView v d := (I.hok v _ hv).1
  refine PySem.W.kdl_call (PySem.W.kdl_values (knd := mixKind X.prog X.w) (kvs := vs) (ep := ep)) (I.ok.hd hc) ⟨hview, hat⟩ (by rw [← hl]; exact hz) fun h' tk acc' c' hkeep hS hacc => ?_
  refine ⟨.ref s.heap.objs.size, upd H s.heap.objs.size (.lst (kvs.map (·.2))), I.laid hkeep (Nat.le_refl _) ?_, rfl, q _ (I.hok.fresh (Nat.le_refl _))⟩
  show ObjOk X.prog X.w _ _ _ (.lst (kvs.map (·.2)))
  refine ⟨by rw [List.length_map]; exact hz, acc'.toList, c', ?_, by rw [Array.toArray_toList]; exact hS⟩
  have el : acc'.toList.length = acc'.size := by simp
  refine vals_of_at (by rw [List.length_map, el, hacc.1, hl]) fun j x z h1 h2 => ?_
  obtain ⟨k, hk⟩ := hacc.2 j z (by rw [← Array.getElem?_toList]; exact h2)
  rw [List.getElem?_map] at h1
  cases h3 : kvs[j]? with
  | none => rw [h3] at h1; cases h1
  | some p =>
    rw [h3] at h1
    have h1 := Option.some.inj h1
    subst h1
    exact (paired_at kv h3 hk).2
end
end NK
end

section
set_option Elab.async false
set_option linter.all false
set_option maxRecDepth 100000
set_option maxHeartbeats 4000000
namespace NK
open PySem PySem.Spec L2
open PyProof.Rows hiding St
/-! ### enumerate(tuple), enumerate(o) -/
/-- the tuple at a, each item in a new pair -/
def IteT (K : PySem.W.Frag) (a : Addr) : It :=
  ⟨fun i H => ∃ (xs : List V) (x : V), SqT K H a xs ∧ xs[i]? = some x, fun i H v H' => ∃ T x, v = .ref T ∧ H T = none ∧ H' = upd H T (.tup [.int (i : Nat), x]) ∧ ∀ xs, SqT K H a xs → xs[i]? = some x, fun i H => ∃ xs : List V, SqT K H a xs ∧ xs.length ≤ i⟩
def iEnT (K : PySem.W.Frag) (te : TE) : TI := fun σ H R => te σ H fun x H1 => ∃ a xs, x = .ref a ∧ SqT K H1 a xs ∧ R (IteT K a) H1
abbrev iEnO (K : PySem.W.Frag) (C f : Str) (te : TE) : TI := fun σ H R => te σ H fun x H1 => ∃ a dx fs t xs, x = .ref a ∧ H1 a = some (.ins (He.ga K C) dx fs) ∧ fs.lookup f = some (.ref t) ∧ SqT K H1 t xs ∧ R (IteT K t) H1
theorem walk_enumT {K : PySem.W.Frag} {a : Addr} {xs : List V} : Walk (IteT K a) xs.length (fun H => SqT K H a xs) (YPair (fun i => some (.int (i : Nat))) (fun i => xs[i]?)) := by
  refine ⟨fun i _ hi q => ⟨xs, xs[i], q, by simp [hi]⟩, fun _ q => ⟨xs, q, Nat.le_refl _⟩, fun i H v H' _ q y => ?_⟩
  obtain ⟨T, x, h1, h2, h3, h4⟩ := y
  exact ⟨T, .int (i : Nat), x, h1, h2, h3, rfl, h4 xs q⟩
def enumO (it : Addr) : Obj := { cls := .type "enumerate", data := .fields #[.none, .bool false, .ref it, rawInt 0, .none, .none] }
section
variable {prog : Program} {w : World} {A : Around} {E : Value → Shared → Prop} {s : Shared}
theorem enum_made {v : Value} {St : Addr → Shared → Prop} {R : Result → Shared → Prop} (hi : ∀ (E' Q' : Value → Shared → Prop), (∀ it s', St it s' → Q' (.ref it) s') → wpAny (model prog w) A (pyIter v) Q' E' s)
    (h : ∀ it s', St it s' → R (.ok (.ret (.ref s'.heap.objs.size))) { s' with heap := s'.heap.push (enumO it) }) :
    wpAny (model prog w) A (Builtin.«enumerate.__new__» ⟨[.type "enumerate", v], []⟩) (fun fin s' => ∃ u, fin = .done (.ret u) ∧ R (.ok (.ret u)) s') (fun e s' => R (.error e) s') s := by
  have hsub := sub_enumerate
  unfold Builtin.«enumerate.__new__»
  generalize hPI : pyIter = PI
  wp_walk
  refine wpAny_stack_any fun st => wpAny_pure ?_
  have go : ∀ {Q' E' : Value → Shared → Prop}, (∀ it s', St it s' → Q' (.ref it) s') → wpAny (model prog w) A (PI v) Q' E' s := fun q => by
    subst hPI
    exact hi _ _ q
  split
  · rename_i c _ _ _ _ _
    cases (c == Value.type "enumerate")
    · wp_walk
      refine go fun it s' hs => ?_
      obtain ⟨hp, g, d, tk, os⟩ := s'
      have q := h it _ hs
      unfold enumO at q
      wp_walk
      exact ⟨_, rfl, q⟩
    · wp_walk
      refine go fun it s' hs => ?_
      obtain ⟨hp, g, d, tk, os⟩ := s'
      have q := h it _ hs
      unfold enumO at q
      wp_walk
      exact ⟨_, rfl, q⟩
  · wp_walk
    refine go fun it s' hs => ?_
    obtain ⟨hp, g, d, tk, os⟩ := s'
    have q := h it _ hs
    unfold enumO at q
    wp_walk
    exact ⟨_, rfl, q⟩
theorem call_enumG {v : Value} {St : Addr → Shared → Prop} {Q : Value → Shared → Prop} (hi : ∀ (E' Q' : Value → Shared → Prop), (∀ it s', St it s' → Q' (.ref it) s') → wpAny (model prog w) A.in1.in1 (pyIter v) Q' E' s)
    (h : ∀ it s', St it s' → Q (.ref s'.heap.objs.size) { s' with heap := s'.heap.push (enumO it) }) :
    wpAny (model prog w) A (call (.type "enumerate") [v]) Q E s := by
  refine callType_codes (Q₁ := fun obj s₁ => s₁.TypeIs obj "enumerate" ∧ Q obj s₁) F.called_enumerate (F.typeCall_enumerate_1 _) F.entry_object_init (codeAny_call_builtin F.called_enumerate.plain F.entry_enumerate_new (wpAny_of_eq (F.newCall_enumerate_1 _) ?_)) fun obj s₁ hq => ⟨hq.1, F.args_object_init_2 obj _, ?_⟩
  · refine wpAny_mono (enum_made (St := St) (R := wants (fun obj s₁ => s₁.TypeIs obj "enumerate" ∧ Q obj s₁) E) hi fun it s' hs => ⟨⟨_, Heap.get?_push_size _ rfl, rfl⟩, h it s' hs⟩) (fun fin s' q => ?_) fun _ _ z => z
    obtain ⟨u, rfl, q⟩ := q
    exact q
  · exact object_init_meets F.called_enumerate.init.lookup F.called_enumerate.made (by decide) prog w A.in1 _ _ ⟨hq.1, rfl, hq.2⟩
end
theorem turn_enumT {P : Program} {w : World} {K : PySem.W.Frag} {elts : List Expr} {kk : Nat} {tpos : Pos} (t e it : Addr) :
    Turn P w K (.Tuple elts kk tpos) (IteT K t) [e, it] e (fun i h => (∃ old, IsEnum h e it ((i : Nat) : Int) old) ∧ h.IsTupleIter it t i ∧ e ≠ it) where
  mem := List.mem_cons_self
  obj := fun i h ⟨⟨old, he⟩, ⟨o, ho, _, hd⟩, _⟩ b hb => by
    rcases List.mem_cons.mp hb with z | z
    · exact z ▸ ⟨_, he, fun v q => nomatch q⟩
    · obtain rfl := List.mem_singleton.mp z
      exact ⟨o, ho, fun v q => by rw [hd] at q; cases q⟩
  keep := fun i h h' ⟨⟨old, he⟩, hi, hne⟩ k => ⟨⟨old, k e List.mem_cons_self _ he⟩, hi.at fun o q => k it (List.mem_cons_of_mem _ List.mem_cons_self) o q, hne⟩
  item := by
    rintro X rfl rfl rfl hc i pins s σ H E I hf ⟨⟨old, he⟩, hit, hne⟩ ⟨xs, x, hq, hx⟩
    obtain ⟨its, rv, p, hz⟩ := I.tuple hq
    obtain ⟨u, hu, ru⟩ := rv.get hx
    have hel : e < s.heap.objs.size := Heap.lt_size he
    have hil : it < s.heap.objs.size := let ⟨_, q, _⟩ := hit; Heap.lt_size q
    have ht : s.heap.IsTuple t its.toArray := p
    have te : e ≠ t := fun z => by
      obtain ⟨o, ho, hcl, _⟩ := ht
      rw [← z, he] at ho
      cases ho
      injection hcl with z2
      exact absurd z2 (by decide)
    have tit : t ≠ it := fun z => by
      obtain ⟨o, ho, hcl, _⟩ := ht
      obtain ⟨o2, ho2, hcl2, _⟩ := hit
      rw [z, ho2] at ho
      cases ho
      rw [hcl2] at hcl
      injection hcl with z2
      exact absurd z2 (by decide)
    have D := Draws.tuple (prog := X.prog) (w := X.w) (A := X.A.in1) (by simp [I.ok.hd hc]) it t tit its.toArray
    have hlt : i < its.toArray.size := by
      have := (List.getElem?_eq_some_iff.mp hu).1
      simpa using this
    refine wpAny_pyNext_enum_itemD D he ⟨hit, ht⟩ hlt hne (by simp [te, hne]) fun y h' tk hy ho hst hT hsz hk => ?_
    have ey : y = u := by
      have hy : its.toArray[i]? = some y := hy
      rw [List.getElem?_toArray, hu] at hy
      exact (Option.some.inj hy).symm
    subst ey
    refine ⟨_, rfl, wpAny_letOwnedTupleGo_enum (s := { s with heap := h', toks := tk + 1 }) ho fun h'' he' sb => ?_⟩
    have hT2 : h''.get? s.heap.objs.size = some { cls := .type "tuple", data := .seq #[.int i tk, y] } := (sb.2 _ (Nat.ne_of_gt hel)).trans hT
    have new : ObjOk X.prog X.w (upd H s.heap.objs.size (.tup [.int (i : Nat), x])) h'' s.heap.objs.size (.tup [.int (i : Nat), x]) :=
      ⟨(by decide : 2 ≤ sizeLine), [.int i tk, y], .cons ⟨_, rfl⟩ (.cons ru .nil), ⟨_, hT2, rfl, _, rfl⟩⟩
    have I1 : Inv X pins σ (upd H s.heap.objs.size (.tup [.int (i : Nat), x])) { s with heap := h'', toks := tk + 1 } :=
      I.turnedNew (ch := [e, it]) (fun b ob hb q => (sb.2 b (fun z => hb (z ▸ List.mem_cons_self))).trans (hk b ob (fun z => hb (z ▸ List.mem_cons_self)) (fun z => hb (z ▸ List.mem_cons_of_mem _ List.mem_cons_self)) q)) hf (Nat.le_refl _) new
    refine ⟨.ref s.heap.objs.size, _, I1, rfl, ⟨_, x, rfl, I.hok.fresh (Nat.le_refl _), rfl, fun ys hy => by rw [I.tuple_inj hy hq]; exact hx⟩, ⟨⟨y, ?_⟩, hst.1.at fun o q => (sb.2 it (Ne.symm hne)).trans q, hne⟩, fun b hb => ?_⟩
    · rw [show ((i + 1 : Nat) : Int) = (i : Int) + 1 by omega]
      exact he'
    · have hb' : b < s.heap.objs.size := by
        rcases List.mem_cons.mp hb with z | z
        · exact z ▸ hel
        · exact List.mem_singleton.mp z ▸ hil
      rw [upd_ne (Nat.ne_of_lt hb')]
      exact (hf b hb).1
  done := by
    rintro X rfl rfl rfl hc i pins s σ H E I hf ⟨⟨old, he⟩, hit, hne⟩ ⟨xs, hq, hx⟩
    obtain ⟨its, rv, p, hz⟩ := I.tuple hq
    have ht : s.heap.IsTuple t its.toArray := p
    obtain ⟨f0, f1, f2, f3, f4, f5⟩ := hf it (List.mem_cons_of_mem _ List.mem_cons_self)
    have tit : t ≠ it := fun z => by
      obtain ⟨o, ho, hcl, _⟩ := ht
      obtain ⟨o2, ho2, hcl2, _⟩ := hit
      rw [z, ho2] at ho
      cases ho
      rw [hcl2] at hcl
      injection hcl with z2
      exact absurd z2 (by decide)
    have hl := rv.length
    have hn : its.toArray[i]? = none := by
      rw [List.getElem?_toArray]
      exact List.getElem?_eq_none (by omega)
    have hhd := I.ok.hd hc
    have D : Draws X.prog X.w X.A.in1 it [it, t] i (fun _ _ => True) (fun j h => j = i ∧ h.IsTupleIter it t i ∧ h.IsTuple t its.toArray) :=
      ⟨fun j h st => let ⟨o, ho, _⟩ := st.2.1; ⟨o, ho⟩, fun j h h' st k => ⟨st.1, st.2.1.at fun o q => k it List.mem_cons_self o q, st.2.2.at fun o q => k t (List.mem_cons_of_mem _ List.mem_cons_self) o q⟩,
        fun j s Q E hj st _ => absurd st.1 (Nat.ne_of_lt hj), fun s Q E st hE => wpAny_nextOf_tuple_end (by simp [hhd]) st.2.1 st.2.2 hn hE⟩
    exact wpAny_pyNext_enum_endD D he ⟨rfl, hit, ht⟩ fun h' eb => ⟨rfl, I.turned (t' := s.toks) (fun b o hb q => eb b o hb q) f0 f1 f3 f4 f5⟩
  self := fun A i s Q E ⟨⟨_, he⟩, _⟩ h => wpAny_pyIter_enum he h
section
variable {X : Cx} {e : Expr} {te : TE} {p pos tpos : Pos} {elts : List Expr} {kk k : Nat} {C f : Str}
/-- from the tuple's iterator to the enumerate's walk -/
theorem enum_on {pins : List (Addr × Obj)} {σ : L2.St} {H : Hp} {s' : Shared} {t it : Addr} {xs : List V} {R : It → Hp → Prop} (I : Inv X pins σ H s') (hit : s'.heap.IsTupleIter it t 0) (fp : FpOk X pins H it) (hq : SqT X.K H t xs) (q : R (IteT X.K t) H) :
    wpAny (model X.prog X.w) X.A (pyIter (.ref s'.heap.objs.size)) (PIE X pins σ (.Tuple elts kk tpos) R) X.xe { s' with heap := s'.heap.push (enumO it) } := by
  have he : IsEnum (s'.heap.push (enumO it)) s'.heap.objs.size it 0 .none := Heap.get?_push_size _ rfl
  have hil : it < s'.heap.objs.size := let ⟨_, q, _⟩ := hit; Heap.lt_size q
  refine wpAny_pyIter_enum he ?_
  have I2 : Inv X pins σ H { s' with heap := s'.heap.push (enumO it) } := I.kept (t' := s'.toks) fun b ob q => Heap.get?_push_of_some _ q
  refine ⟨s'.heap.objs.size, [s'.heap.objs.size, it], _, _, H, rfl, I2, turn_enumT t s'.heap.objs.size it, ⟨⟨.none, he⟩, hit.at fun o q => Heap.get?_push_of_some _ q, Nat.ne_of_gt hil⟩, fun b hb => ?_, q⟩
  rcases List.mem_cons.mp hb with z | z
  · exact z ▸ I.fpOk (Nat.le_refl _) (I.hok.fresh (Nat.le_refl _))
  · exact List.mem_singleton.mp z ▸ fp
theorem pi_enumT (hg : Gl X "enumerate") (hm : X.mg "enumerate" = none) (he : PE X e te) (hs : starEach [e] X.env = [(false, eval e X.env)] := by rfl) : PI X (.Tuple elts kk tpos) (.Call (.Name "enumerate" p) [e] [] pos) (iEnT X.K te) := by
  refine ⟨fun pins s σ H R I h => ?_⟩
  have h' : tCons te tNil σ H (fun vs H1 => match vs with | [x] => ∃ a xs, x = .ref a ∧ SqT X.K H1 a xs ∧ R (IteT X.K a) H1 | _ => False) := h
  refine Call_ (ld_blt I hg hm boot_enumerate (PyProof.Rows.callWith_type1 (thn ((pa_cons he pa_nil hs).run pos pins s σ H _ I h') fun us s1 ⟨vs, H1, I1, r1, q1⟩ => ?_) hs rfl))
  match vs, q1, r1 with
  | [_], ⟨a, xs, rfl, hq, q⟩, r1 =>
  obtain ⟨u, rfl, ru⟩ := vals1 r1
  obtain rfl : u = Value.ref a := ru
  obtain ⟨its, rv, p', hz⟩ := I1.tuple hq
  have ht : s1.heap.IsTuple a its.toArray := p'
  refine call_enumG (St := fun it s' => Inv X pins σ H1 s' ∧ s'.heap.IsTupleIter it a 0 ∧ FpOk X pins H1 it) (fun E' Q' hQ' => wpAny_pyIter_tuple ht (hQ' _ _ ⟨I1.kept (t' := s1.toks) fun b ob q => Heap.get?_push_of_some _ q, ⟨_, Heap.get?_push_size _ rfl, rfl, rfl⟩, I1.fpOk (Nat.le_refl _) (I1.hok.fresh (Nat.le_refl _))⟩)) fun it s' ⟨I2, h2, fp⟩ => enum_on I2 h2 fp hq q
theorem pi_enumO (F : CalI X.prog X.w X.K X.mg X.base k C f) (hr : Room (k + 2) X.A) (hg : Gl X "enumerate") (hm : X.mg "enumerate" = none) (he : PE X e te) (hs : starEach [e] X.env = [(false, eval e X.env)] := by rfl) : PI X (.Tuple elts kk tpos) (.Call (.Name "enumerate" p) [e] [] pos) (iEnO X.K C f te) := by
  refine ⟨fun pins s σ H R I h => ?_⟩
  have h' : tCons te tNil σ H (fun vs H1 => match vs with | [x] => ∃ a dx fs t xs, x = .ref a ∧ H1 a = some (.ins (He.ga X.K C) dx fs) ∧ fs.lookup f = some (.ref t) ∧ SqT X.K H1 t xs ∧ R (IteT X.K t) H1 | _ => False) := h
  refine Call_ (ld_blt I hg hm boot_enumerate (PyProof.Rows.callWith_type1 (thn ((pa_cons he pa_nil hs).run pos pins s σ H _ I h') fun us s1 ⟨vs, H1, I1, r1, q1⟩ => ?_) hs rfl))
  match vs, q1, r1 with
  | [_], ⟨a, dx, fs, t, xs, rfl, ha, hf, ht, q⟩, r1 =>
  obtain ⟨u, rfl, ru⟩ := vals1 r1
  obtain rfl : u = Value.ref a := ru
  refine call_enumG (St := fun it s' => Inv X pins σ H1 s' ∧ s'.heap.IsTupleIter it t 0 ∧ FpOk X pins H1 it) (fun E' Q' hQ' => own_it F (.inr (.inr rfl)) hr I1 ha hf ht fun it s' I2 st fp _ => hQ' it s' ⟨I2, st, fp⟩) fun it s' ⟨I2, h2, fp⟩ => enum_on I2 h2 fp ht q
end
section
variable {K : PySem.W.Frag} {σ : L2.St} {S : Hp} {te : TE} {α : Type} {xs : List α} {enc : α → PyData} {C f : Str}
theorem wk_enumT {a : Addr} {ys : List V} (h : SqT K S a ys) (hd : DpAll K S ys (xs.map enc)) : Wk (IteT K a) S (plc xs) (RP K enc) := by
  have w := walk_enumT (K := K) (a := a) (xs := ys)
  have hl : (plc xs).length = ys.length := by rw [plc_len, DpAll.len hd, List.length_map]
  unfold Wk
  rw [hl]
  refine w.mono (fun H' e' => Same.sqT e' h) fun i H x H' hi eG hy S' s1 s2 => ?_
  obtain ⟨T, x1, y1, rfl, hT, rfl, h1, h2⟩ := hy
  have h1 : V.int (i : Nat) = x1 := Option.some.inj h1
  subst h1
  obtain ⟨d, e4, e5⟩ := DpAll.get hd h2
  rw [List.getElem?_map] at e4
  cases h3 : xs[i]? with
  | none => rw [h3] at e4; cases e4
  | some z =>
    rw [h3] at e4
    have e4 := Option.some.inj e4
    subst e4
    exact ⟨_, Gw.new s2 hT, (i, z), plc_at.mpr ⟨rfl, h3⟩, .tup (SqT.of upd_same) (.cons (.int _) (.cons (Dp.up (s1.trans (Same.new (s2.free hT))) e5) .nil))⟩
theorem gi_enT (h : G te σ S (D K (.tuple (xs.map enc)))) : GI (iEnT K te) σ S (plc xs) (RP K enc) := fun S1 H1 e b R q => h S1 H1 e b _ fun v S2 H2 e2 r => by
  obtain ⟨a, ys, rfl, ha, hd⟩ := Dp.tupI r
  exact ⟨a, ys, rfl, Same.sqT e2.sh ha, q _ S2 H2 e2 (wk_enumT ha hd)⟩
theorem gi_enO (h : G te σ S (I1 K C f (.tuple (xs.map enc)))) : GI (iEnO K C f te) σ S (plc xs) (RP K enc) := fun S1 H1 e b R q => h S1 H1 e b _ fun v S2 H2 e2 ⟨a, dx, t, ev, ha, ht⟩ => by
  obtain ⟨p, ys, rfl, hp, hd⟩ := Dp.tupI ht
  exact ⟨a, dx, _, p, ys, ev, e2.sh _ _ ha, by simp [List.lookup], Same.sqT e2.sh hp, q _ S2 H2 e2 (wk_enumT hp hd)⟩
end
end NK
end

section
set_option Elab.async false
set_option linter.all false
set_option maxRecDepth 100000
set_option maxHeartbeats 4000000
namespace NK
open PySem PySem.Spec L2
open PyProof.Rows hiding St
section
variable {K : PySem.W.Frag} {w : World} {σ : L2.St} {S0 H0 S H : Hp} {ta tb te : TE} {R T : Rel} {E : Ends} {u : TS} {α : Type}
/-- x in d, x not in d -/
theorem g_din {m : BL} {x : Nat} (ha : G ta σ S (Is (.int (x : Nat)))) (hb : G tb σ S (fun v S => ∃ p, v = .ref p ∧ S p = some (.dK (encB m)))) : G (tDIn ta tb) σ S (Is (.bl (getN m x).isSome)) := fun S1 H1 e b Q q =>
  ha S1 H1 e b _ fun v S2 H2 e2 hv => hb S2 H2 (e.trans e2.ss) e2.sh _ fun y S3 H3 e3 ⟨p, ey, hp⟩ => ⟨p, _, ey, .inl ⟨encB m, ky x, .inl (e3.sh _ _ hp), hv, rfl⟩, q _ S3 H3 (e2.trans e3) (by rw [valV_encB, Option.isSome_map])⟩
theorem g_dnotin {m : BL} {x : Nat} (ha : G ta σ S (Is (.int (x : Nat)))) (hb : G tb σ S (fun v S => ∃ p, v = .ref p ∧ S p = some (.dK (encB m)))) : G (tDNotIn ta tb) σ S (Is (.bl (!(getN m x).isSome))) := fun S1 H1 e b Q q =>
  ha S1 H1 e b _ fun v S2 H2 e2 hv => hb S2 H2 (e.trans e2.ss) e2.sh _ fun y S3 H3 e3 ⟨p, ey, hp⟩ => ⟨p, _, ey, .inl ⟨encB m, ky x, .inl (e3.sh _ _ hp), hv, rfl⟩, q _ S3 H3 (e2.trans e3) (by rw [valV_encB, Option.isSome_map])⟩
/-- x, y = [], e -/
theorem q_parL {i j : Nat} (h : G te σ S R) (e : Gw S0 H0 S H) (k : ∀ p y S1 H1, H p = none → Gw S0 H0 S1 H1 → Same S S1 → S1 p = none → H1 p = some (.lst []) → R y S1 → u E ((σ.set i (some (.ref p))).set j (some y)) H1) :
    tSeq (tPar i j (tCons (tLst tNil) (tCons te tNil))) u E σ H :=
  ⟨Nat.zero_le _, fun p hp => h S (upd H p (.lst [])) (Same.refl S) (e.sh.trans (Same.new hp)) _ fun y S1 H1 e1 r => ⟨_, _, rfl, k p y S1 H1 hp ((e.trans (Gw.mut e.sh hp)).trans e1) e1.ss (e1.none (e.sh.free hp) upd_same) (e1.hh _ _ upd_same) r⟩⟩
/-- a call whose argument is told by one of many -/
theorem g_callX {t : TA} {A : α → List V → Hp → Prop} {Rr : α → Rel} {Pp : α → Prop} (h : GA t σ S (fun vs H => ∃ a, Pp a ∧ A a vs H)) : G (tF (Pu A Rr) t) σ S (fun v H => ∃ a, Pp a ∧ Rr a v H) := fun S1 H1 e b Q q => h S1 H1 e b _ fun vs S2 H2 e2 ⟨a, pa, r⟩ => ⟨a, S2, e2.sh, r, fun v S3 H3 e3 rv => q v S3 H3 (e2.trans e3) ⟨a, pa, rv⟩⟩
/-- ints, each once, in order -/
def nubI (qs : List Int) : List Int := qs.foldr (fun q l => if q ∈ l then l else q :: l) []
theorem nubI_ok : ∀ qs : List Int, (nubI qs).Nodup ∧ ∀ q, q ∈ nubI qs ↔ q ∈ qs
  | [] => ⟨List.nodup_nil, fun _ => Iff.rfl⟩
  | q :: qs => by
    have ih := nubI_ok qs
    have e : nubI (q :: qs) = if q ∈ nubI qs then nubI qs else q :: nubI qs := rfl
    rw [e]
    by_cases h : q ∈ nubI qs
    · rw [if_pos h]
      refine ⟨ih.1, fun r => ?_⟩
      rw [ih.2, List.mem_cons]
      exact ⟨.inr, fun z => z.elim (fun e => e ▸ (ih.2 q).mp h) id⟩
    · rw [if_neg h]
      exact ⟨List.nodup_cons.mpr ⟨h, ih.1⟩, fun r => by rw [List.mem_cons, List.mem_cons, ih.2]⟩
def lvls (qs : List Int) : List Int := (nubI qs).mergeSort (PySem.W.dataLe false PyData.int)
theorem lvls_perm (qs : List Int) : (lvls qs).Perm (nubI qs) := List.mergeSort_perm _ _
theorem lvls_mem {qs : List Int} {q : Int} : q ∈ lvls qs ↔ q ∈ qs := (lvls_perm qs).mem_iff.trans ((nubI_ok qs).2 q)
theorem int_anti {a b : Int} (h1 : PySem.W.dataLe false id (PyData.int a) (.int b) = true) (h2 : PySem.W.dataLe false id (PyData.int b) (.int a) = true) : a = b := by
  have e1 : (!PySem.W.dataLt (.int b) (.int a)) = true := h1
  have e2 : (!PySem.W.dataLt (.int a) (.int b)) = true := h2
  rw [PySem.W.dataLt_int, Bool.not_eq_true', decide_eq_false_iff_not] at e1 e2
  omega
theorem lvls_asc (qs : List Int) : Asc ((lvls qs).map .int) := List.pairwise_map.mpr (PySem.W.sort_pairwise (PySem.W.sortLe_total _ _ _) (nubI qs))
theorem lvls_lt (qs : List Int) : (lvls qs).Pairwise (· < ·) := by
  have h1 := List.pairwise_map.mp (lvls_asc qs)
  have h2 : (lvls qs).Nodup := (lvls_perm qs).nodup_iff.mpr (nubI_ok qs).1
  rw [List.nodup_iff_pairwise_ne] at h2
  refine (h1.and h2).imp fun {a b} ⟨z, n⟩ => ?_
  have e1 : (!PySem.W.dataLt (.int b) (.int a)) = true := z
  rw [PySem.W.dataLt_int, Bool.not_eq_true', decide_eq_false_iff_not] at e1
  omega
theorem int_inj (a b : Int) (h : PyData.int a = .int b) : a = b := by cases h; rfl
theorem g_sortSI {qs : List Int} {RR : Rel} (h : G te σ S RR) (hR : ∀ v S, RR v S → Dp K S v (.list (qs.map .int)) ∨ Dp K S v (.tuple (qs.map .int))) (hl : qs.length ≤ 300) :
    G (tCB (rSortS K w) (tCons (tCB (rSetD K w) (tCons te tNil)) tNil)) σ S (L0 K ((lvls qs).map .int)) :=
  (g_sortS0 (g_set h hR (.inl (by rw [List.all_eq_true]; intro d hd; obtain ⟨x, _, rfl⟩ := List.mem_map.mp hd; rfl)) (by simp; omega)) (fun d h d' h' => by obtain ⟨x, _, rfl⟩ := List.mem_map.mp h; obtain ⟨y, _, rfl⟩ := List.mem_map.mp h'; rfl)
    (.inr fun d h => by obtain ⟨x, _, rfl⟩ := List.mem_map.mp h; exact ⟨fun e => (by cases e), fun xs e => (by cases e)⟩) (fun d h => by obtain ⟨x, _, rfl⟩ := List.mem_map.mp h; simp [PyData.depth])).imp fun v S2 _ ⟨es, hd, hn, hm, ha⟩ => by
    have e : es = (lvls qs).map .int := by
      refine asc_uniq (fun a b ha hb e1 e2 => ?_) ha (lvls_asc qs) (perm_of_mem hn (nodup_map int_inj ((lvls_perm qs).nodup_iff.mpr (nubI_ok qs).1)) fun d => (hm d).trans ?_)
      · obtain ⟨x, _, rfl⟩ := List.mem_map.mp ((hm a).mp ha)
        obtain ⟨y, _, rfl⟩ := List.mem_map.mp hb
        rw [int_anti e1 e2]
      · constructor
        · intro h
          obtain ⟨x, hx, rfl⟩ := List.mem_map.mp h
          exact List.mem_map_of_mem (lvls_mem.mpr hx)
        · intro h
          obtain ⟨x, hx, rfl⟩ := List.mem_map.mp h
          exact List.mem_map_of_mem (lvls_mem.mp hx)
    rw [← e]
    exact hd
end
end NK
namespace NK
open PySem PySem.Spec L2
/-- len(o) -/
theorem g_lenO {K : PySem.W.Frag} {σ : L2.St} {S : Hp} {te : TE} {C : Str} {α : Type} {A : α → Rel} {f : α → Nat} {a : α} (h : G te σ S (A a)) (hA : ∀ v S, A a v S → ∃ p dx fs, v = .ref p ∧ S p = some (.ins (He.ga K C) dx fs) ∧ fs.lookup ("__len__" : Str) = none) (hl : f a < 100000) :
    G (tCB (rLenO K C (Pu (fun a => A1 (A a)) (fun a => Is (.int (f a : Nat))))) (tCons te tNil)) σ S (Is (.int (f a : Nat))) :=
  g_cb (ga_one h) fun vs S1 H1 _ c ⟨v, e, r⟩ Q q => by
    obtain ⟨p, dx, fs, rfl, hp, _⟩ := hA v S1 r
    exact ⟨p, dx, fs, e, c _ _ hp, a, S1, c, ⟨_, rfl, r⟩, fun v S2 H2 e2 r2 => ⟨_, r2, by omega, by omega, q _ S2 H2 e2 rfl⟩⟩
end NK
end

section
set_option Elab.async false
set_option linter.all false
set_option maxRecDepth 100000
set_option maxHeartbeats 4000000
namespace NK
open PySem PySem.Spec L2
open PyProof.Rows hiding St
/-- what is no instance stands -/
def SameQ (S S' : Hp) : Prop := ∀ b o, (∀ C dx fs, o ≠ .ins C dx fs) → S b = some o → S' b = some o
section
variable {K : PySem.W.Frag} {S S' : Hp}
theorem SameQ.rd (e : SameQ S S') {a : Addr} {u : HO} (hu : ∀ C dx fs, u ≠ .ins C dx fs) (h : Rd S a u) : Rd S' a u := by
  rcases h with h | ⟨o, h⟩
  · exact .inl (e _ _ hu h)
  · exact .inr ⟨o, e _ _ (fun _ _ _ z => by cases z) h⟩
theorem SameQ.sqL (e : SameQ S S') {a : Addr} {xs : List V} (h : SqL K S a xs) : SqL K S' a xs := h.elim (fun q => .inl (SameQ.rd e (fun _ _ _ z => by cases z) q)) .inr
theorem SameQ.sqT (e : SameQ S S') {a : Addr} {xs : List V} (h : SqT K S a xs) : SqT K S' a xs := h.elim (fun q => .inl (SameQ.rd e (fun _ _ _ z => by cases z) q)) .inr
mutual
theorem Dp.upQ (e : SameQ S S') : ∀ {d : PyData} {v : V}, Dp K S v d → Dp K S' v d
  | .none, _, .non => .non
  | .bool _, _, .bl b => .bl b
  | .int _, _, .int i => .int i
  | .str _, _, .str x => .str x
  | .list _, _, .lst h t => .lst (SameQ.sqL e h) (DpAll.upQ e t)
  | .tuple _, _, .tup h t => .tup (SameQ.sqT e h) (DpAll.upQ e t)
theorem DpAll.upQ (e : SameQ S S') : ∀ {ds : List PyData} {vs : List V}, DpAll K S vs ds → DpAll K S' vs ds
  | [], _, .nil => .nil
  | _ :: _, _, .cons h t => .cons (Dp.upQ e h) (DpAll.upQ e t)
end
theorem del_sameQ {x C dx : Addr} {fs : List (Str × V)} (h : S x = some (.ins C dx fs)) : SameQ S (del S x) := fun b o ho hb => by
  have n : b ≠ x := fun z => by
    subst z
    rw [h] at hb
    exact ho C dx fs (Option.some.inj hb).symm
  rw [del_ne n]
  exact hb
end
section
variable {K : PySem.W.Frag} {w : World} {σ : L2.St} {S0 H0 S H S1 H1 : Hp} {te : TE} {R : Rel} {E : Ends} {u : TS} {x C dx : Addr} {fs : List (Str × V)} {f : Str}
theorem Gw.del (e : Gw S H S1 H1) : Gw (del S x) H (NK.del S1 x) H1 := by
  refine ⟨fun b v h => ?_, e.hh, fun b v h => ?_, fun b v h => ?_⟩
  · by_cases n : b = x
    · subst n
      rw [del_same] at h
      cases h
    · rw [del_ne n] at h ⊢
      exact e.ss b v h
  · by_cases n : b = x
    · subst n
      rw [del_same] at h
      cases h
    · rw [del_ne n] at h
      exact e.sh b v h
  · by_cases n : b = x
    · subst n
      rw [del_same, del_same]
    · rw [del_ne n, del_ne n]
      exact e.old b v h
theorem del_upd {o : HO} (h : S x = none) : NK.del (upd S x o) x = S := by
  funext b
  by_cases n : b = x
  · subst n
    rw [del_same, h]
  · rw [del_ne n, upd_ne n]
/-- self.f = e, in the midst of __init__: self is lent to e -/
theorem q_fset {i : Nat} (hi : σ[i]? = some (some (.ref x))) (h : G te σ (upd S x (.ins C dx fs)) R) (e : Gw S0 H0 S H) (hx : H x = some (.ins C dx fs)) (hs : S x = none) (hc : Cls K C) (hn : NoAttr K C f) (hl : fs.length < 1000)
    (k : ∀ y S1 H1, Gw S H (NK.del S1 x) H1 → S1 x = some (.ins C dx fs) → H1 x = some (.ins C dx fs) → R y S1 → u E σ (upd H1 x (.ins C dx (putF f y fs)))) : tSeq (sFld K (tVar i) te f) u E σ H :=
  h (upd S x (.ins C dx fs)) H (Same.refl _) (lend e.sh hx) _ fun y S1 H1 e1 r => by
    have g : Gw S H (NK.del S1 x) H1 := e1.lent hs
    have hx1 := e1.hh _ _ hx
    have hs1 : S1 x = some (.ins C dx fs) := e1.ss _ _ upd_same
    exact ⟨.ref x, hi, x, C, dx, fs, rfl, hx1, hc, hn, hl, k y S1 H1 g hs1 hx1 r⟩
theorem s_fsetL {i : Nat} (hi : σ[i]? = some (some (.ref x))) (h : G te σ (upd S x (.ins C dx fs)) R) (b : Same S H) (hx : H x = some (.ins C dx fs)) (hs : S x = none) (hc : Cls K C) (hn : NoAttr K C f) (hl : fs.length < 1000)
    (k : ∀ y S1 H1, Gw S H (NK.del S1 x) H1 → S1 x = some (.ins C dx fs) → H1 x = some (.ins C dx fs) → R y S1 → E.nx σ (upd H1 x (.ins C dx (putF f y fs)))) : sFld K (tVar i) te f E σ H :=
  h (upd S x (.ins C dx fs)) H (Same.refl _) (lend b hx) _ fun y S1 H1 e1 r => by
    have g : Gw S H (NK.del S1 x) H1 := e1.lent hs
    have hx1 := e1.hh _ _ hx
    have hs1 : S1 x = some (.ins C dx fs) := e1.ss _ _ upd_same
    exact ⟨.ref x, hi, x, C, dx, fs, rfl, hx1, hc, hn, hl, k y S1 H1 g hs1 hx1 r⟩
/-- [[] for x in a tuple] -/
theorem lc_lists {t : Addr} {xs : List V} {vs : List Nat} {i : Nat} {Q : VK} (ht : SqT K H t xs) (hz : xs.length ≤ 1000) (b : Same S H) (hw : ∀ x, wipe ((wipe σ vs).set i (some x)) vs = wipe σ vs)
    (k : ∀ (L : Addr) (ps : List Addr) (H1 : Hp), Gw S H S H1 → H L = none → H1 L = some (.lst (ps.map V.ref)) → ps.length = xs.length → ps.Nodup → (∀ p ∈ ps, H p = none ∧ p ≠ L ∧ H1 p = some (.lst [])) → Q (.ref L) H1) :
    tLc (fun _ H R => R (Itt K t) H) (gName i) tYes (tLst tNil) vs σ H Q := fun L hL => by
  refine lc_it (walk_tup (K := K) (a := t) (xs := xs)) (fun i H' => ∃ ps : List Addr, Gw S H S H' ∧ H' L = some (.lst (ps.map V.ref)) ∧ ps.length = i ∧ ps.Nodup ∧ ∀ p ∈ ps, H p = none ∧ p ≠ L ∧ H' p = some (.lst [])) ?_ ?_ ?_ ?_
  · exact ⟨[], Gw.mut b hL, upd_same, rfl, List.nodup_nil, fun p hp => by cases hp⟩
  · rintro i H' _ ⟨ps, g, _⟩
    exact Same.sqT g.hh ht
  · rintro i y H2 H3 hi ⟨ps, g, hL2, hln, hnd, hps⟩ ⟨rfl, _⟩
    refine ⟨hw y, ?_⟩
    unfold tYes
    refine iteT ⟨Nat.zero_le _, fun p hp => ?_⟩
    have npL : p ≠ L := fun e => by
      subst e
      rw [hL2] at hp
      cases hp
    refine ⟨ps.map V.ref, ?_, ?_, ps ++ [p], ?_, ?_, ?_, ?_, ?_⟩
    · rw [upd_ne npL.symm]
      exact hL2
    · rw [List.length_map, hln]
      exact Nat.lt_of_lt_of_le (Nat.lt_of_lt_of_le hi hz) (by decide)
    · exact (g.trans (Gw.mut g.sh hp)).chg hL (b.free hL) fun b hb => upd_ne hb
    · rw [upd_same, List.map_append]
      rfl
    · rw [List.length_append, hln]
      rfl
    · rw [List.nodup_append]
      refine ⟨hnd, List.nodup_cons.mpr ⟨by simp, List.nodup_nil⟩, fun a ha c hc => ?_⟩
      rw [List.mem_singleton.mp hc]
      intro e
      subst e
      rw [(hps a ha).2.2] at hp
      cases hp
    · intro q hq
      rcases List.mem_append.mp hq with hq | hq
      · obtain ⟨h1, h2, h3⟩ := hps q hq
        refine ⟨h1, h2, ?_⟩
        rw [upd_ne h2, upd_ne (ne_of_none h3 hp)]
        exact h3
      · have e := List.mem_singleton.mp hq
        subst e
        refine ⟨g.hh.free hp, npL, ?_⟩
        rw [upd_ne npL, upd_same]
  · rintro H' ⟨ps, g, hL2, hln, hnd, hps⟩
    exact k L ps H' g hL hL2 hln hnd hps
theorem g_tupOfE {α : Type} {Pp : α → Prop} {enc : α → List PyData} (h : G te σ S (fun v S => ∃ a, Pp a ∧ Dp K S v (.list (enc a)))) : G (tCB (rTupOf K) (tCons te tNil)) σ S (fun v S => ∃ a, Pp a ∧ Dp K S v (.tuple (enc a))) :=
  g_cb (ga_one h) fun vs S1 H1 _ c ⟨v, e, z, hz, r⟩ Q q => by
    obtain ⟨a, xs, rfl, e2, h2⟩ := Dp.lstI r
    exact ⟨a, xs, e, .inl ⟨Same.sqL c e2, fun l hl => q _ _ _ (Gw.new c hl) ⟨z, hz, .tup (SqT.of upd_same) (dall_new h2 (c.free hl))⟩⟩⟩
/-- many that change no more -/
theorem Gw.frzL {ps : List (Addr × HO)} (g : Gw S0 H0 S H) (hn : (ps.map (·.1)).Nodup) (h : ∀ p ∈ ps, H0 p.1 = Option.none ∧ S p.1 = Option.none ∧ H p.1 = some p.2) : ∃ S', Gw S0 H0 S' H ∧ Same S S' ∧ (∀ p ∈ ps, S' p.1 = some p.2) ∧ ∀ b, (∀ p ∈ ps, p.1 ≠ b) → S' b = S b := by
  induction ps generalizing S with
  | nil => exact ⟨S, g, Same.refl _, fun p hp => (by cases hp), fun _ _ => rfl⟩
  | cons a ps ih =>
    obtain ⟨h1, h2, h3⟩ := h a List.mem_cons_self
    have hn := List.nodup_cons.mp hn
    have g1 := g.frz h1 h2 h3
    obtain ⟨S', g2, s2, a2, o2⟩ := ih g1 hn.2 fun p hp => by
      obtain ⟨b1, b2, b3⟩ := h p (List.mem_cons_of_mem _ hp)
      refine ⟨b1, ?_, b3⟩
      rw [upd_ne (fun e => hn.1 (List.mem_map.mpr ⟨p, hp, e⟩))]
      exact b2
    refine ⟨S', g2, (Same.new h2).trans s2, fun p hp => ?_, fun b hb => ?_⟩
    · rcases List.mem_cons.mp hp with rfl | hp
      · exact s2 _ _ upd_same
      · exact a2 p hp
    · rw [o2 b fun p hp => hb p (List.mem_cons_of_mem _ hp), upd_ne (hb a List.mem_cons_self).symm]
end
end NK
namespace NK
open PySem PySem.Spec L2
section
variable {x : Addr} {S H S1 H1 S2 H2 : Hp} {o : HO} {a : Addr}
abbrev Gy (x : Addr) := Gx x x
theorem Gy.on (g : Gy x S H S1 H1) (e : Gw S1 H1 S2 H2) (hx : ∃ o, H1 x = some o) : Gy x S H S2 H2 := Gx.on g e hx hx
theorem Gy.wr (g : Gy x S H S1 H1) (hs : S1 x = none) : Gy x S H S1 (upd H1 x o) := Gx.wrp g hs
theorem Gy.chg (g : Gy x S H S1 H1) (h : H a = none) (hs : S1 a = none) (hb : ∀ b, b ≠ a → H2 b = H1 b) : Gy x S H S1 H2 :=
  ⟨g.ss, fun b u n1 n2 e => (hb b (ne_of_none e h)).trans (g.hh b u n1 n2 e), fun b u e => (hb b (ne_of_none e hs)).trans (g.sh b u e), g.old⟩
theorem Gy.frz (g : Gy x S H S1 H1) (h : H a = none) (hs : S1 a = none) (h1 : H1 a = some o) : Gy x S H (upd S1 a o) H1 := by
  refine ⟨g.ss.trans (Same.new hs), g.hh, fun b u hb => ?_, fun b u hb => ?_⟩
  · by_cases e : b = a
    · subst e
      rw [upd_same] at hb
      rw [h1]
      exact hb
    · rw [upd_ne e] at hb
      exact g.sh b u hb
  · rw [upd_ne (ne_of_none hb h)]
    exact g.old b u hb
theorem Gy.frzL {ps : List (Addr × HO)} (g : Gy x S H S1 H1) (hn : (ps.map (·.1)).Nodup) (h : ∀ p ∈ ps, H p.1 = none ∧ S1 p.1 = none ∧ H1 p.1 = some p.2) : ∃ S', Gy x S H S' H1 ∧ Same S1 S' ∧ (∀ p ∈ ps, S' p.1 = some p.2) ∧ ∀ b, (∀ p ∈ ps, p.1 ≠ b) → S' b = S1 b := by
  induction ps generalizing S1 with
  | nil => exact ⟨S1, g, Same.refl _, fun p hp => (by cases hp), fun _ _ => rfl⟩
  | cons a ps ih =>
    obtain ⟨h1, h2, h3⟩ := h a List.mem_cons_self
    have hn := List.nodup_cons.mp hn
    have g1 := g.frz h1 h2 h3
    obtain ⟨S', g2, s2, a2, o2⟩ := ih g1 hn.2 fun p hp => by
      obtain ⟨b1, b2, b3⟩ := h p (List.mem_cons_of_mem _ hp)
      refine ⟨b1, ?_, b3⟩
      rw [upd_ne (fun e => hn.1 (List.mem_map.mpr ⟨p, hp, e⟩))]
      exact b2
    refine ⟨S', g2, (Same.new h2).trans s2, fun p hp => ?_, fun b hb => ?_⟩
    · rcases List.mem_cons.mp hp with rfl | hp
      · exact s2 _ _ upd_same
      · exact a2 p hp
    · rw [o2 b fun p hp => hb p (List.mem_cons_of_mem _ hp), upd_ne (hb a List.mem_cons_self).symm]
theorem Gx.free {p q : Addr} (g : Gx p q S H S1 H1) (hp : ∃ o, H p = some o) (hq : ∃ o, H q = some o) {b : Addr} (h : H1 b = none) (h2 : b ≠ p) (h3 : b ≠ q) : H b = none := by
  cases e : H b with
  | none => rfl
  | some u =>
    rw [g.hh b u h2 h3 e] at h
    cases h
end
end NK
namespace NK
open PySem PySem.Spec L2
/-- self.f = [[] for x in a tuple of self] -/
theorem q_lists {K : PySem.W.Frag} {σ : L2.St} {S H : Hp} {te : TE} {E : Ends} {u : TS} {x C dx t : Addr} {fs : List (Str × V)} {f : Str} {vs : List Nat} {i j : Nat} {xs : List V} (hi : σ[i]? = some (some (.ref x))) (ht : te σ H (fun v H1 => v = .ref t ∧ H1 = H)) (mono : ∀ Q : VK, Q (.ref t) H → te σ H Q)
    (hq : SqT K H t xs) (hz : xs.length ≤ 900) (b : Same S H) (hw : ∀ x, wipe ((wipe σ vs).set j (some x)) vs = wipe σ vs) (hx : H x = some (.ins C dx fs)) (hc : Cls K C) (hn : NoAttr K C f) (hl : fs.length < 1000)
    (k : ∀ (L : Addr) (ps : List Addr) (H1 : Hp), Gw S H S H1 → H L = none → H1 L = some (.lst (ps.map V.ref)) → ps.length = xs.length → ps.Nodup → (∀ p ∈ ps, H p = none ∧ p ≠ L ∧ H1 p = some (.lst [])) → u E σ (upd H1 x (.ins C dx (putF f (.ref L) fs)))) :
    tSeq (sFld K (tVar i) (tLc (iTup K te) (gName j) tYes (tLst tNil) vs) f) u E σ H := by
  refine mono _ ⟨t, rfl, ⟨xs, hq⟩, ?_⟩
  have q := lc_lists (K := K) (σ := σ) (S := S) (H := H) (vs := vs) (i := j) (Q := fun y H1 => tVar i σ H1 fun z H2 => ∃ a C dx fs, z = V.ref a ∧ H2 a = some (.ins C dx fs) ∧ Cls K C ∧ NoAttr K C f ∧ fs.length < 1000 ∧ u E σ (upd H2 a (.ins C dx (putF f y fs)))) hq (by omega) b hw fun L ps H1 g h1 h2 h3 h4 h5 =>
    ⟨.ref x, hi, x, C, dx, fs, rfl, g.hh _ _ hx, hc, hn, hl, k L ps H1 g h1 h2 h3 h4 h5⟩
  exact q
end NK
namespace NK
open PySem PySem.Spec L2
theorem upd_del {S : Hp} {x : Addr} {o : HO} (h : S x = some o) : upd (del S x) x o = S := by
  funext b
  by_cases n : b = x
  · subst n
    rw [upd_same, h]
  · rw [upd_ne n, del_ne n]
theorem GA.imp {σ : L2.St} {S : Hp} {t : TA} {R T : List V → Hp → Prop} (h : GA t σ S R) (i : ∀ v S2, Same S S2 → R v S2 → T v S2) : GA t σ S T := fun S1 H1 a b Q q => h S1 H1 a b Q fun v S2 H2 e r => q v S2 H2 e (i v S2 (a.trans e.ss) r)
theorem g_self {K : PySem.W.Frag} {σ : L2.St} {S : Hp} {x C dx : Addr} {fs : List (Str × V)} {f : Str} {t : V} {d : PyData} {i : Nat} (hi : σ[i]? = some (some (.ref x))) (hx : S x = some (.ins C dx fs)) (hc : Cls K C) (hn : NoAttr K C f) (hf : fs.lookup f = some t) (hd : Dp K S t d) : G (tFld K (tVar i) f) σ S (D K d) :=
  g_fld (R := fun v S => v = .ref x ∧ S x = some (.ins C dx fs) ∧ Dp K S t d) (g_var hi ⟨rfl, hx, hd⟩ fun v H H' e ⟨a, b, c⟩ => ⟨a, e _ _ b, Dp.up e c⟩) hc hn fun v S ⟨a, b, c⟩ => ⟨x, dx, fs, t, a, b, hf, c⟩
def rowF (qs : BL) (t : Nat) : List Nat := (qs.filter fun q => decide (q.1 = t)).map (·.2)
theorem rowF_mem {qs : BL} {t j : Nat} : j ∈ rowF qs t ↔ (t, j) ∈ qs := by
  unfold rowF
  rw [List.mem_map]
  constructor
  · rintro ⟨q, h1, rfl⟩
    have := List.mem_filter.mp h1
    have e := of_decide_eq_true this.2
    rw [← e]
    exact this.1
  · exact fun h => ⟨(t, j), List.mem_filter.mpr ⟨h, by simp⟩, rfl⟩
theorem rowF_nd {qs : BL} (h : qs.Nodup) (t : Nat) : (rowF qs t).Nodup := by
  unfold rowF
  rw [List.nodup_iff_pairwise_ne, List.pairwise_map]
  have h1 := (List.nodup_iff_pairwise_ne.mp (h.filter fun q => decide (q.1 = t)))
  refine List.Pairwise.imp_of_mem (fun {a b} ha hb hne e => hne ?_) h1
  have e1 := of_decide_eq_true (List.mem_filter.mp ha).2
  have e2 := of_decide_eq_true (List.mem_filter.mp hb).2
  exact Prod.ext (e1.trans e2.symm) e
theorem rowF_snoc {qs : BL} {q : Nat × Nat} {t : Nat} : rowF (qs ++ [q]) t = if q.1 = t then rowF qs t ++ [q.2] else rowF qs t := by
  unfold rowF
  rw [List.filter_append, List.map_append]
  by_cases e : q.1 = t
  · rw [if_pos e]
    simp [e]
  · rw [if_neg e]
    simp [e]
end NK
end

section
set_option Elab.async false
set_option linter.all false
set_option maxRecDepth 100000
set_option maxHeartbeats 4000000
namespace NK
open PySem PySem.Spec L2
open PyProof.Rows hiding St
/-! ### defs with weights=None -/
structure CalK (P : Program) (w : World) (K : PySem.W.Frag) (mg : Str → Option Value) (base : Heap) (k : Nat) (x : Str) (n : Nat) (sp : Sp) : Prop where
  ex : ∃ fd ps, FnOk P w K mg base CX0 k (He.ga K x) fd ps sp ∧ KBn K fd ps n ["weights"] (fun us ws => us ++ ws) (fun vs zs => vs ++ zs) ∧ ∃ ds, Vals [V.non] ds ∧ Binds K fd ps ds
  at_ : mg x = some (.ref (He.ga K x))
  kp : PySem.W.keepIn K (.ref (He.ga K x)) = true
section
variable {P : Program} {w : World} {K : PySem.W.Frag} {mg : Str → Option Value} {base : Heap} {k j n : Nat} {x : Str} {sp : Sp}
theorem CalK.mono (F : CalK P w K mg base j x n sp) (h : j ≤ k) : CalK P w K mg base k x n sp := ⟨let ⟨fd, ps, a, b⟩ := F.ex; ⟨fd, ps, a.mono h, b⟩, F.at_, F.kp⟩
theorem fn_kw {qual : Str} {params : Arguments} {body : List Stmt} {scope : Scope} {fd : FuncData} {N ps : List Str}
    (F : FunD K x qual params body scope [] [("weights", .non)] (He.ga K x) fd) (S : FnScope N ps scope) (len : ∀ vs H Q E, sp vs H Q E → vs.length = ps.length) (hn : n + 1 = ps.length)
    (hb1 : ∀ (kV doc pm : Value) (an : Option Addr) (cdv ct : Value) (us : List Value) (z : Value), us.length = n → bindArgs (PySem.W.fnOf x qual params body scope .none kV doc pm an cdv ct) ⟨us, [(Str.ofString "weights", z)]⟩ = pure (ps.zip (us ++ [z])))
    (hb0 : ∀ (D : Addr) (doc pm : Value) (an : Option Addr) (cdv ct : Value) (us ks : List Value), us.length = n → ks.length = 1 →
      KwChain D (([Str.ofString "weights"]).zip ks) (bindArgs (PySem.W.fnOf x qual params body scope .none (.ref D) doc pm an cdv ct) ⟨us, []⟩) (ps.zip (us ++ ks)))
    (hbody : ∀ (cdv : Value) (A : Around) (outer : List Env) (s : Shared) (H : Hp) (vs : List V) (Q : VK) (E : XK), Room k (A.deeper (envOfC qual scope s.heap.objs.size (He.ga K x) cdv)) → sp vs H Q E →
      ∃ t, PSs (cxOf CX0 P w K mg base N qual scope (He.ga K x) cdv A outer s H E).nox body t ∧ t { nx := fun _ H' => Q .non H', rt := Q } (start N vs) H)
    (at_ : mg x = some (.ref (He.ga K x))) : CalK P w K mg base (k + 1) x n sp := by
  have G := F.ok (CX := CX0) (P := P) (w := w) (mg := mg) (base := base) (k := k) S len fun cdv A outer s H vs Q E hr h => by
    obtain ⟨t, h1, h2⟩ := hbody cdv A outer s H vs Q E hr h
    exact ⟨t, h1.nox, h2⟩
  refine ⟨⟨fd, ps, G, ⟨fun s us ws X l1 l2 => ?_, fun r1 r2 => r1.append r2⟩, F.binds0 n (by simp) (by simpa using hn) hb0⟩, at_, F.kp⟩
  obtain ⟨oc, od, dV, kV, doc, pm, an, cdv, ct, osl, rfl, lk, hcd, hD, hK⟩ := F.ex
  obtain ⟨z, rfl⟩ : ∃ z, ws = [z] := by
    match ws, l2 with
    | [z], _ => exact ⟨z, rfl⟩
  rcases hD with ⟨_, rfl⟩ | ⟨e, _⟩
  · exact .of_eq (hb1 kV doc pm an cdv ct us z l1)
  · exact absurd rfl e
end
section
variable {X : Cx} {k n : Nat} {x : Str} {sp : Sp} {e : Expr} {es : List Expr} {kws : List Keyword} {t tk : TA} {p pos : Pos}
abbrev tK (n : Nat) (sp : Sp) (t tk : TA) : TE := tCallN n 1 sp (fun vs zs => vs ++ zs) E0 t tk
theorem pe_fk1 (F : CalK X.prog X.w X.K X.mg X.base k x n sp) (hr : Room k X.A) (ha : PA X (e :: es) t) (hkw : PK X kws tk) (hg : Gl X x := by rfl)
    (hall : (backToKw pos (keywordEach kws X.env)).all (·.1.isSome) = true := by rfl) (hks : (backToKw pos (keywordEach kws X.env)).filterMap (·.1) = [("weights" : Str)] := by rfl)
    (hdb : (x == ("__debug__" : Str)) = false := by decide) (he : starEach (e :: es) X.env = (false, eval e X.env) :: starEach es X.env := by rfl)
    (hpl : ((backTo pos (starEach (e :: es) X.env)).any (·.1) || (backToKw pos (keywordEach kws X.env)).any (·.1.isNone)) = false := by rfl) :
    PE X (.Call (.Name x p) (e :: es) kws pos) (tK n sp t tk) := by
  obtain ⟨fd, ps, G, kb, _⟩ := F.ex
  exact pe_callN G hr hg F.at_ F.kp kb pass0 ha hkw hall hks hdb he hpl
theorem pe_fk0 (F : CalK X.prog X.w X.K X.mg X.base k x n sp) (hr : Room k X.A) (ha : PA X (e :: es) t) (_ : PK X [] tk) (hg : Gl X x := by rfl)
    (hdb : (x == ("__debug__" : Str)) = false := by decide) (he : starEach (e :: es) X.env = (false, eval e X.env) :: starEach es X.env := by rfl) (hpl : (backTo pos (starEach es X.env)).any (·.1) = false := by rfl) :
    PE X (.Call (.Name x p) (e :: es) [] pos) (tCall sp [.non] E0 t) := by
  obtain ⟨fd, ps, G, _, ds, hv, bd⟩ := F.ex
  exact pe_call G hr hg F.at_ F.kp bd hv pass0 ha hdb he hpl
end
section
variable {K : PySem.W.Frag} {σ : L2.St} {S : Hp} {t tk : TA} {α : Type} {A : α → List V → Hp → Prop} {R : α → Rel} {n : Nat} {a : α}
theorem g_callK {RA : List V → Hp → Prop} {RZ : Rel} (h : GA t σ S RA) (u : ∀ vs S S', Same S S' → RA vs S → RA vs S') (hk : GA tk σ S (A1 RZ)) (hA : ∀ vs z S', Same S S' → RA vs S' → RZ z S' → vs.length = n ∧ A a (vs ++ [z]) S') : G (tK n (Pu A R) t tk) σ S (R a) := fun S1 H1 e b Q q =>
  h S1 H1 e b _ fun vs S2 H2 e2 r => hk S2 H2 (e.trans e2.ss) e2.sh _ fun zs S3 H3 e3 ⟨z, ez, rz⟩ => by
    subst ez
    obtain ⟨h1, h2⟩ := hA vs z S3 ((e.trans e2.ss).trans e3.ss) (u _ _ _ e3.ss r) rz
    exact ⟨h1, rfl, a, S3, e3.sh, h2, fun v S4 H4 e4 rv => q v S4 H4 ((e2.trans e3).trans e4) rv⟩
theorem g_callK0 (h : GA t σ S (fun vs S => A a (vs ++ [.non]) S)) : G (tCall (Pu A R) [.non] E0 t) σ S (R a) := fun S1 H1 e b Q q =>
  h S1 H1 e b _ fun vs S2 H2 e2 r => ⟨a, S2, e2.sh, r, fun v S3 H3 e3 rv => q v S3 H3 (e2.trans e3) rv⟩
end
/-! ### weights -/
/-- what the weights say of each column -/
structure WtOk (f : Str → Int) : Prop where
  lo : ∀ c, 1 ≤ f c
  hi : ∀ c, f c ≤ 10 ^ 30
/-- the table at t says f -/
def TabV (f : Str → Int) : Rel := fun v S => ∃ t kvs, v = .ref t ∧ S t = some (.dK kvs) ∧ ∀ c, (valV kvs (Sum.inr c : Key) = none ∧ f c = 1) ∨ valV kvs (Sum.inr c : Key) = some (.int (f c))
theorem up_tab {f : Str → Int} : Up (TabV f) := fun v H H' e ⟨t, kvs, h1, h2, h3⟩ => ⟨t, kvs, h1, e _ _ h2, h3⟩
def WtsV (K : PySem.W.Frag) (f : Str → Int) : Rel := fun v S => ∃ a dx t, v = .ref a ∧ S a = some (.ins (He.ga K "Weights") dx [("kept_table", t)]) ∧ TabV f t S
theorem up_wts {K : PySem.W.Frag} {f : Str → Int} : Up (WtsV K f) := fun v H H' e ⟨a, dx, t, h1, h2, h3⟩ => ⟨a, dx, t, h1, e _ _ h2, up_tab _ _ _ e h3⟩
/-- None, or weights -/
def HvV (K : PySem.W.Frag) (f : Str → Int) : Rel := fun v S => (v = .non ∧ f = fun _ => 1) ∨ WtsV K f v S
theorem up_hv {K : PySem.W.Frag} {f : Str → Int} : Up (HvV K f) := fun v H H' e h => h.imp id (up_wts _ _ _ e)
end NK
namespace NK
open PySem PySem.Spec L2
/-- o(e), o an own thing -/
theorem g_callO {X : Cx} {σ : L2.St} {S : Hp} {tf tb : TE} {C : Addr} {α : Type} {A B : α → Rel} {R : α → Rel} {a : α} (hf : G tf σ S (A a)) (hA : ∀ v S, A a v S → ∃ p dx fs, v = .ref p ∧ S p = some (.ins C dx fs)) (u : Up (A a)) (hb : G tb σ S (B a)) :
    G (StX.tCallO X C (Pu (fun a => A2 (A a) (B a)) R) E0 tf (tCons tb tNil)) σ S (R a) := fun S1 H1 e b Q q =>
  hf S1 H1 e b _ fun v S2 H2 e2 r => by
    obtain ⟨p, dx, fs, ev, hp⟩ := hA v S2 r
    refine ⟨p, ev, ga_one hb S2 H2 (e.trans e2.ss) e2.sh _ fun vs S3 H3 e3 ⟨y, ey, ry⟩ => ⟨.inr ⟨dx, fs, e3.hh _ _ (e2.sh _ _ hp)⟩, a, S3, e3.sh, ⟨v, y, by rw [ey, ev], u _ _ _ e3.ss r, ry⟩, fun v S4 H4 e4 rv => q v S4 H4 ((e2.trans e3).trans e4) rv⟩⟩
end NK
namespace NK
open PySem PySem.Spec L2
theorem g_mX {K : PySem.W.Frag} {σ : L2.St} {S : Hp} {te : TE} {C m : Str} {α : Type} {A R : α → Rel} {Pp : α → Prop} {RR : Rel} (h : G te σ S (fun v S => ∃ a, Pp a ∧ A a v S)) (hA : ∀ a v S, A a v S → ∃ p dx fs, v = .ref p ∧ S p = some (.ins (He.ga K C) dx fs) ∧ fs.lookup m = none) (hR : ∀ a v S, Pp a → R a v S → RR v S) :
    G (tM C m K (Pu (fun a => A1 (A a)) R) te tNil) σ S RR := fun S1 H1 e b Q q =>
  h S1 H1 e b _ fun v S2 H2 e2 ⟨a, pa, r⟩ => by
    obtain ⟨p, dx, fs, e3, e4, e5⟩ := hA a v S2 r
    exact ⟨p, dx, fs, e3, e2.sh _ _ e4, e5, a, S2, e2.sh, ⟨v, rfl, r⟩, fun v S3 H3 e3 rv => q v S3 H3 (e2.trans e3) (hR a v S3 pa rv)⟩
end NK
end

section
set_option Elab.async false
set_option linter.all false
set_option maxRecDepth 100000
set_option maxHeartbeats 400000
namespace NK
open PySem PySem.Spec L2
open PyProof.Rows hiding St
section
variable {K : PySem.W.Frag} {σ : L2.St} {S H : Hp} {u : TS} {E : Ends} {wi : TI} {g : TG} {tt : TT} {te : TE} {vs : List Nat} {l : Addr} {α β : Type} {xs : List α} {RI : α → Rel} {RO : β → Rel}
/-- l.extend([te for x in xs if tt]) where tt looks at l itself -/
theorem q_extAt {i : Nat} {ys : List V} (hi : σ[i]? = some (some (.ref l))) (f : α → Bool) (oo : α → β) (b : Same S H) (hl : H l = some (.lst ys)) (hs : S l = none) (h : GI wi σ S xs RI) (uo : ∀ b, Up (RO b)) (hz : xs.length ≤ 100000) (hz2 : ys.length + ((xs.filter f).map oo).length ≤ 100000)
    (turn : ∀ a x S1 H1, Same S S1 → Same S1 H1 → S1 l = none → a ∈ xs → RI a x S1 → ∀ Q : L2.St → Hp → Prop, (∀ σ2 S2 H2, Gw S1 H1 S2 H2 → wipe σ2 vs = wipe σ vs → GT tt σ2 (upd S2 l (.lst ys)) (f a) → (f a = true → G te σ2 S2 (RO (oo a))) → Q σ2 H2) → g x (wipe σ vs) H1 Q)
    (k : ∀ ws S1 H1, Gw S H S1 H1 → Paired (fun x b => RO b x S1) ws ((xs.filter f).map oo) → u E σ (upd H1 l (.lst (ys ++ ws)))) :
    tSeq (tDrop (tBM K "list" rExtend (tVar i) (tCons (tLc wi g tt te vs) tNil))) u E σ H :=
  ⟨.ref l, hi, .inl ⟨rfl, ys, SqL.of hl⟩, lc_at f oo b hl hs h uo hz turn fun v S1 H1 e ⟨p, ws, ev, npl, e2, e3⟩ => ⟨l, p, ys, ws, rfl, by rw [ev], e.hh _ _ hl, e.sh _ _ e2, Nat.le_trans (by rw [paired_len e3]; exact hz2) (by decide), k ws S1 H1 e e3⟩⟩
end
end NK
end

section
set_option Elab.async false
set_option linter.all false
set_option maxRecDepth 100000
set_option maxHeartbeats 400000
namespace NK
open PySem PySem.Spec L2
open PyProof.Rows hiding St
/-! ### the law's bag: a list that changes, held as one thing -/
abbrev bagL (a b c : Int) (l : Addr) : HO := .lst [.int a, .int b, .int c, .ref l]
def BagP (l p : Addr) (h : Heap) : Prop := ∃ (a b c : Int) (its : List Value) (n : Nat), 0 ≤ a ∧ 0 ≤ b ∧ 0 ≤ c ∧ Vals [V.int a, V.int b, V.int c, V.ref l] its ∧ h.get? p = some { cls := .type "list", data := .seq its.toArray n }
def BagO (l p : Addr) : HO := .ext (BagP l p)
section
variable {X : Cx} {pins : List (Addr × Obj)} {σ : L2.St} {H : Hp} {s : Shared} {p l : Addr}
theorem bag_open (I : Inv X pins σ H s) (h : H p = some (BagO l p)) : ∃ a b c : Int, 0 ≤ a ∧ 0 ≤ b ∧ 0 ≤ c ∧ Inv X pins σ (upd H p (bagL a b c l)) s := by
  obtain ⟨⟨a, b, c, its, n, ha, hb, hc, hv, e⟩, _, _⟩ := (show ObjOk X.prog X.w H s.heap p (BagO l p) from I.hok p _ h)
  have new : ObjOk X.prog X.w (upd H p (bagL a b c l)) s.heap p (bagL a b c l) := ⟨by show 4 ≤ sizeLine; decide, its, n, hv, e⟩
  exact ⟨a, b, c, ha, hb, hc, I.write (x := p) (e := p) (t' := s.toks) (h' := s.heap) (by rw [h]; exact True.intro) (.inl rfl) (fun _ _ _ q => q) ⟨_, e⟩ new⟩
theorem bag_close {a b c : Int} (I : Inv X pins σ H s) (ha : 0 ≤ a) (hb : 0 ≤ b) (hc : 0 ≤ c) (h : H p = some (bagL a b c l)) : Inv X pins σ (upd H p (BagO l p)) s := by
  obtain ⟨_, its, n, hv, e⟩ := (show ObjOk X.prog X.w H s.heap p (bagL a b c l) from I.hok p _ h)
  have new : ObjOk X.prog X.w (upd H p (BagO l p)) s.heap p (BagO l p) := ⟨⟨a, b, c, its, n, ha, hb, hc, hv, e⟩, ⟨_, e⟩, fun h1 h2 ⟨a, b, c, its, n, ha, hb, hc, hv, e⟩ k => ⟨a, b, c, its, n, ha, hb, hc, hv, k _ e⟩⟩
  exact I.write (x := p) (e := p) (t' := s.toks) (h' := s.heap) (by rw [h]; exact True.intro) (.inl rfl) (fun _ _ _ q => q) ⟨_, e⟩ new
end
/-- the bag at p, open -/
def BagN (H : Hp) (p l : Addr) : Prop := ∃ a b c : Int, 0 ≤ a ∧ 0 ≤ b ∧ 0 ≤ c ∧ H p = some (bagL a b c l)
/-- the suite runs with the bag open -/
def tOpen (t : TS) : TS := fun D σ H => ∃ p l, H p = some (BagO l p) ∧ ∀ a b c : Int, 0 ≤ a → 0 ≤ b → 0 ≤ c → t ⟨fun σ' H' => BagN H' p l ∧ D.nx σ' (upd H' p (BagO l p)), fun v H' => BagN H' p l ∧ D.rt v (upd H' p (BagO l p)), fun σ' H' => BagN H' p l ∧ D.bk σ' (upd H' p (BagO l p)),
  fun σ' H' => BagN H' p l ∧ D.ct σ' (upd H' p (BagO l p))⟩ σ (upd H p (bagL a b c l))
/-- a new list becomes the bag -/
def tClose (t : TE) : TE := fun σ H Q => t σ H fun v H' => ∃ p l, v = .ref p ∧ BagN H' p l ∧ Q v (upd H' p (BagO l p))
section
variable {X : Cx}
theorem pss_open {st : List Stmt} {t : TS} (h : PSs X st t) : PSs X st (tOpen t) := by
  refine ⟨fun pins s σ H D I hw => ?_⟩
  obtain ⟨p, l, hp, hw⟩ := hw
  obtain ⟨a, b, c, ha, hb, hc, I1⟩ := bag_open I hp
  refine thn (h.run pins s σ _ _ I1 (hw a b c ha hb hc)) fun f s1 q => ?_
  cases f with
  | next => obtain ⟨σ', H', I2, ⟨_, _, _, h1, h2, h3, e⟩, q⟩ := q; exact ⟨σ', _, bag_close I2 h1 h2 h3 e, q⟩
  | brk => obtain ⟨σ', H', I2, ⟨_, _, _, h1, h2, h3, e⟩, q⟩ := q; exact ⟨σ', _, bag_close I2 h1 h2 h3 e, q⟩
  | cont => obtain ⟨σ', H', I2, ⟨_, _, _, h1, h2, h3, e⟩, q⟩ := q; exact ⟨σ', _, bag_close I2 h1 h2 h3 e, q⟩
  | ret v => obtain ⟨x, σ', H', I2, r, ⟨_, _, _, h1, h2, h3, e⟩, q⟩ := q; exact ⟨x, σ', _, bag_close I2 h1 h2 h3 e, r, q⟩
theorem pe_close {e : Expr} {t : TE} (h : PE X e t) : PE X e (tClose t) := by
  refine ⟨fun pins s σ H Q I hw => ?_⟩
  refine thn (h.run pins s σ _ _ I hw) fun v s1 ⟨x, H1, I2, r, p, l, e1, ⟨_, _, _, h1, h2, h3, e2⟩, q⟩ => ?_
  exact ⟨x, _, bag_close I2 h1 h2 h3 e2, r, q⟩
end
/-- the bag, closed -/
def BagV : Rel := fun v S => ∃ (p l : Addr) (ns : List Int), v = .ref p ∧ S p = some (BagO l p) ∧ S l = some (.lst (ns.map V.int)) ∧ ∀ n ∈ ns, 0 ≤ n
theorem up_bag : Up BagV := fun v H H' e ⟨p, l, ns, h1, h2, h3, h4⟩ => ⟨p, l, ns, h1, e _ _ h2, e _ _ h3, h4⟩
theorem g_close {σ : L2.St} {S : Hp} {t : TA} (h : GA t σ S (fun vs S => ∃ (a b c : Int) (l : Addr) (ns : List Int), vs = [.int a, .int b, .int c, .ref l] ∧ 0 ≤ a ∧ 0 ≤ b ∧ 0 ≤ c ∧ S l = some (.lst (ns.map V.int)) ∧ ∀ n ∈ ns, 0 ≤ n)) : G (tClose (tLst t)) σ S BagV := fun S1 H1 e b Q q =>
  h S1 H1 e b _ fun vs S2 H2 e2 ⟨a, bb, c, l, ns, ev, ha, hb, hc, hl, hn⟩ => by
    subst ev
    refine ⟨by show 4 ≤ sizeLine; decide, fun p hp => ⟨p, l, rfl, ⟨a, bb, c, ha, hb, hc, upd_same⟩, ?_⟩⟩
    rw [upd_upd]
    exact q _ _ _ (e2.trans (Gw.new e2.sh hp)) ⟨p, l, ns, rfl, upd_same, by rw [upd_ne (ne_of_none hl (e2.sh.free hp))]; exact hl, hn⟩
/-- l[i], i not below 0, as a step of l[i] += .. -/
def rGetL (K : PySem.W.Frag) : R2 := fun x y H Q => ∃ p xs i v, x = .ref p ∧ y = .int i ∧ 0 ≤ i ∧ SqL K H p xs ∧ atI xs i = some v ∧ Q v H
theorem get_list {X : Cx} : PGet X (rGetL X.K) := by
  intro pins s σ H x y v u Q I rx ry h
  obtain ⟨p, xs, i, z, rfl, rfl, h0, hq, he, q⟩ := h
  cases rx
  obtain ⟨t, rfl⟩ := ry
  obtain ⟨its, r, pl, hz⟩ := I.list hq
  obtain ⟨j, h1, h2, h3, h4, h5⟩ := atI_get he
  obtain ⟨w, ew, rw'⟩ := r.get h2
  have hl := r.length
  have hn := line63
  have hj : i.toNat = j := by
    rw [seqIndex_of h0 h5] at h1
    exact Option.some.inj h1
  exact wpAny_getItem_list pl.isList h0 (by omega) (by rw [hj]; simpa using ew) ⟨z, H, I, rw', q⟩
/-- a dict == an empty one -/
def rEqE : R2 := fun x y H Q => ∃ a b ks, x = .ref a ∧ y = .ref b ∧ H a = some (.dK ks) ∧ H b = some (.dK []) ∧ Q (.bl ks.isEmpty) H
theorem op_eqE {X : Cx} (hu : X.A.units < cLine) : OpR X (compareOp .Eq) rEqE := by
  intro pins s σ H x y v u Q I rx ry h
  obtain ⟨a, b, ks, rfl, rfl, ea, eb, q⟩ := h
  obtain rfl : v = Value.ref a := rx
  obtain rfl : u = Value.ref b := ry
  obtain ⟨_, ya, va, ra, da⟩ := (show ObjOk X.prog X.w H s.heap a (.dK ks) from I.hok a _ ea)
  obtain ⟨_, yb, vb, rb, db⟩ := (show ObjOk X.prog X.w H s.heap b (.dK []) from I.hok b _ eb)
  have hla : ks.length = va.length := ra.length
  have hlb : ([] : List (Key × V)).length = vb.length := rb.length
  have e0 : vb = [] := List.length_eq_zero_iff.mp hlb.symm
  refine PySem.W.keq_eq (knd := mixKind X.prog X.w) (r := true) ya yb da db hu (fun hl => hits_all rb ra fun p hp => ?_) (fin_bl I q ?_)
  · rw [e0] at hl
    have : ks = [] := List.length_eq_zero_iff.mp (hla.trans hl)
    rw [this] at hp
    cases hp
  · subst e0
    cases ks with
    | nil => simp at hla; simp [hla]
    | cons p t =>
      cases va with
      | nil => simp at hla
      | cons p' t' => rfl
/-! ### values at a heap that stays -/
def X1 (te : TE) (σ : L2.St) (H : Hp) (v : V) : Prop := ∀ Q : VK, Q v H → te σ H Q
section
variable {K : PySem.W.Frag} {σ : L2.St} {H : Hp} {ta tb te : TE} {v : V} {i j : Int}
theorem x_var {n : Nat} (h : σ[n]? = some (some v)) : X1 (tVar n) σ H v := fun Q q => ⟨v, h, q⟩
theorem x_c : X1 (fun _ H Q => Q v H) σ H v := fun Q q => q
theorem x_0 {g : Int → Int → V} (ha : X1 ta σ H (.int i)) (hb : X1 tb σ H (.int j)) : X1 (tOp (rI0 g) ta tb) σ H (g i j) := fun Q q => ha _ (hb _ ⟨i, j, rfl, rfl, q⟩)
theorem x_I {C : Int → Int → Prop} {g : Int → Int → V} (ha : X1 ta σ H (.int i)) (hb : X1 tb σ H (.int j)) (hc : C i j) : X1 (tOp (rI C g) ta tb) σ H (g i j) := fun Q q => ha _ (hb _ ⟨i, j, rfl, rfl, hc, q⟩)
theorem x_mul (ha : X1 ta σ H (.int i)) (hb : X1 tb σ H (.int j)) (hc : CMul i j) : X1 (tOp (rI CMul fun i j => .int (i * j)) ta tb) σ H (.int (i * j)) := x_I ha hb hc
theorem x_mod (ha : X1 ta σ H (.int i)) (hb : X1 tb σ H (.int j)) (hc : 0 < j) : X1 (tOp (rI (fun _ j => 0 < j) fun i j => .int (i % j)) ta tb) σ H (.int (i % j)) := x_I ha hb hc
theorem x_div (ha : X1 ta σ H (.int i)) (hb : X1 tb σ H (.int j)) (hc : CDiv i j) : X1 (tOp (rI CDiv fun i j => .int (i / j)) ta tb) σ H (.int (i / j)) := x_I ha hb hc
theorem x_add (ha : X1 ta σ H (.int i)) (hb : X1 tb σ H (.int j)) : X1 (tOp (rI0 fun i j => .int (i + j)) ta tb) σ H (.int (i + j)) := x_0 ha hb
theorem x_eq (ha : X1 ta σ H (.int i)) (hb : X1 tb σ H (.int j)) : X1 (tOp rEq ta tb) σ H (.bl (decide (i = j))) := fun Q q => ha _ (hb _ ⟨rfl, by
  have e : decide (V.int i = V.int j) = decide (i = j) := by
    by_cases h : i = j
    · subst h
      rw [decide_eq_true rfl, decide_eq_true rfl]
    · rw [decide_eq_false h, decide_eq_false fun z => h (V.int.inj z)]
  rw [e]
  exact q⟩)
theorem x_ix {p : Addr} {xs : List V} (ha : X1 ta σ H (.ref p)) (hb : X1 tb σ H (.int i)) (hp : H p = some (.lst xs)) (hv : atI xs i = some v) : X1 (tOp (rIxL K) ta tb) σ H v := fun Q q => ha _ (hb _ ⟨p, xs, i, v, rfl, rfl, SqL.of hp, hv, q⟩)
theorem x_len {p : Addr} {xs : List V} (ha : X1 ta σ H (.ref p)) (hp : H p = some (.lst xs)) : X1 (tCB (rLn K) (tCons ta tNil)) σ H (.int xs.length) := fun Q q => ha _ ⟨_, xs.length, rfl, .inl ⟨xs, SqL.of hp, rfl⟩, q⟩
theorem x_int1 (ha : X1 ta σ H (.int i)) : X1 (tCB (fun xs H Q => (∃ i, xs = [.int i] ∧ Q (.int i) H) ∨ ∃ k, xs = [.bl k] ∧ Q (.int (if k then 1 else 0)) H) (tCons ta tNil)) σ H (.int i) := fun Q q => ha _ (.inl ⟨i, rfl, q⟩)
theorem x_cc : X1 (tC v) σ H v := fun Q q => q
theorem xs_if {b : Bool} {t u : TS} {D : Ends} (h : X1 te σ H (.bl b)) (h1 : b = true → t D σ H) (h2 : b = false → u D σ H) : tIfS (tTest te) t u D σ H := h _ ⟨b, rfl, by
  cases b with
  | true => exact h1 rfl
  | false => exact h2 rfl⟩
theorem xs_set {n : Nat} {D : Ends} (h : X1 te σ H v) (k : D.nx (σ.set n (some v)) H) : tAsg te (gName n) D σ H := h _ k
theorem xq_set {n : Nat} {u : TS} {D : Ends} (h : X1 te σ H v) (k : u D (σ.set n (some v)) H) : tSeq (tAsg te (gName n)) u D σ H := h _ k
theorem xs_put {D : Ends} {n : Nat} {p : Addr} {xs : List V} {m : Nat} (h : X1 te σ H v) (hp : σ[n]? = some (some (.ref p))) (hx : H p = some (.lst xs)) (hi : ixN xs.length i = some m) (k : D.nx σ (upd H p (.lst (xs.set m v)))) : tAsg te (gSub (tVar n) (tC (.int i)) rSetL) D σ H :=
  h _ ⟨_, hp, p, xs, i, m, rfl, rfl, hx, hi, k⟩
theorem xs_aug {D : Ends} {n : Nat} {p : Addr} {xs : List V} {m : Nat} {f : Int → Int → Int} (h : X1 te σ H (.int j)) (hp : σ[n]? = some (some (.ref p))) (hx : H p = some (.lst xs)) (h0 : 0 ≤ i) (hi : ixN xs.length i = some m) {z : Int} (hz : atI xs i = some (.int z)) (k : D.nx σ (upd H p (.lst (xs.set m (.int (f z j)))))) :
    tAugS (tVar n) (tC (.int i)) te (rGetL K) (ipI f) rSetL D σ H :=
  ⟨_, hp, p, xs, i, .int z, rfl, rfl, h0, SqL.of hx, hz, h _ ⟨z, j, rfl, rfl, p, xs, i, m, rfl, rfl, hx, hi, k⟩⟩
theorem s_have {t u : TS} {D : Ends} {M : L2.St → Hp → Prop} (k : ∀ σ' H', M σ' H' → u D σ' H') (h : (∀ σ' H', M σ' H' → u D σ' H') → tSeq t u D σ H) : tSeq t u D σ H := h k
end
/-! ### a <= b <= c <= d as a test -/
def tChain3 (r1 r2 r3 : R2) (ta tb tc td : TE) : TT := fun σ H Q => ta σ H fun x H1 => tb σ H1 fun y H2 => r1 x y H2 fun z H3 => ∃ k, z = .bl k ∧
  (if k = true then tc σ H3 fun u H4 => r2 y u H4 fun z2 H5 => ∃ k2, z2 = .bl k2 ∧ (if k2 = true then td σ H5 fun t H6 => r3 u t H6 fun z3 H7 => ∃ k3, z3 = .bl k3 ∧ Q k3 H7 else Q false H5) else Q false H3)
theorem pt_chain3 {X : Cx} {o1 o2 o3 : CmpOp} {r1 r2 r3 : R2} {a b c d : Expr} {ta tb tc td : TE} {pos : Pos} (h1 : OpR X (compareOp o1) r1) (h2 : OpR X (compareOp o2) r2) (h3 : OpR X (compareOp o3) r3) (ha : PE X a ta) (hb : PE X b tb) (hc : PE X c tc) (hd : PE X d td)
    (hm : lastMarks [o1, o2, o3] [b, c, d] = false := by with_unfolding_all rfl) : PT X (.Compare a [o1, o2, o3] [b, c, d] pos) (tChain3 r1 r2 r3 ta tb tc td) := by
  refine ⟨fun pins s σ H Q I h => ?_⟩
  refine isTrue_chain (thn (ha.run pins s σ H _ I h) fun v s1 ⟨x, H1, I1, q1, p1⟩ => test_link (thn (hb.run pins s1 σ H1 _ I1 p1) fun u s2 ⟨y, H2, I2, q2, p2⟩ =>
    thn (h1 pins s2 σ H2 x y v u _ I2 q1 q2 p2) fun e s3 ⟨z, H3, I3, q3, k, ez, p3⟩ => ?_)) hm
  subst ez
  cases q3
  refine wpAny_truthy_bool ?_
  cases k with
  | false => exact ite_ff ⟨H3, I3, p3⟩
  | true =>
    refine ite_tt (test_link (thn (hc.run pins s3 σ H3 _ I3 p3) fun w s4 ⟨y2, H4, I4, q4, p4⟩ => thn (h2 pins s4 σ H4 y y2 u w _ I4 q2 q4 p4) fun e2 s5 ⟨z2, H5, I5, q5, k2, ez2, p5⟩ => ?_))
    subst ez2
    cases q5
    refine wpAny_truthy_bool ?_
    cases k2 with
    | false => exact ite_ff ⟨H5, I5, p5⟩
    | true =>
      refine ite_tt (test_last (thn (hd.run pins s5 σ H5 _ I5 p5) fun t s6 ⟨y3, H6, I6, q6, p6⟩ => thn (h3 pins s6 σ H6 y2 y3 w t _ I6 q4 q6 p6) fun e3 s7 ⟨z3, H7, I7, q7, k3, ez3, p7⟩ => ?_))
      subst ez3
      cases q7
      exact wpAny_truthy_bool ⟨H7, I7, p7⟩
theorem gt_chain3 {σ : L2.St} {S : Hp} {ta tb tc td : TE} {p : Int → Int → Bool} {i j k l : Int} (ha : G ta σ S (Is (.int i))) (hb : G tb σ S (Is (.int j))) (hc : G tc σ S (Is (.int k))) (hd : G td σ S (Is (.int l))) :
    GT (tChain3 (rI0 fun i j => .bl (p i j)) (rI0 fun i j => .bl (p i j)) (rI0 fun i j => .bl (p i j)) ta tb tc td) σ S (p i j && (p j k && p k l)) := fun S1 H1 e b Q q =>
  ha S1 H1 e b _ fun x S2 H2 e2 hx => hb S2 H2 (e.trans e2.ss) e2.sh _ fun y S3 H3 e3 hy => by
    refine ⟨i, j, hx, hy, _, rfl, ?_⟩
    cases h1 : p i j with
    | false =>
      rw [h1] at q
      exact q _ _ (e2.trans e3)
    | true =>
      rw [h1, Bool.true_and] at q
      refine hc S3 H3 (e.trans (e2.trans e3).ss) e3.sh _ fun z S4 H4 e4 hz => ⟨j, k, hy, hz, _, rfl, ?_⟩
      cases h2 : p j k with
      | false =>
        rw [h2] at q
        exact q _ _ ((e2.trans e3).trans e4)
      | true =>
        rw [h2, Bool.true_and] at q
        exact hd S4 H4 (e.trans ((e2.trans e3).trans e4).ss) e4.sh _ fun w S5 H5 e5 hw => ⟨k, l, hz, hw, _, rfl, q _ _ (((e2.trans e3).trans e4).trans e5)⟩
end NK
end

section
set_option Elab.async false
set_option linter.all false
set_option maxRecDepth 100000
set_option maxHeartbeats 400000
namespace NK
open PySem PySem.Spec L2
open PyProof.Rows hiding St
section
variable {P : Program} {w : World} {K : PySem.W.Frag} {mg : Str → Option Value} {base : Heap}
theorem kit_iti : PySem.W.kitOne K (.type "int") (.type "int") = some true := kit_ty (b := "int") (r := true) (by decide +kernel)
theorem kit_itb : PySem.W.kitOne K (.type "int") (.type "bool") = some false := kit_ty (b := "bool") (r := false) (by decide +kernel)
theorem kit_sts : PySem.W.kitOne K (.type "str") (.type "str") = some true := kit_ty (b := "str") (r := true) (by decide +kernel)
theorem kit_ttt : PySem.W.kitOne K (.type "tuple") (.type "tuple") = some true := kit_ty (b := "tuple") (r := true) (by decide +kernel)
abbrev n_is_integer : List Str := ["thing"]
theorem sc_is_integer : FnScope n_is_integer ["thing"] (defScope s_is_integer) := ⟨rfl, rfl, rfl, by decide +kernel, rfl, by decide +kernel, by decide +kernel⟩
abbrev sp_is_integer : Sp := Pu (fun (n : Int) => A1 (Is (.int n))) (fun _ => Is (.bl true))
theorem ok_is_integer (T : Fx K mg) : Cal P w K mg base 1 "is_integer" (sp_is_integer) := by
  obtain ⟨fd, Fn⟩ := T.d_is_integer
  refine ⟨fn_pos Fn sc_is_integer (fun vs H Q E h => ?_) (fun _ _ _ _ _ _ us hl => match us, hl with | [_], _ => rfl) (fun cdv A outer s H vs Q E hr h => ?_), T.g_is_integer, Fn.kp⟩
  · obtain ⟨_, _, _, ⟨_, rfl, _⟩, _⟩ := h
    rfl
  · obtain ⟨n, S, hS, ⟨_, rfl, rfl⟩, k⟩ := h
    refine ⟨_, pss_one (ps_ret (pe_and (pe_callB (r := rIsi K) call_isi rfl T.b_isinstance bt_isinstance (pa_cons (pv 0) (pa_cons (pe_bltn (v := .ty "int") rfl T.b_int bt_int rfl) pa_nil))) (pe_one (pe_not
        (pe_callB (r := rIsi K) call_isi rfl T.b_isinstance bt_isinstance (pa_cons (pv 0) (pa_cons (pe_bltn (v := .ty "bool") rfl T.b_bool bt_bool rfl) pa_nil))))))), ?_⟩
    exact s_ret (g_eq (g_and (g_isi (g_is rfl) tyx_int .is kit_iti) fun _ => g_not (g_isi (g_is rfl) tyx_int .is kit_itb)) rfl) hS k
abbrev n_is_number_below : List Str := ["thing", "many"]
theorem sc_is_number_below : FnScope n_is_number_below ["thing", "many"] (defScope s_is_number_below) := ⟨rfl, rfl, rfl, by decide +kernel, rfl, by decide +kernel, by decide +kernel⟩
abbrev sp_is_number_below : Sp := Pu (fun (n : Int × Int) => A2 (Is (.int n.1)) (Is (.int n.2))) (fun n => Is (.bl (decide (0 ≤ n.1) && decide (n.1 < n.2))))
theorem ok_is_number_below (T : Fx K mg) : Cal P w K mg base 2 "is_number_below" (sp_is_number_below) := by
  obtain ⟨fd, Fn⟩ := T.d_is_number_below
  refine ⟨fn_pos Fn sc_is_number_below (fun vs H Q E h => ?_) (fun _ _ _ _ _ _ us hl => match us, hl with | [_, _], _ => rfl) (fun cdv A outer s H vs Q E hr h => ?_), T.g_is_number_below, Fn.kp⟩
  · obtain ⟨_, _, _, ⟨_, _, rfl, _⟩, _⟩ := h
    rfl
  · obtain ⟨⟨n, m⟩, S, hS, ⟨_, _, rfl, rfl, rfl⟩, k⟩ := h
    refine ⟨_, pss_one (ps_ret (pe_and (pe_f ((ok_is_integer T).mono (by decide : 1 ≤ 1)) (hr.mono (by decide)) (pa_cons (pv 0) pa_nil)) (pe_one (pe_chain op_le op_lt pe_int (pv 0) (pv 1))))), ?_⟩
    exact s_ret (g_eq (g_and (g_call (a := n) (ga_one (g_is rfl))) fun _ => g_chain g_c (g_is rfl) (g_is rfl)) rfl) hS k
abbrev n_is_column : List Str := ["thing", "sign"]
theorem sc_is_column : FnScope n_is_column ["thing"] (defScope s_is_column) := ⟨rfl, rfl, rfl, by decide +kernel, rfl, by decide +kernel, by decide +kernel⟩
theorem menu_len (c : Str) (h : c ∈ menu) : 1 ≤ (c.length : Int) ∧ (c.length : Int) ≤ 8 ∧ c.length ≤ sizeLine := by
  have q : ∀ c ∈ menu, 1 ≤ (c.length : Int) ∧ (c.length : Int) ≤ 8 := by decide +kernel
  have r : ∀ c ∈ menu, c.length ≤ 8 := by decide +kernel
  exact ⟨(q c h).1, (q c h).2, Nat.le_trans (r c h) (by decide)⟩
theorem menu_sign (c : Str) (h : c ∈ menu) : ∀ x ∈ c.cps.toList, (!(Builtin.Str.occurrences ("abcdefghijklmnopqrstuvwxyz" : Str) ⟨#[x]⟩ 0 ("abcdefghijklmnopqrstuvwxyz" : Str).length 1).isEmpty) = true := by
  have q : menu.all (fun c => c.cps.toList.all fun x => 97 ≤ x && x ≤ 122) = true := by decide +kernel
  rw [List.all_eq_true] at q
  have q := q c h
  rw [List.all_eq_true] at q
  intro x hx
  have q := q x hx
  have r : ∀ x : Fin 123, 97 ≤ x.val → (!(Builtin.Str.occurrences ("abcdefghijklmnopqrstuvwxyz" : Str) ⟨#[x.val]⟩ 0 ("abcdefghijklmnopqrstuvwxyz" : Str).length 1).isEmpty) = true := by decide +kernel
  have q1 : 97 ≤ x ∧ x ≤ 122 := by simpa using q
  exact r ⟨x, by omega⟩ q1.1
abbrev sp_is_column : Sp := Pu (fun (c : {c : Str // c ∈ menu}) => A1 (Is (.str c.1))) (fun _ => Is (.bl true))
theorem ok_is_column (T : Fx K mg) : Cal P w K mg base 1 "is_column" (sp_is_column) := by
  obtain ⟨t_longest, e_longest⟩ := T.i_LONGEST
  obtain ⟨t_letters, e_letters⟩ := T.t_LETTERS
  obtain ⟨fd, Fn⟩ := T.d_is_column
  refine ⟨fn_pos Fn sc_is_column (fun vs H Q E h => ?_) (fun _ _ _ _ _ _ us hl => match us, hl with | [_], _ => rfl) (fun cdv A outer s H vs Q E hr h => ?_), T.g_is_column, Fn.kp⟩
  · obtain ⟨_, _, _, ⟨_, rfl, _⟩, _⟩ := h
    rfl
  · obtain ⟨⟨c, hc⟩, S, hS, ⟨_, rfl, rfl⟩, k⟩ := h
    obtain ⟨h1, h2, h3⟩ := menu_len c hc
    refine ⟨_, pss_cons (ps_if (PW.pt (pw_or (pt_not (pt_val (pe_callB (r := rIsi K) call_isi rfl T.b_isinstance bt_isinstance (pa_cons (pv 0) (pa_cons (pe_bltn (v := .ty "str") rfl T.b_str bt_str rfl)
        pa_nil))))) (pw_or1 (pt_not (pt_chain op_le op_le pe_int (pe_callB (r := rLn K) call_len rfl T.b_len bt_len (pa_cons (pv 0) pa_nil)) (pe_glob (v := .int 8) rfl e_longest ⟨_, rfl⟩))))))
        (pss_one (ps_ret pe_bl)) pss_nil) (pss_one (ps_ret (pe_callB (r := rAll K) (cr_all rfl) rfl T.b_all bt_all (pa_cons (pe_lc (own := [("sign", 1)]) rfl sc_is_column.nd (pi_str (pv 0)) (blkOk_by
        (N := n_is_column) (sc := defScope s_is_column) (by decide +kernel)) (fun _ _ _ _ _ => (pg_name (i := 1) sc_is_column.nd rfl (by first | exact Or.inl rfl | exact Or.inr rfl))) (fun _ _ _ _ _
        => pts_nil) (fun _ _ _ _ _ => (pe_cmpR op_in_str (pv 1) (pe_glob (v := .str "abcdefghijklmnopqrstuvwxyz") rfl e_letters ⟨_, rfl⟩) rfl))) pa_nil)))), ?_⟩
    refine s_if (c := false) (gt_eq (gt_or (gt_not (gt_B (g_isi (g_is rfl) tyx_str .is kit_sts))) fun _ => gt_not (gt_test (g_chain g_c (g_lenS (g_is rfl) h3) (g_c (v := .int 8))))) (by simp [h1, h2])) hS (fun z => by cases z) fun _ S1 H1 e1 => ?_
    refine s_ret (g_eq (g_all1 _ (gi_str (g_is rfl)) (by have := menu_len c hc; simp [Str.length] at this ⊢; omega) fun a x S2 e2 ha rx => g_inStr (g_var (i := 1) rfl rx .is) (g_c (v := .str "abcdefghijklmnopqrstuvwxyz"))) ?_) e1.sh fun v S2 H2 e2 r => k v S2 H2 (e1.trans e2) r
    rw [List.all_eq_true.mpr (menu_sign c hc)]
/-- a row of unlike columns -/
structure ColsOk (cs : List Str) : Prop where
  mem : ∀ c ∈ cs, c ∈ menu
  nd : cs.Nodup
theorem sub_len {α : Type} [DecidableEq α] : ∀ {l m : List α}, l.Nodup → (∀ x ∈ l, x ∈ m) → l.length ≤ m.length
  | [], _, _, _ => Nat.zero_le _
  | x :: l, m, h, hs => by
    have h := List.nodup_cons.mp h
    have hx := hs x List.mem_cons_self
    have ih : l.length ≤ (m.erase x).length := sub_len h.2 fun y hy => (List.mem_erase_of_ne (fun e => h.1 (by rw [← e]; exact hy))).mpr (hs y (List.mem_cons_of_mem _ hy))
    rw [List.length_erase_of_mem hx] at ih
    have := List.length_pos_of_mem hx
    rw [List.length_cons]
    omega
theorem ColsOk.len {cs : List Str} (h : ColsOk cs) : cs.length ≤ 12 := sub_len h.nd h.mem
abbrev n_are_unlike : List Str := ["things", "thing"]
theorem sc_are_unlike : FnScope n_are_unlike ["things"] (defScope s_are_unlike) := ⟨rfl, rfl, rfl, by decide +kernel, rfl, by decide +kernel, by decide +kernel⟩
abbrev sp_are_unlike (K : PySem.W.Frag) : Sp := Pu (fun (c : {c : List Str // ColsOk c}) => A1 (D K (encC c.1))) (fun _ => Is (.bl true))
theorem ok_are_unlike (T : Fx K mg) : Cal P w K mg base 7 "are_unlike" (sp_are_unlike K) := by
  obtain ⟨fd, Fn⟩ := T.d_are_unlike
  refine ⟨fn_pos Fn sc_are_unlike (fun vs H Q E h => ?_) (fun _ _ _ _ _ _ us hl => match us, hl with | [_], _ => rfl) (fun cdv A outer s H vs Q E hr h => ?_), T.g_are_unlike, Fn.kp⟩
  · obtain ⟨_, _, _, ⟨_, rfl, _⟩, _⟩ := h
    rfl
  · obtain ⟨⟨c, hc⟩, S, hS, ⟨_, rfl, hv⟩, k⟩ := h
    have hl := hc.len
    refine ⟨_, pss_one (ps_ret (pe_and (pe_callB (r := rAll K) (cr_all rfl) rfl T.b_all bt_all (pa_cons (pe_lc (own := [("thing", 1)]) rfl sc_are_unlike.nd (pi_tupK (K := K) (pv 0)) (blkOk_by (N :=
        n_are_unlike) (sc := defScope s_are_unlike) (by decide +kernel)) (fun _ _ _ _ _ => (pg_name (i := 1) sc_are_unlike.nd rfl (by first | exact Or.inl rfl | exact Or.inr rfl))) (fun _ _ _ _ _ =>
        pts_nil) (fun _ _ _ _ _ => (pe_f ((ok_is_column T).mono (by decide : 1 ≤ 6)) (hr.mono (by decide)) (pa_cons (pv 1) pa_nil)))) pa_nil)) (pe_one (pe_cmpR op_eq (pe_callB cr_lenV rfl T.b_len
        bt_len (pa_cons (pe_callTy (r := rSetD K w) (cr_setD rfl (hr.mono (by decide))) rfl T.b_set bt_set (pa_cons (pv 0) pa_nil)) pa_nil)) (pe_callB (r := rLn K) call_len rfl T.b_len bt_len (pa_cons
        (pv 0) pa_nil)) (nomark _))))), ?_⟩
    refine s_ret (g_eq (g_and (g_all1 (fun _ => true) (gi_tup (g_dv rfl hv)) (by simp; omega) fun a x S2 e2 ha rx => ?_) fun _ => g_op (U := Is (.bl true)) (g_lenV (g_set (g_dv rfl hv) (fun v S r => .inr r) (.inl flat_str) (by simp; omega))) (fun _ _ _ _ h => h) (g_lenT (g_dv rfl hv)) ?_) ?_) hS k
    · obtain ⟨z, hz, rfl⟩ := List.mem_map.mp ha
      exact g_call (a := ⟨z, hc.mem z hz⟩) (ga_one (g_isStr (g_dv rfl rx)))
    · exact fun x y S1 H1 e1 e2 ⟨es, h1, h2, h3⟩ hy Q q => ⟨by rw [h1, hy]; rfl, q _ S1 H1 (.refl e2) (by rw [h1, hy, nodup_len h2 (nodup_map str_inj hc.nd) h3]; simp)⟩
    · simp
abbrev n_are_columns : List Str := ["thing"]
theorem sc_are_columns : FnScope n_are_columns ["thing"] (defScope s_are_columns) := ⟨rfl, rfl, rfl, by decide +kernel, rfl, by decide +kernel, by decide +kernel⟩
abbrev sp_are_columns (K : PySem.W.Frag) : Sp := Pu (fun (c : {c : List Str // ColsOk c ∧ AscS c}) => A1 (D K (encC c.1))) (fun _ => Is (.bl true))
theorem ok_are_columns (T : Fx K mg) : Cal P w K mg base 8 "are_columns" (sp_are_columns K) := by
  obtain ⟨fd, Fn⟩ := T.d_are_columns
  refine ⟨fn_pos Fn sc_are_columns (fun vs H Q E h => ?_) (fun _ _ _ _ _ _ us hl => match us, hl with | [_], _ => rfl) (fun cdv A outer s H vs Q E hr h => ?_), T.g_are_columns, Fn.kp⟩
  · obtain ⟨_, _, _, ⟨_, rfl, _⟩, _⟩ := h
    rfl
  · obtain ⟨⟨c, hc, ha⟩, S, hS, ⟨_, rfl, hv⟩, k⟩ := h
    have hl := hc.len
    refine ⟨_, pss_one (ps_ret (pe_and (pe_callB (r := rIsi K) call_isi rfl T.b_isinstance bt_isinstance (pa_cons (pv 0) (pa_cons (pe_bltn (v := .ty "tuple") rfl T.b_tuple bt_tuple rfl) pa_nil))) (pe_and (pe_f
        ((ok_are_unlike T).mono (by decide : 7 ≤ 7)) (hr.mono (by decide)) (pa_cons (pv 0) pa_nil)) (pe_one (pe_cmpR (r := rEqD K) (op_eqD hr.units) (pe_callTy call_list_of rfl T.b_list bt_list
        (pa_cons (pv 0) pa_nil)) (pe_callB (r := rSortS K w) (cr_sortS rfl (hr.mono (by decide))) rfl T.b_sorted bt_sorted (pa_cons (pe_callTy (r := rSetD K w) (cr_setD rfl (hr.mono (by decide))) rfl
        T.b_set bt_set (pa_cons (pv 0) pa_nil)) pa_nil)) (nomark _)))))), ?_⟩
    refine s_ret (g_eq (g_and (g_isi (g_dv rfl hv) tyx_tup .d kit_ttt) fun _ => g_and (g_call (a := ⟨c, hc⟩) (ga_one (g_dv rfl hv))) fun _ => g_eqD (e := .list (c.map .str)) (g_listOf (g_seqT (g_dv rfl hv))) ?_ (flt_lst (flt_strs hc.mem)).sh (flt_lst (flt_strs hc.mem)).sh) ?_) hS k
    · refine (g_sortS (g_set (g_dv rfl hv) (fun v S r => .inr r) (.inl flat_str) (by simp; omega)) alike_str sortable_str depth_str).imp fun v S2 _ ⟨es, h1, h2, h3, h4⟩ => ?_
      rw [ascS_uniq h4 ha h2 hc.nd h3] at h1
      exact h1
    · have := eqvAll_self c
      simp only [PyData.eqv] at this ⊢
      rw [this]
      rfl
/-- what a question is -/
structure QOk (q : Qn) : Prop where
  cols : ColsOk q.1
  asc : AscS q.1
  last : q.2 = "" ∨ (q.2 ∈ menu ∧ q.2 ∉ q.1)
  some : q.1 ≠ [] ∨ q.2 ≠ ""
abbrev n_is_last : List Str := ["thing", "columns"]
theorem sc_is_last : FnScope n_is_last ["thing", "columns"] (defScope s_is_last) := ⟨rfl, rfl, rfl, by decide +kernel, rfl, by decide +kernel, by decide +kernel⟩
abbrev sp_is_last (K : PySem.W.Frag) : Sp := Pu (fun (c : {c : Str × List Str // c.1 = "" ∨ (c.1 ∈ menu ∧ c.1 ∉ c.2)}) => A2 (Is (.str c.1.1)) (D K (encC c.1.2))) (fun _ => Is (.bl true))
theorem ok_is_last (T : Fx K mg) : Cal P w K mg base 2 "is_last" (sp_is_last K) := by
  obtain ⟨fd, Fn⟩ := T.d_is_last
  refine ⟨fn_pos Fn sc_is_last (fun vs H Q E h => ?_) (fun _ _ _ _ _ _ us hl => match us, hl with | [_, _], _ => rfl) (fun cdv A outer s H vs Q E hr h => ?_), T.g_is_last, Fn.kp⟩
  · obtain ⟨_, _, _, ⟨_, _, rfl, _⟩, _⟩ := h
    rfl
  · obtain ⟨⟨⟨x, cs⟩, hc⟩, S, hS, ⟨_, _, rfl, rfl, hv⟩, k⟩ := h
    refine ⟨_, pss_cons (ps_if (pt_not (pt_val (pe_callB (r := rIsi K) call_isi rfl T.b_isinstance bt_isinstance (pa_cons (pv 0) (pa_cons (pe_bltn (v := .ty "str") rfl T.b_str bt_str rfl) pa_nil))))) (pss_one
        (ps_ret pe_bl)) pss_nil) (pss_one (ps_ret (pe_or (pe_cmpR op_eq (pv 0) pe_str (nomark _)) (pe_one (pe_and (pe_f ((ok_is_column T).mono (by decide : 1 ≤ 1)) (hr.mono (by decide)) (pa_cons (pv
        0) pa_nil)) (pe_one (pe_cmpR (r := rIn K true) op_notIn_seq (pv 0) (pv 1) rfl))))))), ?_⟩
    refine q_no (gt_eq (gt_not (gt_B (g_isi (g_is rfl) tyx_str .is kit_sts))) rfl) (.refl hS) fun S1 H1 e1 ss => ?_
    refine s_retK (g_eq (g_or (b := true) (g_eqS (g_is rfl) (g_c (v := .str "")) rfl) fun z => ?_) ?_) e1 k

    · have hx : ¬ x = "" := fun e => by subst e; simp at z
      have hc := hc.resolve_left hx
      exact g_eq (g_and (g_call (a := ⟨x, hc.1⟩) (ga_one (g_is rfl))) fun _ => g_notInS (g_is rfl) (g_seqT (g_dv rfl (Dp.up ss hv)))) (by simp [hc.2])
    · simp
abbrev n_is_question : List Str := ["thing"]
theorem sc_is_question : FnScope n_is_question ["thing"] (defScope s_is_question) := ⟨rfl, rfl, rfl, by decide +kernel, rfl, by decide +kernel, by decide +kernel⟩
abbrev sp_is_question (K : PySem.W.Frag) : Sp := Pu (fun (q : {q : Qn // QOk q}) => A1 (D K (encQ q.1))) (fun _ => Is (.bl true))
theorem ok_is_question (T : Fx K mg) : Cal P w K mg base 9 "is_question" (sp_is_question K) := by
  obtain ⟨fd, Fn⟩ := T.d_is_question
  refine ⟨fn_pos Fn sc_is_question (fun vs H Q E h => ?_) (fun _ _ _ _ _ _ us hl => match us, hl with | [_], _ => rfl) (fun cdv A outer s H vs Q E hr h => ?_), T.g_is_question, Fn.kp⟩
  · obtain ⟨_, _, _, ⟨_, rfl, _⟩, _⟩ := h
    rfl
  · obtain ⟨⟨⟨cs, x⟩, hc⟩, S, hS, ⟨_, rfl, hv⟩, k⟩ := h
    have hl := hc.cols.len
    have h0 : ∀ {S1}, Same S S1 → G (tOp (rIxT K) (tVar 0) (tC (.int 0))) (start n_is_question [_]) S1 (D K (encC cs)) := fun ss => g_ixT (i := 0) (ds := [encC cs, .str x]) (g_dv rfl (Dp.up ss hv)) g_c rfl
    have h1 : ∀ {S1}, Same S S1 → G (tOp (rIxT K) (tVar 0) (tC (.int 1))) (start n_is_question [_]) S1 (D K (.str x)) := fun ss => g_ixT (i := 1) (ds := [encC cs, .str x]) (g_dv rfl (Dp.up ss hv)) g_c rfl
    refine ⟨_, pss_cons (ps_if (PW.pt (pw_or (pt_not (pt_val (pe_callB (r := rIsi K) call_isi rfl T.b_isinstance bt_isinstance (pa_cons (pv 0) (pa_cons (pe_bltn (v := .ty "tuple") rfl T.b_tuple bt_tuple rfl)
        pa_nil))))) (pw_or (pt_cmpR op_ne (pe_callB (r := rLn K) call_len rfl T.b_len bt_len (pa_cons (pv 0) pa_nil)) pe_int (nomark _)) (pw_or1 (pt_not (pt_val (pe_f ((ok_are_columns T).mono (by
        decide : 8 ≤ 8)) (hr.mono (by decide)) (pa_cons (pe_ix (r := rIxT K) ix_tup (pv 0) pe_int (fun _ _ => rfl)) pa_nil)))))))) (pss_one (ps_ret pe_bl)) pss_nil) (pss_one (ps_ret (pe_and (pe_f
        ((ok_is_last T).mono (by decide : 2 ≤ 8)) (hr.mono (by decide)) (pa_cons (pe_ix (r := rIxT K) ix_tup (pv 0) pe_int (fun _ _ => rfl)) (pa_cons (pe_ix (r := rIxT K) ix_tup (pv 0) pe_int (fun _ _
        => rfl)) pa_nil))) (pe_one (pe_or (pe_cmpR op_gt (pe_callB (r := rLn K) call_len rfl T.b_len bt_len (pa_cons (pe_ix (r := rIxT K) ix_tup (pv 0) pe_int (fun _ _ => rfl)) pa_nil)) pe_int (nomark
        _)) (pe_one (pe_cmpR op_ne (pe_ix (r := rIxT K) ix_tup (pv 0) pe_int (fun _ _ => rfl)) pe_str (nomark _)))))))), ?_⟩
    refine q_no (gt_eq (gt_or (gt_not (gt_B (g_isi (g_dv rfl hv) tyx_tup .d kit_ttt))) fun _ => gt_or (gt_test (g_neS (g_lenT (g_dv rfl hv)) (g_c (v := .int 2)) rfl)) fun _ => gt_not (gt_B (g_call (R := fun _ => Is (.bl true)) (a := (⟨cs, hc.cols, hc.asc⟩ : {c : List Str // ColsOk c ∧ AscS c})) (ga_one (h0 (Same.refl _)))))) (by simp)) (.refl hS) fun S1 H1 e1 ss => ?_
    refine s_retK (R := Is (.bl true)) ?_ e1 k
    refine g_eq (g_and (g_call (R := fun _ => Is (.bl true)) (a := (⟨(x, cs), hc.last⟩ : {c : Str × List Str // c.1 = "" ∨ (c.1 ∈ menu ∧ c.1 ∉ c.2)})) (ga_two (g_isStr (h1 ss)) .is (h0 ss))) fun _ => g_or (g_I0 (g_lenT (h0 ss)) g_c) fun _ => g_neS (g_isStr (h1 ss)) (g_c (v := .str "")) rfl) ?_
    have := hc.some
    rcases this with h | h
    · have : 0 < cs.length := List.length_pos_iff.mpr h
      simp [this]
    · have h : ¬ x = "" := h
      simp [h]
/-- what an index is -/
structure IxOk (r : List Str) : Prop where
  cols : ColsOk r
  ne : r ≠ []
abbrev n_is_index : List Str := ["thing"]
theorem sc_is_index : FnScope n_is_index ["thing"] (defScope s_is_index) := ⟨rfl, rfl, rfl, by decide +kernel, rfl, by decide +kernel, by decide +kernel⟩
abbrev sp_is_index (K : PySem.W.Frag) : Sp := Pu (fun (c : {c : List Str // IxOk c}) => A1 (D K (encC c.1))) (fun _ => Is (.bl true))
theorem ok_is_index (T : Fx K mg) : Cal P w K mg base 8 "is_index" (sp_is_index K) := by
  obtain ⟨fd, Fn⟩ := T.d_is_index
  refine ⟨fn_pos Fn sc_is_index (fun vs H Q E h => ?_) (fun _ _ _ _ _ _ us hl => match us, hl with | [_], _ => rfl) (fun cdv A outer s H vs Q E hr h => ?_), T.g_is_index, Fn.kp⟩
  · obtain ⟨_, _, _, ⟨_, rfl, _⟩, _⟩ := h
    rfl
  · obtain ⟨⟨c, hc⟩, S, hS, ⟨_, rfl, hv⟩, k⟩ := h
    have hl := hc.cols.len
    refine ⟨_, pss_one (ps_ret (pe_and (pe_callB (r := rIsi K) call_isi rfl T.b_isinstance bt_isinstance (pa_cons (pv 0) (pa_cons (pe_bltn (v := .ty "tuple") rfl T.b_tuple bt_tuple rfl) pa_nil))) (pe_and
        (pe_cmpR op_gt (pe_callB (r := rLn K) call_len rfl T.b_len bt_len (pa_cons (pv 0) pa_nil)) pe_int (nomark _)) (pe_one (pe_f ((ok_are_unlike T).mono (by decide : 7 ≤ 7)) (hr.mono (by decide))
        (pa_cons (pv 0) pa_nil)))))), ?_⟩
    refine s_ret (g_eq (g_and (g_isi (g_dv rfl hv) tyx_tup .d kit_ttt) fun _ => g_and (g_I0 (g_lenT (g_dv rfl hv)) g_c) fun _ => g_call (a := ⟨c, hc.cols⟩) (ga_one (g_dv rfl hv))) ?_) hS k
    have : 0 < c.length := List.length_pos_iff.mpr hc.ne
    simp [this]
abbrev n_is_weight : List Str := ["thing"]
theorem sc_is_weight : FnScope n_is_weight ["thing"] (defScope s_is_weight) := ⟨rfl, rfl, rfl, by decide +kernel, rfl, by decide +kernel, by decide +kernel⟩
abbrev sp_is_weight : Sp := Pu (fun (n : {n : Int // 1 ≤ n ∧ n ≤ 10 ^ 30}) => A1 (Is (.int n.1))) (fun _ => Is (.bl true))
theorem ok_is_weight (T : Fx K mg) : Cal P w K mg base 2 "is_weight" (sp_is_weight) := by
  obtain ⟨fd, Fn⟩ := T.d_is_weight
  refine ⟨fn_pos Fn sc_is_weight (fun vs H Q E h => ?_) (fun _ _ _ _ _ _ us hl => match us, hl with | [_], _ => rfl) (fun cdv A outer s H vs Q E hr h => ?_), T.g_is_weight, Fn.kp⟩
  · obtain ⟨_, _, _, ⟨_, rfl, _⟩, _⟩ := h
    rfl
  · obtain ⟨⟨n, hn⟩, S, hS, ⟨_, rfl, rfl⟩, k⟩ := h
    refine ⟨_, pss_one (ps_ret (pe_and (pe_f ((ok_is_integer T).mono (by decide : 1 ≤ 1)) (hr.mono (by decide)) (pa_cons (pv 0) pa_nil)) (pe_one (pe_chain op_le op_le pe_int (pv 0) (pe_op op_pow pe_int
        pe_int))))), ?_⟩
    refine s_ret (g_eq (g_and (g_call (a := n) (ga_one (g_is rfl))) fun _ => g_chain g_c (g_is rfl) (g_I g_c g_c ?_)) ?_) hS k
    · exact ⟨by decide, by decide, by decide⟩
    · have : (10 : Int) ^ (30 : Int).toNat = 10 ^ 30 := rfl
      simp only [this]
      rw [decide_eq_true hn.1, decide_eq_true hn.2]
      rfl
end
end NK
end

section
set_option Elab.async false
set_option linter.all false
set_option maxRecDepth 100000
set_option maxHeartbeats 400000
namespace NK
open PySem PySem.Spec L2
open PyProof.Rows hiding St
section
variable {P : Program} {w : World} {K : PySem.W.Frag} {mg : Str → Option Value} {base : Heap}
/-- the columns of a question -/
def colsL (q : Qn) : List Str := q.1 ++ if q.2 = "" then [] else [q.2]
theorem QOk.colsOk {q : Qn} (h : QOk q) : ColsOk (colsL q) := by
  unfold colsL
  by_cases e : q.2 = ""
  · rw [if_pos e, List.append_nil]
    exact h.cols
  · rw [if_neg e]
    have hl := h.last.resolve_left e
    refine ⟨fun c hc => ?_, ?_⟩
    · rcases List.mem_append.mp hc with hc | hc
      · exact h.cols.mem c hc
      · rw [List.mem_singleton.mp hc]
        exact hl.1
    · rw [List.nodup_append]
      refine ⟨h.cols.nd, List.nodup_cons.mpr ⟨by simp, List.nodup_nil⟩, fun a ha b hb => ?_⟩
      rw [List.mem_singleton.mp hb]
      exact fun e => hl.2 (e ▸ ha)
/-- texts by their order -/
def leS (a b : Str) : Bool := decide (a.cps.toList ≤ b.cps.toList)
def srtS (cs : List Str) : List Str := cs.mergeSort leS
theorem leS_data (a b : Str) : PySem.W.dataLe false id (PyData.str a) (.str b) = leS a b := congrFun (congrFun (PySem.W.dataLe_str (β := Str) id) a) b
theorem srtS_perm (cs : List Str) : (srtS cs).Perm cs := List.mergeSort_perm cs leS
theorem srtS_asc (cs : List Str) : AscS (srtS cs) := by
  unfold AscS Asc
  rw [List.pairwise_map]
  have q := List.pairwise_mergeSort (le := leS) (fun a b c h1 h2 => ?_) (fun a b => ?_) cs
  · exact q.imp fun {a b} h => (leS_data a b).trans h
  · unfold leS at *
    exact decide_eq_true (List.le_trans (of_decide_eq_true h1) (of_decide_eq_true h2))
  · unfold leS
    rcases List.le_total a.cps.toList b.cps.toList with h | h
    · rw [decide_eq_true h]
      rfl
    · rw [decide_eq_true h, Bool.or_true]
theorem srtS_uniq {es : List PyData} {cs : List Str} (h : es.Perm (cs.map .str)) (ha : Asc es) : es = (srtS cs).map .str := by
  refine asc_uniq (fun a b h1 h2 e1 e2 => ?_) ha (srtS_asc cs) (h.trans ((srtS_perm cs).map _).symm)
  obtain ⟨x, _, rfl⟩ := List.mem_map.mp (h.mem_iff.mp h1)
  obtain ⟨y, _, rfl⟩ := List.mem_map.mp h2
  rw [str_anti e1 e2]
theorem g_sortLS {σ : L2.St} {S : Hp} {te : TE} {cs : List Str} (h : G te σ S (D K (.list (cs.map .str)))) : G (tCB (rSortL K) (tCons te tNil)) σ S (D K (.list ((srtS cs).map .str))) :=
  (g_sortL h alike_str sortable_str depth_str).imp fun v S2 _ ⟨es, h1, h2, h3⟩ => by
    rw [srtS_uniq h2 h3] at h1
    exact h1
/-- the columns of a question, in order -/
def colsS (q : Qn) : List Str := if q.2 = "" then q.1 else srtS (q.1 ++ [q.2])
theorem colsS_perm (q : Qn) : (colsS q).Perm (colsL q) := by
  unfold colsS colsL
  by_cases h : q.2 = ""
  · rw [if_pos h, if_pos h, List.append_nil]
  · rw [if_neg h, if_neg h]
    exact srtS_perm _
theorem map_snoc {cs : List Str} {x : Str} : cs.map PyData.str ++ [.str x] = (cs ++ [x]).map .str := by simp
abbrev n_columns_of : List Str := ["question", "columns", "last"]
theorem sc_columns_of : FnScope n_columns_of ["question"] (defScope s_columns_of) := ⟨rfl, rfl, rfl, by decide +kernel, rfl, by decide +kernel, by decide +kernel⟩
abbrev sp_columns_of (K : PySem.W.Frag) : Sp := Pu (fun (q : {q : Qn // QOk q}) => A1 (D K (encQ q.1))) (fun q => D K (encC (colsS q.1)))
theorem ok_columns_of (T : Fx K mg) : Cal P w K mg base 7 "columns_of" (sp_columns_of K) := by
  obtain ⟨fd, Fn⟩ := T.d_columns_of
  refine ⟨fn_pos Fn sc_columns_of (fun vs H Q E h => ?_) (fun _ _ _ _ _ _ us hl => match us, hl with | [_], _ => rfl) (fun cdv A outer s H vs Q E hr h => ?_), T.g_columns_of, Fn.kp⟩
  · obtain ⟨_, _, _, ⟨_, rfl, _⟩, _⟩ := h
    rfl
  · obtain ⟨⟨⟨cs, x⟩, hc⟩, S, hS, ⟨_, rfl, hv⟩, k⟩ := h
    have hl : cs.length ≤ 12 := hc.cols.len
    refine ⟨_, pss_cons (ps_asg (pv 0) (pg_tupK (K := K) (n := 2) rfl (pgs_cons (pg_name (i := 1) sc_columns_of.nd rfl (by first | exact Or.inl rfl | exact Or.inr rfl)) (pgs_cons (pg_name (i := 2)
        sc_columns_of.nd rfl (by first | exact Or.inl rfl | exact Or.inr rfl)) pgs_nil)))) (pss_one (ps_ret (pe_ifExp (pt_cmpR op_eq (pv 2) pe_str (nomark _)) (pv 1) (pe_callTy (r := rTupOf K)
        call_tuple_of rfl T.b_tuple bt_tuple (pa_cons (pe_callB (r := rSortL K) (cr_sortL (hr.mono (by decide))) rfl T.b_sorted bt_sorted (pa_cons (pe_lst (StX.pa_star (pv 1) (pa_cons (pv 2) pa_nil)))
        pa_nil)) pa_nil))))), ?_⟩
    refine q_unp (g_dv rfl hv) (.refl hS) fun y z S1 H1 e1 ss h1 h2 => ?_
    obtain rfl := Dp.strI h2
    by_cases hx : x = ""
    · refine s_retK (g_if (b := true) (gt_eq (gt_test (g_eqS (g_is rfl) (g_c (v := .str "")) rfl)) (by simp [hx])) (fun _ => (g_dv rfl h1).imp fun v S2 _ r => by show Dp K S2 v (encC (colsS (cs, x))); rw [show colsS (cs, x) = cs by simp [colsS, hx]]; exact r) fun z => by cases z) e1 k
    · refine s_retK (g_if (b := false) (gt_eq (gt_test (g_eqS (g_is rfl) (g_c (v := .str "")) rfl)) (by simp [hx])) (fun z => by cases z) fun _ => ?_) e1 k
      refine (g_tupOfL (g_sortLS (cs := cs ++ [x]) ?_)).imp fun v S2 _ r => by show Dp K S2 v (encC (colsS (cs, x))); rw [show colsS (cs, x) = srtS (cs ++ [x]) by simp [colsS, hx]]; exact r
      rw [← map_snoc]
      exact g_lst (ga_star (g_seqT (g_dv rfl h1)) (ga_dc (g_dStr (g_is rfl)) ga_d0)) (by simp; omega)
abbrev n_width : List Str := ["question"]
theorem sc_width : FnScope n_width ["question"] (defScope s_width) := ⟨rfl, rfl, rfl, by decide +kernel, rfl, by decide +kernel, by decide +kernel⟩
abbrev sp_width (K : PySem.W.Frag) : Sp := Pu (fun (q : {q : Qn // QOk q}) => A1 (D K (encQ q.1))) (fun q => Is (.int (colsL q.1).length))
theorem ok_width (T : Fx K mg) : Cal P w K mg base 8 "width" (sp_width K) := by
  obtain ⟨fd, Fn⟩ := T.d_width
  refine ⟨fn_pos Fn sc_width (fun vs H Q E h => ?_) (fun _ _ _ _ _ _ us hl => match us, hl with | [_], _ => rfl) (fun cdv A outer s H vs Q E hr h => ?_), T.g_width, Fn.kp⟩
  · obtain ⟨_, _, _, ⟨_, rfl, _⟩, _⟩ := h
    rfl
  · obtain ⟨⟨q, hc⟩, S, hS, ⟨_, rfl, hv⟩, k⟩ := h
    refine ⟨_, pss_one (ps_ret (pe_callB (r := rLn K) call_len rfl T.b_len bt_len (pa_cons (pe_f ((ok_columns_of T).mono (by decide : 7 ≤ 7)) (hr.mono (by decide)) (pa_cons (pv 0) pa_nil)) pa_nil))), ?_⟩
    refine s_ret (g_eq (g_lenT (g_call (a := ⟨q, hc⟩) (ga_one (g_dv rfl hv)))) ?_) hS k
    show V.int ((colsS q).map PyData.str).length = _
    rw [List.length_map, (colsS_perm q).length_eq]
/-- q is below r -/
def below (q r : Qn) : Bool := decide (q ≠ r) && (colsL q).all fun c => decide (c ∈ r.1)
theorem eqv_cols (cs : List Str) : ∀ ds : List Str, PyData.eqv (encC cs) (encC ds) = decide (cs = ds) := fun ds => by
  simp only [PyData.eqv]
  induction cs generalizing ds with
  | nil => cases ds <;> simp [PyData.eqvAll]
  | cons c cs ih =>
    cases ds with
    | nil => simp [PyData.eqvAll]
    | cons d ds =>
      simp only [List.map_cons, PyData.eqvAll, ih ds, eqv_str, List.cons.injEq, Bool.decide_and]
theorem eqv_encQ (q r : Qn) : PyData.eqv (encQ q) (encQ r) = decide (q = r) := by
  obtain ⟨a, b⟩ := q
  obtain ⟨c, d⟩ := r
  have h := eqv_cols a c
  simp only [PyData.eqv] at h
  simp only [PyData.eqv, PyData.eqvAll, h, Prod.mk.injEq, Bool.decide_and, Bool.and_true]
  congr 1
theorem flt_q {q : Qn} (h : QOk q) : Flt 3 (encQ q) := flt_tup fun d hd => by
  rcases List.mem_cons.mp hd with rfl | hd
  · exact flt_tup (flt_strs h.cols.mem)
  · rw [List.mem_singleton.mp hd]
    exact (flt_menu (h.last.symm.imp (·.1) id)).mono (by decide)
abbrev n_is_below : List Str := ["one", "other", "column"]
theorem sc_is_below : FnScope n_is_below ["one", "other"] (defScope s_is_below) := ⟨rfl, rfl, rfl, by decide +kernel, rfl, by decide +kernel, by decide +kernel⟩
abbrev sp_is_below (K : PySem.W.Frag) : Sp := Pu (fun (q : {q : Qn × Qn // QOk q.1 ∧ QOk q.2}) => A2 (D K (encQ q.1.1)) (D K (encQ q.1.2))) (fun q => Is (.bl (below q.1.1 q.1.2)))
theorem ok_is_below (T : Fx K mg) : Cal P w K mg base 8 "is_below" (sp_is_below K) := by
  obtain ⟨fd, Fn⟩ := T.d_is_below
  refine ⟨fn_pos Fn sc_is_below (fun vs H Q E h => ?_) (fun _ _ _ _ _ _ us hl => match us, hl with | [_, _], _ => rfl) (fun cdv A outer s H vs Q E hr h => ?_), T.g_is_below, Fn.kp⟩
  · obtain ⟨_, _, _, ⟨_, _, rfl, _⟩, _⟩ := h
    rfl
  · obtain ⟨⟨⟨q, r⟩, hq, hr'⟩, S, hS, ⟨_, _, rfl, hv, hw⟩, k⟩ := h
    refine ⟨_, pss_one (ps_ret (pe_and (pe_cmpR (r := rNeD K) (op_neD hr.units) (pv 0) (pv 1) (nomark _)) (pe_one (pe_callB (r := rAll K) (cr_all rfl) rfl T.b_all bt_all (pa_cons (pe_lc (own := [("column",
        2)]) rfl sc_is_below.nd (pi_tupK (K := K) (pe_f ((ok_columns_of T).mono (by decide : 7 ≤ 7)) (hr.mono (by decide)) (pa_cons (pv 0) pa_nil))) (blkOk_by (N := n_is_below) (sc := defScope
        s_is_below) (by decide +kernel)) (fun _ _ _ _ _ => (pg_name (i := 2) sc_is_below.nd rfl (by first | exact Or.inl rfl | exact Or.inr rfl))) (fun _ _ _ _ _ => pts_nil) (fun _ _ _ _ _ => (pe_cmpR
        (r := rIn K false) op_in_seq (pv 2) (pe_ix (r := rIxT K) ix_tup (pv 1) pe_int (fun _ _ => rfl)) rfl))) pa_nil))))), ?_⟩
    refine s_ret (R := Is (.bl (below q r))) ?_ hS k
    unfold below
    refine g_and (g_eq (g_neD (g_dv rfl hv) (g_dv rfl hw) (flt_q hq).sh (flt_q hr').sh) (by rw [eqv_encQ]; simp)) fun _ => ?_
    have hl : (colsS q).length ≤ 12 := by rw [(colsS_perm q).length_eq]; exact hq.colsOk.len
    refine g_eq (g_all1 (fun d => match d with | .str c => decide (c ∈ r.1) | _ => true) (gi_tup (g_call (R := fun (q : {q : Qn // QOk q}) => D K (encC (colsS q.1))) (a := ⟨q, hq⟩) (ga_one (g_dv rfl hv)))) (by simp; omega) fun d x S2 e2 hd rx => ?_) ?_
    · obtain ⟨c, _, rfl⟩ := List.mem_map.mp hd
      exact g_inS (g_isStr (g_dv rfl rx)) (g_seqT (g_ixT (i := 0) (ds := [encC r.1, .str r.2]) (g_dv rfl (Dp.up e2 hw)) g_c rfl))
    · rw [List.all_map]
      exact congrArg V.bl ((colsS_perm q).all_eq)
abbrev n_can_share : List Str := ["one", "other"]
theorem sc_can_share : FnScope n_can_share ["one", "other"] (defScope s_can_share) := ⟨rfl, rfl, rfl, by decide +kernel, rfl, by decide +kernel, by decide +kernel⟩
abbrev sp_can_share (K : PySem.W.Frag) : Sp := Pu (fun (q : {q : Qn × Qn // QOk q.1 ∧ QOk q.2}) => A2 (D K (encQ q.1.1)) (D K (encQ q.1.2))) (fun q => Is (.bl (decide (q.1.1 = q.1.2) || (below q.1.1 q.1.2 || below q.1.2 q.1.1))))
theorem ok_can_share (T : Fx K mg) : Cal P w K mg base 9 "can_share" (sp_can_share K) := by
  obtain ⟨fd, Fn⟩ := T.d_can_share
  refine ⟨fn_pos Fn sc_can_share (fun vs H Q E h => ?_) (fun _ _ _ _ _ _ us hl => match us, hl with | [_, _], _ => rfl) (fun cdv A outer s H vs Q E hr h => ?_), T.g_can_share, Fn.kp⟩
  · obtain ⟨_, _, _, ⟨_, _, rfl, _⟩, _⟩ := h
    rfl
  · obtain ⟨⟨⟨q, r⟩, hq, hr'⟩, S, hS, ⟨_, _, rfl, hv, hw⟩, k⟩ := h
    refine ⟨_, pss_one (ps_ret (pe_or (pe_cmpR (r := rEqD K) (op_eqD hr.units) (pv 0) (pv 1) (nomark _)) (pe_or (pe_f ((ok_is_below T).mono (by decide : 8 ≤ 8)) (hr.mono (by decide)) (pa_cons (pv 0) (pa_cons
        (pv 1) pa_nil))) (pe_one (pe_f ((ok_is_below T).mono (by decide : 8 ≤ 8)) (hr.mono (by decide)) (pa_cons (pv 1) (pa_cons (pv 0) pa_nil))))))), ?_⟩
    refine s_ret (R := Is (.bl (decide (q = r) || (below q r || below r q)))) ?_ hS k
    refine g_or (g_eq (g_eqD (g_dv rfl hv) (g_dv rfl hw) (flt_q hq).sh (flt_q hr').sh) (by rw [eqv_encQ])) fun _ => g_or ?_ fun _ => ?_
    · exact g_call (R := fun (q : {q : Qn × Qn // QOk q.1 ∧ QOk q.2}) => Is (.bl (below q.1.1 q.1.2))) (a := ⟨(q, r), hq, hr'⟩) (ga_two (g_dv rfl hv) .d (g_dv rfl hw))
    · exact g_call (R := fun (q : {q : Qn × Qn // QOk q.1 ∧ QOk q.2}) => Is (.bl (below q.1.1 q.1.2))) (a := ⟨(r, q), hr', hq⟩) (ga_two (g_dv rfl hw) .d (g_dv rfl hv))
/-- a chain of questions, upwards -/
structure ChOk (qs : List Qn) : Prop where
  ok : ∀ q ∈ qs, QOk q
  ch : qs.Pairwise fun q r => below q r = true
theorem below_ne {q r : Qn} (h : below q r = true) : q ≠ r := by
  unfold below at h
  rw [Bool.and_eq_true] at h
  exact of_decide_eq_true h.1
theorem ChOk.nd {qs : List Qn} (h : ChOk qs) : qs.Nodup := h.ch.imp below_ne
theorem ChOk.share {qs : List Qn} (h : ChOk qs) : ∀ q ∈ qs, ∀ r ∈ qs, (decide (q = r) || (below q r || below r q)) = true := by
  intro q hq r hr
  by_cases e : q = r
  · simp [e]
  · have : below q r = true ∨ below r q = true := by
      have hp := h.ch
      clear h
      induction qs with
      | nil => cases hq
      | cons a qs ih =>
        rw [List.pairwise_cons] at hp
        rcases List.mem_cons.mp hq with rfl | hq <;> rcases List.mem_cons.mp hr with rfl | hr
        · exact absurd rfl e
        · exact .inl (hp.1 r hr)
        · exact .inr (hp.1 q (by assumption))
        · exact ih (by assumption) (by assumption) hp.2
    rcases this with h | h <;> simp [h]
theorem encQ_inj (q r : Qn) (h : encQ q = encQ r) : q = r := by
  have e := eqv_encQ q r
  rw [h, eqv_encQ] at e
  simpa using e
theorem alike_strs : ∀ cs ds : List Str, PySem.W.alikeAll (cs.map .str) (ds.map .str) = true
  | [], _ => by simp only [List.map_nil, PySem.W.alikeAll]
  | _ :: _, [] => by simp only [List.map_nil, List.map_cons, PySem.W.alikeAll]
  | c :: cs, d :: ds => by simp only [List.map_cons, PySem.W.alikeAll, PySem.W.alike, alike_strs cs ds, Bool.and_self]
theorem alike_qs {qs : List Qn} : ∀ d ∈ qs.map encQ, ∀ d' ∈ qs.map encQ, PySem.W.alike d d' = true := fun d h d' h' => by
  obtain ⟨x, _, rfl⟩ := List.mem_map.mp h
  obtain ⟨y, _, rfl⟩ := List.mem_map.mp h'
  simp only [PySem.W.alike, PySem.W.alikeAll, alike_strs, Bool.and_self]
theorem sortable_qs {qs : List Qn} : (∀ d, d ∈ qs.map encQ → ∃ x r, d = .tuple (x :: r)) ∨ ∀ d, d ∈ qs.map encQ → d ≠ .none ∧ ∀ xs, d ≠ .tuple xs := .inl fun d h => by
  obtain ⟨x, _, rfl⟩ := List.mem_map.mp h
  exact ⟨_, _, rfl⟩
theorem tup_qs {qs : List Qn} : (qs.map encQ).all tupD = true := by
  rw [List.all_eq_true]
  intro d h
  obtain ⟨x, _, rfl⟩ := List.mem_map.mp h
  have := flat_str (cs := x.1)
  simp [tupD, flatD] at this ⊢
theorem flt_depth {n : Nat} {d : PyData} (h : Flt n d) (hn : n ≤ 8 := by decide) : d.depth ≤ 8 := Nat.le_trans h.2 hn
theorem depthAll_strs : ∀ cs : List Str, PyData.depthAll (cs.map .str) ≤ 1
  | [] => by simp [PyData.depthAll]
  | c :: cs => by
    have := depthAll_strs cs
    simp only [List.map_cons, PyData.depthAll, PyData.depth]
    omega
theorem depth_qs {qs : List Qn} : ∀ d ∈ qs.map encQ, d.depth ≤ 8 := fun d h => by
  obtain ⟨x, _, rfl⟩ := List.mem_map.mp h
  have := depthAll_strs x.1
  simp only [PyData.depth, PyData.depthAll]
  omega
/-! ### questions in order -/
def rowL (cs ds : List Str) : Bool := PySem.W.rowLt (cs.map .str) (ds.map .str)
theorem rowL_cons (c d : Str) (cs ds : List Str) : rowL (c :: cs) (d :: ds) = if c = d then rowL cs ds else decide (c.cps.toList < d.cps.toList) := by
  unfold rowL PySem.W.rowLt
  rw [List.map_cons, List.map_cons, PySem.W.dataLt_cons (by simp only [PySem.W.alike]), eqv_str, PySem.W.dataLt_str]
  by_cases h : c = d
  · simp only [h, decide_true, if_true]
  · simp only [h, decide_false, if_false, Bool.false_eq_true]
theorem rowL_nn : rowL [] [] = false := by
  have q := PySem.W.dataLt_ints [] []
  exact q.trans (by simp)
theorem rowL_nc (d : Str) (ds : List Str) : rowL [] (d :: ds) = true := by
  unfold rowL PySem.W.rowLt
  rw [List.map_nil, List.map_cons]
  simp [PySem.W.keyToksAll, PySem.W.keyToks, PyProof.Rows.lexLt, itemLt]
theorem rowL_anti : ∀ cs ds : List Str, rowL cs ds = false → rowL ds cs = false → cs = ds
  | [], [], _, _ => rfl
  | [], d :: ds, h, _ => by rw [rowL_nc] at h; cases h
  | c :: cs, [], _, h => by rw [rowL_nc] at h; cases h
  | c :: cs, d :: ds, h1, h2 => by
    rw [rowL_cons] at h1 h2
    by_cases e : c = d
    · subst e
      rw [if_pos rfl] at h1 h2
      rw [rowL_anti cs ds h1 h2]
    · rw [if_neg e] at h1
      rw [if_neg (Ne.symm e)] at h2
      exact absurd (str_ext (List.le_antisymm (List.not_lt.mp (of_decide_eq_false h2)) (List.not_lt.mp (of_decide_eq_false h1)))) e
theorem ltQ (q r : Qn) : PySem.W.dataLt (encQ q) (encQ r) = if q.1 = r.1 then (if q.2 = r.2 then false else decide (q.2.cps.toList < r.2.cps.toList)) else rowL q.1 r.1 := by
  rw [PySem.W.dataLt_pair (by simp only [PySem.W.alike, alike_strs]) (by simp only [PySem.W.alike]), eqv_cols, eqv_str, PySem.W.dataLt_str]
  by_cases h : q.1 = r.1
  · by_cases h2 : q.2 = r.2 <;> simp [h, h2]
  · simp only [h, decide_false, if_false, Bool.false_eq_true]
    rw [PySem.W.dataLt_tuple]
    rfl
theorem encQ_anti {q r : Qn} (h1 : PySem.W.dataLe false id (encQ q) (encQ r) = true) (h2 : PySem.W.dataLe false id (encQ r) (encQ q) = true) : q = r := by
  have e1 : (!PySem.W.dataLt (encQ r) (encQ q)) = true := h1
  have e2 : (!PySem.W.dataLt (encQ q) (encQ r)) = true := h2
  rw [Bool.not_eq_true', ltQ] at e1 e2
  by_cases h : q.1 = r.1
  · rw [if_pos h] at e2
    rw [if_pos h.symm] at e1
    by_cases h3 : q.2 = r.2
    · exact Prod.ext h h3
    · rw [if_neg h3] at e2
      rw [if_neg (Ne.symm h3)] at e1
      exact absurd (str_ext (List.le_antisymm (List.not_lt.mp (of_decide_eq_false e1)) (List.not_lt.mp (of_decide_eq_false e2)))) h3
  · rw [if_neg h] at e2
    rw [if_neg (Ne.symm h)] at e1
    exact absurd (rowL_anti _ _ e2 e1) h
/-- questions, each once, in order -/
structure AscQ (qs : List Qn) : Prop where
  nd : qs.Nodup
  asc : Asc (qs.map encQ)
theorem ascQ_uniq {qs rs : List Qn} (h1 : AscQ qs) (h2 : AscQ rs) (h : ∀ q, q ∈ qs ↔ q ∈ rs) : qs = rs :=
  List.Perm.eq_of_pairwise (le := fun q r => PySem.W.dataLe false id (encQ q) (encQ r) = true) (fun _ _ _ _ => encQ_anti) (List.pairwise_map.mp h1.asc) (List.pairwise_map.mp h2.asc) (perm_of_mem h1.nd h2.nd h)
theorem exists_map {α : Type} {enc : α → PyData} {xs : List α} : ∀ {es : List PyData}, (∀ d ∈ es, d ∈ xs.map enc) → ∃ ys : List α, es = ys.map enc
  | [], _ => ⟨[], rfl⟩
  | d :: es, h => by
    obtain ⟨ys, e⟩ := exists_map fun x hx => h x (List.mem_cons_of_mem _ hx)
    obtain ⟨c, _, e2⟩ := List.mem_map.mp (h d List.mem_cons_self)
    exact ⟨c :: ys, by rw [List.map_cons, e2, e]⟩
theorem nodup_unmap {α β : Type} {f : α → β} {l : List α} (h : (l.map f).Nodup) : l.Nodup := by
  rw [List.nodup_iff_pairwise_ne] at h ⊢
  rw [List.pairwise_map] at h
  exact h.imp fun hne e => hne (congrArg f e)
/-- the one list: in order, each once, the members of qs -/
theorem ascQ_of {es : List PyData} {qs : List Qn} (hn : es.Nodup) (ha : Asc es) (hm : ∀ d, d ∈ es ↔ d ∈ qs.map encQ) : ∃ rs : List Qn, es = rs.map encQ ∧ AscQ rs ∧ ∀ q, q ∈ rs ↔ q ∈ qs := by
  obtain ⟨rs, rfl⟩ := exists_map fun d hd => (hm d).mp hd
  refine ⟨rs, rfl, ⟨nodup_unmap hn, ha⟩, fun q => ?_⟩
  constructor
  · intro h
    obtain ⟨r, h1, h2⟩ := List.mem_map.mp ((hm (encQ q)).mp (List.mem_map_of_mem h))
    rw [← encQ_inj _ _ h2]
    exact h1
  · intro h
    obtain ⟨r, h1, h2⟩ := List.mem_map.mp ((hm (encQ q)).mpr (List.mem_map_of_mem h))
    rw [← encQ_inj _ _ h2]
    exact h1
def nubQ (qs : List Qn) : List Qn := qs.foldr (fun q l => if q ∈ l then l else q :: l) []
theorem nubQ_ok : ∀ qs : List Qn, (nubQ qs).Nodup ∧ ∀ q, q ∈ nubQ qs ↔ q ∈ qs
  | [] => ⟨List.nodup_nil, fun _ => Iff.rfl⟩
  | q :: qs => by
    have ih := nubQ_ok qs
    have e : nubQ (q :: qs) = if q ∈ nubQ qs then nubQ qs else q :: nubQ qs := rfl
    rw [e]
    by_cases h : q ∈ nubQ qs
    · rw [if_pos h]
      refine ⟨ih.1, fun r => ?_⟩
      rw [ih.2, List.mem_cons]
      exact ⟨.inr, fun z => z.elim (fun e => e ▸ (ih.2 q).mp h) id⟩
    · rw [if_neg h]
      exact ⟨List.nodup_cons.mpr ⟨h, ih.1⟩, fun r => by rw [List.mem_cons, List.mem_cons, ih.2]⟩
def canonQ (qs : List Qn) : List Qn := (nubQ qs).mergeSort (PySem.W.dataLe false encQ)
theorem canonQ_perm (qs : List Qn) : (canonQ qs).Perm (nubQ qs) := List.mergeSort_perm _ _
theorem canonQ_mem {qs : List Qn} {q : Qn} : q ∈ canonQ qs ↔ q ∈ qs := (canonQ_perm qs).mem_iff.trans ((nubQ_ok qs).2 q)
theorem canonQ_asc (qs : List Qn) : AscQ (canonQ qs) :=
  ⟨(canonQ_perm qs).nodup_iff.mpr (nubQ_ok qs).1, List.pairwise_map.mpr (PySem.W.sort_pairwise (PySem.W.sortLe_total _ _ _) (nubQ qs))⟩
theorem canonQ_self {qs : List Qn} (h : AscQ qs) : canonQ qs = qs := ascQ_uniq (canonQ_asc qs) h fun _ => canonQ_mem
theorem canonQ_congr {qs rs : List Qn} (h : ∀ q, q ∈ qs ↔ q ∈ rs) : canonQ qs = canonQ rs := ascQ_uniq (canonQ_asc qs) (canonQ_asc rs) fun q => canonQ_mem.trans ((h q).trans canonQ_mem.symm)
theorem canonQ_len {qs : List Qn} : (canonQ qs).length ≤ qs.length := sub_len (canonQ_asc qs).nd fun _ h => canonQ_mem.mp h
/-- sorted(set(questions)) -/
theorem g_sortSQ {σ : L2.St} {S : Hp} {te : TE} {qs : List Qn} {RR : Rel} (h : G te σ S RR) (hR : ∀ v S, RR v S → Dp K S v (.list (qs.map encQ)) ∨ Dp K S v (.tuple (qs.map encQ))) (hl : qs.length ≤ 300) :
    G (tCB (rSortS K w) (tCons (tCB (rSetD K w) (tCons te tNil)) tNil)) σ S (L0 K ((canonQ qs).map encQ)) :=
  (g_sortS0 (g_set h hR (.inr tup_qs) (by simp; omega)) alike_qs sortable_qs depth_qs).imp fun v S2 _ ⟨es, hd, hn, hm, ha⟩ => by
    obtain ⟨rs, rfl, h1, h2⟩ := ascQ_of hn ha hm
    rw [← ascQ_uniq h1 (canonQ_asc qs) fun q => (h2 q).trans canonQ_mem.symm]
    exact hd
abbrev n_split_pair : List Str := ["questions", "unlike", "at", "one", "other"]
theorem sc_split_pair : FnScope n_split_pair ["questions"] (defScope s_split_pair) := ⟨rfl, rfl, rfl, by decide +kernel, rfl, by decide +kernel, by decide +kernel⟩
abbrev sp_split_pair (K : PySem.W.Frag) : Sp := Pu (fun (q : {q : List Qn // ChOk q ∧ q.length ≤ 48}) => A1 (D K (.list (q.1.map encQ)))) (fun _ => Is .non)
theorem ok_split_pair (T : Fx K mg) : Cal P w K mg base 10 "split_pair" (sp_split_pair K) := by
  obtain ⟨fd, Fn⟩ := T.d_split_pair
  refine ⟨fn_pos Fn sc_split_pair (fun vs H Q E h => ?_) (fun _ _ _ _ _ _ us hl => match us, hl with | [_], _ => rfl) (fun cdv A outer s H vs Q E hr h => ?_), T.g_split_pair, Fn.kp⟩
  · obtain ⟨_, _, _, ⟨_, rfl, _⟩, _⟩ := h
    rfl
  · obtain ⟨⟨qs, hc, hl⟩, S, hS, ⟨_, rfl, hv⟩, k⟩ := h
    refine ⟨_, pss_cons (ps_set (i := 1) sc_split_pair.nd rfl (by first | exact Or.inl rfl | exact Or.inr rfl) (pe_callB (r := rSortS K w) (cr_sortS rfl (hr.mono (by decide))) rfl T.b_sorted bt_sorted (pa_cons
        (pe_callTy (r := rSetD K w) (cr_setD rfl (hr.mono (by decide))) rfl T.b_set bt_set (pa_cons (pv 0) pa_nil)) pa_nil))) (pss_cons (ps_for PassesOwn.never rfl (pi_enum rfl T.b_enumerate (pa_cons
        (pv 1) pa_nil)) (pg_tupK (K := K) (n := 2) rfl (pgs_cons (pg_name (i := 2) sc_split_pair.nd rfl (by first | exact Or.inl rfl | exact Or.inr rfl)) (pgs_cons (pg_name (i := 3) sc_split_pair.nd
        rfl (by first | exact Or.inl rfl | exact Or.inr rfl)) pgs_nil))) (pss_one (ps_for PassesOwn.never rfl (pi_listK (K := K) (pe_slice (r := rSlL K) sl_list (pv 1) (po_some (pe_op op_add (pv 2)
        pe_int)) po_none)) (pg_name (i := 4) sc_split_pair.nd rfl (by first | exact Or.inl rfl | exact Or.inr rfl)) (pss_one (ps_if (pt_not (pt_val (pe_f ((ok_can_share T).mono (by decide : 9 ≤ 9))
        (hr.mono (by decide)) (pa_cons (pv 3) (pa_cons (pv 4) pa_nil))))) (pss_one (ps_ret (pe_tup (pa_cons (pv 3) (pa_cons (pv 4) pa_nil))))) pss_nil))))) (pss_one (ps_ret pe_non))), ?_⟩
    refine q_set (g_l0D (g_sortSQ (qs := qs) (g_dv rfl hv) (fun v S r => .inl r) (by omega))) (.refl hS) fun v S1 H1 e1 ss hd => ?_
    have hle : (canonQ qs).length ≤ qs.length := canonQ_len
    have hq : ∀ d ∈ (canonQ qs).map encQ, ∃ q ∈ qs, d = encQ q := fun d h => by
      obtain ⟨q, h1, h2⟩ := List.mem_map.mp h
      exact ⟨q, canonQ_mem.mp h1, h2.symm⟩
    refine q_for (gi_enum (g_dv rfl hd)) e1.sh fun S2 H2 e2 => ⟨fun _ σ' S' H' => Gw S H S' H' ∧ Same S2 S' ∧ ∃ x y z, σ' = [some _, some v, x, y, z], ⟨e1.trans e2, Same.refl _, _, _, _, rfl⟩, fun i σ' S' H' h => ⟨h.2.1, h.1.sh⟩, ?_, ?_⟩
    · rintro i ⟨j, d⟩ x σ' S0 H0 S' H' hx ⟨g1, s1, y1, y2, y3, rfl⟩ g2 rx
      refine g_un2 rx g2.sh fun y z hy hz => ?_
      obtain rfl := Dp.intI hy
      have s3 : Same S1 S' := (e2.ss.trans s1).trans g2.ss
      obtain ⟨q, hq1, rfl⟩ := hq d (List.of_mem_zip (List.mem_of_getElem? hx)).2
      refine s_for (gi_list (g_l0D (g_slLo (i := j + 1) (g_dv rfl (Dp.up s3 hd)) (g_eq (g_I0 (i := (j : Int)) (j := 1) (g_is rfl) g_c) (by simp))))) g2.sh fun S4 H4 e4 => ⟨fun _ σ' S' H' => Gw S H S' H' ∧ Same S4 S' ∧ ∃ x, σ' = [some _, some v, some _, some z, x], ⟨(g1.trans g2).trans e4, Same.refl _, _, rfl⟩, fun i σ' S' H' h => ⟨h.2.1, h.1.sh⟩, ?_, ?_⟩
      · rintro i2 d2 x2 σ2 S5 H5 S6 H6 hx2 ⟨g5, s5, y5, rfl⟩ g6 rx2
        obtain ⟨r, hr1, rfl⟩ := hq d2 (List.mem_of_mem_drop (List.mem_of_getElem? hx2))
        refine s_no (gt_eq (gt_not (gt_B (g_call (R := fun (q : {q : Qn × Qn // QOk q.1 ∧ QOk q.2}) => Is (.bl (decide (q.1.1 = q.1.2) || (below q.1.1 q.1.2 || below q.1.2 q.1.1)))) (a := ⟨(q, r), hc.ok q hq1, hc.ok r hr1⟩) (ga_two (g_dv rfl (Dp.up ((e4.ss.trans s5).trans g6.ss) hz)) .d (g_dv rfl rx2))))) (by simp only [hc.share q hq1 r hr1]; rfl)) (g5.trans g6) fun S7 H7 e7 ss7 => ?_
        exact ⟨S7, e7, (s5.trans g6.ss).trans ss7, _, rfl⟩
      · rintro σ2 S5 H5 ⟨g5, s5, y5, rfl⟩
        exact ⟨S5, g5, ((s1.trans g2.ss).trans e4.ss).trans s5, _, _, _, rfl⟩
    · rintro σ' S' H' ⟨g1, s1, y1, y2, y3, rfl⟩
      exact s_ret (g_c (v := .non)) g1.sh fun v S3 H3 e3 r => k v S3 H3 (g1.trans e3) r
/-- how far up a question stands -/
abbrev climbD (q : Qn) : PyData := .tuple [.int (q.1.length : Nat), .bool (decide (0 < q.2.length))]
abbrev n_climb : List Str := ["question"]
theorem sc_climb : FnScope n_climb ["question"] (defScope s_climb) := ⟨rfl, rfl, rfl, by decide +kernel, rfl, by decide +kernel, by decide +kernel⟩
abbrev sp_climb (K : PySem.W.Frag) : Sp := Pu (fun (q : {q : Qn // QOk q}) => A1 (D K (encQ q.1))) (fun q => D K (climbD q.1))
theorem ok_climb (T : Fx K mg) : Cal P w K mg base 1 "climb" (sp_climb K) := by
  obtain ⟨fd, Fn⟩ := T.d_climb
  refine ⟨fn_pos Fn sc_climb (fun vs H Q E h => ?_) (fun _ _ _ _ _ _ us hl => match us, hl with | [_], _ => rfl) (fun cdv A outer s H vs Q E hr h => ?_), T.g_climb, Fn.kp⟩
  · obtain ⟨_, _, _, ⟨_, rfl, _⟩, _⟩ := h
    rfl
  · obtain ⟨⟨q, hc⟩, S, hS, ⟨_, rfl, hv⟩, k⟩ := h
    have hz : q.2.length ≤ sizeLine := by
      rcases hc.last with h | h
      · rw [h]
        decide
      · exact (menu_len _ h.1).2.2
    refine ⟨_, pss_one (ps_ret (pe_tup (pa_cons (pe_callB (r := rLn K) call_len rfl T.b_len bt_len (pa_cons (pe_ix (r := rIxT K) ix_tup (pv 0) pe_int (fun _ _ => rfl)) pa_nil)) (pa_cons (pe_cmpR op_gt
        (pe_callB (r := rLn K) call_len rfl T.b_len bt_len (pa_cons (pe_ix (r := rIxT K) ix_tup (pv 0) pe_int (fun _ _ => rfl)) pa_nil)) pe_int (nomark _)) pa_nil)))), ?_⟩
    refine s_ret (R := D K (climbD q)) ?_ hS k
    refine g_tup (ga_dc (g_dInt (g_eq (g_lenT (g_ixT (i := 0) (ds := [encC q.1, .str q.2]) (g_dv rfl hv) g_c rfl)) (by simp))) (ga_dc ?_ ga_d0)) (by simp)
    refine (g_I0 (g_lenS (g_isStr (g_ixT (i := 1) (ds := [encC q.1, .str q.2]) (g_dv rfl hv) g_c rfl)) hz) g_c).imp fun v S2 _ r => ?_
    rw [r]
    have : decide ((0 : Int) < (q.2.length : Int)) = decide (0 < q.2.length) := by simp
    rw [this]
    exact .bl _
def leK : Qn → Qn → Bool := PySem.W.dataLe false climbD
def rSortKey (K : PySem.W.Frag) : List V → List V → Hp → VK → Prop := fun vs zs H Q => ∃ (a : Addr) (ws : List V) (qs : List Qn), vs = [.ref a] ∧ zs = [.ref (He.ga K "climb")] ∧ SqL K H a ws ∧ DpAll K H ws (qs.map encQ) ∧ (∀ q ∈ qs, QOk q) ∧ qs.length ≤ 48 ∧
  ∀ (p : Addr) (ws' : List V) (H2 : Hp), (∀ b o, H b = some o → H2 b = some o) → H2 p = none → ws'.length = qs.length → (∀ z ∈ ws'.zip (qs.mergeSort leK), ∃ v ∈ ws.zip qs, z = v) → Q (.ref p) (upd H2 p (.lst ws'))
theorem cr_sortKey {X : Cx} {k : Nat} (F : Cal X.prog X.w X.K X.mg X.base k "climb" (sp_climb X.K)) (hr : Room (k + 3) X.A) : CallRK X (.builtin "sorted") [Str.ofString "key"] (rSortKey X.K) := by
  intro pins s σ H vs zs us ws Q I r rz ⟨a, xs, qs, ev, ez, hs, hd, ok, hl, q⟩
  subst ev ez
  rw [Vals.ref1 r, Vals.ref1 rz]
  have dk : ∀ q : Qn, (climbD q).depth ≤ 8 := fun q => by simp [climbD, PyData.depth, PyData.depthAll]
  refine sort_by (Ok := QOk) (enc := encQ) (key := climbD) F.run hr I hs hd ok (by omega) (PySem.W.AllAlike.of fun b b' => ?_) (PySem.W.Sortable.tuples fun b => ⟨_, _, rfl⟩) (fun q _ => dk q) q
  simp [PySem.W.alike, PySem.W.alikeAll]
theorem g_sortKey {σ : L2.St} {S : Hp} {te : TE} {qs : List Qn} (h : G te σ S (D K (.list (qs.map encQ)))) (ho : ∀ q ∈ qs, QOk q) (hl : qs.length ≤ 48) : G (tCKw (rSortKey K) (tCons te tNil) (tCons (tC (.ref (He.ga K "climb"))) tNil)) σ S (D K (.list ((qs.mergeSort leK).map encQ))) := fun S1 H1 e b Q q =>
  ga_one h S1 H1 e b _ fun vs S2 H2 e2 ⟨v, ev, r⟩ => ga_one g_c S2 H2 (e.trans e2.ss) e2.sh _ fun zs S3 H3 e3 ⟨z, ez, hz⟩ => by
    obtain ⟨a, ws, rfl, h1, h2⟩ := Dp.lstI r
    subst hz
    refine ⟨a, ws, qs, ev, ez, Same.sqL (e3.ss.trans e3.sh) h1, DpAll.up (e3.ss.trans e3.sh) h2, ho, hl, fun p ws' H4 k4 hp hl hz => ?_⟩
    have g4 : Gw S3 H3 S3 H4 := ⟨Same.refl _, k4, fun b o h => k4 b o (e3.sh b o h), fun _ _ _ => rfl⟩
    have hm : (qs.mergeSort leK).length = qs.length := (List.mergeSort_perm qs leK).length_eq
    refine q _ _ _ ((e2.trans e3).trans (g4.trans (Gw.new g4.sh hp))) (.lst (SqL.of upd_same) (dp_of_zip (by rw [List.length_map, hm, hl]) fun y hy => ?_))
    rw [List.zip_map_right] at hy
    obtain ⟨y', hy', rfl⟩ := List.mem_map.mp hy
    obtain ⟨v', hv', rfl⟩ := hz y' hy'
    refine Dp.up (Same.new (g4.sh.free hp)) (Dp.up e3.ss (dp_zip h2 (y'.1, encQ y'.2) ?_))
    rw [List.zip_map_right]
    exact List.mem_map.mpr ⟨y', hv', rfl⟩
/-! ### a chain stands in its own order -/
theorem sub_all {α : Type} [DecidableEq α] {l m : List α} (h1 : l.Nodup) (hs : ∀ x ∈ l, x ∈ m) (hl : m.length ≤ l.length) : ∀ x ∈ m, x ∈ l := fun x hx => Decidable.byContradiction fun h => by
  have := sub_len (l := x :: l) (m := m) (List.nodup_cons.mpr ⟨h, h1⟩) fun y hy => (List.mem_cons.mp hy).elim (fun e => e ▸ hx) (hs y)
  rw [List.length_cons] at this
  omega
theorem below_sub {q r : Qn} (h : below q r = true) : ∀ c ∈ colsL q, c ∈ r.1 := fun c hc => by
  unfold below at h
  rw [Bool.and_eq_true, List.all_eq_true] at h
  exact of_decide_eq_true (h.2 c hc)
theorem colsL_len (q : Qn) : (colsL q).length = q.1.length + if q.2 = "" then 0 else 1 := by
  unfold colsL
  rw [List.length_append]
  by_cases h : q.2 = ""
  · rw [if_pos h, if_pos h]
    rfl
  · rw [if_neg h, if_neg h]
    rfl
theorem below_climb {q r : Qn} (hq : QOk q) (hr : QOk r) (h : below q r = true) : q.1.length < r.1.length ∨ (q.1.length = r.1.length ∧ q.2 = "" ∧ r.2 ≠ "") := by
  have hl : (colsL q).length ≤ r.1.length := sub_len hq.colsOk.nd (below_sub h)
  rw [colsL_len] at hl
  by_cases e : q.2 = ""
  · rw [if_pos e] at hl
    rcases Nat.lt_or_ge q.1.length r.1.length with g | g
    · exact .inl g
    · refine .inr ⟨by omega, e, fun e2 => below_ne h (Prod.ext ?_ (e.trans e2.symm))⟩
      have hs : ∀ c ∈ q.1, c ∈ r.1 := fun c hc => below_sub h c (List.mem_append_left _ hc)
      have p : q.1.Perm r.1 := perm_of_mem hq.cols.nd hr.cols.nd fun x => ⟨hs x, sub_all hq.cols.nd hs g x⟩
      have u := asc_uniq (fun a b h1 h2 e1 e2 => ?_) hq.asc hr.asc (p.map PyData.str)
      · exact (List.map_inj_right str_inj).mp u
      · obtain ⟨x, _, rfl⟩ := List.mem_map.mp h1
        obtain ⟨y, _, rfl⟩ := List.mem_map.mp h2
        rw [str_anti e1 e2]
  · rw [if_neg e] at hl
    exact .inl (by omega)
theorem str_pos {c : Str} : decide (0 < c.length) = decide (c ≠ "") := by
  by_cases h : c = ""
  · subst h
    rfl
  · have : 0 < c.length := by
      rcases Nat.eq_zero_or_pos c.length with z | z
      · refine absurd (str_ext (b := "") ?_) h
        have : c.cps.size = 0 := z
        rw [List.eq_nil_of_length_eq_zero (l := c.cps.toList) (by simpa using this)]
        rfl
      · exact z
    simp [this, h]
theorem leK_tot : PySem.W.TotalLe leK := by
  unfold leK PySem.W.dataLe
  exact PySem.W.sortLe_total _ _ _
theorem leK_eq (q r : Qn) : leK q r = !(if r.1.length = q.1.length then (if decide (0 < r.2.length) = decide (0 < q.2.length) then false else decide (PyProof.Rows.b2i (decide (0 < r.2.length)) < PyProof.Rows.b2i (decide (0 < q.2.length)))) else decide (r.1.length < q.1.length)) := by
  show (!PySem.W.dataLt (climbD r) (climbD q)) = _
  rw [PySem.W.dataLt_pair (by simp only [PySem.W.alike]) (by simp only [PySem.W.alike]), PySem.W.dataLt_int, PySem.W.dataLt_bool]
  congr 1
  simp only [PyData.eqv]
  by_cases h1 : r.1.length = q.1.length
  · by_cases h2 : decide (0 < r.2.length) = decide (0 < q.2.length) <;> simp [h1, h2]
  · have h1' : ¬ ((r.1.length : Int) = (q.1.length : Int)) := by omega
    simp [h1, h1']
theorem leK_up {q r : Qn} (hq : QOk q) (hr : QOk r) (h : below q r = true) : leK q r = true ∧ leK r q = false := by
  rw [leK_eq, leK_eq]
  rcases below_climb hq hr h with g | ⟨g, g1, g2⟩
  · have n1 : ¬ r.1.length = q.1.length := by omega
    have n2 : ¬ q.1.length = r.1.length := by omega
    have n3 : ¬ r.1.length < q.1.length := by omega
    simp [n1, n2, n3, g]
  · have h1 : decide (0 < q.2.length) = false := by rw [str_pos]; simp [g1]
    have h2 : decide (0 < r.2.length) = true := by rw [str_pos]; simp [g2]
    rw [h1, h2]
    simp [g, PyProof.Rows.b2i]
theorem up_self {qs : List Qn} (h : ChOk qs) : (canonQ qs).mergeSort leK = qs := by
  have p : ((canonQ qs).mergeSort leK).Perm qs := (List.mergeSort_perm _ _).trans (perm_of_mem (canonQ_asc qs).nd h.nd fun q => canonQ_mem)
  have h2 : qs.Pairwise fun q r => leK q r = true ∧ leK r q = false := by
    have hp := h.ch
    have ho := h.ok
    clear h p
    induction qs with
    | nil => exact .nil
    | cons a qs ih =>
      rw [List.pairwise_cons] at hp ⊢
      exact ⟨fun b hb => leK_up (ho a List.mem_cons_self) (ho b (List.mem_cons_of_mem _ hb)) (hp.1 b hb), ih hp.2 fun q hq => ho q (List.mem_cons_of_mem _ hq)⟩
  refine List.Perm.eq_of_pairwise (le := fun q r => leK q r = true) (fun a b h3 h4 e1 e2 => ?_) (PySem.W.sort_pairwise (le := leK) leK_tot _) (h2.imp fun z => z.1) p
  have ha := p.mem_iff.mp h3
  clear h3 p h
  induction qs with
  | nil => cases ha
  | cons c qs ih =>
    rw [List.pairwise_cons] at h2
    rcases List.mem_cons.mp ha with rfl | ha <;> rcases List.mem_cons.mp h4 with rfl | h4
    · rfl
    · exact absurd (h2.1 b (by assumption)).2 (by rw [e2]; decide)
    · exact absurd (h2.1 a (by assumption)).2 (by rw [e1]; decide)
    · exact ih h2.2 (by assumption) (by assumption)
abbrev n_upwards : List Str := ["questions"]
theorem sc_upwards : FnScope n_upwards ["questions"] (defScope s_upwards) := ⟨rfl, rfl, rfl, by decide +kernel, rfl, by decide +kernel, by decide +kernel⟩
abbrev sp_upwards (K : PySem.W.Frag) : Sp := Pu (fun (q : {q : List Qn // ChOk q ∧ q.length ≤ 48}) => A1 (D K (.list (q.1.map encQ)))) (fun q => D K (.list (q.1.map encQ)))
theorem ok_upwards (T : Fx K mg) : Cal P w K mg base 7 "upwards" (sp_upwards K) := by
  obtain ⟨fd, Fn⟩ := T.d_upwards
  refine ⟨fn_pos Fn sc_upwards (fun vs H Q E h => ?_) (fun _ _ _ _ _ _ us hl => match us, hl with | [_], _ => rfl) (fun cdv A outer s H vs Q E hr h => ?_), T.g_upwards, Fn.kp⟩
  · obtain ⟨_, _, _, ⟨_, rfl, _⟩, _⟩ := h
    rfl
  · obtain ⟨⟨qs, hc, hl⟩, S, hS, ⟨_, rfl, hv⟩, k⟩ := h
    refine ⟨_, pss_one (ps_ret (pe_callBK (r := rSortKey K) (cr_sortKey ((ok_climb T).mono (by decide : 1 ≤ 3)) (hr.mono (by decide))) rfl T.b_sorted bt_sorted (pa_cons (pe_callB (r := rSortS K w) (cr_sortS
        rfl (hr.mono (by decide))) rfl T.b_sorted bt_sorted (pa_cons (pe_callTy (r := rSetD K w) (cr_setD rfl (hr.mono (by decide))) rfl T.b_set bt_set (pa_cons (pv 0) pa_nil)) pa_nil)) pa_nil)
        (pk_cons (pe_glob (v := .ref (He.ga K "climb")) rfl T.g_climb rfl) pk_nil))), ?_⟩
    refine s_ret (R := D K (.list (qs.map encQ))) ?_ hS k
    have q := g_sortKey (K := K) (g_l0D (g_sortSQ (K := K) (w := w) (σ := start n_upwards [_]) (S := S) (te := tVar 0) (qs := qs) (g_dv rfl hv) (fun v S r => .inl r) (by omega))) (fun q hq => hc.ok q (canonQ_mem.mp hq)) (Nat.le_trans canonQ_len hl)
    rw [up_self hc] at q
    exact q
end
end NK
end

section
set_option Elab.async false
set_option linter.all false
set_option maxRecDepth 100000
set_option maxHeartbeats 400000
namespace NK
open PySem PySem.Spec L2
open PyProof.Rows hiding St
section
variable {P : Program} {w : World} {K : PySem.W.Frag} {mg : Str → Option Value} {base : Heap}
theorem gi_range1 {σ : L2.St} {S : Hp} {te : TE} {n : Nat} (h : G te σ S (Is (.int n))) (hn : n < 100000) : GI (iRng1 (tCons te tNil)) σ S (List.range n) (fun i => Is (.int (i : Nat))) :=
  gi_range (fun S1 H1 e b Q q => ga_one h S1 H1 e b _ fun vs S2 H2 e2 ⟨v, ev, r⟩ => q _ S2 H2 e2 (by rw [ev, r])) hn
/-- the index r serves the question q -/
def srvAt (r cs : List Str) (i : Nat) : Bool := match r[i]? with
  | some c => decide (c ∈ cs)
  | none => false
def srv (r : List Str) (q : Qn) : Bool := (List.range q.1.length).all (srvAt r q.1) && (decide (q.2 = "") || decide (r[q.1.length]? = some q.2))
abbrev n_first_fault : List Str := ["index", "question", "columns", "last", "place", "behind"]
theorem sc_first_fault : FnScope n_first_fault ["index", "question"] (defScope s_first_fault) := ⟨rfl, rfl, rfl, by decide +kernel, rfl, by decide +kernel, by decide +kernel⟩
abbrev sp_first_fault (K : PySem.W.Frag) : Sp := Pu (fun (q : {q : List Str × Qn // ColsOk q.1 ∧ QOk q.2}) => A2 (D K (encC q.1.1)) (D K (encQ q.1.2))) (fun q v _ => (srv q.1.1 q.1.2 = true ∧ v = .non) ∨ (srv q.1.1 q.1.2 = false ∧ ∃ n, v = .int n))
theorem ok_first_fault (T : Fx K mg) : Cal P w K mg base 1 "first_fault" (sp_first_fault K) := by
  obtain ⟨fd, Fn⟩ := T.d_first_fault
  refine ⟨fn_pos Fn sc_first_fault (fun vs H Q E h => ?_) (fun _ _ _ _ _ _ us hl => match us, hl with | [_, _], _ => rfl) (fun cdv A outer s H vs Q E hr h => ?_), T.g_first_fault, Fn.kp⟩
  · obtain ⟨_, _, _, ⟨_, _, rfl, _⟩, _⟩ := h
    rfl
  · obtain ⟨⟨⟨r, q⟩, hr', hq⟩, S, hS, ⟨va, vb, rfl, hv, hw⟩, k⟩ := h
    have k : ∀ (v : V) (S' H' : Hp), Gw S H S' H' → ((srv r q = true ∧ v = .non) ∨ (srv r q = false ∧ ∃ n, v = .int n)) → Q v H' := k
    have hl : q.1.length ≤ 12 := hq.cols.len
    refine ⟨_, pss_cons (ps_asg (pv 1) (pg_tupK (K := K) (n := 2) rfl (pgs_cons (pg_name (i := 2) sc_first_fault.nd rfl (by first | exact Or.inl rfl | exact Or.inr rfl)) (pgs_cons (pg_name (i := 3)
        sc_first_fault.nd rfl (by first | exact Or.inl rfl | exact Or.inr rfl)) pgs_nil)))) (pss_cons (ps_for PassesOwn.never rfl (pi_range1 rfl T.b_range (pa_cons (pe_callB (r := rLn K) call_len rfl
        T.b_len bt_len (pa_cons (pv 2) pa_nil)) pa_nil)) (pg_name (i := 4) sc_first_fault.nd rfl (by first | exact Or.inl rfl | exact Or.inr rfl)) (pss_one (ps_if (PW.pt (pw_or (pt_cmpR op_ge (pv 4)
        (pe_callB (r := rLn K) call_len rfl T.b_len bt_len (pa_cons (pv 0) pa_nil)) (nomark _)) (pw_or1 (pt_cmpR (r := rIn K true) op_notIn_seq (pe_ix (r := rIxT K) ix_tup (pv 0) (pv 4) (fun _ _ =>
        rfl)) (pv 2) rfl)))) (pss_one (ps_ret (pv 4))) pss_nil))) (pss_cons (ps_set (i := 5) sc_first_fault.nd rfl (by first | exact Or.inl rfl | exact Or.inr rfl) (pe_callB (r := rLn K) call_len rfl
        T.b_len bt_len (pa_cons (pv 2) pa_nil))) (pss_cons (ps_if (PW.pt (pw_and (pt_cmpR op_ne (pv 3) pe_str (nomark _)) (pw_and1 (PW.pt (pw_or (pt_cmpR op_ge (pv 5) (pe_callB (r := rLn K) call_len
        rfl T.b_len bt_len (pa_cons (pv 0) pa_nil)) (nomark _)) (pw_or1 (pt_cmpR op_ne (pe_ix (r := rIxT K) ix_tup (pv 0) (pv 5) (fun _ _ => rfl)) (pv 3) (nomark _)))))))) (pss_one (ps_ret (pv 5)))
        pss_nil) (pss_one (ps_ret pe_non))))), ?_⟩
    refine q_unp (g_dv rfl hw) (.refl hS) fun y z S1 H1 e1 ss h1 h2 => ?_
    obtain rfl := Dp.strI h2
    refine q_for (gi_range1 (n := q.1.length) (g_eq (g_lenT (g_dv rfl h1)) (by simp)) (by omega)) e1.sh fun S2 H2 e2 => ⟨fun i σ' S' H' => (Gw S H S' H' ∧ Same S2 S') ∧ (∃ x, σ' = [some _, some _, some y, some (.str q.2), x, none]) ∧ ∀ j, j < i → srvAt r q.1 j = true, ⟨⟨e1.trans e2, Same.refl _⟩, ⟨_, rfl⟩, fun j hj => absurd hj (Nat.not_lt_zero _)⟩, fun i σ' S' H' h => ⟨h.1.2, h.1.1.sh⟩, ?_, ?_⟩
    · rintro i j x σ' S0 H0 S' H' hx ⟨⟨g1, s1⟩, ⟨y1, rfl⟩, hi⟩ g2 rfl
      have hij : i < q.1.length ∧ j = i := by
        have := List.getElem?_eq_some_iff.mp hx
        obtain ⟨h3, h4⟩ := this
        rw [List.length_range] at h3
        rw [List.getElem_range] at h4
        exact ⟨h3, h4.symm⟩
      obtain ⟨hi1, rfl⟩ := hij
      have s2 : Same S1 S' := (e2.ss.trans s1).trans g2.ss
      show tIfS _ _ _ _ _ _
      refine s_if (c := !srvAt r q.1 j) (gt_eq (gt_or (b := !srvAt r q.1 j) (gt_test (g_I0 (i := (j : Int)) (g_is rfl) (g_lenT (g_dv rfl (Dp.up (ss.trans s2) hv))))) fun hz => gt_test ?_) ?_) g2.sh (fun hc S3 H3 e3 => ?_) fun hc S3 H3 e3 => ?_
      · have hlt : j < r.length := by simpa using hz
        have e4 : srvAt r q.1 j = decide (r[j] ∈ q.1) := by
          unfold srvAt
          rw [List.getElem?_eq_getElem hlt]
        rw [e4]
        exact g_notInS (g_isStr (g_ixT (i := j) (d := .str r[j]) (g_dv rfl (Dp.up (ss.trans s2) hv)) (g_is rfl) (by rw [List.getElem?_map, List.getElem?_eq_getElem hlt]; rfl))) (g_seqT (g_dv rfl (Dp.up s2 h1)))
      · by_cases hlt : j < r.length
        · have : ¬ ((r.length : Int) ≤ (j : Int)) := by omega
          simp [this]
        · have h5 : r.length ≤ j := by omega
          have : ((r.length : Int) ≤ (j : Int)) := by omega
          have e4 : srvAt r q.1 j = false := by
            unfold srvAt
            rw [List.getElem?_eq_none h5]
          simp [this, e4]
      · refine s_ret (g_is rfl) e3.sh fun v S4 H4 e4 rv => k v S4 H4 (((g1.trans g2).trans e3).trans e4) (.inr ⟨?_, j, rv⟩)
        unfold srv
        have hz : srvAt r q.1 j = false := by simpa using hc
        have : (List.range q.1.length).all (srvAt r q.1) = false := List.all_eq_false.mpr ⟨j, List.mem_range.mpr hi1, by rw [hz]; decide⟩
        rw [this]
        rfl
      · refine ⟨S3, ⟨(g1.trans g2).trans e3, (s1.trans g2.ss).trans e3.ss⟩, ⟨_, rfl⟩, fun i hi2 => ?_⟩
        rcases Nat.lt_succ_iff_lt_or_eq.mp hi2 with h6 | rfl
        · exact hi i h6
        · simpa using hc
    · rintro σ' S' H' ⟨⟨g1, s1⟩, ⟨y1, rfl⟩, hi⟩
      rw [List.length_range] at hi
      have s2 : Same S1 S' := e2.ss.trans s1
      have hall : (List.range q.1.length).all (srvAt r q.1) = true := List.all_eq_true.mpr fun j hj => hi j (List.mem_range.mp hj)
      have hsr : srv r q = (decide (q.2 = "") || decide (r[q.1.length]? = some q.2)) := by
        unfold srv
        rw [hall, Bool.true_and]
      refine q_set (g_eq (g_lenT (g_dv rfl (Dp.up s2 h1))) (v' := .int (q.1.length : Nat)) (by simp)) g1 fun v S3 H3 e3 s3 rv => ?_
      subst rv
      have s4 := s2.trans s3
      have hlq : (r[q.1.length]? = some q.2) → ¬ ((r.length : Int) ≤ (q.1.length : Int)) := fun h => by
        have := (List.getElem?_eq_some_iff.mp h).1
        omega
      have ht : GT (tOr (tTest (tOp (rI0 fun i j => .bl (decide (j ≤ i))) (tVar 5) (tCB (rLn K) (tCons (tVar 0) tNil)))) (tTest (tOp rNe (tOp (rIxT K) (tVar 0) (tVar 5)) (tVar 3)))) [some va, some vb, some y, some (V.str q.2), y1, some (V.int q.1.length)] S3 (!decide (r[q.1.length]? = some q.2)) := by
        refine gt_eq (gt_or (b := !decide (r[q.1.length]? = some q.2)) (gt_test (g_I0 (i := (q.1.length : Int)) (g_is rfl) (g_lenT (g_dv rfl (Dp.up (ss.trans s4) hv))))) fun hz => gt_test ?_) ?_
        · have hlt : q.1.length < r.length := by simpa using hz
          refine g_eq (g_neS (x := .str r[q.1.length]) (y := .str q.2) (g_isStr (g_ixT (i := q.1.length) (d := .str r[q.1.length]) (g_dv rfl (Dp.up (ss.trans s4) hv)) (g_is rfl) (by rw [List.getElem?_map, List.getElem?_eq_getElem hlt]; rfl))) (g_is rfl) rfl) ?_
          rw [List.getElem?_eq_getElem hlt]
          simp
        · by_cases h5 : r[q.1.length]? = some q.2
          · have := hlq h5
            simp [this]
          · simp [h5]
      have hc : GT _ [some va, some vb, some y, some (V.str q.2), y1, some (V.int q.1.length)] S3 (!srv r q) := gt_eq (gt_and (gt_test (g_neS (g_is (i := 3) rfl) (g_c (v := .str "")) rfl)) fun _ => ht) (by rw [hsr]; simp [Bool.not_or])
      by_cases hb : srv r q = true
      · refine q_no (gt_eq hc (by rw [hb]; rfl)) e3 fun S4 H4 e4 _ => ?_
        exact s_ret (g_c (v := .non)) e4.sh fun v S5 H5 e5 rv => k v S5 H5 (e4.trans e5) (.inl ⟨hb, rv⟩)
      · have hb : srv r q = false := by simpa using hb
        refine q_yes (gt_eq hc (by rw [hb]; rfl)) e3 fun S4 H4 e4 _ => ?_
        exact s_ret (g_is rfl) e4.sh fun v S5 H5 e5 rv => k v S5 H5 (e4.trans e5) (.inr ⟨hb, _, rv⟩)
abbrev n_serves : List Str := ["index", "question"]
theorem sc_serves : FnScope n_serves ["index", "question"] (defScope s_serves) := ⟨rfl, rfl, rfl, by decide +kernel, rfl, by decide +kernel, by decide +kernel⟩
abbrev sp_serves (K : PySem.W.Frag) : Sp := Pu (fun (q : {q : List Str × Qn // ColsOk q.1 ∧ QOk q.2}) => A2 (D K (encC q.1.1)) (D K (encQ q.1.2))) (fun q => Is (.bl (srv q.1.1 q.1.2)))
theorem ok_serves (T : Fx K mg) : Cal P w K mg base 2 "serves" (sp_serves K) := by
  obtain ⟨fd, Fn⟩ := T.d_serves
  refine ⟨fn_pos Fn sc_serves (fun vs H Q E h => ?_) (fun _ _ _ _ _ _ us hl => match us, hl with | [_, _], _ => rfl) (fun cdv A outer s H vs Q E hr h => ?_), T.g_serves, Fn.kp⟩
  · obtain ⟨_, _, _, ⟨_, _, rfl, _⟩, _⟩ := h
    rfl
  · obtain ⟨⟨⟨r, q⟩, hq⟩, S, hS, ⟨_, _, rfl, hv, hw⟩, k⟩ := h
    refine ⟨_, pss_one (ps_ret (pe_cmp (pc_isN (pe_f ((ok_first_fault T).mono (by decide : 1 ≤ 1)) (hr.mono (by decide)) (pa_cons (pv 0) (pa_cons (pv 1) pa_nil)))))), ?_⟩
    refine s_ret (R := Is (.bl (srv r q))) ?_ hS k
    refine g_isN (g_call (a := ⟨(r, q), hq⟩) (ga_two (g_dv rfl hv) .d (g_dv rfl hw))) fun v S h => ?_
    rcases h with ⟨h, rfl⟩ | ⟨h, n, rfl⟩
    · rw [show srv r q = true from h]
      rfl
    · rw [show srv r q = false from h]
      rfl
end
end NK
end

section
set_option Elab.async false
set_option linter.all false
set_option maxRecDepth 100000
set_option maxHeartbeats 400000
namespace NK
open PySem PySem.Spec L2
open PyProof.Rows hiding St
section
variable {P : Program} {w : World} {K : PySem.W.Frag} {mg : Str → Option Value} {base : Heap}
/-- the row r, lengthened by q -/
def ext (r : List Str) (q : Qn) : List Str := r ++ q.1.filter (fun c => !decide (c ∈ r)) ++ if q.2 = "" then [] else [q.2]
def bfr (bs : List (List Str)) (q : Qn) : List Str := q.1.filter fun c => !decide (c ∈ bs.flatten)
def bstep (bs : List (List Str)) (q : Qn) : List (List Str) := bs ++ ((if bfr bs q = [] then [] else [bfr bs q]) ++ (if q.2 = "" then [] else [[q.2]]))
theorem bstep_flat (bs : List (List Str)) (q : Qn) : (bstep bs q).flatten = ext bs.flatten q := by
  unfold bstep ext
  show _ = bs.flatten ++ bfr bs q ++ _
  rw [List.flatten_append]
  by_cases h1 : bfr bs q = [] <;> by_cases h2 : q.2 = "" <;> simp [h1, h2]
theorem bfold_flat : ∀ (qs : List Qn) (bs : List (List Str)), (qs.foldl bstep bs).flatten = qs.foldl ext bs.flatten
  | [], _ => rfl
  | q :: qs, bs => by rw [List.foldl_cons, List.foldl_cons, bfold_flat qs, bstep_flat]
abbrev n_blocks_of : List Str := ["questions", "pair", "placed", "blocks", "columns", "last", "fresh", "column", "found", "block"]
theorem sc_blocks_of : FnScope n_blocks_of ["questions"] (defScope s_blocks_of) := ⟨rfl, rfl, rfl, by decide +kernel, rfl, by decide +kernel, by decide +kernel⟩
abbrev sp_blocks_of (K : PySem.W.Frag) : Sp := Pu (fun (q : {q : List Qn // ChOk q ∧ q.length ≤ 48}) => A1 (D K (.list (q.1.map encQ)))) (fun q => LsR (fun b => L0 K (b.map .str)) (q.1.foldl bstep []))
theorem ok_blocks_of (T : Fx K mg) : Cal P w K mg base 11 "blocks_of" (sp_blocks_of K) := by
  obtain ⟨fd, Fn⟩ := T.d_blocks_of
  refine ⟨fn_pos Fn sc_blocks_of (fun vs H Q E h => ?_) (fun _ _ _ _ _ _ us hl => match us, hl with | [_], _ => rfl) (fun cdv A outer s H vs Q E hr h => ?_), T.g_blocks_of, Fn.kp⟩
  · obtain ⟨_, _, _, ⟨_, rfl, _⟩, _⟩ := h
    rfl
  · obtain ⟨⟨qs, hc, hl⟩, S, hS, ⟨va, rfl, hv⟩, k⟩ := h
    refine ⟨_, pss_cons (ps_set (i := 1) sc_blocks_of.nd rfl (by first | exact Or.inl rfl | exact Or.inr rfl) (pe_f ((ok_split_pair T).mono (by decide : 10 ≤ 10)) (hr.mono (by decide)) (pa_cons (pv 0)
        pa_nil))) (pss_cons (ps_if (pt_cmp (pc_notN (pv 1))) pss_never pss_nil) (pss_cons (ps_asg (pe_tup (pa_cons (pe_lst pa_nil) (pa_cons (pe_lst pa_nil) pa_nil))) (pg_tupK (K := K) (n := 2) rfl
        (pgs_cons (pg_name (i := 2) sc_blocks_of.nd rfl (by first | exact Or.inl rfl | exact Or.inr rfl)) (pgs_cons (pg_name (i := 3) sc_blocks_of.nd rfl
        (by first | exact Or.inl rfl | exact Or.inr rfl)) pgs_nil)))) (pss_cons (ps_for PassesOwn.never rfl (pi_listK (K := K) (pe_f ((ok_upwards T).mono (by decide : 7 ≤ 10)) (hr.mono (by decide))
        (pa_cons (pv 0) pa_nil))) (pg_tupK (K := K) (n := 2) rfl (pgs_cons (pg_name (i := 4) sc_blocks_of.nd rfl (by first | exact Or.inl rfl | exact Or.inr rfl)) (pgs_cons (pg_name (i := 5)
        sc_blocks_of.nd rfl (by first | exact Or.inl rfl | exact Or.inr rfl)) pgs_nil))) (pss_cons (ps_setLc (i := 6) (own := [("column", 7)]) rfl sc_blocks_of.nd rfl rfl rfl (pi_tupK (K := K) (pv 4))
        (blkOk_by (N := n_blocks_of) (sc := defScope s_blocks_of) (by decide +kernel)) (fun _ _ _ _ _ => (pg_name (i := 7) sc_blocks_of.nd rfl (by first | exact Or.inl rfl | exact Or.inr rfl))) (fun _
        _ _ _ _ => (pts_one (pt_cmpR (r := rIn K true) op_notIn_seq (pv 7) (pv 2) rfl))) (fun _ _ _ _ _ => (pv 7))) (pss_cons (ps_set (i := 8) sc_blocks_of.nd rfl
        (by first | exact Or.inl rfl | exact Or.inr rfl) (pe_ifExp (pt_cmpR (r := rNeD K) (op_neD hr.units) (pv 6) (pe_lst pa_nil) (nomark _)) (pe_lst (pa_cons (pv 6) pa_nil)) (pe_lst pa_nil)))
        (pss_cons (ps_if (pt_cmpR op_ne (pv 5) pe_str (nomark _)) (pss_one (ps_expr (pe_bm PySem.F.plainAttrs_list PySem.F.slot_list_append PySem.F.type_list_append mt_append (pv 8) (pa_cons (pe_lst
        (pa_cons (pv 5) pa_nil)) pa_nil)))) pss_nil) (pss_one (ps_for PassesOwn.never rfl (pi_listK (K := K) (pv 8)) (pg_name (i := 9) sc_blocks_of.nd rfl
        (by first | exact Or.inl rfl | exact Or.inr rfl)) (pss_cons (ps_expr (pe_bm PySem.F.plainAttrs_list PySem.F.slot_list_extend PySem.F.type_list_extend mt_extend (pv 2) (pa_cons (pv 9) pa_nil)))
        (pss_one (ps_expr (pe_bm PySem.F.plainAttrs_list PySem.F.slot_list_append PySem.F.type_list_append mt_append (pv 3) (pa_cons (pv 9) pa_nil))))))))))) (pss_one (ps_ret (pv 3)))))), ?_⟩
    refine q_set (g_call (R := fun _ => Is .non) (a := ⟨qs, hc, hl⟩) (ga_one (g_dv rfl hv))) (.refl hS) fun v S1 H1 e1 ss rv => ?_
    subst rv
    refine q_no (gt_eq (gt_B (g_notN (b := true) (g_is rfl) fun v S h => by rw [h]; rfl)) rfl) e1 fun S1 H1 e1 ss' => ?_
    replace ss := ss.trans ss'
    refine q_new2 fun p q H2 npq hp hq h12 hpl hbl => ?_
    have e2 : Gw S H S1 H2 := e1.trans ⟨Same.refl _, h12, e1.sh.trans h12, fun _ _ _ => rfl⟩
    have hSp : S1 p = none := e1.sh.free hp
    have hSq : S1 q = none := e1.sh.free hq
    have hHp : H p = none := e1.hh.free hp
    have hHq : H q = none := e1.hh.free hq
    refine q_for (gi_list (g_call (R := fun (z : {z : List Qn // ChOk z ∧ z.length ≤ 48}) => D K (.list (z.1.map encQ))) (a := ⟨qs, hc, hl⟩) (ga_one (g_dv rfl (Dp.up ss hv))))) e2.sh fun S3 H3 e3 => ⟨fun i σ' S' H' => (Gw S H S' H' ∧ Same S3 S') ∧ (∃ x4 x5 x6 x7 x8 x9, σ' = [some _, some .non, some (.ref p), some (.ref q), x4, x5, x6, x7, x8, x9]) ∧ S' p = none ∧ S' q = none ∧
      ∃ bs vs, H' p = some (.lst (bs.flatten.map .str)) ∧ H' q = some (.lst vs) ∧ Paired (fun x b => L0 K (b.map .str) x S') vs bs ∧ bs = (qs.take i).foldl bstep [] ∧ bs.flatten.length ≤ 13 * i ∧ bs.length ≤ 2 * i,
      ⟨⟨e2.trans e3, Same.refl _⟩, ⟨_, _, _, _, _, _, rfl⟩, e3.none hSp hpl, e3.none hSq hbl, [], [], e3.hh _ _ hpl, e3.hh _ _ hbl, .nil, rfl, Nat.le_refl _, Nat.le_refl _⟩, fun i σ' S' H' h => ⟨h.1.2, h.1.1.sh⟩, ?_, ?_⟩
    · rintro i d x σ' S4 H4 S5 H5 hx ⟨⟨g1, s1⟩, ⟨y4, y5, y6, y7, y8, y9, rfl⟩, hp4, hq4, bs, vs, hpv, hqv, pr, hfl, hln, hbn⟩ g2 rx
      obtain ⟨qn, hqn, rfl⟩ : ∃ qn, qs[i]? = some qn ∧ d = encQ qn := by
        rw [List.getElem?_map] at hx
        cases h : qs[i]? with
        | none => rw [h] at hx; cases hx
        | some z => rw [h] at hx; exact ⟨z, rfl, (Option.some.inj hx).symm⟩
      have hqo : QOk qn := hc.ok qn (List.mem_of_getElem? hqn)
      have hil : i < qs.length := (List.getElem?_eq_some_iff.mp hqn).1
      have hql : qn.1.length ≤ 12 := hqo.cols.len
      refine g_un2 rx g2.sh fun y z hy hz => ?_
      obtain rfl := Dp.strI hz
      have hp5 : S5 p = none := g2.none hp4 hpv
      have hq5 : S5 q = none := g2.none hq4 hqv
      have hpv5 := g2.hh _ _ hpv
      have hqv5 := g2.hh _ _ hqv
      have g5 : Gw S H S5 H5 := g1.trans g2
      have s5 : Same S3 S5 := s1.trans g2.ss
      have pr5 : Paired (fun x b => L0 K (b.map .str) x S5) vs bs := Paired.mapP pr fun x b r => up_l0 _ _ _ g2.ss r
      clear pr hpv hqv g2 g1 s1 hp4 hq4
      refine q_lcAt (RO := fun d => D K d) (l := p) (o := .lst (bs.flatten.map .str)) (fun d => match d with | .str c => !decide (c ∈ bs.flatten) | _ => true) id g5.sh hpv5 hp5 (gi_tup (g_dv rfl hy)) (fun _ => .d) (by simp; omega) (fun a x S6 H6 s6 b6 hs6 ha ri Q' q' => ?_) fun v S6 H6 e6 ⟨fp, ws, ev, nfp, hfp, pr6⟩ => ?_
      · obtain ⟨c, _, rfl⟩ := List.mem_map.mp ha
        refine q' _ S6 H6 (.refl b6) rfl (gt_test (g_notInS (g_isStr (g_dv rfl (Dp.up (Same.new hs6) ri))) (g_seqL (g_var rfl (.lst (SqL.of upd_same) (DpAll.ofStrs _)) .d)))) fun _ => g_dv rfl ri
      · have efr : ((qn.1.map PyData.str).filter (fun d => match d with | .str c => !decide (c ∈ bs.flatten) | _ => true)).map id = (qn.1.filter fun c => !decide (c ∈ bs.flatten)).map .str := by
          rw [List.map_id, List.filter_map]
          rfl
        rw [efr] at pr6
        obtain ⟨fr, efr2⟩ : ∃ fr, fr = qn.1.filter fun c => !decide (c ∈ bs.flatten) := ⟨_, rfl⟩
        rw [← efr2] at pr6
        have hfr : L0 K (fr.map .str) (.ref fp) S6 := ⟨fp, ws, rfl, hfp, by have := pr_d (enc := id) pr6; rw [List.map_id] at this; exact this⟩
        have frl : fr.length ≤ qn.1.length := by rw [efr2]; exact List.length_filter_le _ _
        subst ev
        have dfr : Dp K S6 (.ref fp) (.list (fr.map .str)) := by
          obtain ⟨p', vs', e1', e2', e3'⟩ := hfr
          cases e1'
          exact .lst (SqL.of e2') e3'
        have ht : GT (tTest (tOp (rNeD K) (tVar 6) (tLst tNil))) [some va, some V.non, some (.ref p), some (.ref q), some y, some (.str qn.2), some (.ref fp), y7, y8, y9] S6 (!decide (fr = [])) := by
          refine gt_eq (gt_test (g_neD (e := .list []) (g_dv rfl dfr) (g_lst ga_d0 (by decide)) (flt_lst (flt_strs fun c hc' => hqo.cols.mem c (by rw [efr2] at hc'; exact (List.mem_filter.mp hc').1))).sh (flt_lst (n := 1) fun d hd => by cases hd).sh)) ?_
          simp only [PyData.eqv]
          cases fr <;> simp [PyData.eqvAll]
        refine q_opt (R := Is (.ref fp)) ht (g_is rfl) e6.sh fun r S7 H7 ws7 e7 hr7 hw1 hw2 => ?_
        have hS7r : S7 r = none := e7.sh.free hr7
        have g7 : Gw S H S7 H7 := (g5.trans e6).trans e7
        have hp7 : H7 p = some (.lst (bs.flatten.map .str)) := e7.hh _ _ (e6.hh _ _ hpv5)
        have hq7 : H7 q = some (.lst vs) := e7.hh _ _ (e6.hh _ _ hqv5)
        have npr : p ≠ r := ne_of_none hp7 hr7
        have nqr : q ≠ r := ne_of_none hq7 hr7
        have wl7 : ws7.length ≤ 1 := by
          by_cases hf : fr = []
          · rw [hw2 (by simp [hf])]
            exact Nat.zero_le _
          · obtain ⟨z, h1, _⟩ := hw1 (by simp [hf])
            rw [h1]
            exact Nat.le_refl _
        refine q_appIf (R := L0 K [.str qn.2]) (c := !decide (qn.2 = "")) (gt_eq (gt_test (g_neS (g_is rfl) (g_c (v := .str "")) rfl)) (by simp)) rfl (g_lst0 (ga_dc (g_dStr (g_is rfl)) ga_d0) (by simp)) (e7.sh.trans (Same.new hr7)) upd_same (by omega) fun S8 H8 ws8 e8 hr8 k1 k2 H9 h9 h9r => ?_
        have hS8r : S8 r = none := e8.none hS7r upd_same
        have hHr : H r = none := g7.hh.free hr7
        have g8 : Gw S H S8 H9 := ((g7.trans (Gw.mut g7.sh hr7)).trans e8).chg hHr hS8r h9
        obtain ⟨bs', ebs⟩ : ∃ bs', bs' = (if fr = [] then [] else [fr]) ++ (if qn.2 = "" then [] else [[qn.2]]) := ⟨_, rfl⟩
        have hpr8 : Paired (fun x (b : List Str) => L0 K (b.map .str) x S8) ws8 bs' := by
          have p1 : Paired (fun x (b : List Str) => L0 K (b.map .str) x S8) ws7 (if fr = [] then [] else [fr]) := by
            by_cases hf : fr = []
            · rw [hw2 (by simp [hf]), if_pos hf]
              exact .nil
            · obtain ⟨z, h1, h2⟩ := hw1 (by simp [hf])
              rw [h1, if_neg hf, h2]
              exact .cons (up_l0 _ _ _ (e7.ss.trans e8.ss) hfr) .nil
          rw [ebs]
          by_cases hf : qn.2 = ""
          · rw [k2 (by simp [hf]), if_pos hf, List.append_nil]
            exact p1
          · obtain ⟨z, h1, h2⟩ := k1 (by simp [hf])
            rw [h1, if_neg hf]
            exact paired_app p1 h2
        have hp9 : H9 p = some (.lst (bs.flatten.map .str)) := by rw [h9 p npr]; exact e8.hh _ _ (by rw [upd_ne npr]; exact hp7)
        have hq9 : H9 q = some (.lst vs) := by rw [h9 q nqr]; exact e8.hh _ _ (by rw [upd_ne nqr]; exact hq7)
        have hp8 : S8 p = none := e8.none (e7.none (e6.none hp5 hpv5) (e6.hh _ _ hpv5)) (by rw [upd_ne npr]; exact hp7)
        have hq8 : S8 q = none := e8.none (e7.none (e6.none hq5 hqv5) (e6.hh _ _ hqv5)) (by rw [upd_ne nqr]; exact hq7)
        have ebl : bs'.flatten.length ≤ 13 ∧ bs'.length ≤ 2 := by
          rw [ebs]
          by_cases h1 : fr = [] <;> by_cases h2 : qn.2 = "" <;> simp [h1, h2] <;> omega
        have eext : bs ++ bs' = bstep bs qn := by
          rw [ebs, efr2]
          rfl
        have g10 := g8.frz hHr hS8r h9r
        have s10 : Same S3 (upd S8 r (.lst ws8)) := (s5.trans ((e6.ss.trans e7.ss).trans e8.ss)).trans (Same.new hS8r)
        have pr10 : Paired (fun x b => L0 K (b.map .str) x (upd S8 r (.lst ws8))) vs bs := Paired.mapP pr5 fun x b z => up_l0 _ _ _ (((e6.ss.trans e7.ss).trans e8.ss).trans (Same.new hS8r)) z
        have hp10 : upd S8 r (.lst ws8) p = none := by rw [upd_ne npr]; exact hp8
        have hq10 : upd S8 r (.lst ws8) q = none := by rw [upd_ne nqr]; exact hq8
        have hfo : LsR (fun b : List Str => L0 K (b.map .str)) bs' (.ref r) (upd S8 r (.lst ws8)) := ⟨r, ws8, rfl, upd_same, Paired.mapP hpr8 fun x b z => up_l0 _ _ _ (Same.new hS8r) z⟩
        clear hpr8 hp8 hq8 k1 k2 hw1 hw2 e8 e7 g7 ht dfr hfr
        refine s_for (gi_lsR (g_var rfl hfo (up_lsR fun _ => up_l0)) fun _ => up_l0) g10.sh fun S11 H11 e11 => ⟨fun j σ' S' H' => (Gw S H S' H' ∧ Same S11 S') ∧ (∃ x9, σ' = [some va, some .non, some (.ref p), some (.ref q), some y, some (.str qn.2), some (.ref fp), y7, some (.ref r), x9]) ∧ S' p = none ∧ S' q = none ∧
          ∃ vs', H' p = some (.lst ((bs ++ bs'.take j).flatten.map .str)) ∧ H' q = some (.lst vs') ∧ Paired (fun x b => L0 K (b.map .str) x S') vs' (bs ++ bs'.take j),
          ⟨⟨g10.trans e11, Same.refl _⟩, ⟨_, rfl⟩, e11.none hp10 hp9, e11.none hq10 hq9, vs, ?_, e11.hh _ _ hq9, ?_⟩, fun j σ' S' H' z => ⟨z.1.2, z.1.1.sh⟩, ?_, ?_⟩
        · rw [List.take_zero, List.append_nil]
          exact e11.hh _ _ hp9
        · rw [List.take_zero, List.append_nil]
          exact Paired.mapP pr10 fun x b z => up_l0 _ _ _ e11.ss z
        · rintro j b x σ' S12 H12 S13 H13 hj ⟨⟨g12, s12⟩, ⟨z9, rfl⟩, hp12, hq12, vs', hpv, hqv, pr12⟩ g13 rx
          have hjl : j < bs'.length := (List.getElem?_eq_some_iff.mp hj).1
          have fl1 : (bs'.take j).flatten.length ≤ bs'.flatten.length := by
            have := congrArg (fun l => l.flatten.length) (List.take_append_drop j bs')
            simp only [List.flatten_append, List.length_append] at this
            omega
          have fl2 : b.length ≤ bs'.flatten.length := by
            have hm := List.mem_of_getElem? hj
            obtain ⟨s, t, e⟩ := List.append_of_mem hm
            rw [e]
            simp only [List.flatten_append, List.flatten_cons, List.length_append]
            omega
          refine q_ext (l := p) (ds := b.map .str) rfl (g_var rfl rx up_l0) g13.sh (g13.hh _ _ hpv) (by simp only [List.length_map, List.flatten_append, List.length_append]; omega) fun ws S14 H14 e14 hw => ?_
          obtain rfl := DpAll.strs hw
          have hp14 : S14 p = none := e14.none (g13.none hp12 hpv) (g13.hh _ _ hpv)
          have hq14 : S14 q = none := e14.none (g13.none hq12 hqv) (g13.hh _ _ hqv)
          have g14 : Gw S H S14 (upd H14 p (.lst ((bs ++ bs'.take j).flatten.map .str ++ b.map .str))) := ((g12.trans g13).trans e14).wr hHp hp14
          refine s_app (R := L0 K (b.map .str)) (l := q) (ys := vs') rfl (g_var rfl (up_l0 _ _ _ e14.ss rx) up_l0) g14.sh (by rw [upd_ne npq.symm]; exact e14.hh _ _ (g13.hh _ _ hqv)) ?_ fun v S15 H15 e15 rv => ?_
          · rw [paired_len pr12, List.length_append, List.length_take]
            omega
          · have hp15 : S15 p = none := e15.none hp14 upd_same
            have hq15 : S15 q = none := e15.none hq14 (by rw [upd_ne npq.symm]; exact e14.hh _ _ (g13.hh _ _ hqv))
            have etk : bs ++ bs'.take (j + 1) = bs ++ bs'.take j ++ [b] := by rw [take_succ' hj, List.append_assoc]
            refine ⟨S15, ⟨(g14.trans e15).wr hHq hq15, ((s12.trans g13.ss).trans e14.ss).trans e15.ss⟩, ⟨_, rfl⟩, hp15, hq15, vs' ++ [v], ?_, upd_same, ?_⟩
            · rw [upd_ne npq, e15.hh _ _ upd_same, etk, List.flatten_append, List.map_append]
              simp
            · rw [etk]
              exact paired_app (Paired.mapP pr12 fun x b z => up_l0 _ _ _ ((g13.ss.trans e14.ss).trans e15.ss) z) rv
        · rintro σ' S' H' ⟨⟨g12, s12⟩, ⟨z9, rfl⟩, hp12, hq12, vs', hpv, hqv, pr12⟩
          rw [List.take_length] at hpv pr12
          refine ⟨S', ⟨g12, (s10.trans e11.ss).trans s12⟩, ⟨_, _, _, _, _, _, rfl⟩, hp12, hq12, bs ++ bs', vs', hpv, hqv, pr12, ?_, ?_, ?_⟩
          · rw [take_succ' hqn, List.foldl_append, ← hfl, eext]
            rfl
          · rw [List.flatten_append, List.length_append]
            omega
          · rw [List.length_append]
            omega
    · rintro σ' S' H' ⟨⟨g1, s1⟩, ⟨y4, y5, y6, y7, y8, y9, rfl⟩, hp4, hq4, bs, vs, hpv, hqv, pr, hfl, hln, hbn⟩
      rw [List.length_map, List.take_length] at hfl
      subst hfl
      exact s_ret (g_var rfl (show LsR (fun b : List Str => L0 K (b.map .str)) (qs.foldl bstep []) (.ref q) (upd S' q (.lst vs)) from ⟨q, vs, rfl, upd_same, Paired.mapP pr fun x b r => up_l0 _ _ _ (Same.new hq4) r⟩) (up_lsR fun b => up_l0)) (g1.frz hHq hq4 hqv).sh fun v S5 H5 e5 r => k v S5 H5 ((g1.frz hHq hq4 hqv).trans e5) r
/-- the index for a chain -/
def idx (qs : List Qn) : List Str := qs.foldl ext []
theorem ext_mem {r : List Str} {q : Qn} (hr : ∀ c ∈ r, c ∈ q.1) (c : Str) : c ∈ ext r q ↔ c ∈ colsL q := by
  unfold ext colsL
  rw [List.mem_append, List.mem_append, List.mem_append, List.mem_filter]
  constructor
  · rintro ((h | h) | h)
    · exact .inl (hr c h)
    · exact .inl h.1
    · exact .inr h
  · rintro (h | h)
    · by_cases e : c ∈ r
      · exact .inl (.inl e)
      · exact .inl (.inr ⟨h, by simp [e]⟩)
    · exact .inr h
theorem ext_nd {r : List Str} {q : Qn} (hn : r.Nodup) (hr : ∀ c ∈ r, c ∈ q.1) (hq : QOk q) : (ext r q).Nodup := by
  unfold ext
  rw [List.append_assoc, List.nodup_append]
  refine ⟨hn, ?_, fun a ha b hb e => ?_⟩
  · rw [List.nodup_append]
    refine ⟨hq.cols.nd.filter _, ?_, fun a ha b hb e => ?_⟩
    · by_cases e : q.2 = ""
      · rw [if_pos e]
        exact List.nodup_nil
      · rw [if_neg e]
        exact List.nodup_cons.mpr ⟨by simp, List.nodup_nil⟩
    · by_cases e2 : q.2 = ""
      · rw [if_pos e2] at hb
        cases hb
      · rw [if_neg e2] at hb
        have hb := List.mem_singleton.mp hb
        subst e hb
        exact (hq.last.resolve_left e2).2 (List.mem_filter.mp ha).1
  · subst e
    rcases List.mem_append.mp hb with h | h
    · have := (List.mem_filter.mp h).2
      simp [ha] at this
    · by_cases e2 : q.2 = ""
      · rw [if_pos e2] at h
        cases h
      · rw [if_neg e2] at h
        have h := List.mem_singleton.mp h
        subst h
        exact (hq.last.resolve_left e2).2 (hr _ ha)
/-- a row, lengthened up a chain -/
theorem fold_ok : ∀ {qs : List Qn} {r : List Str}, ChOk qs → r.Nodup → (∀ c ∈ r, c ∈ menu) → (∀ q ∈ qs, ∀ c ∈ r, c ∈ q.1) → (qs.foldl ext r).Nodup ∧ (∀ c ∈ qs.foldl ext r, c ∈ menu)
  | [], r, _, h1, h2, _ => ⟨h1, h2⟩
  | q :: qs, r, hc, h1, h2, h3 => by
    rw [List.foldl_cons]
    have hp := List.pairwise_cons.mp hc.ch
    have hq := hc.ok q List.mem_cons_self
    have hm := ext_mem (h3 q List.mem_cons_self)
    exact fold_ok ⟨fun r hr => hc.ok r (List.mem_cons_of_mem _ hr), hp.2⟩ (ext_nd h1 (h3 q List.mem_cons_self) hq) (fun c h => hq.colsOk.mem c ((hm c).mp h)) fun r hr c h => below_sub (hp.1 r hr) c ((hm c).mp h)
theorem idx_ok {qs : List Qn} (h : ChOk qs) : ColsOk (idx qs) := by
  have q := fold_ok h (r := []) List.nodup_nil (fun c h => by cases h) fun _ _ c h => by cases h
  exact ⟨q.2, q.1⟩
abbrev n_index_for : List Str := ["questions", "block", "column"]
theorem sc_index_for : FnScope n_index_for ["questions"] (defScope s_index_for) := ⟨rfl, rfl, rfl, by decide +kernel, rfl, by decide +kernel, by decide +kernel⟩
abbrev sp_index_for (K : PySem.W.Frag) : Sp := Pu (fun (q : {q : List Qn // ChOk q ∧ q.length ≤ 48}) => A1 (D K (.list (q.1.map encQ)))) (fun q => D K (encC (idx q.1)))
theorem ok_index_for (T : Fx K mg) : Cal P w K mg base 12 "index_for" (sp_index_for K) := by
  obtain ⟨fd, Fn⟩ := T.d_index_for
  refine ⟨fn_pos Fn sc_index_for (fun vs H Q E h => ?_) (fun _ _ _ _ _ _ us hl => match us, hl with | [_], _ => rfl) (fun cdv A outer s H vs Q E hr h => ?_), T.g_index_for, Fn.kp⟩
  · obtain ⟨_, _, _, ⟨_, rfl, _⟩, _⟩ := h
    rfl
  · obtain ⟨⟨qs, hc, hl⟩, S, hS, ⟨va, rfl, hv⟩, k⟩ := h
    refine ⟨_, pss_one (ps_ret (pe_callTy (r := rTupOf K) call_tuple_of rfl T.b_tuple bt_tuple (pa_cons (pe_lc2 (own := [("block", 1), ("column", 2)]) (vs1 := [2]) rfl sc_index_for.nd (pi_listK (K := K) (pe_f
        ((ok_blocks_of T).mono (by decide : 11 ≤ 11)) (hr.mono (by decide)) (pa_cons (pv 0) pa_nil))) (blkOk_by (N := n_index_for) (sc := defScope s_index_for) (by decide +kernel)) (by decide) (fun _
        _ _ _ _ => (pg_name (i := 1) sc_index_for.nd rfl (by first | exact Or.inl rfl | exact Or.inr rfl))) (fun _ _ _ _ _ => pts_nil) (fun _ _ _ _ _ => (pi_listK (K := K) (pv 1))) (fun _ _ _ _ _ =>
        (pg_name (i := 2) sc_index_for.nd rfl (by first | exact Or.inl rfl | exact Or.inr rfl))) (fun _ _ _ _ _ => pts_nil) (fun _ _ _ _ _ => (pv 2))) pa_nil))), ?_⟩
    refine s_ret (R := D K (encC (idx qs))) ?_ hS k
    have hI := idx_ok hc
    have hfl : (qs.foldl bstep []).flatten = idx qs := bfold_flat qs []
    have e : ((qs.foldl bstep []).map (fun b => b)).flatten = idx qs := by rw [List.map_id']; exact hfl
    refine g_tupOfL (g_lsD (enc := .str) (ds := idx qs) ?_)
    rw [← e]
    refine g_lcN (RO := fun c : Str => D K (.str c)) (RI := fun b : List Str => L0 K (b.map .str)) (fun b => b) (gi_lsR (g_call (R := fun (z : {z : List Qn // ChOk z ∧ z.length ≤ 48}) => LsR (fun b => L0 K (b.map .str)) (z.1.foldl bstep [])) (a := ⟨qs, hc, hl⟩) (ga_one (g_dv rfl hv))) fun _ => up_l0) (fun _ => .d) ?_ (fun a x S1 s1 ha ri => gi_listE (g_l0D (g_var rfl ri up_l0)))
    rw [e]
    exact Nat.le_trans hI.len (by decide)
end
end NK
end

section
set_option Elab.async false
set_option linter.all false
set_option maxRecDepth 100000
set_option maxHeartbeats 400000
namespace NK
open PySem PySem.Spec L2
open PyProof.Rows hiding St
section
variable {P : Program} {w : World} {K : PySem.W.Frag} {mg : Str → Option Value} {base : Heap}
theorem kit_lst2 : PySem.W.kitAny K (.type "list") [.type "list", .type "tuple"] = some true := kit_cons1 (by decide +kernel)
/-- what a shelf holds -/
structure ShOk (rs : List (List Str)) : Prop where
  ok : ∀ r ∈ rs, IxOk r
  len : rs.length ≤ 48
abbrev n_Shelf___init__ : List Str := ["self", "indexes", "one"]
theorem sc_Shelf___init__ : FnScope n_Shelf___init__ ["self", "indexes"] (defScope s_Shelf___init__) := ⟨rfl, rfl, rfl, by decide +kernel, rfl, by decide +kernel, by decide +kernel⟩
abbrev sp_Shelf___init__ (K : PySem.W.Frag) : Sp := spMk1 K "Shelf" "kept_indexes" (fun (rs : {rs : List (List Str) // ShOk rs}) => A1 (D K (.list (rs.1.map encC)))) (fun rs => .tuple (rs.1.map encC))
theorem ok_Shelf___init__ (T : Fx K mg) : CalM P w K mg base 9 "Shelf" "__init__" (sp_Shelf___init__ K) := by
  obtain ⟨t_most, e_most⟩ := T.i_MOST_THINGS
  obtain ⟨fd, Fn⟩ := T.d_Shelf___init__
  refine ⟨fn_pos Fn sc_Shelf___init__ (fun vs H Q E h => ?_) (fun _ _ _ _ _ _ us hl => match us, hl with | [_, _], _ => rfl) (fun cdv A outer s H vs Q E hr h => ?_), T.m_Shelf___init__, T.c_Shelf, fnIn_of Fn⟩
  · obtain ⟨_, x, _, us, _, rfl, _, _, _, ⟨_, rfl, _⟩, _⟩ := h
    rfl
  · obtain ⟨⟨rs, hr1, hr2⟩, x, dx, us, S, rfl, hx, hs, hS, ⟨va, rfl, hv⟩, k⟩ := h
    refine ⟨_, pss_cons (ps_if (PW.pt (pw_or (pt_not (pt_val (pe_callB (r := rIsiT K) call_isiT rfl T.b_isinstance bt_isinstance (pa_cons (pv 1) (pa_cons (pe_tup (pa_cons (pe_bltn (v := .ty "list") rfl
        T.b_list bt_list rfl) (pa_cons (pe_bltn (v := .ty "tuple") rfl T.b_tuple bt_tuple rfl) pa_nil))) pa_nil))))) (pw_or1 (pt_not (pt_val (pe_callB (r := rAll K) (cr_all rfl) rfl T.b_all bt_all
        (pa_cons (pe_lc (own := [("one", 2)]) rfl sc_Shelf___init__.nd (pi_listK (K := K) (pv 1)) (blkOk_by (N := n_Shelf___init__) (sc := defScope s_Shelf___init__) (by decide +kernel)) (fun _ _ _ _
        _ => (pg_name (i := 2) sc_Shelf___init__.nd rfl (by first | exact Or.inl rfl | exact Or.inr rfl))) (fun _ _ _ _ _ => pts_nil) (fun _ _ _ _ _ => (pe_f ((ok_is_index T).mono (by decide : 8 ≤ 8))
        (hr.mono (by decide)) (pa_cons (pv 2) pa_nil)))) pa_nil))))))) (pss_one ps_never) pss_nil) (pss_cons (ps_if (pt_cmpR op_gt (pe_callB (r := rLn K) call_len rfl T.b_len bt_len (pa_cons (pv 1)
        pa_nil)) (pe_glob (v := .int 48) rfl e_most ⟨_, rfl⟩) (nomark _)) (pss_one ps_never) pss_nil) (pss_one (ps_fld (pv 0) (pe_callTy (r := rTupOf K) call_tuple_of rfl T.b_tuple bt_tuple (pa_cons
        (pv 1) pa_nil)) rfl))), ?_⟩
    refine q_no (gt_eq (gt_or (gt_not (gt_B (g_isi2 (g_dv rfl hv) tyx_lst .d kit_lst2))) fun _ => gt_not (gt_B (g_all1 (fun _ => true) (gi_listE (xs := rs) (g_dv rfl hv)) (by omega) fun r y S1 s1 hr ri => g_call (R := fun _ => Is (.bl true)) (a := (⟨r, hr1 r hr⟩ : {c : List Str // IxOk c})) (ga_one (g_var rfl ri .d))))) (by simp)) (.refl hS) fun S1 H1 e1 s1 => ?_
    refine q_no (gt_eq (gt_test (g_I0 (g_lenL (g_dv rfl (Dp.up s1 hv))) (g_c (v := .int 48)))) (by simp; omega)) e1 fun S2 H2 e2 s2 => ?_
    exact s_fset rfl (g_tupOfL (g_dv rfl (Dp.up (s1.trans s2) hv))) e2 (e2.hh _ _ hx) (e2.none hs hx) T.c_Shelf T.n_kept_indexes fun S' H' t g hn hd => k S' H' t g hn hd
abbrev n_Shelf___len__ : List Str := ["self"]
theorem sc_Shelf___len__ : FnScope n_Shelf___len__ ["self"] (defScope s_Shelf___len__) := ⟨rfl, rfl, rfl, by decide +kernel, rfl, by decide +kernel, by decide +kernel⟩
abbrev sp_Shelf___len__ (K : PySem.W.Frag) : Sp := Pu (fun (rs : List (List Str)) => A1 (ShelfV K rs)) (fun rs => Is (.int rs.length))
theorem ok_Shelf___len__ (T : Fx K mg) : CalM P w K mg base 1 "Shelf" "__len__" (sp_Shelf___len__ K) := by
  obtain ⟨fd, Fn⟩ := T.d_Shelf___len__
  refine ⟨fn_pos Fn sc_Shelf___len__ (fun vs H Q E h => ?_) (fun _ _ _ _ _ _ us hl => match us, hl with | [_], _ => rfl) (fun cdv A outer s H vs Q E hr h => ?_), T.m_Shelf___len__, T.c_Shelf, fnIn_of Fn⟩
  · obtain ⟨_, _, _, ⟨_, rfl, _⟩, _⟩ := h
    rfl
  · obtain ⟨rs, S, hS, ⟨va, rfl, hv⟩, k⟩ := h
    refine ⟨_, pss_one (ps_ret (pe_callB (r := rLn K) call_len rfl T.b_len bt_len (pa_cons (pe_fldK (K := K) (pv 0)) pa_nil))), ?_⟩
    exact s_ret (g_eq (g_lenT (g_fld1 (g_var rfl hv up_i1) T.c_Shelf T.n_kept_indexes)) (by simp)) hS k
theorem d_up {d : PyData} : ∀ vs S S', Same S S' → A1 (D K d) vs S → A1 (D K d) vs S' := fun vs S S' e ⟨v, h1, h2⟩ => ⟨v, h1, Dp.up e h2⟩
/-- Shelf(..) -/
theorem g_shelf {σ : L2.St} {S : Hp} {te : TE} {rs : List (List Str)} (h : G te σ S (D K (.list (rs.map encC)))) (ok : ShOk rs) : G (StX.tMakeR (He.ga K "Shelf") (sp_Shelf___init__ K) E0 (tCons te tNil)) σ S (ShelfV K rs) :=
  g_mk1 (a := (⟨rs, ok⟩ : {rs : List (List Str) // ShOk rs})) (ga_one h) d_up
abbrev n_Shelf_with_index : List Str := ["self", "index"]
theorem sc_Shelf_with_index : FnScope n_Shelf_with_index ["self", "index"] (defScope s_Shelf_with_index) := ⟨rfl, rfl, rfl, by decide +kernel, rfl, by decide +kernel, by decide +kernel⟩
abbrev sp_Shelf_with_index (K : PySem.W.Frag) : Sp := Pu (fun (z : {z : List (List Str) × List Str // ShOk (z.1 ++ [z.2])}) => A2 (ShelfV K z.1.1) (D K (encC z.1.2))) (fun z => ShelfV K (z.1.1 ++ [z.1.2]))
theorem ok_Shelf_with_index (T : Fx K mg) : CalM P w K mg base 11 "Shelf" "with_index" (sp_Shelf_with_index K) := by
  obtain ⟨fd, Fn⟩ := T.d_Shelf_with_index
  refine ⟨fn_pos Fn sc_Shelf_with_index (fun vs H Q E h => ?_) (fun _ _ _ _ _ _ us hl => match us, hl with | [_, _], _ => rfl) (fun cdv A outer s H vs Q E hr h => ?_), T.m_Shelf_with_index, T.c_Shelf, fnIn_of Fn⟩
  · obtain ⟨_, _, _, ⟨_, _, rfl, _⟩, _⟩ := h
    rfl
  · obtain ⟨⟨⟨rs, r⟩, ok⟩, S, hS, ⟨va, vb, rfl, hv, hw⟩, k⟩ := h
    refine ⟨_, pss_one (ps_ret (StX.pe_makeR T.mk_Shelf ((ok_Shelf___init__ T).mono (by decide : 9 ≤ 9)).run (hr.mono (by decide)) rfl T.g_Shelf pass0 (pa_cons (pe_lst (StX.pa_star (pe_fldK (K := K) (pv 0))
        (pa_cons (pv 1) pa_nil))) pa_nil))), ?_⟩
    refine s_ret (R := ShelfV K (rs ++ [r])) (g_shelf ?_ ok) hS k
    have := ok.len
    rw [List.map_append]
    exact g_lst (ga_star (g_seqT (g_fld1 (g_var rfl hv up_i1) T.c_Shelf T.n_kept_indexes)) (ga_dc (g_dv rfl hw) ga_d0)) (by simp at this ⊢; omega)
abbrev n_Shelf___add__ : List Str := ["self", "other"]
theorem sc_Shelf___add__ : FnScope n_Shelf___add__ ["self", "other"] (defScope s_Shelf___add__) := ⟨rfl, rfl, rfl, by decide +kernel, rfl, by decide +kernel, by decide +kernel⟩
abbrev sp_Shelf___add__ (K : PySem.W.Frag) : Sp := Pu (fun (z : {z : List (List Str) × List (List Str) // ShOk (z.1 ++ z.2)}) => A2 (ShelfV K z.1.1) (ShelfV K z.1.2)) (fun z => ShelfV K (z.1.1 ++ z.1.2))
theorem ok_Shelf___add__ (T : Fx K mg) : CalM P w K mg base 11 "Shelf" "__add__" (sp_Shelf___add__ K) := by
  obtain ⟨fd, Fn⟩ := T.d_Shelf___add__
  refine ⟨fn_pos Fn sc_Shelf___add__ (fun vs H Q E h => ?_) (fun _ _ _ _ _ _ us hl => match us, hl with | [_, _], _ => rfl) (fun cdv A outer s H vs Q E hr h => ?_), T.m_Shelf___add__, T.c_Shelf, fnIn_of Fn⟩
  · obtain ⟨_, _, _, ⟨_, _, rfl, _⟩, _⟩ := h
    rfl
  · obtain ⟨⟨⟨rs, r⟩, ok⟩, S, hS, ⟨va, vb, rfl, hv, hw⟩, k⟩ := h
    refine ⟨_, pss_one (ps_ret (StX.pe_makeR T.mk_Shelf ((ok_Shelf___init__ T).mono (by decide : 9 ≤ 9)).run (hr.mono (by decide)) rfl T.g_Shelf pass0 (pa_cons (pe_lst (StX.pa_star (pe_fldK (K := K) (pv 0))
        (StX.pa_star (pe_fldK (K := K) (pv 1)) pa_nil))) pa_nil))), ?_⟩
    refine s_ret (R := ShelfV K (rs ++ r)) (g_shelf ?_ ok) hS k
    have := ok.len
    rw [List.map_append]
    have q := ga_star (g_seqT (g_fld1 (σ := [some va, some vb]) (te := tVar 0) (S := S) (g_var rfl hv up_i1) T.c_Shelf T.n_kept_indexes)) (ga_star (g_seqT (g_fld1 (te := tVar 1) (g_var rfl hw up_i1) T.c_Shelf T.n_kept_indexes)) ga_d0)
    rw [List.append_nil] at q
    exact g_lst q (by simp at this ⊢; omega)
abbrev n_Shelf___getitem__ : List Str := ["self", "number"]
theorem sc_Shelf___getitem__ : FnScope n_Shelf___getitem__ ["self", "number"] (defScope s_Shelf___getitem__) := ⟨rfl, rfl, rfl, by decide +kernel, rfl, by decide +kernel, by decide +kernel⟩
abbrev sp_Shelf___getitem__ (K : PySem.W.Frag) : Sp := Pu (fun (z : {z : List (List Str) × Nat × List Str // z.1[z.2.1]? = some z.2.2}) => A2 (ShelfV K z.1.1) (Is (.int z.1.2.1))) (fun z => D K (encC z.1.2.2))
theorem ok_Shelf___getitem__ (T : Fx K mg) : CalM P w K mg base 3 "Shelf" "__getitem__" (sp_Shelf___getitem__ K) := by
  obtain ⟨fd, Fn⟩ := T.d_Shelf___getitem__
  refine ⟨fn_pos Fn sc_Shelf___getitem__ (fun vs H Q E h => ?_) (fun _ _ _ _ _ _ us hl => match us, hl with | [_, _], _ => rfl) (fun cdv A outer s H vs Q E hr h => ?_), T.m_Shelf___getitem__, T.c_Shelf, fnIn_of Fn⟩
  · obtain ⟨_, _, _, ⟨_, _, rfl, _⟩, _⟩ := h
    rfl
  · obtain ⟨⟨⟨rs, i, r⟩, hi⟩, S, hS, ⟨va, vb, rfl, hv, rfl⟩, k⟩ := h
    have hi : rs[i]? = some r := hi
    have hlt : i < rs.length := (List.getElem?_eq_some_iff.mp hi).1
    refine ⟨_, pss_cons (ps_if (pt_not (pt_val (pe_f ((ok_is_number_below T).mono (by decide : 2 ≤ 2)) (hr.mono (by decide)) (pa_cons (pv 1) (pa_cons (pe_callB (r := rLn K) call_len rfl T.b_len bt_len (pa_cons
        (pe_fldK (K := K) (pv 0)) pa_nil)) pa_nil))))) (pss_one ps_never) pss_nil) (pss_one (ps_ret (pe_ix (r := rIxT K) ix_tup (pe_fldK (K := K) (pv 0)) (pv 1) (fun _ _ => rfl)))), ?_⟩
    refine q_no (gt_eq (gt_not (gt_B (g_call (R := fun (n : Int × Int) => Is (.bl (decide (0 ≤ n.1) && decide (n.1 < n.2)))) (a := ((i : Int), (rs.length : Int))) (ga_two (g_is rfl) .is (g_eq (g_lenT (g_fld1 (g_var rfl hv up_i1) T.c_Shelf T.n_kept_indexes)) (by simp)))))) (by simp [hlt])) (.refl hS) fun S1 H1 e1 s1 => ?_
    exact s_retK (g_ixT (g_fld1 (g_var rfl (up_i1 _ _ _ s1 hv) up_i1) T.c_Shelf T.n_kept_indexes) (g_is rfl) (by rw [List.getElem?_map, hi]; rfl)) e1 k
theorem eqv_shelf (rs : List (List Str)) : ∀ rt : List (List Str), PyData.eqv (.tuple (rs.map encC)) (.tuple (rt.map encC)) = decide (rs = rt) := fun ds => by
  simp only [PyData.eqv]
  induction rs generalizing ds with
  | nil => cases ds <;> simp [PyData.eqvAll]
  | cons c cs ih =>
    cases ds with
    | nil => simp [PyData.eqvAll]
    | cons d ds => simp only [List.map_cons, PyData.eqvAll, ih ds, eqv_cols, List.cons.injEq, Bool.decide_and]
theorem flt_shelf {rs : List (List Str)} (h : ShOk rs) : Flt 3 (.tuple (rs.map encC)) := flt_tup fun d hd => by
  obtain ⟨r, hr, rfl⟩ := List.mem_map.mp hd
  exact flt_tup (flt_strs (h.ok r hr).cols.mem)
theorem tyx_shelf (T : Fx K mg) {H : Hp} {a dx : Addr} {fs : List (Str × V)} (h : H a = some (.ins (He.ga K "Shelf") dx fs)) : TyX K H (.ref a) (.ref (He.ga K "Shelf")) := .base (.ins h T.c_Shelf T.c1 T.c2 T.c3 T.c4)
abbrev n_Shelf___eq__ : List Str := ["self", "other"]
theorem sc_Shelf___eq__ : FnScope n_Shelf___eq__ ["self", "other"] (defScope s_Shelf___eq__) := ⟨rfl, rfl, rfl, by decide +kernel, rfl, by decide +kernel, by decide +kernel⟩
abbrev sp_Shelf___eq__ (K : PySem.W.Frag) : Sp := Pu (fun (z : {z : List (List Str) × List (List Str) // ShOk z.1 ∧ ShOk z.2}) => A2 (ShelfV K z.1.1) (ShelfV K z.1.2)) (fun z => Is (.bl (decide (z.1.1 = z.1.2))))
theorem ok_Shelf___eq__ (T : Fx K mg) : CalM P w K mg base 1 "Shelf" "__eq__" (sp_Shelf___eq__ K) := by
  obtain ⟨fd, Fn⟩ := T.d_Shelf___eq__
  refine ⟨fn_pos Fn sc_Shelf___eq__ (fun vs H Q E h => ?_) (fun _ _ _ _ _ _ us hl => match us, hl with | [_, _], _ => rfl) (fun cdv A outer s H vs Q E hr h => ?_), T.m_Shelf___eq__, T.c_Shelf, fnIn_of Fn⟩
  · obtain ⟨_, _, _, ⟨_, _, rfl, _⟩, _⟩ := h
    rfl
  · obtain ⟨⟨⟨rs, rt⟩, h1, h2⟩, S, hS, ⟨va, vb, rfl, hv, hw⟩, k⟩ := h
    refine ⟨_, pss_one (ps_ret (pe_and (pe_callB (r := rIsi K) call_isi rfl T.b_isinstance bt_isinstance (pa_cons (pv 1) (pa_cons (pe_glob (v := .ref (He.ga K "Shelf")) rfl T.g_Shelf rfl) pa_nil))) (pe_one
        (pe_cmpR (r := rEqD K) (op_eqD hr.units) (pe_fldK (K := K) (pv 0)) (pe_fldK (K := K) (pv 1)) (nomark _))))), ?_⟩
    refine s_ret (R := Is (.bl (decide (rs = rt)))) (g_eq (g_and (g_isiO (g_var rfl hw up_i1) (t := .ref (He.ga K "Shelf")) (fun v H1 ⟨a, dx, t, e1, e2, _⟩ => ?_) up_i1 kit_self) fun _ => g_eqD (g_fld1 (g_var rfl hv up_i1) T.c_Shelf T.n_kept_indexes) (g_fld1 (g_var rfl hw up_i1) T.c_Shelf T.n_kept_indexes) (flt_shelf h1).sh (flt_shelf h2).sh) ?_) hS k
    · subst e1
      exact tyx_shelf T e2
    · rw [eqv_shelf, Bool.true_and]
abbrev n_Asked___init__ : List Str := ["self", "questions", "one", "unlike"]
theorem sc_Asked___init__ : FnScope n_Asked___init__ ["self", "questions"] (defScope s_Asked___init__) := ⟨rfl, rfl, rfl, by decide +kernel, rfl, by decide +kernel, by decide +kernel⟩
abbrev sp_Asked___init__ (K : PySem.W.Frag) : Sp := spMk1 K "Asked" "kept_questions" (fun (qs : {qs : List Qn // (∀ q ∈ qs, QOk q) ∧ qs.length ≤ 48}) => A1 (D K (.list (qs.1.map encQ)))) (fun qs => .tuple ((canonQ qs.1).map encQ))
theorem ok_Asked___init__ (T : Fx K mg) : CalM P w K mg base 10 "Asked" "__init__" (sp_Asked___init__ K) := by
  obtain ⟨t_most, e_most⟩ := T.i_MOST_THINGS
  obtain ⟨fd, Fn⟩ := T.d_Asked___init__
  refine ⟨fn_pos Fn sc_Asked___init__ (fun vs H Q E h => ?_) (fun _ _ _ _ _ _ us hl => match us, hl with | [_, _], _ => rfl) (fun cdv A outer s H vs Q E hr h => ?_), T.m_Asked___init__, T.c_Asked, fnIn_of Fn⟩
  · obtain ⟨_, x, _, us, _, rfl, _, _, _, ⟨_, rfl, _⟩, _⟩ := h
    rfl
  · obtain ⟨⟨qs, ok, hl⟩, x, dx, us, S, rfl, hx, hs, hS, ⟨va, rfl, hv⟩, k⟩ := h
    refine ⟨_, pss_cons (ps_if (PW.pt (pw_or (pt_not (pt_val (pe_callB (r := rIsiT K) call_isiT rfl T.b_isinstance bt_isinstance (pa_cons (pv 1) (pa_cons (pe_tup (pa_cons (pe_bltn (v := .ty "list") rfl
        T.b_list bt_list rfl) (pa_cons (pe_bltn (v := .ty "tuple") rfl T.b_tuple bt_tuple rfl) pa_nil))) pa_nil))))) (pw_or1 (pt_not (pt_val (pe_callB (r := rAll K) (cr_all rfl) rfl T.b_all bt_all
        (pa_cons (pe_lc (own := [("one", 2)]) rfl sc_Asked___init__.nd (pi_listK (K := K) (pv 1)) (blkOk_by (N := n_Asked___init__) (sc := defScope s_Asked___init__) (by decide +kernel)) (fun _ _ _ _
        _ => (pg_name (i := 2) sc_Asked___init__.nd rfl (by first | exact Or.inl rfl | exact Or.inr rfl))) (fun _ _ _ _ _ => pts_nil) (fun _ _ _ _ _ => (pe_f ((ok_is_question T).mono (by decide : 9 ≤
        9)) (hr.mono (by decide)) (pa_cons (pv 2) pa_nil)))) pa_nil))))))) (pss_one ps_never) pss_nil) (pss_cons (ps_set (i := 3) sc_Asked___init__.nd rfl
        (by first | exact Or.inl rfl | exact Or.inr rfl) (pe_callB (r := rSortS K w) (cr_sortS rfl (hr.mono (by decide))) rfl T.b_sorted bt_sorted (pa_cons (pe_callTy (r := rSetD K w) (cr_setD rfl
        (hr.mono (by decide))) rfl T.b_set bt_set (pa_cons (pv 1) pa_nil)) pa_nil))) (pss_cons (ps_if (pt_cmpR op_gt (pe_callB (r := rLn K) call_len rfl T.b_len bt_len (pa_cons (pv 3) pa_nil))
        (pe_glob (v := .int 48) rfl e_most ⟨_, rfl⟩) (nomark _)) (pss_one ps_never) pss_nil) (pss_one (ps_fld (pv 0) (pe_callTy (r := rTupOf K) call_tuple_of rfl T.b_tuple bt_tuple (pa_cons (pv 3)
        pa_nil)) rfl)))), ?_⟩
    refine q_no (gt_eq (gt_or (gt_not (gt_B (g_isi2 (g_dv rfl hv) tyx_lst .d kit_lst2))) fun _ => gt_not (gt_B (g_all1 (fun _ => true) (gi_listE (xs := qs) (g_dv rfl hv)) (by omega) fun r y S1 s1 hr ri => g_call (R := fun _ => Is (.bl true)) (a := (⟨r, ok r hr⟩ : {q : Qn // QOk q})) (ga_one (g_var rfl ri .d))))) (by simp)) (.refl hS) fun S1 H1 e1 s1 => ?_
    refine q_set (g_l0D (g_sortSQ (qs := qs) (g_dv rfl (Dp.up s1 hv)) (fun v S r => .inl r) (by omega))) e1 fun v S2 H2 e2 s2 hd => ?_
    have hle : (canonQ qs).length ≤ qs.length := canonQ_len
    refine q_no (gt_eq (gt_test (g_I0 (g_lenL (g_dv rfl hd)) (g_c (v := .int 48)))) (by simp; omega)) e2 fun S3 H3 e3 s3 => ?_
    exact s_fset rfl (g_tupOfL (g_dv rfl (Dp.up s3 hd))) e3 (e3.hh _ _ hx) (e3.none hs hx) T.c_Asked T.n_kept_questions fun S' H' t g hn hd => k S' H' t g hn hd
abbrev n_Asked___len__ : List Str := ["self"]
theorem sc_Asked___len__ : FnScope n_Asked___len__ ["self"] (defScope s_Asked___len__) := ⟨rfl, rfl, rfl, by decide +kernel, rfl, by decide +kernel, by decide +kernel⟩
abbrev sp_Asked___len__ (K : PySem.W.Frag) : Sp := Pu (fun (qs : List Qn) => A1 (AskedV K qs)) (fun qs => Is (.int qs.length))
theorem ok_Asked___len__ (T : Fx K mg) : CalM P w K mg base 1 "Asked" "__len__" (sp_Asked___len__ K) := by
  obtain ⟨fd, Fn⟩ := T.d_Asked___len__
  refine ⟨fn_pos Fn sc_Asked___len__ (fun vs H Q E h => ?_) (fun _ _ _ _ _ _ us hl => match us, hl with | [_], _ => rfl) (fun cdv A outer s H vs Q E hr h => ?_), T.m_Asked___len__, T.c_Asked, fnIn_of Fn⟩
  · obtain ⟨_, _, _, ⟨_, rfl, _⟩, _⟩ := h
    rfl
  · obtain ⟨rs, S, hS, ⟨va, rfl, hv⟩, k⟩ := h
    refine ⟨_, pss_one (ps_ret (pe_callB (r := rLn K) call_len rfl T.b_len bt_len (pa_cons (pe_fldK (K := K) (pv 0)) pa_nil))), ?_⟩
    exact s_ret (g_eq (g_lenT (g_fld1 (g_var rfl hv up_i1) T.c_Asked T.n_kept_questions)) (by simp)) hS k
abbrev n_Asked_questions : List Str := ["self"]
theorem sc_Asked_questions : FnScope n_Asked_questions ["self"] (defScope s_Asked_questions) := ⟨rfl, rfl, rfl, by decide +kernel, rfl, by decide +kernel, by decide +kernel⟩
abbrev sp_Asked_questions (K : PySem.W.Frag) : Sp := Pu (fun (qs : List Qn) => A1 (AskedV K qs)) (fun qs => D K (.list (qs.map encQ)))
theorem ok_Asked_questions (T : Fx K mg) : CalM P w K mg base 1 "Asked" "questions" (sp_Asked_questions K) := by
  obtain ⟨fd, Fn⟩ := T.d_Asked_questions
  refine ⟨fn_pos Fn sc_Asked_questions (fun vs H Q E h => ?_) (fun _ _ _ _ _ _ us hl => match us, hl with | [_], _ => rfl) (fun cdv A outer s H vs Q E hr h => ?_), T.m_Asked_questions, T.c_Asked, fnIn_of Fn⟩
  · obtain ⟨_, _, _, ⟨_, rfl, _⟩, _⟩ := h
    rfl
  · obtain ⟨rs, S, hS, ⟨va, rfl, hv⟩, k⟩ := h
    refine ⟨_, pss_one (ps_ret (pe_callTy call_list_of rfl T.b_list bt_list (pa_cons (pe_fldK (K := K) (pv 0)) pa_nil))), ?_⟩
    exact s_ret (g_listOf (g_seqT (g_fld1 (g_var rfl hv up_i1) T.c_Asked T.n_kept_questions))) hS k
theorem g_asked {σ : L2.St} {S : Hp} {te : TE} {qs : List Qn} (h : G te σ S (D K (.list (qs.map encQ)))) (ok : ∀ q ∈ qs, QOk q) (hl : qs.length ≤ 48) : G (StX.tMakeR (He.ga K "Asked") (sp_Asked___init__ K) E0 (tCons te tNil)) σ S (AskedV K (canonQ qs)) :=
  g_mk1 (a := (⟨qs, ok, hl⟩ : {qs : List Qn // (∀ q ∈ qs, QOk q) ∧ qs.length ≤ 48})) (ga_one h) d_up
end
end NK
end

section
set_option Elab.async false
set_option linter.all false
set_option maxRecDepth 100000
set_option maxHeartbeats 400000
namespace NK
open PySem PySem.Spec L2
open PyProof.Rows hiding St
section
variable {P : Program} {w : World} {K : PySem.W.Frag} {mg : Str → Option Value} {base : Heap}
theorem sc_Shelf___iter__ : FnScope ["self"] ["self"] (defScope s_Shelf___iter__) := ⟨rfl, rfl, rfl, by decide +kernel, rfl, by decide +kernel, by decide +kernel⟩
theorem ok_Shelf___iter__ (T : Fx K mg) : CalI P w K mg base 1 "Shelf" "kept_indexes" := by
  obtain ⟨fd, Fn⟩ := T.d_Shelf___iter__
  refine ⟨fun A outer s H a dx t fs xs hr e0 ha hf ht => ?_, T.m_Shelf___iter__⟩
  refine call_here Fn sc_Shelf___iter__ (vs := [.ref a]) hr e0 (fun _ _ _ _ _ _ us hl => match us, hl with | [_], _ => rfl) (.cons rfl .nil) rfl fun cdv hr2 => ?_
  refine ⟨_, pss_one (ps_ret (pe_callB cr_iterT rfl T.b_iter bt_iter (pa_cons (pe_fldK (K := K) (pv 0)) pa_nil))), ?_⟩
  exact ⟨.ref a, rfl, a, He.ga K "Shelf", dx, fs, .ref t, rfl, ha, T.c_Shelf, T.n_kept_indexes, hf, t, xs, rfl, ht, fun it hn hs => ⟨it, rfl, hn, hs, rfl⟩⟩
theorem sc_Asked___iter__ : FnScope ["self"] ["self"] (defScope s_Asked___iter__) := ⟨rfl, rfl, rfl, by decide +kernel, rfl, by decide +kernel, by decide +kernel⟩
theorem ok_Asked___iter__ (T : Fx K mg) : CalI P w K mg base 1 "Asked" "kept_questions" := by
  obtain ⟨fd, Fn⟩ := T.d_Asked___iter__
  refine ⟨fun A outer s H a dx t fs xs hr e0 ha hf ht => ?_, T.m_Asked___iter__⟩
  refine call_here Fn sc_Asked___iter__ (vs := [.ref a]) hr e0 (fun _ _ _ _ _ _ us hl => match us, hl with | [_], _ => rfl) (.cons rfl .nil) rfl fun cdv hr2 => ?_
  refine ⟨_, pss_one (ps_ret (pe_callB cr_iterT rfl T.b_iter bt_iter (pa_cons (pe_fldK (K := K) (pv 0)) pa_nil))), ?_⟩
  exact ⟨.ref a, rfl, a, He.ga K "Asked", dx, fs, .ref t, rfl, ha, T.c_Asked, T.n_kept_questions, hf, t, xs, rfl, ht, fun it hn hs => ⟨it, rfl, hn, hs, rfl⟩⟩
/-- a shelf serves a question -/
def srvd (rs : List (List Str)) (q : Qn) : Bool := rs.any fun r => srv r q
abbrev n_is_served : List Str := ["shelf", "question", "index"]
theorem sc_is_served : FnScope n_is_served ["shelf", "question"] (defScope s_is_served) := ⟨rfl, rfl, rfl, by decide +kernel, rfl, by decide +kernel, by decide +kernel⟩
abbrev sp_is_served (K : PySem.W.Frag) : Sp := Pu (fun (z : {z : List (List Str) × Qn // ShOk z.1 ∧ QOk z.2}) => A2 (ShelfV K z.1.1) (D K (encQ z.1.2))) (fun z => Is (.bl (srvd z.1.1 z.1.2)))
theorem ok_is_served (T : Fx K mg) : Cal P w K mg base 4 "is_served" (sp_is_served K) := by
  obtain ⟨fd, Fn⟩ := T.d_is_served
  refine ⟨fn_pos Fn sc_is_served (fun vs H Q E h => ?_) (fun _ _ _ _ _ _ us hl => match us, hl with | [_, _], _ => rfl) (fun cdv A outer s H vs Q E hr h => ?_), T.g_is_served, Fn.kp⟩
  · obtain ⟨_, _, _, ⟨_, _, rfl, _⟩, _⟩ := h
    rfl
  · obtain ⟨⟨⟨rs, q⟩, h1, h2⟩, S, hS, ⟨va, vb, rfl, hv, hw⟩, k⟩ := h
    refine ⟨_, pss_one (ps_ret (pe_callB (r := rAny K) (cr_any rfl) rfl T.b_any bt_any (pa_cons (pe_lc (own := [("index", 2)]) rfl sc_is_served.nd (pi_own (f := "kept_indexes") ((ok_Shelf___iter__ T).mono (by
        decide : 1 ≤ 1)) (hr.mono (by decide)) (pv 0)) (blkOk_by (N := n_is_served) (sc := defScope s_is_served) (by decide +kernel)) (fun _ _ _ _ _ => (pg_name (i := 2) sc_is_served.nd rfl
        (by first | exact Or.inl rfl | exact Or.inr rfl))) (fun _ _ _ _ _ => pts_nil) (fun _ _ _ _ _ => (pe_f ((ok_serves T).mono (by decide : 2 ≤ 3)) (hr.mono (by decide)) (pa_cons (pv 2) (pa_cons
        (pv 1) pa_nil))))) pa_nil))), ?_⟩
    have hl : rs.length ≤ 48 := h1.len
    refine s_ret (R := Is (.bl (srvd rs q))) (g_any1 (fun r => srv r q) (gi_own (g_var rfl hv up_i1)) (by omega) fun r x S1 s1 hr rx => ?_) hS k
    exact g_call (R := fun (q : {q : List Str × Qn // ColsOk q.1 ∧ QOk q.2}) => Is (.bl (srv q.1.1 q.1.2))) (a := ⟨(r, q), (h1.ok r hr).cols, h2⟩) (ga_two (g_var rfl rx .d) .d (g_dv rfl (Dp.up s1 hw)))
/-- what is asked -/
structure AkOk (qs : List Qn) : Prop where
  asc : AscQ qs
  ok : ∀ q ∈ qs, QOk q
  len : qs.length ≤ 15
/-- what a shelf leaves -/
def left (rs : List (List Str)) (qs : List Qn) : List Qn := qs.filter fun q => !srvd rs q
theorem AscQ.filter {qs : List Qn} (h : AscQ qs) (f : Qn → Bool) : AscQ (qs.filter f) := ⟨h.nd.filter f, by
  have := h.asc
  unfold Asc at this ⊢
  rw [List.pairwise_map] at this ⊢
  exact this.filter f⟩
theorem left_ok {rs : List (List Str)} {qs : List Qn} (h : AkOk qs) : AkOk (left rs qs) := ⟨h.asc.filter _, fun q hq => h.ok q (List.mem_filter.mp hq).1, Nat.le_trans (List.length_filter_le _ _) h.len⟩
abbrev n_unserved : List Str := ["shelf", "asked", "question"]
theorem sc_unserved : FnScope n_unserved ["shelf", "asked"] (defScope s_unserved) := ⟨rfl, rfl, rfl, by decide +kernel, rfl, by decide +kernel, by decide +kernel⟩
abbrev sp_unserved (K : PySem.W.Frag) : Sp := Pu (fun (z : {z : List (List Str) × List Qn // ShOk z.1 ∧ AkOk z.2}) => A2 (ShelfV K z.1.1) (AskedV K z.1.2)) (fun z => AskedV K (left z.1.1 z.1.2))
theorem ok_unserved (T : Fx K mg) : Cal P w K mg base 12 "unserved" (sp_unserved K) := by
  obtain ⟨fd, Fn⟩ := T.d_unserved
  refine ⟨fn_pos Fn sc_unserved (fun vs H Q E h => ?_) (fun _ _ _ _ _ _ us hl => match us, hl with | [_, _], _ => rfl) (fun cdv A outer s H vs Q E hr h => ?_), T.g_unserved, Fn.kp⟩
  · obtain ⟨_, _, _, ⟨_, _, rfl, _⟩, _⟩ := h
    rfl
  · obtain ⟨⟨⟨rs, qs⟩, h1, h2⟩, S, hS, ⟨va, vb, rfl, hv, hw⟩, k⟩ := h
    refine ⟨_, pss_one (ps_ret (StX.pe_makeR T.mk_Asked ((ok_Asked___init__ T).mono (by decide : 10 ≤ 10)).run (hr.mono (by decide)) rfl T.g_Asked pass0 (pa_cons (pe_lc (own := [("question", 2)]) rfl
        sc_unserved.nd (pi_own (f := "kept_questions") ((ok_Asked___iter__ T).mono (by decide : 1 ≤ 9)) (hr.mono (by decide)) (pv 1)) (blkOk_by (N := n_unserved) (sc := defScope s_unserved)
        (by decide +kernel)) (fun _ _ _ _ _ => (pg_name (i := 2) sc_unserved.nd rfl (by first | exact Or.inl rfl | exact Or.inr rfl))) (fun _ _ _ _ _ => (pts_one (pt_not (pt_val (pe_f ((ok_is_served
        T).mono (by decide : 4 ≤ 11)) (hr.mono (by decide)) (pa_cons (pv 0) (pa_cons (pv 2) pa_nil))))))) (fun _ _ _ _ _ => (pv 2))) pa_nil))), ?_⟩
    have hl : qs.length ≤ 48 := Nat.le_trans h2.len (by decide)
    have e : AskedV K (left rs qs) = AskedV K (canonQ (left rs qs)) := by rw [canonQ_self (left_ok h2).asc]
    refine s_ret (R := AskedV K (left rs qs)) ?_ hS k
    rw [e]
    refine g_asked ?_ (left_ok h2).ok (Nat.le_trans (left_ok h2).len (by decide))
    have e2 : (left rs qs).map encQ = (((qs.filter fun q => !srvd rs q).map id).map encQ) := by rw [List.map_id]; rfl
    rw [e2]
    refine g_sel1 (fun q => !srvd rs q) id encQ (gi_own (g_var rfl hw up_i1)) (by omega) fun q x S1 s1 hq rx => ⟨gt_not (gt_B ?_), fun _ => g_var rfl rx .d⟩
    exact g_call (R := fun (z : {z : List (List Str) × Qn // ShOk z.1 ∧ QOk z.2}) => Is (.bl (srvd z.1.1 z.1.2))) (a := ⟨(rs, q), h1, h2.ok q hq⟩) (ga_two (g_var rfl (up_i1 _ _ _ s1 hv) up_i1) up_i1 (g_var rfl rx .d))
/-- the pairs of a list of questions -/
abbrev encN (p : Nat × Nat) : PyData := encP ((p.1 : Int), (p.2 : Int))
def prsAt (qs : List Qn) (p : Nat × Qn) : List (Nat × Nat) := ((plc qs).filter fun r => below p.2 r.2).map fun r => (p.1, r.1)
def prs (qs : List Qn) : List (Nat × Nat) := ((plc qs).map (prsAt qs)).flatten
theorem prsAt_len {qs : List Qn} {p : Nat × Qn} : (prsAt qs p).length ≤ qs.length := by
  unfold prsAt
  rw [List.length_map]
  exact Nat.le_trans (List.length_filter_le _ _) (Nat.le_of_eq plc_len)
abbrev n_pairs_of : List Str := ["questions", "found", "low", "one", "high", "other"]
theorem sc_pairs_of : FnScope n_pairs_of ["questions"] (defScope s_pairs_of) := ⟨rfl, rfl, rfl, by decide +kernel, rfl, by decide +kernel, by decide +kernel⟩
abbrev sp_pairs_of (K : PySem.W.Frag) : Sp := PuM K (fun (z : {z : List Qn // (∀ q ∈ z, QOk q) ∧ z.length ≤ 48}) => A1 (D K (.list (z.1.map encQ)))) (fun z => (prs z.1).map encN)
theorem ok_pairs_of (T : Fx K mg) : Cal P w K mg base 9 "pairs_of" (sp_pairs_of K) := by
  obtain ⟨fd, Fn⟩ := T.d_pairs_of
  refine ⟨fn_pos Fn sc_pairs_of (fun vs H Q E h => ?_) (fun _ _ _ _ _ _ us hl => match us, hl with | [_], _ => rfl) (fun cdv A outer s H vs Q E hr h => ?_), T.g_pairs_of, Fn.kp⟩
  · obtain ⟨_, _, _, ⟨_, rfl, _⟩, _⟩ := h
    rfl
  · obtain ⟨⟨qs, ok, hl⟩, S, hS, ⟨va, rfl, hv⟩, k⟩ := h
    refine ⟨_, pss_cons (ps_set (i := 1) sc_pairs_of.nd rfl (by first | exact Or.inl rfl | exact Or.inr rfl) (pe_lst pa_nil)) (pss_cons (ps_for PassesOwn.never rfl (pi_enum rfl T.b_enumerate (pa_cons (pv 0)
        pa_nil)) (pg_tupK (K := K) (n := 2) rfl (pgs_cons (pg_name (i := 2) sc_pairs_of.nd rfl (by first | exact Or.inl rfl | exact Or.inr rfl)) (pgs_cons (pg_name (i := 3) sc_pairs_of.nd rfl
        (by first | exact Or.inl rfl | exact Or.inr rfl)) pgs_nil))) (pss_one (ps_expr (pe_bm PySem.F.plainAttrs_list PySem.F.slot_list_extend PySem.F.type_list_extend mt_extend (pv 1) (pa_cons (pe_lc
        (own := [("high", 4), ("other", 5)]) rfl sc_pairs_of.nd (pi_enum rfl T.b_enumerate (pa_cons (pv 0) pa_nil)) (blkOk_by (N := n_pairs_of) (sc := defScope s_pairs_of) (by decide +kernel)) (fun _
        _ _ _ _ => (pg_tupK (K := K) (n := 2) rfl (pgs_cons (pg_name (i := 4) sc_pairs_of.nd rfl (by first | exact Or.inl rfl | exact Or.inr rfl)) (pgs_cons (pg_name (i := 5) sc_pairs_of.nd rfl
        (by first | exact Or.inl rfl | exact Or.inr rfl)) pgs_nil)))) (fun _ _ _ _ _ => (pts_one (pt_val (pe_f ((ok_is_below T).mono (by decide : 8 ≤ 8)) (hr.mono (by decide)) (pa_cons (pv 3) (pa_cons
        (pv 5) pa_nil)))))) (fun _ _ _ _ _ => (pe_tup (pa_cons (pv 2) (pa_cons (pv 4) pa_nil))))) pa_nil))))) (pss_one (ps_ret (pv 1)))), ?_⟩
    refine q_newL (.refl hS) fun p H1 hp g1 hSp hp1 => ?_
    refine q_for (gi_enumE (xs := qs) (g_dv rfl hv)) g1.sh fun S2 H2 e2 => ⟨fun i σ' S' H' => (Gw S H S' H' ∧ Same S2 S') ∧ (∃ x2 x3 x4 x5, σ' = [some va, some (.ref p), x2, x3, x4, x5]) ∧ S' p = none ∧ ∃ ws, H' p = some (.lst ws) ∧ DpAll K S' ws ((((plc qs).take i).map (prsAt qs)).flatten.map encN) ∧ ws.length ≤ 48 * i,
      ⟨⟨g1.trans e2, Same.refl _⟩, ⟨_, _, _, _, rfl⟩, e2.none hSp hp1, [], e2.hh _ _ hp1, .nil, Nat.le_refl _⟩, fun i σ' S' H' h => ⟨h.1.2, h.1.1.sh⟩, ?_, ?_⟩
    · rintro i ⟨j, q⟩ x σ' S3 H3 S4 H4 hx ⟨⟨g3, s3⟩, ⟨y2, y3, y4, y5, rfl⟩, hp3, ws, hws, hd, hln⟩ g4 rx
      refine g_un2 rx g4.sh fun y z hy hz => ?_
      obtain rfl := Dp.intI hy
      have hm : qs[j]? = some q := plc_mem.mp (List.mem_of_getElem? hx)
      have hqo := ok q (List.mem_of_getElem? hm)
      have hil : i < qs.length := by have := (List.getElem?_eq_some_iff.mp hx).1; rwa [plc_len] at this
      have hp4 := g4.none hp3 hws
      have hla := prsAt_len (qs := qs) (p := (j, q))
      have epr : (prsAt qs (j, q)).map encN = (((plc qs).filter fun r => below q r.2).map fun r => (j, r.1)).map encN := rfl
      refine s_ext (l := p) (ds := (prsAt qs (j, q)).map encN) rfl ?_ g4.sh (g4.hh _ _ hws) (by rw [List.length_map]; omega) fun zs S5 H5 e5 hzs => ⟨S5, ⟨((g3.trans g4).trans e5).wr hp (e5.none hp4 (g4.hh _ _ hws)), (s3.trans g4.ss).trans e5.ss⟩, ⟨_, _, _, _, rfl⟩, e5.none hp4 (g4.hh _ _ hws), ws ++ zs, upd_same, ?_, ?_⟩
      · rw [epr]
        refine g_lsL0 (K := K) (g_lc2 (K := K) (RO := fun b => D K (encN b)) (d1 := fun (r : Nat × Qn) => .int (r.1 : Nat)) (d2 := fun r => encQ r.2) (fun r => below q r.2) (fun r => (j, r.1)) (gi_enumE (xs := qs) (g_dv rfl (Dp.up ((e2.ss.trans s3).trans g4.ss) hv))) (fun _ => .d) (by rw [plc_len]; omega) (fun _ _ => rfl) fun r x y S6 s6 hr hx hy => ⟨gt_B ?_, fun _ => ?_⟩)
        · exact g_call (R := fun (q : {q : Qn × Qn // QOk q.1 ∧ QOk q.2}) => Is (.bl (below q.1.1 q.1.2))) (a := ⟨(q, r.2), hqo, ok _ (List.mem_of_getElem? (plc_mem.mp hr))⟩) (ga_two (g_dv rfl (Dp.up s6 hz)) .d (g_dv rfl hy))
        · obtain rfl := Dp.intI hx
          exact g_tup (ga_dc (g_dInt (g_is rfl)) (ga_dc (g_dInt (g_is rfl)) ga_d0)) (by simp)
      · rw [take_succ' hx, List.map_append, List.flatten_append, List.map_append]
        refine DpAll.app (DpAll.up (g4.ss.trans e5.ss) hd) ?_
        rw [show ((List.map (prsAt qs) [(j, q)]).flatten).map encN = (prsAt qs (j, q)).map encN by simp]
        exact hzs
      · rw [List.length_append, DpAll.len hzs, List.length_map]
        omega
    · rintro σ' S' H' ⟨⟨g3, s3⟩, ⟨y2, y3, y4, y5, rfl⟩, hp3, ws, hws, hd, hln⟩
      rw [List.take_length] at hd
      exact s_ret (g_is rfl) g3.sh fun v S5 H5 e5 r => by rw [r]; exact k p ws S5 H5 (g3.trans e5) hp (e5.none hp3 hws) (e5.hh _ _ hws) (DpAll.up e5.ss hd)
end
end NK
end

section
set_option Elab.async false
set_option linter.all false
set_option maxRecDepth 100000
set_option maxHeartbeats 400000
namespace NK
open PySem PySem.Spec L2
open PyProof.Rows hiding St
section
variable {P : Program} {w : World} {K : PySem.W.Frag} {mg : Str → Option Value} {base : Heap}
theorem LdIn.blen {n : Nat} {ab : List (List Nat)} {b : BL} {s : List Nat} {low : Nat} (I : LdIn n ab b s low) : b.length ≤ 48 := by
  have h : (keysN b).length ≤ (List.range n).length := sub_len I.ok.nd fun x hx => by
    cases e : getN b x with
    | none => exact absurd hx (getN_none.mp e)
    | some l => exact List.mem_range.mpr (I.lt l x (I.ok.edge x l e).2)
  have h2 := I.n48
  rw [List.length_range] at h
  unfold keysN at h
  rw [List.length_map] at h
  omega
theorem sok_len {n : Nat} {s : List Nat} (h : SOk n s) : s.length ≤ n := by
  have := sub_len h.nd fun x hx => List.mem_range.mpr (h.lt x hx)
  rwa [List.length_range] at this
theorem sok_add {n : Nat} {s : List Nat} {h : Nat} (o : SOk n s) (hn : h ∉ s) (hl : h < n) : SOk n (s ++ [h]) := by
  refine ⟨?_, fun x hx => (List.mem_append.mp hx).elim (o.lt x) fun z => by rw [List.mem_singleton.mp z]; exact hl⟩
  rw [List.nodup_append]
  exact ⟨o.nd, List.nodup_cons.mpr ⟨by simp, List.nodup_nil⟩, fun a ha b hb => by rw [List.mem_singleton.mp hb]; exact fun z => hn (z ▸ ha)⟩
abbrev n_lead : List Str := ["above", "below", "low", "seen", "high"]
theorem sc_lead : FnScope n_lead ["above", "below", "low", "seen"] (defScope s_lead) := ⟨rfl, rfl, rfl, by decide +kernel, rfl, by decide +kernel, by decide +kernel⟩
theorem ok_lead (T : Fx K mg) : ∀ d, Cal P w K mg base (d + 1) "lead" (sp_lead K d)
  | 0 => by
    obtain ⟨fd, Fn⟩ := T.d_lead
    exact ⟨fun A outer s H us vs Q E hr e0 r h => by
      obtain ⟨_, _, _, _, _, _, _, _, _, _, _, _, _, _, _, _, _, _, h, _⟩ := h
      exact absurd h (Nat.not_lt_zero _), T.g_lead, Fn.kp⟩
  | d + 1 => by
    have IH := ok_lead T d
    obtain ⟨fd, Fn⟩ := T.d_lead
    refine ⟨fn_pos Fn sc_lead (fun vs H Q E h => ?_) (fun _ _ _ _ _ _ us hl => match us, hl with | [_, _, _, _], _ => rfl) (fun cdv A outer s H vs Q E hr h => ?_), T.g_lead, Fn.kp⟩
    · obtain ⟨_, _, _, _, _, _, _, _, _, _, rfl, _⟩ := h
      rfl
    obtain ⟨S, va, pb, ps, n, ab, b, s0, low, hS, rfl, hv, npq, hb, hsn, hSb, hSs, I, hd, k⟩ := h
    have hu := hu_of hr
    refine ⟨_,
      pss_cons (ps_for PassesOwn.never rfl (pi_listK (K := K) (pe_ix (r := rIxL K) ix_list (pv 0) (pv 2) (fun _ _ => rfl))) (pg_name (i := 4) sc_lead.nd rfl
        (by first | exact Or.inl rfl | exact Or.inr rfl)) (pss_one (ps_if (pt_cmp (pc_dnotin hu (pv 4) (pv 3))) (pss_cons (ps_dput hu (pv 3) (pv 4) pe_bl rfl) (pss_one (ps_if (PW.pt (pw_or (pt_cmp
        (pc_dnotin hu (pv 4) (pv 1))) (pw_or1 (pt_val (pe_f IH hr (pa_cons (pv 0) (pa_cons (pv 1) (pa_cons (pe_dget hu (pv 1) (pv 4) (fun _ _ => rfl)) (pa_cons (pv 3) pa_nil))))))))) (pss_cons
        (ps_dput hu (pv 1) (pv 4) (pv 2) rfl) (pss_one (ps_ret pe_bl))) pss_nil))) pss_nil))) (pss_one (ps_ret pe_bl)), ?_⟩
    have hlow : low < ab.length := by rw [I.len]; exact I.low
    have hab : (ab.map fun l => PyData.list (encNs l))[low]? = some (.list (encNs (abF ab low))) := by
      rw [List.getElem?_map, List.getElem?_eq_getElem hlow]
      unfold abF
      rw [List.getD_eq_getElem?_getD, List.getElem?_eq_getElem hlow]
      rfl
    refine q_for (gi_listE (xs := abF ab low) (enc := fun (x : Nat) => PyData.int (x : Int)) (g_ixL (i := low) (g_dv rfl hv) (g_is rfl) hab)) hS fun S2 H2 e2 => ⟨fun i σ' S' H' => (Gx pb ps S H S' H' ∧ Same S2 S') ∧ (∃ x, σ' = [some va, some (.ref pb), some (.int (low : Nat)), some (.ref ps), x]) ∧
      ∃ si, H' pb = some (.dK (encB b)) ∧ H' ps = some (.dK (encS si)) ∧ SOk n si ∧ Dead (abF ab) b s0 ((abF ab low).take i) si,
      ⟨⟨(Gx.refl hS).on e2 ⟨_, hb⟩ ⟨_, hsn⟩, Same.refl _⟩, ⟨_, rfl⟩, s0, e2.hh _ _ hb, e2.hh _ _ hsn, I.sk, fun _ z => z, fun _ z => (by simp at z), fun _ z z' => absurd z z'⟩, fun i σ' S' H' h => ⟨h.1.2, h.1.1.sh⟩, ?_, ?_⟩
    · rintro i h x σ' S3 H3 S4 H4 hx ⟨⟨g3, s3⟩, ⟨y, rfl⟩, si, hb3, hs3, sok, dd⟩ e4 rx
      obtain rfl : x = .int (h : Nat) := Dp.intI rx
      have g4 : Gx pb ps S H S4 H4 := g3.on e4 ⟨_, hb3⟩ ⟨_, hs3⟩
      have s4 : Same S2 S4 := s3.trans e4.ss
      have hb4 := e4.hh _ _ hb3
      have hs4 := e4.hh _ _ hs3
      have hSb4 : S4 pb = none := (g4.old _ _ hb).trans hSb
      have hSs4 : S4 ps = none := (g4.old _ _ hsn).trans hSs
      have hmem : h ∈ abF ab low := List.mem_of_getElem? hx
      have hlt : h < n := I.lt _ _ hmem
      have sl := sok_len sok
      have n48 := I.n48
      clear g3 s3 hb3 hs3 e4
      refine ⟨.int (h : Nat), rfl, .ref ps, rfl, ps, _, rfl, .inl ⟨encS si, ky h, .inl hs4, rfl, rfl⟩, _, rfl, ?_⟩
      rw [valV_encS]
      by_cases hm : h ∈ si
      · rw [if_pos hm]
        refine iteF ?_
        exact ⟨S4, ⟨g4, s4⟩, ⟨_, rfl⟩, si, hb4, hs4, sok, by rw [take_in hx]; exact dead_in dd hm⟩
      · rw [if_neg hm]
        refine iteT ?_
        have sok1 := sok_add sok hm hlt
        have sl1 := sok_len sok1
        rw [List.length_append] at sl1
        simp only [List.length_singleton] at sl1
        refine ⟨.ref ps, rfl, .int (h : Nat), rfl, ps, _, rfl, .inl ⟨encS si, ky h, hs4, rfl, by unfold encS; rw [List.length_map]; exact Nat.lt_of_le_of_lt (Nat.le_trans sl n48) (by decide), rfl⟩, ?_⟩
        rw [putK_encS hm]
        have g5 : Gx pb ps S H S4 (upd H4 ps (.dK (encS (si ++ [h])))) := g4.wrq hSs4
        have hb5 : upd H4 ps (.dK (encS (si ++ [h]))) pb = some (.dK (encB b)) := by rw [upd_ne npq]; exact hb4
        refine ⟨.int (h : Nat), rfl, .ref pb, rfl, pb, _, rfl, .inl ⟨encB b, ky h, .inl hb5, rfl, rfl⟩, _, rfl, ?_⟩
        rw [valV_encB]
        have s0l : s0.length ≤ si.length := sub_len I.sk.nd dd.sub
        cases hg : getN b h with
        | none =>
          refine iteT (iteT ?_)
          refine ⟨.int (low : Nat), rfl, .ref pb, rfl, .int (h : Nat), rfl, pb, _, rfl, .inl ⟨encB b, ky h, hb5, rfl, by unfold encB; rw [List.length_map]; exact Nat.lt_of_le_of_lt I.blen (by decide), rfl⟩, ?_⟩
          rw [putK_encB]
          have g6 := g5.wrp (o := .dK (encB (putN b h low))) hSb4
          dsimp only
          refine s_ret (g_c (v := .bl true)) g6.sh fun v S6 H6 e6 r => ?_
          rw [r]
          have h6b : upd (upd H4 ps (.dK (encS (si ++ [h])))) pb (.dK (encB (putN b h low))) ps = some (.dK (encS (si ++ [h]))) := by rw [upd_ne npq.symm, upd_same]
          exact k true (putN b h low) (si ++ [h]) S6 H6 (g6.on e6 ⟨_, upd_same⟩ ⟨_, h6b⟩) (e6.hh _ _ upd_same) (e6.hh _ _ h6b) (.inl ⟨rfl, found_new I.ok I.low hmem hg hm dd.sub, sok1, fun x hx => List.mem_append_left _ (dd.sub x hx)⟩)
        | some l' =>
          refine iteF ?_
          refine ⟨va, rfl, .ref pb, rfl, .ref pb, rfl, .int (h : Nat), rfl, pb, .int (l' : Nat), rfl, .inl ⟨encB b, ky h, .inl hb5, rfl, by rw [valV_encB, hg]; rfl⟩, .ref ps, rfl, S4, va, pb, ps, n, ab, b, si ++ [h], l', g5.sh, rfl, Dp.up (e2.ss.trans s4) hv, npq, hb5, upd_same, hSb4, hSs4, ⟨I.len, I.n48, I.lt, I.nd, I.ok, sok1, (I.ok.edge h l' hg).1⟩, by rw [List.length_append, List.length_singleton]; omega, fun r b' s' S6 H6 g6 hb6 hs6 out => ?_⟩
          have g7 : Gx pb ps S H S6 H6 := g5.trans g6 ⟨_, hb5⟩ ⟨_, upd_same⟩
          have hSb6 : S6 pb = none := (g7.old _ _ hb).trans hSb
          rcases out with ⟨rfl, fd', sk6, sub6⟩ | ⟨rfl, rfl, sk6, dd6⟩
          · refine ⟨true, rfl, iteT ?_⟩
            have fo := found_on I.ok I.low hmem hg hm dd.sub fd'
            have b'l : (encB b').length < sizeLine := by
              have := LdIn.blen (low := low) ⟨I.len, I.n48, I.lt, I.nd, fd'.ok, I.sk, I.low⟩
              unfold encB
              rw [List.length_map]
              exact Nat.lt_of_le_of_lt this (by decide)
            refine ⟨.int (low : Nat), rfl, .ref pb, rfl, .int (h : Nat), rfl, pb, _, rfl, .inl ⟨encB b', ky h, hb6, rfl, b'l, rfl⟩, ?_⟩
            rw [putK_encB]
            have g8 := g7.wrp (o := .dK (encB (putN b' h low))) hSb6
            dsimp only
            refine s_ret (g_c (v := .bl true)) g8.sh fun v S7 H7 e7 r => ?_
            rw [r]
            have h7b : upd H6 pb (.dK (encB (putN b' h low))) ps = some (.dK (encS s')) := by rw [upd_ne npq.symm]; exact hs6
            exact k true (putN b' h low) s' S7 H7 (g8.on e7 ⟨_, upd_same⟩ ⟨_, h7b⟩) (e7.hh _ _ upd_same) (e7.hh _ _ h7b) (.inl ⟨rfl, fo, sk6, fun x hx => sub6 x (List.mem_append_left _ (dd.sub x hx))⟩)
          · refine ⟨false, rfl, iteF ?_⟩
            exact ⟨S6, ⟨g7, s4.trans g6.ss⟩, ⟨_, rfl⟩, s', hb6, hs6, sk6, by rw [take_in hx]; exact dead_on dd hg dd6⟩
    · rintro σ' S' H' ⟨⟨g3, s3⟩, ⟨y, rfl⟩, si, hb3, hs3, sok, dd⟩
      rw [List.take_length] at dd
      refine s_ret (g_c (v := .bl false)) g3.sh fun v S5 H5 e5 r => ?_
      rw [r]
      exact k false b si S5 H5 (g3.on e5 ⟨_, hb3⟩ ⟨_, hs3⟩) (e5.hh _ _ hb3) (e5.hh _ _ hs3) (.inr ⟨rfl, rfl, sok, dd⟩)
/-- what matched is given -/
structure MtIn (ab : List (List Nat)) (ord : List Nat) : Prop where
  n48 : ab.length ≤ 48
  lt : ∀ l, ∀ h ∈ abF ab l, h < ab.length
  nd : ∀ l, (abF ab l).Nodup
  ond : ord.Nodup
  olt : ∀ x ∈ ord, x < ab.length
theorem blen_of {n : Nat} {ab : List (List Nat)} {b : BL} (n48 : n ≤ 48) (lt : ∀ l, ∀ h ∈ abF ab l, h < n) (ok : BOk n (abF ab) b) : b.length ≤ 48 := by
  have h : (keysN b).length ≤ (List.range n).length := sub_len ok.nd fun x hx => by
    cases e : getN b x with
    | none => exact absurd hx (getN_none.mp e)
    | some l => exact List.mem_range.mpr (lt l x (ok.edge x l e).2)
  rw [List.length_range] at h
  unfold keysN at h
  rw [List.length_map] at h
  omega
abbrev n_matched : List Str := ["above", "order", "below", "low", "high"]
theorem sc_matched : FnScope n_matched ["above", "order"] (defScope s_matched) := ⟨rfl, rfl, rfl, by decide +kernel, rfl, by decide +kernel, by decide +kernel⟩
abbrev sp_matched (K : PySem.W.Frag) : Sp := Pu (fun (z : {z : List (List Nat) × List Nat // MtIn z.1 z.2}) => A2 (D K (encAb z.1.1)) (D K (.list (encNs z.1.2)))) (fun z v S => ∃ b, MInv z.1.1.length (abF z.1.1) z.1.2 z.1.2.length b ∧ ∃ p, v = .ref p ∧ S p = some (.dK (encB (swapN b))))
theorem ok_matched (T : Fx K mg) : Cal P w K mg base 51 "matched" (sp_matched K) := by
  obtain ⟨fd, Fn⟩ := T.d_matched
  refine ⟨fn_pos Fn sc_matched (fun vs H Q E h => ?_) (fun _ _ _ _ _ _ us hl => match us, hl with | [_, _], _ => rfl) (fun cdv A outer s H vs Q E hr h => ?_), T.g_matched, Fn.kp⟩
  · obtain ⟨_, _, _, ⟨_, _, rfl, _⟩, _⟩ := h
    rfl
  · obtain ⟨⟨⟨ab, ord⟩, I⟩, S, hS, ⟨va, vb, rfl, hv, hw⟩, k⟩ := h
    have I : MtIn ab ord := I
    refine ⟨_, pss_cons (ps_set (i := 2) sc_matched.nd rfl (by first | exact Or.inl rfl | exact Or.inr rfl) pe_dnewK) (pss_cons (ps_for PassesOwn.never rfl (pi_listK (K := K) (pv 1)) (pg_name (i := 3)
        sc_matched.nd rfl (by first | exact Or.inl rfl | exact Or.inr rfl)) (pss_one (ps_expr (pe_f (ok_lead T 49) (hr.mono (by decide)) (pa_cons (pv 0) (pa_cons (pv 2) (pa_cons (pv 3) (pa_cons
        pe_dnewK pa_nil)))))))) (pss_one (ps_ret (pe_lock (pe_dc (own := [("high", 4), ("low", 3)]) rfl sc_matched.nd (pi_items (pv 2)) (blkOk_by (N := n_matched) (sc := defScope s_matched)
        (by decide +kernel)) (fun _ _ _ _ _ => (pg_tupK (K := K) (n := 2) rfl (pgs_cons (pg_name (i := 4) sc_matched.nd rfl (by first | exact Or.inl rfl | exact Or.inr rfl)) (pgs_cons (pg_name (i :=
        3) sc_matched.nd rfl (by first | exact Or.inl rfl | exact Or.inr rfl)) pgs_nil)))) (fun _ _ _ _ _ => pts_nil) (fun _ _ _ _ _ => (pv 3)) (fun _ _ _ _ _ => (pv 4))))))), ?_⟩
    refine fun pb hpb => ?_
    have hSb : S pb = none := hS.free hpb
    have g1 : Gw S H S (upd H pb (.dK [])) := Gw.mut hS hpb
    refine q_for (gi_listE (xs := ord) (enc := fun (x : Nat) => PyData.int (x : Int)) (g_dv rfl hw)) g1.sh fun S2 H2 e2 => ⟨fun i σ' S' H' => (Gw S H S' H' ∧ Same S2 S') ∧ (∃ x, σ' = [some va, some vb, some (.ref pb), x, none]) ∧ S' pb = none ∧ ∃ b, H' pb = some (.dK (encB b)) ∧ MInv ab.length (abF ab) ord i b,
      ⟨⟨g1.trans e2, Same.refl _⟩, ⟨_, rfl⟩, e2.none hSb upd_same, [], e2.hh _ _ upd_same, .start⟩, fun i σ' S' H' h => ⟨h.1.2, h.1.1.sh⟩, ?_, ?_⟩
    · rintro i low x σ' S3 H3 S4 H4 hx ⟨⟨g3, s3⟩, ⟨y, rfl⟩, hp3, b, hb3, mi⟩ e4 rx
      obtain rfl : x = .int (low : Nat) := Dp.intI rx
      have hb4 := e4.hh _ _ hb3
      have hp4 := e4.none hp3 hb3
      refine ⟨va, rfl, .ref pb, rfl, .int (low : Nat), rfl, fun ps hps => ?_⟩
      have npq : pb ≠ ps := ne_of_none hb4 hps
      have hb5 : upd H4 ps (.dK []) pb = some (.dK (encB b)) := by rw [upd_ne npq]; exact hb4
      have g4 : Gw S H S4 (upd H4 ps (.dK [])) := (g3.trans e4).trans (Gw.mut e4.sh hps)
      refine ⟨S4, va, pb, ps, ab.length, ab, b, [], low, g4.sh, rfl, Dp.up (e2.ss.trans (s3.trans e4.ss)) hv, npq, hb5, upd_same, hp4, e4.sh.free hps, ⟨rfl, I.n48, I.lt, I.nd, mi.ok, ⟨List.nodup_nil, fun x hx => by cases hx⟩, I.olt low (List.mem_of_getElem? hx)⟩, by have := I.n48; simp; omega, fun r b' s' S6 H6 g6 hb6 hs6 out => ?_⟩
      have g7 : Gw S H S6 H6 := Gx.gw g4 g6 hpb ((g3.trans e4).hh.free hps)
      refine ⟨S6, ⟨g7, (s3.trans e4.ss).trans g6.ss⟩, ⟨_, rfl⟩, (g6.old _ _ hb5).trans hp4, b', hb6, ?_⟩
      rcases out with ⟨rfl, fo, _, _⟩ | ⟨rfl, rfl, _, dd⟩
      · exact mi.found I.ond hx fo
      · exact mi.dead hx dd
    · rintro σ' S3 H3 ⟨⟨g3, s3⟩, ⟨y, rfl⟩, hp3, b, hb3, mi⟩
      have hbl : b.length ≤ 48 := blen_of I.n48 I.lt mi.ok
      refine ⟨pb, .dK (encB b), hb3, trivial, fun od => ?_⟩
      have g4 : Gw S H S3 (upd H3 pb (.frz od (.dK (encB b)))) := g3.wr hpb hp3
      refine ⟨.ref pb, rfl, pb, od, encB b, rfl, upd_same, fun D hD => ?_⟩
      have nD : pb ≠ D := ne_of_none upd_same hD
      have elen : (encB b).length = b.length := by unfold encB; rw [List.length_map]
      have hHD : H D = none := g4.hh.free hD
      refine ⟨fun i m H' => m = b.length - i ∧ i ≤ b.length ∧ ∃ S', Gw S H S' H' ∧ Same S3 S' ∧ S' D = none ∧ S' pb = none ∧ H' pb = some (.frz od (.dK (encB b))) ∧ H' D = some (.dK (encB (swapN (b.take i)))), ⟨_, rfl, Nat.zero_le _, S3, g4.trans (Gw.mut g4.sh hD), Same.refl _, g4.sh.free hD, hp3, by rw [upd_ne nD, upd_same], by rw [upd_same]; rfl⟩, ?_⟩
      rintro i m H5 ⟨rfl, hi, S5, g5, s5, hD5, hp5, hb5, hD5'⟩
      by_cases hlt : i < b.length
      · refine .inr ⟨⟨hb5, by omega⟩, fun H' => i + 1 ≤ b.length ∧ ∃ S', Gw S H S' H' ∧ Same S3 S' ∧ S' D = none ∧ S' pb = none ∧ H' pb = some (.frz od (.dK (encB b))) ∧ H' D = some (.dK (encB (swapN (b.take (i + 1))))), fun H' h => ⟨b.length - (i + 1), by omega, rfl, h.1, h.2⟩, ?_⟩
        rintro x H6 ⟨Tp, kk, vv, hk, rfl, hT, rfl⟩
        obtain ⟨p, hp, e1, e2'⟩ : ∃ p : Nat × Nat, b[i]? = some p ∧ kk = ky p.1 ∧ vv = .int (p.2 : Nat) := by
          unfold encB at hk
          rw [List.getElem?_map, List.getElem?_eq_getElem hlt] at hk
          have hk := Option.some.inj hk
          cases hk
          exact ⟨b[i], List.getElem?_eq_getElem hlt, rfl, rfl⟩
        subst e1 e2'
        refine ⟨Tp, _, rfl, SqT.of upd_same, rfl, _, _, rfl, _, _, rfl, rfl, rfl, ?_⟩
        unfold tYes
        refine iteT ?_
        refine ⟨_, rfl, _, rfl, encB (swapN (b.take i)), ky p.2, rfl, ?_, ?_, hlt, S5, ?_, s5, hD5, hp5, ?_, ?_⟩
        · rw [upd_ne (ne_of_none hD5' hT)]
          exact hD5'
        · unfold encB swapN
          rw [List.length_map, List.length_map, List.length_take]
          exact Nat.lt_of_le_of_lt (Nat.le_trans (Nat.min_le_right _ _) hbl) (by decide)
        · exact (g5.trans (Gw.mut g5.sh hT)).wr hHD hD5
        · rw [upd_ne nD, upd_ne (ne_of_none hb5 hT)]
          exact hb5
        · rw [upd_same]
          show some (HO.dK (putK (encB (swapN (b.take i))) (ky p.2) (V.int (p.1 : Nat)))) = _
          rw [putK_encB, swap_step mi.one hp]
      · obtain rfl : i = b.length := by omega
        rw [List.take_length] at hD5'
        refine .inl ⟨⟨hb5, by omega⟩, hb5, ?_⟩
        have g6 : Gw S H S5 (upd H5 pb (.dK (encB b))) := g5.wr hpb hp5
        have hD6 : upd H5 pb (.dK (encB b)) D = some (.dK (encB (swapN b))) := by rw [upd_ne nD.symm]; exact hD5'
        exact k (.ref D) _ _ (g6.frz hHD hD5 hD6) ⟨b, mi, D, rfl, upd_same⟩
end
end NK
end

section
set_option Elab.async false
set_option linter.all false
set_option maxRecDepth 100000
set_option maxHeartbeats 400000
namespace NK
open PySem PySem.Spec L2
open PyProof.Rows hiding St
section
variable {P : Program} {w : World} {K : PySem.W.Frag} {mg : Str → Option Value} {base : Heap}
/-- the dict of a match -/
def MD (b : BL) : Rel := fun v S => ∃ p, v = .ref p ∧ S p = some (.dK (encB b))
theorem up_md {b : BL} : Up (MD b) := fun v H H' e ⟨p, h1, h2⟩ => ⟨p, h1, e _ _ h2⟩
/-- the chain from x upwards -/
def upC (m : BL) : Nat → Nat → List Nat
  | 0, x => [x]
  | k + 1, x => match getN m x with
    | some y => x :: upC m k y
    | none => [x]
theorem upC_len (m : BL) : ∀ k x, (upC m k x).length ≤ k + 1
  | 0, x => Nat.le_refl _
  | k + 1, x => by
    unfold upC
    cases getN m x with
    | none => show 1 ≤ _; omega
    | some y => have := upC_len m k y; show (upC m k y).length + 1 ≤ _; omega
/-- the lows that are no high one's: where chains begin -/
def begs (n : Nat) (m : BL) : List Nat := (List.range n).filter fun t => !decide (t ∈ m.map (·.2))
def chs (n : Nat) (m : BL) : List (List Nat) := (begs n m).map (upC m 48)
structure ChIn (m : BL) (n : Nat) : Prop where
  n48 : n ≤ 48
  len : m.length ≤ 48
  rank : ∃ rk : Nat → Nat, (∀ x, rk x ≤ 48) ∧ ∀ x y, getN m x = some y → rk y < rk x
theorem ints_nat (c : List Nat) (H : Hp) : DpAll K H (c.map fun (x : Nat) => V.int (x : Int)) (encNs c) := by
  have e5 : (c.map fun (x : Nat) => V.int (x : Int)) = (c.map fun (x : Nat) => (x : Int)).map V.int := by rw [List.map_map]; rfl
  rw [e5, encNs_int]
  exact DpAll.ofInts _
theorem g_listV {σ : L2.St} {S : Hp} {te : TE} {b : BL} (h : G te σ S (MD b)) : G (tCB rListV (tCons (tVals te) tNil)) σ S (D K (.list (encNs (b.map (·.2))))) := fun S1 H1 e c Q q => h S1 H1 e c _ fun v S2 H2 e2 ⟨p, ev, hp⟩ => by
  refine ⟨p, encB b, ev, e2.sh _ _ hp, fun vw hvw => ⟨p, vw, encB b, rfl, upd_same, ?_, fun l hl => ?_⟩⟩
  · rw [upd_ne (ne_of_none (e2.sh _ _ hp) hvw)]
    exact e2.sh _ _ hp
  · have g : Gw S2 H2 S2 (upd H2 vw (VwO p vw)) := Gw.mut e2.sh hvw
    have g2 := Gw.new (o := .lst ((encB b).map (·.2))) g.sh hl
    refine q (.ref l) _ _ ((e2.trans g).trans g2) (.lst (SqL.of upd_same) ?_)
    have e3 : (encB b).map (·.2) = (b.map (·.2)).map fun (x : Nat) => V.int (x : Int) := by
      unfold encB
      rw [List.map_map, List.map_map]
      rfl
    rw [e3]
    exact ints_nat _ _
theorem mem_cast {c : List Nat} {x : Nat} : ((x : Int) ∈ c.map fun (y : Nat) => (y : Int)) ↔ x ∈ c := by
  rw [List.mem_map]
  constructor
  · rintro ⟨y, h1, h2⟩
    obtain rfl : y = x := by omega
    exact h1
  · exact fun h => ⟨x, h, rfl⟩
abbrev n_chained : List Str := ["match", "many", "led", "found", "thing", "chain"]
theorem sc_chained : FnScope n_chained ["match", "many"] (defScope s_chained) := ⟨rfl, rfl, rfl, by decide +kernel, rfl, by decide +kernel, by decide +kernel⟩
abbrev sp_chained (K : PySem.W.Frag) : Sp := Pu (fun (z : {z : BL × Nat // ChIn z.1 z.2}) => A2 (MD z.1.1) (Is (.int (z.1.2 : Nat)))) (fun z => LsR (fun c => L0 K (encNs c)) (chs z.1.2 z.1.1))
theorem ok_chained (T : Fx K mg) : Cal P w K mg base 1 "chained" (sp_chained K) := by
  obtain ⟨fd, Fn⟩ := T.d_chained
  refine ⟨fn_pos Fn sc_chained (fun vs H Q E h => ?_) (fun _ _ _ _ _ _ us hl => match us, hl with | [_, _], _ => rfl) (fun cdv A outer s H vs Q E hr h => ?_), T.g_chained, Fn.kp⟩
  · obtain ⟨_, _, _, ⟨_, _, rfl, _⟩, _⟩ := h
    rfl
  · obtain ⟨⟨⟨m, n⟩, I⟩, S, hS, ⟨va, _, rfl, hv, rfl⟩, k⟩ := h
    have I : ChIn m n := I
    obtain ⟨rk, rk1, rk2⟩ := I.rank
    have n48 := I.n48
    have hu := hu_of hr
    refine ⟨_, pss_cons (ps_set (i := 2) sc_chained.nd rfl (by first | exact Or.inl rfl | exact Or.inr rfl) (pe_callTy (cr_listV rfl) rfl T.b_list bt_list (pa_cons (pe_vals (pv 0)) pa_nil))) (pss_cons (ps_set
        (i := 3) sc_chained.nd rfl (by first | exact Or.inl rfl | exact Or.inr rfl) (pe_lst pa_nil)) (pss_cons (ps_for PassesOwn.never rfl (pi_range1 rfl T.b_range (pa_cons (pv 1) pa_nil)) (pg_name (i
        := 4) sc_chained.nd rfl (by first | exact Or.inl rfl | exact Or.inr rfl)) (pss_one (ps_if (pt_cmpR (r := rIn K true) op_notIn_seq (pv 4) (pv 2) rfl) (pss_cons (ps_set (i := 5) sc_chained.nd
        rfl (by first | exact Or.inl rfl | exact Or.inr rfl) (pe_lst (pa_cons (pv 4) pa_nil))) (pss_cons (ps_while PassesOwn.never (pt_cmp (pc_din hu (pe_ix (r := rIxL K) ix_list (pv 5) (pe_un un_neg
        pe_int) (fun _ _ => rfl)) (pv 0))) (pss_one (ps_expr (pe_bm PySem.F.plainAttrs_list PySem.F.slot_list_append PySem.F.type_list_append mt_append (pv 5) (pa_cons (pe_dget hu (pv 0) (pe_ix (r :=
        rIxL K) ix_list (pv 5) (pe_un un_neg pe_int) (fun _ _ => rfl)) (fun _ _ => rfl)) pa_nil))))) (pss_one (ps_expr (pe_bm PySem.F.plainAttrs_list PySem.F.slot_list_append PySem.F.type_list_append
        mt_append (pv 3) (pa_cons (pv 5) pa_nil)))))) pss_nil))) (pss_one (ps_ret (pv 3))))), ?_⟩
    refine q_set (g_listV (K := K) (g_var rfl hv up_md)) (.refl hS) fun vl S1 H1 e1 s1 dl => ?_
    refine q_newL e1 fun pf H2 hpf g2 hSf hf2 => ?_
    have hHf : H pf = none := e1.hh.free hpf
    refine q_for (gi_range1 (n := n) (g_is rfl) (by omega)) g2.sh fun S3 H3 e3 => ⟨fun i σ' S' H' => (Gw S H S' H' ∧ Same S3 S') ∧ (∃ x4 x5, σ' = [some va, some (.int (n : Nat)), some vl, some (.ref pf), x4, x5]) ∧ S' pf = none ∧ ∃ ws, H' pf = some (.lst ws) ∧ ws.length ≤ i ∧
      Paired (fun x c => L0 K (encNs c) x S') ws ((((List.range n).take i).filter fun t => !decide (t ∈ m.map (·.2))).map (upC m 48)),
      ⟨⟨g2.trans e3, Same.refl _⟩, ⟨_, _, rfl⟩, e3.none hSf hf2, [], e3.hh _ _ hf2, Nat.le_refl _, .nil⟩, fun i σ' S' H' h => ⟨h.1.2, h.1.1.sh⟩, ?_, ?_⟩
    · rintro i j x σ' S4 H4 S5 H5 hx ⟨⟨g4, s4⟩, ⟨y4, y5, rfl⟩, hf4, ws, hws, hwl, pr⟩ e5 rfl
      have g5 := g4.trans e5
      have s5 : Same S1 S5 := e3.ss.trans (s4.trans e5.ss)
      have hf5 := e5.none hf4 hws
      have hws5 := e5.hh _ _ hws
      have pr5 : Paired (fun x c => L0 K (encNs c) x S5) ws _ := Paired.mapP pr fun x c z => up_l0 _ _ _ e5.ss z
      have etk := take_succ' hx
      have hil : i < n := by have := (List.getElem?_eq_some_iff.mp hx).1; rwa [List.length_range] at this
      clear pr hws hf4
      show tIfS _ _ _ _ _ _
      refine s_if (c := !decide (j ∈ m.map (·.2))) (gt_eq (gt_test (g_notInI (c := (j : Int)) (cs := (m.map (·.2)).map fun (x : Nat) => (x : Int)) (g_is rfl) (g_seqL (by rw [← encNs_int]; exact g_dv rfl (Dp.up s5 dl))))) (by simp only [mem_cast])) g5.sh (fun hc S6 H6 e6 => ?_) fun hc S6 H6 e6 => ?_
      · have hf6 := e6.none hf5 hws5
        have hws6 := e6.hh _ _ hws5
        refine ⟨.int (j : Nat), rfl, (by decide : 1 ≤ sizeLine), fun pc hpc => ?_⟩
        have g6 : Gw S H S6 (upd H6 pc (.lst [.int (j : Nat)])) := (g5.trans e6).trans (Gw.mut e6.sh hpc)
        have hSc : S6 pc = none := e6.sh.free hpc
        have hHc : H pc = none := (g5.trans e6).hh.free hpc
        have nfc : pf ≠ pc := ne_of_none hws6 hpc
        have s6 : Same S1 S6 := s5.trans e6.ss
        have pr6 : Paired (fun x c => L0 K (encNs c) x S6) ws _ := Paired.mapP pr5 fun x c z => up_l0 _ _ _ e6.ss z
        refine ⟨fun mm σ' H' => ∃ S' c z kk, (Gw S H S' H' ∧ Same S6 S') ∧ σ' = [some va, some (.int (n : Nat)), some vl, some (.ref pf), some (.int (j : Nat)), some (.ref pc)] ∧ S' pf = none ∧ S' pc = none ∧ H' pf = some (.lst ws) ∧ H' pc = some (.lst ((c ++ [z]).map fun (x : Nat) => V.int (x : Int))) ∧ rk z ≤ kk ∧ mm = rk z ∧ c.length + kk ≤ 48 ∧ c ++ upC m kk z = upC m 48 j,
          ⟨rk j, S6, [], j, 48, ⟨g6, Same.refl _⟩, rfl, hf6, hSc, by rw [upd_ne nfc]; exact hws6, upd_same, rk1 j, rfl, by simp, rfl⟩, ?_⟩
        rintro mm σ2 H7 ⟨S7, c, z, kk, ⟨g7, s7⟩, rfl, hf7, hc7, hws7, hch7, hrk, rfl, hlen, hup⟩
        have hm7 : ∃ p, va = .ref p ∧ H7 p = some (.dK (encB m)) := by
          obtain ⟨p, h1, h2⟩ := hv
          exact ⟨p, h1, g7.sh _ _ (((s1.trans s6).trans s7) _ _ h2)⟩
        obtain ⟨pm, rfl, hpm⟩ := hm7
        have hat : atI ((c ++ [z]).map fun (x : Nat) => V.int (x : Int)) (-1) = some (.int (z : Nat)) := by
          rw [List.map_append]
          exact atI_last _ _
        refine ⟨.ref pc, rfl, 1, rfl, pc, _, -1, .int (z : Nat), rfl, rfl, SqL.of hch7, hat, .ref pm, rfl, pm, _, rfl, .inl ⟨encB m, ky z, .inl hpm, rfl, rfl⟩, _, rfl, ?_⟩
        rw [valV_encB]
        cases hg : getN m z with
        | none =>
          refine iteF ?_
          have eup : upC m kk z = [z] := by
            cases kk with
            | zero => rfl
            | succ kk => unfold upC; rw [hg]
          rw [eup] at hup
          have g8 := g7.frz hHc hc7 hch7
          dsimp only
          refine s_app (l := pf) (R := L0 K (encNs (upC m 48 j))) rfl (g_var rfl ⟨pc, _, rfl, upd_same, by rw [← hup]; exact ints_nat _ _⟩ up_l0) g8.sh hws7 (by omega) fun v S9 H9 e9 r9 => ?_
          have hf8 : upd S7 pc (.lst ((c ++ [z]).map fun (x : Nat) => V.int (x : Int))) pf = none := by rw [upd_ne nfc]; exact hf7
          have hf9 := e9.none hf8 hws7
          refine ⟨S9, ⟨(g8.trans e9).wr hHf hf9, ((((s4.trans e5.ss).trans e6.ss).trans s7).trans (Same.new hc7)).trans e9.ss⟩, ⟨_, _, rfl⟩, hf9, ws ++ [v], upd_same, by rw [List.length_append, List.length_singleton]; omega, ?_⟩
          rw [etk, List.filter_append, List.map_append]
          have e1' : ([j].filter fun t => !decide (t ∈ m.map (·.2))) = [j] := by rw [List.filter_cons, if_pos hc]; rfl
          rw [e1']
          exact paired_app (Paired.mapP pr6 fun x c z => up_l0 _ _ _ ((s7.trans (Same.new hc7)).trans e9.ss) z) r9
        | some y =>
          refine iteT ?_
          have hry := rk2 z y hg
          refine ⟨fun σ' H' => ∃ mm, mm < rk z ∧ ∃ S' c z kk, (Gw S H S' H' ∧ Same S6 S') ∧ σ' = [some (.ref pm), some (.int (n : Nat)), some vl, some (.ref pf), some (.int (j : Nat)), some (.ref pc)] ∧ S' pf = none ∧ S' pc = none ∧ H' pf = some (.lst ws) ∧ H' pc = some (.lst ((c ++ [z]).map fun (x : Nat) => V.int (x : Int))) ∧ rk z ≤ kk ∧ mm = rk z ∧ c.length + kk ≤ 48 ∧ c ++ upC m kk z = upC m 48 j, fun _ _ h => h, ?_⟩
          obtain ⟨kk, rfl⟩ : ∃ k2, kk = k2 + 1 := ⟨kk - 1, by omega⟩
          refine ⟨.ref pc, rfl, .inl ⟨rfl, _, SqL.of hch7⟩, .ref pm, rfl, .ref pc, rfl, 1, rfl, pc, _, -1, .int (z : Nat), rfl, rfl, SqL.of hch7, hat, pm, .int (y : Nat), rfl, .inl ⟨encB m, ky z, .inl hpm, rfl, by rw [valV_encB, hg]; rfl⟩, pc, _, _, rfl, rfl, hch7, ?_, ?_⟩
          · rw [List.length_map, List.length_append, List.length_singleton]
            exact Nat.lt_of_le_of_lt (by omega : _ ≤ 49) (by decide)
          · refine ⟨rk y, hry, S7, c ++ [z], y, kk, ⟨g7.wr hHc hc7, s7⟩, rfl, hf7, hc7, by rw [upd_ne nfc]; exact hws7, ?_, by omega, rfl, by rw [List.length_append, List.length_singleton]; omega, ?_⟩
            · rw [upd_same, List.map_append (l₁ := c ++ [z])]
              rfl
            · rw [← hup, List.append_assoc]
              congr 1
              show z :: upC m kk y = upC m (kk + 1) z
              conv => rhs; unfold upC
              rw [hg]
      · refine ⟨S6, ⟨g5.trans e6, (s4.trans e5.ss).trans e6.ss⟩, ⟨_, _, rfl⟩, e6.none hf5 hws5, ws, e6.hh _ _ hws5, by omega, ?_⟩
        rw [etk, List.filter_append, List.map_append]
        have e1' : ([j].filter fun t => !decide (t ∈ m.map (·.2))) = [] := by rw [List.filter_cons, if_neg (by rw [hc]; decide)]; rfl
        rw [e1', List.map_nil, List.append_nil]
        exact Paired.mapP pr5 fun x c z => up_l0 _ _ _ e6.ss z
    · rintro σ' S4 H4 ⟨⟨g4, s4⟩, ⟨y4, y5, rfl⟩, hf4, ws, hws, hwl, pr⟩
      rw [List.take_length] at pr
      have g5 := g4.frz hHf hf4 hws
      exact s_ret (g_var rfl (show LsR (fun c => L0 K (encNs c)) (chs n m) (.ref pf) (upd S4 pf (.lst ws)) from ⟨pf, ws, rfl, upd_same, Paired.mapP pr fun x c z => up_l0 _ _ _ (Same.new hf4) z⟩) (up_lsR fun _ => up_l0)) g5.sh fun v S5 H5 e5 r => k v S5 H5 (g5.trans e5) r
end
end NK
end

section
set_option Elab.async false
set_option linter.all false
set_option maxRecDepth 100000
set_option maxHeartbeats 400000
namespace NK
open PySem PySem.Spec L2
open PyProof.Rows hiding St
section
variable {P : Program} {w : World} {K : PySem.W.Frag} {mg : Str → Option Value} {base : Heap}
/-- what a lot is made of -/
structure LotIn (ws : List Int) (ps : BL) : Prop where
  n48 : ws.length ≤ 48
  wt : ∀ x ∈ ws, 1 ≤ x ∧ x ≤ 10 ^ 39
  lt : ∀ p ∈ ps, p.1 < ws.length ∧ p.2 < ws.length
  ne : ∀ p ∈ ps, p.1 ≠ p.2
  up : ∀ p ∈ ps, ∀ a b, ws[p.1]? = some a → ws[p.2]? = some b → a ≤ b
  tr : ∀ i j k, (i, j) ∈ ps → (j, k) ∈ ps → (i, k) ∈ ps
  len : ps.length ≤ 300
abbrev n_are_weights : List Str := ["thing", "weight"]
theorem sc_are_weights : FnScope n_are_weights ["thing"] (defScope s_are_weights) := ⟨rfl, rfl, rfl, by decide +kernel, rfl, by decide +kernel, by decide +kernel⟩
abbrev sp_are_weights (K : PySem.W.Frag) : Sp := Pu (fun (z : {ws : List Int // ws.length ≤ 48 ∧ ∀ x ∈ ws, 1 ≤ x ∧ x ≤ 10 ^ 39}) => A1 (D K (.list (z.1.map .int)))) (fun _ => Is (.bl true))
theorem ok_are_weights (T : Fx K mg) : Cal P w K mg base 2 "are_weights" (sp_are_weights K) := by
  obtain ⟨fd, Fn⟩ := T.d_are_weights
  refine ⟨fn_pos Fn sc_are_weights (fun vs H Q E h => ?_) (fun _ _ _ _ _ _ us hl => match us, hl with | [_], _ => rfl) (fun cdv A outer s H vs Q E hr h => ?_), T.g_are_weights, Fn.kp⟩
  · obtain ⟨_, _, _, ⟨_, rfl, _⟩, _⟩ := h
    rfl
  · obtain ⟨⟨ws, hl, hw⟩, S, hS, ⟨va, rfl, hv⟩, k⟩ := h
    refine ⟨_, pss_cons (ps_if (pt_not (pt_val (pe_callB (r := rIsiT K) call_isiT rfl T.b_isinstance bt_isinstance (pa_cons (pv 0) (pa_cons (pe_tup (pa_cons (pe_bltn (v := .ty "list") rfl T.b_list bt_list rfl)
        (pa_cons (pe_bltn (v := .ty "tuple") rfl T.b_tuple bt_tuple rfl) pa_nil))) pa_nil))))) (pss_one (ps_ret pe_bl)) pss_nil) (pss_one (ps_ret (pe_callB (r := rAll K) (cr_all rfl) rfl T.b_all
        bt_all (pa_cons (pe_lc (own := [("weight", 1)]) rfl sc_are_weights.nd (pi_listK (K := K) (pv 0)) (blkOk_by (N := n_are_weights) (sc := defScope s_are_weights) (by decide +kernel)) (fun _ _ _ _
        _ => (pg_name (i := 1) sc_are_weights.nd rfl (by first | exact Or.inl rfl | exact Or.inr rfl))) (fun _ _ _ _ _ => pts_nil) (fun _ _ _ _ _ => (pe_and (pe_f ((ok_is_integer T).mono (by decide :
        1 ≤ 1)) (hr.mono (by decide)) (pa_cons (pv 1) pa_nil)) (pe_one (pe_chain op_le op_le pe_int (pv 1) (pe_op op_pow pe_int pe_int)))))) pa_nil)))), ?_⟩
    refine q_no (gt_eq (gt_not (gt_B (g_isi2 (g_dv rfl hv) tyx_lst .d kit_lst2))) rfl) (.refl hS) fun S1 H1 e1 s1 => ?_
    refine s_retK (g_eq (g_all1 (fun _ => true) (gi_listE (xs := ws) (enc := .int) (g_dv rfl (Dp.up s1 hv))) (by omega) fun x y S2 s2 hx rx => ?_) (by simp)) e1 k
    have h := hw x hx
    refine g_eq (g_and (g_call (a := x) (ga_one (g_isInt (g_var rfl rx .d)))) fun _ => g_chain g_c (g_isInt (g_var rfl rx .d)) (g_I g_c g_c ⟨by decide, by decide, by decide⟩)) ?_
    have e : (10 : Int) ^ (39 : Int).toNat = 10 ^ 39 := rfl
    simp only [e]
    rw [decide_eq_true h.1, decide_eq_true h.2]
    rfl
abbrev n_are_pairs : List Str := ["thing", "many", "pair", "one"]
theorem sc_are_pairs : FnScope n_are_pairs ["thing", "many"] (defScope s_are_pairs) := ⟨rfl, rfl, rfl, by decide +kernel, rfl, by decide +kernel, by decide +kernel⟩
abbrev sp_are_pairs (K : PySem.W.Frag) : Sp := Pu (fun (z : {z : BL × Nat // ∀ p ∈ z.1, p.1 < z.2 ∧ p.2 < z.2}) => A2 (D K (.list (z.1.1.map encN))) (Is (.int (z.1.2 : Nat)))) (fun _ => Is (.bl true))
theorem ok_are_pairs (T : Fx K mg) : Cal P w K mg base 3 "are_pairs" (sp_are_pairs K) := by
  obtain ⟨fd, Fn⟩ := T.d_are_pairs
  refine ⟨fn_pos Fn sc_are_pairs (fun vs H Q E h => ?_) (fun _ _ _ _ _ _ us hl => match us, hl with | [_, _], _ => rfl) (fun cdv A outer s H vs Q E hr h => ?_), T.g_are_pairs, Fn.kp⟩
  · obtain ⟨_, _, _, ⟨_, _, rfl, _⟩, _⟩ := h
    rfl
  · obtain ⟨⟨⟨ps, n⟩, hp⟩, S, hS, ⟨va, _, rfl, hv, rfl⟩, k⟩ := h
    refine ⟨_, pss_cons (ps_if (pt_not (pt_val (pe_callB (r := rIsiT K) call_isiT rfl T.b_isinstance bt_isinstance (pa_cons (pv 0) (pa_cons (pe_tup (pa_cons (pe_bltn (v := .ty "list") rfl T.b_list bt_list rfl)
        (pa_cons (pe_bltn (v := .ty "tuple") rfl T.b_tuple bt_tuple rfl) pa_nil))) pa_nil))))) (pss_one (ps_ret pe_bl)) pss_nil) (pss_cons (ps_for PassesOwn.never rfl (pi_listK (K := K) (pv 0))
        (pg_name (i := 2) sc_are_pairs.nd rfl (by first | exact Or.inl rfl | exact Or.inr rfl)) (pss_one (ps_if (PW.pt (pw_or (pt_not (pt_val (pe_callB (r := rIsi K) call_isi rfl T.b_isinstance
        bt_isinstance (pa_cons (pv 2) (pa_cons (pe_bltn (v := .ty "tuple") rfl T.b_tuple bt_tuple rfl) pa_nil))))) (pw_or (pt_cmpR op_ne (pe_callB (r := rLn K) call_len rfl T.b_len bt_len (pa_cons (pv
        2) pa_nil)) pe_int (nomark _)) (pw_or1 (pt_not (pt_val (pe_callB (r := rAll K) (cr_all rfl) rfl T.b_all bt_all (pa_cons (pe_lc (own := [("one", 3)]) rfl sc_are_pairs.nd (pi_tupK (K := K) (pv
        2)) (blkOk_by (N := n_are_pairs) (sc := defScope s_are_pairs) (by decide +kernel)) (fun _ _ _ _ _ => (pg_name (i := 3) sc_are_pairs.nd rfl (by first | exact Or.inl rfl | exact Or.inr rfl)))
        (fun _ _ _ _ _ => pts_nil) (fun _ _ _ _ _ => (pe_f ((ok_is_number_below T).mono (by decide : 2 ≤ 2)) (hr.mono (by decide)) (pa_cons (pv 3) (pa_cons (pv 1) pa_nil))))) pa_nil)))))))) (pss_one
        (ps_ret pe_bl)) pss_nil))) (pss_one (ps_ret pe_bl))), ?_⟩
    refine q_no (gt_eq (gt_not (gt_B (g_isi2 (g_dv rfl hv) tyx_lst .d kit_lst2))) rfl) (.refl hS) fun S1 H1 e1 s1 => ?_
    refine q_for (gi_listE (xs := ps) (enc := encN) (g_dv rfl (Dp.up s1 hv))) e1.sh fun S2 H2 e2 => ⟨fun i σ' S' H' => (Gw S H S' H' ∧ Same S2 S') ∧ ∃ x2 x3, σ' = [some va, some (.int (n : Nat)), x2, x3], ⟨⟨e1.trans e2, Same.refl _⟩, _, _, rfl⟩, fun i σ' S' H' h => ⟨h.1.2, h.1.1.sh⟩, ?_, ?_⟩
    · rintro i p x σ' S3 H3 S4 H4 hx ⟨⟨g3, s3⟩, y2, y3, rfl⟩ e4 rx
      have hpl := hp p (List.mem_of_getElem? hx)
      refine s_no (gt_eq (gt_or (b := false) (gt_not (gt_B (g_isi (g_var rfl rx .d) tyx_tup .d kit_ttt))) fun _ => gt_eq (gt_or (b := false) (gt_test (g_neS (g_lenT (g_var rfl rx .d)) (g_c (v := .int 2)) rfl)) fun _ => gt_eq (gt_not (gt_B (g_all1 (fun _ => true) (gi_tup (g_var rfl rx .d)) (by simp) fun d y S5 s5 hd ry => ?_))) ?_) ?_) ?_) (g3.trans e4) fun S5 H5 e5 s5 => ⟨S5, ⟨e5, (s3.trans e4.ss).trans s5⟩, _, _, rfl⟩
      · obtain ⟨j, hj, rfl⟩ : ∃ j : Nat, j < n ∧ d = .int (j : Nat) := by
          rcases List.mem_cons.mp hd with rfl | hd
          · exact ⟨p.1, hpl.1, rfl⟩
          · exact ⟨p.2, hpl.2, List.mem_singleton.mp hd⟩
        refine g_eq (g_call (R := fun (n : Int × Int) => Is (.bl (decide (0 ≤ n.1) && decide (n.1 < n.2)))) (a := ((j : Int), (n : Int))) (ga_two (g_isInt (g_var rfl ry .d)) .is (g_is rfl))) ?_
        have h2 : ((j : Int) < (n : Int)) := by omega
        simp [h2]
      · simp
      · simp
      · simp
    · rintro σ' S3 H3 ⟨⟨g3, s3⟩, y2, y3, rfl⟩
      exact s_ret (g_c (v := .bl true)) g3.sh fun v S5 H5 e5 r => k v S5 H5 (g3.trans e5) r
end
end NK
end

section
set_option Elab.async false
set_option linter.all false
set_option maxRecDepth 100000
set_option maxHeartbeats 400000
namespace NK
open PySem PySem.Spec L2
open PyProof.Rows hiding St
section
variable {P : Program} {w : World} {K : PySem.W.Frag} {mg : Str → Option Value} {base : Heap}
/-- a lot that is made -/
def LotV (K : PySem.W.Frag) (ws : List Int) (m : BL) : Rel := fun v S => ∃ a dx tw tp ta tm, v = .ref a ∧ S a = some (.ins (He.ga K "Lot") dx [("kept_weights", tw), ("kept_pairs", tp), ("kept_above", ta), ("kept_match", tm)]) ∧ Dp K S tw (.tuple (ws.map .int)) ∧ MD m tm S
theorem up_lot {ws : List Int} {m : BL} : Up (LotV K ws m) := fun v H H' e ⟨a, dx, tw, tp, ta, tm, h1, h2, h3, h4⟩ => ⟨a, dx, tw, tp, ta, tm, h1, e _ _ h2, Dp.up e h3, up_md _ _ _ e h4⟩
theorem lot_at {ws : List Int} {m : BL} {f : Str} (hf : (f == ("kept_weights" : Str)) = false := by decide) (h2 : (f == ("kept_pairs" : Str)) = false := by decide) (h3 : (f == ("kept_above" : Str)) = false := by decide) (h4 : (f == ("kept_match" : Str)) = false := by decide) :
    ∀ v S, LotV K ws m v S → ∃ p dx fs, v = .ref p ∧ S p = some (.ins (He.ga K "Lot") dx fs) ∧ fs.lookup f = none := fun v S ⟨a, dx, tw, tp, ta, tm, e1, e2, _, _⟩ => ⟨a, dx, _, e1, e2, by simp only [List.lookup, hf, h2, h3, h4]⟩
theorem g_kw (T : Fx K mg) {σ : L2.St} {S : Hp} {te : TE} {ws : List Int} {m : BL} (h : G te σ S (LotV K ws m)) : G (tFld K te "kept_weights") σ S (D K (.tuple (ws.map .int))) :=
  g_fld h T.c_Lot T.n_kept_weights fun v S ⟨a, dx, tw, tp, ta, tm, e1, e2, e3, _⟩ => ⟨a, dx, _, tw, e1, e2, rfl, e3⟩
theorem g_km (T : Fx K mg) {σ : L2.St} {S : Hp} {te : TE} {ws : List Int} {m : BL} (h : G te σ S (LotV K ws m)) : G (tFld K te "kept_match") σ S (MD m) :=
  g_fld h T.c_Lot T.n_kept_match fun v S ⟨a, dx, tw, tp, ta, tm, e1, e2, _, e4⟩ => ⟨a, dx, _, tm, e1, e2, rfl, e4⟩
structure LvIn (ws : List Int) : Prop where
  n48 : ws.length ≤ 48
/-- the tops of the things of at least this weight -/
def topsL (ws : List Int) (m : BL) (l : Int) : List Nat := (((plc ws).filter fun p => decide (l ≤ p.2)).map (·.1)).filter fun t => !(getN m t).isSome
theorem topsL_len {ws : List Int} {m : BL} {l : Int} : (topsL ws m l).length ≤ ws.length := by
  unfold topsL
  refine Nat.le_trans (List.length_filter_le _ _) ?_
  rw [List.length_map]
  refine Nat.le_trans (List.length_filter_le _ _) ?_
  rw [plc_len]
  exact Nat.le_refl _
abbrev n_Lot___len__ : List Str := ["self"]
theorem sc_Lot___len__ : FnScope n_Lot___len__ ["self"] (defScope s_Lot___len__) := ⟨rfl, rfl, rfl, by decide +kernel, rfl, by decide +kernel, by decide +kernel⟩
abbrev sp_Lot___len__ (K : PySem.W.Frag) : Sp := Pu (fun (z : List Int × BL) => A1 (LotV K z.1 z.2)) (fun z => Is (.int z.1.length))
theorem ok_Lot___len__ (T : Fx K mg) : CalM P w K mg base 1 "Lot" "__len__" (sp_Lot___len__ K) := by
  obtain ⟨fd, Fn⟩ := T.d_Lot___len__
  refine ⟨fn_pos Fn sc_Lot___len__ (fun vs H Q E h => ?_) (fun _ _ _ _ _ _ us hl => match us, hl with | [_], _ => rfl) (fun cdv A outer s H vs Q E hr h => ?_), T.m_Lot___len__, T.c_Lot, fnIn_of Fn⟩
  · obtain ⟨_, _, _, ⟨_, rfl, _⟩, _⟩ := h
    rfl
  · obtain ⟨⟨ws, m⟩, S, hS, ⟨va, rfl, hv⟩, k⟩ := h
    refine ⟨_, pss_one (ps_ret (pe_callB (r := rLn K) call_len rfl T.b_len bt_len (pa_cons (pe_fldK (K := K) (pv 0)) pa_nil))), ?_⟩
    exact s_ret (g_eq (g_lenT (g_kw T (g_var rfl hv up_lot))) (by simp)) hS k
abbrev n_Lot_tops_from : List Str := ["self", "level", "things", "thing", "weight"]
theorem sc_Lot_tops_from : FnScope n_Lot_tops_from ["self", "level"] (defScope s_Lot_tops_from) := ⟨rfl, rfl, rfl, by decide +kernel, rfl, by decide +kernel, by decide +kernel⟩
abbrev sp_Lot_tops_from (K : PySem.W.Frag) : Sp := Pu (fun (z : {z : (List Int × BL) × Int // z.1.1.length ≤ 48}) => A2 (LotV K z.1.1.1 z.1.1.2) (Is (.int z.1.2))) (fun z => Is (.int (topsL z.1.1.1 z.1.1.2 z.1.2).length))
theorem ok_Lot_tops_from (T : Fx K mg) : CalM P w K mg base 1 "Lot" "tops_from" (sp_Lot_tops_from K) := by
  obtain ⟨fd, Fn⟩ := T.d_Lot_tops_from
  refine ⟨fn_pos Fn sc_Lot_tops_from (fun vs H Q E h => ?_) (fun _ _ _ _ _ _ us hl => match us, hl with | [_, _], _ => rfl) (fun cdv A outer s H vs Q E hr h => ?_), T.m_Lot_tops_from, T.c_Lot, fnIn_of Fn⟩
  · obtain ⟨_, _, _, ⟨_, _, rfl, _⟩, _⟩ := h
    rfl
  · obtain ⟨⟨⟨⟨ws, m⟩, l⟩, n48⟩, S, hS, ⟨va, _, rfl, hv, rfl⟩, k⟩ := h
    have n48 : ws.length ≤ 48 := n48
    have hu := hu_of hr
    refine ⟨_, pss_cons (ps_setLc (i := 2) (own := [("thing", 3), ("weight", 4)]) rfl sc_Lot_tops_from.nd rfl rfl rfl (pi_enumT rfl T.b_enumerate (pe_fldK (K := K) (pv 0))) (blkOk_by (N := n_Lot_tops_from) (sc
        := defScope s_Lot_tops_from) (by decide +kernel)) (fun _ _ _ _ _ => (pg_tupK (K := K) (n := 2) rfl (pgs_cons (pg_name (i := 3) sc_Lot_tops_from.nd rfl
        (by first | exact Or.inl rfl | exact Or.inr rfl)) (pgs_cons (pg_name (i := 4) sc_Lot_tops_from.nd rfl (by first | exact Or.inl rfl | exact Or.inr rfl)) pgs_nil)))) (fun _ _ _ _ _ => (pts_one
        (pt_cmpR op_ge (pv 4) (pv 1) (nomark _)))) (fun _ _ _ _ _ => (pv 3))) (pss_one (ps_ret (pe_callB (r := rLn K) call_len rfl T.b_len bt_len (pa_cons (pe_lc (own := [("thing", 3)]) rfl
        sc_Lot_tops_from.nd (pi_listK (K := K) (pv 2)) (blkOk_by (N := n_Lot_tops_from) (sc := defScope s_Lot_tops_from) (by decide +kernel)) (fun _ _ _ _ _ => (pg_name (i := 3) sc_Lot_tops_from.nd
        rfl (by first | exact Or.inl rfl | exact Or.inr rfl))) (fun _ _ _ _ _ => (pts_one (pt_cmp (pc_dnotin hu (pv 3) (pe_fldK (K := K) (pv 0)))))) (fun _ _ _ _ _ => (pv 3))) pa_nil)))), ?_⟩
    refine q_set (g_sel2 (K := K) (d1 := fun (p : Nat × Int) => .int (p.1 : Nat)) (d2 := fun p => .int p.2) (fun p => decide (l ≤ p.2)) (·.1) (fun (x : Nat) => .int (x : Int)) (gi_enT (xs := ws) (enc := .int) (g_kw T (g_var rfl hv up_lot))) (by rw [plc_len]; omega) fun p x y S1 s1 hp hx hy => ⟨gt_test (g_I0 (g_isInt (g_dv rfl hy)) (g_is rfl)), fun _ => g_dv rfl hx⟩) (.refl hS) fun v S1 H1 e1 s1 dv => ?_
    obtain ⟨xs, exs⟩ : ∃ xs, xs = (((plc ws).filter fun p => decide (l ≤ p.2)).map (·.1)) := ⟨_, rfl⟩
    have xl : xs.length ≤ 48 := by
      rw [exs, List.length_map]
      refine Nat.le_trans (List.length_filter_le _ _) ?_
      rw [plc_len]
      exact n48
    have et : topsL ws m l = xs.filter fun t => !(getN m t).isSome := by rw [exs]; rfl
    rw [← exs] at dv
    refine s_retK (R := Is (.int (topsL ws m l).length)) ?_ e1 k
    rw [et]
    refine g_eq (g_lenL (g_sel1 (K := K) (fun t => !(getN m t).isSome) id (fun (x : Nat) => .int (x : Int)) (gi_listE (xs := xs) (enc := fun (x : Nat) => .int (x : Int)) (g_dv rfl dv)) (by omega) fun x y S2 s2 hx rx => ⟨gt_B (g_dnotin (g_isInt (g_var rfl rx .d)) (g_km T (g_var rfl (up_lot _ _ _ (s1.trans s2) hv) up_lot))), fun _ => g_var rfl rx .d⟩)) (by simp)
abbrev n_Lot_width : List Str := ["self"]
theorem sc_Lot_width : FnScope n_Lot_width ["self"] (defScope s_Lot_width) := ⟨rfl, rfl, rfl, by decide +kernel, rfl, by decide +kernel, by decide +kernel⟩
abbrev sp_Lot_width (K : PySem.W.Frag) : Sp := Pu (fun (z : {z : List Int × BL // z.1.length ≤ 48}) => A1 (LotV K z.1.1 z.1.2)) (fun z => Is (.int (topsL z.1.1 z.1.2 0).length))
theorem ok_Lot_width (T : Fx K mg) : CalM P w K mg base 2 "Lot" "width" (sp_Lot_width K) := by
  obtain ⟨fd, Fn⟩ := T.d_Lot_width
  refine ⟨fn_pos Fn sc_Lot_width (fun vs H Q E h => ?_) (fun _ _ _ _ _ _ us hl => match us, hl with | [_], _ => rfl) (fun cdv A outer s H vs Q E hr h => ?_), T.m_Lot_width, T.c_Lot, fnIn_of Fn⟩
  · obtain ⟨_, _, _, ⟨_, rfl, _⟩, _⟩ := h
    rfl
  · obtain ⟨⟨⟨ws, m⟩, n48⟩, S, hS, ⟨va, rfl, hv⟩, k⟩ := h
    refine ⟨_, pss_one (ps_ret (pe_mK (K := K) ((ok_Lot_tops_from T).mono (by decide : 1 ≤ 1)) (hr.mono (by decide)) (pv 0) (pa_cons pe_int pa_nil))), ?_⟩
    exact s_ret (R := Is (.int (topsL ws m 0).length)) (g_m1 (α := {z : (List Int × BL) × Int // z.1.1.length ≤ 48}) (A := fun z => LotV K z.1.1.1 z.1.1.2) (B := fun z => Is (.int z.1.2)) (R := fun z => Is (.int (topsL z.1.1.1 z.1.1.2 z.1.2).length)) (a := ⟨((ws, m), 0), n48⟩) (g_var rfl hv up_lot) lot_at up_lot g_c) hS k
/-- each level, and the step to it -/
def stpG : Int → List Int → List (Int × Int)
  | _, [] => []
  | b, l :: ls => (l, l - b) :: stpG l ls
def stp (ws : List Int) : List (Int × Int) := stpG 0 (lvls ws)
theorem stpG_len : ∀ (b : Int) (ls : List Int), (stpG b ls).length = ls.length
  | _, [] => rfl
  | b, l :: ls => congrArg Nat.succ (stpG_len l ls)
theorem stpG_snoc : ∀ (b : Int) (ls : List Int) (l : Int), stpG b (ls ++ [l]) = stpG b ls ++ [(l, l - ls.getLastD b)]
  | b, [], l => rfl
  | b, x :: ls, l => by
    show (x, x - b) :: stpG x (ls ++ [l]) = _
    rw [stpG_snoc x ls l]
    have e : (x :: ls).getLastD b = ls.getLastD x := by cases ls <;> rfl
    rw [e]
    rfl
theorem lvls_len {ws : List Int} : (lvls ws).length ≤ ws.length := sub_len ((lvls_perm ws).nodup_iff.mpr (nubI_ok ws).1) fun _ h => lvls_mem.mp h
abbrev n_Lot_steps : List Str := ["self", "found", "before", "level"]
theorem sc_Lot_steps : FnScope n_Lot_steps ["self"] (defScope s_Lot_steps) := ⟨rfl, rfl, rfl, by decide +kernel, rfl, by decide +kernel, by decide +kernel⟩
abbrev sp_Lot_steps (K : PySem.W.Frag) : Sp := Pu (fun (z : {z : List Int × BL // z.1.length ≤ 48}) => A1 (LotV K z.1.1 z.1.2)) (fun z => L0 K ((stp z.1.1).map encP))
theorem ok_Lot_steps (T : Fx K mg) : CalM P w K mg base 7 "Lot" "steps" (sp_Lot_steps K) := by
  obtain ⟨fd, Fn⟩ := T.d_Lot_steps
  refine ⟨fn_pos Fn sc_Lot_steps (fun vs H Q E h => ?_) (fun _ _ _ _ _ _ us hl => match us, hl with | [_], _ => rfl) (fun cdv A outer s H vs Q E hr h => ?_), T.m_Lot_steps, T.c_Lot, fnIn_of Fn⟩
  · obtain ⟨_, _, _, ⟨_, rfl, _⟩, _⟩ := h
    rfl
  · obtain ⟨⟨⟨ws, m⟩, n48⟩, S, hS, ⟨va, rfl, hv⟩, k⟩ := h
    have n48 : ws.length ≤ 48 := n48
    have ll : (lvls ws).length ≤ 48 := Nat.le_trans lvls_len n48
    refine ⟨_, pss_cons (ps_par (i := 1) (j := 2) rfl sc_Lot_steps.nd rfl rfl (by decide) rfl rfl (pa_cons (pe_lst pa_nil) (pa_cons pe_int pa_nil)) rfl) (pss_cons (ps_for PassesOwn.never rfl (pi_listK (K := K)
        (pe_callB (r := rSortS K w) (cr_sortS rfl (hr.mono (by decide))) rfl T.b_sorted bt_sorted (pa_cons (pe_callTy (r := rSetD K w) (cr_setD rfl (hr.mono (by decide))) rfl T.b_set bt_set (pa_cons
        (pe_fldK (K := K) (pv 0)) pa_nil)) pa_nil))) (pg_name (i := 3) sc_Lot_steps.nd rfl (by first | exact Or.inl rfl | exact Or.inr rfl)) (pss_cons (ps_expr (pe_bm PySem.F.plainAttrs_list
        PySem.F.slot_list_append PySem.F.type_list_append mt_append (pv 1) (pa_cons (pe_tup (pa_cons (pv 3) (pa_cons (pe_op op_sub (pv 3) (pv 2)) pa_nil))) pa_nil))) (pss_one (ps_set (i := 2)
        sc_Lot_steps.nd rfl (by first | exact Or.inl rfl | exact Or.inr rfl) (pv 3))))) (pss_one (ps_ret (pv 1)))), ?_⟩
    refine q_parL (g_c (v := .int 0)) (.refl hS) fun p y S1 H1 hp g1 s1 hSp hp1 ey => ?_
    subst ey
    refine q_for (gi_listE (xs := lvls ws) (enc := .int) (g_l0D (g_sortSI (w := w) (g_kw T (g_var rfl (up_lot _ _ _ s1 hv) up_lot)) (fun v S r => .inr r) (by omega)))) g1.sh fun S2 H2 e2 => ⟨fun i σ' S' H' => (Gw S H S' H' ∧ Same S2 S') ∧ (∃ x3, σ' = [some va, some (.ref p), some (.int (((lvls ws).take i).getLastD 0)), x3]) ∧ S' p = none ∧ ∃ vs, H' p = some (.lst vs) ∧ DpAll K S' vs ((stpG 0 ((lvls ws).take i)).map encP),
      ⟨⟨g1.trans e2, Same.refl _⟩, ⟨_, rfl⟩, e2.none hSp hp1, [], e2.hh _ _ hp1, .nil⟩, fun i σ' S' H' h => ⟨h.1.2, h.1.1.sh⟩, ?_, ?_⟩
    · rintro i l x σ' S3 H3 S4 H4 hx ⟨⟨g3, s3⟩, ⟨y3, rfl⟩, hp3, vs, hvs, hd⟩ e4 rx
      obtain rfl := Dp.intI rx
      have hil := (List.getElem?_eq_some_iff.mp hx).1
      refine q_app (l := p) (R := D K (encP (l, l - ((lvls ws).take i).getLastD 0))) rfl (g_tup (ga_dc (g_dInt (g_is rfl)) (ga_dc (g_dInt (g_I0 (g_is rfl) (g_is rfl))) ga_d0)) (by simp)) e4.sh (e4.hh _ _ hvs) (by have := DpAll.len hd; rw [List.length_map, stpG_len, List.length_take] at this; omega) fun v S5 H5 e5 rv => ?_
      have hp5 : S5 p = none := e5.none (e4.none hp3 hvs) (e4.hh _ _ hvs)
      have g6 : Gw S H S5 (upd H5 p (.lst (vs ++ [v]))) := ((g3.trans e4).trans e5).wr hp hp5
      refine s_set (E := _) (g_is rfl) g6.sh fun v2 S7 H7 e7 r7 => ?_
      subst r7
      have hp7 : S7 p = none := e7.none hp5 upd_same
      refine ⟨S7, ⟨g6.trans e7, ((s3.trans e4.ss).trans e5.ss).trans e7.ss⟩, ⟨_, by rw [take_succ' hx, List.getLastD_concat]; rfl⟩, hp7, vs ++ [v], e7.hh _ _ upd_same, ?_⟩
      rw [take_succ' hx, stpG_snoc, List.map_append]
      exact DpAll.app (DpAll.up ((e4.ss.trans e5.ss).trans e7.ss) hd) (.cons (Dp.up e7.ss rv) .nil)
    · rintro σ' S3 H3 ⟨⟨g3, s3⟩, ⟨y3, rfl⟩, hp3, vs, hvs, hd⟩
      rw [List.take_length] at hd
      have g5 := g3.frz hp hp3 hvs
      exact s_ret (g_var rfl (show L0 K ((stp ws).map encP) (.ref p) (upd S3 p (.lst vs)) from ⟨p, vs, rfl, upd_same, DpAll.up (Same.new hp3) hd⟩) up_l0) g5.sh fun v S5 H5 e5 r => k v S5 H5 (g5.trans e5) r
def lsum (ws : List Int) (m : BL) : Int := ((stp ws).map fun p => p.2 * ((topsL ws m p.1).length : Int)).sum
abbrev n_Lot_least_sum : List Str := ["self", "level", "step"]
theorem sc_Lot_least_sum : FnScope n_Lot_least_sum ["self"] (defScope s_Lot_least_sum) := ⟨rfl, rfl, rfl, by decide +kernel, rfl, by decide +kernel, by decide +kernel⟩
abbrev sp_Lot_least_sum (K : PySem.W.Frag) : Sp := Pu (fun (z : {z : List Int × BL // z.1.length ≤ 48}) => A1 (LotV K z.1.1 z.1.2)) (fun z => Is (.int (lsum z.1.1 z.1.2)))
theorem ok_Lot_least_sum (T : Fx K mg) : CalM P w K mg base 8 "Lot" "least_sum" (sp_Lot_least_sum K) := by
  obtain ⟨fd, Fn⟩ := T.d_Lot_least_sum
  refine ⟨fn_pos Fn sc_Lot_least_sum (fun vs H Q E h => ?_) (fun _ _ _ _ _ _ us hl => match us, hl with | [_], _ => rfl) (fun cdv A outer s H vs Q E hr h => ?_), T.m_Lot_least_sum, T.c_Lot, fnIn_of Fn⟩
  · obtain ⟨_, _, _, ⟨_, rfl, _⟩, _⟩ := h
    rfl
  · obtain ⟨⟨⟨ws, m⟩, n48⟩, S, hS, ⟨va, rfl, hv⟩, k⟩ := h
    have n48 : ws.length ≤ 48 := n48
    have ll : (stp ws).length ≤ 48 := by unfold stp; rw [stpG_len]; exact Nat.le_trans lvls_len n48
    refine ⟨_, pss_one (ps_ret (pe_callB (r := rSum K) (cr_sum rfl) rfl T.b_sum bt_sum (pa_cons (pe_lc (own := [("level", 1), ("step", 2)]) rfl sc_Lot_least_sum.nd (pi_listK (K := K) (pe_m0K (K := K)
        ((ok_Lot_steps T).mono (by decide : 7 ≤ 7)) (hr.mono (by decide)) (pv 0))) (blkOk_by (N := n_Lot_least_sum) (sc := defScope s_Lot_least_sum) (by decide +kernel)) (fun _ _ _ _ _ => (pg_tupK (K
        := K) (n := 2) rfl (pgs_cons (pg_name (i := 1) sc_Lot_least_sum.nd rfl (by first | exact Or.inl rfl | exact Or.inr rfl)) (pgs_cons (pg_name (i := 2) sc_Lot_least_sum.nd rfl
        (by first | exact Or.inl rfl | exact Or.inr rfl)) pgs_nil)))) (fun _ _ _ _ _ => pts_nil) (fun _ _ _ _ _ => (pe_op op_mul (pv 2) (pe_mK (K := K) ((ok_Lot_tops_from T).mono (by decide : 1 ≤ 7))
        (hr.mono (by decide)) (pv 0) (pa_cons (pv 1) pa_nil))))) pa_nil))), ?_⟩
    refine s_ret (R := Is (.int (lsum ws m))) ?_ hS k
    unfold lsum
    have q := g_sumC (K := K) (f := fun p : Int × Int => p.2 * ((topsL ws m p.1).length : Int)) (ds := (stp ws).map id) (g_lcB (K := K) (RO := fun p : Int × Int => Is (.int (p.2 * ((topsL ws m p.1).length : Int)))) (i := 1) (j := 2) (vs := [1, 2]) (σ := start n_Lot_least_sum [va]) (S := S) (d1 := fun (p : Int × Int) => .int p.1) (d2 := fun p => .int p.2) id
      (gi_listE (K := K) (xs := stp ws) (enc := encP) (g_l0D (g_m0 (α := {z : List Int × BL // z.1.length ≤ 48}) (A := fun z => LotV K z.1.1 z.1.2) (R := fun z => L0 K ((stp z.1.1).map encP)) (C := "Lot") (m := "steps") (a := ⟨(ws, m), n48⟩) (g_var (i := 0) rfl hv up_lot) lot_at))) (fun _ => .is) (by omega) (fun _ _ => rfl) fun p x y S1 s1 hp hx hy =>
        g_I (C := CMul) (g := fun i j => .int (i * j)) (g_isInt (g_dv (i := 2) rfl hy)) (g_m1 (α := {z : (List Int × BL) × Int // z.1.1.length ≤ 48}) (A := fun z => LotV K z.1.1.1 z.1.1.2) (B := fun z => Is (.int z.1.2)) (R := fun z => Is (.int (topsL z.1.1.1 z.1.1.2 z.1.2).length)) (C := "Lot") (m := "tops_from") (a := ⟨((ws, m), p.1), n48⟩) (g_var (i := 0) rfl (up_lot _ _ _ s1 hv) up_lot) lot_at up_lot (g_isInt (g_dv (i := 1) rfl hx))) ?_)
    · rw [List.map_id] at q
      exact q
    · have := topsL_len (ws := ws) (m := m) (l := p.1)
      exact .inr ⟨by show -(2 ^ 64) < ((topsL ws m p.1).length : Int); omega, by show ((topsL ws m p.1).length : Int) < 2 ^ 64; omega⟩
abbrev n_Lot_chains : List Str := ["self"]
theorem sc_Lot_chains : FnScope n_Lot_chains ["self"] (defScope s_Lot_chains) := ⟨rfl, rfl, rfl, by decide +kernel, rfl, by decide +kernel, by decide +kernel⟩
abbrev sp_Lot_chains (K : PySem.W.Frag) : Sp := Pu (fun (z : {z : List Int × BL // ChIn z.2 z.1.length}) => A1 (LotV K z.1.1 z.1.2)) (fun z => LsR (fun c => L0 K (encNs c)) (chs z.1.1.length z.1.2))
theorem ok_Lot_chains (T : Fx K mg) : CalM P w K mg base 3 "Lot" "chains" (sp_Lot_chains K) := by
  obtain ⟨fd, Fn⟩ := T.d_Lot_chains
  refine ⟨fn_pos Fn sc_Lot_chains (fun vs H Q E h => ?_) (fun _ _ _ _ _ _ us hl => match us, hl with | [_], _ => rfl) (fun cdv A outer s H vs Q E hr h => ?_), T.m_Lot_chains, T.c_Lot, fnIn_of Fn⟩
  · obtain ⟨_, _, _, ⟨_, rfl, _⟩, _⟩ := h
    rfl
  · obtain ⟨⟨⟨ws, m⟩, I⟩, S, hS, ⟨va, rfl, hv⟩, k⟩ := h
    refine ⟨_, pss_one (ps_ret (pe_f ((ok_chained T).mono (by decide : 1 ≤ 2)) (hr.mono (by decide)) (pa_cons (pe_fldK (K := K) (pv 0)) (pa_cons (pe_callB (cr_lenO ((ok_Lot___len__ T).mono (by decide : 1 ≤ 1))
        (hr.mono (by decide))) rfl T.b_len bt_len (pa_cons (pv 0) pa_nil)) pa_nil)))), ?_⟩
    refine s_ret (R := LsR (fun c => L0 K (encNs c)) (chs ws.length m)) (g_call (a := (⟨(m, ws.length), I⟩ : {z : BL × Nat // ChIn z.1 z.2})) (ga_two (g_km T (g_var rfl hv up_lot)) up_md (g_lenO (α := List Int × BL) (A := fun z => LotV K z.1 z.2) (f := fun z => z.1.length) (a := (ws, m)) (g_var rfl hv up_lot) lot_at ?_))) hS k
    have := I.n48
    omega
end
end NK
end

section
set_option Elab.async false
set_option linter.all false
set_option maxRecDepth 100000
set_option maxHeartbeats 400000
namespace NK
open PySem PySem.Spec L2
open PyProof.Rows hiding St
section
variable {P : Program} {w : World} {K : PySem.W.Frag} {mg : Str → Option Value} {base : Heap}
/-- a lot in the making -/
def LotP (K : PySem.W.Frag) (ws : List Int) (ps : BL) (ab : List (List Nat)) : Rel := fun v S => ∃ a dx tw tp ta, v = .ref a ∧ S a = some (.ins (He.ga K "Lot") dx [("kept_weights", tw), ("kept_pairs", tp), ("kept_above", ta)]) ∧ Dp K S tw (.tuple (ws.map .int)) ∧ Dp K S tp (.tuple (ps.map encN)) ∧ Dp K S ta (encAb ab)
theorem up_lotP {ws : List Int} {ps : BL} {ab : List (List Nat)} : Up (LotP K ws ps ab) := fun v H H' e ⟨a, dx, tw, tp, ta, h1, h2, h3, h4, h5⟩ => ⟨a, dx, tw, tp, ta, h1, e _ _ h2, Dp.up e h3, Dp.up e h4, Dp.up e h5⟩
theorem lotP_at {ws : List Int} {ps : BL} {ab : List (List Nat)} {f : Str} (hf : (f == ("kept_weights" : Str)) = false := by decide) (h2 : (f == ("kept_pairs" : Str)) = false := by decide) (h3 : (f == ("kept_above" : Str)) = false := by decide) :
    ∀ v S, LotP K ws ps ab v S → ∃ p dx fs, v = .ref p ∧ S p = some (.ins (He.ga K "Lot") dx fs) ∧ fs.lookup f = none := fun v S ⟨a, dx, tw, tp, ta, e1, e2, _, _⟩ => ⟨a, dx, _, e1, e2, by simp only [List.lookup, hf, h2, h3]⟩
theorem g_pw (T : Fx K mg) {σ : L2.St} {S : Hp} {te : TE} {ws : List Int} {ps : BL} {ab : List (List Nat)} (h : G te σ S (LotP K ws ps ab)) : G (tFld K te "kept_weights") σ S (D K (.tuple (ws.map .int))) :=
  g_fld h T.c_Lot T.n_kept_weights fun v S ⟨a, dx, tw, tp, ta, e1, e2, e3, _⟩ => ⟨a, dx, _, tw, e1, e2, rfl, e3⟩
theorem g_pp (T : Fx K mg) {σ : L2.St} {S : Hp} {te : TE} {ws : List Int} {ps : BL} {ab : List (List Nat)} (h : G te σ S (LotP K ws ps ab)) : G (tFld K te "kept_pairs") σ S (D K (.tuple (ps.map encN))) :=
  g_fld h T.c_Lot T.n_kept_pairs fun v S ⟨a, dx, tw, tp, ta, e1, e2, _, e3, _⟩ => ⟨a, dx, _, tp, e1, e2, rfl, e3⟩
theorem g_pa (T : Fx K mg) {σ : L2.St} {S : Hp} {te : TE} {ws : List Int} {ps : BL} {ab : List (List Nat)} (h : G te σ S (LotP K ws ps ab)) : G (tFld K te "kept_above") σ S (D K (encAb ab)) :=
  g_fld h T.c_Lot T.n_kept_above fun v S ⟨a, dx, tw, tp, ta, e1, e2, _, _, e3⟩ => ⟨a, dx, _, ta, e1, e2, rfl, e3⟩
theorem perm_unmap {α β : Type} {f : α → β} {l k : List β} (h : l.Perm k) : ∀ m : List α, k = m.map f → ∃ m' : List α, l = m'.map f ∧ m'.Perm m := by
  induction h with
  | nil =>
    intro m e
    cases m with
    | nil => exact ⟨[], rfl, .refl _⟩
    | cons a m => cases e
  | cons x h ih =>
    intro m e
    cases m with
    | nil => cases e
    | cons a m =>
      rw [List.map_cons] at e
      obtain ⟨e1, e2⟩ := List.cons.inj e
      obtain ⟨m', h1, h2⟩ := ih m e2
      exact ⟨a :: m', by rw [List.map_cons, h1, e1], h2.cons a⟩
  | swap x y l =>
    intro m e
    match m, e with
    | a :: b :: m, e =>
      rw [List.map_cons, List.map_cons] at e
      obtain ⟨e1, e2⟩ := List.cons.inj e
      obtain ⟨e2, e3⟩ := List.cons.inj e2
      exact ⟨b :: a :: m, by rw [List.map_cons, List.map_cons, e1, e2, e3], .swap _ _ _⟩
  | trans _ _ ih1 ih2 =>
    intro m e
    obtain ⟨m2, h1, h2⟩ := ih2 m e
    obtain ⟨m3, h3, h4⟩ := ih1 m2 h1
    exact ⟨m3, h3, h4.trans h2⟩
/-- the things by their weight, the heaviest first -/
def HvOrd (ws : List Int) (ord : List Nat) : Prop := ∃ rs : List (Nat × Int), rs.Perm (plc ws) ∧ rs.Pairwise (fun p q => q.2 ≤ p.2) ∧ ord = rs.map (·.1)
abbrev encH (p : Nat × Int) : PyData := encP (0 - p.2, (p.1 : Int))
theorem asc_heavy {rs : List (Nat × Int)} (h : Asc (rs.map encH)) : rs.Pairwise fun p q => q.2 ≤ p.2 := by
  unfold Asc at h
  rw [List.pairwise_map] at h
  refine h.imp fun {p q} z => ?_
  have e1 : (!PySem.W.dataLt (encH q) (encH p)) = true := z
  rw [PySem.W.dataLt_ii, Bool.not_eq_true', decide_eq_false_iff_not] at e1
  omega
abbrev n_Lot_heavy_first : List Str := ["self", "rows", "thing", "weight"]
theorem sc_Lot_heavy_first : FnScope n_Lot_heavy_first ["self"] (defScope s_Lot_heavy_first) := ⟨rfl, rfl, rfl, by decide +kernel, rfl, by decide +kernel, by decide +kernel⟩
abbrev sp_Lot_heavy_first (K : PySem.W.Frag) : Sp := Pu (fun (z : {z : (List Int × BL) × List (List Nat) // z.1.1.length ≤ 48}) => A1 (LotP K z.1.1.1 z.1.1.2 z.1.2)) (fun z v S => ∃ ord, HvOrd z.1.1.1 ord ∧ Dp K S v (.list (encNs ord)))
theorem ok_Lot_heavy_first (T : Fx K mg) : CalM P w K mg base 7 "Lot" "heavy_first" (sp_Lot_heavy_first K) := by
  obtain ⟨fd, Fn⟩ := T.d_Lot_heavy_first
  refine ⟨fn_pos Fn sc_Lot_heavy_first (fun vs H Q E h => ?_) (fun _ _ _ _ _ _ us hl => match us, hl with | [_], _ => rfl) (fun cdv A outer s H vs Q E hr h => ?_), T.m_Lot_heavy_first, T.c_Lot, fnIn_of Fn⟩
  · obtain ⟨_, _, _, ⟨_, rfl, _⟩, _⟩ := h
    rfl
  · obtain ⟨⟨⟨⟨ws, ps⟩, ab⟩, n48⟩, S, hS, ⟨va, rfl, hv⟩, k⟩ := h
    have n48 : ws.length ≤ 48 := n48
    refine ⟨_, pss_cons (ps_set (i := 1) sc_Lot_heavy_first.nd rfl (by first | exact Or.inl rfl | exact Or.inr rfl) (pe_callB (r := rSortL K) (cr_sortL (hr.mono (by decide))) rfl T.b_sorted bt_sorted (pa_cons
        (pe_lc (own := [("thing", 2), ("weight", 3)]) rfl sc_Lot_heavy_first.nd (pi_enumT rfl T.b_enumerate (pe_fldK (K := K) (pv 0))) (blkOk_by (N := n_Lot_heavy_first) (sc := defScope
        s_Lot_heavy_first) (by decide +kernel)) (fun _ _ _ _ _ => (pg_tupK (K := K) (n := 2) rfl (pgs_cons (pg_name (i := 2) sc_Lot_heavy_first.nd rfl (by first | exact Or.inl rfl | exact Or.inr rfl))
        (pgs_cons (pg_name (i := 3) sc_Lot_heavy_first.nd rfl (by first | exact Or.inl rfl | exact Or.inr rfl)) pgs_nil)))) (fun _ _ _ _ _ => pts_nil) (fun _ _ _ _ _ => (pe_tup (pa_cons (pe_op op_sub
        pe_int (pv 3)) (pa_cons (pv 2) pa_nil))))) pa_nil))) (pss_one (ps_ret (pe_lc (own := [("weight", 3), ("thing", 2)]) rfl sc_Lot_heavy_first.nd (pi_listK (K := K) (pv 1)) (blkOk_by (N :=
        n_Lot_heavy_first) (sc := defScope s_Lot_heavy_first) (by decide +kernel)) (fun _ _ _ _ _ => (pg_tupK (K := K) (n := 2) rfl (pgs_cons (pg_name (i := 3) sc_Lot_heavy_first.nd rfl
        (by first | exact Or.inl rfl | exact Or.inr rfl)) (pgs_cons (pg_name (i := 2) sc_Lot_heavy_first.nd rfl (by first | exact Or.inl rfl | exact Or.inr rfl)) pgs_nil)))) (fun _ _ _ _ _ => pts_nil)
        (fun _ _ _ _ _ => (pv 2))))), ?_⟩
    refine q_set (g_sortL (ds := (plc ws).map encH) ?_ ?_ ?_ ?_) (.refl hS) fun v S1 H1 e1 s1 ⟨es, hd, hp, ha⟩ => ?_
    · have e : (plc ws).map encH = ((plc ws).map id).map encH := by rw [List.map_id]
      rw [e]
      refine g_map2 (K := K) (d1 := fun (p : Nat × Int) => .int (p.1 : Nat)) (d2 := fun p => .int p.2) id encH (gi_enT (xs := ws) (enc := .int) (g_pw T (g_var rfl hv up_lotP))) (by rw [plc_len]; omega) fun p x y S2 s2 hp hx hy => ?_
      exact g_tup (ga_dc (g_dInt (g_I0 (i := 0) g_c (g_isInt (g_dv rfl hy)))) (ga_dc (g_dv rfl hx) ga_d0)) (by simp)
    · intro d h d' h'
      obtain ⟨x, _, rfl⟩ := List.mem_map.mp h
      obtain ⟨y, _, rfl⟩ := List.mem_map.mp h'
      simp only [PySem.W.alike, PySem.W.alikeAll, Bool.and_self]
    · exact .inl fun d h => by
        obtain ⟨x, _, rfl⟩ := List.mem_map.mp h
        exact ⟨_, _, rfl⟩
    · intro d h
      obtain ⟨x, _, rfl⟩ := List.mem_map.mp h
      simp [PyData.depth, PyData.depthAll]
    · obtain ⟨rs, rfl, hpr⟩ := perm_unmap hp (plc ws) rfl
      have hrl : rs.length ≤ 48 := by rw [hpr.length_eq, plc_len]; exact n48
      refine s_retK ((g_lsD (K := K) (enc := fun (x : Nat) => PyData.int (x : Int)) (g_lcB (K := K) (RO := fun (x : Nat) => D K (PyData.int (x : Int))) (d1 := fun (p : Nat × Int) => .int (0 - p.2)) (d2 := fun p => .int (p.1 : Nat)) (·.1) (gi_listE (xs := rs) (enc := encH) (g_dv rfl hd)) (fun _ => .d) (by omega) (fun _ _ => rfl) fun p x y S2 s2 hp hx hy => g_dv rfl hy)).imp fun v S2 _ r => ⟨rs.map (·.1), ⟨rs, hpr, asc_heavy ha, rfl⟩, r⟩) e1 k
/-- above is what the pairs say -/
structure AbOk (n : Nat) (ps : BL) (ab : List (List Nat)) : Prop where
  len : ab.length = n
  mem : ∀ i j, j ∈ abF ab i ↔ (i, j) ∈ ps
  nd : ∀ i, (abF ab i).Nodup
theorem abF_at {ab : List (List Nat)} {i : Nat} (h : i < ab.length) : (ab.map fun l => PyData.list (encNs l))[i]? = some (.list (encNs (abF ab i))) := by
  rw [List.getElem?_map, List.getElem?_eq_getElem h]
  unfold abF
  rw [List.getD_eq_getElem?_getD, List.getElem?_eq_getElem h]
  rfl
abbrev n_Lot_odd_pairs : List Str := ["self", "found", "low", "high", "top"]
theorem sc_Lot_odd_pairs : FnScope n_Lot_odd_pairs ["self"] (defScope s_Lot_odd_pairs) := ⟨rfl, rfl, rfl, by decide +kernel, rfl, by decide +kernel, by decide +kernel⟩
abbrev sp_Lot_odd_pairs (K : PySem.W.Frag) : Sp := Pu (fun (z : {z : (List Int × BL) × List (List Nat) // LotIn z.1.1 z.1.2 ∧ AbOk z.1.1.length z.1.2 z.2}) => A1 (LotP K z.1.1.1 z.1.1.2 z.1.2)) (fun z => L0 K [])
theorem ok_Lot_odd_pairs (T : Fx K mg) : CalM P w K mg base 1 "Lot" "odd_pairs" (sp_Lot_odd_pairs K) := by
  obtain ⟨fd, Fn⟩ := T.d_Lot_odd_pairs
  refine ⟨fn_pos Fn sc_Lot_odd_pairs (fun vs H Q E h => ?_) (fun _ _ _ _ _ _ us hl => match us, hl with | [_], _ => rfl) (fun cdv A outer s H vs Q E hr h => ?_), T.m_Lot_odd_pairs, T.c_Lot, fnIn_of Fn⟩
  · obtain ⟨_, _, _, ⟨_, rfl, _⟩, _⟩ := h
    rfl
  · obtain ⟨⟨⟨⟨ws, ps⟩, ab⟩, I, J⟩, S, hS, ⟨va, rfl, hv⟩, k⟩ := h
    have I : LotIn ws ps := I
    have J : AbOk ws.length ps ab := J
    refine ⟨_, pss_cons (ps_set (i := 1) sc_Lot_odd_pairs.nd rfl (by first | exact Or.inl rfl | exact Or.inr rfl) (pe_lst pa_nil)) (pss_cons (ps_for PassesOwn.never rfl (pi_tupK (K := K) (pe_fldK (K := K) (pv
        0))) (pg_tupK (K := K) (n := 2) rfl (pgs_cons (pg_name (i := 2) sc_Lot_odd_pairs.nd rfl (by first | exact Or.inl rfl | exact Or.inr rfl)) (pgs_cons (pg_name (i := 3) sc_Lot_odd_pairs.nd rfl
        (by first | exact Or.inl rfl | exact Or.inr rfl)) pgs_nil))) (pss_cons (ps_if (PW.pt (pw_or (pt_cmpR op_eq (pv 2) (pv 3) (nomark _)) (pw_or1 (pt_cmpR op_lt (pe_ix (r := rIxT K) ix_tup (pe_fldK
        (K := K) (pv 0)) (pv 3) (fun _ _ => rfl)) (pe_ix (r := rIxT K) ix_tup (pe_fldK (K := K) (pv 0)) (pv 2) (fun _ _ => rfl)) (nomark _))))) (pss_one (ps_expr (pe_bm PySem.F.plainAttrs_list
        PySem.F.slot_list_append PySem.F.type_list_append mt_append (pv 1) (pa_cons (pe_tup (pa_cons (pv 2) (pa_cons (pv 3) pa_nil))) pa_nil)))) pss_nil) (pss_one (ps_expr (pe_bm
        PySem.F.plainAttrs_list PySem.F.slot_list_extend PySem.F.type_list_extend mt_extend (pv 1) (pa_cons (pe_lc (own := [("top", 4)]) rfl sc_Lot_odd_pairs.nd (pi_listK (K := K) (pe_ix (r := rIxL K)
        ix_list (pe_fldK (K := K) (pv 0)) (pv 3) (fun _ _ => rfl))) (blkOk_by (N := n_Lot_odd_pairs) (sc := defScope s_Lot_odd_pairs) (by decide +kernel)) (fun _ _ _ _ _ => (pg_name (i := 4)
        sc_Lot_odd_pairs.nd rfl (by first | exact Or.inl rfl | exact Or.inr rfl))) (fun _ _ _ _ _ => (pts_one (pt_cmpR (r := rIn K true) op_notIn_seq (pv 4) (pe_ix (r := rIxL K) ix_list (pe_fldK (K :=
        K) (pv 0)) (pv 2) (fun _ _ => rfl)) rfl))) (fun _ _ _ _ _ => (pe_tup (pa_cons (pv 2) (pa_cons (pv 4) pa_nil))))) pa_nil)))))) (pss_one (ps_ret (pv 1)))), ?_⟩
    refine q_newL (.refl hS) fun p H1 hp g1 hSp hp1 => ?_
    refine q_for (gi_tupE (xs := ps) (enc := encN) (g_pp T (g_var rfl hv up_lotP))) g1.sh fun S2 H2 e2 => ⟨fun i σ' S' H' => (Gw S H S' H' ∧ Same S2 S') ∧ (∃ x2 x3 x4, σ' = [some va, some (.ref p), x2, x3, x4]) ∧ S' p = none ∧ H' p = some (.lst []), ⟨⟨g1.trans e2, Same.refl _⟩, ⟨_, _, _, rfl⟩, e2.none hSp hp1, e2.hh _ _ hp1⟩, fun i σ' S' H' h => ⟨h.1.2, h.1.1.sh⟩, ?_, ?_⟩
    · rintro i q x σ' S3 H3 S4 H4 hx ⟨⟨g3, s3⟩, ⟨y2, y3, y4, rfl⟩, hp3, hpl⟩ e4 rx
      have hq := List.mem_of_getElem? hx
      obtain ⟨hl1, hl2⟩ := I.lt q hq
      have hne := I.ne q hq
      refine g_un2 rx e4.sh fun y z hy hz => ?_
      obtain rfl := Dp.intI hy
      obtain rfl := Dp.intI hz
      have s4 : Same S S4 := e2.ss.trans (s3.trans e4.ss)
      have hv4 := up_lotP _ _ _ s4 hv
      have hle := I.up q hq ws[q.1] ws[q.2] (List.getElem?_eq_getElem hl1) (List.getElem?_eq_getElem hl2)
      refine q_no (gt_eq (gt_or (b := false) (gt_test (g_eqS (x := .int (q.1 : Nat)) (y := .int (q.2 : Nat)) (g_is rfl) (g_is rfl) rfl)) fun _ => gt_eq (gt_test (g_I0 (g_isInt (g_ixT (i := q.2) (d := .int ws[q.2]) (g_pw T (g_var rfl hv4 up_lotP)) (g_is rfl) (by rw [List.getElem?_map, List.getElem?_eq_getElem hl2]; rfl))) (g_isInt (g_ixT (i := q.1) (d := .int ws[q.1]) (g_pw T (g_var rfl hv4 up_lotP)) (g_is rfl) (by rw [List.getElem?_map, List.getElem?_eq_getElem hl1]; rfl))))) ?_) ?_) (.refl e4.sh) fun S5 H5 e5 s5 => ?_
      · rw [decide_eq_false (by omega)]
      · have : ¬ (V.int (q.1 : Nat) = V.int (q.2 : Nat)) := fun e => hne (by have := V.int.inj e; omega)
        simp [this]
      · have hp5 : H5 p = some (.lst []) := e5.hh _ _ (e4.hh _ _ hpl)
        have hv5 := up_lotP _ _ _ s5 hv4
        have hSp5 : S5 p = none := e5.none (e4.none hp3 hpl) (e4.hh _ _ hpl)
        have fnil : (abF ab q.2).filter (fun t => !decide (t ∈ abF ab q.1)) = [] := by
          rw [List.filter_eq_nil_iff]
          intro t ht
          have : t ∈ abF ab q.1 := (J.mem _ _).mpr (I.tr _ _ _ hq ((J.mem _ _).mp ht))
          simp [this]
        have hab2 : q.2 < ab.length := by rw [J.len]; exact hl2
        have hab1 : q.1 < ab.length := by rw [J.len]; exact hl1
        have hlen : (abF ab q.2).length ≤ 48 := Nat.le_trans (sub_len (J.nd q.2) fun t ht => List.mem_range.mpr (I.lt _ ((J.mem _ _).mp ht)).2) (by rw [List.length_range]; exact I.n48)
        refine s_ext (l := p) (ds := []) rfl ?_ e5.sh hp5 (by simp) fun zs S6 H6 e6 hz => ?_
        · have q' := g_lc1 (RO := fun b : Nat × Nat => D K (encN b)) (te := tTup (tCons (tVar 2) (tCons (tVar 4) tNil))) (tt := tTest (tOp (rIn K true) (tVar 4) (tOp (rIxL K) (tFld K (tVar 0) "kept_above") (tVar 2)))) (i := 4) (vs := [4]) (σ := [some va, some (.ref p), some (.int (q.1 : Nat)), some (.int (q.2 : Nat)), y4]) (S := S5) (fun t => !decide (t ∈ abF ab q.1)) (fun t => (q.1, t)) (gi_listE (K := K) (xs := abF ab q.2) (enc := fun (x : Nat) => PyData.int (x : Int)) (g_ixL (i := q.2) (g_pa T (g_var (i := 0) rfl hv5 up_lotP)) (g_is (i := 3) rfl) (abF_at hab2))) (fun _ => .d) (by omega) (fun _ => rfl) fun t x S6 s6 ht rx =>
            ⟨gt_eq (gt_test (g_notInI (c := (t : Int)) (cs := (abF ab q.1).map fun (x : Nat) => (x : Int)) (g_isInt (g_var rfl rx .d)) (g_seqL (by rw [← encNs_int]; exact g_ixL (i := q.1) (g_pa T (g_var rfl (up_lotP _ _ _ s6 hv5) up_lotP)) (g_is rfl) (abF_at hab1))))) (by simp only [mem_cast]), fun _ => g_tup (ga_dc (g_dInt (g_is rfl)) (ga_dc (g_var rfl rx .d) ga_d0)) (by simp)⟩
          rw [fnil] at q'
          exact g_lsL0 q'
        · have ez : zs = [] := List.eq_nil_of_length_eq_zero (DpAll.len hz)
          subst ez
          exact ⟨S6, ⟨(((g3.trans e4).trans e5).trans e6).wr hp (e6.none hSp5 hp5), ((s3.trans e4.ss).trans e5.ss).trans e6.ss⟩, ⟨_, _, _, rfl⟩, e6.none hSp5 hp5, upd_same⟩
    · rintro σ' S3 H3 ⟨⟨g3, s3⟩, ⟨y2, y3, y4, rfl⟩, hp3, hpl⟩
      have g5 := g3.frz hp hp3 hpl
      exact s_ret (g_var rfl (show L0 K [] (.ref p) (upd S3 p (.lst [])) from ⟨p, [], rfl, upd_same, .nil⟩) up_l0) g5.sh fun v S5 H5 e5 r => k v S5 H5 (g5.trans e5) r
end
end NK
end

section
set_option Elab.async false
set_option linter.all false
set_option maxRecDepth 100000
set_option maxHeartbeats 1000000
namespace NK
open PySem PySem.Spec L2
open PyProof.Rows hiding St
section
variable {P : Program} {w : World} {K : PySem.W.Frag} {mg : Str → Option Value} {base : Heap}
/-- the match of a lot -/
def LotGood (ws : List Int) (ps : BL) (m : BL) : Prop := ∃ ab ord b, AbOk ws.length ps ab ∧ HvOrd ws ord ∧ MInv ws.length (abF ab) ord ord.length b ∧ m = swapN b
theorem HvOrd.ok {ws : List Int} {ord : List Nat} (h : HvOrd ws ord) : ord.Perm (List.range ws.length) := by
  obtain ⟨rs, h1, _, rfl⟩ := h
  refine (h1.map (·.1)).trans ?_
  unfold plc
  rw [List.map_fst_zip (by simp)]
theorem encN_inj (p q : Nat × Nat) (h : encN p = encN q) : p = q := by
  injection h with h
  injection h with h1 h2
  injection h2 with h2 _
  injection h1 with h1
  injection h2 with h2
  exact Prod.ext (by omega) (by omega)
theorem tup_ps {ps : BL} : (ps.map encN).all tupD = true := by
  rw [List.all_eq_true]
  intro d h
  obtain ⟨x, _, rfl⟩ := List.mem_map.mp h
  simp [tupD, flatD]
abbrev n_Lot___init__ : List Str := ["self", "weights", "pairs", "thing", "low", "high", "odd"]
theorem sc_Lot___init__ : FnScope n_Lot___init__ ["self", "weights", "pairs"] (defScope s_Lot___init__) := ⟨rfl, rfl, rfl, by decide +kernel, rfl, by decide +kernel, by decide +kernel⟩
def sp_Lot___init__ (K : PySem.W.Frag) : Sp := fun vs H Q _ => ∃ (ws : List Int) (ps : BL) (x dx : Addr) (S : Hp) (vw vp : V), vs = [.ref x, vw, vp] ∧ H x = some (.ins (He.ga K "Lot") dx []) ∧ S x = none ∧ Same S H ∧ LotIn ws ps ∧ Dp K S vw (.list (ws.map .int)) ∧ Dp K S vp (.list (ps.map encN)) ∧
  ∀ S' H' tw tp ta tm m, Gy x S H S' H' → S' x = none → Dp K S' tw (.tuple (ws.map .int)) → MD m tm S' → LotGood ws ps m → Q .non (upd H' x (.ins (He.ga K "Lot") dx [("kept_weights", tw), ("kept_pairs", tp), ("kept_above", ta), ("kept_match", tm)]))
theorem ok_Lot___init__ (T : Fx K mg) : CalM P w K mg base 52 "Lot" "__init__" (sp_Lot___init__ K) := by
  obtain ⟨t_most, e_most⟩ := T.i_MOST_THINGS
  obtain ⟨fd, Fn⟩ := T.d_Lot___init__
  refine ⟨fn_pos Fn sc_Lot___init__ (fun vs H Q E h => ?_) (fun _ _ _ _ _ _ us hl => match us, hl with | [_, _, _], _ => rfl) (fun cdv A outer s H vs Q E hr h => ?_), T.m_Lot___init__, T.c_Lot, fnIn_of Fn⟩
  · obtain ⟨_, _, _, _, _, _, _, rfl, _⟩ := h
    rfl
  · obtain ⟨ws, ps, x, dx, S, vw, vp, rfl, hx, hs, hS, I, hw, hp, k⟩ := h
    have n48 := I.n48
    have pl := I.len
    have cl := T.c_Lot
    refine ⟨_, pss_cons (ps_if (pt_not (pt_val (pe_f ((ok_are_weights T).mono (by decide : 2 ≤ 51)) (hr.mono (by decide)) (pa_cons (pv 1) pa_nil)))) (pss_one ps_never) pss_nil) (pss_cons (ps_if (pt_not (pt_val
        (pe_f ((ok_are_pairs T).mono (by decide : 3 ≤ 51)) (hr.mono (by decide)) (pa_cons (pv 2) (pa_cons (pe_callB (r := rLn K) call_len rfl T.b_len bt_len (pa_cons (pv 1) pa_nil)) pa_nil)))))
        (pss_one ps_never) pss_nil) (pss_cons (ps_if (pt_cmpR op_gt (pe_callB (r := rLn K) call_len rfl T.b_len bt_len (pa_cons (pv 1) pa_nil)) (pe_glob (v := .int 48) rfl e_most ⟨_, rfl⟩) (nomark _))
        (pss_one ps_never) pss_nil) (pss_cons (ps_fld (pv 0) (pe_callTy (r := rTupOf K) call_tuple_of rfl T.b_tuple bt_tuple (pa_cons (pv 1) pa_nil)) rfl) (pss_cons (ps_fld (pv 0) (pe_callTy (r :=
        rTupOf K) call_tuple_of rfl T.b_tuple bt_tuple (pa_cons (pe_callB (r := rSortS K w) (cr_sortS rfl (hr.mono (by decide))) rfl T.b_sorted bt_sorted (pa_cons (pe_callTy (r := rSetD K w) (cr_setD
        rfl (hr.mono (by decide))) rfl T.b_set bt_set (pa_cons (pv 2) pa_nil)) pa_nil)) pa_nil)) rfl) (pss_cons (ps_fld (pv 0) (pe_lc (own := [("thing", 3)]) rfl sc_Lot___init__.nd (pi_tupK (K := K)
        (pe_fldK (K := K) (pv 0))) (blkOk_by (N := n_Lot___init__) (sc := defScope s_Lot___init__) (by decide +kernel)) (fun _ _ _ _ _ => (pg_name (i := 3) sc_Lot___init__.nd rfl
        (by first | exact Or.inl rfl | exact Or.inr rfl))) (fun _ _ _ _ _ => pts_nil) (fun _ _ _ _ _ => (pe_lst pa_nil))) rfl) (pss_cons (ps_for PassesOwn.never rfl (pi_tupK (K := K) (pe_fldK (K := K)
        (pv 0))) (pg_tupK (K := K) (n := 2) rfl (pgs_cons (pg_name (i := 4) sc_Lot___init__.nd rfl (by first | exact Or.inl rfl | exact Or.inr rfl)) (pgs_cons (pg_name (i := 5) sc_Lot___init__.nd rfl
        (by first | exact Or.inl rfl | exact Or.inr rfl)) pgs_nil))) (pss_one (ps_expr (pe_bm PySem.F.plainAttrs_list PySem.F.slot_list_append PySem.F.type_list_append mt_append (pe_ix (r := rIxL K)
        ix_list (pe_fldK (K := K) (pv 0)) (pv 4) (fun _ _ => rfl)) (pa_cons (pv 5) pa_nil))))) (pss_cons (ps_set (i := 6) sc_Lot___init__.nd rfl (by first | exact Or.inl rfl | exact Or.inr rfl)
        (pe_m0K (K := K) ((ok_Lot_odd_pairs T).mono (by decide : 1 ≤ 51)) (hr.mono (by decide)) (pv 0))) (pss_cons (ps_if (pt_cmpR (r := rNeD K) (op_neD hr.units) (pv 6) (pe_lst pa_nil) (nomark _))
        (pss_one ps_never) pss_nil) (pss_one (ps_fld (pv 0) (pe_f ((ok_matched T).mono (by decide : 51 ≤ 51)) (hr.mono (by decide)) (pa_cons (pe_fldK (K := K) (pv 0)) (pa_cons (pe_m0K (K := K)
        ((ok_Lot_heavy_first T).mono (by decide : 7 ≤ 51)) (hr.mono (by decide)) (pv 0)) pa_nil))) rfl)))))))))), ?_⟩
    refine q_no (gt_eq (gt_not (gt_B (g_call (R := fun _ => Is (.bl true)) (a := (⟨ws, n48, I.wt⟩ : {ws : List Int // ws.length ≤ 48 ∧ ∀ x ∈ ws, 1 ≤ x ∧ x ≤ 10 ^ 39})) (ga_one (g_dv rfl hw))))) rfl) (.refl hS) fun S1 H1 e1 s1 => ?_
    refine q_no (gt_eq (gt_not (gt_B (g_call (R := fun _ => Is (.bl true)) (a := (⟨(ps, ws.length), I.lt⟩ : {z : BL × Nat // ∀ p ∈ z.1, p.1 < z.2 ∧ p.2 < z.2})) (ga_two (g_dv rfl (Dp.up s1 hp)) .d (g_eq (g_lenL (g_dv rfl (Dp.up s1 hw))) (by simp)))))) rfl) e1 fun S2 H2 e2 s2 => ?_
    refine q_no (gt_eq (gt_test (g_I0 (g_lenL (g_dv rfl (Dp.up (s1.trans s2) hw))) (g_c (v := .int 48)))) (by simp; omega)) e2 fun S3 H3 e3 s3 => ?_
    have s13 := (s1.trans s2).trans s3
    have hx3 := e3.hh _ _ hx
    have hs3 := e3.none hs hx
    -- kept_weights
    refine q_fset (R := D K (.tuple (ws.map .int))) rfl ((g_tupOfL (g_dv rfl (Dp.up s13 hw))).up (Same.new hs3)) (Gw.refl e3.sh) hx3 hs3 cl T.n_kept_weights (by decide) fun tw S4 H4 g4 hs4 hx4 dw => ?_
    replace dw := Dp.upQ (del_sameQ hs4) dw
    have hHx : ∃ o, H x = some o := ⟨_, hx⟩
    have g4' : Gy x S H (del S4 x) (upd H4 x (.ins (He.ga K "Lot") dx [("kept_weights", tw)])) := Gy.wr (Gy.on (Gy.on (Gx.refl hS) e3 hHx) g4 ⟨_, hx3⟩) del_same
    have s4 : Same S (del S4 x) := g4'.ss
    obtain ⟨S5, eS5⟩ : ∃ S5, S5 = del S4 x := ⟨_, rfl⟩
    have hs5 : S5 x = none := by rw [eS5]; exact del_same
    rw [← eS5] at g4' s4 dw
    clear e3 g4 hs4 hx4 eS5 s13 hx3 hs3
    -- kept_pairs
    refine q_fset (R := fun v S => ∃ qs : BL, (qs.Nodup ∧ ∀ p, p ∈ qs ↔ p ∈ ps) ∧ Dp K S v (.tuple (qs.map encN))) rfl ((g_tupOfE (enc := fun qs : BL => qs.map encN) ((g_sortS (w := w) (g_set (ds := ps.map encN) (g_dv rfl (Dp.up s4 hp)) (fun v S r => .inl r) (.inr tup_ps) (by simp; omega)) ?_ ?_ ?_).imp fun v S2 _ ⟨es, h1, h2, h3, h4⟩ => ?_)).up (Same.new hs5)) (Gw.refl g4'.sh) (fs := [("kept_weights", tw)]) upd_same hs5 cl T.n_kept_pairs (by simp) fun tp S6 H6 g6 hs6 hx6 ⟨qs, ⟨qn, qm⟩, dp⟩ => ?_
    · intro d h d' h'
      obtain ⟨x, _, rfl⟩ := List.mem_map.mp h
      obtain ⟨y, _, rfl⟩ := List.mem_map.mp h'
      simp only [PySem.W.alike, PySem.W.alikeAll, Bool.and_self]
    · exact .inl fun d h => by
        obtain ⟨x, _, rfl⟩ := List.mem_map.mp h
        exact ⟨_, _, rfl⟩
    · intro d h
      obtain ⟨x, _, rfl⟩ := List.mem_map.mp h
      simp [PyData.depth, PyData.depthAll]
    · obtain ⟨qs, rfl⟩ := exists_map fun d hd => (h3 d).mp hd
      refine ⟨qs, ⟨nodup_unmap h2, fun p => ⟨fun z => ?_, fun z => ?_⟩⟩, h1⟩
      · obtain ⟨y, hy, e⟩ := List.mem_map.mp ((h3 _).mp (List.mem_map_of_mem z))
        rw [← encN_inj _ _ e]
        exact hy
      · obtain ⟨y, hy, e⟩ := List.mem_map.mp ((h3 _).mpr (List.mem_map_of_mem z))
        rw [← encN_inj _ _ e]
        exact hy
    replace dp := Dp.upQ (del_sameQ hs6) dp
    have g6' : Gy x S H (del S6 x) (upd H6 x (.ins (He.ga K "Lot") dx [("kept_weights", tw), ("kept_pairs", tp)])) := Gy.wr (Gy.on g4' g6 ⟨_, upd_same⟩) del_same
    have dw6 := Dp.up g6.ss dw
    obtain ⟨S7, eS7⟩ : ∃ S7, S7 = del S6 x := ⟨_, rfl⟩
    obtain ⟨H7, eH7⟩ : ∃ H7, H7 = upd H6 x (.ins (He.ga K "Lot") dx [("kept_weights", tw), ("kept_pairs", tp)]) := ⟨_, rfl⟩
    have hs7 : S7 x = none := by rw [eS7]; exact del_same
    have hx7 : H7 x = some (.ins (He.ga K "Lot") dx [("kept_weights", tw), ("kept_pairs", tp)]) := by rw [eH7]; exact upd_same
    show tSeq _ _ _ _ (upd H6 x (.ins (He.ga K "Lot") dx [("kept_weights", tw), ("kept_pairs", tp)]))
    rw [← eS7] at g6' dp dw6
    rw [← eH7] at g6' ⊢
    clear eS7 eH7 g6 hs6 hx6 g4' dw hs5 s4
    -- kept_above
    obtain ⟨tw', xs, rfl, htw, dxs⟩ := Dp.tupI dw6
    have xsl : xs.length = ws.length := by rw [DpAll.len dxs, List.length_map]
    refine q_lists (t := tw') (xs := xs) rfl (by exact ⟨.ref x, rfl, x, _, dx, _, .ref tw', rfl, hx7, cl, T.n_kept_weights, rfl, rfl, rfl⟩) (fun Q hQ => ⟨.ref x, rfl, x, _, dx, _, .ref tw', rfl, hx7, cl, T.n_kept_weights, rfl, hQ⟩) (Same.sqT g6'.sh htw) (by omega) g6'.sh (fun _ => rfl) hx7 cl T.n_kept_above (by simp) fun L qps H8 g8 hL hL8 qpl qpn hqp => ?_
    have hx8 := g8.hh _ _ hx7
    have nLx : L ≠ x := fun e => by rw [e, hx7] at hL; cases hL
    have hHL : H L = none := Gx.free g6' hHx hHx hL nLx nLx
    have hSL : S7 L = none := g6'.sh.free hL
    obtain ⟨o3, eo3⟩ : ∃ o3, o3 = HO.ins (He.ga K "Lot") dx [("kept_weights", V.ref tw'), ("kept_pairs", tp), ("kept_above", .ref L)] := ⟨_, rfl⟩
    show tSeq _ _ _ _ (upd H8 x (HO.ins (He.ga K "Lot") dx [("kept_weights", V.ref tw'), ("kept_pairs", tp), ("kept_above", .ref L)]))
    rw [← eo3]
    have hqx : ∀ p ∈ qps, H7 p = none ∧ p ≠ L ∧ p ≠ x ∧ H8 p = some (.lst []) ∧ H p = none ∧ S7 p = none := fun p hp => by
      obtain ⟨h1, h2, h3⟩ := hqp p hp
      have n : p ≠ x := fun e => by rw [e, hx7] at h1; cases h1
      exact ⟨h1, h2, n, h3, Gx.free g6' hHx hHx h1 n n, g6'.sh.free h1⟩
    have g9 : Gy x S H S7 (upd H8 x o3) := Gy.wr (Gy.on g6' g8 ⟨_, hx7⟩) hs7
    have hL9 : upd H8 x o3 L = some (.lst (qps.map V.ref)) := by rw [upd_ne nLx]; exact hL8
    have g10 := Gy.frz g9 hHL hSL hL9
    obtain ⟨S9, eS9⟩ : ∃ S9, S9 = upd S7 L (.lst (qps.map V.ref)) := ⟨_, rfl⟩
    obtain ⟨H9, eH9⟩ : ∃ H9, H9 = upd H8 x o3 := ⟨_, rfl⟩
    have hs9 : S9 x = none := by rw [eS9, upd_ne nLx.symm]; exact hs7
    have hx9 : H9 x = some o3 := by rw [eH9]; exact upd_same
    have s79 : Same S7 S9 := by rw [eS9]; exact Same.new hSL
    have hSL9 : S9 L = some (.lst (qps.map V.ref)) := by rw [eS9]; exact upd_same
    have hqx9 : ∀ p ∈ qps, S9 p = none ∧ H9 p = some (.lst []) := fun p hp => by
      obtain ⟨h1, h2, h3, h4, h5, h6⟩ := hqx p hp
      rw [eS9, eH9, upd_ne h2, upd_ne h3]
      exact ⟨h6, h4⟩
    have dp9 := Dp.up s79 dp
    have dw9 := Dp.up s79 dw6
    rw [← eS9] at g10
    rw [← eH9] at g10 ⊢
    clear g9 hL9 eS9 eH9 hL8 g8 hx8 hs7 hx7 hqp htw dw6 dp hSL
    have qlen : qs.length ≤ 300 := Nat.le_trans (sub_len qn fun p hp => (qm p).mp hp) pl
    have s9x : Same S9 (upd S9 x o3) := Same.new hs9
    refine q_for (gi_tupE (xs := qs) (enc := encN) (g_self (t := tp) rfl (by rw [eo3]; exact upd_same) cl T.n_kept_pairs rfl (Dp.up s9x dp9))) (lend g10.sh hx9) fun S10 H10 e10 => ⟨fun i σ' S' H' => (Gy x S H (del S' x) H' ∧ Same S10 S' ∧ Same S' H') ∧ (∃ x4 x5, σ' = [some (.ref x), some vw, some vp, none, x4, x5, none]) ∧ ∀ t p, qps[t]? = some p → S' p = none ∧ H' p = some (.lst ((rowF (qs.take i) t).map fun (y : Nat) => V.int (y : Int))),
      ⟨⟨Gy.on g10 (e10.lent hs9) ⟨_, hx9⟩, Same.refl _, e10.sh⟩, ⟨_, _, rfl⟩, fun t p htp => ?_⟩, fun i σ' S' H' h => ⟨h.1.2.1, h.1.2.2⟩, ?_, ?_⟩
    · have hp := List.mem_of_getElem? htp
      obtain ⟨h1, h2⟩ := hqx9 p hp
      refine ⟨e10.none (by rw [upd_ne (hqx p hp).2.2.1]; exact h1) h2, ?_⟩
      rw [e10.hh _ _ h2]
      rfl
    · rintro i q y σ' S11 H11 S12 H12 hqi ⟨⟨g11, s11, b11⟩, ⟨y4, y5, rfl⟩, hrows⟩ e12 ry
      have hq := (qm q).mp (List.mem_of_getElem? hqi)
      obtain ⟨hl1, hl2⟩ := I.lt q hq
      refine g_un2 ry e12.sh fun z1 z2 hz1 hz2 => ?_
      obtain rfl := Dp.intI hz1
      obtain rfl := Dp.intI hz2
      have hlt : q.1 < qps.length := by omega
      obtain ⟨pq, hpq⟩ : ∃ p, qps[q.1]? = some p := ⟨_, List.getElem?_eq_getElem hlt⟩
      have hpm := List.mem_of_getElem? hpq
      obtain ⟨hsp, hhp⟩ := hrows q.1 pq hpq
      have hhp12 := e12.hh _ _ hhp
      have hsp12 := e12.none hsp hhp
      have s12 : Same S9 S12 := s9x.trans (e10.ss.trans (s11.trans e12.ss))
      have hx12 : S12 x = some o3 := (e10.ss.trans (s11.trans e12.ss)) _ _ upd_same
      have g12 : Gy x S H (del S12 x) H12 := Gy.on g11 e12.del ⟨_, b11 _ _ ((e10.ss.trans s11) _ _ upd_same)⟩
      have hH12 : H12 x = some (HO.ins (He.ga K "Lot") dx [("kept_weights", V.ref tw'), ("kept_pairs", tp), ("kept_above", .ref L)]) := by rw [← eo3]; exact e12.sh _ _ hx12
      have hrl : ((rowF (qs.take i) q.1).map fun (y : Nat) => V.int (y : Int)).length < sizeLine := by
        unfold rowF
        rw [List.length_map, List.length_map]
        have h1 := List.length_filter_le (fun q' : Nat × Nat => decide (q'.1 = q.1)) (qs.take i)
        rw [List.length_take] at h1
        exact Nat.lt_of_le_of_lt (by omega : _ ≤ 300) (by decide)
      refine ⟨.ref x, rfl, x, _, dx, _, .ref L, rfl, hH12, cl, T.n_kept_above, rfl, .int (q.1 : Nat), rfl, L, qps.map V.ref, (q.1 : Nat), .ref pq, rfl, rfl, SqL.of (e12.sh _ _ (s12 _ _ hSL9)), atI_nat (by rw [List.getElem?_map, hpq]; rfl), .inl ⟨rfl, _, SqL.of hhp12⟩, .int (q.2 : Nat), rfl, pq, _, .int (q.2 : Nat), rfl, rfl, hhp12, hrl, ?_⟩
      have nqx := (hqx pq hpm).2.2.1
      refine ⟨S12, ⟨Gy.chg g12 (hqx pq hpm).2.2.2.2.1 (by rw [del_ne nqx]; exact hsp12) fun b hb => upd_ne hb, s11.trans e12.ss, Same.wr e12.sh hsp12⟩, ⟨_, _, rfl⟩, fun t p htp => ?_⟩
      rw [take_succ' hqi, rowF_snoc]
      by_cases e : q.1 = t
      · subst e
        have e2 : p = pq := Option.some.inj (htp.symm.trans hpq)
        subst e2
        rw [if_pos rfl, upd_same]
        refine ⟨hsp12, ?_⟩
        rw [List.map_append]
        rfl
      · rw [if_neg e]
        obtain ⟨h1, h2⟩ := hrows t p htp
        have npq : p ≠ pq := fun z => by
          subst z
          have a1 := List.getElem?_eq_some_iff.mp htp
          have a2 := List.getElem?_eq_some_iff.mp hpq
          obtain ⟨b1, c1⟩ := a1
          obtain ⟨b2, c2⟩ := a2
          exact e ((List.getElem_inj qpn).mp (c2.trans c1.symm))
        rw [upd_ne npq]
        exact ⟨e12.none h1 h2, e12.hh _ _ h2⟩
    · rintro σ' S11 H11 ⟨⟨g11, s11, b11⟩, ⟨y4, y5, rfl⟩, hrows⟩
      rw [List.take_length] at hrows
      have hx11 : S11 x = some o3 := (e10.ss.trans s11) _ _ upd_same
      obtain ⟨S12, g12, s12, a12, o12⟩ := Gy.frzL (ps := (plc qps).map fun z => (z.2, HO.lst ((rowF qs z.1).map fun (y : Nat) => V.int (y : Int)))) g11 (by
          rw [List.map_map]
          have : (plc qps).map ((fun a : Addr × HO => a.1) ∘ fun z : Nat × Addr => (z.2, HO.lst ((rowF qs z.1).map fun (y : Nat) => V.int (y : Int)))) = qps := by
            show (plc qps).map (fun z => z.2) = qps
            unfold plc
            exact List.map_snd_zip (by simp)
          rw [this]
          exact qpn) fun p hp => by
        obtain ⟨z, hz, rfl⟩ := List.mem_map.mp hp
        have hz := plc_mem.mp hz
        have hzm := List.mem_of_getElem? hz
        obtain ⟨h1, h2⟩ := hrows z.1 z.2 hz
        exact ⟨(hqx z.2 hzm).2.2.2.2.1, by rw [del_ne (hqx z.2 hzm).2.2.1]; exact h1, h2⟩
      have hs12 : S12 x = none := by
        rw [o12 x fun p hp => ?_]
        · exact del_same
        · obtain ⟨z, hz, rfl⟩ := List.mem_map.mp hp
          exact (hqx z.2 (List.mem_of_getElem? (plc_mem.mp hz))).2.2.1
      have hH11 : H11 x = some o3 := b11 _ _ hx11
      obtain ⟨S13, eS13⟩ : ∃ S13, S13 = upd S12 x o3 := ⟨_, rfl⟩
      have b13 : Same S13 H11 := by rw [eS13]; exact lend g12.sh hH11
      have d13 : del S13 x = S12 := by rw [eS13]; exact del_upd hs12
      have hx13 : S13 x = some o3 := by rw [eS13]; exact upd_same
      have sdel : SameQ S9 S12 := fun b o ho hb => by
        have n : b ≠ x := ne_of_none hb hs9
        refine s12 b o ?_
        rw [del_ne n]
        exact (e10.ss.trans s11) _ _ (s9x _ _ hb)
      have s12' : Same S12 S13 := by rw [eS13]; exact Same.new hs12
      obtain ⟨ab, eab⟩ : ∃ ab, ab = (List.range ws.length).map (rowF qs) := ⟨_, rfl⟩
      have eabF : ∀ t, t < ws.length → abF ab t = rowF qs t := fun t ht => by
        unfold abF
        rw [eab, List.getD_eq_getElem?_getD, List.getElem?_map, List.getElem?_range ht]
        rfl
      have J : AbOk ws.length ps ab := by
        refine ⟨by rw [eab, List.length_map, List.length_range], fun i j => ?_, fun i => ?_⟩
        · by_cases h : i < ws.length
          · rw [eabF i h, rowF_mem]
            exact qm _
          · have : abF ab i = [] := by
              unfold abF
              rw [List.getD_eq_getElem?_getD, List.getElem?_eq_none (by rw [eab, List.length_map, List.length_range]; omega)]
              rfl
            rw [this]
            exact ⟨fun z => (by cases z), fun z => absurd (I.lt _ z).1 h⟩
        · by_cases h : i < ws.length
          · rw [eabF i h]
            exact rowF_nd qn i
          · have : abF ab i = [] := by
              unfold abF
              rw [List.getD_eq_getElem?_getD, List.getElem?_eq_none (by rw [eab, List.length_map, List.length_range]; omega)]
              rfl
            rw [this]
            exact List.nodup_nil
      have hab : Dp K S13 (.ref L) (encAb ab) := by
        refine .lst (SqL.of (s12' _ _ (sdel _ _ (fun _ _ _ z => by cases z) hSL9))) ?_
        rw [eab, List.map_map]
        have key : ∀ (m : List Addr) (f : Nat → PyData) (hm : ∀ t p, m[t]? = some p → Dp K S13 (.ref p) (f t)), DpAll K S13 (m.map V.ref) ((List.range m.length).map f) := by
          intro m
          induction m with
          | nil => exact fun _ _ => .nil
          | cons a m ih =>
            intro f hm
            rw [List.length_cons, List.range_succ_eq_map, List.map_cons, List.map_cons, List.map_map]
            exact .cons (hm 0 a rfl) (ih (f ∘ Nat.succ) fun t p h => hm (t + 1) p h)
        have hlen : ws.length = qps.length := by omega
        rw [hlen]
        refine key qps _ fun t p htp => ?_
        refine .lst (SqL.of (s12' _ _ (a12 (p, .lst ((rowF qs t).map fun (y : Nat) => V.int (y : Int))) (List.mem_map.mpr ⟨(t, p), plc_mem.mpr htp, rfl⟩)))) ?_
        exact ints_nat _ _
      have LP : LotP K ws qs ab (.ref x) S13 := ⟨x, dx, .ref tw', tp, .ref L, rfl, by rw [hx13, eo3], Dp.up s12' (Dp.upQ sdel dw9), Dp.up s12' (Dp.upQ sdel dp9), hab⟩
      have I2 : LotIn ws qs := ⟨I.n48, I.wt, fun p h => I.lt p ((qm p).mp h), fun p h => I.ne p ((qm p).mp h), fun p h => I.up p ((qm p).mp h), fun i j k h1 h2 => (qm _).mpr (I.tr i j k ((qm _).mp h1) ((qm _).mp h2)), qlen⟩
      have J2 : AbOk ws.length qs ab := ⟨J.len, fun i j => (J.mem i j).trans (qm _).symm, J.nd⟩
      have M0 : ∀ ord, HvOrd ws ord → MtIn ab ord := fun ord ho => by
        have hp := ho.ok
        refine ⟨by rw [J.len]; exact n48, fun l h hl => by rw [J.len]; exact (I.lt _ ((J.mem l h).mp hl)).2, J.nd, hp.nodup_iff.mpr List.nodup_range, fun y hy => by rw [J.len]; exact List.mem_range.mp (hp.mem_iff.mp hy)⟩
      refine q_set (S0 := S13) (H0 := H11) (S := S13) (g_m0 (α := {z : (List Int × BL) × List (List Nat) // LotIn z.1.1 z.1.2 ∧ AbOk z.1.1.length z.1.2 z.2}) (A := fun z => LotP K z.1.1.1 z.1.1.2 z.1.2) (R := fun _ => L0 K []) (a := ⟨((ws, qs), ab), I2, J2⟩) (g_var rfl LP up_lotP) lotP_at) (Gw.refl b13) fun vo S14 H14 g14 s14 lo => ?_
      refine q_no (gt_eq (gt_test (g_neD (e := .list []) (g_l0D (g_var rfl lo up_l0)) (g_lst ga_d0 (by decide)) (flt_lst (n := 1) fun d hd => by cases hd).sh (flt_lst (n := 1) fun d hd => by cases hd).sh)) (by simp [PyData.eqv, PyData.eqvAll])) g14 fun S15 H15 g15 s15 => ?_
      have hx15 : S15 x = some (.ins (He.ga K "Lot") dx [("kept_weights", V.ref tw'), ("kept_pairs", tp), ("kept_above", .ref L)]) := by rw [← eo3]; exact (s14.trans s15) _ _ hx13
      have LP15 := up_lotP _ _ _ (s14.trans s15) LP
      have g16 : Gy x S H (del S15 x) H15 := by
        have := g15.del (x := x)
        rw [d13] at this
        exact Gy.on g12 this ⟨_, hH11⟩
      refine s_fsetL (S := del S15 x) (fs := [("kept_weights", V.ref tw'), ("kept_pairs", tp), ("kept_above", .ref L)]) (R := fun v S => ∃ z : {z : List (List Nat) × List Nat // MtIn z.1 z.2}, (z.1.1 = ab ∧ HvOrd ws z.1.2) ∧ ∃ b, MInv z.1.1.length (abF z.1.1) z.1.2 z.1.2.length b ∧ ∃ p, v = .ref p ∧ S p = some (.dK (encB (swapN b)))) rfl ?_ g16.sh (g15.sh _ _ hx15) del_same cl T.n_kept_match (by simp) fun tm S17 H17 g17 hs17 hx17 ⟨⟨⟨ab', ord⟩, mi⟩, ⟨e1, e2⟩, b, e3, p, e4, e5⟩ => ?_
      · rw [upd_del hx15]
        refine g_callX ((ga_two (g_pa T (g_var rfl LP15 up_lotP)) .d (g_m0 (α := {z : (List Int × BL) × List (List Nat) // z.1.1.length ≤ 48}) (A := fun z => LotP K z.1.1.1 z.1.1.2 z.1.2) (R := fun z v S => ∃ ord, HvOrd z.1.1.1 ord ∧ Dp K S v (.list (encNs ord))) (a := ⟨((ws, qs), ab), n48⟩) (g_var rfl LP15 up_lotP) lotP_at)).imp fun vs S2 _ ⟨v, u, h1, h2, ord, h3, h4⟩ => ⟨⟨(ab, ord), M0 ord h3⟩, ⟨rfl, h3⟩, v, u, h1, h2, h4⟩)
      · have e1 : ab' = ab := e1
        subst e1
        have g18 : Gy x S H (del S17 x) H17 := Gy.on g16 g17 ⟨_, g15.sh _ _ hx15⟩
        have sdel2 := del_sameQ hs17
        have s1517 : SameQ S15 (del S17 x) := fun b o ho hb => by
          have n : b ≠ x := fun z => by
            subst z
            rw [hx15] at hb
            exact ho _ _ _ (Option.some.inj hb).symm
          exact g17.ss _ _ (by rw [del_ne n]; exact hb)
        obtain ⟨x', dx', tw2, tp2, ta2, f1, f2, f3, f4, f5⟩ := LP15
        cases f1
        rw [hx15] at f2
        cases f2
        refine k (del S17 x) H17 (.ref tw') tp (.ref L) tm (swapN b) g18 del_same (Dp.upQ s1517 f3) ⟨p, e4, ?_⟩ ⟨ab', ord, b, J, e2, ?_, rfl⟩
        · rw [del_ne (fun z => by subst z; rw [hs17] at e5; cases e5)]
          exact e5
        · have := e3
          rw [J.len] at this
          exact this
end
end NK
end

section
set_option Elab.async false
set_option linter.all false
set_option maxRecDepth 100000
set_option maxHeartbeats 400000
namespace NK
open PySem PySem.Spec L2
open PyProof.Rows hiding St
section
variable {P : Program} {w : World} {K : PySem.W.Frag} {mg : Str → Option Value} {base : Heap}
theorem Fx.co_Weights (T : Fx K mg) : StX.CallO K (He.ga K "Weights") (He.ma K (He.ga K "Weights") "__call__") := by
  obtain ⟨fd, F⟩ := T.d_Weights___call__
  exact ⟨T.m_Weights___call__.at_, T.m_Weights___call__.fn, fnIn_of F⟩
/-- the sum over columns -/
def wsum (f : Str → Int) (cs : List Str) : Int := (cs.map f).sum
theorem perm_sum {l m : List Int} (h : l.Perm m) : l.sum = m.sum := by
  induction h with
  | nil => rfl
  | cons x _ ih => simp [ih]
  | swap x y l => simp; omega
  | trans _ _ a b => exact a.trans b
theorem wsum_perm {f : Str → Int} {l m : List Str} (h : l.Perm m) : wsum f l = wsum f m := perm_sum (h.map f)
theorem g_tget {σ : L2.St} {S : Hp} {td ty tx : TE} {f : Str → Int} {c : Str} (hd : G td σ S (TabV f)) (hy : G ty σ S (Is (.str c))) (hx : G tx σ S (Is (.int 1))) : G (tDGet2 td ty tx) σ S (Is (.int (f c))) := fun S1 H1 e b Q q =>
  hd S1 H1 e b _ fun v S2 H2 e2 ⟨t, kvs, ev, ht, hf⟩ => ⟨t, ev, .inl ⟨kvs, .inl (e2.sh _ _ ht)⟩, hy S2 H2 (e.trans e2.ss) e2.sh _ fun y S3 H3 e3 hy => hx S3 H3 ((e.trans e2.ss).trans e3.ss) e3.sh _ fun z S4 H4 e4 hz => by
    refine ⟨valV kvs (Sum.inr c : Key), .inl ⟨kvs, Sum.inr c, .inl (e4.sh _ _ (e4.ss _ _ (e3.ss _ _ ht))), hy, rfl⟩, ?_⟩
    rcases hf c with ⟨h1, h2⟩ | h1
    · rw [h1]
      exact q _ S4 H4 ((e2.trans e3).trans e4) (by show z = _; rw [hz, h2])
    · rw [h1]
      exact q _ S4 H4 ((e2.trans e3).trans e4) rfl⟩
/-- a question or an index -/
def encT : Qn ⊕ List Str → PyData
  | .inl q => encQ q
  | .inr r => encC r
def colsT : Qn ⊕ List Str → List Str
  | .inl q => colsL q
  | .inr r => r
def TOk : Qn ⊕ List Str → Prop
  | .inl q => QOk q
  | .inr r => IxOk r
abbrev n_Weights___call__ : List Str := ["self", "thing", "columns", "column"]
theorem sc_Weights___call__ : FnScope n_Weights___call__ ["self", "thing"] (defScope s_Weights___call__) := ⟨rfl, rfl, rfl, by decide +kernel, rfl, by decide +kernel, by decide +kernel⟩
abbrev sp_Weights___call__ (K : PySem.W.Frag) : Sp := Pu (fun (z : {z : (Str → Int) × (Qn ⊕ List Str) // TOk z.2}) => A2 (WtsV K z.1.1) (D K (encT z.1.2))) (fun z => Is (.int (wsum z.1.1 (colsT z.1.2))))
theorem ok_Weights___call__ (T : Fx K mg) : CalM P w K mg base 8 "Weights" "__call__" (sp_Weights___call__ K) := by
  obtain ⟨fd, Fn⟩ := T.d_Weights___call__
  refine ⟨fn_pos Fn sc_Weights___call__ (fun vs H Q E h => ?_) (fun _ _ _ _ _ _ us hl => match us, hl with | [_, _], _ => rfl) (fun cdv A outer s H vs Q E hr h => ?_), T.m_Weights___call__, T.c_Weights, fnIn_of Fn⟩
  · obtain ⟨_, _, _, ⟨_, _, rfl, _⟩, _⟩ := h
    rfl
  · obtain ⟨⟨⟨f, th⟩, hth⟩, S, hS, ⟨va, vb, rfl, hv, hw⟩, k⟩ := h
    have hfld : ∀ {σ : L2.St} {S1 : Hp}, σ[0]? = some (some va) → Same S S1 → G (tFld K (tVar 0) "kept_table") σ S1 (TabV f) := fun h0 ss => g_fld (g_var h0 (up_wts _ _ _ ss hv) up_wts) T.c_Weights T.n_kept_table fun v S ⟨a, dx, t, e1, e2, e3⟩ => ⟨a, dx, _, t, e1, e2, rfl, e3⟩
    have hu := hu_of hr
    refine ⟨_, pss_cons (ps_set (i := 2) sc_Weights___call__.nd rfl (by first | exact Or.inl rfl | exact Or.inr rfl) (pe_ifExp (pt_val (pe_callB (r := rIsi K) call_isi rfl T.b_isinstance bt_isinstance (pa_cons
        (pe_ix (r := rIxT K) ix_tup (pv 1) pe_int (fun _ _ => rfl)) (pa_cons (pe_bltn (v := .ty "tuple") rfl T.b_tuple bt_tuple rfl) pa_nil)))) (pe_f ((ok_columns_of T).mono (by decide : 7 ≤ 7))
        (hr.mono (by decide)) (pa_cons (pv 1) pa_nil)) (pv 1))) (pss_one (ps_ret (pe_callB (r := rSum K) (cr_sum rfl) rfl T.b_sum bt_sum (pa_cons (pe_lc (own := [("column", 3)]) rfl
        sc_Weights___call__.nd (pi_tupK (K := K) (pv 2)) (blkOk_by (N := n_Weights___call__) (sc := defScope s_Weights___call__) (by decide +kernel)) (fun _ _ _ _ _ => (pg_name (i := 3)
        sc_Weights___call__.nd rfl (by first | exact Or.inl rfl | exact Or.inr rfl))) (fun _ _ _ _ _ => pts_nil) (fun _ _ _ _ _ => (pe_dget2 hu (pe_fldK (K := K) (pv 0)) (pv 3) pe_int ⟨rfl, rfl, rfl,
        rfl⟩))) pa_nil)))), ?_⟩
    cases th with
    | inl q =>
      have hq : QOk q := hth
      have hl : (colsS q).length ≤ 12 := by rw [(colsS_perm q).length_eq]; exact hq.colsOk.len
      refine q_set (R := D K (encC (colsS q))) (g_if (b := true) (gt_B (g_isi (g_ixT (i := 0) (ds := [encC q.1, .str q.2]) (g_dv rfl hw) g_c rfl) tyx_tup .d kit_ttt)) (fun _ => g_call (a := (⟨q, hq⟩ : {q : Qn // QOk q})) (ga_one (g_dv rfl hw))) fun z => by cases z) (.refl hS) fun v S1 H1 e1 s1 dv => ?_
      refine s_retK (R := Is (.int (wsum f (colsL q)))) (g_eq (g_sum1 (fun c => f c) (gi_tupE (xs := colsS q) (enc := .str) (g_dv rfl dv)) (by omega) fun c x S2 s2 hc rx => g_tget (hfld rfl (s1.trans s2)) (g_isStr (g_var rfl rx .d)) g_c) ?_) e1 k
      rw [← wsum_perm (colsS_perm q)]
      rfl
    | inr r =>
      have hr2 : IxOk r := hth
      have hl : r.length ≤ 12 := hr2.cols.len
      obtain ⟨c, r', rfl⟩ : ∃ c r', r = c :: r' := by
        cases r with
        | nil => exact absurd rfl hr2.ne
        | cons c r' => exact ⟨c, r', rfl⟩
      refine q_set (R := D K (encC (c :: r'))) (g_if (b := false) (gt_B (g_isi (g_isStr (g_ixT (i := 0) (ds := (c :: r').map .str) (g_dv rfl hw) g_c rfl)) tyx_str .is (kit_ty (b := "tuple") (r := false) (by decide +kernel)))) (fun z => by cases z) fun _ => g_dv rfl hw) (.refl hS) fun v S1 H1 e1 s1 dv => ?_
      exact s_retK (R := Is (.int (wsum f (c :: r')))) (g_sum1 (fun c => f c) (gi_tupE (xs := c :: r') (enc := .str) (g_dv rfl dv)) (by omega) fun c x S2 s2 hc rx => g_tget (hfld rfl (s1.trans s2)) (g_isStr (g_var rfl rx .d)) g_c) e1 k
abbrev n_weight_of : List Str := ["question", "weights"]
theorem sc_weight_of : FnScope n_weight_of ["question", "weights"] (defScope s_weight_of) := ⟨rfl, rfl, rfl, by decide +kernel, rfl, by decide +kernel, by decide +kernel⟩
abbrev sp_weight_of (K : PySem.W.Frag) : Sp := Pu (fun (z : {z : Qn × (Str → Int) // QOk z.1}) => A2 (D K (encQ z.1.1)) (HvV K z.1.2)) (fun z => Is (.int (wsum z.1.2 (colsL z.1.1))))
theorem ok_weight_of (T : Fx K mg) : Cal P w K mg base 9 "weight_of" (sp_weight_of K) := by
  obtain ⟨fd, Fn⟩ := T.d_weight_of
  refine ⟨fn_pos Fn sc_weight_of (fun vs H Q E h => ?_) (fun _ _ _ _ _ _ us hl => match us, hl with | [_, _], _ => rfl) (fun cdv A outer s H vs Q E hr h => ?_), T.g_weight_of, Fn.kp⟩
  · obtain ⟨_, _, _, ⟨_, _, rfl, _⟩, _⟩ := h
    rfl
  · obtain ⟨⟨⟨q, f⟩, hq⟩, S, hS, ⟨va, vb, rfl, hv, hw⟩, k⟩ := h
    refine ⟨_, pss_one (ps_ret (pe_ifExp (pt_cmp (pc_isN (pv 1))) (pe_f ((ok_width T).mono (by decide : 8 ≤ 8)) (hr.mono (by decide)) (pa_cons (pv 0) pa_nil)) (StX.pe_callO (pv 1) T.co_Weights
        (((ok_Weights___call__ T).mono (by decide : 8 ≤ 8))).run (hr.mono (by decide)) pass0 (pa_cons (pv 0) pa_nil)))), ?_⟩
    refine s_ret (R := Is (.int (wsum f (colsL q)))) ?_ hS k
    rcases hw with ⟨rfl, hf⟩ | hw
    · have hf : f = fun _ => 1 := hf
      refine g_if (b := true) (gt_B (g_isN (g_is rfl) fun v S h => by rw [h]; rfl)) (fun _ => g_eq (g_call (R := fun (q : {q : Qn // QOk q}) => Is (.int (colsL q.1).length)) (a := (⟨q, hq⟩ : {q : Qn // QOk q})) (ga_one (g_dv rfl hv))) ?_) fun z => by cases z
      subst hf
      have : ∀ l : List Str, wsum (fun _ => 1) l = (l.length : Int) := fun l => by
        induction l with
        | nil => rfl
        | cons a l ih => unfold wsum at ih ⊢; rw [List.map_cons, List.sum_cons, ih, List.length_cons]; omega
      rw [this]
    · have hw0 := hw
      obtain ⟨a, dx, t, rfl, h2, h3⟩ := hw
      refine g_if (b := false) (gt_B (g_isN (g_is rfl) fun v S h => by rw [h]; rfl)) (fun z => by cases z) fun _ => g_callO (a := (⟨(f, .inl q), hq⟩ : {z : (Str → Int) × (Qn ⊕ List Str) // TOk z.2})) (R := fun (z : {z : (Str → Int) × (Qn ⊕ List Str) // TOk z.2}) => Is (.int (wsum z.1.1 (colsT z.1.2)))) (A := fun z => WtsV K z.1.1) (B := fun z => D K (encT z.1.2)) (g_var rfl hw0 up_wts) (fun v S ⟨a, dx, t, e1, e2, _⟩ => ⟨a, dx, _, e1, e2⟩) up_wts (g_dv rfl hv)
abbrev n_weight_of_index : List Str := ["index", "weights"]
theorem sc_weight_of_index : FnScope n_weight_of_index ["index", "weights"] (defScope s_weight_of_index) := ⟨rfl, rfl, rfl, by decide +kernel, rfl, by decide +kernel, by decide +kernel⟩
abbrev sp_weight_of_index (K : PySem.W.Frag) : Sp := Pu (fun (z : {z : List Str × (Str → Int) // IxOk z.1}) => A2 (D K (encC z.1.1)) (HvV K z.1.2)) (fun z => Is (.int (wsum z.1.2 z.1.1)))
theorem ok_weight_of_index (T : Fx K mg) : Cal P w K mg base 9 "weight_of_index" (sp_weight_of_index K) := by
  obtain ⟨fd, Fn⟩ := T.d_weight_of_index
  refine ⟨fn_pos Fn sc_weight_of_index (fun vs H Q E h => ?_) (fun _ _ _ _ _ _ us hl => match us, hl with | [_, _], _ => rfl) (fun cdv A outer s H vs Q E hr h => ?_), T.g_weight_of_index, Fn.kp⟩
  · obtain ⟨_, _, _, ⟨_, _, rfl, _⟩, _⟩ := h
    rfl
  · obtain ⟨⟨⟨r, f⟩, hq⟩, S, hS, ⟨va, vb, rfl, hv, hw⟩, k⟩ := h
    refine ⟨_, pss_one (ps_ret (pe_ifExp (pt_cmp (pc_isN (pv 1))) (pe_callB (r := rLn K) call_len rfl T.b_len bt_len (pa_cons (pv 0) pa_nil)) (StX.pe_callO (pv 1) T.co_Weights (((ok_Weights___call__ T).mono
        (by decide : 8 ≤ 8))).run (hr.mono (by decide)) pass0 (pa_cons (pv 0) pa_nil)))), ?_⟩
    refine s_ret (R := Is (.int (wsum f r))) ?_ hS k
    rcases hw with ⟨rfl, hf⟩ | hw
    · have hf : f = fun _ => 1 := hf
      refine g_if (b := true) (gt_B (g_isN (g_is rfl) fun v S h => by rw [h]; rfl)) (fun _ => g_eq (g_lenT (g_dv rfl hv)) ?_) fun z => by cases z
      subst hf
      have : ∀ l : List Str, wsum (fun _ => 1) l = (l.length : Int) := fun l => by
        induction l with
        | nil => rfl
        | cons a l ih => unfold wsum at ih ⊢; rw [List.map_cons, List.sum_cons, ih, List.length_cons]; omega
      rw [this, List.length_map]
    · have hw0 := hw
      obtain ⟨a, dx, t, rfl, h2, h3⟩ := hw
      refine g_if (b := false) (gt_B (g_isN (g_is rfl) fun v S h => by rw [h]; rfl)) (fun z => by cases z) fun _ => g_callO (a := (⟨(f, .inr r), hq⟩ : {z : (Str → Int) × (Qn ⊕ List Str) // TOk z.2})) (R := fun (z : {z : (Str → Int) × (Qn ⊕ List Str) // TOk z.2}) => Is (.int (wsum z.1.1 (colsT z.1.2)))) (A := fun z => WtsV K z.1.1) (B := fun z => D K (encT z.1.2)) (g_var rfl hw0 up_wts) (fun v S ⟨a, dx, t, e1, e2, _⟩ => ⟨a, dx, _, e1, e2⟩) up_wts (g_dv rfl hv)
end
end NK
end

section
set_option Elab.async false
set_option linter.all false
set_option maxRecDepth 100000
set_option maxHeartbeats 400000
namespace NK
open PySem PySem.Spec L2
open PyProof.Rows hiding St
section
variable {P : Program} {w : World} {K : PySem.W.Frag} {mg : Str → Option Value} {base : Heap}
/-! ### the pairs of questions -/
theorem prs_mem {qs : List Qn} {i j : Nat} : (i, j) ∈ prs qs ↔ ∃ q r, qs[i]? = some q ∧ qs[j]? = some r ∧ below q r = true := by
  unfold prs
  rw [List.mem_flatten]
  constructor
  · rintro ⟨l, hl, hm⟩
    obtain ⟨p, hp, rfl⟩ := List.mem_map.mp hl
    unfold prsAt at hm
    obtain ⟨r, hr, e⟩ := List.mem_map.mp hm
    have hr2 := List.mem_filter.mp hr
    cases e
    exact ⟨p.2, r.2, plc_mem.mp hp, plc_mem.mp hr2.1, hr2.2⟩
  · rintro ⟨q, r, h1, h2, h3⟩
    refine ⟨prsAt qs (i, q), List.mem_map.mpr ⟨(i, q), plc_mem.mpr h1, rfl⟩, ?_⟩
    unfold prsAt
    exact List.mem_map.mpr ⟨(j, r), List.mem_filter.mpr ⟨plc_mem.mpr h2, h3⟩, rfl⟩
theorem climb_ir {q r : Qn} (hq : QOk q) (hr : QOk r) (h : below q r = true) : below r q = false := by
  cases e : below r q with
  | false => rfl
  | true =>
    have a := below_climb hq hr h
    have b := below_climb hr hq e
    rcases a with a | ⟨a1, a2, a3⟩ <;> rcases b with b | ⟨b1, b2, b3⟩
    · omega
    · omega
    · omega
    · exact absurd b2 a3
theorem below_tr {q r s : Qn} (hq : QOk q) (hr : QOk r) (hs : QOk s) (h1 : below q r = true) (h2 : below r s = true) : below q s = true := by
  have ne : q ≠ s := fun e => by
    subst e
    rw [climb_ir hq hr h1] at h2
    cases h2
  unfold below
  rw [Bool.and_eq_true, List.all_eq_true]
  exact ⟨decide_eq_true ne, fun c hc => decide_eq_true (below_sub h2 c (List.mem_append_left _ (below_sub h1 c hc)))⟩
theorem plc_nodup {α : Type} {xs : List α} : (plc xs).Nodup := by
  have h : ((plc xs).map (·.1)).Nodup := by
    unfold plc
    rw [List.map_fst_zip (by simp)]
    exact List.nodup_range
  exact nodup_unmap h
theorem prs_nodup (qs : List Qn) : (prs qs).Nodup := by
  unfold prs
  rw [List.nodup_iff_pairwise_ne, List.pairwise_flatten]
  refine ⟨fun l hl => List.nodup_iff_pairwise_ne.mp ?_, ?_⟩
  · obtain ⟨p, hp, rfl⟩ := List.mem_map.mp hl
    unfold prsAt
    have h1 : ((plc qs).filter fun r => below p.2 r.2).Nodup := plc_nodup.filter _
    have h2 : (((plc qs).filter fun r => below p.2 r.2).map (·.1)).Nodup := by
      refine List.Nodup.sublist (List.Sublist.map _ List.filter_sublist) ?_
      unfold plc
      rw [List.map_fst_zip (by simp)]
      exact List.nodup_range
    rw [show (((plc qs).filter fun r => below p.2 r.2).map fun r => (p.1, r.1)) = (((plc qs).filter fun r => below p.2 r.2).map (·.1)).map fun x => (p.1, x) by rw [List.map_map]; rfl]
    exact nodup_map (fun a b e => (Prod.mk.inj e).2) h2
  · rw [List.pairwise_map]
    have h2 : ((plc qs).map (·.1)).Nodup := by
      unfold plc
      rw [List.map_fst_zip (by simp)]
      exact List.nodup_range
    rw [List.nodup_iff_pairwise_ne, List.pairwise_map] at h2
    refine h2.imp fun {a b} hne x hx y hy e => ?_
    unfold prsAt at hx hy
    obtain ⟨u, _, rfl⟩ := List.mem_map.mp hx
    obtain ⟨v, _, rfl⟩ := List.mem_map.mp hy
    exact hne (Prod.mk.inj e).1
theorem prs_lt {qs : List Qn} {p : Nat × Nat} (h : p ∈ prs qs) : p.1 < qs.length ∧ p.2 < qs.length := by
  obtain ⟨i, j⟩ := p
  obtain ⟨q, r, h1, h2, _⟩ := prs_mem.mp h
  exact ⟨(List.getElem?_eq_some_iff.mp h1).1, (List.getElem?_eq_some_iff.mp h2).1⟩
def allP (n : Nat) : BL := ((List.range n).map fun i => (List.range n).map fun j => (i, j)).flatten
theorem allP_mem {n : Nat} {p : Nat × Nat} : p ∈ allP n ↔ p.1 < n ∧ p.2 < n := by
  unfold allP
  rw [List.mem_flatten]
  constructor
  · rintro ⟨l, hl, hm⟩
    obtain ⟨i, hi, rfl⟩ := List.mem_map.mp hl
    obtain ⟨j, hj, rfl⟩ := List.mem_map.mp hm
    exact ⟨List.mem_range.mp hi, List.mem_range.mp hj⟩
  · rintro ⟨h1, h2⟩
    exact ⟨_, List.mem_map.mpr ⟨p.1, List.mem_range.mpr h1, rfl⟩, List.mem_map.mpr ⟨p.2, List.mem_range.mpr h2, rfl⟩⟩
theorem flat_len {α : Type} {k : Nat} : ∀ {L : List (List α)}, (∀ l ∈ L, l.length = k) → L.flatten.length = L.length * k
  | [], _ => by simp
  | l :: L, h => by
    rw [List.flatten_cons, List.length_append, h l List.mem_cons_self, flat_len fun m hm => h m (List.mem_cons_of_mem _ hm), List.length_cons, Nat.succ_mul, Nat.add_comm]
theorem allP_len (n : Nat) : (allP n).length = n * n := by
  unfold allP
  rw [flat_len (k := n) fun l hl => ?_, List.length_map, List.length_range]
  obtain ⟨i, _, rfl⟩ := List.mem_map.mp hl
  rw [List.length_map, List.length_range]
theorem prs_len {qs : List Qn} (ok : ∀ q ∈ qs, QOk q) : 2 * (prs qs).length ≤ qs.length * qs.length := by
  have h : ((prs qs) ++ swapN (prs qs)).Nodup := by
    rw [List.nodup_append]
    refine ⟨prs_nodup qs, nodup_map (fun a b e => Prod.ext (Prod.mk.inj e).2 (Prod.mk.inj e).1) (prs_nodup qs), fun a ha b hb e => ?_⟩
    subst e
    obtain ⟨c, hc, e⟩ := List.mem_map.mp hb
    obtain ⟨i, j⟩ := a
    obtain ⟨j', i'⟩ := c
    cases e
    obtain ⟨q, r, h1, h2, h3⟩ := prs_mem.mp ha
    obtain ⟨r', q', h4, h5, h6⟩ := prs_mem.mp hc
    rw [h1] at h5
    rw [h2] at h4
    cases h4
    cases h5
    rw [climb_ir (ok _ (List.mem_of_getElem? h1)) (ok _ (List.mem_of_getElem? h2)) h3] at h6
    cases h6
  have hs := sub_len (m := allP qs.length) h fun p hp => by
    rcases List.mem_append.mp hp with hp | hp
    · exact allP_mem.mpr (prs_lt hp)
    · obtain ⟨c, hc, rfl⟩ := List.mem_map.mp hp
      have := prs_lt hc
      exact allP_mem.mpr ⟨this.2, this.1⟩
  rw [allP_len, List.length_append] at hs
  unfold swapN at hs
  rw [List.length_map] at hs
  omega
/-! ### weights of questions -/
theorem wsum_nonneg {f : Str → Int} (h : WtOk f) (l : List Str) : 0 ≤ wsum f l := by
  unfold wsum
  induction l with
  | nil => exact Int.le_refl _
  | cons a l ih =>
    rw [List.map_cons, List.sum_cons]
    have := h.lo a
    omega
theorem wsum_cons {f : Str → Int} (a : Str) (l : List Str) : wsum f (a :: l) = f a + wsum f l := by
  unfold wsum
  rw [List.map_cons, List.sum_cons]
theorem wsum_sub {f : Str → Int} (h : WtOk f) : ∀ {l m : List Str}, l.Nodup → (∀ c ∈ l, c ∈ m) → wsum f l ≤ wsum f m
  | [], m, _, _ => wsum_nonneg h m
  | a :: l, m, hn, hs => by
    have hn := List.nodup_cons.mp hn
    have ha := hs a List.mem_cons_self
    have ih := wsum_sub h (m := m.erase a) hn.2 fun c hc => (List.mem_erase_of_ne (fun e => hn.1 (by rw [← e]; exact hc))).mpr (hs c (List.mem_cons_of_mem _ hc))
    have hp : wsum f m = wsum f (a :: m.erase a) := wsum_perm (List.perm_cons_erase ha)
    rw [hp, wsum_cons, wsum_cons]
    omega
theorem wsum_pos {f : Str → Int} (h : WtOk f) {l : List Str} (hl : l ≠ []) : 1 ≤ wsum f l := by
  cases l with
  | nil => exact absurd rfl hl
  | cons a l =>
    rw [wsum_cons]
    have := h.lo a
    have := wsum_nonneg h l
    omega
theorem wsum_le {f : Str → Int} (h : WtOk f) : ∀ l : List Str, wsum f l ≤ l.length * 10 ^ 30
  | [] => by simp [wsum]
  | a :: l => by
    rw [wsum_cons, List.length_cons]
    have := h.hi a
    have := wsum_le h l
    have e : ((l.length + 1 : Nat) : Int) * 10 ^ 30 = l.length * 10 ^ 30 + 10 ^ 30 := by rw [Int.natCast_add, Int.add_mul]; simp
    rw [e]
    omega
theorem wsum_ok {f : Str → Int} (h : WtOk f) {l : List Str} (hl : l ≠ []) (hn : l.length ≤ 12) : 1 ≤ wsum f l ∧ wsum f l ≤ 10 ^ 39 := by
  refine ⟨wsum_pos h hl, Int.le_trans (wsum_le h l) ?_⟩
  have h2 : (l.length : Int) ≤ 12 := by omega
  have h3 : (l.length : Int) * 10 ^ 30 ≤ 12 * 10 ^ 30 := Int.mul_le_mul_of_nonneg_right h2 (by decide)
  exact Int.le_trans h3 (by decide)
theorem QOk.ne {q : Qn} (h : QOk q) : colsL q ≠ [] := by
  unfold colsL
  rcases h.some with h | h
  · intro e
    exact h (List.append_eq_nil_iff.mp e).1
  · rw [if_neg h]
    simp
/-- the weight of a question -/
abbrev wq (f : Str → Int) (q : Qn) : Int := wsum f (colsL q)
theorem wq_up {f : Str → Int} (h : WtOk f) {q r : Qn} (hq : QOk q) (hb : below q r = true) : wq f q ≤ wq f r := wsum_sub h hq.colsOk.nd fun c hc => List.mem_append_left _ (below_sub hb c hc)
/-- a lot of questions -/
theorem lotIn_qs {qs : List Qn} {g : Qn → Int} (A : AkOk qs) (g1 : ∀ q ∈ qs, 1 ≤ g q ∧ g q ≤ 10 ^ 39) (g2 : ∀ q ∈ qs, ∀ r ∈ qs, below q r = true → g q ≤ g r) : LotIn (qs.map g) (prs qs) := by
  have l15 := A.len
  refine ⟨by rw [List.length_map]; omega, fun x hx => ?_, fun p hp => by rw [List.length_map]; exact prs_lt hp, fun p hp e => ?_, fun p hp a b ha hb => ?_, fun i j k h1 h2 => ?_, ?_⟩
  · obtain ⟨q, hq, rfl⟩ := List.mem_map.mp hx
    exact g1 q hq
  · obtain ⟨i, j⟩ := p
    obtain ⟨q, r, h1, h2, h3⟩ := prs_mem.mp hp
    have e : i = j := e
    subst e
    rw [h1] at h2
    cases h2
    exact below_ne h3 rfl
  · obtain ⟨i, j⟩ := p
    obtain ⟨q, r, h1, h2, h3⟩ := prs_mem.mp hp
    rw [List.getElem?_map, h1] at ha
    rw [List.getElem?_map, h2] at hb
    cases ha
    cases hb
    exact g2 q (List.mem_of_getElem? h1) r (List.mem_of_getElem? h2) h3
  · obtain ⟨q, r, a1, a2, a3⟩ := prs_mem.mp h1
    obtain ⟨r', s, b1, b2, b3⟩ := prs_mem.mp h2
    rw [a2] at b1
    cases b1
    exact prs_mem.mpr ⟨q, s, a1, b2, below_tr (A.ok _ (List.mem_of_getElem? a1)) (A.ok _ (List.mem_of_getElem? a2)) (A.ok _ (List.mem_of_getElem? b2)) a3 b3⟩
  · have h1 := prs_len A.ok
    have h2 : qs.length * qs.length ≤ 15 * 15 := Nat.mul_le_mul l15 l15
    omega
end
end NK
end

section
set_option Elab.async false
set_option linter.all false
set_option maxRecDepth 100000
set_option maxHeartbeats 400000
namespace NK
open PySem PySem.Spec L2
open PyProof.Rows hiding St
section
variable {P : Program} {w : World} {K : PySem.W.Frag} {mg : Str → Option Value} {base : Heap}
theorem KB0 : True := trivial
/-- Lot(..) -/
theorem g_lot {σ : L2.St} {S : Hp} {ta tb : TE} {ws : List Int} {ps : BL} (ha : G ta σ S (D K (.list (ws.map .int)))) (hb : G tb σ S (D K (.list (ps.map encN)))) (I : LotIn ws ps) :
    G (StX.tMakeR (He.ga K "Lot") (sp_Lot___init__ K) E0 (tCons ta (tCons tb tNil))) σ S (fun v S => ∃ m, LotGood ws ps m ∧ LotV K ws m v S) := fun S1 H1 e b Q q =>
  ga_two ha .d hb S1 H1 e b _ fun vs S2 H2 e2 ⟨v, u, ev, r1, r2⟩ x dx hx hdx ne => by
    have b2 : Same S2 (upd (upd H2 dx (.own x)) x (.ins (He.ga K "Lot") dx [])) := Same.wr (Same.wr e2.sh (e2.sh.free hdx)) (e2.sh.free hx)
    refine ⟨ws, ps, x, dx, S2, v, u, by rw [ev], upd_same, e2.sh.free hx, b2, I, r1, r2, fun S' H' tw tp ta tm m g hs hd hm hg => ⟨rfl, ?_⟩⟩
    have g0 : Gw S2 H2 S' (upd H' x (.ins (He.ga K "Lot") dx [("kept_weights", tw), ("kept_pairs", tp), ("kept_above", ta), ("kept_match", tm)])) := by
      refine ⟨g.ss, fun p o hp => ?_, fun p o hp => ?_, fun p o hp => g.old p o ?_⟩
      · have n1 : p ≠ x := ne_of_none hp hx
        have n2 : p ≠ dx := ne_of_none hp hdx
        rw [upd_ne n1]
        refine g.hh p o n1 n1 ?_
        rw [upd_ne n1, upd_ne n2]
        exact hp
      · rw [upd_ne (ne_of_none hp hs)]
        exact g.sh p o hp
      · have n1 : p ≠ x := ne_of_none hp hx
        have n2 : p ≠ dx := ne_of_none hp hdx
        rw [upd_ne n1, upd_ne n2]
        exact hp
    have g2 := g0.frz hx hs upd_same
    refine q (.ref x) _ _ (e2.trans g2) ⟨m, hg, x, dx, tw, tp, ta, tm, rfl, upd_same, Dp.up (Same.new hs) hd, up_md _ _ _ (Same.new hs) hm⟩
/-- the questions of these numbers -/
def pick (qs : List Qn) (c : List Nat) : List Qn := c.filterMap fun i => qs[i]?
theorem pick_at {qs : List Qn} : ∀ c : List Nat, (∀ i ∈ c, i < qs.length) → (pick qs c).length = c.length ∧ ∀ (j i : Nat), c[j]? = some i → (pick qs c)[j]? = qs[i]?
  | [], _ => ⟨rfl, fun j i h => (by simp at h)⟩
  | a :: c, h => by
    have ha := h a List.mem_cons_self
    obtain ⟨h1, h2⟩ := pick_at c fun i hi => h i (List.mem_cons_of_mem _ hi)
    have e : pick qs (a :: c) = qs[a] :: pick qs c := by
      unfold pick
      rw [List.filterMap_cons, List.getElem?_eq_getElem ha]
    rw [e]
    refine ⟨by rw [List.length_cons, List.length_cons, h1], fun j i hj => ?_⟩
    cases j with
    | zero =>
      have hj : a = i := Option.some.inj hj
      subst hj
      rw [List.getElem?_eq_getElem ha]
      rfl
    | succ j => exact h2 j i hj
theorem ext_keep {r : List Str} {q : Qn} {c : Str} (h : c ∈ r) : c ∈ ext r q := by
  unfold ext
  exact List.mem_append_left _ (List.mem_append_left _ h)
theorem fold_keep {c : Str} : ∀ {qs : List Qn} {r : List Str}, c ∈ r → c ∈ qs.foldl ext r
  | [], _, h => h
  | q :: qs, r, h => by rw [List.foldl_cons]; exact fold_keep (ext_keep h)
theorem idx_ne {qs : List Qn} (h : ChOk qs) (hn : qs ≠ []) : idx qs ≠ [] := by
  cases qs with
  | nil => exact absurd rfl hn
  | cons q qs =>
    have hq := h.ok q List.mem_cons_self
    obtain ⟨c, hc⟩ := List.exists_mem_of_ne_nil _ hq.ne
    intro e
    have : c ∈ idx (q :: qs) := by
      unfold idx
      rw [List.foldl_cons]
      exact fold_keep ((ext_mem (fun c h => by cases h) c).mpr hc)
    rw [e] at this
    cases this
abbrev n_shelf_of : List Str := ["questions", "chains", "number", "chain"]
theorem sc_shelf_of : FnScope n_shelf_of ["questions", "chains"] (defScope s_shelf_of) := ⟨rfl, rfl, rfl, by decide +kernel, rfl, by decide +kernel, by decide +kernel⟩
abbrev sp_shelf_of (K : PySem.W.Frag) : Sp := Pu (fun (z : {z : List Qn × List (List Nat) // (∀ c ∈ z.2, (∀ i ∈ c, i < z.1.length) ∧ ChOk (pick z.1 c) ∧ c ≠ [] ∧ c.length ≤ 48) ∧ z.2.length ≤ 48}) => A2 (D K (.list (z.1.1.map encQ))) (LsR (fun c => L0 K (encNs c)) z.1.2)) (fun z => ShelfV K (z.1.2.map fun c => idx (pick z.1.1 c)))
theorem ok_shelf_of (T : Fx K mg) : Cal P w K mg base 13 "shelf_of" (sp_shelf_of K) := by
  obtain ⟨fd, Fn⟩ := T.d_shelf_of
  refine ⟨fn_pos Fn sc_shelf_of (fun vs H Q E h => ?_) (fun _ _ _ _ _ _ us hl => match us, hl with | [_, _], _ => rfl) (fun cdv A outer s H vs Q E hr h => ?_), T.g_shelf_of, Fn.kp⟩
  · obtain ⟨_, _, _, ⟨_, _, rfl, _⟩, _⟩ := h
    rfl
  · obtain ⟨⟨⟨qs, cs⟩, hc, hl⟩, S, hS, ⟨va, vb, rfl, hv, hw⟩, k⟩ := h
    have hc : ∀ c ∈ cs, (∀ i ∈ c, i < qs.length) ∧ ChOk (pick qs c) ∧ c ≠ [] ∧ c.length ≤ 48 := hc
    have hl : cs.length ≤ 48 := hl
    refine ⟨_, pss_one (ps_ret (StX.pe_makeR T.mk_Shelf ((ok_Shelf___init__ T).mono (by decide : 9 ≤ 11)).run (hr.mono (by decide)) rfl T.g_Shelf pass0 (pa_cons (pe_lc (own := [("chain", 3)]) rfl
        sc_shelf_of.nd (pi_listK (K := K) (pv 1)) (blkOk_by (N := n_shelf_of) (sc := defScope s_shelf_of) (by decide +kernel)) (fun _ _ _ _ _ => (pg_name (i := 3) sc_shelf_of.nd rfl
        (by first | exact Or.inl rfl | exact Or.inr rfl))) (fun _ _ _ _ _ => pts_nil) (fun _ _ _ _ _ => (pe_f ((ok_index_for T).mono (by decide : 12 ≤ 12)) (hr.mono (by decide)) (pa_cons (pe_lc (own
        := [("number", 2)]) rfl sc_shelf_of.nd (pi_listK (K := K) (pv 3)) (blkOk_by (N := n_shelf_of) (sc := relS _ (defScope s_shelf_of)) (by decide +kernel)) (fun _ _ _ _ _ => (pg_name (i := 2)
        sc_shelf_of.nd rfl (by first | exact Or.inl rfl | exact Or.inr rfl))) (fun _ _ _ _ _ => pts_nil) (fun _ _ _ _ _ => (pe_ix (r := rIxL K) ix_list (pv 0) (pv 2) (fun _ _ => rfl)))) pa_nil))))
        pa_nil))), ?_⟩
    have e0 : cs.map (fun c => idx (pick qs c)) = (cs.map fun c => idx (pick qs c)) := rfl
    have hpk := pick_at (qs := qs)
    refine s_ret (R := ShelfV K (cs.map fun c => idx (pick qs c))) (g_shelf ?_ ?_) hS k
    · refine g_lsD (enc := encC) (g_lcA (RO := fun r : List Str => D K (encC r)) (fun c => idx (pick qs c)) (gi_lsR (g_var rfl hw (up_lsR fun _ => up_l0)) fun _ => up_l0) (fun _ => .d) (by omega) (fun _ => rfl) fun c x S1 s1 hcm rx => ?_)
      obtain ⟨c1, c2, c3, c4⟩ := hc c hcm
      obtain ⟨p1, p2⟩ := hpk c c1
      refine g_call (R := fun (q : {q : List Qn // ChOk q ∧ q.length ≤ 48}) => D K (encC (idx q.1))) (a := ⟨pick qs c, c2, by rw [p1]; exact c4⟩) (ga_one ?_)
      have e1 : (pick qs c).map encQ = (c.map fun i => qs.getD i ([], "")).map encQ := by
        congr 1
        refine List.ext_getElem? fun j => ?_
        rw [List.getElem?_map]
        cases hj : c[j]? with
        | none =>
          have : (pick qs c).length ≤ j := by rw [p1]; exact List.getElem?_eq_none_iff.mp hj
          rw [List.getElem?_eq_none this]
          rfl
        | some i =>
          rw [p2 j i hj, List.getElem?_eq_getElem (c1 i (List.mem_of_getElem? hj))]
          show _ = some (qs.getD i _)
          rw [List.getD_eq_getElem?_getD, List.getElem?_eq_getElem (c1 i (List.mem_of_getElem? hj))]
          rfl
      rw [e1]
      refine g_map1 (fun i => qs.getD i ([], "")) encQ (gi_listE (xs := c) (enc := fun (y : Nat) => PyData.int (y : Int)) (g_l0D (g_var rfl rx up_l0))) (by omega) fun i y S2 s2 hi ry => ?_
      have hil := c1 i hi
      refine g_ixL (i := i) (g_dv rfl (Dp.up (s1.trans s2) hv)) (g_isInt (g_var rfl ry .d)) ?_
      rw [List.getElem?_map, List.getElem?_eq_getElem hil, List.getD_eq_getElem?_getD, List.getElem?_eq_getElem hil]
      rfl
    · refine ⟨fun r hr2 => ?_, by rw [List.length_map]; exact hl⟩
      obtain ⟨c, hcm, rfl⟩ := List.mem_map.mp hr2
      obtain ⟨c1, c2, c3, c4⟩ := hc c hcm
      refine ⟨idx_ok c2, fun e => ?_⟩
      obtain ⟨p1, p2⟩ := hpk c c1
      have hne : pick qs c ≠ [] := fun z => by
        rw [z] at p1
        exact c3 (List.eq_nil_of_length_eq_zero p1.symm)
      exact idx_ne c2 hne e
end
end NK
end

section
set_option Elab.async false
set_option linter.all false
set_option maxRecDepth 100000
set_option maxHeartbeats 400000
namespace NK
open PySem PySem.Spec L2
open PyProof.Rows hiding St
/-! ### what a match counts -/
theorem MaxA.congr {n : Nat} {ab ab' : Nat → List Nat} {P : Nat → Prop} {k : Nat} (h : ∀ i j, j ∈ ab i ↔ j ∈ ab' i) (m : MaxA n ab P k) : MaxA n ab' P k := by
  have e : ∀ A, Anti ab A ↔ Anti ab' A := fun A => ⟨fun z x hx y hy w => z x hx y hy ((h x y).mpr w), fun z x hx y hy w => z x hx y hy ((h x y).mp w)⟩
  obtain ⟨⟨A, a1, a2, a3, a4⟩, b⟩ := m
  exact ⟨⟨A, a1, a2, (e A).mp a3, a4⟩, fun A c1 c2 c3 => b A c1 c2 ((e A).mpr c3)⟩
theorem getN_swap {b : BL} (nd : (keysN b).Nodup) (one : ∀ l, cntN b l ≤ 1) {l h : Nat} : getN (swapN b) l = some h ↔ getN b h = some l := by
  constructor
  · intro e
    obtain ⟨q, hq, e2⟩ := List.mem_map.mp (getN_mem e)
    cases e2
    exact getN_of_mem nd hq
  · intro e
    exact getN_of_mem (one_nd one) (List.mem_map.mpr ⟨(h, l), getN_mem e, rfl⟩)
theorem getN_swap_none {b : BL} {l : Nat} : getN (swapN b) l = none ↔ cntN b l = 0 := by
  rw [getN_none]
  constructor
  · intro h
    rcases Nat.eq_zero_or_pos (cntN b l) with z | z
    · exact z
    · obtain ⟨x, hx⟩ := cntN_pos.mp z
      refine absurd ?_ h
      unfold keysN swapN
      rw [List.map_map]
      exact List.mem_map.mpr ⟨(x, l), hx, rfl⟩
  · intro h hm
    unfold keysN swapN at hm
    rw [List.map_map] at hm
    obtain ⟨q, hq, e⟩ := List.mem_map.mp hm
    have e : q.2 = l := e
    have : 0 < cntN b l := cntN_pos.mpr ⟨q.1, by rw [← e]; exact hq⟩
    omega
/-- the things of at least this weight stand ahead -/
theorem hv_prefix {ws : List Int} {ord : List Nat} (h : HvOrd ws ord) (l : Int) : ∃ j, j ≤ ord.length ∧ ∀ t, t ∈ ord.take j ↔ ∃ x, ws[t]? = some x ∧ l ≤ x := by
  obtain ⟨rs, h1, h2, rfl⟩ := h
  have key : ∀ rs : List (Nat × Int), rs.Pairwise (fun p q => q.2 ≤ p.2) → ∃ j, j ≤ rs.length ∧ ∀ p, p ∈ rs.take j ↔ p ∈ rs ∧ l ≤ p.2 := by
    intro rs
    induction rs with
    | nil => exact fun _ => ⟨0, Nat.le_refl _, fun p => by simp⟩
    | cons a rs ih =>
      intro hp
      have hp := List.pairwise_cons.mp hp
      by_cases ha : l ≤ a.2
      · obtain ⟨j, hj, hm⟩ := ih hp.2
        refine ⟨j + 1, Nat.succ_le_succ hj, fun p => ?_⟩
        rw [List.take_succ_cons, List.mem_cons, List.mem_cons, hm]
        constructor
        · rintro (rfl | z)
          · exact ⟨.inl rfl, ha⟩
          · exact ⟨.inr z.1, z.2⟩
        · rintro ⟨rfl | z, w⟩
          · exact .inl rfl
          · exact .inr ⟨z, w⟩
      · refine ⟨0, Nat.zero_le _, fun p => ⟨fun z => by simp at z, fun z => absurd z.2 ?_⟩⟩
        rcases List.mem_cons.mp z.1 with rfl | hm
        · exact ha
        · have := hp.1 p hm
          omega
  obtain ⟨j, hj, hm⟩ := key rs h2
  refine ⟨j, by rw [List.length_map]; exact hj, fun t => ?_⟩
  rw [← List.map_take]
  constructor
  · intro z
    obtain ⟨p, hp, rfl⟩ := List.mem_map.mp z
    have := (hm p).mp hp
    exact ⟨p.2, plc_mem.mp (h1.mem_iff.mp this.1), this.2⟩
  · rintro ⟨x, hx, hl⟩
    exact List.mem_map.mpr ⟨(t, x), (hm (t, x)).mpr ⟨h1.mem_iff.mpr (plc_mem.mpr hx), hl⟩, rfl⟩
def ofW (ws : List Int) (l : Int) (t : Nat) : Bool := match ws[t]? with
  | some x => decide (l ≤ x)
  | none => false
theorem ofW_iff {ws : List Int} {l : Int} {t : Nat} : ofW ws l t = true ↔ ∃ x, ws[t]? = some x ∧ l ≤ x := by
  unfold ofW
  cases ws[t]? with
  | none => simp
  | some x => simp
theorem mtch_of {ws : List Int} {ps : BL} {m : BL} (g : LotGood ws ps m) : Mtch ws.length (rowF ps) (getN m) := by
  obtain ⟨ab, ord, b, J, hv, mi, rfl⟩ := g
  refine ⟨fun l h e => ?_, fun l l' h e e' => ?_⟩
  · have e := (getN_swap mi.ok.nd mi.one).mp e
    obtain ⟨h1, h2⟩ := mi.ok.edge h l e
    exact ⟨h1, rowF_mem.mpr ((J.mem l h).mp h2)⟩
  · have e := (getN_swap mi.ok.nd mi.one).mp e
    have e' := (getN_swap mi.ok.nd mi.one).mp e'
    rw [e] at e'
    exact Option.some.inj e'
theorem cert_of {ws : List Int} {ps : BL} {m : BL} (g : LotGood ws ps m) (l : Int) : Cert ws.length (rowF ps) (getN m) (fun t => ofW ws l t = true) := by
  obtain ⟨ab, ord, b, J, hv, mi, rfl⟩ := g
  obtain ⟨j, hj, hm⟩ := hv_prefix hv l
  obtain ⟨D, d1, d2⟩ := mi.cert j hj
  refine ⟨D, fun h hh => ?_, fun t ht hp hn x hx => ?_⟩
  · obtain ⟨t, a1, a2, a3⟩ := d1 h hh
    exact ⟨t, (getN_swap mi.ok.nd mi.one).mpr a1, ofW_iff.mpr ((hm t).mp a2), fun x hx => a3 x ((J.mem t x).mpr (rowF_mem.mp hx))⟩
  · exact d2 t ((hm t).mpr (ofW_iff.mp hp)) (getN_swap_none.mp hn) x ((J.mem t x).mpr (rowF_mem.mp hx))
theorem ordd_of {ws : List Int} {ps : BL} (I : LotIn ws ps) (nd : ps.Nodup) : Ordd ws.length (rowF ps) :=
  ⟨fun i j _ h => (I.lt _ (rowF_mem.mp h)).2, fun i _ h => I.ne _ (rowF_mem.mp h) rfl, fun i j k _ h1 h2 => rowF_mem.mpr (I.tr i j k (rowF_mem.mp h1) (rowF_mem.mp h2)), fun i _ => rowF_nd nd i⟩
theorem topsL_mem {ws : List Int} {m : BL} {l : Int} {t : Nat} : t ∈ topsL ws m l ↔ ofW ws l t = true ∧ getN m t = none := by
  unfold topsL
  rw [List.mem_filter, List.mem_map]
  constructor
  · rintro ⟨⟨p, hp, rfl⟩, h2⟩
    have hp := List.mem_filter.mp hp
    refine ⟨ofW_iff.mpr ⟨p.2, plc_mem.mp hp.1, of_decide_eq_true hp.2⟩, ?_⟩
    cases e : getN m p.1 with
    | none => rfl
    | some y => rw [e] at h2; simp at h2
  · rintro ⟨h1, h2⟩
    obtain ⟨x, hx, hl⟩ := ofW_iff.mp h1
    exact ⟨⟨(t, x), List.mem_filter.mpr ⟨plc_mem.mpr hx, decide_eq_true hl⟩, rfl⟩, by rw [h2]; rfl⟩
theorem topsL_nd {ws : List Int} {m : BL} {l : Int} : (topsL ws m l).Nodup := by
  have h : ((plc ws).map (·.1)).Nodup := by
    unfold plc
    rw [List.map_fst_zip (by simp)]
    exact List.nodup_range
  have h2 : (((plc ws).filter fun p => decide (l ≤ p.2)).map (·.1)).Nodup := List.Nodup.sublist (List.Sublist.map _ List.filter_sublist) h
  unfold topsL
  exact h2.filter _
theorem ofW_lt {ws : List Int} {l : Int} {t : Nat} (h : ofW ws l t = true) : t < ws.length := by
  obtain ⟨x, hx, _⟩ := ofW_iff.mp h
  exact (List.getElem?_eq_some_iff.mp hx).1
theorem tops_len {ws : List Int} {m : BL} {l : Int} : (topsL ws m l).length = (tops ws.length (getN m) (ofW ws l)).length := by
  refine (perm_of_mem topsL_nd (by unfold tops; exact List.nodup_range.filter _) fun t => ?_).length_eq
  rw [topsL_mem]
  unfold tops
  rw [List.mem_filter, List.mem_range, Bool.and_eq_true, Option.isNone_iff_eq_none]
  exact ⟨fun z => ⟨ofW_lt z.1, z⟩, fun z => z.2⟩
/-- the greatest number of things of at least this weight, none below another -/
theorem good_max {ws : List Int} {ps : BL} {m : BL} (I : LotIn ws ps) (nd : ps.Nodup) (g : LotGood ws ps m) (l : Int) : MaxA ws.length (rowF ps) (fun t => ofW ws l t = true) (topsL ws m l).length := by
  rw [tops_len]
  refine maxA_tops (ordd_of I nd) (mtch_of g) (fun x y hx hy hp => ?_) (cert_of g l)
  obtain ⟨a, ha, hl⟩ := ofW_iff.mp hp
  have hps := rowF_mem.mp hy
  have hy2 := (I.lt _ hps).2
  have hb : ws[y]? = some ws[y] := List.getElem?_eq_getElem hy2
  have := I.up _ hps a ws[y] ha hb
  exact ofW_iff.mpr ⟨ws[y], hb, by omega⟩
theorem good_uniq {ws : List Int} {ps : BL} {m m' : BL} (I : LotIn ws ps) (nd : ps.Nodup) (g : LotGood ws ps m) (g' : LotGood ws ps m') (l : Int) : (topsL ws m l).length = (topsL ws m' l).length := (good_max I nd g l).uniq (good_max I nd g' l)
end NK
end

section
set_option Elab.async false
set_option linter.all false
set_option maxRecDepth 100000
set_option maxHeartbeats 400000
namespace NK
open PySem PySem.Spec L2
open PyProof.Rows hiding St
/-! ### chains -/
theorem good_edge {ws : List Int} {ps : BL} {m : BL} (g : LotGood ws ps m) {x y : Nat} (h : getN m x = some y) : (x, y) ∈ ps := rowF_mem.mp ((mtch_of g).edge x y h).2
theorem upC_mem {m ps : BL} (he : ∀ x y, getN m x = some y → (x, y) ∈ ps) (tr : ∀ i j k, (i, j) ∈ ps → (j, k) ∈ ps → (i, k) ∈ ps) : ∀ (k x j : Nat), j ∈ upC m k x → j = x ∨ (x, j) ∈ ps
  | 0, x, j, h => .inl (List.mem_singleton.mp h)
  | k + 1, x, j, h => by
    unfold upC at h
    cases e : getN m x with
    | none => rw [e] at h; exact .inl (List.mem_singleton.mp h)
    | some y =>
      rw [e] at h
      rcases List.mem_cons.mp h with h | h
      · exact .inl h
      · rcases upC_mem he tr k y j h with rfl | h
        · exact .inr (he x _ e)
        · exact .inr (tr _ _ _ (he x y e) h)
theorem upC_pair {m ps : BL} (he : ∀ x y, getN m x = some y → (x, y) ∈ ps) (tr : ∀ i j k, (i, j) ∈ ps → (j, k) ∈ ps → (i, k) ∈ ps) : ∀ (k x : Nat), (upC m k x).Pairwise fun i j => (i, j) ∈ ps
  | 0, x => List.pairwise_singleton _ _
  | k + 1, x => by
    unfold upC
    cases e : getN m x with
    | none => exact List.pairwise_singleton _ _
    | some y =>
      refine List.pairwise_cons.mpr ⟨fun j hj => ?_, upC_pair he tr k y⟩
      rcases upC_mem he tr k y j hj with rfl | h
      · exact he x _ e
      · exact tr _ _ _ (he x y e) h
theorem upC_ne (m : BL) : ∀ k x, upC m k x ≠ []
  | 0, x => by simp [upC]
  | k + 1, x => by
    unfold upC
    cases getN m x <;> simp
theorem chIn_of {ws : List Int} {ps : BL} {m : BL} (I : LotIn ws ps) (nd : ps.Nodup) (g : LotGood ws ps m) : ChIn m ws.length := by
  have O := ordd_of I nd
  have n48 := I.n48
  have hl : ∀ x, (rowF ps x).length ≤ 48 := fun x => Nat.le_trans (sub_len (rowF_nd nd x) fun y hy => List.mem_range.mpr (I.lt _ (rowF_mem.mp hy)).2) (by rw [List.length_range]; exact n48)
  refine ⟨n48, ?_, fun x => (rowF ps x).length, hl, fun x y h => ?_⟩
  · obtain ⟨ab, ord, b, J, hv, mi, rfl⟩ := g
    have := blen_of (ab := ab) n48 (fun l h hh => (I.lt _ ((J.mem l h).mp hh)).2) mi.ok
    unfold swapN
    rw [List.length_map]
    exact this
  · have hp := good_edge g h
    exact ab_less O (I.lt _ hp).1 (rowF_mem.mpr hp)
theorem chs_lt {ws : List Int} {ps : BL} {m : BL} (I : LotIn ws ps) (g : LotGood ws ps m) {c : List Nat} (hc : c ∈ chs ws.length m) : (∀ i ∈ c, i < ws.length) ∧ c.Pairwise (fun i j => (i, j) ∈ ps) ∧ c ≠ [] ∧ c.length ≤ 49 := by
  unfold chs at hc
  obtain ⟨x, hx, rfl⟩ := List.mem_map.mp hc
  unfold begs at hx
  have hx := List.mem_range.mp (List.mem_filter.mp hx).1
  have he := fun x y (h : getN m x = some y) => good_edge g h
  refine ⟨fun i hi => ?_, upC_pair he I.tr 48 x, upC_ne m 48 x, upC_len m 48 x⟩
  rcases upC_mem he I.tr 48 x i hi with rfl | h
  · exact hx
  · exact (I.lt _ h).2
theorem chain_nd {ps : BL} (ne : ∀ p ∈ ps, p.1 ≠ p.2) {c : List Nat} (h : c.Pairwise fun i j => (i, j) ∈ ps) : c.Nodup := h.imp fun {a b} z e => ne _ z e
theorem pick_ch {qs : List Qn} (ok : ∀ q ∈ qs, QOk q) {c : List Nat} (h : c.Pairwise fun i j => (i, j) ∈ prs qs) : ChOk (pick qs c) := by
  refine ⟨fun q hq => ?_, ?_⟩
  · unfold pick at hq
    obtain ⟨i, _, hi⟩ := List.mem_filterMap.mp hq
    exact ok q (List.mem_of_getElem? hi)
  · unfold pick
    rw [List.pairwise_filterMap]
    refine h.imp fun {i j} z q hq r hr => ?_
    obtain ⟨q', r', h1, h2, h3⟩ := prs_mem.mp z
    rw [h1] at hq
    rw [h2] at hr
    cases hq
    cases hr
    exact h3
theorem chs_cnt {n : Nat} {m : BL} : (chs n m).length ≤ n := by
  unfold chs begs
  rw [List.length_map]
  exact Nat.le_trans (List.length_filter_le _ _) (by rw [List.length_range]; exact Nat.le_refl _)
/-- what is counted, whatever the match -/
noncomputable def cntV (ws : List Int) (ps : BL) (l : Int) : Nat := open Classical in if h : ∃ k, MaxA ws.length (rowF ps) (fun t => ofW ws l t = true) k then h.choose else 0
noncomputable def sumV (ws : List Int) (ps : BL) : Int := ((stp ws).map fun p => p.2 * (cntV ws ps p.1 : Int)).sum
theorem cntV_eq {ws : List Int} {ps : BL} {m : BL} (I : LotIn ws ps) (nd : ps.Nodup) (g : LotGood ws ps m) (l : Int) : (topsL ws m l).length = cntV ws ps l := by
  have h : ∃ k, MaxA ws.length (rowF ps) (fun t => ofW ws l t = true) k := ⟨_, good_max I nd g l⟩
  unfold cntV
  rw [dif_pos h]
  exact (good_max I nd g l).uniq h.choose_spec
theorem sumV_eq {ws : List Int} {ps : BL} {m : BL} (I : LotIn ws ps) (nd : ps.Nodup) (g : LotGood ws ps m) : lsum ws m = sumV ws ps := by
  unfold lsum sumV
  congr 1
  refine List.map_congr_left fun p _ => ?_
  rw [cntV_eq I nd g]
noncomputable def fewV (qs : List Qn) : Nat := cntV (qs.map fun _ => 1) (prs qs) 0
noncomputable def costV (f : Str → Int) (qs : List Qn) : Int := sumV (qs.map (wq f)) (prs qs)
theorem in_plain {qs : List Qn} (A : AkOk qs) : LotIn (qs.map fun _ => 1) (prs qs) := lotIn_qs (g := fun _ => 1) A (fun q _ => ⟨by decide, by decide⟩) fun q _ r _ _ => Int.le_refl _
theorem in_wq {qs : List Qn} {f : Str → Int} (A : AkOk qs) (h : WtOk f) : LotIn (qs.map (wq f)) (prs qs) := lotIn_qs A (fun q hq => wsum_ok h (A.ok q hq).ne (A.ok q hq).colsOk.len) fun q hq r _ hb => wq_up h (A.ok q hq) hb
section
variable {P : Program} {w : World} {K : PySem.W.Frag} {mg : Str → Option Value} {base : Heap}
theorem g_rep1 {σ : L2.St} {S : Hp} {ta tb : TE} {d : PyData} {n : Nat} (ha : G ta σ S (L0 K [d])) (hb : G tb σ S (Is (.int (n : Nat)))) (hn : n ≤ 100) : G (tOp rRep ta tb) σ S (L0 K (List.replicate n d)) :=
  g_op ha up_l0 hb fun x y S1 H1 _ c ⟨p, vs, e1, e2, e3⟩ hy Q q => ⟨p, n, vs, e1, hy, c _ _ e2, by omega, by omega, by
    rw [DpAll.len e3]
    exact Nat.le_trans (by simp; omega : _ ≤ 100) (by decide), fun l hl => by
      refine q _ _ _ (Gw.new c hl) ⟨l, _, rfl, upd_same, dall_new ?_ (c.free hl)⟩
      have : ∀ k : Nat, DpAll K S1 (List.replicate k vs).flatten (List.replicate k d) := fun k => by
        induction k with
        | zero => exact .nil
        | succ k ih =>
          rw [List.replicate_succ, List.replicate_succ, List.flatten_cons]
          exact DpAll.app e3 ih
      have e : (n : Int).toNat = n := by omega
      rw [e]
      exact this n⟩
theorem asked_at {qs : List Qn} {m : Str} (hm : (m == ("kept_questions" : Str)) = false := by decide) : ∀ v S, AskedV K qs v S → ∃ p dx fs, v = .ref p ∧ S p = some (.ins (He.ga K "Asked") dx fs) ∧ fs.lookup m = none := i1_at hm
theorem g_qs {σ : L2.St} {S : Hp} {te : TE} {qs : List Qn} (h : G te σ S (AskedV K qs)) : G (tM "Asked" "questions" K (sp_Asked_questions K) te tNil) σ S (D K (.list (qs.map encQ))) := g_m0 (α := List Qn) (A := fun qs => AskedV K qs) (a := qs) h asked_at
theorem g_prs {σ : L2.St} {S : Hp} {te : TE} {qs : List Qn} (A : AkOk qs) (h : G te σ S (D K (.list (qs.map encQ)))) : G (tF (sp_pairs_of K) (tCons te tNil)) σ S (L0 K ((prs qs).map encN)) :=
  g_callM (a := (⟨qs, A.ok, Nat.le_trans A.len (by decide)⟩ : {z : List Qn // (∀ q ∈ z, QOk q) ∧ z.length ≤ 48})) (ga_one h)
abbrev n_plain_lot : List Str := ["asked"]
theorem sc_plain_lot : FnScope n_plain_lot ["asked"] (defScope s_plain_lot) := ⟨rfl, rfl, rfl, by decide +kernel, rfl, by decide +kernel, by decide +kernel⟩
abbrev sp_plain_lot (K : PySem.W.Frag) : Sp := Pu (fun (z : {qs : List Qn // AkOk qs}) => A1 (AskedV K z.1)) (fun z v S => ∃ m, LotGood (z.1.map fun _ => 1) (prs z.1) m ∧ LotV K (z.1.map fun _ => 1) m v S)
theorem ok_plain_lot (T : Fx K mg) : Cal P w K mg base 54 "plain_lot" (sp_plain_lot K) := by
  obtain ⟨fd, Fn⟩ := T.d_plain_lot
  refine ⟨fn_pos Fn sc_plain_lot (fun vs H Q E h => ?_) (fun _ _ _ _ _ _ us hl => match us, hl with | [_], _ => rfl) (fun cdv A outer s H vs Q E hr h => ?_), T.g_plain_lot, Fn.kp⟩
  · obtain ⟨_, _, _, ⟨_, rfl, _⟩, _⟩ := h
    rfl
  · obtain ⟨⟨qs, A⟩, S, hS, ⟨va, rfl, hv⟩, k⟩ := h
    have l15 := A.len
    refine ⟨_, pss_one (ps_ret (StX.pe_makeR T.mk_Lot ((ok_Lot___init__ T).mono (by decide : 52 ≤ 52)).run (hr.mono (by decide)) rfl T.g_Lot pass0 (pa_cons (pe_op op_rep (pe_lst (pa_cons pe_int pa_nil))
        (pe_callB (cr_lenO ((ok_Asked___len__ T).mono (by decide : 1 ≤ 52)) (hr.mono (by decide))) rfl T.b_len bt_len (pa_cons (pv 0) pa_nil))) (pa_cons (pe_f ((ok_pairs_of T).mono (by decide : 9 ≤
        53)) (hr.mono (by decide)) (pa_cons (pe_m0K (K := K) ((ok_Asked_questions T).mono (by decide : 1 ≤ 53)) (hr.mono (by decide)) (pv 0)) pa_nil)) pa_nil)))), ?_⟩
    refine s_ret (R := fun v S => ∃ m, LotGood (qs.map fun _ => 1) (prs qs) m ∧ LotV K (qs.map fun _ => 1) m v S) (g_lot ?_ (g_l0D (g_prs A (g_qs (g_var rfl hv up_i1)))) (in_plain A)) hS k
    have e : (qs.map fun _ => (1 : Int)).map PyData.int = List.replicate qs.length (.int 1) := by
      rw [List.map_map]
      exact List.map_const' ..
    rw [e]
    exact g_l0D (g_rep1 (g_lst0 (ga_dc (g_dInt g_c) ga_d0) (by simp)) (g_lenO (α := List Qn) (A := fun qs => AskedV K qs) (f := fun qs => qs.length) (a := qs) (g_var rfl hv up_i1) asked_at (by omega)) (by omega))
abbrev n_fewest : List Str := ["asked"]
theorem sc_fewest : FnScope n_fewest ["asked"] (defScope s_fewest) := ⟨rfl, rfl, rfl, by decide +kernel, rfl, by decide +kernel, by decide +kernel⟩
noncomputable abbrev sp_fewest (K : PySem.W.Frag) : Sp := Pu (fun (z : {qs : List Qn // AkOk qs}) => A1 (AskedV K z.1)) (fun z => Is (.int (fewV z.1 : Nat)))
theorem ok_fewest (T : Fx K mg) : Cal P w K mg base 55 "fewest" (sp_fewest K) := by
  obtain ⟨fd, Fn⟩ := T.d_fewest
  refine ⟨fn_pos Fn sc_fewest (fun vs H Q E h => ?_) (fun _ _ _ _ _ _ us hl => match us, hl with | [_], _ => rfl) (fun cdv A outer s H vs Q E hr h => ?_), T.g_fewest, Fn.kp⟩
  · obtain ⟨_, _, _, ⟨_, rfl, _⟩, _⟩ := h
    rfl
  · obtain ⟨⟨qs, A⟩, S, hS, ⟨va, rfl, hv⟩, k⟩ := h
    have I := in_plain A
    refine ⟨_, pss_one (ps_ret (pe_m0K (K := K) ((ok_Lot_width T).mono (by decide : 2 ≤ 54)) (hr.mono (by decide)) (pe_f ((ok_plain_lot T).mono (by decide : 54 ≤ 54)) (hr.mono (by decide)) (pa_cons (pv 0)
        pa_nil)))), ?_⟩
    refine s_ret (R := Is (.int (fewV qs : Nat))) ?_ hS k
    refine g_mX (α := {z : List Int × BL // z.1.length ≤ 48}) (A := fun z => LotV K z.1.1 z.1.2) (R := fun z => Is (.int (topsL z.1.1 z.1.2 0).length)) (C := "Lot") (m := "width") (Pp := fun z => z.1.1 = (qs.map fun _ => 1) ∧ LotGood (qs.map fun _ => 1) (prs qs) z.1.2) ((g_call (R := fun (z : {qs : List Qn // AkOk qs}) v S => ∃ m, LotGood (z.1.map fun _ => 1) (prs z.1) m ∧ LotV K (z.1.map fun _ => 1) m v S) (a := (⟨qs, A⟩ : {qs : List Qn // AkOk qs})) (ga_one (g_var rfl hv up_i1))).imp fun v S _ ⟨m, h1, h2⟩ => ⟨⟨(qs.map fun _ => 1, m), I.n48⟩, ⟨rfl, h1⟩, h2⟩) (fun a => lot_at) fun ⟨⟨ws, m⟩, n48⟩ v S ⟨e1, h1⟩ hv => ?_
    have e1 : ws = qs.map fun _ => 1 := e1
    subst e1
    rw [hv]
    show V.int ((topsL (qs.map fun _ => 1) m 0).length : Nat) = _
    rw [cntV_eq I (prs_nodup qs) h1]
    rfl
end
end NK
end

section
set_option Elab.async false
set_option linter.all false
namespace NK
/-! ### sums over levels -/
def isum (g : Int → Int) : Int → Nat → Int
  | _, 0 => 0
  | a, k + 1 => g (a + 1) + isum g (a + 1) k
theorem isum_add (g : Int → Int) : ∀ (j k : Nat) (a : Int), isum g a (j + k) = isum g a j + isum g (a + j) k
  | 0, k, a => by simp [isum]
  | j + 1, k, a => by
    rw [Nat.add_right_comm]
    show g (a + 1) + isum g (a + 1) (j + k) = (g (a + 1) + isum g (a + 1) j) + isum g (a + ((j + 1 : Nat) : Int)) k
    have e : a + 1 + (j : Int) = a + ((j + 1 : Nat) : Int) := by push_cast; omega
    rw [isum_add g j k, e, Int.add_assoc]
theorem isum_const {g : Int → Int} {c : Int} : ∀ (k : Nat) (a : Int), (∀ t, a < t → t ≤ a + k → g t = c) → isum g a k = k * c
  | 0, a, _ => by simp [isum]
  | k + 1, a, h => by
    unfold isum
    rw [isum_const k (a + 1) fun t h1 h2 => h t (by omega) (by push_cast; omega), h (a + 1) (by omega) (by push_cast; omega)]
    push_cast
    rw [Int.add_mul, Int.one_mul, Int.add_comm]
theorem isum_le {g h : Int → Int} : ∀ (k : Nat) (a : Int), (∀ t, a < t → g t ≤ h t) → isum g a k ≤ isum h a k
  | 0, a, _ => by simp [isum]
  | k + 1, a, q => by
    unfold isum
    have h1 := isum_le (g := g) (h := h) k (a + 1) fun t h1 => q t (by omega)
    have h2 := q (a + 1) (by omega)
    omega
theorem isum_plus {g h : Int → Int} : ∀ (k : Nat) (a : Int), isum (fun t => g t + h t) a k = isum g a k + isum h a k
  | 0, a => by simp [isum]
  | k + 1, a => by
    unfold isum
    rw [isum_plus k (a + 1)]
    omega
theorem isum_step {g : Int → Int} : ∀ (ls : List Int) (b : Int) (k : Nat), ls.Pairwise (· < ·) → (∀ x ∈ ls, b < x ∧ x ≤ b + k) →
    (∀ t, b < t → ((∀ x ∈ ls, x < t) → g t = 0) ∧ ∀ l ∈ ls, t ≤ l → (∀ x ∈ ls, x < t ∨ l ≤ x) → g t = g l) → ((stpG b ls).map fun p => p.2 * g p.1).sum = isum g b k
  | [], b, k, _, _, hc => by
    rw [isum_const (c := 0) k b fun t h1 _ => (hc t h1).1 fun x hx => by cases hx]
    simp [stpG]
  | l :: ls, b, k, hp, hb, hc => by
    have hp' := List.pairwise_cons.mp hp
    have hl := hb l List.mem_cons_self
    obtain ⟨j, hj⟩ : ∃ j : Nat, l = b + j := ⟨(l - b).toNat, by omega⟩
    obtain ⟨k', rfl⟩ : ∃ k', k = j + k' := ⟨k - j, by omega⟩
    have ih := isum_step (g := g) ls l k' hp'.2 (fun x hx => ⟨hp'.1 x hx, by have := (hb x (List.mem_cons_of_mem _ hx)).2; push_cast at this; omega⟩) fun t ht => by
      obtain ⟨h1, h2⟩ := hc t (by omega)
      refine ⟨fun h => h1 fun x hx => ?_, fun x hx hxt h => h2 x (List.mem_cons_of_mem _ hx) hxt fun y hy => ?_⟩
      · rcases List.mem_cons.mp hx with rfl | hx
        · exact ht
        · exact h x hx
      · rcases List.mem_cons.mp hy with rfl | hy
        · exact .inl ht
        · exact h y hy
    rw [isum_add, ← hj, ← ih, isum_const (c := g l) j b fun t h1 h2 => (hc t h1).2 l List.mem_cons_self (by omega) fun x hx => ?_]
    · show (l - b) * g l + _ = _
      rw [show l - b = (j : Int) by omega]
      rfl
    · rcases List.mem_cons.mp hx with rfl | hx
      · exact .inr (Int.le_refl _)
      · exact .inr (Int.le_of_lt (hp'.1 x hx))
/-! ### how many can stand apart -/
theorem nat_top {P : Nat → Prop} : ∀ (b k : Nat), P k → (∀ j, P j → j ≤ k + b) → ∃ m, P m ∧ ∀ j, P j → j ≤ m
  | 0, k, hk, hb => ⟨k, hk, hb⟩
  | b + 1, k, hk, hb => by
    by_cases h : ∃ j, k < j ∧ P j
    · obtain ⟨j, h1, h2⟩ := h
      exact nat_top b j h2 fun i hi => by have := hb i hi; omega
    · exact ⟨k, hk, fun j hj => Nat.le_of_not_lt fun z => h ⟨j, z, hj⟩⟩
theorem maxA_ex (n : Nat) (ab : Nat → List Nat) (P : Nat → Prop) : ∃ k, MaxA n ab P k := by
  obtain ⟨m, h1, h2⟩ := nat_top (P := fun k => ∃ A : List Nat, A.Nodup ∧ (∀ x ∈ A, x < n ∧ P x) ∧ Anti ab A ∧ A.length = k) n 0 ⟨[], List.nodup_nil, (fun x h => by cases h), (fun x h => by cases h), rfl⟩ fun j ⟨A, nd, h, _, e⟩ => by
    have := sub_len nd (m := List.range n) fun x hx => List.mem_range.mpr (h x hx).1
    rw [List.length_range] at this
    omega
  exact ⟨m, h1, fun A nd h an => h2 _ ⟨A, nd, h, an, rfl⟩⟩
theorem cnt_max (ws : List Int) (ps : BL) (l : Int) : MaxA ws.length (rowF ps) (fun t => ofW ws l t = true) (cntV ws ps l) := by
  have h := maxA_ex ws.length (rowF ps) fun t => ofW ws l t = true
  unfold cntV
  rw [dif_pos h]
  exact h.choose_spec
/-- a row of numbers that stand apart, all of weight l at least -/
structure AntW (ws : List Int) (ps : BL) (l : Int) (A : List Nat) : Prop where
  nd : A.Nodup
  wt : ∀ x ∈ A, ofW ws l x = true
  an : ∀ x ∈ A, ∀ y ∈ A, (x, y) ∉ ps
theorem AntW.le {ws : List Int} {ps : BL} {l : Int} {A : List Nat} (h : AntW ws ps l A) : A.length ≤ cntV ws ps l := (cnt_max ws ps l).2 A h.nd (fun x hx => ⟨ofW_lt (h.wt x hx), h.wt x hx⟩) fun x hx y hy z => h.an x hx y hy (rowF_mem.mp z)
theorem ant_ex (ws : List Int) (ps : BL) (l : Int) : ∃ A, AntW ws ps l A ∧ A.length = cntV ws ps l := by
  obtain ⟨A, nd, h, an, e⟩ := (cnt_max ws ps l).1
  exact ⟨A, ⟨nd, fun x hx => (h x hx).2, fun x hx y hy z => an x hx y hy (rowF_mem.mpr z)⟩, e⟩
theorem cnt_congr {ws : List Int} {ps : BL} {l t : Int} (h : ∀ i, ofW ws l i = ofW ws t i) : cntV ws ps l = cntV ws ps t := by
  obtain ⟨A, a1, a2⟩ := ant_ex ws ps l
  obtain ⟨B, b1, b2⟩ := ant_ex ws ps t
  have x := (show AntW ws ps t A from ⟨a1.nd, fun x hx => (h x).symm.trans (a1.wt x hx), a1.an⟩).le
  have y := (show AntW ws ps l B from ⟨b1.nd, fun x hx => (h x).trans (b1.wt x hx), b1.an⟩).le
  omega
/-- the least sum, level by level -/
theorem sumV_int {ws : List Int} {ps : BL} {M : Nat} (h : ∀ x ∈ ws, 1 ≤ x ∧ x ≤ (M : Int)) : sumV ws ps = isum (fun t => (cntV ws ps t : Int)) 0 M := by
  unfold sumV stp
  refine isum_step (g := fun t => (cntV ws ps t : Int)) (lvls ws) 0 M (lvls_lt ws) (fun x hx => ?_) fun t ht => ⟨fun hx => ?_, fun l hl htl hx => ?_⟩
  · have := h x (lvls_mem.mp hx)
    omega
  · obtain ⟨A, a1, a2⟩ := ant_ex ws ps t
    cases A with
    | nil =>
      show (cntV ws ps t : Int) = 0
      rw [← a2]
      rfl
    | cons i A =>
      exfalso
      obtain ⟨x, e1, e2⟩ := ofW_iff.mp (a1.wt i List.mem_cons_self)
      have := hx x (lvls_mem.mpr (List.mem_of_getElem? e1))
      omega
  · show (cntV ws ps t : Int) = cntV ws ps l
    rw [cnt_congr (l := t) (t := l) fun i => ?_]
    unfold ofW
    cases e : ws[i]? with
    | none => rfl
    | some y =>
      have := hx y (lvls_mem.mpr (List.mem_of_getElem? e))
      by_cases h1 : l ≤ y
      · show decide (t ≤ y) = decide (l ≤ y)
        rw [decide_eq_true h1, decide_eq_true (by omega)]
      · show decide (t ≤ y) = decide (l ≤ y)
        rw [decide_eq_false h1, decide_eq_false (by omega)]
/-! ### plain weights -/
def cntW (ws : List Int) (l : Int) : Nat := ((plc ws).filter fun p => decide (l ≤ p.2)).length
def ixW (ws : List Int) (l : Int) : List Nat := ((plc ws).filter fun p => decide (l ≤ p.2)).map (·.1)
theorem ixW_len {ws : List Int} {l : Int} : (ixW ws l).length = cntW ws l := List.length_map ..
theorem ixW_mem {ws : List Int} {l : Int} {i : Nat} : i ∈ ixW ws l ↔ ofW ws l i = true := by
  unfold ixW
  rw [List.mem_map, ofW_iff]
  constructor
  · rintro ⟨p, hp, rfl⟩
    have hp := List.mem_filter.mp hp
    exact ⟨p.2, plc_mem.mp hp.1, of_decide_eq_true hp.2⟩
  · rintro ⟨x, h1, h2⟩
    exact ⟨(i, x), List.mem_filter.mpr ⟨plc_mem.mpr h1, decide_eq_true h2⟩, rfl⟩
theorem ixW_nd {ws : List Int} {l : Int} : (ixW ws l).Nodup := by
  have h : ((plc ws).map (·.1)).Nodup := by
    unfold plc
    rw [List.map_fst_zip (by simp)]
    exact List.nodup_range
  exact List.Nodup.sublist (List.Sublist.map _ List.filter_sublist) h
theorem cntW_filter (ws : List Int) (l : Int) : cntW ws l = (ws.filter fun x => decide (l ≤ x)).length := by
  have h : (plc ws).map (·.2) = ws := by
    unfold plc
    exact List.map_snd_zip (by simp)
  conv => rhs; rw [← h]
  rw [List.filter_map, List.length_map]
  rfl
theorem isum_le_one {x : Int} {M : Nat} (h0 : 0 ≤ x) (h1 : x ≤ (M : Int)) : isum (fun t => if t ≤ x then 1 else 0) 0 M = x := by
  obtain ⟨j, rfl⟩ : ∃ j : Nat, x = j := ⟨x.toNat, by omega⟩
  obtain ⟨k, rfl⟩ : ∃ k, M = j + k := ⟨M - j, by omega⟩
  rw [isum_add, isum_const (c := 1) j 0 fun t h1 h2 => if_pos (by omega), isum_const (c := 0) k _ fun t h1 h2 => if_neg (by omega)]
  omega
theorem cntW_int {M : Nat} : ∀ {ws : List Int}, (∀ x ∈ ws, 0 ≤ x ∧ x ≤ (M : Int)) → isum (fun t => (cntW ws t : Int)) 0 M = ws.sum
  | [], _ => by
    rw [isum_const (c := 0) M 0 fun t _ _ => by simp [cntW_filter]]
    simp
  | x :: ws, h => by
    have ih := cntW_int (M := M) (ws := ws) fun y hy => h y (List.mem_cons_of_mem _ hy)
    have hx := h x List.mem_cons_self
    have e : (fun t => (cntW (x :: ws) t : Int)) = fun t => (if t ≤ x then 1 else 0) + (cntW ws t : Int) := by
      funext t
      rw [cntW_filter, cntW_filter, List.filter_cons]
      by_cases h : t ≤ x
      · simp [h]
        omega
      · simp [h]
    rw [e, isum_plus, ih, isum_le_one hx.1 hx.2, List.sum_cons]
end NK
end

section
set_option Elab.async false
set_option linter.all false
namespace NK
/-! ### where a chain ends -/
def endU (m : BL) : Nat → Nat → Nat
  | 0, x => x
  | k + 1, x => match getN m x with
    | some y => endU m k y
    | none => x
theorem endU_none {m : BL} {k x : Nat} (h : getN m x = none) : endU m k x = x := by
  cases k with
  | zero => rfl
  | succ k => unfold endU; rw [h]
theorem endU_some {m : BL} {k x y : Nat} (h : getN m x = some y) : endU m (k + 1) x = endU m k y := by
  conv => lhs; unfold endU
  rw [h]
theorem upC_some {m : BL} {k x y : Nat} (h : getN m x = some y) : upC m (k + 1) x = x :: upC m k y := by
  conv => lhs; unfold upC
  rw [h]
theorem upC_none {m : BL} {k x : Nat} (h : getN m x = none) : upC m k x = [x] := by
  cases k with
  | zero => rfl
  | succ k => unfold upC; rw [h]
theorem upC_last (m : BL) : ∀ k x d, (upC m k x).getLastD d = endU m k x
  | 0, x, d => rfl
  | k + 1, x, d => by
    cases e : getN m x with
    | none => rw [upC_none e, endU_none e]; rfl
    | some y =>
      rw [upC_some e, endU_some e, ← upC_last m k y d]
      cases h : upC m k y with
      | nil => exact absurd h (upC_ne m k y)
      | cons a t => rfl
section
variable {m : BL} {rk : Nat → Nat} (hr : ∀ x y, getN m x = some y → rk y < rk x)
include hr
theorem endU_top : ∀ k x, rk x ≤ k → getN m (endU m k x) = none
  | 0, x, h => by
    cases e : getN m x with
    | none => exact e
    | some y => have := hr x y e; omega
  | k + 1, x, h => by
    cases e : getN m x with
    | none => rw [endU_none e]; exact e
    | some y =>
      rw [endU_some e]
      exact endU_top k y (by have := hr x y e; omega)
theorem endU_fuel : ∀ k x, rk x ≤ k → endU m (k + 1) x = endU m k x
  | 0, x, h => by
    cases e : getN m x with
    | none => rw [endU_none e, endU_none e]
    | some y => have := hr x y e; omega
  | k + 1, x, h => by
    cases e : getN m x with
    | none => rw [endU_none e, endU_none e]
    | some y =>
      rw [endU_some e, endU_some (k := k) e]
      exact endU_fuel k y (by have := hr x y e; omega)
theorem upC_next : ∀ k x x' y, rk x ≤ k → x' ∈ upC m k x → getN m x' = some y → y ∈ upC m k x
  | 0, x, x', y, h, hm, e => by
    cases List.mem_singleton.mp hm
    have := hr x y e
    omega
  | k + 1, x, x', y, h, hm, e => by
    cases e1 : getN m x with
    | none =>
      rw [upC_none e1] at hm
      cases List.mem_singleton.mp hm
      rw [e1] at e
      cases e
    | some z =>
      rw [upC_some e1] at hm ⊢
      rcases List.mem_cons.mp hm with rfl | hm
      · rw [e1] at e
        cases e
        refine List.mem_cons_of_mem _ ?_
        cases e2 : getN m y with
        | none => rw [upC_none e2]; exact List.mem_singleton.mpr rfl
        | some w =>
          cases k with
          | zero => exact List.mem_singleton.mpr rfl
          | succ k => rw [upC_some e2]; exact List.mem_cons_self
      · exact List.mem_cons_of_mem _ (upC_next k z x' y (by have := hr x z e1; omega) hm e)
end
theorem upC_self (m : BL) (k x : Nat) : x ∈ upC m k x := by
  cases k with
  | zero => exact List.mem_singleton.mpr rfl
  | succ k =>
    cases e : getN m x with
    | none => rw [upC_none e]; exact List.mem_singleton.mpr rfl
    | some y => rw [upC_some e]; exact List.mem_cons_self
theorem cnt_in {n : Nat} {vs : List Nat} (nd : vs.Nodup) (h : ∀ v ∈ vs, v < n) : ((List.range n).filter fun t => decide (t ∈ vs)).length = vs.length := by
  refine (perm_of_mem (List.nodup_range.filter _) nd fun x => ?_).length_eq
  rw [List.mem_filter, List.mem_range]
  exact ⟨fun ⟨_, z⟩ => of_decide_eq_true z, fun z => ⟨h x z, decide_eq_true z⟩⟩
theorem perm_sub {α : Type} [DecidableEq α] : ∀ {l m : List α}, l.Nodup → (∀ x ∈ l, x ∈ m) → m.length ≤ l.length → l.Perm m
  | [], m, _, _, h => by
    cases m with
    | nil => exact .refl _
    | cons a t => simp at h
  | x :: l, m, nd, hs, h => by
    have nd' := List.nodup_cons.mp nd
    have hx := hs x List.mem_cons_self
    have ih := perm_sub (l := l) (m := m.erase x) nd'.2 (fun y hy => (List.mem_erase_of_ne fun e => nd'.1 (by rw [← e]; exact hy)).mpr (hs y (List.mem_cons_of_mem _ hy))) (by
      rw [List.length_erase_of_mem hx]
      simp at h
      omega)
    exact (ih.cons x).trans (List.perm_cons_erase hx).symm
theorem len_split {α : Type} (p : α → Bool) : ∀ l : List α, l.length = (l.filter p).length + (l.filter fun x => !p x).length
  | [] => rfl
  | a :: l => by
    have ih := len_split p l
    rw [List.filter_cons, List.filter_cons]
    cases p a <;> simp <;> omega
section
variable {ws : List Int} {ps m : BL} (I : LotIn ws ps) (nd : ps.Nodup) (g : LotGood ws ps m)
include I nd g
theorem chain_of : ∀ i, i < ws.length → ∃ x ∈ begs ws.length m, i ∈ upC m 48 x ∧ endU m 48 x = endU m 48 i := by
  obtain ⟨_, _, rk, h48, hr⟩ := chIn_of I nd g
  have edge := fun x y (h : getN m x = some y) => (I.lt _ (good_edge g h)).1
  have key : ∀ d i, i < ws.length → 48 - rk i ≤ d → ∃ x ∈ begs ws.length m, i ∈ upC m 48 x ∧ endU m 48 x = endU m 48 i := by
    intro d
    induction d with
    | zero =>
      intro i hi hd
      by_cases hb : i ∈ m.map (·.2)
      · obtain ⟨p, hp, rfl⟩ := List.mem_map.mp hb
        obtain ⟨ab, ord, b, J, hv, mi, rfl⟩ := g
        have := hr _ _ (getN_of_mem (one_nd mi.one) hp)
        have := h48 p.1
        have := h48 p.2
        omega
      · exact ⟨i, List.mem_filter.mpr ⟨List.mem_range.mpr hi, by simp only [hb, decide_false, Bool.not_false]⟩, upC_self _ _ _, rfl⟩
    | succ d ih =>
      intro i hi hd
      by_cases hb : i ∈ m.map (·.2)
      · obtain ⟨p, hp, rfl⟩ := List.mem_map.mp hb
        have hg : getN m p.1 = some p.2 := by
          obtain ⟨ab, ord, b, J, hv, mi, rfl⟩ := g
          exact getN_of_mem (one_nd mi.one) hp
        have h1 := hr _ _ hg
        have h2 := h48 p.1
        obtain ⟨x, hx, h3, h4⟩ := ih p.1 (edge _ _ hg) (by omega)
        refine ⟨x, hx, upC_next hr 48 x p.1 p.2 (h48 x) h3 hg, ?_⟩
        rw [h4, endU_some (k := 47) hg, endU_fuel hr 47 p.2 (by omega)]
      · exact ⟨i, List.mem_filter.mpr ⟨List.mem_range.mpr hi, by simp only [hb, decide_false, Bool.not_false]⟩, upC_self _ _ _, rfl⟩
  exact fun i hi => key _ i hi (Nat.le_refl _)
theorem chs_all {i : Nat} (hi : i < ws.length) : ∃ c ∈ chs ws.length m, i ∈ c := by
  obtain ⟨x, h1, h2, _⟩ := chain_of I nd g i hi
  exact ⟨_, List.mem_map.mpr ⟨x, h1, rfl⟩, h2⟩
theorem tops0 {t : Nat} : t ∈ topsL ws m 0 ↔ t < ws.length ∧ getN m t = none := by
  rw [topsL_mem]
  constructor
  · rintro ⟨h1, h2⟩
    exact ⟨ofW_lt h1, h2⟩
  · rintro ⟨h1, h2⟩
    have e := List.getElem?_eq_getElem h1
    have := (I.wt _ (List.getElem_mem h1)).1
    exact ⟨ofW_iff.mpr ⟨_, e, by omega⟩, h2⟩
theorem begs_tops : ((begs ws.length m).map (endU m 48)).Perm (topsL ws m 0) := by
  have hc : (begs ws.length m).length = (topsL ws m 0).length := by
    have e1 : (topsL ws m 0).length = ((List.range ws.length).filter fun t => !decide (t ∈ m.map (·.1))).length := by
      refine (perm_of_mem topsL_nd (List.nodup_range.filter _) fun t => ?_).length_eq
      rw [tops0 I nd g, List.mem_filter, List.mem_range]
      have : getN m t = none ↔ t ∉ m.map (·.1) := getN_none
      rw [this]
      simp
    have s1 := len_split (fun t => decide (t ∈ m.map (·.2))) (List.range ws.length)
    have s2 := len_split (fun t => decide (t ∈ m.map (·.1))) (List.range ws.length)
    have edge := fun x y (h : getN m x = some y) => I.lt _ (good_edge g h)
    obtain ⟨ab, ord, b, J, hv, mi, rfl⟩ := g
    have k1 : ((swapN b).map (·.1)).Nodup := one_nd mi.one
    have k2 : ((swapN b).map (·.2)).Nodup := by
      have : (swapN b).map (·.2) = keysN b := by
        unfold swapN keysN
        rw [List.map_map]
        rfl
      rw [this]
      exact mi.ok.nd
    rw [cnt_in k2 fun v hv => by
      obtain ⟨p, hp, rfl⟩ := List.mem_map.mp hv
      exact (edge _ _ (getN_of_mem k1 hp)).2] at s1
    rw [cnt_in k1 fun v hv => by
      obtain ⟨p, hp, rfl⟩ := List.mem_map.mp hv
      exact (edge _ _ (getN_of_mem k1 hp)).1] at s2
    rw [e1]
    unfold begs
    rw [List.length_map] at s1 s2
    omega
  refine (List.Perm.symm ?_)
  have sub : ∀ t ∈ topsL ws m 0, t ∈ (begs ws.length m).map (endU m 48) := fun t ht => by
    obtain ⟨h1, h2⟩ := (tops0 I nd g).mp ht
    obtain ⟨x, hx, _, h3⟩ := chain_of I nd g t h1
    exact List.mem_map.mpr ⟨x, hx, by rw [h3, endU_none h2]⟩
  exact perm_sub topsL_nd sub (by rw [List.length_map, hc]; exact Nat.le_refl _)
theorem chs_count : (chs ws.length m).length = cntV ws ps 0 := by
  have h := (begs_tops I nd g).length_eq
  rw [List.length_map] at h
  unfold chs
  rw [List.length_map, h, cntV_eq I nd g]
theorem chs_sum : sumV ws ps = ((chs ws.length m).map fun c => ws.getD (c.getLastD 0) 0).sum := by
  obtain ⟨M, hM⟩ : ∃ M : Nat, (10 : Int) ^ 39 ≤ M := ⟨(10 ^ 39 : Int).toNat, by omega⟩
  have e1 : ((chs ws.length m).map fun c => ws.getD (c.getLastD 0) 0) = ((begs ws.length m).map (endU m 48)).map fun t => ws.getD t 0 := by
    unfold chs
    rw [List.map_map, List.map_map]
    refine List.map_congr_left fun x _ => ?_
    show ws.getD ((upC m 48 x).getLastD 0) 0 = ws.getD (endU m 48 x) 0
    rw [upC_last]
  have hw : ∀ y ∈ (topsL ws m 0).map (fun t => ws.getD t 0), 0 ≤ y ∧ y ≤ (M : Int) := fun y hy => by
    obtain ⟨t, ht, rfl⟩ := List.mem_map.mp hy
    have h1 := ((tops0 I nd g).mp ht).1
    rw [List.getD_eq_getElem?_getD, List.getElem?_eq_getElem h1]
    have := I.wt _ (List.getElem_mem h1)
    exact ⟨by show 0 ≤ ws[t]; omega, by show ws[t] ≤ (M : Int); omega⟩
  rw [e1, perm_sum ((begs_tops I nd g).map _), sumV_int (M := M) fun x hx => by have := I.wt x hx; exact ⟨this.1, by omega⟩, ← cntW_int hw]
  congr 1
  funext t
  rw [← cntV_eq I nd g t, cntW_filter, List.filter_map, List.length_map]
  congr 1
  refine (perm_of_mem topsL_nd (topsL_nd.filter _) fun x => ?_).length_eq
  rw [List.mem_filter, topsL_mem, tops0 I nd g, ofW_iff]
  constructor
  · rintro ⟨⟨y, h1, h2⟩, h3⟩
    refine ⟨⟨(List.getElem?_eq_some_iff.mp h1).1, h3⟩, ?_⟩
    show decide (t ≤ ws.getD x 0) = true
    rw [List.getD_eq_getElem?_getD, h1]
    exact decide_eq_true h2
  · rintro ⟨⟨h1, h2⟩, h3⟩
    have h3 : decide (t ≤ ws.getD x 0) = true := h3
    rw [List.getD_eq_getElem?_getD, List.getElem?_eq_getElem h1] at h3
    exact ⟨⟨_, List.getElem?_eq_getElem h1, of_decide_eq_true h3⟩, h2⟩
end
end NK
end

section
set_option Elab.async false
set_option linter.all false
set_option maxRecDepth 100000
set_option maxHeartbeats 400000
namespace NK
open PySem PySem.Spec L2
open PyProof.Rows hiding St
section
variable {P : Program} {w : World} {K : PySem.W.Frag} {mg : Str → Option Value} {base : Heap}
theorem g_uns {σ : L2.St} {S : Hp} {ta tb : TE} {rs : List (List Str)} {qs : List Qn} (h1 : ShOk rs) (h2 : AkOk qs) (ha : G ta σ S (ShelfV K rs)) (hb : G tb σ S (AskedV K qs)) : G (tF (sp_unserved K) (tCons ta (tCons tb tNil))) σ S (AskedV K (left rs qs)) :=
  g_call (R := fun (z : {z : List (List Str) × List Qn // ShOk z.1 ∧ AkOk z.2}) => AskedV K (left z.1.1 z.1.2)) (a := (⟨(rs, qs), h1, h2⟩ : {z : List (List Str) × List Qn // ShOk z.1 ∧ AkOk z.2})) (ga_two ha up_i1 hb)
abbrev n_serves_all : List Str := ["thing", "asked"]
theorem sc_serves_all : FnScope n_serves_all ["thing", "asked"] (defScope s_serves_all) := ⟨rfl, rfl, rfl, by decide +kernel, rfl, by decide +kernel, by decide +kernel⟩
abbrev sp_serves_all (K : PySem.W.Frag) : Sp := Pu (fun (z : {z : List (List Str) × List Qn // ShOk z.1 ∧ AkOk z.2}) => A2 (ShelfV K z.1.1) (AskedV K z.1.2)) (fun z => Is (.bl (decide (left z.1.1 z.1.2 = []))))
theorem ok_serves_all (T : Fx K mg) : Cal P w K mg base 13 "serves_all" (sp_serves_all K) := by
  obtain ⟨fd, Fn⟩ := T.d_serves_all
  refine ⟨fn_pos Fn sc_serves_all (fun vs H Q E h => ?_) (fun _ _ _ _ _ _ us hl => match us, hl with | [_, _], _ => rfl) (fun cdv A outer s H vs Q E hr h => ?_), T.g_serves_all, Fn.kp⟩
  · obtain ⟨_, _, _, ⟨_, _, rfl, _⟩, _⟩ := h
    rfl
  · obtain ⟨⟨⟨rs, qs⟩, h1, h2⟩, S, hS, ⟨va, vb, rfl, hv, hw⟩, k⟩ := h
    refine ⟨_, pss_one (ps_ret (pe_and (pe_callB (r := rIsi K) call_isi rfl T.b_isinstance bt_isinstance (pa_cons (pv 0) (pa_cons (pe_glob (v := .ref (He.ga K "Shelf")) rfl T.g_Shelf rfl) pa_nil))) (pe_one
        (pe_cmpR op_eq (pe_callB (cr_lenO ((ok_Asked___len__ T).mono (by decide : 1 ≤ 11)) (hr.mono (by decide))) rfl T.b_len bt_len (pa_cons (pe_f ((ok_unserved T).mono (by decide : 12 ≤ 12))
        (hr.mono (by decide)) (pa_cons (pv 0) (pa_cons (pv 1) pa_nil))) pa_nil)) pe_int (nomark _))))), ?_⟩
    refine s_ret (R := Is (.bl (decide (left rs qs = [])))) (g_eq (g_and (g_isiO (g_var rfl hv up_i1) (t := .ref (He.ga K "Shelf")) (fun v H1 ⟨a, dx, t, e1, e2, _⟩ => by subst e1; exact tyx_shelf T e2) up_i1 kit_self) fun _ => g_eqS (g_lenO (α := List Qn) (A := fun qs => AskedV K qs) (f := fun qs => qs.length) (a := left rs qs) (g_uns h1 h2 (g_var rfl hv up_i1) (g_var rfl hw up_i1)) asked_at ?_) (g_c (v := .int 0)) rfl) ?_) hS k
    · show (left rs qs).length < 100000
      have := (left_ok (rs := rs) (show AkOk qs from h2)).len
      omega
    · rw [Bool.true_and]
      congr 1
      by_cases e : left rs qs = []
      · rw [decide_eq_true e, e]
        rfl
      · rw [decide_eq_false e]
        have : (left rs qs).length ≠ 0 := fun z => e (List.eq_nil_of_length_eq_zero z)
        exact decide_eq_false fun z => this (by have := V.int.inj z; omega)
abbrev n_lot_of : List Str := ["asked", "weights", "questions", "question"]
theorem sc_lot_of : FnScope n_lot_of ["asked", "weights"] (defScope s_lot_of) := ⟨rfl, rfl, rfl, by decide +kernel, rfl, by decide +kernel, by decide +kernel⟩
abbrev sp_lot_of (K : PySem.W.Frag) : Sp := Pu (fun (z : {z : List Qn × (Str → Int) // AkOk z.1 ∧ WtOk z.2}) => A2 (AskedV K z.1.1) (HvV K z.1.2)) (fun z v S => ∃ m, LotGood (z.1.1.map (wq z.1.2)) (prs z.1.1) m ∧ LotV K (z.1.1.map (wq z.1.2)) m v S)
theorem ok_lot_of (T : Fx K mg) : Cal P w K mg base 54 "lot_of" (sp_lot_of K) := by
  obtain ⟨fd, Fn⟩ := T.d_lot_of
  refine ⟨fn_pos Fn sc_lot_of (fun vs H Q E h => ?_) (fun _ _ _ _ _ _ us hl => match us, hl with | [_, _], _ => rfl) (fun cdv A outer s H vs Q E hr h => ?_), T.g_lot_of, Fn.kp⟩
  · obtain ⟨_, _, _, ⟨_, _, rfl, _⟩, _⟩ := h
    rfl
  · obtain ⟨⟨⟨qs, f⟩, A, F⟩, S, hS, ⟨va, vb, rfl, hv, hw⟩, k⟩ := h
    have A : AkOk qs := A
    have F : WtOk f := F
    have l15 := A.len
    refine ⟨_, pss_cons (ps_set (i := 2) sc_lot_of.nd rfl (by first | exact Or.inl rfl | exact Or.inr rfl) (pe_m0K (K := K) ((ok_Asked_questions T).mono (by decide : 1 ≤ 53)) (hr.mono (by decide)) (pv 0)))
        (pss_one (ps_ret (StX.pe_makeR T.mk_Lot ((ok_Lot___init__ T).mono (by decide : 52 ≤ 52)).run (hr.mono (by decide)) rfl T.g_Lot pass0 (pa_cons (pe_lc (own := [("question", 3)]) rfl sc_lot_of.nd
        (pi_listK (K := K) (pv 2)) (blkOk_by (N := n_lot_of) (sc := defScope s_lot_of) (by decide +kernel)) (fun _ _ _ _ _ => (pg_name (i := 3) sc_lot_of.nd rfl
        (by first | exact Or.inl rfl | exact Or.inr rfl))) (fun _ _ _ _ _ => pts_nil) (fun _ _ _ _ _ => (pe_f ((ok_weight_of T).mono (by decide : 9 ≤ 53)) (hr.mono (by decide)) (pa_cons (pv 3)
        (pa_cons (pv 1) pa_nil))))) (pa_cons (pe_f ((ok_pairs_of T).mono (by decide : 9 ≤ 53)) (hr.mono (by decide)) (pa_cons (pv 2) pa_nil)) pa_nil))))), ?_⟩
    refine q_set (g_qs (g_var rfl hv up_i1)) (.refl hS) fun v S1 H1 e1 s1 dq => ?_
    refine s_retK (R := fun v S => ∃ m, LotGood (qs.map (wq f)) (prs qs) m ∧ LotV K (qs.map (wq f)) m v S) (g_lot ?_ (g_l0D (g_prs A (g_dv rfl dq))) (in_wq A F)) e1 k
    refine g_map1 (wq f) .int (gi_listE (xs := qs) (enc := encQ) (g_dv rfl dq)) (by omega) fun q x S2 s2 hq rx => g_dInt ?_
    exact g_call (R := fun (z : {z : Qn × (Str → Int) // QOk z.1}) => Is (.int (wsum z.1.2 (colsL z.1.1)))) (a := (⟨(q, f), A.ok q hq⟩ : {z : Qn × (Str → Int) // QOk z.1})) (ga_two (g_var rfl rx .d) .d (g_var rfl (up_hv _ _ _ (s1.trans s2) hw) up_hv))
abbrev n_least_cost : List Str := ["asked", "weights"]
theorem sc_least_cost : FnScope n_least_cost ["asked", "weights"] (defScope s_least_cost) := ⟨rfl, rfl, rfl, by decide +kernel, rfl, by decide +kernel, by decide +kernel⟩
noncomputable abbrev sp_least_cost (K : PySem.W.Frag) : Sp := Pu (fun (z : {z : List Qn × (Str → Int) // AkOk z.1 ∧ WtOk z.2}) => A2 (AskedV K z.1.1) (HvV K z.1.2)) (fun z => Is (.int (costV z.1.2 z.1.1)))
theorem ok_least_cost (T : Fx K mg) : CalK P w K mg base 55 "least_cost" 1 (sp_least_cost K) := by
  obtain ⟨fd, Fn⟩ := T.d_least_cost
  refine fn_kw Fn sc_least_cost (fun vs H Q E h => ?_) rfl (fun _ _ _ _ _ _ us z hl => match us, hl with | [_], _ => rfl) (fun D _ _ _ _ _ us ks hl hk => match us, ks, hl, hk with | [_], [_], _, _ => ⟨_, _, _, _, _, _, rfl, rfl, rfl⟩) (fun cdv A outer s H vs Q E hr h => ?_) T.g_least_cost
  · obtain ⟨_, _, _, ⟨_, _, rfl, _⟩, _⟩ := h
    rfl
  · obtain ⟨⟨⟨qs, f⟩, A, F⟩, S, hS, ⟨va, vb, rfl, hv, hw⟩, k⟩ := h
    have I := in_wq (f := f) A F
    refine ⟨_, pss_one (ps_ret (pe_m0K (K := K) ((ok_Lot_least_sum T).mono (by decide : 8 ≤ 54)) (hr.mono (by decide)) (pe_f ((ok_lot_of T).mono (by decide : 54 ≤ 54)) (hr.mono (by decide)) (pa_cons (pv 0)
        (pa_cons (pv 1) pa_nil))))), ?_⟩
    refine s_ret (R := Is (.int (costV f qs))) ?_ hS k
    refine g_mX (α := {z : List Int × BL // z.1.length ≤ 48}) (A := fun z => LotV K z.1.1 z.1.2) (R := fun z => Is (.int (lsum z.1.1 z.1.2))) (C := "Lot") (m := "least_sum") (Pp := fun z => z.1.1 = qs.map (wq f) ∧ LotGood (qs.map (wq f)) (prs qs) z.1.2) ((g_call (R := fun (z : {z : List Qn × (Str → Int) // AkOk z.1 ∧ WtOk z.2}) v S => ∃ m, LotGood (z.1.1.map (wq z.1.2)) (prs z.1.1) m ∧ LotV K (z.1.1.map (wq z.1.2)) m v S) (a := (⟨(qs, f), A, F⟩ : {z : List Qn × (Str → Int) // AkOk z.1 ∧ WtOk z.2})) (ga_two (g_var rfl hv up_i1) up_i1 (g_var rfl hw up_hv))).imp fun v S _ ⟨m, h1, h2⟩ => ⟨⟨(qs.map (wq f), m), I.n48⟩, ⟨rfl, h1⟩, h2⟩) (fun a => lot_at) fun ⟨⟨ws, m⟩, n48⟩ v S ⟨e1, h1⟩ hv => ?_
    have e1 : ws = qs.map (wq f) := e1
    subst e1
    rw [hv]
    show V.int (lsum (qs.map (wq f)) m) = _
    rw [sumV_eq I (prs_nodup qs) h1]
    rfl
/-- the cost of a shelf -/
def shc (f : Str → Int) (rs : List (List Str)) : Int := (rs.map (wsum f)).sum
abbrev n_cost : List Str := ["shelf", "weights", "index"]
theorem sc_cost : FnScope n_cost ["shelf", "weights"] (defScope s_cost) := ⟨rfl, rfl, rfl, by decide +kernel, rfl, by decide +kernel, by decide +kernel⟩
abbrev sp_cost (K : PySem.W.Frag) : Sp := Pu (fun (z : {z : List (List Str) × (Str → Int) // ShOk z.1}) => A2 (ShelfV K z.1.1) (HvV K z.1.2)) (fun z => Is (.int (shc z.1.2 z.1.1)))
theorem ok_cost (T : Fx K mg) : CalK P w K mg base 10 "cost" 1 (sp_cost K) := by
  obtain ⟨fd, Fn⟩ := T.d_cost
  refine fn_kw Fn sc_cost (fun vs H Q E h => ?_) rfl (fun _ _ _ _ _ _ us z hl => match us, hl with | [_], _ => rfl) (fun D _ _ _ _ _ us ks hl hk => match us, ks, hl, hk with | [_], [_], _, _ => ⟨_, _, _, _, _, _, rfl, rfl, rfl⟩) (fun cdv A outer s H vs Q E hr h => ?_) T.g_cost
  · obtain ⟨_, _, _, ⟨_, _, rfl, _⟩, _⟩ := h
    rfl
  · obtain ⟨⟨⟨rs, f⟩, h1⟩, S, hS, ⟨va, vb, rfl, hv, hw⟩, k⟩ := h
    have hl : rs.length ≤ 48 := h1.len
    refine ⟨_, pss_one (ps_ret (pe_callB (r := rSum K) (cr_sum rfl) rfl T.b_sum bt_sum (pa_cons (pe_lc (own := [("index", 2)]) rfl sc_cost.nd (pi_own (f := "kept_indexes") ((ok_Shelf___iter__ T).mono (by
        decide : 1 ≤ 7)) (hr.mono (by decide)) (pv 0)) (blkOk_by (N := n_cost) (sc := defScope s_cost) (by decide +kernel)) (fun _ _ _ _ _ => (pg_name (i := 2) sc_cost.nd rfl
        (by first | exact Or.inl rfl | exact Or.inr rfl))) (fun _ _ _ _ _ => pts_nil) (fun _ _ _ _ _ => (pe_f ((ok_weight_of_index T).mono (by decide : 9 ≤ 9)) (hr.mono (by decide)) (pa_cons (pv 2)
        (pa_cons (pv 1) pa_nil))))) pa_nil))), ?_⟩
    refine s_ret (R := Is (.int (shc f rs))) (g_sum1 (wsum f) (gi_own (g_var rfl hv up_i1)) (by omega) fun r x S1 s1 hr2 rx => ?_) hS k
    exact g_call (R := fun (z : {z : List Str × (Str → Int) // IxOk z.1}) => Is (.int (wsum z.1.2 z.1.1))) (a := (⟨(r, f), h1.ok r hr2⟩ : {z : List Str × (Str → Int) // IxOk z.1})) (ga_two (g_var rfl rx .d) .d (g_var rfl (up_hv _ _ _ s1 hw) up_hv))
/-- the shelf of the chains of a match -/
def nsh (qs : List Qn) (m : BL) : List (List Str) := (chs qs.length m).map fun c => idx (pick qs c)
theorem chs_ok {qs : List Qn} {ws : List Int} {m : BL} (A : AkOk qs) (hl : ws.length = qs.length) (I : LotIn ws (prs qs)) (g : LotGood ws (prs qs) m) : (∀ c ∈ chs qs.length m, (∀ i ∈ c, i < qs.length) ∧ ChOk (pick qs c) ∧ c ≠ [] ∧ c.length ≤ 48) ∧ (chs qs.length m).length ≤ 48 := by
  have l15 := A.len
  refine ⟨fun c hc => ?_, Nat.le_trans chs_cnt (by omega)⟩
  rw [← hl] at hc
  obtain ⟨h1, h2, h3, h4⟩ := chs_lt I g hc
  rw [hl] at h1
  refine ⟨h1, pick_ch A.ok h2, h3, Nat.le_trans (sub_len (chain_nd I.ne h2) fun i hi => List.mem_range.mpr (h1 i hi)) (by rw [List.length_range]; omega)⟩
abbrev n_narrow_shelf : List Str := ["asked", "weights"]
theorem sc_narrow_shelf : FnScope n_narrow_shelf ["asked", "weights"] (defScope s_narrow_shelf) := ⟨rfl, rfl, rfl, by decide +kernel, rfl, by decide +kernel, by decide +kernel⟩
abbrev sp_narrow_shelf (K : PySem.W.Frag) : Sp := Pu (fun (z : {z : List Qn × (Str → Int) // AkOk z.1 ∧ WtOk z.2}) => A2 (AskedV K z.1.1) (HvV K z.1.2)) (fun z v S => ∃ m, LotGood (z.1.1.map (wq z.1.2)) (prs z.1.1) m ∧ ShelfV K (nsh z.1.1 m) v S)
theorem ok_narrow_shelf (T : Fx K mg) : CalK P w K mg base 55 "narrow_shelf" 1 (sp_narrow_shelf K) := by
  obtain ⟨fd, Fn⟩ := T.d_narrow_shelf
  refine fn_kw Fn sc_narrow_shelf (fun vs H Q E h => ?_) rfl (fun _ _ _ _ _ _ us z hl => match us, hl with | [_], _ => rfl) (fun D _ _ _ _ _ us ks hl hk => match us, ks, hl, hk with | [_], [_], _, _ => ⟨_, _, _, _, _, _, rfl, rfl, rfl⟩) (fun cdv A outer s H vs Q E hr h => ?_) T.g_narrow_shelf
  · obtain ⟨_, _, _, ⟨_, _, rfl, _⟩, _⟩ := h
    rfl
  · obtain ⟨⟨⟨qs, f⟩, A, F⟩, S, hS, ⟨va, vb, rfl, hv, hw⟩, k⟩ := h
    have I := in_wq (f := f) A F
    have ql : (qs.map (wq f)).length = qs.length := List.length_map ..
    refine ⟨_, pss_one (ps_ret (pe_f ((ok_shelf_of T).mono (by decide : 13 ≤ 54)) (hr.mono (by decide)) (pa_cons (pe_m0K (K := K) ((ok_Asked_questions T).mono (by decide : 1 ≤ 54)) (hr.mono (by decide)) (pv
        0)) (pa_cons (pe_m0K (K := K) ((ok_Lot_chains T).mono (by decide : 3 ≤ 54)) (hr.mono (by decide)) (pe_f ((ok_lot_of T).mono (by decide : 54 ≤ 54)) (hr.mono (by decide)) (pa_cons (pv 0)
        (pa_cons (pv 1) pa_nil)))) pa_nil)))), ?_⟩
    refine s_ret (R := fun v S => ∃ m, LotGood (qs.map (wq f)) (prs qs) m ∧ ShelfV K (nsh qs m) v S) ?_ hS k
    refine (g_callX (α := {z : List Qn × List (List Nat) // (∀ c ∈ z.2, (∀ i ∈ c, i < z.1.length) ∧ ChOk (pick z.1 c) ∧ c ≠ [] ∧ c.length ≤ 48) ∧ z.2.length ≤ 48}) (A := fun z => A2 (D K (.list (z.1.1.map encQ))) (LsR (fun c => L0 K (encNs c)) z.1.2)) (Rr := fun z => ShelfV K (z.1.2.map fun c => idx (pick z.1.1 c))) (Pp := fun z => ∃ m, LotGood (qs.map (wq f)) (prs qs) m ∧ z.1 = (qs, chs qs.length m)) ((ga_two (T := fun v S => ∃ m, LotGood (qs.map (wq f)) (prs qs) m ∧ LsR (fun c => L0 K (encNs c)) (chs qs.length m) v S) (g_qs (g_var rfl hv up_i1)) .d ?_).imp ?_)).imp ?_
    · refine g_mX (α := {z : List Int × BL // ChIn z.2 z.1.length}) (A := fun z => LotV K z.1.1 z.1.2) (R := fun z => LsR (fun c => L0 K (encNs c)) (chs z.1.1.length z.1.2)) (C := "Lot") (m := "chains") (Pp := fun z => z.1.1 = qs.map (wq f) ∧ LotGood (qs.map (wq f)) (prs qs) z.1.2) ((g_call (R := fun (z : {z : List Qn × (Str → Int) // AkOk z.1 ∧ WtOk z.2}) v S => ∃ m, LotGood (z.1.1.map (wq z.1.2)) (prs z.1.1) m ∧ LotV K (z.1.1.map (wq z.1.2)) m v S) (a := (⟨(qs, f), A, F⟩ : {z : List Qn × (Str → Int) // AkOk z.1 ∧ WtOk z.2})) (ga_two (g_var rfl hv up_i1) up_i1 (g_var rfl hw up_hv))).imp fun v S _ ⟨m, h1, h2⟩ => ⟨⟨(qs.map (wq f), m), chIn_of I (prs_nodup qs) h1⟩, ⟨rfl, h1⟩, h2⟩) (fun a => lot_at) fun ⟨⟨ws, m⟩, ci⟩ v S ⟨e1, h1⟩ hv => ?_
      have e1 : ws = qs.map (wq f) := e1
      subst e1
      have hv : LsR (fun c => L0 K (encNs c)) (chs (qs.map (wq f)).length m) v S := hv
      rw [ql] at hv
      exact ⟨m, h1, hv⟩
    · rintro vs S2 _ ⟨v, u, e1, h1, m, hg, h2⟩
      exact ⟨⟨(qs, chs qs.length m), chs_ok A ql I hg⟩, ⟨m, hg, rfl⟩, v, u, e1, h1, h2⟩
    · rintro v S2 _ ⟨⟨⟨qs2, cs⟩, c1⟩, ⟨m, hg, e1⟩, h2⟩
      have e1 : (qs2, cs) = (qs, chs qs.length m) := e1
      obtain ⟨rfl, rfl⟩ := Prod.mk.inj e1
      exact ⟨m, hg, h2⟩
end
end NK
end

section
set_option Elab.async false
set_option linter.all false
set_option maxRecDepth 100000
set_option maxHeartbeats 400000
namespace NK
open PySem PySem.Spec L2
open PyProof.Rows hiding St
section
variable {P : Program} {w : World} {K : PySem.W.Frag} {mg : Str → Option Value} {base : Heap}
section
variable {σ : L2.St} {S : Hp} {ta tb tc tz : TE} {α : Type} {A : α → List V → Hp → Prop} {R : α → Rel} {a : α} {RX RY RW RZ : Rel}
theorem g_k1 (hx : G ta σ S RX) (ux : Up RX) (hz : G tz σ S RZ) (hA : ∀ v z S, RX v S → RZ z S → A a [v, z] S) : G (tK 1 (Pu A R) (tCons ta tNil) (tCons tz tNil)) σ S (R a) :=
  g_callK (ga_one hx) (fun vs S S' e ⟨v, e1, h1⟩ => ⟨v, e1, ux _ _ _ e h1⟩) (ga_one hz) fun vs z S' _ ⟨v, e1, h1⟩ h2 => by
    subst e1
    exact ⟨rfl, hA v z S' h1 h2⟩
theorem g_k2 (hx : G ta σ S RX) (ux : Up RX) (hy : G tb σ S RY) (uy : Up RY) (hz : G tz σ S RZ) (hA : ∀ v u z S, RX v S → RY u S → RZ z S → A a [v, u, z] S) : G (tK 2 (Pu A R) (tCons ta (tCons tb tNil)) (tCons tz tNil)) σ S (R a) :=
  g_callK (ga_two hx ux hy) (fun vs S S' e ⟨v, u, e1, h1, h2⟩ => ⟨v, u, e1, ux _ _ _ e h1, uy _ _ _ e h2⟩) (ga_one hz) fun vs z S' _ ⟨v, u, e1, h1, h2⟩ h3 => by
    subst e1
    exact ⟨rfl, hA v u z S' h1 h2 h3⟩
end
/-- whether an index is under a question -/
def under (r : List Str) (q : Qn) : Bool := r.all fun c => decide (c ∈ q.1)
abbrev n_is_under : List Str := ["index", "question", "column"]
theorem sc_is_under : FnScope n_is_under ["index", "question"] (defScope s_is_under) := ⟨rfl, rfl, rfl, by decide +kernel, rfl, by decide +kernel, by decide +kernel⟩
abbrev sp_is_under (K : PySem.W.Frag) : Sp := Pu (fun (q : {q : List Str × Qn // IxOk q.1 ∧ QOk q.2}) => A2 (D K (encC q.1.1)) (D K (encQ q.1.2))) (fun q => Is (.bl (under q.1.1 q.1.2)))
theorem ok_is_under (T : Fx K mg) : Cal P w K mg base 1 "is_under" (sp_is_under K) := by
  obtain ⟨fd, Fn⟩ := T.d_is_under
  refine ⟨fn_pos Fn sc_is_under (fun vs H Q E h => ?_) (fun _ _ _ _ _ _ us hl => match us, hl with | [_, _], _ => rfl) (fun cdv A outer s H vs Q E hr h => ?_), T.g_is_under, Fn.kp⟩
  · obtain ⟨_, _, _, ⟨_, _, rfl, _⟩, _⟩ := h
    rfl
  · obtain ⟨⟨⟨r, q⟩, hq, hr'⟩, S, hS, ⟨_, _, rfl, hv, hw⟩, k⟩ := h
    have hq : IxOk r := hq
    have hl : r.length ≤ 12 := hq.cols.len
    refine ⟨_, pss_one (ps_ret (pe_callB (r := rAll K) (cr_all rfl) rfl T.b_all bt_all (pa_cons (pe_lc (own := [("column", 2)]) rfl sc_is_under.nd (pi_tupK (K := K) (pv 0)) (blkOk_by (N := n_is_under) (sc :=
        defScope s_is_under) (by decide +kernel)) (fun _ _ _ _ _ => (pg_name (i := 2) sc_is_under.nd rfl (by first | exact Or.inl rfl | exact Or.inr rfl))) (fun _ _ _ _ _ => pts_nil) (fun _ _ _ _ _ =>
        (pe_cmpR (r := rIn K false) op_in_seq (pv 2) (pe_ix (r := rIxT K) ix_tup (pv 1) pe_int (fun _ _ => rfl)) rfl))) pa_nil))), ?_⟩
    refine s_ret (R := Is (.bl (under r q))) ?_ hS k
    refine g_eq (g_all1 (fun d => match d with | .str c => decide (c ∈ q.1) | _ => true) (gi_tup (g_dv rfl hv)) (by simp; omega) fun d x S2 e2 hd rx => ?_) ?_
    · obtain ⟨c, _, rfl⟩ := List.mem_map.mp hd
      exact g_inS (g_isStr (g_dv rfl rx)) (g_seqT (g_ixT (i := 0) (ds := [encC q.1, .str q.2]) (g_dv rfl (Dp.up e2 hw)) g_c rfl))
    · rw [List.all_map]
      rfl
abbrev n_least_more : List Str := ["asked", "standing", "weights", "rest"]
theorem sc_least_more : FnScope n_least_more ["asked", "standing", "weights"] (defScope s_least_more) := ⟨rfl, rfl, rfl, by decide +kernel, rfl, by decide +kernel, by decide +kernel⟩
noncomputable abbrev sp_least_more (K : PySem.W.Frag) : Sp := Pu (fun (z : {z : (List Qn × List (List Str)) × (Str → Int) // AkOk z.1.1 ∧ ShOk z.1.2 ∧ WtOk z.2}) => A3 (AskedV K z.1.1.1) (ShelfV K z.1.1.2) (HvV K z.1.2)) (fun z => D K (.tuple [.int (fewV (left z.1.1.2 z.1.1.1) : Nat), .int (costV z.1.2 (left z.1.1.2 z.1.1.1))]))
theorem ok_least_more (T : Fx K mg) : CalK P w K mg base 56 "least_more" 2 (sp_least_more K) := by
  obtain ⟨fd, Fn⟩ := T.d_least_more
  refine fn_kw Fn sc_least_more (fun vs H Q E h => ?_) rfl (fun _ _ _ _ _ _ us z hl => match us, hl with | [_, _], _ => rfl) (fun D _ _ _ _ _ us ks hl hk => match us, ks, hl, hk with | [_, _], [_], _, _ => ⟨_, _, _, _, _, _, rfl, rfl, rfl⟩) (fun cdv A outer s H vs Q E hr h => ?_) T.g_least_more
  · obtain ⟨_, _, _, ⟨_, _, _, rfl, _⟩, _⟩ := h
    rfl
  · obtain ⟨⟨⟨⟨qs, rs⟩, f⟩, A, B, F⟩, S, hS, ⟨va, vb, vc, rfl, hv, hw, hf⟩, k⟩ := h
    have A : AkOk qs := A
    have B : ShOk rs := B
    have A' : AkOk (left rs qs) := left_ok A
    refine ⟨_, pss_cons (ps_set (i := 3) sc_least_more.nd rfl (by first | exact Or.inl rfl | exact Or.inr rfl) (pe_f ((ok_unserved T).mono (by decide : 12 ≤ 55)) (hr.mono (by decide)) (pa_cons (pv 1) (pa_cons
        (pv 0) pa_nil)))) (pss_one (ps_ret (pe_tup (pa_cons (pe_f ((ok_fewest T).mono (by decide : 55 ≤ 55)) (hr.mono (by decide)) (pa_cons (pv 3) pa_nil)) (pa_cons (pe_fk1 ((ok_least_cost T).mono (by
        decide : 55 ≤ 55)) (hr.mono (by decide)) (pa_cons (pv 3) pa_nil) (pk_cons (pv 2) pk_nil)) pa_nil))))), ?_⟩
    refine q_set (g_uns B A (g_var rfl hw up_i1) (g_var rfl hv up_i1)) (.refl hS) fun v S1 H1 e1 s1 dq => ?_
    refine s_retK (R := D K (.tuple [.int (fewV (left rs qs) : Nat), .int (costV f (left rs qs))])) (g_tup (ga_dc (g_dInt ?_) (ga_dc (g_dInt ?_) ga_d0)) (by simp)) e1 k
    · exact g_call (R := fun (z : {qs : List Qn // AkOk qs}) => Is (.int (fewV z.1 : Nat))) (a := (⟨left rs qs, A'⟩ : {qs : List Qn // AkOk qs})) (ga_one (g_var rfl dq up_i1))
    · exact g_k1 (RX := AskedV K (left rs qs)) (RZ := HvV K f) (R := fun (z : {z : List Qn × (Str → Int) // AkOk z.1 ∧ WtOk z.2}) => Is (.int (costV z.1.2 z.1.1))) (a := (⟨(left rs qs, f), A', F⟩ : {z : List Qn × (Str → Int) // AkOk z.1 ∧ WtOk z.2})) (g_var rfl dq up_i1) up_i1 (g_var rfl (up_hv _ _ _ s1 hf) up_hv) fun v z S h1 h2 => ⟨v, z, rfl, h1, h2⟩
abbrev n_more_shelf : List Str := ["asked", "standing", "weights"]
theorem sc_more_shelf : FnScope n_more_shelf ["asked", "standing", "weights"] (defScope s_more_shelf) := ⟨rfl, rfl, rfl, by decide +kernel, rfl, by decide +kernel, by decide +kernel⟩
abbrev sp_more_shelf (K : PySem.W.Frag) : Sp := Pu (fun (z : {z : (List Qn × List (List Str)) × (Str → Int) // AkOk z.1.1 ∧ ShOk z.1.2 ∧ WtOk z.2}) => A3 (AskedV K z.1.1.1) (ShelfV K z.1.1.2) (HvV K z.1.2)) (fun z v S => ∃ m, LotGood ((left z.1.1.2 z.1.1.1).map (wq z.1.2)) (prs (left z.1.1.2 z.1.1.1)) m ∧ ShelfV K (nsh (left z.1.1.2 z.1.1.1) m) v S)
theorem ok_more_shelf (T : Fx K mg) : CalK P w K mg base 56 "more_shelf" 2 (sp_more_shelf K) := by
  obtain ⟨fd, Fn⟩ := T.d_more_shelf
  refine fn_kw Fn sc_more_shelf (fun vs H Q E h => ?_) rfl (fun _ _ _ _ _ _ us z hl => match us, hl with | [_, _], _ => rfl) (fun D _ _ _ _ _ us ks hl hk => match us, ks, hl, hk with | [_, _], [_], _, _ => ⟨_, _, _, _, _, _, rfl, rfl, rfl⟩) (fun cdv A outer s H vs Q E hr h => ?_) T.g_more_shelf
  · obtain ⟨_, _, _, ⟨_, _, _, rfl, _⟩, _⟩ := h
    rfl
  · obtain ⟨⟨⟨⟨qs, rs⟩, f⟩, A, B, F⟩, S, hS, ⟨va, vb, vc, rfl, hv, hw, hf⟩, k⟩ := h
    have A : AkOk qs := A
    have B : ShOk rs := B
    have A' : AkOk (left rs qs) := left_ok A
    refine ⟨_, pss_one (ps_ret (pe_fk1 ((ok_narrow_shelf T).mono (by decide : 55 ≤ 55)) (hr.mono (by decide)) (pa_cons (pe_f ((ok_unserved T).mono (by decide : 12 ≤ 55)) (hr.mono (by decide)) (pa_cons (pv 1)
        (pa_cons (pv 0) pa_nil))) pa_nil) (pk_cons (pv 2) pk_nil))), ?_⟩
    refine s_ret (R := fun v S => ∃ m, LotGood ((left rs qs).map (wq f)) (prs (left rs qs)) m ∧ ShelfV K (nsh (left rs qs) m) v S) ?_ hS k
    exact g_k1 (RX := AskedV K (left rs qs)) (RZ := HvV K f) (R := fun (z : {z : List Qn × (Str → Int) // AkOk z.1 ∧ WtOk z.2}) v S => ∃ m, LotGood (z.1.1.map (wq z.1.2)) (prs z.1.1) m ∧ ShelfV K (nsh z.1.1 m) v S) (a := (⟨(left rs qs, f), A', F⟩ : {z : List Qn × (Str → Int) // AkOk z.1 ∧ WtOk z.2})) (g_uns B A (g_var rfl hw up_i1) (g_var rfl hv up_i1)) up_i1 (g_var rfl hf up_hv) fun v z S h1 h2 => ⟨v, z, rfl, h1, h2⟩
/-- whether a shelf is a least cost shelf of further indexes -/
noncomputable def moreB (f : Str → Int) (ts rs : List (List Str)) (qs : List Qn) : Bool := decide (left ts (left rs qs) = []) && decide (shc f ts = costV f (left rs qs))
abbrev n_is_more : List Str := ["asked", "standing", "thing", "weights"]
theorem sc_is_more : FnScope n_is_more ["asked", "standing", "thing", "weights"] (defScope s_is_more) := ⟨rfl, rfl, rfl, by decide +kernel, rfl, by decide +kernel, by decide +kernel⟩
noncomputable abbrev sp_is_more (K : PySem.W.Frag) : Sp := Pu (fun (z : {z : (List Qn × List (List Str)) × List (List Str) × (Str → Int) // AkOk z.1.1 ∧ ShOk z.1.2 ∧ ShOk z.2.1 ∧ WtOk z.2.2}) vs H => ∃ va vb vc vd, vs = [va, vb, vc, vd] ∧ AskedV K z.1.1.1 va H ∧ ShelfV K z.1.1.2 vb H ∧ ShelfV K z.1.2.1 vc H ∧ HvV K z.1.2.2 vd H) (fun z => Is (.bl (moreB z.1.2.2 z.1.2.1 z.1.1.2 z.1.1.1)))
theorem ok_is_more (T : Fx K mg) : CalK P w K mg base 57 "is_more" 3 (sp_is_more K) := by
  obtain ⟨fd, Fn⟩ := T.d_is_more
  refine fn_kw Fn sc_is_more (fun vs H Q E h => ?_) rfl (fun _ _ _ _ _ _ us z hl => match us, hl with | [_, _, _], _ => rfl) (fun D _ _ _ _ _ us ks hl hk => match us, ks, hl, hk with | [_, _, _], [_], _, _ => ⟨_, _, _, _, _, _, rfl, rfl, rfl⟩) (fun cdv A outer s H vs Q E hr h => ?_) T.g_is_more
  · obtain ⟨_, _, _, ⟨_, _, _, _, rfl, _⟩, _⟩ := h
    rfl
  · obtain ⟨⟨⟨⟨qs, rs⟩, ts, f⟩, A, B, C, F⟩, S, hS, ⟨va, vb, vc, vd, rfl, hv, hw, hx, hf⟩, k⟩ := h
    have A : AkOk qs := A
    have B : ShOk rs := B
    have C : ShOk ts := C
    have A' : AkOk (left rs qs) := left_ok A
    refine ⟨_, pss_cons (ps_if (pt_not (pt_val (pe_f ((ok_serves_all T).mono (by decide : 13 ≤ 56)) (hr.mono (by decide)) (pa_cons (pv 2) (pa_cons (pe_f ((ok_unserved T).mono (by decide : 12 ≤ 56)) (hr.mono
        (by decide)) (pa_cons (pv 1) (pa_cons (pv 0) pa_nil))) pa_nil))))) (pss_one (ps_ret pe_bl)) pss_nil) (pss_one (ps_ret (pe_cmpR op_eq (pe_fk1 ((ok_cost T).mono (by decide : 10 ≤ 56)) (hr.mono
        (by decide)) (pa_cons (pv 2) pa_nil) (pk_cons (pv 3) pk_nil)) (pe_ix (r := rIxT K) ix_tup (pe_fk1 ((ok_least_more T).mono (by decide : 56 ≤ 56)) (hr.mono (by decide)) (pa_cons (pv 0) (pa_cons
        (pv 1) pa_nil)) (pk_cons (pv 3) pk_nil)) pe_int (fun _ _ => rfl)) (nomark _)))), ?_⟩
    show tSeq _ _ _ _ _
    refine s_if (c := !decide (left ts (left rs qs) = [])) (gt_not (gt_B (g_call (R := fun (z : {z : List (List Str) × List Qn // ShOk z.1 ∧ AkOk z.2}) => Is (.bl (decide (left z.1.1 z.1.2 = [])))) (a := (⟨(ts, left rs qs), C, A'⟩ : {z : List (List Str) × List Qn // ShOk z.1 ∧ AkOk z.2})) (ga_two (g_var rfl hx up_i1) up_i1 (g_uns B A (g_var rfl hw up_i1) (g_var rfl hv up_i1)))))) hS (fun hc S1 H1 e1 => ?_) fun hc S1 H1 e1 => ?_
    · refine s_retK (R := Is (.bl (moreB f ts rs qs))) (g_eq (g_c (v := .bl false)) ?_) e1 fun v S2 H2 e2 r => k v S2 H2 e2 r
      have hc : decide (left ts (left rs qs) = []) = false := by simpa using hc
      unfold moreB
      rw [hc]
      rfl
    · have hc : decide (left ts (left rs qs) = []) = true := by simpa using hc
      have s1 := e1.ss
      dsimp only [tNext]
      refine s_retK (R := Is (.bl (moreB f ts rs qs))) (g_eq (g_eqS (x := .int (shc f ts)) (y := .int (costV f (left rs qs))) ?_ (g_isInt (g_ixT (i := 1) (ds := [.int (fewV (left rs qs) : Nat), .int (costV f (left rs qs))]) ?_ (g_c (v := .int 1)) rfl)) rfl) ?_) e1 fun v S2 H2 e2 r => k v S2 H2 e2 r
      · exact g_k1 (RX := ShelfV K ts) (RZ := HvV K f) (R := fun (z : {z : List (List Str) × (Str → Int) // ShOk z.1}) => Is (.int (shc z.1.2 z.1.1))) (a := (⟨(ts, f), C⟩ : {z : List (List Str) × (Str → Int) // ShOk z.1})) (g_var rfl (up_i1 _ _ _ s1 hx) up_i1) up_i1 (g_var rfl (up_hv _ _ _ s1 hf) up_hv) fun v z S h1 h2 => ⟨v, z, rfl, h1, h2⟩
      · exact g_k2 (RX := AskedV K qs) (RY := ShelfV K rs) (RZ := HvV K f) (R := fun (z : {z : (List Qn × List (List Str)) × (Str → Int) // AkOk z.1.1 ∧ ShOk z.1.2 ∧ WtOk z.2}) => D K (.tuple [.int (fewV (left z.1.1.2 z.1.1.1) : Nat), .int (costV z.1.2 (left z.1.1.2 z.1.1.1))])) (a := (⟨((qs, rs), f), A, B, F⟩ : {z : (List Qn × List (List Str)) × (Str → Int) // AkOk z.1.1 ∧ ShOk z.1.2 ∧ WtOk z.2})) (g_var rfl (up_i1 _ _ _ s1 hv) up_i1) up_i1 (g_var rfl (up_i1 _ _ _ s1 hw) up_i1) up_i1 (g_var rfl (up_hv _ _ _ s1 hf) up_hv) fun v u z S h1 h2 h3 => ⟨v, u, z, rfl, h1, h2, h3⟩
      · unfold moreB
        rw [hc, Bool.true_and]
        congr 1
        by_cases e : shc f ts = costV f (left rs qs)
        · rw [e, decide_eq_true rfl, decide_eq_true rfl]
        · rw [decide_eq_false e, decide_eq_false fun z => e (V.int.inj z)]
end
end NK
end

section
set_option Elab.async false
set_option linter.all false
set_option maxRecDepth 100000
set_option maxHeartbeats 400000
namespace NK
open PySem PySem.Spec L2
/-! ### the led lot: questions and standing indexes -/
/-- the pairs of one standing index -/
def ledAt (qs : List Qn) (p : Nat × List Str) : BL := ((plc qs).filter fun r => under p.2 r.2).map fun r => (qs.length + p.1, r.1)
/-- the pairs of the led lot -/
def ledP (rs : List (List Str)) (qs : List Qn) : BL := prs qs ++ ((plc rs).map (ledAt qs)).flatten
/-- the weights of the led lot -/
def ledW (f : Str → Int) (rs : List (List Str)) (qs : List Qn) : List Int := qs.map (wq f) ++ rs.map (wsum f)
theorem led_one {rs : List (List Str)} {qs : List Qn} {i j : Nat} : (i, j) ∈ ((plc rs).map (ledAt qs)).flatten ↔ ∃ n r q, i = qs.length + n ∧ rs[n]? = some r ∧ qs[j]? = some q ∧ under r q = true := by
  rw [List.mem_flatten]
  constructor
  · rintro ⟨l, hl, hp⟩
    obtain ⟨⟨n, r⟩, hr, rfl⟩ := List.mem_map.mp hl
    unfold ledAt at hp
    obtain ⟨⟨j', q⟩, hq, e⟩ := List.mem_map.mp hp
    obtain ⟨h1, h2⟩ := List.mem_filter.mp hq
    obtain ⟨rfl, rfl⟩ := Prod.mk.inj e
    exact ⟨n, r, q, rfl, plc_mem.mp hr, plc_mem.mp h1, h2⟩
  · rintro ⟨n, r, q, rfl, h1, h2, h3⟩
    refine ⟨_, List.mem_map.mpr ⟨(n, r), plc_mem.mpr h1, rfl⟩, ?_⟩
    unfold ledAt
    exact List.mem_map.mpr ⟨(j, q), List.mem_filter.mpr ⟨plc_mem.mpr h2, h3⟩, rfl⟩
theorem led_mem {rs : List (List Str)} {qs : List Qn} {i j : Nat} : (i, j) ∈ ledP rs qs ↔ (i, j) ∈ prs qs ∨ ∃ n r q, i = qs.length + n ∧ rs[n]? = some r ∧ qs[j]? = some q ∧ under r q = true := by
  unfold ledP
  rw [List.mem_append, led_one]
theorem ledAt_len {qs : List Qn} {p : Nat × List Str} : (ledAt qs p).length ≤ qs.length := by
  unfold ledAt
  rw [List.length_map]
  exact Nat.le_trans (List.length_filter_le _ _) (Nat.le_of_eq plc_len)
theorem flat_le {α : Type} {k : Nat} : ∀ {L : List (List α)}, (∀ l ∈ L, l.length ≤ k) → L.flatten.length ≤ L.length * k
  | [], _ => Nat.zero_le _
  | l :: L, h => by
    have h1 := h l List.mem_cons_self
    have h2 := flat_le (L := L) fun m hm => h m (List.mem_cons_of_mem _ hm)
    rw [List.flatten_cons, List.length_append, List.length_cons, Nat.succ_mul]
    omega
theorem led_len {rs : List (List Str)} {qs : List Qn} (A : AkOk qs) (hm : rs.length * qs.length ≤ 90) : (ledP rs qs).length ≤ 300 := by
  have h1 := prs_len A.ok
  have l15 := A.len
  have h2 : qs.length * qs.length ≤ 15 * 15 := Nat.mul_le_mul l15 l15
  have h3 : (((plc rs).map (ledAt qs)).flatten).length ≤ rs.length * qs.length := by
    have := flat_le (k := qs.length) (L := (plc rs).map (ledAt qs)) fun l hl => by
      obtain ⟨p, _, rfl⟩ := List.mem_map.mp hl
      exact ledAt_len
    rwa [List.length_map, plc_len] at this
  unfold ledP
  rw [List.length_append]
  omega
theorem under_mem {r : List Str} {q : Qn} (h : under r q = true) : ∀ c ∈ r, c ∈ q.1 := fun c hc => of_decide_eq_true (List.all_eq_true.mp h c hc)
theorem under_tr {r : List Str} {q s : Qn} (h1 : under r q = true) (h2 : below q s = true) : under r s = true :=
  List.all_eq_true.mpr fun c hc => decide_eq_true (below_sub h2 c (List.mem_append_left _ (under_mem h1 c hc)))
theorem ledW_at {f : Str → Int} {rs : List (List Str)} {qs : List Qn} {i : Nat} (h : i < qs.length) : (ledW f rs qs)[i]? = (qs[i]?).map (wq f) := by
  unfold ledW
  rw [List.getElem?_append_left (by rw [List.length_map]; exact h), List.getElem?_map]
theorem ledW_st {f : Str → Int} {rs : List (List Str)} {qs : List Qn} {n : Nat} : (ledW f rs qs)[qs.length + n]? = (rs[n]?).map (wsum f) := by
  unfold ledW
  rw [List.getElem?_append_right (by rw [List.length_map]; omega), List.length_map, Nat.add_sub_cancel_left, List.getElem?_map]
theorem ledW_len {f : Str → Int} {rs : List (List Str)} {qs : List Qn} : (ledW f rs qs).length = qs.length + rs.length := by
  unfold ledW
  rw [List.length_append, List.length_map, List.length_map]
theorem in_led {f : Str → Int} {rs : List (List Str)} {qs : List Qn} (A : AkOk qs) (B : ShOk rs) (F : WtOk f) (hn : qs.length + rs.length ≤ 48) (hm : rs.length * qs.length ≤ 90) : LotIn (ledW f rs qs) (ledP rs qs) := by
  have I := in_wq A F
  refine ⟨by rw [ledW_len]; exact hn, fun x hx => ?_, fun p hp => ?_, fun p hp e => ?_, fun p hp a b ha hb => ?_, fun i j k h1 h2 => ?_, led_len A hm⟩
  · rcases List.mem_append.mp hx with hx | hx
    · exact I.wt x hx
    · obtain ⟨r, hr, rfl⟩ := List.mem_map.mp hx
      have := B.ok r hr
      exact wsum_ok F this.ne this.cols.len
  · obtain ⟨i, j⟩ := p
    rw [ledW_len]
    rcases led_mem.mp hp with h | ⟨n, r, q, rfl, h1, h2, _⟩
    · have := prs_lt h
      exact ⟨Nat.lt_of_lt_of_le this.1 (Nat.le_add_right _ _), Nat.lt_of_lt_of_le this.2 (Nat.le_add_right _ _)⟩
    · have h1 := (List.getElem?_eq_some_iff.mp h1).1
      have h2 := (List.getElem?_eq_some_iff.mp h2).1
      exact ⟨by show qs.length + n < _; omega, by show j < _; omega⟩
  · obtain ⟨i, j⟩ := p
    rcases led_mem.mp hp with h | ⟨n, r, q, e2, h1, h2, _⟩
    · exact I.ne _ h e
    · have h2 := (List.getElem?_eq_some_iff.mp h2).1
      have e : i = j := e
      omega
  · obtain ⟨i, j⟩ := p
    rcases led_mem.mp hp with h | ⟨n, r, q, rfl, h1, h2, h3⟩
    · have := prs_lt h
      have ha : (ledW f rs qs)[i]? = some a := ha
      have hb : (ledW f rs qs)[j]? = some b := hb
      rw [ledW_at this.1, ← List.getElem?_map] at ha
      rw [ledW_at this.2, ← List.getElem?_map] at hb
      exact I.up _ h a b ha hb
    · have h4 := (List.getElem?_eq_some_iff.mp h2).1
      have ha : (ledW f rs qs)[qs.length + n]? = some a := ha
      have hb : (ledW f rs qs)[j]? = some b := hb
      rw [ledW_st, h1] at ha
      rw [ledW_at h4, h2] at hb
      obtain rfl := Option.some.inj ha
      obtain rfl := Option.some.inj hb
      exact wsum_sub F (B.ok r (List.mem_of_getElem? h1)).cols.nd fun c hc => List.mem_append_left _ (under_mem h3 c hc)
  · rcases led_mem.mp h2 with h2 | ⟨n, r, q, rfl, b1, b2, b3⟩
    · rcases led_mem.mp h1 with h1 | ⟨n, r, q, rfl, b1, b2, b3⟩
      · exact led_mem.mpr (.inl (I.tr i j k h1 h2))
      · obtain ⟨q', s, c1, c2, c3⟩ := prs_mem.mp h2
        rw [b2] at c1
        cases c1
        exact led_mem.mpr (.inr ⟨n, r, s, rfl, b1, c2, under_tr b3 c3⟩)
    · exfalso
      rcases led_mem.mp h1 with h1 | ⟨n', r', q', _, _, c2, _⟩
      · have := (prs_lt h1).2
        have : qs.length + n < qs.length := this
        omega
      · have := (List.getElem?_eq_some_iff.mp c2).1
        omega
theorem led_nodup (rs : List (List Str)) (qs : List Qn) : (ledP rs qs).Nodup := by
  unfold ledP
  refine List.nodup_append.mpr ⟨prs_nodup qs, ?_, fun a ha b hb e => ?_⟩
  · rw [List.nodup_iff_pairwise_ne, List.pairwise_flatten]
    have fst {α : Type} (xs : List α) : ((plc xs).map (·.1)).Nodup := by
      unfold plc
      rw [List.map_fst_zip (by simp)]
      exact List.nodup_range
    refine ⟨fun l hl => List.nodup_iff_pairwise_ne.mp ?_, ?_⟩
    · obtain ⟨p, hp, rfl⟩ := List.mem_map.mp hl
      unfold ledAt
      have h2 : (((plc qs).filter fun r => under p.2 r.2).map (·.1)).Nodup := List.Nodup.sublist (List.Sublist.map _ List.filter_sublist) (fst qs)
      rw [show (((plc qs).filter fun r => under p.2 r.2).map fun r => (qs.length + p.1, r.1)) = (((plc qs).filter fun r => under p.2 r.2).map (·.1)).map fun x => (qs.length + p.1, x) by rw [List.map_map]; rfl]
      exact nodup_map (fun a b e => (Prod.mk.inj e).2) h2
    · rw [List.pairwise_map]
      have h2 := fst rs
      rw [List.nodup_iff_pairwise_ne, List.pairwise_map] at h2
      refine h2.imp fun {a b} hne x hx y hy e => ?_
      unfold ledAt at hx hy
      obtain ⟨u, _, rfl⟩ := List.mem_map.mp hx
      obtain ⟨v, _, rfl⟩ := List.mem_map.mp hy
      have := (Prod.mk.inj e).1
      exact hne (by omega)
  · subst e
    obtain ⟨i, j⟩ := a
    obtain ⟨n, r, q, e1, _⟩ := led_one.mp hb
    have : i < qs.length := (prs_lt ha).1
    omega
end NK
end

section
set_option Elab.async false
set_option linter.all false
set_option maxRecDepth 100000
set_option maxHeartbeats 400000
namespace NK
open PySem PySem.Spec L2
open PyProof.Rows hiding St
section
variable {P : Program} {w : World} {K : PySem.W.Frag} {mg : Str → Option Value} {base : Heap}
theorem g_map0 {σ : L2.St} {S : Hp} {wi : TI} {α : Type} {xs : List α} {RI : α → Rel} {i : Nat} {te : TE} {vs : List Nat} {β : Type} (o : α → β) (enc : β → PyData) (h : GI wi σ S xs RI) (hz : xs.length ≤ 100000) (turn : ∀ a x S1, Same S S1 → a ∈ xs → RI a x S1 → G te ((wipe σ vs).set i (some x)) S1 (D K (enc (o a))))
    (hw : ∀ x, wipe ((wipe σ vs).set i (some x)) vs = wipe σ vs := by intro _; rfl) : G (tLc wi (gName i) tYes te vs) σ S (L0 K ((xs.map o).map enc)) :=
  g_lsL0 (g_lcA (RO := fun b => D K (enc b)) o h (fun _ => .d) hz hw turn)
/-- a, b = (x, f(…)) where f makes a list that may change -/
theorem q_asg2M {u : TS} {E : Ends} {σ : L2.St} {S S0 H H0 : Hp} {i j : Nat} {te : TE} {x : V} {t : TA} {α : Type} {A : α → List V → Hp → Prop} {ds : α → List PyData} {a : α} (hx : G te σ S (Is x)) (h : GA t σ S (A a)) (e : Gw S0 H0 S H) (k : ∀ p ws S1 H1, Gw S0 H0 S1 H1 → Same S S1 → H p = none → S1 p = none → H1 p = some (.lst ws) → DpAll K S1 ws (ds a) → u E ((σ.set i (some x)).set j (some (.ref p))) H1) :
    tSeq (tAsg (tTup (tCons te (tCons (tF (PuM K A ds) t) tNil))) (gTup K 2 (gCons (gName i) (gCons (gName j) gNil)))) u E σ H :=
  hx S H (Same.refl S) e.sh _ fun v S1 H1 e1 r => by
    subst r
    exact h S1 H1 e1.ss e1.sh _ fun vs S2 H2 e2 r => ⟨a, S2, e2.sh, r, fun p ws S3 H3 e3 hp hs hH hd => ⟨by show 2 ≤ _; decide, fun q hq => ⟨q, [v, .ref p], rfl, .of upd_same, rfl, v, [.ref p], rfl, .ref p, [], rfl, rfl,
      k p ws S3 (upd H3 q (.tup [v, .ref p])) ((e.trans (e1.trans (e2.trans e3))).trans (Gw.mut e3.sh hq)) ((e1.ss.trans e2.ss).trans e3.ss) ((e1.trans e2).hh.free hp) hs (Same.new hq p _ hH) hd⟩⟩⟩
abbrev n_led_lot : List Str := ["asked", "standing", "weights", "questions", "many", "pairs", "number", "index", "high", "one", "rows", "question"]
theorem sc_led_lot : FnScope n_led_lot ["asked", "standing", "weights"] (defScope s_led_lot) := ⟨rfl, rfl, rfl, by decide +kernel, rfl, by decide +kernel, by decide +kernel⟩
abbrev sp_led_lot (K : PySem.W.Frag) : Sp := Pu (fun (z : {z : (List Qn × List (List Str)) × (Str → Int) // AkOk z.1.1 ∧ ShOk z.1.2 ∧ WtOk z.2 ∧ (left z.1.2 z.1.1).length + z.1.2.length ≤ 48 ∧ z.1.2.length * (left z.1.2 z.1.1).length ≤ 90}) => A3 (AskedV K z.1.1.1) (ShelfV K z.1.1.2) (HvV K z.1.2)) (fun z v S => ∃ m, LotGood (ledW z.1.2 z.1.1.2 (left z.1.1.2 z.1.1.1)) (ledP z.1.1.2 (left z.1.1.2 z.1.1.1)) m ∧ LotV K (ledW z.1.2 z.1.1.2 (left z.1.1.2 z.1.1.1)) m v S)
theorem ok_led_lot (T : Fx K mg) : Cal P w K mg base 54 "led_lot" (sp_led_lot K) := by
  obtain ⟨fd, Fn⟩ := T.d_led_lot
  refine ⟨fn_pos Fn sc_led_lot (fun vs H Q E h => ?_) (fun _ _ _ _ _ _ us hl => match us, hl with | [_, _, _], _ => rfl) (fun cdv A outer s H vs Q E hr h => ?_), T.g_led_lot, Fn.kp⟩
  · obtain ⟨_, _, _, ⟨_, _, _, rfl, _⟩, _⟩ := h
    rfl
  · obtain ⟨⟨⟨⟨qs, rs⟩, f⟩, A, B, F, hn, hm⟩, S, hS, ⟨va, vb, vc, rfl, hv, hw, hf⟩, k⟩ := h
    have A : AkOk qs := A
    have B : ShOk rs := B
    have A' : AkOk (left rs qs) := left_ok A
    have I : LotIn (ledW f rs (left rs qs)) (ledP rs (left rs qs)) := in_led A' B F hn hm
    refine ⟨_, pss_cons (ps_set (i := 3) sc_led_lot.nd rfl (by first | exact Or.inl rfl | exact Or.inr rfl) (pe_m0K (K := K) ((ok_Asked_questions T).mono (by decide : 1 ≤ 53)) (hr.mono (by decide)) (pe_f
        ((ok_unserved T).mono (by decide : 12 ≤ 53)) (hr.mono (by decide)) (pa_cons (pv 1) (pa_cons (pv 0) pa_nil))))) (pss_cons (ps_asg (pe_tup (pa_cons (pe_callB (r := rLn K) call_len rfl T.b_len
        bt_len (pa_cons (pv 3) pa_nil)) (pa_cons (pe_f ((ok_pairs_of T).mono (by decide : 9 ≤ 53)) (hr.mono (by decide)) (pa_cons (pv 3) pa_nil)) pa_nil))) (pg_tupK (K := K) (n := 2) rfl (pgs_cons
        (pg_name (i := 4) sc_led_lot.nd rfl (by first | exact Or.inl rfl | exact Or.inr rfl)) (pgs_cons (pg_name (i := 5) sc_led_lot.nd rfl (by first | exact Or.inl rfl | exact Or.inr rfl))
        pgs_nil)))) (pss_cons (ps_for PassesOwn.never rfl (pi_enumO ((ok_Shelf___iter__ T).mono (by decide : 1 ≤ 51)) (hr.mono (by decide)) rfl T.b_enumerate (pv 1)) (pg_tupK (K := K) (n := 2) rfl
        (pgs_cons (pg_name (i := 6) sc_led_lot.nd rfl (by first | exact Or.inl rfl | exact Or.inr rfl)) (pgs_cons (pg_name (i := 7) sc_led_lot.nd rfl (by first | exact Or.inl rfl | exact Or.inr rfl))
        pgs_nil))) (pss_one (ps_expr (pe_bm PySem.F.plainAttrs_list PySem.F.slot_list_extend PySem.F.type_list_extend mt_extend (pv 5) (pa_cons (pe_lc (own := [("high", 8), ("one", 9)]) rfl
        sc_led_lot.nd (pi_enum rfl T.b_enumerate (pa_cons (pv 3) pa_nil)) (blkOk_by (N := n_led_lot) (sc := defScope s_led_lot) (by decide +kernel)) (fun _ _ _ _ _ => (pg_tupK (K := K) (n := 2) rfl
        (pgs_cons (pg_name (i := 8) sc_led_lot.nd rfl (by first | exact Or.inl rfl | exact Or.inr rfl)) (pgs_cons (pg_name (i := 9) sc_led_lot.nd rfl (by first | exact Or.inl rfl | exact Or.inr rfl))
        pgs_nil)))) (fun _ _ _ _ _ => (pts_one (pt_val (pe_f ((ok_is_under T).mono (by decide : 1 ≤ 53)) (hr.mono (by decide)) (pa_cons (pv 7) (pa_cons (pv 9) pa_nil)))))) (fun _ _ _ _ _ => (pe_tup
        (pa_cons (pe_op op_add (pv 4) (pv 6)) (pa_cons (pv 8) pa_nil))))) pa_nil))))) (pss_cons (ps_setLc (i := 10) (own := [("question", 11)]) rfl sc_led_lot.nd rfl rfl rfl (pi_listK (K := K) (pv 3))
        (blkOk_by (N := n_led_lot) (sc := defScope s_led_lot) (by decide +kernel)) (fun _ _ _ _ _ => (pg_name (i := 11) sc_led_lot.nd rfl (by first | exact Or.inl rfl | exact Or.inr rfl))) (fun _ _ _
        _ _ => pts_nil) (fun _ _ _ _ _ => (pe_f ((ok_weight_of T).mono (by decide : 9 ≤ 53)) (hr.mono (by decide)) (pa_cons (pv 11) (pa_cons (pv 2) pa_nil))))) (pss_one (ps_ret (StX.pe_makeR T.mk_Lot
        ((ok_Lot___init__ T).mono (by decide : 52 ≤ 52)).run (hr.mono (by decide)) rfl T.g_Lot pass0 (pa_cons (pe_op op_cat (pv 10) (pe_lc (own := [("index", 7)]) rfl sc_led_lot.nd (pi_own (f :=
        "kept_indexes") ((ok_Shelf___iter__ T).mono (by decide : 1 ≤ 51)) (hr.mono (by decide)) (pv 1)) (blkOk_by (N := n_led_lot) (sc := defScope s_led_lot) (by decide +kernel)) (fun _ _ _ _ _ =>
        (pg_name (i := 7) sc_led_lot.nd rfl (by first | exact Or.inl rfl | exact Or.inr rfl))) (fun _ _ _ _ _ => pts_nil) (fun _ _ _ _ _ => (pe_f ((ok_weight_of_index T).mono (by decide : 9 ≤ 53))
        (hr.mono (by decide)) (pa_cons (pv 7) (pa_cons (pv 2) pa_nil)))))) (pa_cons (pv 5) pa_nil)))))))), ?_⟩
    refine q_set (g_qs (g_uns B A (g_var rfl hw up_i1) (g_var rfl hv up_i1))) (.refl hS) fun v S1 H1 e1 s1 dq => ?_
    have l15 := A'.len
    have hL : ShOk rs := B
    have h48 : rs.length ≤ 48 := hL.len
    refine q_asg2M (K := K) (g_eq (g_lenL (g_dv rfl dq)) (v' := .int ((left rs qs).length : Nat)) (by simp)) (a := (⟨left rs qs, A'.ok, Nat.le_trans A'.len (by decide)⟩ : {z : List Qn // (∀ q ∈ z, QOk q) ∧ z.length ≤ 48})) (ga_one (g_dv rfl dq)) e1 fun p ws0 S2 H2 e2 s2 hp hSp hH hd0 => ?_
    have hp0 : H p = none := e1.hh.free hp
    refine q_for (gi_enO (xs := rs) (enc := encC) (g_var rfl (up_i1 _ _ _ (s1.trans s2) hw) up_i1)) e2.sh fun S3 H3 e3 => ⟨fun i σ' S' H' => (Gw S H S' H' ∧ Same S3 S') ∧ (∃ x6 x7 x8 x9, σ' = [some va, some vb, some vc, some v, some (.int ((left rs qs).length : Nat)), some (.ref p), x6, x7, x8, x9, none, none]) ∧ S' p = none ∧ ∃ ws, H' p = some (.lst ws) ∧ DpAll K S' ws ((prs (left rs qs) ++ (((plc rs).take i).map (ledAt (left rs qs))).flatten).map encN) ∧ ws.length ≤ 300 + 48 * i,
      ⟨⟨e2.trans e3, Same.refl _⟩, ⟨_, _, _, _, rfl⟩, e3.none hSp hH, ws0, e3.hh _ _ hH, ?_, ?_⟩, fun i σ' S' H' h => ⟨h.1.2, h.1.1.sh⟩, ?_, ?_⟩
    · rw [List.take_zero, List.map_nil, List.flatten_nil, List.append_nil]
      exact DpAll.up e3.ss hd0
    · have h1 := prs_len A'.ok
      have h2 : (left rs qs).length * (left rs qs).length ≤ 15 * 15 := Nat.mul_le_mul l15 l15
      have h3 := DpAll.len hd0
      rw [List.length_map] at h3
      have h3 : ws0.length = (prs (left rs qs)).length := h3
      omega
    · rintro i ⟨j, r⟩ x σ' S4 H4 S5 H5 hx ⟨⟨g4, s4⟩, ⟨y6, y7, y8, y9, rfl⟩, hp4, ws, hws, hd, hln⟩ g5 rx
      refine g_un2 rx g5.sh fun y z hy hz => ?_
      obtain rfl := Dp.intI hy
      have hm2 : rs[j]? = some r := plc_mem.mp (List.mem_of_getElem? hx)
      have hro := hL.ok r (List.mem_of_getElem? hm2)
      have hil : i < rs.length := by have := (List.getElem?_eq_some_iff.mp hx).1; rwa [plc_len] at this
      have h48 : rs.length ≤ 48 := hL.len
      have hp5 := g5.none hp4 hws
      have hla := ledAt_len (qs := left rs qs) (p := (j, r))
      have epr : (ledAt (left rs qs) (j, r)).map encN = (((plc (left rs qs)).filter fun q => under r q.2).map fun q => ((left rs qs).length + j, q.1)).map encN := rfl
      refine s_ext (l := p) (ds := (ledAt (left rs qs) (j, r)).map encN) rfl ?_ g5.sh (g5.hh _ _ hws) (by rw [List.length_map]; omega) fun zs S6 H6 e6 hzs => ⟨S6, ⟨((g4.trans g5).trans e6).wr hp0 (e6.none hp5 (g5.hh _ _ hws)), (s4.trans g5.ss).trans e6.ss⟩, ⟨_, _, _, _, rfl⟩, e6.none hp5 (g5.hh _ _ hws), ws ++ zs, upd_same, ?_, ?_⟩
      · rw [epr]
        refine g_lsL0 (K := K) (g_lc2 (K := K) (RO := fun b => D K (encN b)) (d1 := fun (q : Nat × Qn) => .int (q.1 : Nat)) (d2 := fun q => encQ q.2) (fun q => under r q.2) (fun q => ((left rs qs).length + j, q.1)) (gi_enumE (xs := left rs qs) (g_dv rfl (Dp.up (((s2.trans e3.ss).trans s4).trans g5.ss) dq))) (fun _ => .d) (by rw [plc_len]; omega) (fun _ _ => rfl) fun q x y S7 s7 hq hx hy => ⟨gt_B ?_, fun _ => ?_⟩)
        · exact g_call (R := fun (q : {q : List Str × Qn // IxOk q.1 ∧ QOk q.2}) => Is (.bl (under q.1.1 q.1.2))) (a := ⟨(r, q.2), hro, A'.ok _ (List.mem_of_getElem? (plc_mem.mp hq))⟩) (ga_two (g_dv rfl (Dp.up s7 hz)) .d (g_dv rfl hy))
        · obtain rfl := Dp.intI hx
          exact g_tup (ga_dc (g_dInt (g_eq (g_I0 (i := ((left rs qs).length : Nat)) (j := (j : Nat)) (g_is rfl) (g_is rfl)) (by simp))) (ga_dc (g_dInt (g_is rfl)) ga_d0)) (by simp)
      · rw [take_succ' hx, List.map_append (f := ledAt (left rs qs)), List.flatten_append, ← List.append_assoc, List.map_append]
        refine DpAll.app (DpAll.up (g5.ss.trans e6.ss) hd) ?_
        rw [show ((List.map (ledAt (left rs qs)) [(j, r)]).flatten).map encN = (ledAt (left rs qs) (j, r)).map encN by simp]
        exact hzs
      · rw [List.length_append, DpAll.len hzs, List.length_map]
        omega
    · rintro σ' S4 H4 ⟨⟨g4, s4⟩, ⟨y6, y7, y8, y9, rfl⟩, hp4, ws, hws, hd, hln⟩
      rw [List.take_length] at hd
      have g5 := g4.frz hp0 hp4 hws
      have s5 : Same S4 (upd S4 p (.lst ws)) := Same.new hp4
      have hd5 : D K (.list ((ledP rs (left rs qs)).map encN)) (.ref p) (upd S4 p (.lst ws)) := .lst (SqL.of upd_same) (DpAll.up s5 hd)
      have s03 : Same S S4 := ((s1.trans s2).trans e3.ss).trans s4
      have hf5 : HvV K f vc (upd S4 p (.lst ws)) := up_hv _ _ _ (s03.trans s5) hf
      refine q_set (R := L0 K (((left rs qs).map (wq f)).map .int)) (g_map0 (wq f) .int (gi_listE (xs := left rs qs) (enc := encQ) (g_dv rfl (Dp.up (((s2.trans e3.ss).trans s4).trans s5) dq))) (by omega) fun q x S6 s6 hq rx => g_dInt ?_) g5 fun u S7 H7 e7 s7 du => ?_
      · exact g_call (R := fun (z : {z : Qn × (Str → Int) // QOk z.1}) => Is (.int (wsum z.1.2 (colsL z.1.1)))) (a := (⟨(q, f), A'.ok q hq⟩ : {z : Qn × (Str → Int) // QOk z.1})) (ga_two (g_var rfl rx .d) .d (g_var rfl (up_hv _ _ _ s6 hf5) up_hv))
      · refine s_retK (R := fun v S => ∃ m, LotGood (ledW f rs (left rs qs)) (ledP rs (left rs qs)) m ∧ LotV K (ledW f rs (left rs qs)) m v S) (g_lot ?_ (g_dv rfl (Dp.up s7 hd5)) I) e7 k
        rw [show (ledW f rs (left rs qs)).map PyData.int = ((left rs qs).map (wq f)).map .int ++ (rs.map (wsum f)).map .int by unfold ledW; rw [List.map_append]]
        refine g_l0D (g_cat (g_var rfl du up_l0) (g_map0 (wsum f) .int (gi_own (xs := rs) (enc := encC) (g_var rfl (up_i1 _ _ _ ((s03.trans s5).trans s7) hw) up_i1)) (by omega) fun r x S8 s8 hr2 rx => g_dInt ?_) (by rw [List.length_map, List.length_map, List.length_map, List.length_map]; omega))
        exact g_call (R := fun (z : {z : List Str × (Str → Int) // IxOk z.1}) => Is (.int (wsum z.1.2 z.1.1))) (a := (⟨(r, f), hL.ok r hr2⟩ : {z : List Str × (Str → Int) // IxOk z.1})) (ga_two (g_var rfl rx .d) .d (g_var rfl (up_hv _ _ _ (s7.trans s8) hf5) up_hv))
end
end NK
end

section
set_option Elab.async false
set_option linter.all false
set_option maxRecDepth 100000
set_option maxHeartbeats 400000
namespace NK
open PySem PySem.Spec L2
open PyProof.Rows hiding St
section
variable {P : Program} {w : World} {K : PySem.W.Frag} {mg : Str → Option Value} {base : Heap}
/-- what a led shelf adds -/
noncomputable def addV (f : Str → Int) (rs : List (List Str)) (qs : List Qn) : Int := sumV (ledW f rs (left rs qs)) (ledP rs (left rs qs)) - shc f rs
/-- questions, standing indexes, weights: small enough for a led lot -/
abbrev LedIn : Type := {z : (List Qn × List (List Str)) × (Str → Int) // AkOk z.1.1 ∧ ShOk z.1.2 ∧ WtOk z.2 ∧ (left z.1.2 z.1.1).length + z.1.2.length ≤ 48 ∧ z.1.2.length * (left z.1.2 z.1.1).length ≤ 90}
abbrev n_least_added : List Str := ["asked", "standing", "weights"]
theorem sc_least_added : FnScope n_least_added ["asked", "standing", "weights"] (defScope s_least_added) := ⟨rfl, rfl, rfl, by decide +kernel, rfl, by decide +kernel, by decide +kernel⟩
noncomputable abbrev sp_least_added (K : PySem.W.Frag) : Sp := Pu (fun (z : LedIn) => A3 (AskedV K z.1.1.1) (ShelfV K z.1.1.2) (HvV K z.1.2)) (fun z => Is (.int (addV z.1.2 z.1.1.2 z.1.1.1)))
theorem ok_least_added (T : Fx K mg) : CalK P w K mg base 55 "least_added" 2 (sp_least_added K) := by
  obtain ⟨fd, Fn⟩ := T.d_least_added
  refine fn_kw Fn sc_least_added (fun vs H Q E h => ?_) rfl (fun _ _ _ _ _ _ us z hl => match us, hl with | [_, _], _ => rfl) (fun D _ _ _ _ _ us ks hl hk => match us, ks, hl, hk with | [_, _], [_], _, _ => ⟨_, _, _, _, _, _, rfl, rfl, rfl⟩) (fun cdv A outer s H vs Q E hr h => ?_) T.g_least_added
  · obtain ⟨_, _, _, ⟨_, _, _, rfl, _⟩, _⟩ := h
    rfl
  · obtain ⟨⟨⟨⟨qs, rs⟩, f⟩, A, B, F, hn, hm⟩, S, hS, ⟨va, vb, vc, rfl, hv, hw, hf⟩, k⟩ := h
    have A : AkOk qs := A
    have B : ShOk rs := B
    have A' : AkOk (left rs qs) := left_ok A
    have I : LotIn (ledW f rs (left rs qs)) (ledP rs (left rs qs)) := in_led A' B F hn hm
    refine ⟨_, pss_one (ps_ret (pe_op op_sub (pe_m0K (K := K) ((ok_Lot_least_sum T).mono (by decide : 8 ≤ 54)) (hr.mono (by decide)) (pe_f ((ok_led_lot T).mono (by decide : 54 ≤ 54)) (hr.mono (by decide))
        (pa_cons (pv 0) (pa_cons (pv 1) (pa_cons (pv 2) pa_nil))))) (pe_fk1 ((ok_cost T).mono (by decide : 10 ≤ 54)) (hr.mono (by decide)) (pa_cons (pv 1) pa_nil) (pk_cons (pv 2) pk_nil)))), ?_⟩
    refine s_ret (R := Is (.int (addV f rs qs))) ?_ hS k
    refine g_eq (g_I0 (i := sumV (ledW f rs (left rs qs)) (ledP rs (left rs qs))) (j := shc f rs) ?_ ?_) rfl
    · refine g_mX (α := {z : List Int × BL // z.1.length ≤ 48}) (A := fun z => LotV K z.1.1 z.1.2) (R := fun z => Is (.int (lsum z.1.1 z.1.2))) (C := "Lot") (m := "least_sum") (Pp := fun z => z.1.1 = ledW f rs (left rs qs) ∧ LotGood (ledW f rs (left rs qs)) (ledP rs (left rs qs)) z.1.2) ((g_call (R := fun (z : LedIn) v S => ∃ m, LotGood (ledW z.1.2 z.1.1.2 (left z.1.1.2 z.1.1.1)) (ledP z.1.1.2 (left z.1.1.2 z.1.1.1)) m ∧ LotV K (ledW z.1.2 z.1.1.2 (left z.1.1.2 z.1.1.1)) m v S) (a := (⟨((qs, rs), f), A, B, F, hn, hm⟩ : LedIn)) (ga_three (g_var rfl hv up_i1) up_i1 (g_var rfl hw up_i1) up_i1 (g_var rfl hf up_hv))).imp fun v S _ ⟨m, h1, h2⟩ => ⟨⟨(ledW f rs (left rs qs), m), I.n48⟩, ⟨rfl, h1⟩, h2⟩) (fun a => lot_at) fun ⟨⟨ws, m⟩, n48⟩ v S ⟨e1, h1⟩ hv => ?_
      have e1 : ws = ledW f rs (left rs qs) := e1
      subst e1
      rw [hv]
      show V.int (lsum (ledW f rs (left rs qs)) m) = _
      rw [sumV_eq I (led_nodup rs (left rs qs)) h1]
    · exact g_k1 (RX := ShelfV K rs) (RZ := HvV K f) (R := fun (z : {z : List (List Str) × (Str → Int) // ShOk z.1}) => Is (.int (shc z.1.2 z.1.1))) (a := (⟨(rs, f), B⟩ : {z : List (List Str) × (Str → Int) // ShOk z.1})) (g_var rfl hw up_i1) up_i1 (g_var rfl hf up_hv) fun v z S h1 h2 => ⟨v, z, rfl, h1, h2⟩
end
end NK
end

section
set_option Elab.async false
set_option linter.all false
set_option maxRecDepth 100000
set_option maxHeartbeats 400000
namespace NK
open PySem PySem.Spec L2
open PyProof.Rows hiding St
section
variable {P : Program} {w : World} {K : PySem.W.Frag} {mg : Str → Option Value} {base : Heap}
theorem dall_str {S : Hp} : ∀ {ys : List V} {cs : List Str}, DpAll K S ys (cs.map .str) → ys = cs.map V.str
  | _, [], h => by cases h; rfl
  | _, c :: cs, h => by
    cases h with
    | cons h1 h2 =>
      obtain rfl := Dp.strI h1
      rw [dall_str h2]
      rfl
/-- x = list(t) of a tuple of words, in a new list that may change -/
theorem q_listT {u : TS} {E : Ends} {σ : L2.St} {S S0 H H0 : Hp} {i : Nat} {te : TE} {r : List Str} (h : G te σ S (D K (encC r))) (e : Gw S0 H0 S H) (k : ∀ p S1 H1, Gw S0 H0 S1 H1 → Same S S1 → H p = none → S1 p = none → H1 p = some (.lst (r.map .str)) → u E (σ.set i (some (.ref p))) H1) :
    tSeq (tAsg (tCB (fun xs H Q => ∃ p ys, xs = [V.ref p] ∧ (SqL K H p ys ∨ SqT K H p ys) ∧ ∀ l : Addr, H l = none → Q (.ref l) (upd H l (.lst ys))) (tCons te tNil)) (gName i)) u E σ H :=
  h S H (Same.refl S) e.sh _ fun v S1 H1 e1 dv => by
    obtain ⟨p0, ys, rfl, hq, hd⟩ := Dp.tupI dv
    obtain rfl := dall_str hd
    exact ⟨p0, _, rfl, .inr (Same.sqT e1.sh hq), fun p hp => k p S1 _ ((e.trans e1).trans (Gw.mut e1.sh hp)) e1.ss (e1.hh.free hp) (e1.sh.free hp) upd_same⟩
abbrev n_lengthened : List Str := ["index", "questions", "row", "columns", "last", "column"]
theorem sc_lengthened : FnScope n_lengthened ["index", "questions"] (defScope s_lengthened) := ⟨rfl, rfl, rfl, by decide +kernel, rfl, by decide +kernel, by decide +kernel⟩
abbrev sp_lengthened (K : PySem.W.Frag) : Sp := Pu (fun (z : {z : List Str × List Qn // IxOk z.1 ∧ ChOk z.2 ∧ z.2.length ≤ 48}) => A2 (D K (encC z.1.1)) (D K (.list (z.1.2.map encQ)))) (fun z => D K (encC (z.1.2.foldl ext z.1.1)))
theorem ok_lengthened (T : Fx K mg) : Cal P w K mg base 8 "lengthened" (sp_lengthened K) := by
  obtain ⟨fd, Fn⟩ := T.d_lengthened
  refine ⟨fn_pos Fn sc_lengthened (fun vs H Q E h => ?_) (fun _ _ _ _ _ _ us hl => match us, hl with | [_, _], _ => rfl) (fun cdv A outer s H vs Q E hr h => ?_), T.g_lengthened, Fn.kp⟩
  · obtain ⟨_, _, _, ⟨_, _, rfl, _⟩, _⟩ := h
    rfl
  · obtain ⟨⟨⟨r, qs⟩, hr', C, hl⟩, S, hS, ⟨va, vb, rfl, hv, hw⟩, k⟩ := h
    have hr' : IxOk r := hr'
    refine ⟨_, pss_cons (ps_set (i := 2) sc_lengthened.nd rfl (by first | exact Or.inl rfl | exact Or.inr rfl) (pe_callTy call_list_of rfl T.b_list bt_list (pa_cons (pv 0) pa_nil))) (pss_cons (ps_for
        PassesOwn.never rfl (pi_listK (K := K) (pe_f ((ok_upwards T).mono (by decide : 7 ≤ 7)) (hr.mono (by decide)) (pa_cons (pv 1) pa_nil))) (pg_tupK (K := K) (n := 2) rfl (pgs_cons (pg_name (i :=
        3) sc_lengthened.nd rfl (by first | exact Or.inl rfl | exact Or.inr rfl)) (pgs_cons (pg_name (i := 4) sc_lengthened.nd rfl (by first | exact Or.inl rfl | exact Or.inr rfl)) pgs_nil)))
        (pss_cons (ps_expr (pe_bm PySem.F.plainAttrs_list PySem.F.slot_list_extend PySem.F.type_list_extend mt_extend (pv 2) (pa_cons (pe_lc (own := [("column", 5)]) rfl sc_lengthened.nd (pi_tupK (K
        := K) (pv 3)) (blkOk_by (N := n_lengthened) (sc := defScope s_lengthened) (by decide +kernel)) (fun _ _ _ _ _ => (pg_name (i := 5) sc_lengthened.nd rfl
        (by first | exact Or.inl rfl | exact Or.inr rfl))) (fun _ _ _ _ _ => (pts_one (pt_cmpR (r := rIn K true) op_notIn_seq (pv 5) (pv 2) rfl))) (fun _ _ _ _ _ => (pv 5))) pa_nil))) (pss_one (ps_if
        (pt_cmpR op_ne (pv 4) pe_str (nomark _)) (pss_one (ps_expr (pe_bm PySem.F.plainAttrs_list PySem.F.slot_list_append PySem.F.type_list_append mt_append (pv 2) (pa_cons (pv 4) pa_nil))))
        pss_nil)))) (pss_one (ps_ret (pe_callTy (r := rTupOf K) call_tuple_of rfl T.b_tuple bt_tuple (pa_cons (pv 2) pa_nil))))), ?_⟩
    have hl : qs.length ≤ 48 := hl
    have hlen : r.length ≤ 12 := hr'.cols.len
    refine q_listT (g_dv rfl hv) (.refl hS) fun p S1 H1 g2 s1 hp0 hSp hH1 => ?_
    refine q_for (gi_listE (xs := qs) (enc := encQ) (g_call (R := fun (q : {q : List Qn // ChOk q ∧ q.length ≤ 48}) => D K (.list (q.1.map encQ))) (a := (⟨qs, C, hl⟩ : {q : List Qn // ChOk q ∧ q.length ≤ 48})) (ga_one (g_dv rfl (Dp.up s1 hw))))) g2.sh fun S3 H3 e3 => ⟨fun i σ' S' H' => (Gw S H S' H' ∧ Same S3 S') ∧ (∃ x3 x4 x5, σ' = [some va, some vb, some (.ref p), x3, x4, x5]) ∧ S' p = none ∧ H' p = some (.lst (((qs.take i).foldl ext r).map .str)) ∧ ((qs.take i).foldl ext r).length ≤ 12 + 13 * i,
      ⟨⟨g2.trans e3, Same.refl _⟩, ⟨_, _, _, rfl⟩, e3.none hSp hH1, e3.hh _ _ hH1, by simp; omega⟩, fun i σ' S' H' h => ⟨h.1.2, h.1.1.sh⟩, ?_, ?_⟩
    · rintro i q x σ' S4 H4 S5 H5 hx ⟨⟨g4, s4⟩, ⟨y3, y4, y5, rfl⟩, hp4, hpl, hln⟩ g5 rx
      refine g_un2 rx g5.sh fun y z hy hz => ?_
      obtain rfl := Dp.strI hz
      have hqo := C.ok q (List.mem_of_getElem? hx)
      have hq12 : q.1.length ≤ 12 := hqo.cols.len
      have hil : i < qs.length := (List.getElem?_eq_some_iff.mp hx).1
      have hp5 := g5.none hp4 hpl
      have hpl5 := g5.hh _ _ hpl
      obtain ⟨row, erow⟩ : ∃ row, row = (qs.take i).foldl ext r := ⟨_, rfl⟩
      rw [← erow] at hpl5 hln
      have enext : (qs.take (i + 1)).foldl ext r = ext row q := by
        rw [take_succ' hx, List.foldl_append, ← erow]
        rfl
      refine q_extAt (RO := fun d => D K d) (l := p) (ys := row.map .str) rfl (fun d => match d with | .str c => !decide (c ∈ row) | _ => true) id g5.sh hpl5 hp5 (gi_tup (g_dv rfl hy)) (fun _ => .d) (by simp; omega) (Nat.le_trans (Nat.add_le_add_left (by rw [List.length_map]; exact List.length_filter_le _ _) _) (by simp; omega)) (fun a x S6 H6 s6 b6 hs6 ha ri Q' q' => ?_) fun ws S6 H6 e6 pr6 => ?_
      · obtain ⟨c, _, rfl⟩ := List.mem_map.mp ha
        refine q' _ S6 H6 (.refl b6) rfl (gt_test (g_notInS (g_isStr (g_dv rfl (Dp.up (Same.new hs6) ri))) (g_seqL (g_var rfl (.lst (SqL.of upd_same) (DpAll.ofStrs _)) .d)))) fun _ => g_dv rfl ri
      · have efr : ((q.1.map PyData.str).filter (fun d => match d with | .str c => !decide (c ∈ row) | _ => true)).map id = (q.1.filter fun c => !decide (c ∈ row)).map .str := by
          rw [List.map_id, List.filter_map]
          rfl
        rw [efr] at pr6
        obtain rfl : ws = (q.1.filter fun c => !decide (c ∈ row)).map V.str := dall_str (by have := pr_d (enc := id) pr6; rw [List.map_id] at this; exact this)
        have hp6 : S6 p = none := e6.none hp5 hpl5
        have gA := ((g4.trans g5).trans e6).wr (o := .lst (row.map V.str ++ (q.1.filter fun c => !decide (c ∈ row)).map V.str)) hp0 hp6
        have hfl : (q.1.filter fun c => !decide (c ∈ row)).length ≤ q.1.length := List.length_filter_le _ _
        refine s_if (c := !decide (q.2 = "")) (gt_eq (gt_test (g_neS (g_is rfl) (g_c (v := .str "")) rfl)) (by simp)) gA.sh (fun hc S7 H7 e7 => ?_) fun hc S7 H7 e7 => ?_
        · have hp7 := e7.none hp6 upd_same
          have h7 := e7.hh _ _ upd_same
          have hz : ¬ q.2 = "" := by simpa using hc
          refine s_app (i := 2) (R := Is (.str q.2)) rfl (g_is rfl) e7.sh h7 (by simp; omega) fun v S8 H8 e8 rv => ⟨S8, ⟨((gA.trans e7).trans e8).wr hp0 (e8.none hp7 h7), (((s4.trans g5.ss).trans e6.ss).trans e7.ss).trans e8.ss⟩, ⟨_, _, _, rfl⟩, e8.none hp7 h7, ?_, ?_⟩
          · rw [upd_same, enext, rv]
            unfold ext
            rw [if_neg hz, List.map_append, List.map_append]
            rfl
          · rw [enext]
            unfold ext
            rw [if_neg hz, List.length_append, List.length_append, List.length_singleton]
            omega
        · have hz : q.2 = "" := by simpa using hc
          refine ⟨S7, ⟨gA.trans e7, ((s4.trans g5.ss).trans e6.ss).trans e7.ss⟩, ⟨_, _, _, rfl⟩, e7.none hp6 upd_same, ?_, ?_⟩
          · rw [e7.hh _ _ upd_same, enext]
            unfold ext
            rw [if_pos hz, List.append_nil, List.map_append]
          · rw [enext]
            unfold ext
            rw [if_pos hz, List.append_nil, List.length_append]
            omega
    · rintro σ' S4 H4 ⟨⟨g4, s4⟩, ⟨y3, y4, y5, rfl⟩, hp4, hpl, hln⟩
      rw [List.take_length] at hpl
      have g5 := g4.frz hp0 hp4 hpl
      exact s_retK (g_tupOfL (ds := (qs.foldl ext r).map .str) (g_var (i := 2) rfl (.lst (SqL.of upd_same) (DpAll.ofStrs _)) .d)) g5 k
end
end NK
end

section
set_option Elab.async false
set_option linter.all false
set_option maxRecDepth 100000
set_option maxHeartbeats 400000
namespace NK
open PySem PySem.Spec L2
/-! ### an extended index serves the question that it was extended by -/
theorem fresh_len : ∀ {r cs : List Str}, r.Nodup → cs.Nodup → (∀ c ∈ r, c ∈ cs) → (r ++ cs.filter fun c => !decide (c ∈ r)).length = cs.length := fun {r cs} h1 h2 h3 => by
  have nd : (r ++ cs.filter fun c => !decide (c ∈ r)).Nodup := List.nodup_append.mpr ⟨h1, h2.filter _, fun a ha b hb e => by
    subst e
    have := (List.mem_filter.mp hb).2
    simp [ha] at this⟩
  refine Nat.le_antisymm (sub_len nd fun c hc => ?_) (sub_len h2 fun c hc => ?_)
  · rcases List.mem_append.mp hc with h | h
    · exact h3 c h
    · exact (List.mem_filter.mp h).1
  · by_cases h : c ∈ r
    · exact List.mem_append_left _ h
    · exact List.mem_append_right _ (List.mem_filter.mpr ⟨hc, by simp [h]⟩)
theorem srv_ext {r rest : List Str} {q : Qn} (h1 : r.Nodup) (h2 : q.1.Nodup) (h3 : ∀ c ∈ r, c ∈ q.1) : srv (ext r q ++ rest) q = true := by
  have hl := fresh_len h1 h2 h3
  obtain ⟨a, ea⟩ : ∃ a, a = r ++ q.1.filter fun c => !decide (c ∈ r) := ⟨_, rfl⟩
  have ha : ∀ c ∈ a, c ∈ q.1 := fun c hc => by
    rw [ea] at hc
    rcases List.mem_append.mp hc with h | h
    · exact h3 c h
    · exact (List.mem_filter.mp h).1
  have ee : ext r q ++ rest = a ++ ((if q.2 = "" then [] else [q.2]) ++ rest) := by
    rw [ea]
    unfold ext
    rw [List.append_assoc]
  rw [← ea] at hl
  rw [ee]
  unfold srv
  rw [Bool.and_eq_true]
  refine ⟨List.all_eq_true.mpr fun i hi => ?_, ?_⟩
  · have hi : i < a.length := by rw [hl]; exact List.mem_range.mp hi
    unfold srvAt
    rw [List.getElem?_append_left hi, List.getElem?_eq_getElem hi]
    exact decide_eq_true (ha _ (List.getElem_mem hi))
  · by_cases h : q.2 = ""
    · simp [h]
    · rw [List.getElem?_append_right (by omega), hl, Nat.sub_self, if_neg h]
      simp
theorem ext_pre (r : List Str) (q : Qn) : ∃ t, ext r q = r ++ t := ⟨_, by unfold ext; rw [List.append_assoc]⟩
theorem fold_pre : ∀ (qs : List Qn) (r : List Str), ∃ t, qs.foldl ext r = r ++ t
  | [], r => ⟨[], by simp⟩
  | q :: qs, r => by
    obtain ⟨t, e⟩ := ext_pre r q
    obtain ⟨u, e2⟩ := fold_pre qs (ext r q)
    exact ⟨t ++ u, by rw [List.foldl_cons, e2, e, List.append_assoc]⟩
theorem fold_srv : ∀ {qs : List Qn} {r : List Str}, ChOk qs → r.Nodup → (∀ q ∈ qs, ∀ c ∈ r, c ∈ q.1) → ∀ q ∈ qs, srv (qs.foldl ext r) q = true
  | [], _, _, _, _, _, h => by cases h
  | q :: qs, r, hc, h1, h3, s, hs => by
    rw [List.foldl_cons]
    have hp := List.pairwise_cons.mp hc.ch
    have hq := hc.ok q List.mem_cons_self
    have hm := ext_mem (h3 q List.mem_cons_self)
    rcases List.mem_cons.mp hs with rfl | hs
    · obtain ⟨t, e⟩ := fold_pre qs (ext r s)
      rw [e]
      exact srv_ext h1 hq.cols.nd (h3 s List.mem_cons_self)
    · exact fold_srv ⟨fun r hr => hc.ok r (List.mem_cons_of_mem _ hr), hp.2⟩ (ext_nd h1 (h3 q List.mem_cons_self) hq) (fun r hr c h => below_sub (hp.1 r hr) c ((hm c).mp h)) s hs
theorem idx_srv {qs : List Qn} (h : ChOk qs) : ∀ q ∈ qs, srv (idx qs) q = true := fold_srv h List.nodup_nil fun _ _ c h => by cases h
end NK
end

section
set_option Elab.async false
set_option linter.all false
set_option maxRecDepth 100000
set_option maxHeartbeats 400000
namespace NK
open PySem PySem.Spec L2
open PyProof.Rows hiding St
section
variable {P : Program} {w : World} {K : PySem.W.Frag} {mg : Str → Option Value} {base : Heap}
/-- whether a chain begins with a standing index -/
def isEld (m : Nat) (c : List Nat) : Bool := decide (m ≤ c.headD 0)
def eldOf (L : List Qn) (rs : List (List Str)) (c : List Nat) : Nat × List Str := (c.headD 0 - L.length, (pick L c.tail).foldl ext (rs.getD (c.headD 0 - L.length) []))
def elds (L : List Qn) (rs : List (List Str)) (cs : List (List Nat)) : List (Nat × List Str) := (cs.filter (isEld L.length)).map (eldOf L rs)
def mors (L : List Qn) (cs : List (List Nat)) : List (List Str) := (cs.filter fun c => !isEld L.length c).map fun c => idx (pick L c)
def eldAt (els : List (Nat × List Str)) (n : Nat) : List Str := ((els.find? fun e => decide (e.1 = n)).map (·.2)).getD []
/-- the shelf that chains make of standing indexes -/
def ldsh (L : List Qn) (rs : List (List Str)) (cs : List (List Nat)) : List (List Str) := (List.range rs.length).map (fun n => eldAt (elds L rs cs) n) ++ mors L cs
structure LdCh (L : List Qn) (rs : List (List Str)) (cs : List (List Nat)) : Prop where
  len : cs.length ≤ 48
  ne : ∀ c ∈ cs, c ≠ [] ∧ c.length ≤ 48
  old : ∀ c ∈ cs, isEld L.length c = true → ∃ r, rs[c.headD 0 - L.length]? = some r ∧ (∀ i ∈ c.tail, i < L.length) ∧ ChOk (pick L c.tail) ∧ ∀ q ∈ pick L c.tail, ∀ x ∈ r, x ∈ q.1
  new : ∀ c ∈ cs, isEld L.length c = false → (∀ i ∈ c, i < L.length) ∧ ChOk (pick L c)
  nd : ((cs.filter (isEld L.length)).map fun c => c.headD 0).Nodup
  all : ∀ n, n < rs.length → ∃ c ∈ cs, c.headD 0 = L.length + n

/-- o[i] by the class's own __getitem__ -/
theorem g_ixO {σ : L2.St} {S : Hp} {ta tb : TE} {C : Str} {α : Type} {A B : α → Rel} {R : α → Rel} {a : α} (ha : G ta σ S (A a)) (hA : ∀ v S, A a v S → ∃ p dx fs, v = .ref p ∧ S p = some (.ins (He.ga K C) dx fs)) (u : Up (A a)) (hb : G tb σ S (B a)) :
    G (tOp (rIxO K C (Pu (fun a => A2 (A a) (B a)) R)) ta tb) σ S (R a) :=
  g_op ha u hb fun x y S1 H1 _ c hx hy Q q => by
    obtain ⟨p, dx, fs, rfl, hp⟩ := hA x S1 hx
    exact ⟨p, dx, fs, rfl, c _ _ hp, a, S1, c, ⟨_, _, rfl, hx, hy⟩, fun v S2 H2 e2 r2 => q v S2 H2 e2 r2⟩
/-- x, y = ({}, []) -/
theorem q_newDL {u : TS} {E : Ends} {σ : L2.St} {H : Hp} {i j : Nat} (k : ∀ p q H1, p ≠ q → H p = none → H q = none → (∀ b u, H b = some u → H1 b = some u) → H1 p = some (.dK []) → H1 q = some (.lst []) → u E ((σ.set i (some (.ref p))).set j (some (.ref q))) H1) :
    tSeq (tAsg (tTup (tCons tDNewK (tCons (tLst tNil) tNil))) (gTup K 2 (gCons (gName i) (gCons (gName j) gNil)))) u E σ H :=
  fun p hp => ⟨Nat.zero_le _, fun q hq => ⟨(show 2 ≤ sizeLine by decide), fun t ht => by
    have npq : p ≠ q := fun e => by
      subst e
      rw [upd_same] at hq
      cases hq
    have hq' : H q = none := by rw [upd_ne npq.symm] at hq; exact hq
    have ntq : q ≠ t := fun e => by
      subst e
      rw [upd_same] at ht
      cases ht
    have ntp : p ≠ t := fun e => by
      subst e
      rw [upd_ne npq, upd_same] at ht
      cases ht
    refine ⟨t, [.ref p, .ref q], rfl, SqT.of upd_same, rfl, .ref p, [.ref q], rfl, .ref q, [], rfl, rfl, k p q _ npq hp hq' (fun b v hb => ?_) ?_ ?_⟩
    · have h3 : upd (upd H p (.dK [])) q (.lst []) b = some v := by rw [upd_ne (ne_of_none hb hq'), upd_ne (ne_of_none hb hp)]; exact hb
      rw [upd_ne (ne_of_none h3 ht)]
      exact h3
    · rw [upd_ne ntp, upd_ne npq, upd_same]
    · rw [upd_ne ntq, upd_same]⟩⟩
theorem pick_map {L : List Qn} {c : List Nat} (h : ∀ i ∈ c, i < L.length) : pick L c = c.map fun i => L.getD i ([], "") := by
  induction c with
  | nil => rfl
  | cons a c ih =>
    have ha := h a List.mem_cons_self
    unfold pick at ih ⊢
    rw [List.filterMap_cons, List.getElem?_eq_getElem ha, List.map_cons, ← ih fun i hi => h i (List.mem_cons_of_mem _ hi), List.getD_eq_getElem?_getD, List.getElem?_eq_getElem ha]
    rfl
/-- [questions[one] for one in a row of numbers] -/
theorem g_pick {σ : L2.St} {S : Hp} {wi : TI} {L : List Qn} {c : List Nat} {i j : Nat} {vs : List Nat} (hi : GI wi σ S c (fun (y : Nat) => D K (.int (y : Int)))) (hc : ∀ i ∈ c, i < L.length) (hz : c.length ≤ 100000) (te_ : ∀ x S1, Same S S1 → G (tVar j) ((wipe σ vs).set i (some x)) S1 (D K (.list (L.map encQ))))
    (hv : ∀ x, ((wipe σ vs).set i (some x))[i]? = some (some x) := by intro _; rfl) (hw : ∀ x, wipe ((wipe σ vs).set i (some x)) vs = wipe σ vs := by intro _; rfl) : G (tLc wi (gName i) tYes (tOp (rIxL K) (tVar j) (tVar i)) vs) σ S (D K (.list ((pick L c).map encQ))) := by
  rw [pick_map hc]
  refine g_map1 (fun i => L.getD i ([], "")) encQ hi hz (fun a x S2 s2 ha ry => ?_) hw
  have hil := hc a ha
  refine g_ixL (i := a) (te_ x S2 s2) (g_isInt (g_var (hv x) ry .d)) ?_
  rw [List.getElem?_map, List.getElem?_eq_getElem hil, List.getD_eq_getElem?_getD, List.getElem?_eq_getElem hil]
  rfl
theorem elds_snoc {L : List Qn} {rs : List (List Str)} {cs : List (List Nat)} {c : List Nat} : elds L rs (cs ++ [c]) = elds L rs cs ++ if isEld L.length c = true then [eldOf L rs c] else [] := by
  unfold elds
  rw [List.filter_append, List.map_append]
  congr 1
  by_cases h : isEld L.length c = true <;> simp [h]
theorem mors_snoc {L : List Qn} {cs : List (List Nat)} {c : List Nat} : mors L (cs ++ [c]) = mors L cs ++ if isEld L.length c = true then [] else [idx (pick L c)] := by
  unfold mors
  rw [List.filter_append, List.map_append]
  congr 1
  by_cases h : isEld L.length c = true <;> simp [h]
theorem pk_gi {σ : L2.St} {S : Hp} {te : TE} {c : List Nat} (h : G te σ S (D K (.list (encNs c)))) : GI (iList K te) σ S c (fun (y : Nat) => D K (.int (y : Int))) := gi_listE (xs := c) (enc := fun (y : Nat) => PyData.int (y : Int)) h
/-- an entry of the dict of lengthened indexes -/
def EntR (K : PySem.W.Frag) (S : Hp) (kv : Key × V) (e : Nat × List Str) : Prop := kv.1 = ky e.1 ∧ Dp K S kv.2 (encC e.2)
theorem put_new {kvs : List (Key × V)} {k : Key} {v : V} (h : ∀ kv ∈ kvs, kv.1 ≠ k) : putK kvs k v = kvs ++ [(k, v)] := by
  unfold putK
  rw [if_neg]
  intro z
  obtain ⟨kv, hk, e⟩ := List.any_eq_true.mp z
  exact h kv hk (of_decide_eq_true e)
theorem ent_keys {S : Hp} {kvs : List (Key × V)} {els : List (Nat × List Str)} (p : Paired (EntR K S) kvs els) : ∀ kv ∈ kvs, ∃ e ∈ els, kv.1 = ky e.1 := by
  induction p with
  | nil => exact fun kv h => nomatch h
  | cons a _ ih =>
    intro kv h
    rcases List.mem_cons.mp h with rfl | h
    · exact ⟨_, List.mem_cons_self, a.1⟩
    · obtain ⟨e, he, q⟩ := ih kv h
      exact ⟨e, List.mem_cons_of_mem _ he, q⟩
theorem ent_get {S : Hp} {kvs : List (Key × V)} {els : List (Nat × List Str)} (p : Paired (EntR K S) kvs els) {n : Nat} (h : ∃ e ∈ els, e.1 = n) : ∃ v, valV kvs (ky n) = some v ∧ Dp K S v (encC (eldAt els n)) := by
  induction p with
  | nil =>
    obtain ⟨e, he, _⟩ := h
    cases he
  | @cons kv e kvs els a t ih =>
    by_cases hn : e.1 = n
    · refine ⟨kv.2, ?_, ?_⟩
      · unfold valV
        rw [List.find?_cons, a.1, hn, decide_eq_true rfl]
        rfl
      · unfold eldAt
        rw [List.find?_cons, decide_eq_true hn]
        exact a.2
    · obtain ⟨v, h1, h2⟩ := ih (by
        obtain ⟨e', he', q⟩ := h
        rcases List.mem_cons.mp he' with rfl | he'
        · exact absurd q hn
        · exact ⟨e', he', q⟩)
      refine ⟨v, ?_, ?_⟩
      · unfold valV at h1 ⊢
        rw [List.find?_cons, a.1, decide_eq_false fun z => hn (ky_eq.mp z)]
        exact h1
      · unfold eldAt at h2 ⊢
        rw [List.find?_cons, decide_eq_false hn]
        exact h2
theorem ent_up {S S' : Hp} (e : Same S S') {kvs : List (Key × V)} {els : List (Nat × List Str)} (p : Paired (EntR K S) kvs els) : Paired (EntR K S') kvs els := Paired.mapP p fun _ _ h => ⟨h.1, Dp.up e h.2⟩
theorem elds_mem {L : List Qn} {rs : List (List Str)} {cs : List (List Nat)} (C : LdCh L rs cs) {n : Nat} (h : n < rs.length) : ∃ e ∈ elds L rs cs, e.1 = n := by
  obtain ⟨c, hc, e⟩ := C.all n h
  refine ⟨eldOf L rs c, List.mem_map.mpr ⟨c, List.mem_filter.mpr ⟨hc, ?_⟩, rfl⟩, ?_⟩
  · unfold isEld
    rw [e]
    exact decide_eq_true (Nat.le_add_right _ _)
  · unfold eldOf
    rw [e]
    exact Nat.add_sub_cancel_left _ _
/-- what stands at n -/
theorem eldAt_of {els : List (Nat × List Str)} {n : Nat} (h : ∃ e ∈ els, e.1 = n) : (n, eldAt els n) ∈ els := by
  unfold eldAt
  cases hf : els.find? fun e => decide (e.1 = n) with
  | none =>
    obtain ⟨e, he, q⟩ := h
    have := List.find?_eq_none.mp hf e he
    simp [q] at this
  | some e =>
    have h1 := List.find?_some hf
    have h2 := List.mem_of_find?_eq_some hf
    have : e.1 = n := by simpa using h1
    rw [← this]
    exact h2
theorem eld_ix {L : List Qn} {rs : List (List Str)} {c : List Nat} (B : ShOk rs) {r : List Str} (hr : rs[c.headD 0 - L.length]? = some r) (ch : ChOk (pick L c.tail)) (un : ∀ q ∈ pick L c.tail, ∀ x ∈ r, x ∈ q.1) : IxOk ((pick L c.tail).foldl ext r) := by
  have hi := B.ok r (List.mem_of_getElem? hr)
  have f := fold_ok ch hi.cols.nd hi.cols.mem un
  refine ⟨⟨f.2, f.1⟩, fun e => ?_⟩
  obtain ⟨x, hx⟩ := List.exists_mem_of_ne_nil _ hi.ne
  have := fold_keep (qs := pick L c.tail) hx
  rw [e] at this
  cases this
theorem ldsh_ok {L : List Qn} {rs : List (List Str)} {cs : List (List Nat)} (B : ShOk rs) (C : LdCh L rs cs) : ShOk (ldsh L rs cs) := by
  refine ⟨fun r hr => ?_, ?_⟩
  · rcases List.mem_append.mp hr with hr | hr
    · obtain ⟨n, hn, rfl⟩ := List.mem_map.mp hr
      have hm := eldAt_of (elds_mem C (List.mem_range.mp hn))
      obtain ⟨c, hc, e⟩ := List.mem_map.mp hm
      obtain ⟨hc, hi⟩ := List.mem_filter.mp hc
      obtain ⟨r, h1, h2, h3, h4⟩ := C.old c hc hi
      have e2 : (pick L c.tail).foldl ext (rs.getD (c.headD 0 - L.length) []) = eldAt (elds L rs cs) n := congrArg Prod.snd e
      rw [List.getD_eq_getElem?_getD, h1] at e2
      rw [← e2]
      exact eld_ix B h1 h3 h4
    · obtain ⟨c, hc, rfl⟩ := List.mem_map.mp hr
      obtain ⟨hc, hi⟩ := List.mem_filter.mp hc
      obtain ⟨h1, h2⟩ := C.new c hc (by simpa using hi)
      refine ⟨idx_ok h2, fun e => ?_⟩
      have p1 := (pick_at c h1).1
      exact idx_ne h2 (fun z => (C.ne c hc).1 (List.eq_nil_of_length_eq_zero (by rw [← p1, z]; rfl))) e
  · unfold ldsh mors
    rw [List.length_append, List.length_map, List.length_range, List.length_map]
    have h1 : rs.length ≤ (cs.filter (isEld L.length)).length := by
      have h2 : ((List.range rs.length).map (L.length + ·)).length ≤ ((cs.filter (isEld L.length)).map fun c => c.headD 0).length := sub_len (nodup_map (fun a b e => by omega) List.nodup_range) fun x hx => by
        obtain ⟨n, hn, rfl⟩ := List.mem_map.mp hx
        obtain ⟨c, hc, e⟩ := C.all n (List.mem_range.mp hn)
        refine List.mem_map.mpr ⟨c, List.mem_filter.mpr ⟨hc, ?_⟩, e⟩
        unfold isEld
        rw [e]
        exact decide_eq_true (Nat.le_add_right _ _)
      rwa [List.length_map, List.length_range, List.length_map] at h2
    have h3 := filter_split (isEld L.length) cs
    have := C.len
    omega
theorem eld_new {L : List Qn} {rs : List (List Str)} {cs : List (List Nat)} (C : LdCh L rs cs) {i : Nat} {c : List Nat} (h : cs[i]? = some c) (hc : isEld L.length c = true) : ∀ e ∈ elds L rs (cs.take i), e.1 ≠ c.headD 0 - L.length := by
  intro e he z
  obtain ⟨d, hd, rfl⟩ := List.mem_map.mp he
  obtain ⟨hd1, hd2⟩ := List.mem_filter.mp hd
  have n := C.nd
  have hl := (List.getElem?_eq_some_iff.mp h)
  obtain ⟨hl, ec⟩ := hl
  have es : cs = cs.take i ++ c :: cs.drop (i + 1) := by
    rw [← ec, List.getElem_cons_drop, List.take_append_drop]
  rw [es, List.filter_append, List.filter_cons_of_pos hc, List.map_append, List.map_cons] at n
  have q := (List.nodup_append.mp n).2.2
  have h1 : L.length ≤ d.headD 0 := of_decide_eq_true hd2
  have h2 : L.length ≤ c.headD 0 := of_decide_eq_true hc
  have z : d.headD 0 - L.length = c.headD 0 - L.length := z
  exact q (d.headD 0) (List.mem_map_of_mem hd) (c.headD 0) List.mem_cons_self (by omega)
abbrev n_shelf_led : List Str := ["asked", "standing", "chains", "questions", "many", "elder", "more", "chain", "number", "one"]
theorem sc_shelf_led : FnScope n_shelf_led ["asked", "standing", "chains"] (defScope s_shelf_led) := ⟨rfl, rfl, rfl, by decide +kernel, rfl, by decide +kernel, by decide +kernel⟩
abbrev sp_shelf_led (K : PySem.W.Frag) : Sp := Pu (fun (z : {z : (List Qn × List (List Str)) × List (List Nat) // AkOk z.1.1 ∧ ShOk z.1.2 ∧ LdCh (left z.1.2 z.1.1) z.1.2 z.2}) => A3 (AskedV K z.1.1.1) (ShelfV K z.1.1.2) (LsR (fun c => L0 K (encNs c)) z.1.2)) (fun z => ShelfV K (ldsh (left z.1.1.2 z.1.1.1) z.1.1.2 z.1.2))
theorem ok_shelf_led (T : Fx K mg) : Cal P w K mg base 13 "shelf_led" (sp_shelf_led K) := by
  obtain ⟨fd, Fn⟩ := T.d_shelf_led
  refine ⟨fn_pos Fn sc_shelf_led (fun vs H Q E h => ?_) (fun _ _ _ _ _ _ us hl => match us, hl with | [_, _, _], _ => rfl) (fun cdv A outer s H vs Q E hr h => ?_), T.g_shelf_led, Fn.kp⟩
  · obtain ⟨_, _, _, ⟨_, _, _, rfl, _⟩, _⟩ := h
    rfl
  · obtain ⟨⟨⟨⟨qs, rs⟩, cs⟩, A, B, C⟩, S, hS, ⟨va, vb, vc, rfl, hv, hw, hx⟩, k⟩ := h
    have A : AkOk qs := A
    have B : ShOk rs := B
    have A' : AkOk (left rs qs) := left_ok A
    have C : LdCh (left rs qs) rs cs := C
    have hu := hu_of hr
    refine ⟨_, pss_cons (ps_set (i := 3) sc_shelf_led.nd rfl (by first | exact Or.inl rfl | exact Or.inr rfl) (pe_m0K (K := K) ((ok_Asked_questions T).mono (by decide : 1 ≤ 12)) (hr.mono (by decide)) (pe_f
        ((ok_unserved T).mono (by decide : 12 ≤ 12)) (hr.mono (by decide)) (pa_cons (pv 1) (pa_cons (pv 0) pa_nil))))) (pss_cons (ps_set (i := 4) sc_shelf_led.nd rfl
        (by first | exact Or.inl rfl | exact Or.inr rfl) (pe_callB (r := rLn K) call_len rfl T.b_len bt_len (pa_cons (pv 3) pa_nil))) (pss_cons (ps_asg (pe_tup (pa_cons pe_dnewK (pa_cons (pe_lst
        pa_nil) pa_nil))) (pg_tupK (K := K) (n := 2) rfl (pgs_cons (pg_name (i := 5) sc_shelf_led.nd rfl (by first | exact Or.inl rfl | exact Or.inr rfl)) (pgs_cons (pg_name (i := 6) sc_shelf_led.nd
        rfl (by first | exact Or.inl rfl | exact Or.inr rfl)) pgs_nil)))) (pss_cons (ps_for PassesOwn.never rfl (pi_listK (K := K) (pv 2)) (pg_name (i := 7) sc_shelf_led.nd rfl
        (by first | exact Or.inl rfl | exact Or.inr rfl)) (pss_one (ps_if (pt_cmpR op_ge (pe_ix (r := rIxL K) ix_list (pv 7) pe_int (fun _ _ => rfl)) (pv 4) (nomark _)) (pss_cons (ps_set (i := 8)
        sc_shelf_led.nd rfl (by first | exact Or.inl rfl | exact Or.inr rfl) (pe_op op_sub (pe_ix (r := rIxL K) ix_list (pv 7) pe_int (fun _ _ => rfl)) (pv 4))) (pss_one (ps_dput hu (pv 5) (pv 8)
        (pe_f ((ok_lengthened T).mono (by decide : 8 ≤ 12)) (hr.mono (by decide)) (pa_cons (ix_own ((ok_Shelf___getitem__ T).mono (by decide : 3 ≤ 11)) (hr.mono (by decide)) (pv 1) (pv 8)) (pa_cons
        (pe_lc (own := [("one", 9)]) rfl sc_shelf_led.nd (pi_listK (K := K) (pe_slice (r := rSlL K) sl_list (pv 7) (po_some pe_int) po_none)) (blkOk_by (N := n_shelf_led) (sc := defScope s_shelf_led)
        (by decide +kernel)) (fun _ _ _ _ _ => (pg_name (i := 9) sc_shelf_led.nd rfl (by first | exact Or.inl rfl | exact Or.inr rfl))) (fun _ _ _ _ _ => pts_nil) (fun _ _ _ _ _ => (pe_ix (r := rIxL
        K) ix_list (pv 3) (pv 9) (fun _ _ => rfl)))) pa_nil))) rfl))) (pss_one (ps_expr (pe_bm PySem.F.plainAttrs_list PySem.F.slot_list_append PySem.F.type_list_append mt_append (pv 6) (pa_cons (pe_f
        ((ok_index_for T).mono (by decide : 12 ≤ 12)) (hr.mono (by decide)) (pa_cons (pe_lc (own := [("one", 9)]) rfl sc_shelf_led.nd (pi_listK (K := K) (pv 7)) (blkOk_by (N := n_shelf_led) (sc :=
        defScope s_shelf_led) (by decide +kernel)) (fun _ _ _ _ _ => (pg_name (i := 9) sc_shelf_led.nd rfl (by first | exact Or.inl rfl | exact Or.inr rfl))) (fun _ _ _ _ _ => pts_nil) (fun _ _ _ _ _
        => (pe_ix (r := rIxL K) ix_list (pv 3) (pv 9) (fun _ _ => rfl)))) pa_nil)) pa_nil))))))) (pss_one (ps_ret (StX.pe_makeR T.mk_Shelf ((ok_Shelf___init__ T).mono (by decide : 9 ≤ 11)).run
        (hr.mono (by decide)) rfl T.g_Shelf pass0 (pa_cons (pe_op op_cat (pe_lc (own := [("number", 8)]) rfl sc_shelf_led.nd (pi_range1 rfl T.b_range (pa_cons (pe_callB (cr_lenO ((ok_Shelf___len__
        T).mono (by decide : 1 ≤ 11)) (hr.mono (by decide))) rfl T.b_len bt_len (pa_cons (pv 1) pa_nil)) pa_nil)) (blkOk_by (N := n_shelf_led) (sc := defScope s_shelf_led) (by decide +kernel)) (fun _
        _ _ _ _ => (pg_name (i := 8) sc_shelf_led.nd rfl (by first | exact Or.inl rfl | exact Or.inr rfl))) (fun _ _ _ _ _ => pts_nil) (fun _ _ _ _ _ => (pe_dget hu (pv 5) (pv 8) (fun _ _ => rfl))))
        (pv 6)) pa_nil))))))), ?_⟩
    refine q_set (g_qs (g_uns B A (g_var rfl hw up_i1) (g_var rfl hv up_i1))) (.refl hS) fun v S1 H1 e1 s1 dq => ?_
    have l15 := A'.len
    have c48 := C.len
    refine q_set (g_eq (g_lenL (g_dv rfl dq)) (v' := .int ((left rs qs).length : Nat)) (by simp)) e1 fun v2 S2 H2 e2 s2 r2 => ?_
    subst r2
    refine q_newDL fun pd pm H3 npq hpd hpm hold hH3d hH3m => ?_
    have g3 : Gw S H S2 H3 := ⟨e2.ss, fun b u h => hold _ _ (e2.hh b u h), fun b u h => hold _ _ (e2.sh b u h), e2.old⟩
    have hd0 : H pd = none := e2.hh.free hpd
    have hm0 : H pm = none := e2.hh.free hpm
    refine q_for (gi_lsR (bs := cs) (RO := fun c => L0 K (encNs c)) (g_var rfl (up_lsR (fun _ => up_l0) _ _ _ (s1.trans s2) hx) (up_lsR fun _ => up_l0)) fun _ => up_l0) g3.sh fun S4 H4 e4 => ⟨fun i σ' S' H' => (Gw S H S' H' ∧ Same S4 S') ∧ (∃ x7 x8, σ' = [some va, some vb, some vc, some v, some (.int ((left rs qs).length : Nat)), some (.ref pd), some (.ref pm), x7, x8, none]) ∧
        (S' pd = none ∧ S' pm = none) ∧ ∃ kvs ws, H' pd = some (.dK kvs) ∧ H' pm = some (.lst ws) ∧ Paired (EntR K S') kvs (elds (left rs qs) rs (cs.take i)) ∧ DpAll K S' ws ((mors (left rs qs) (cs.take i)).map encC) ∧ kvs.length ≤ i ∧ ws.length ≤ i,
      ⟨⟨g3.trans e4, Same.refl _⟩, ⟨_, _, rfl⟩, ⟨e4.none (e2.sh.free hpd) hH3d, e4.none (e2.sh.free hpm) hH3m⟩, [], [], e4.hh _ _ hH3d, e4.hh _ _ hH3m, .nil, .nil, Nat.le_refl _, Nat.le_refl _⟩, fun i σ' S' H' h => ⟨h.1.2, h.1.1.sh⟩, ?_, ?_⟩
    · rintro i c x σ' S5 H5 S6 H6 hx6 ⟨⟨g5, s5⟩, ⟨y7, y8, rfl⟩, ⟨hpd5, hpm5⟩, kvs, ws, hkv, hws, pr, dm, l1, l2⟩ g6 rx
      have hcm := List.mem_of_getElem? hx6
      have hil : i < cs.length := (List.getElem?_eq_some_iff.mp hx6).1
      obtain ⟨cne, c48'⟩ := C.ne c hcm
      obtain ⟨a, t, ec⟩ := List.exists_cons_of_ne_nil cne
      have ehd : c.headD 0 = a := by rw [ec]; rfl
      have etl : c.tail = t := by rw [ec]; rfl
      have s06 : Same S S6 := (((s1.trans s2).trans e4.ss).trans s5).trans g6.ss
      have g06 := g5.trans g6
      have hix : ∀ {S7 : Hp} {y8 : Option V}, Same S6 S7 → G (tOp (rIxL K) (tVar 7) (tC (.int 0))) [some va, some vb, some vc, some v, some (.int ((left rs qs).length : Nat)), some (.ref pd), some (.ref pm), some x, y8, none] S7 (Is (.int (a : Nat))) := fun s7 => g_isInt (g_ixL (i := 0) (ds := encNs c) (g_l0D (g_var rfl (up_l0 _ _ _ s7 rx) up_l0)) g_c (by rw [ec]; rfl))
      show tIfS _ _ _ _ _ _
      refine s_if (c := isEld (left rs qs).length c) (gt_test (g_eq (g_I0 (i := (a : Nat)) (j := ((left rs qs).length : Nat)) (hix (Same.refl _)) (g_is rfl)) ?_)) g6.sh (fun hc S7 H7 e7 => ?_) fun hc S7 H7 e7 => ?_
      · unfold isEld
        rw [ehd]
        simp
      · obtain ⟨r, o1, o2, o3, o4⟩ := C.old c hcm hc
        have hge : (left rs qs).length ≤ a := ehd ▸ of_decide_eq_true hc
        rw [ehd] at o1
        rw [etl] at o2 o3 o4
        have g07 := g06.trans e7
        refine q_set (g_eq (g_I0 (i := (a : Nat)) (j := ((left rs qs).length : Nat)) (hix e7.ss) (g_is rfl)) (v' := .int ((a - (left rs qs).length : Nat) : Int)) (by congr 1; omega)) (.refl e7.sh) fun v8 S8 H8 e8 s8 r8 => ?_
        subst r8
        have s08 := (s06.trans e7.ss).trans s8
        have hr8 := B.ok r (List.mem_of_getElem? o1)
        have tl48 : t.length ≤ 48 := by rw [ec, List.length_cons] at c48'; omega
        have pl48 : (pick (left rs qs) t).length ≤ 48 := by rw [(pick_at t o2).1]; exact tl48
        have gcall : G (tF (sp_lengthened K) (tCons (tOp (rIxO K "Shelf" (sp_Shelf___getitem__ K)) (tVar 1) (tVar 8)) (tCons (tLc (iList K (tSl (rSlL K) (tVar 7) (tPart (tC (.int 1))) tNoPart)) (gName 9) tYes (tOp (rIxL K) (tVar 3) (tVar 9)) [9]) tNil))) [some va, some vb, some vc, some v, some (.int ((left rs qs).length : Nat)), some (.ref pd), some (.ref pm), some x, some (.int ((a - (left rs qs).length : Nat) : Int)), none] S8 (D K (encC ((pick (left rs qs) t).foldl ext r))) := by
          refine g_call (R := fun (z : {z : List Str × List Qn // IxOk z.1 ∧ ChOk z.2 ∧ z.2.length ≤ 48}) => D K (encC (z.1.2.foldl ext z.1.1))) (a := (⟨(r, pick (left rs qs) t), hr8, o3, pl48⟩ : {z : List Str × List Qn // IxOk z.1 ∧ ChOk z.2 ∧ z.2.length ≤ 48})) (ga_two ?_ .d (g_pick (pk_gi ?_) o2 (by omega) fun y S9 s9 => g_dv rfl (Dp.up ((((s2.trans e4.ss).trans s5).trans g6.ss).trans ((e7.ss.trans s8).trans s9)) dq)))
          · exact g_ixO (A := fun (z : {z : List (List Str) × Nat × List Str // z.1[z.2.1]? = some z.2.2}) => ShelfV K z.1.1) (B := fun z => Is (.int z.1.2.1)) (R := fun z => D K (encC z.1.2.2)) (a := (⟨(rs, a - (left rs qs).length, r), o1⟩ : {z : List (List Str) × Nat × List Str // z.1[z.2.1]? = some z.2.2})) (g_var rfl (up_i1 _ _ _ s08 hw) up_i1) (fun v S ⟨a, dx, t, h1, h2, h3⟩ => ⟨a, dx, _, h1, h2⟩) up_i1 (g_is rfl)
          · refine g_l0D ?_
            have q := g_slLo (K := K) (σ := [some va, some vb, some vc, some v, some (.int ((left rs qs).length : Nat)), some (.ref pd), some (.ref pm), some x, some (.int ((a - (left rs qs).length : Nat) : Int)), none]) (ta := tVar 7) (tb := tC (.int 1)) (S := S8) (ds := encNs c) (i := 1) (g_l0D (g_var rfl (up_l0 _ _ _ (e7.ss.trans s8) rx) up_l0)) g_c
            rw [ec] at q
            exact q
        refine gcall S8 H8 (Same.refl _) e8.sh _ fun y S9 H9 e9 dy => ?_
        have g69 := (e7.trans e8).trans e9
        have g09 := g06.trans g69
        have hpd6 := g6.none hpd5 hkv
        have hpm6 := g6.none hpm5 hws
        have hkv9 := g69.hh _ _ (g6.hh _ _ hkv)
        have hws9 := g69.hh _ _ (g6.hh _ _ hws)
        have hkl : kvs.length < sizeLine := Nat.lt_of_le_of_lt (Nat.le_trans l1 (Nat.le_trans (Nat.le_of_lt hil) c48)) (by decide)
        refine ⟨.ref pd, rfl, .int ((a - (left rs qs).length : Nat) : Int), rfl, pd, _, rfl, .inl ⟨kvs, ky (a - (left rs qs).length), hkv9, rfl, hkl, rfl⟩, ?_⟩
        have hnew : ∀ kv ∈ kvs, kv.1 ≠ ky (a - (left rs qs).length) := fun kv hkv2 z => by
          obtain ⟨e, he, q⟩ := ent_keys pr kv hkv2
          rw [q] at z
          exact eld_new C hx6 hc e he (by rw [ehd]; exact ky_eq.mp z)
        rw [put_new hnew]
        refine ⟨S9, ⟨g09.wr hd0 (g69.none hpd6 (g6.hh _ _ hkv)), (s5.trans g6.ss).trans g69.ss⟩, ⟨_, _, rfl⟩, ⟨g69.none hpd6 (g6.hh _ _ hkv), g69.none hpm6 (g6.hh _ _ hws)⟩, _, ws, upd_same, ?_, ?_, ?_, ?_, Nat.le_succ_of_le l2⟩
        · rw [upd_ne npq.symm]
          exact hws9
        · rw [take_succ' hx6, elds_snoc, if_pos hc]
          refine paired_app (ent_up (g6.ss.trans g69.ss) pr) ⟨?_, ?_⟩
          · unfold eldOf
            rw [ehd]
          · unfold eldOf
            rw [ehd, etl, List.getD_eq_getElem?_getD, o1]
            exact dy
        · rw [take_succ' hx6, mors_snoc, if_pos hc, List.append_nil]
          exact DpAll.up (g6.ss.trans g69.ss) dm
        · rw [List.length_append, List.length_singleton]
          omega
      · obtain ⟨o1, o2⟩ := C.new c hcm hc
        have hpd6 := g6.none hpd5 hkv
        have hpm6 := g6.none hpm5 hws
        have pl48 : (pick (left rs qs) c).length ≤ 48 := by rw [(pick_at c o1).1]; exact c48'
        refine s_app (l := pm) (R := D K (encC (idx (pick (left rs qs) c)))) rfl (g_call (R := fun (q : {q : List Qn // ChOk q ∧ q.length ≤ 48}) => D K (encC (idx q.1))) (a := ⟨pick (left rs qs) c, o2, pl48⟩) (ga_one (g_pick (pk_gi (g_l0D (g_var rfl (up_l0 _ _ _ e7.ss rx) up_l0))) o1 (by omega) fun y S9 s9 => g_dv rfl (Dp.up ((((s2.trans e4.ss).trans s5).trans g6.ss).trans (e7.ss.trans s9)) dq)))) e7.sh (e7.hh _ _ (g6.hh _ _ hws)) (by omega) fun y S8 H8 e8 dy => ?_
        have g68 := e7.trans e8
        refine ⟨S8, ⟨(g06.trans g68).wr hm0 (g68.none hpm6 (g6.hh _ _ hws)), (s5.trans g6.ss).trans g68.ss⟩, ⟨_, _, rfl⟩, ⟨g68.none hpd6 (g6.hh _ _ hkv), g68.none hpm6 (g6.hh _ _ hws)⟩, kvs, _, ?_, upd_same, ?_, ?_, Nat.le_succ_of_le l1, ?_⟩
        · rw [upd_ne npq]
          exact g68.hh _ _ (g6.hh _ _ hkv)
        · rw [take_succ' hx6, elds_snoc, if_neg (by rw [hc]; decide), List.append_nil]
          exact ent_up (g6.ss.trans g68.ss) pr
        · rw [take_succ' hx6, mors_snoc, if_neg (by rw [hc]; decide), List.map_append]
          exact DpAll.app (DpAll.up (g6.ss.trans g68.ss) dm) (.cons dy .nil)
        · rw [List.length_append, List.length_singleton]
          omega
    · rintro σ' S5 H5 ⟨⟨g5, s5⟩, ⟨y7, y8, rfl⟩, ⟨hpd5, hpm5⟩, kvs, ws, hkv, hws, pr, dm, l1, l2⟩
      rw [List.take_length] at pr dm
      have g6 := (g5.frz hd0 hpd5 hkv)
      have hpm6 : upd S5 pd (.dK kvs) pm = none := by rw [upd_ne npq.symm]; exact hpm5
      have g7 := g6.frz hm0 hpm6 hws
      have s57 : Same S5 (upd (upd S5 pd (.dK kvs)) pm (.lst ws)) := (Same.new hpd5).trans (Same.new hpm6)
      have hd7 : upd (upd S5 pd (.dK kvs)) pm (.lst ws) pd = some (.dK kvs) := by rw [upd_ne npq, upd_same]
      have s07 := ((((s1.trans s2).trans e4.ss).trans s5).trans s57)
      have hrl : rs.length ≤ 48 := B.len
      have hl := (ldsh_ok B C).len
      unfold ldsh at hl
      rw [List.length_append, List.length_map, List.length_range] at hl
      refine s_retK (R := ShelfV K (ldsh (left rs qs) rs cs)) (g_shelf ?_ (ldsh_ok B C)) g7 k
      unfold ldsh
      rw [List.map_append]
      refine g_l0D (g_cat (g_map0 (fun n => eldAt (elds (left rs qs) rs cs) n) encC (gi_range1 (n := rs.length) (g_lenO (α := List (List Str)) (A := fun rs => ShelfV K rs) (f := fun rs => rs.length) (a := rs) (g_var rfl (up_i1 _ _ _ s07 hw) up_i1) i1_at (by show rs.length < 100000; omega)) (by omega)) (by rw [List.length_range]; omega) fun n x S8 s8 hn rx => ?_) (g_var rfl ⟨pm, ws, rfl, upd_same, DpAll.up s57 dm⟩ up_l0) (by rw [List.length_map, List.length_map, List.length_map, List.length_range]; omega))
      have rx : x = .int (n : Nat) := rx
      subst rx
      obtain ⟨y, v1, v2⟩ := ent_get (ent_up s57 pr) (elds_mem C (List.mem_range.mp hn))
      exact fun S9 H9 e9 b9 Q' q' => ⟨.ref pd, rfl, .int (n : Nat), rfl, pd, y, rfl, .inl ⟨kvs, ky n, .inl (b9 _ _ (e9 _ _ (s8 _ _ hd7))), rfl, v1.symm⟩, q' y S9 H9 (.refl b9) (Dp.up (s8.trans e9) v2)⟩
end
end NK
end

section
set_option Elab.async false
set_option linter.all false
set_option maxRecDepth 100000
set_option maxHeartbeats 400000
namespace NK
open PySem PySem.Spec L2
open PyProof.Rows hiding St
section
variable {P : Program} {w : World} {K : PySem.W.Frag} {mg : Str → Option Value} {base : Heap}
theorem good_val {ws : List Int} {ps m : BL} (g : LotGood ws ps m) {y : Nat} (h : y ∈ m.map (·.2)) : ∃ x, (x, y) ∈ ps := by
  obtain ⟨ab, ord, b, ao, ho, mi, rfl⟩ := g
  obtain ⟨p, hp, rfl⟩ := List.mem_map.mp h
  obtain ⟨q, hq, rfl⟩ := List.mem_map.mp hp
  have h1 : getN b q.1 = some q.2 := getN_of_mem mi.ok.nd hq
  exact ⟨q.2, (ao.mem _ _).mp (mi.ok.edge _ _ h1).2⟩
theorem upC_head (m : BL) (k x : Nat) : (upC m k x).headD 0 = x := by
  cases k with
  | zero => rfl
  | succ k =>
    unfold upC
    cases getN m x <;> rfl
theorem led_to {rs : List (List Str)} {L : List Qn} {i j : Nat} (h : (i, j) ∈ ledP rs L) : j < L.length := by
  rcases led_mem.mp h with h | ⟨n, r, q, _, _, h2, _⟩
  · exact (prs_lt h).2
  · exact (List.getElem?_eq_some_iff.mp h2).1
theorem led_low {rs : List (List Str)} {L : List Qn} {i j : Nat} (h : (i, j) ∈ ledP rs L) (hi : i < L.length) : (i, j) ∈ prs L := by
  rcases led_mem.mp h with h | ⟨n, r, q, e, _⟩
  · exact h
  · omega
theorem led_high {rs : List (List Str)} {L : List Qn} {n j : Nat} (h : (L.length + n, j) ∈ ledP rs L) : ∃ r q, rs[n]? = some r ∧ L[j]? = some q ∧ under r q = true := by
  rcases led_mem.mp h with h | ⟨n', r, q, e, h1, h2, h3⟩
  · exact absurd (prs_lt h).1 (Nat.not_lt.mpr (Nat.le_add_right _ _))
  · obtain rfl : n = n' := by omega
    exact ⟨r, q, h1, h2, h3⟩
theorem pick_mem {L : List Qn} {c : List Nat} {q : Qn} (h : q ∈ pick L c) : ∃ i ∈ c, L[i]? = some q := List.mem_filterMap.mp h
/-- the chains of a led lot make a shelf -/
theorem led_ch {f : Str → Int} {rs : List (List Str)} {L : List Qn} {m : BL} (A : AkOk L) (I : LotIn (ledW f rs L) (ledP rs L)) (g : LotGood (ledW f rs L) (ledP rs L) m) : LdCh L rs (chs (L.length + rs.length) m) := by
  have hn := I.n48
  rw [ledW_len] at hn
  have chl := fun c (hc : c ∈ chs (L.length + rs.length) m) => chs_lt I g (by rw [ledW_len]; exact hc)
  have tl : ∀ a t, (a :: t) ∈ chs (L.length + rs.length) m → (∀ i ∈ t, (a, i) ∈ ledP rs L) ∧ t.Pairwise (fun i j => (i, j) ∈ ledP rs L) := fun a t hc => List.pairwise_cons.mp (chl _ hc).2.1
  refine ⟨Nat.le_trans chs_cnt hn, fun c hc => ?_, fun c hc hi => ?_, fun c hc hi => ?_, ?_, fun n hn2 => ?_⟩
  · obtain ⟨h1, h2, h3, _⟩ := chl c hc
    refine ⟨h3, Nat.le_trans (sub_len (m := List.range (L.length + rs.length)) (chain_nd I.ne h2) fun i hi => List.mem_range.mpr ?_) (by rw [List.length_range]; exact hn)⟩
    have := h1 i hi
    rwa [ledW_len] at this
  · obtain ⟨h1, h2, h3, _⟩ := chl c hc
    obtain ⟨a, t, rfl⟩ := List.exists_cons_of_ne_nil h3
    have ha : L.length ≤ a := of_decide_eq_true hi
    have hal := h1 a List.mem_cons_self
    rw [ledW_len] at hal
    obtain ⟨n, rfl⟩ : ∃ n, a = L.length + n := ⟨a - L.length, by omega⟩
    obtain ⟨t1, t2⟩ := tl _ t hc
    have hr : rs[n]? = some rs[n] := List.getElem?_eq_getElem (by omega)
    refine ⟨rs[n], ?_, fun i hi => led_to (t1 i hi), pick_ch A.ok (t2.imp_of_mem fun {i j} hi hj h => led_low h (led_to (t1 i hi))), fun q hq x hx => ?_⟩
    · show rs[L.length + n - L.length]? = _
      rw [Nat.add_sub_cancel_left]
      exact hr
    · obtain ⟨i, hi, e⟩ := pick_mem hq
      obtain ⟨r, q', b1, b2, b3⟩ := led_high (t1 i hi)
      rw [hr] at b1
      rw [e] at b2
      cases b1
      cases b2
      exact under_mem b3 x hx
  · obtain ⟨h1, h2, h3, _⟩ := chl c hc
    obtain ⟨a, t, rfl⟩ := List.exists_cons_of_ne_nil h3
    have ha : a < L.length := Nat.lt_of_not_le (of_decide_eq_false hi)
    obtain ⟨t1, t2⟩ := tl _ t hc
    have lt : ∀ i ∈ a :: t, i < L.length := fun i hi => by
      rcases List.mem_cons.mp hi with rfl | hi
      · exact ha
      · exact led_to (t1 i hi)
    exact ⟨lt, pick_ch A.ok (h2.imp_of_mem fun {i j} hi hj h => led_low h (lt i hi))⟩
  · have nb : (begs (L.length + rs.length) m).Nodup := List.nodup_range.filter _
    have e : (chs (L.length + rs.length) m).map (fun c => c.headD 0) = begs (L.length + rs.length) m := by
      unfold chs
      rw [List.map_map]
      exact (List.map_congr_left fun x _ => upC_head m 48 x).trans (List.map_id _)
    refine List.Nodup.sublist (List.Sublist.map _ List.filter_sublist) ?_
    rw [e]
    exact nb
  · refine ⟨upC m 48 (L.length + n), List.mem_map.mpr ⟨_, List.mem_filter.mpr ⟨List.mem_range.mpr (by omega), ?_⟩, rfl⟩, upC_head _ _ _⟩
    simp only [Bool.not_eq_true', decide_eq_false_iff_not]
    intro h
    obtain ⟨x, hx⟩ := good_val g h
    exact absurd (led_to hx) (Nat.not_lt.mpr (Nat.le_add_right _ _))
abbrev n_led_on : List Str := ["asked", "standing", "weights"]
theorem sc_led_on : FnScope n_led_on ["asked", "standing", "weights"] (defScope s_led_on) := ⟨rfl, rfl, rfl, by decide +kernel, rfl, by decide +kernel, by decide +kernel⟩
abbrev sp_led_on (K : PySem.W.Frag) : Sp := Pu (fun (z : LedIn) => A3 (AskedV K z.1.1.1) (ShelfV K z.1.1.2) (HvV K z.1.2)) (fun z v S => ∃ m, LotGood (ledW z.1.2 z.1.1.2 (left z.1.1.2 z.1.1.1)) (ledP z.1.1.2 (left z.1.1.2 z.1.1.1)) m ∧ ShelfV K (ldsh (left z.1.1.2 z.1.1.1) z.1.1.2 (chs ((left z.1.1.2 z.1.1.1).length + z.1.1.2.length) m)) v S)
theorem ok_led_on (T : Fx K mg) : CalK P w K mg base 55 "led_on" 2 (sp_led_on K) := by
  obtain ⟨fd, Fn⟩ := T.d_led_on
  refine fn_kw Fn sc_led_on (fun vs H Q E h => ?_) rfl (fun _ _ _ _ _ _ us z hl => match us, hl with | [_, _], _ => rfl) (fun D _ _ _ _ _ us ks hl hk => match us, ks, hl, hk with | [_, _], [_], _, _ => ⟨_, _, _, _, _, _, rfl, rfl, rfl⟩) (fun cdv A outer s H vs Q E hr h => ?_) T.g_led_on
  · obtain ⟨_, _, _, ⟨_, _, _, rfl, _⟩, _⟩ := h
    rfl
  · obtain ⟨⟨⟨⟨qs, rs⟩, f⟩, A, B, F, hn, hm⟩, S, hS, ⟨va, vb, vc, rfl, hv, hw, hf⟩, k⟩ := h
    have A : AkOk qs := A
    have B : ShOk rs := B
    have A' : AkOk (left rs qs) := left_ok A
    have I : LotIn (ledW f rs (left rs qs)) (ledP rs (left rs qs)) := in_led A' B F hn hm
    refine ⟨_, pss_one (ps_ret (pe_f ((ok_shelf_led T).mono (by decide : 13 ≤ 54)) (hr.mono (by decide)) (pa_cons (pv 0) (pa_cons (pv 1) (pa_cons (pe_m0K (K := K) ((ok_Lot_chains T).mono (by decide : 3 ≤ 54))
        (hr.mono (by decide)) (pe_f ((ok_led_lot T).mono (by decide : 54 ≤ 54)) (hr.mono (by decide)) (pa_cons (pv 0) (pa_cons (pv 1) (pa_cons (pv 2) pa_nil))))) pa_nil))))), ?_⟩
    refine s_ret (R := fun v S => ∃ m, LotGood (ledW f rs (left rs qs)) (ledP rs (left rs qs)) m ∧ ShelfV K (ldsh (left rs qs) rs (chs ((left rs qs).length + rs.length) m)) v S) ?_ hS k
    refine (g_callX (α := {z : (List Qn × List (List Str)) × List (List Nat) // AkOk z.1.1 ∧ ShOk z.1.2 ∧ LdCh (left z.1.2 z.1.1) z.1.2 z.2}) (A := fun z => A3 (AskedV K z.1.1.1) (ShelfV K z.1.1.2) (LsR (fun c => L0 K (encNs c)) z.1.2)) (Rr := fun z => ShelfV K (ldsh (left z.1.1.2 z.1.1.1) z.1.1.2 z.1.2)) (Pp := fun z => ∃ m, LotGood (ledW f rs (left rs qs)) (ledP rs (left rs qs)) m ∧ z.1 = ((qs, rs), chs ((left rs qs).length + rs.length) m)) ((ga_three (U := fun v S => ∃ m, LotGood (ledW f rs (left rs qs)) (ledP rs (left rs qs)) m ∧ LsR (fun c => L0 K (encNs c)) (chs ((left rs qs).length + rs.length) m) v S) (g_var rfl hv up_i1) up_i1 (g_var rfl hw up_i1) up_i1 ?_).imp ?_)).imp ?_
    · refine g_mX (α := {z : List Int × BL // ChIn z.2 z.1.length}) (A := fun z => LotV K z.1.1 z.1.2) (R := fun z => LsR (fun c => L0 K (encNs c)) (chs z.1.1.length z.1.2)) (C := "Lot") (m := "chains") (Pp := fun z => z.1.1 = ledW f rs (left rs qs) ∧ LotGood (ledW f rs (left rs qs)) (ledP rs (left rs qs)) z.1.2) ((g_call (R := fun (z : LedIn) v S => ∃ m, LotGood (ledW z.1.2 z.1.1.2 (left z.1.1.2 z.1.1.1)) (ledP z.1.1.2 (left z.1.1.2 z.1.1.1)) m ∧ LotV K (ledW z.1.2 z.1.1.2 (left z.1.1.2 z.1.1.1)) m v S) (a := (⟨((qs, rs), f), A, B, F, hn, hm⟩ : LedIn)) (ga_three (g_var rfl hv up_i1) up_i1 (g_var rfl hw up_i1) up_i1 (g_var rfl hf up_hv))).imp fun v S _ ⟨m, h1, h2⟩ => ⟨⟨(ledW f rs (left rs qs), m), chIn_of I (led_nodup rs (left rs qs)) h1⟩, ⟨rfl, h1⟩, h2⟩) (fun a => lot_at) fun ⟨⟨ws, m⟩, ci⟩ v S ⟨e1, h1⟩ hv => ?_
      have e1 : ws = ledW f rs (left rs qs) := e1
      subst e1
      have hv : LsR (fun c => L0 K (encNs c)) (chs (ledW f rs (left rs qs)).length m) v S := hv
      rw [ledW_len] at hv
      exact ⟨m, h1, hv⟩
    · rintro vs S2 _ ⟨v, u, x, e1, h1, h2, m, hg, h3⟩
      exact ⟨⟨((qs, rs), chs ((left rs qs).length + rs.length) m), A, B, led_ch A' I hg⟩, ⟨m, hg, rfl⟩, v, u, x, e1, h1, h2, h3⟩
    · rintro v S2 _ ⟨⟨⟨⟨qs2, rs2⟩, cs⟩, c1⟩, ⟨m, hg, e1⟩, h2⟩
      have e1 : ((qs2, rs2), cs) = ((qs, rs), chs ((left rs qs).length + rs.length) m) := e1
      obtain ⟨e2, rfl⟩ := Prod.mk.inj e1
      obtain ⟨rfl, rfl⟩ := Prod.mk.inj e2
      exact ⟨m, hg, h2⟩
/-- t[:n] of a tuple -/
theorem g_slT {σ : L2.St} {S : Hp} {ta tb : TE} {ds : List PyData} {i : Nat} (ha : G ta σ S (D K (.tuple ds))) (hb : G tb σ S (Is (.int i))) : G (tSl (rSlA K) ta tNoPart (tPart tb)) σ S (D K (.tuple (ds.take i))) := fun S1 H1 e b Q q =>
  ha S1 H1 e b _ fun x S2 H2 e2 hx => hb S2 H2 (e.trans e2.ss) e2.sh _ fun y S3 H3 e3 hy => by
    obtain ⟨a, xs, rfl, h1, h2⟩ := Dp.tupI hx
    have h2' := DpAll.up e3.ss h2
    have e23 := e2.trans e3
    refine ⟨i, hy, a, xs, rfl, Same.sqT (e3.ss.trans e3.sh) h1, fun wh => q _ _ _ e23 ?_, fun _ p hp => q _ _ _ (e23.trans (Gw.new e3.sh hp)) (.tup (SqT.of upd_same) ?_)⟩
    · have w : min i xs.length = xs.length := sIx_some.symm.trans wh.2
      have l := DpAll.len h2
      rw [List.take_of_length_le (by omega)]
      exact Dp.up e3.ss hx
    · rw [cut_hi]
      exact dall_new (DpAll.take i h2') (e3.sh.free hp)
section
variable {K : PySem.W.Frag} {σ : L2.St} {S : Hp} {te : TE} {α : Type} {xs : List α} {wi : TI} {vs : List Nat} {i j : Nat}
theorem g_all2 {d1 d2 : α → PyData} (f : α → Bool) (h : GI wi σ S xs (fun a => D K (.tuple [d1 a, d2 a]))) (hz : xs.length ≤ 100000)
    (turn : ∀ a x y S1, Same S S1 → a ∈ xs → Dp K S1 x (d1 a) → Dp K S1 y (d2 a) → G te (((wipe σ vs).set i (some x)).set j (some y)) S1 (Is (.bl (f a))))
    (hw : ∀ x y, wipe (((wipe σ vs).set i (some x)).set j (some y)) vs = wipe σ vs := by intro _ _; rfl) : G (tCB (rAll K) (tCons (tLc wi (gTup K 2 (gCons (gName i) (gCons (gName j) gNil))) tYes te vs) tNil)) σ S (Is (.bl (xs.all f))) := by
  have q := g_allC (K := K) (f := f) (g_lcB (RO := fun b => Is (.bl (f b))) id h (fun _ => .is) hz hw turn)
  rw [List.map_id] at q
  exact q
end
theorem flt_idx {r : List Str} (h : IxOk r) : Flt 2 (encC r) := flt_tup (flt_strs h.cols.mem)
theorem g_lenSh {σ : L2.St} {S : Hp} {te : TE} {rs : List (List Str)} (h : G te σ S (ShelfV K rs)) (hl : rs.length ≤ 48) : G (tCB (rLenO K "Shelf" (Pu (fun a => A1 (ShelfV K a)) (fun (a : List (List Str)) => Is (.int (a.length : Nat))))) (tCons te tNil)) σ S (Is (.int (rs.length : Nat))) :=
  g_lenO (α := List (List Str)) (A := fun rs => ShelfV K rs) (f := fun rs => rs.length) (a := rs) h i1_at (by show rs.length < 100000; omega)
theorem ix_ownK {X : Cx} {k : Nat} {C : Str} {sp : Sp} {pos : Pos} (F : CalM X.prog X.w X.K X.mg X.base k C "__getitem__" sp) (hr : Room (k + 1) X.A) {b : Expr} {ta tb : TE} {a : Expr} (ha : PE X a ta) (hb : PE X b tb) (hK : X.K = K := by rfl)
    (hsl : ∀ o i, subscripted b true o i = runValue (.builtin "lifetime.subscript" ⟨[o, i], []⟩) := by intro _ _; with_unfolding_all rfl) : PE X (.Subscript a b pos) (tOp (rIxO K C sp) ta tb) := hK ▸ ix_own F hr ha hb hsl
theorem sl_tupK {X : Cx} (hK : X.K = K := by rfl) : SlR X (rSlA K) := hK ▸ sl_tupA
/-- whether a shelf is led on from standing indexes and serves all -/
def ledB (ts rs : List (List Str)) (qs : List Qn) : Bool := decide (left ts qs = []) && decide (rs.length ≤ ts.length) && (plc rs).all fun p => decide ((ts.getD p.1 []).take p.2.length = p.2)
abbrev n_is_led : List Str := ["asked", "standing", "thing", "number", "index"]
theorem sc_is_led : FnScope n_is_led ["asked", "standing", "thing"] (defScope s_is_led) := ⟨rfl, rfl, rfl, by decide +kernel, rfl, by decide +kernel, by decide +kernel⟩
abbrev sp_is_led (K : PySem.W.Frag) : Sp := Pu (fun (z : {z : (List Qn × List (List Str)) × List (List Str) // AkOk z.1.1 ∧ ShOk z.1.2 ∧ ShOk z.2}) => A3 (AskedV K z.1.1.1) (ShelfV K z.1.1.2) (ShelfV K z.1.2)) (fun z => Is (.bl (ledB z.1.2 z.1.1.2 z.1.1.1)))
theorem ok_is_led (T : Fx K mg) : Cal P w K mg base 14 "is_led" (sp_is_led K) := by
  obtain ⟨fd, Fn⟩ := T.d_is_led
  refine ⟨fn_pos Fn sc_is_led (fun vs H Q E h => ?_) (fun _ _ _ _ _ _ us hl => match us, hl with | [_, _, _], _ => rfl) (fun cdv A outer s H vs Q E hr h => ?_), T.g_is_led, Fn.kp⟩
  · obtain ⟨_, _, _, ⟨_, _, _, rfl, _⟩, _⟩ := h
    rfl
  · obtain ⟨⟨⟨⟨qs, rs⟩, ts⟩, A, B, C⟩, S, hS, ⟨va, vb, vc, rfl, hv, hw, hx⟩, k⟩ := h
    have A : AkOk qs := A
    have B : ShOk rs := B
    have C : ShOk ts := C
    refine ⟨_, pss_cons (ps_if (PW.pt (pw_or (pt_not (pt_val (pe_f ((ok_serves_all T).mono (by decide : 13 ≤ 13)) (hr.mono (by decide)) (pa_cons (pv 2) (pa_cons (pv 0) pa_nil))))) (pw_or1 (pt_cmpR op_lt
        (pe_callB (cr_lenO ((ok_Shelf___len__ T).mono (by decide : 1 ≤ 12)) (hr.mono (by decide))) rfl T.b_len bt_len (pa_cons (pv 2) pa_nil)) (pe_callB (cr_lenO ((ok_Shelf___len__ T).mono (by decide
        : 1 ≤ 12)) (hr.mono (by decide))) rfl T.b_len bt_len (pa_cons (pv 1) pa_nil)) (nomark _))))) (pss_one (ps_ret pe_bl)) pss_nil) (pss_one (ps_ret (pe_callB (r := rAll K) (cr_all rfl) rfl T.b_all
        bt_all (pa_cons (pe_lc (own := [("number", 3), ("index", 4)]) rfl sc_is_led.nd (pi_enumO ((ok_Shelf___iter__ T).mono (by decide : 1 ≤ 11)) (hr.mono (by decide)) rfl T.b_enumerate (pv 1))
        (blkOk_by (N := n_is_led) (sc := defScope s_is_led) (by decide +kernel)) (fun _ _ _ _ _ => (pg_tupK (K := K) (n := 2) rfl (pgs_cons (pg_name (i := 3) sc_is_led.nd rfl
        (by first | exact Or.inl rfl | exact Or.inr rfl)) (pgs_cons (pg_name (i := 4) sc_is_led.nd rfl (by first | exact Or.inl rfl | exact Or.inr rfl)) pgs_nil)))) (fun _ _ _ _ _ => pts_nil) (fun _ _
        _ _ _ => (pe_cmpR (r := rEqD K) (op_eqD hr.units) (pe_slice (r := rSlA K) (sl_tupK (K := K)) (ix_ownK (K := K) ((ok_Shelf___getitem__ T).mono (by decide : 3 ≤ 12)) (hr.mono (by decide)) (pv 2)
        (pv 3)) po_none (po_some (pe_callB (r := rLn K) call_len rfl T.b_len bt_len (pa_cons (pv 4) pa_nil)))) (pv 4) (nomark _)))) pa_nil)))), ?_⟩
    show tSeq _ _ _ _ _
    refine s_if (c := !decide (left ts qs = []) || decide ((ts.length : Int) < (rs.length : Int))) (gt_or (gt_not (gt_B (g_call (R := fun (z : {z : List (List Str) × List Qn // ShOk z.1 ∧ AkOk z.2}) => Is (.bl (decide (left z.1.1 z.1.2 = [])))) (a := (⟨(ts, qs), C, A⟩ : {z : List (List Str) × List Qn // ShOk z.1 ∧ AkOk z.2})) (ga_two (g_var rfl hx up_i1) up_i1 (g_var rfl hv up_i1))))) fun _ => gt_test (g_I0 (g_lenSh (g_var rfl hx up_i1) C.len) (g_lenSh (g_var rfl hw up_i1) B.len))) hS (fun hc S1 H1 e1 => ?_) fun hc S1 H1 e1 => ?_
    · refine s_retK (R := Is (.bl (ledB ts rs qs))) (g_eq (g_c (v := .bl false)) ?_) e1 fun v S2 H2 e2 r => k v S2 H2 e2 r
      have hc : (decide (left ts qs = []) && decide (rs.length ≤ ts.length)) = false := by
        simp only [Bool.or_eq_true, Bool.not_eq_true', decide_eq_false_iff_not, decide_eq_true_eq] at hc
        simp only [Bool.and_eq_false_iff, decide_eq_false_iff_not]
        rcases hc with h | h
        · exact .inl h
        · exact .inr (by omega)
      unfold ledB
      rw [hc]
      rfl
    · have hc : left ts qs = [] ∧ rs.length ≤ ts.length := by
        simp only [Bool.or_eq_false_iff, Bool.not_eq_false', decide_eq_true_eq, decide_eq_false_iff_not] at hc
        exact ⟨hc.1, by omega⟩
      have s1 := e1.ss
      dsimp only [tNext]
      refine s_retK (R := Is (.bl (ledB ts rs qs))) (g_eq (g_all2 (xs := plc rs) (d1 := fun p => .int (p.1 : Nat)) (d2 := fun p => encC p.2) (fun p => decide ((ts.getD p.1 []).take p.2.length = p.2)) (gi_enO (xs := rs) (enc := encC) (g_var rfl (up_i1 _ _ _ s1 hw) up_i1)) (by rw [plc_len]; have := B.len; omega) fun p x y S2 s2 hp dx dy => ?_) ?_) e1 fun v S2 H2 e2 r => k v S2 H2 e2 r
      · obtain ⟨n, r⟩ := p
        have hr : rs[n]? = some r := plc_mem.mp hp
        have hrm : r ∈ rs := List.mem_of_getElem? hr
        have hn : n < ts.length := Nat.lt_of_lt_of_le (List.getElem?_eq_some_iff.mp hr).1 hc.2
        have ht : ts[n]? = some ts[n] := List.getElem?_eq_getElem hn
        have htm : ts[n] ∈ ts := List.getElem_mem hn
        have e : (encC r : PyData) = .tuple (r.map .str) := rfl
        cases Dp.intI dx
        refine g_eq (g_eqD (d := .tuple ((ts[n].map PyData.str).take r.length)) (e := encC r) (g_slT (ds := ts[n].map PyData.str) (i := r.length) ?_ ?_) (g_var rfl dy .d) ?_ (flt_idx (B.ok r hrm)).sh) ?_
        · exact g_ixO (A := fun (z : {z : List (List Str) × Nat × List Str // z.1[z.2.1]? = some z.2.2}) => ShelfV K z.1.1) (B := fun z => Is (.int z.1.2.1)) (R := fun z => D K (encC z.1.2.2)) (a := (⟨(ts, n, ts[n]), ht⟩ : {z : List (List Str) × Nat × List Str // z.1[z.2.1]? = some z.2.2})) (g_var rfl (up_i1 _ _ _ (s1.trans s2) hx) up_i1) (fun v S ⟨a, dx, t, h1, h2, h3⟩ => ⟨a, dx, _, h1, h2⟩) up_i1 (g_is rfl)
        · exact g_eq (g_lenT (ds := r.map PyData.str) (g_var rfl dy .d)) (by rw [List.length_map])
        · exact (flt_tup (n := 1) fun d hd => flt_strs (C.ok _ htm).cols.mem d (List.mem_of_mem_take hd)).sh
        · have e2 : PyData.tuple ((ts[n].map PyData.str).take r.length) = encC (ts[n].take r.length) := by
            rw [← List.map_take]
          rw [e2, eqv_cols, List.getD_eq_getElem?_getD, ht]
          rfl
      · unfold ledB
        rw [decide_eq_true hc.1, decide_eq_true hc.2]
        rfl
/-- a shelf led on of the least cost -/
noncomputable def ledOnB (f : Str → Int) (ts rs : List (List Str)) (qs : List Qn) : Bool := ledB ts rs qs && decide (shc f ts - shc f rs = addV f rs qs)
abbrev n_is_led_on : List Str := ["asked", "standing", "thing", "weights", "grown"]
theorem sc_is_led_on : FnScope n_is_led_on ["asked", "standing", "thing", "weights"] (defScope s_is_led_on) := ⟨rfl, rfl, rfl, by decide +kernel, rfl, by decide +kernel, by decide +kernel⟩
noncomputable abbrev sp_is_led_on (K : PySem.W.Frag) : Sp := Pu (fun (z : {z : LedIn × List (List Str) // ShOk z.2}) vs H => ∃ va vb vc vd, vs = [va, vb, vc, vd] ∧ AskedV K z.1.1.1.1.1 va H ∧ ShelfV K z.1.1.1.1.2 vb H ∧ ShelfV K z.1.2 vc H ∧ HvV K z.1.1.1.2 vd H) (fun z => Is (.bl (ledOnB z.1.1.1.2 z.1.2 z.1.1.1.1.2 z.1.1.1.1.1)))
theorem ok_is_led_on (T : Fx K mg) : CalK P w K mg base 56 "is_led_on" 3 (sp_is_led_on K) := by
  obtain ⟨fd, Fn⟩ := T.d_is_led_on
  refine fn_kw Fn sc_is_led_on (fun vs H Q E h => ?_) rfl (fun _ _ _ _ _ _ us z hl => match us, hl with | [_, _, _], _ => rfl) (fun D _ _ _ _ _ us ks hl hk => match us, ks, hl, hk with | [_, _, _], [_], _, _ => ⟨_, _, _, _, _, _, rfl, rfl, rfl⟩) (fun cdv A outer s H vs Q E hr h => ?_) T.g_is_led_on
  · obtain ⟨_, _, _, ⟨_, _, _, _, rfl, _⟩, _⟩ := h
    rfl
  · obtain ⟨⟨⟨⟨⟨⟨qs, rs⟩, f⟩, A, B, F, hn, hm⟩, ts⟩, C⟩, S, hS, ⟨va, vb, vc, vd, rfl, hv, hw, hx, hf⟩, k⟩ := h
    have A : AkOk qs := A
    have B : ShOk rs := B
    have C : ShOk ts := C
    refine ⟨_, pss_cons (ps_if (pt_not (pt_val (pe_f ((ok_is_led T).mono (by decide : 14 ≤ 55)) (hr.mono (by decide)) (pa_cons (pv 0) (pa_cons (pv 1) (pa_cons (pv 2) pa_nil)))))) (pss_one (ps_ret pe_bl))
        pss_nil) (pss_cons (ps_set (i := 4) sc_is_led_on.nd rfl (by first | exact Or.inl rfl | exact Or.inr rfl) (pe_op op_sub (pe_fk1 ((ok_cost T).mono (by decide : 10 ≤ 55)) (hr.mono (by decide))
        (pa_cons (pv 2) pa_nil) (pk_cons (pv 3) pk_nil)) (pe_fk1 ((ok_cost T).mono (by decide : 10 ≤ 55)) (hr.mono (by decide)) (pa_cons (pv 1) pa_nil) (pk_cons (pv 3) pk_nil)))) (pss_one (ps_ret
        (pe_cmpR op_eq (pv 4) (pe_fk1 ((ok_least_added T).mono (by decide : 55 ≤ 55)) (hr.mono (by decide)) (pa_cons (pv 0) (pa_cons (pv 1) pa_nil)) (pk_cons (pv 3) pk_nil)) (nomark _))))), ?_⟩
    show tSeq _ _ _ _ _
    refine s_if (c := !ledB ts rs qs) (gt_not (gt_B (g_call (R := fun (z : {z : (List Qn × List (List Str)) × List (List Str) // AkOk z.1.1 ∧ ShOk z.1.2 ∧ ShOk z.2}) => Is (.bl (ledB z.1.2 z.1.1.2 z.1.1.1))) (a := (⟨((qs, rs), ts), A, B, C⟩ : {z : (List Qn × List (List Str)) × List (List Str) // AkOk z.1.1 ∧ ShOk z.1.2 ∧ ShOk z.2})) (ga_three (g_var rfl hv up_i1) up_i1 (g_var rfl hw up_i1) up_i1 (g_var rfl hx up_i1))))) hS (fun hc S1 H1 e1 => ?_) fun hc S1 H1 e1 => ?_
    · refine s_retK (R := Is (.bl (ledOnB f ts rs qs))) (g_eq (g_c (v := .bl false)) ?_) e1 fun v S2 H2 e2 r => k v S2 H2 e2 r
      have hc : ledB ts rs qs = false := by simpa using hc
      unfold ledOnB
      rw [hc]
      rfl
    · have hc : ledB ts rs qs = true := by simpa using hc
      have s1 := e1.ss
      dsimp only [tNext]
      have hf1 := up_hv _ _ _ s1 hf
      have hw1 := up_i1 _ _ _ s1 hw
      show tSeq _ _ _ _ _
      refine q_set (R := Is (.int (shc f ts - shc f rs))) (g_I0 (i := shc f ts) (j := shc f rs) ?_ ?_) e1 fun v S2 H2 e2 s2 dv => ?_
      · exact g_k1 (RX := ShelfV K ts) (RZ := HvV K f) (R := fun (z : {z : List (List Str) × (Str → Int) // ShOk z.1}) => Is (.int (shc z.1.2 z.1.1))) (a := (⟨(ts, f), C⟩ : {z : List (List Str) × (Str → Int) // ShOk z.1})) (g_var rfl (up_i1 _ _ _ s1 hx) up_i1) up_i1 (g_var rfl hf1 up_hv) fun v z S h1 h2 => ⟨v, z, rfl, h1, h2⟩
      · exact g_k1 (RX := ShelfV K rs) (RZ := HvV K f) (R := fun (z : {z : List (List Str) × (Str → Int) // ShOk z.1}) => Is (.int (shc z.1.2 z.1.1))) (a := (⟨(rs, f), B⟩ : {z : List (List Str) × (Str → Int) // ShOk z.1})) (g_var rfl hw1 up_i1) up_i1 (g_var rfl hf1 up_hv) fun v z S h1 h2 => ⟨v, z, rfl, h1, h2⟩
      refine s_retK (R := Is (.bl (ledOnB f ts rs qs))) (g_eq (g_eqS (x := .int (shc f ts - shc f rs)) (y := .int (addV f rs qs)) (g_var rfl dv .is) ?_ rfl) ?_) e2 fun v S3 H3 e3 r => k v S3 H3 e3 r
      · exact g_k2 (RX := AskedV K qs) (RY := ShelfV K rs) (RZ := HvV K f) (R := fun (z : LedIn) => Is (.int (addV z.1.2 z.1.1.2 z.1.1.1))) (a := (⟨((qs, rs), f), A, B, F, hn, hm⟩ : LedIn)) (g_var rfl (up_i1 _ _ _ (s1.trans s2) hv) up_i1) up_i1 (g_var rfl (up_i1 _ _ _ s2 hw1) up_i1) up_i1 (g_var rfl (up_hv _ _ _ s2 hf1) up_hv) fun v u z S h1 h2 h3 => ⟨v, u, z, rfl, h1, h2, h3⟩
      · unfold ledOnB
        rw [hc, Bool.true_and]
        congr 1
        by_cases e : shc f ts - shc f rs = addV f rs qs
        · rw [e, decide_eq_true rfl, decide_eq_true rfl]
        · rw [decide_eq_false e, decide_eq_false fun z => e (V.int.inj z)]
end
end NK
end

section
set_option Elab.async false
set_option linter.all false
namespace NK
open PySem PySem.Spec L2
open PyProof.Rows hiding St
/-! ### lots within lots -/
theorem ant_emb {ws ws' : List Int} {ps ps' : BL} {l : Int} {A : List Nat} (a : AntW ws' ps' l A) (φ : Nat → Nat) (hw : ∀ i ∈ A, ofW ws l (φ i) = true) (hi : ∀ i ∈ A, ∀ j ∈ A, φ i = φ j → i = j) (hp : ∀ i ∈ A, ∀ j ∈ A, (φ i, φ j) ∈ ps → (i, j) ∈ ps') : AntW ws ps l (A.map φ) := by
  refine ⟨?_, fun x hx => ?_, fun x hx y hy z => ?_⟩
  · have nd := a.nd
    rw [List.nodup_iff_pairwise_ne] at nd ⊢
    rw [List.pairwise_map]
    exact nd.imp_of_mem fun h1 h2 ne e => ne (hi _ h1 _ h2 e)
  · obtain ⟨i, h, rfl⟩ := List.mem_map.mp hx
    exact hw i h
  · obtain ⟨i, h, rfl⟩ := List.mem_map.mp hx
    obtain ⟨j, h', rfl⟩ := List.mem_map.mp hy
    exact a.an i h j h' (hp i h j h' z)
theorem ofW_map {α : Type} {f : α → Int} {xs : List α} {l : Int} {i : Nat} : ofW (xs.map f) l i = true ↔ ∃ x, xs[i]? = some x ∧ l ≤ f x := by
  rw [ofW_iff, List.getElem?_map]
  constructor
  · rintro ⟨y, h1, h2⟩
    cases e : xs[i]? with
    | none => rw [e] at h1; cases h1
    | some x =>
      rw [e] at h1
      cases h1
      exact ⟨x, rfl, h2⟩
  · rintro ⟨x, h1, h2⟩
    exact ⟨f x, by rw [h1]; rfl, h2⟩
/-- where each item of a sublist stands -/
theorem sub_at {α : Type} {F L : List α} (h : ∀ x ∈ F, x ∈ L) : ∃ φ : Nat → Nat, ∀ i x, F[i]? = some x → L[φ i]? = some x := by
  have q : ∀ i : Nat, ∃ k : Nat, ∀ x, F[i]? = some x → L[k]? = some x := fun i => by
    cases e : F[i]? with
    | none => exact ⟨0, fun x z => by cases z⟩
    | some x =>
      obtain ⟨k, hk, e2⟩ := List.getElem_of_mem (h x (List.mem_of_getElem? e))
      exact ⟨k, fun y z => by cases z; rw [List.getElem?_eq_getElem hk, e2]⟩
  exact Classical.axiomOfChoice q
theorem nd_at {α : Type} {L : List α} (nd : L.Nodup) {i j : Nat} {x : α} (h1 : L[i]? = some x) (h2 : L[j]? = some x) : i = j := by
  obtain ⟨a, b⟩ := List.getElem?_eq_some_iff.mp h1
  obtain ⟨c, d⟩ := List.getElem?_eq_some_iff.mp h2
  have p := List.pairwise_iff_getElem.mp (List.nodup_iff_pairwise_ne.mp nd)
  rcases Nat.lt_trichotomy i j with h | h | h
  · exact absurd (b.trans d.symm) (p i j a c h)
  · exact h
  · exact absurd (d.trans b.symm) (p j i c a h)
theorem big_ex : ∃ M : Nat, (10 : Int) ^ 39 ≤ M := ⟨(10 ^ 39 : Int).toNat, by omega⟩
theorem LotIn.le {ws : List Int} {ps : BL} (I : LotIn ws ps) {M : Nat} (hM : (10 : Int) ^ 39 ≤ M) : ∀ x ∈ ws, 1 ≤ x ∧ x ≤ (M : Int) := fun x hx => by
  have := I.wt x hx
  omega
theorem AkOk.filter {L : List Qn} (A : AkOk L) (p : Qn → Bool) : AkOk (L.filter p) := ⟨A.asc.filter _, fun q hq => A.ok q (List.mem_filter.mp hq).1, Nat.le_trans (List.length_filter_le _ _) A.len⟩
/-- fewer questions cost no more -/
theorem cost_sub {f : Str → Int} {F L : List Qn} (A : AkOk L) (B : AkOk F) (h : ∀ q ∈ F, q ∈ L) (W : WtOk f) : costV f F ≤ costV f L := by
  obtain ⟨M, hM⟩ := big_ex
  unfold costV
  rw [sumV_int ((in_wq B W).le hM), sumV_int ((in_wq A W).le hM)]
  refine isum_le M 0 fun t _ => ?_
  obtain ⟨X, a, e⟩ := ant_ex (F.map (wq f)) (prs F) t
  obtain ⟨φ, hφ⟩ := sub_at h
  have get : ∀ i ∈ X, ∃ q, F[i]? = some q ∧ t ≤ wq f q := fun i hi => ofW_map.mp (a.wt i hi)
  have q := (ant_emb (ws := L.map (wq f)) (ps := prs L) a φ (fun i hi => by
    obtain ⟨q, h1, h2⟩ := get i hi
    exact ofW_map.mpr ⟨q, hφ i q h1, h2⟩) (fun i hi j hj e => by
    obtain ⟨q, h1, _⟩ := get i hi
    obtain ⟨r, h2, _⟩ := get j hj
    have h3 := hφ i q h1
    rw [e, hφ j r h2] at h3
    cases h3
    exact nd_at B.asc.nd h1 h2) fun i hi j hj hp => by
    obtain ⟨q, h1, _⟩ := get i hi
    obtain ⟨r, h2, _⟩ := get j hj
    obtain ⟨q', r', h3, h4, h5⟩ := prs_mem.mp hp
    rw [hφ i q h1] at h3
    rw [hφ j r h2] at h4
    cases h3
    cases h4
    exact prs_mem.mpr ⟨q, r, h1, h2, h5⟩).le
  rw [List.length_map, e] at q
  omega
theorem shc_sum {f : Str → Int} {rs : List (List Str)} : shc f rs = (rs.map (wsum f)).sum := rfl
theorem shc_app {f : Str → Int} {rs ts : List (List Str)} : shc f (rs ++ ts) = shc f rs + shc f ts := by
  unfold shc
  rw [List.map_append, List.sum_append]
theorem ofW_led {f : Str → Int} {rs : List (List Str)} {L : List Qn} {l : Int} {i : Nat} (h : ofW (ledW f rs L) l i = true) : (∃ q, L[i]? = some q ∧ l ≤ wq f q) ∨ ∃ n r, i = L.length + n ∧ rs[n]? = some r ∧ l ≤ wsum f r := by
  obtain ⟨x, h1, h2⟩ := ofW_iff.mp h
  by_cases hi : i < L.length
  · rw [ledW_at hi] at h1
    cases e : L[i]? with
    | none => rw [e] at h1; cases h1
    | some q =>
      rw [e] at h1
      cases h1
      exact .inl ⟨q, rfl, h2⟩
  · obtain ⟨n, rfl⟩ : ∃ n, i = L.length + n := ⟨i - L.length, by omega⟩
    rw [ledW_st] at h1
    cases e : rs[n]? with
    | none => rw [e] at h1; cases h1
    | some r =>
      rw [e] at h1
      cases h1
      exact .inr ⟨n, r, rfl, e, h2⟩
theorem ofW_lq {f : Str → Int} {rs : List (List Str)} {L : List Qn} {l : Int} {i : Nat} {q : Qn} (h : L[i]? = some q) (h2 : l ≤ wq f q) : ofW (ledW f rs L) l i = true :=
  ofW_iff.mpr ⟨wq f q, by rw [ledW_at (List.getElem?_eq_some_iff.mp h).1, h]; rfl, h2⟩
theorem ofW_lr {f : Str → Int} {rs : List (List Str)} {L : List Qn} {l : Int} {n : Nat} {r : List Str} (h : rs[n]? = some r) (h2 : l ≤ wsum f r) : ofW (ledW f rs L) l (L.length + n) = true :=
  ofW_iff.mpr ⟨wsum f r, by rw [ledW_st, h]; rfl, h2⟩
theorem shc_le {f : Str → Int} {rs : List (List Str)} {L : List Qn} {M : Nat} (I : LotIn (ledW f rs L) (ledP rs L)) (hM : (10 : Int) ^ 39 ≤ M) : ∀ x ∈ rs.map (wsum f), 0 ≤ x ∧ x ≤ (M : Int) := fun x hx => by
  have := I.le hM x (List.mem_append_right _ hx)
  omega
/-- the standing indexes stand apart -/
theorem led_ge {f : Str → Int} {rs : List (List Str)} {L : List Qn} (I : LotIn (ledW f rs L) (ledP rs L)) : shc f rs ≤ sumV (ledW f rs L) (ledP rs L) := by
  obtain ⟨M, hM⟩ := big_ex
  rw [sumV_int (I.le hM), shc_sum, ← cntW_int (shc_le I hM)]
  refine isum_le M 0 fun t _ => ?_
  have a : AntW (ledW f rs L) (ledP rs L) t ((ixW (rs.map (wsum f)) t).map fun n => L.length + n) := by
    refine ⟨nodup_map (fun a b e => by omega) ixW_nd, fun x hx => ?_, fun x hx y hy z => ?_⟩
    · obtain ⟨n, hn, rfl⟩ := List.mem_map.mp hx
      obtain ⟨r, h1, h2⟩ := ofW_map.mp (ixW_mem.mp hn)
      exact ofW_lr h1 h2
    · obtain ⟨n, hn, rfl⟩ := List.mem_map.mp hy
      have := led_to z
      omega
  have := a.le
  rw [List.length_map, ixW_len] at this
  omega
theorem led_le {f : Str → Int} {rs : List (List Str)} {L : List Qn} (A : AkOk L) (W : WtOk f) (I : LotIn (ledW f rs L) (ledP rs L)) : sumV (ledW f rs L) (ledP rs L) ≤ shc f rs + costV f L := by
  obtain ⟨M, hM⟩ := big_ex
  unfold costV
  rw [sumV_int (I.le hM), sumV_int ((in_wq A W).le hM), shc_sum, ← cntW_int (shc_le I hM), ← isum_plus]
  refine isum_le M 0 fun t _ => ?_
  obtain ⟨X, a, e⟩ := ant_ex (ledW f rs L) (ledP rs L) t
  have s := len_split (fun i => decide (i < L.length)) X
  have a1 : AntW (L.map (wq f)) (prs L) t (X.filter fun i => decide (i < L.length)) := by
    refine ⟨a.nd.filter _, fun x hx => ?_, fun x hx y hy z => ?_⟩
    · obtain ⟨h1, h2⟩ := List.mem_filter.mp hx
      have h2 := of_decide_eq_true h2
      rcases ofW_led (a.wt x h1) with ⟨q, h3, h4⟩ | ⟨n, r, h3, _⟩
      · exact ofW_map.mpr ⟨q, h3, h4⟩
      · omega
    · exact a.an x (List.mem_filter.mp hx).1 y (List.mem_filter.mp hy).1 (led_mem.mpr (.inl z))
  have s1 := a1.le
  have s2 : (X.filter fun i => !decide (i < L.length)).length ≤ cntW (rs.map (wsum f)) t := by
    rw [← ixW_len, ← List.length_map (f := fun i => i - L.length)]
    refine sub_len ?_ fun x hx => ?_
    · have nd : (X.filter fun i => !decide (i < L.length)).Nodup := a.nd.filter _
      rw [List.nodup_iff_pairwise_ne] at nd ⊢
      rw [List.pairwise_map]
      refine nd.imp_of_mem fun {i j} h1 h2 ne e => ne ?_
      have h1 := (List.mem_filter.mp h1).2
      have h2 := (List.mem_filter.mp h2).2
      simp at h1 h2
      omega
    · obtain ⟨i, hi, rfl⟩ := List.mem_map.mp hx
      obtain ⟨h1, h2⟩ := List.mem_filter.mp hi
      simp at h2
      rcases ofW_led (a.wt i h1) with ⟨q, h3, h4⟩ | ⟨n, r, h3, h4, h5⟩
      · have := (List.getElem?_eq_some_iff.mp h3).1
        omega
      · rw [h3, Nat.add_sub_cancel_left]
        exact ixW_mem.mpr (ofW_map.mpr ⟨r, h4, h5⟩)
  show (cntV (ledW f rs L) (ledP rs L) t : Int) ≤ (cntW (rs.map (wsum f)) t : Int) + (cntV (L.map (wq f)) (prs L) t : Int)
  omega
/-- one more standing index -/
theorem led_more {f : Str → Int} {rs : List (List Str)} {r : List Str} {F L : List Qn} (A : AkOk L) (B : AkOk F) (h : ∀ q ∈ F, q ∈ L) (W : WtOk f) (I : LotIn (ledW f rs L) (ledP rs L)) (J : LotIn (ledW f (rs ++ [r]) F) (ledP (rs ++ [r]) F)) :
    sumV (ledW f (rs ++ [r]) F) (ledP (rs ++ [r]) F) ≤ sumV (ledW f rs L) (ledP rs L) + wsum f r := by
  obtain ⟨M, hM⟩ := big_ex
  have hr := shc_le J hM (wsum f r) (List.mem_map.mpr ⟨r, List.mem_append_right _ (List.mem_singleton.mpr rfl), rfl⟩)
  rw [sumV_int (I.le hM), sumV_int (J.le hM), ← isum_le_one hr.1 hr.2, ← isum_plus]
  refine isum_le M 0 fun t _ => ?_
  obtain ⟨X, a, e⟩ := ant_ex (ledW f (rs ++ [r]) F) (ledP (rs ++ [r]) F) t
  obtain ⟨φ, hφ⟩ := sub_at h
  have s := len_split (fun i => decide (i = F.length + rs.length)) X
  have hlast : (rs ++ [r])[rs.length]? = some r := by
    rw [List.getElem?_append_right (Nat.le_refl _), Nat.sub_self]
    rfl
  have s1 : ((X.filter fun i => decide (i = F.length + rs.length)).length : Int) ≤ if t ≤ wsum f r then 1 else 0 := by
    have nd : (X.filter fun i => decide (i = F.length + rs.length)).Nodup := a.nd.filter _
    by_cases hX : F.length + rs.length ∈ X
    · have ht : t ≤ wsum f r := by
        rcases ofW_led (a.wt _ hX) with ⟨q, h3, _⟩ | ⟨n, r', h3, h4, h5⟩
        · have := (List.getElem?_eq_some_iff.mp h3).1
          omega
        · obtain rfl : rs.length = n := by omega
          rw [hlast] at h4
          cases h4
          exact h5
      rw [if_pos ht]
      have := sub_len nd (m := [F.length + rs.length]) fun x hx => List.mem_singleton.mpr (of_decide_eq_true (List.mem_filter.mp hx).2)
      simp at this
      omega
    · have e0 : (X.filter fun i => decide (i = F.length + rs.length)) = [] := List.filter_eq_nil_iff.mpr fun x hx z => hX (by rw [← of_decide_eq_true z]; exact hx)
      rw [e0]
      split <;> simp
  have a2 : AntW (ledW f (rs ++ [r]) F) (ledP (rs ++ [r]) F) t (X.filter fun i => !decide (i = F.length + rs.length)) := ⟨a.nd.filter _, fun x hx => a.wt x (List.mem_filter.mp hx).1, fun x hx y hy => a.an x (List.mem_filter.mp hx).1 y (List.mem_filter.mp hy).1⟩
  have get : ∀ i ∈ (X.filter fun i => !decide (i = F.length + rs.length)), (∃ q, F[i]? = some q ∧ t ≤ wq f q) ∨ ∃ n s, i = F.length + n ∧ rs[n]? = some s ∧ (rs ++ [r])[n]? = some s ∧ t ≤ wsum f s := fun i hi => by
    have ne : i ≠ F.length + rs.length := by
      have := (List.mem_filter.mp hi).2
      simpa using this
    rcases ofW_led (a2.wt i hi) with h1 | ⟨n, s, h3, h4, h5⟩
    · exact .inl h1
    · have hn := (List.getElem?_eq_some_iff.mp h4).1
      rw [List.length_append, List.length_singleton] at hn
      have hn2 : n < rs.length := by omega
      exact .inr ⟨n, s, h3, by rw [← h4, List.getElem?_append_left hn2], h4, h5⟩
  have s2 := (ant_emb (ws := ledW f rs L) (ps := ledP rs L) a2 (fun i => if i < F.length then φ i else L.length + (i - F.length)) (fun i hi => by
    rcases get i hi with ⟨q, h1, h2⟩ | ⟨n, s, rfl, h2, _, h3⟩
    · rw [if_pos (List.getElem?_eq_some_iff.mp h1).1]
      exact ofW_lq (hφ i q h1) h2
    · rw [if_neg (by omega), Nat.add_sub_cancel_left]
      exact ofW_lr h2 h3) (fun i hi j hj e => by
    rcases get i hi with ⟨q, h1, h2⟩ | ⟨n, s, rfl, h2, _, h3⟩
    · have hlt := (List.getElem?_eq_some_iff.mp (hφ i q h1)).1
      rw [if_pos (List.getElem?_eq_some_iff.mp h1).1] at e
      rcases get j hj with ⟨q', h1', h2'⟩ | ⟨n, s, rfl, h2', _, h3'⟩
      · rw [if_pos (List.getElem?_eq_some_iff.mp h1').1] at e
        have h3 := hφ i q h1
        rw [e, hφ j q' h1'] at h3
        cases h3
        exact nd_at B.asc.nd h1 h1'
      · rw [if_neg (by omega)] at e
        omega
    · rw [if_neg (by omega)] at e
      rcases get j hj with ⟨q', h1', h2'⟩ | ⟨n', s', rfl, h2', _, h3'⟩
      · have hlt := (List.getElem?_eq_some_iff.mp (hφ j q' h1')).1
        rw [if_pos (List.getElem?_eq_some_iff.mp h1').1] at e
        omega
      · rw [if_neg (by omega)] at e
        omega) fun i hi j hj hp => by
    rcases get j hj with ⟨q', h1', h2'⟩ | ⟨n', s', rfl, h2', _, h3'⟩
    · rw [if_pos (List.getElem?_eq_some_iff.mp h1').1] at hp
      rcases get i hi with ⟨q, h1, h2⟩ | ⟨n, s, rfl, h2, h2b, h3⟩
      · rw [if_pos (List.getElem?_eq_some_iff.mp h1).1] at hp
        have hlt := (List.getElem?_eq_some_iff.mp (hφ i q h1)).1
        obtain ⟨a1, b1, h3, h4, h5⟩ := prs_mem.mp (led_low hp hlt)
        rw [hφ i q h1] at h3
        rw [hφ j q' h1'] at h4
        cases h3
        cases h4
        exact led_mem.mpr (.inl (prs_mem.mpr ⟨q, q', h1, h1', h5⟩))
      · rw [if_neg (by omega), Nat.add_sub_cancel_left] at hp
        obtain ⟨r1, q1, h4, h5, h6⟩ := led_high hp
        rw [h2] at h4
        rw [hφ j q' h1'] at h5
        cases h4
        cases h5
        exact led_mem.mpr (.inr ⟨n, s, q', rfl, h2b, h1', h6⟩)
    · have z := led_to hp
      rw [if_neg (show ¬ F.length + n' < F.length by omega)] at z
      omega).le
  rw [List.length_map] at s2
  show (cntV (ledW f (rs ++ [r]) F) (ledP (rs ++ [r]) F) t : Int) ≤ (cntV (ledW f rs L) (ledP rs L) t : Int) + if t ≤ wsum f r then 1 else 0
  omega
end NK
end

section
set_option Elab.async false
set_option linter.all false
namespace NK
open PySem PySem.Spec L2
open PyProof.Rows hiding St
/-! ### what the indexes of chains weigh and serve -/
theorem fold_last : ∀ {qs : List Qn} {r : List Str} {q : Qn}, ChOk qs → r.Nodup → (∀ c ∈ r, c ∈ menu) → (∀ q ∈ qs, ∀ c ∈ r, c ∈ q.1) → qs.getLast? = some q → ∀ c, c ∈ qs.foldl ext r ↔ c ∈ colsL q
  | [], _, _, _, _, _, _, h => by cases h
  | [q], r, q', hc, h1, h2, h3, h => by
    cases h
    exact ext_mem (h3 q List.mem_cons_self)
  | q :: s :: qs, r, q', hc, h1, h2, h3, h => by
    rw [List.foldl_cons]
    have hp := List.pairwise_cons.mp hc.ch
    have hq := hc.ok q List.mem_cons_self
    have hm := ext_mem (h3 q List.mem_cons_self)
    exact fold_last ⟨fun r hr => hc.ok r (List.mem_cons_of_mem _ hr), hp.2⟩ (ext_nd h1 (h3 q List.mem_cons_self) hq) (fun c h => hq.colsOk.mem c ((hm c).mp h)) (fun r hr c h => below_sub (hp.1 r hr) c ((hm c).mp h)) (by rw [List.getLast?_cons_cons] at h; exact h)
theorem fold_wsum {f : Str → Int} {qs : List Qn} {r : List Str} {q : Qn} (hc : ChOk qs) (h1 : r.Nodup) (h2 : ∀ c ∈ r, c ∈ menu) (h3 : ∀ q ∈ qs, ∀ c ∈ r, c ∈ q.1) (h : qs.getLast? = some q) : wsum f (qs.foldl ext r) = wq f q :=
  wsum_perm (perm_of_mem (fold_ok hc h1 h2 h3).1 (hc.ok q (List.mem_of_getLast? h)).colsOk.nd (fold_last hc h1 h2 h3 h))
theorem pick_last {L : List Qn} {c : List Nat} (ne : c ≠ []) (lt : ∀ i ∈ c, i < L.length) : (pick L c).getLast? = L[c.getLastD 0]? := by
  have e : c.getLast? = some (c.getLastD 0) := by
    rw [List.getLastD_eq_getLast?, List.getLast?_eq_some_getLast ne]
    rfl
  have h := lt _ (List.mem_of_getLast? e)
  rw [pick_map lt, List.getLast?_map, e, List.getElem?_eq_getElem h]
  show some (L.getD _ _) = _
  rw [List.getD_eq_getElem?_getD, List.getElem?_eq_getElem h]
  rfl
theorem last_lt {L : List Qn} {c : List Nat} (ne : c ≠ []) (lt : ∀ i ∈ c, i < L.length) : c.getLastD 0 < L.length := by
  have e : c.getLast? = some (c.getLastD 0) := by
    rw [List.getLastD_eq_getLast?, List.getLast?_eq_some_getLast ne]
    rfl
  exact lt _ (List.mem_of_getLast? e)
theorem idx_wsum {f : Str → Int} {L : List Qn} {c : List Nat} (ne : c ≠ []) (lt : ∀ i ∈ c, i < L.length) (ch : ChOk (pick L c)) : some (wsum f (idx (pick L c))) = (L[c.getLastD 0]?).map (wq f) := by
  have h := last_lt ne lt
  have e := pick_last ne lt
  rw [List.getElem?_eq_getElem h] at e ⊢
  unfold idx
  rw [fold_wsum ch List.nodup_nil (fun c h => by cases h) (fun _ _ c h => by cases h) e]
  rfl
theorem getD_some {ws : List Int} {i : Nat} {x : Int} (h : some x = ws[i]?) : ws.getD i 0 = x := by
  rw [List.getD_eq_getElem?_getD, ← h]
  rfl
/-! ### a new shelf -/
section
variable {f : Str → Int} {L : List Qn} {m : BL} (A : AkOk L) (W : WtOk f) (g : LotGood (L.map (wq f)) (prs L) m)
include A W g
theorem nsh_chs : (∀ c ∈ chs L.length m, (∀ i ∈ c, i < L.length) ∧ ChOk (pick L c) ∧ c ≠ [] ∧ c.length ≤ 48) ∧ (chs L.length m).length ≤ 48 := chs_ok A (by rw [List.length_map]) (in_wq A W) g
theorem nsh_cost : shc f (nsh L m) = costV f L := by
  have hs := chs_sum (in_wq A W) (prs_nodup L) g
  unfold costV
  rw [hs, shc_sum]
  unfold nsh
  rw [List.map_map, List.length_map]
  congr 1
  refine List.map_congr_left fun c hc => ?_
  obtain ⟨h1, h2, h3, _⟩ := (nsh_chs A W g).1 c hc
  show wsum f (idx (pick L c)) = _
  exact (getD_some (by rw [List.getElem?_map]; exact idx_wsum h3 h1 h2)).symm
theorem nsh_len : (nsh L m).length = fewV L := by
  have hs := chs_count (in_wq A W) (prs_nodup L) g
  rw [List.length_map] at hs
  unfold nsh
  rw [List.length_map, hs]
  unfold fewV
  have e : ∀ i, ofW (L.map (wq f)) 0 i = ofW (L.map fun _ => 1) 0 i := fun i => by
    unfold ofW
    rw [List.getElem?_map, List.getElem?_map]
    cases L[i]? with
    | none => rfl
    | some q => exact (decide_eq_true (wsum_nonneg W _)).trans (decide_eq_true (show (0 : Int) ≤ 1 by decide)).symm
  obtain ⟨X, a1, a2⟩ := ant_ex (L.map (wq f)) (prs L) 0
  obtain ⟨Y, b1, b2⟩ := ant_ex (L.map fun _ => (1 : Int)) (prs L) 0
  have x := (show AntW (L.map fun _ => (1 : Int)) (prs L) 0 X from ⟨a1.nd, fun x hx => (e x).symm.trans (a1.wt x hx), a1.an⟩).le
  have y := (show AntW (L.map (wq f)) (prs L) 0 Y from ⟨b1.nd, fun x hx => (e x).trans (b1.wt x hx), b1.an⟩).le
  omega
theorem left_nil {rs : List (List Str)} {qs : List Qn} : left rs qs = [] ↔ ∀ q ∈ qs, srvd rs q = true := by
  unfold left
  rw [List.filter_eq_nil_iff]
  exact ⟨fun h q hq => by have := h q hq; simpa using this, fun h q hq => by simp [h q hq]⟩
omit A W g in
theorem srvd_of {rs : List (List Str)} {r : List Str} {q : Qn} (h : r ∈ rs) (h2 : srv r q = true) : srvd rs q = true := List.any_eq_true.mpr ⟨r, h, h2⟩
omit A W g in
theorem pick_of {L : List Qn} {c : List Nat} {i : Nat} {q : Qn} (h : i ∈ c) (hq : L[i]? = some q) : q ∈ pick L c := List.mem_filterMap.mpr ⟨i, h, hq⟩
theorem nsh_left : left (nsh L m) L = [] := by
  refine (left_nil A W g).mpr fun q hq => ?_
  obtain ⟨i, hi, e⟩ := List.getElem_of_mem hq
  have hg : L[i]? = some q := by rw [List.getElem?_eq_getElem hi, e]
  obtain ⟨c, hc, hic⟩ := chs_all (in_wq A W) (prs_nodup L) g (i := i) (by rw [List.length_map]; exact hi)
  rw [List.length_map] at hc
  exact srvd_of (List.mem_map.mpr ⟨c, hc, rfl⟩) (idx_srv ((nsh_chs A W g).1 c hc).2.1 q (pick_of hic hg))
theorem nsh_ok : ShOk (nsh L m) := by
  obtain ⟨h1, h2⟩ := nsh_chs A W g
  refine ⟨fun r hr => ?_, by unfold nsh; rw [List.length_map]; exact h2⟩
  obtain ⟨c, hc, rfl⟩ := List.mem_map.mp hr
  obtain ⟨a1, a2, a3, _⟩ := h1 c hc
  refine ⟨idx_ok a2, idx_ne a2 fun e => ?_⟩
  have := (pick_at c a1).1
  rw [e] at this
  exact a3 (List.length_eq_zero_iff.mp this.symm)
theorem nsh_le : (nsh L m).length ≤ L.length := by
  unfold nsh
  rw [List.length_map]
  exact chs_cnt
end
theorem left_nil' {rs : List (List Str)} {qs : List Qn} : left rs qs = [] ↔ ∀ q ∈ qs, srvd rs q = true := by
  unfold left
  rw [List.filter_eq_nil_iff]
  exact ⟨fun h q hq => by have := h q hq; simpa using this, fun h q hq => by simp [h q hq]⟩
theorem srvd_app {rs ts : List (List Str)} {q : Qn} : srvd (rs ++ ts) q = (srvd rs q || srvd ts q) := List.any_append
theorem left_app (rs ts : List (List Str)) (qs : List Qn) : left (rs ++ ts) qs = left ts (left rs qs) := by
  unfold left
  rw [List.filter_filter]
  refine List.filter_congr fun q _ => ?_
  rw [srvd_app]
  cases srvd rs q <;> cases srvd ts q <;> rfl
theorem left_none (qs : List Qn) : left [] qs = qs := List.filter_eq_self.mpr fun q _ => rfl
theorem left_sub {rs : List (List Str)} {qs : List Qn} : ∀ q ∈ left rs qs, q ∈ qs := fun q hq => (List.mem_filter.mp hq).1
theorem srv_app {r t : List Str} {q : Qn} (h : srv r q = true) : srv (r ++ t) q = true := by
  unfold srv at h ⊢
  obtain ⟨h1, h2⟩ := Bool.and_eq_true_iff.mp h
  have up : ∀ (i : Nat) (c : Str), r[i]? = some c → (r ++ t)[i]? = some c := fun i c e => by
    rw [List.getElem?_append_left (List.getElem?_eq_some_iff.mp e).1, e]
  refine Bool.and_eq_true_iff.mpr ⟨List.all_eq_true.mpr fun i hi => ?_, ?_⟩
  · have := List.all_eq_true.mp h1 i hi
    unfold srvAt at this ⊢
    cases e : r[i]? with
    | none => rw [e] at this; cases this
    | some c =>
      rw [up i c e]
      rw [e] at this
      exact this
  · rcases Bool.or_eq_true_iff.mp h2 with h | h
    · rw [h]
      rfl
    · rw [decide_eq_true (up _ _ (of_decide_eq_true h)), Bool.or_true]
/-! ### a shelf led on -/
theorem inj_nd {α β : Type} {f : α → β} : ∀ {l : List α}, (l.map f).Nodup → ∀ {a b : α}, a ∈ l → b ∈ l → f a = f b → a = b
  | x :: l, nd, a, b, ha, hb, e => by
    rw [List.map_cons, List.nodup_cons] at nd
    rcases List.mem_cons.mp ha with h1 | h1 <;> rcases List.mem_cons.mp hb with h2 | h2
    · rw [h1, h2]
    · rw [h1] at e
      exact absurd (List.mem_map.mpr ⟨b, h2, e.symm⟩) nd.1
    · rw [h2] at e
      exact absurd (List.mem_map.mpr ⟨a, h1, e⟩) nd.1
    · exact inj_nd nd.2 h1 h2 e
theorem sum_split (p : List Nat → Bool) (W : List Nat → Int) : ∀ cs : List (List Nat), ((cs.filter p).map W).sum + ((cs.filter fun c => !p c).map W).sum = (cs.map W).sum
  | [] => rfl
  | c :: cs => by
    have ih := sum_split p W cs
    rw [List.filter_cons, List.filter_cons]
    cases p c <;> simp <;> omega
section
variable {f : Str → Int} {rs : List (List Str)} {L : List Qn} {m : BL} (A : AkOk L) (B : ShOk rs) (I : LotIn (ledW f rs L) (ledP rs L)) (g : LotGood (ledW f rs L) (ledP rs L) m)
include A B I g
theorem eld_at {n : Nat} {r : List Str} (h : rs[n]? = some r) : ∃ c ∈ chs (L.length + rs.length) m, isEld L.length c = true ∧ c.headD 0 = L.length + n ∧ eldAt (elds L rs (chs (L.length + rs.length) m)) n = (pick L c.tail).foldl ext r := by
  have C := led_ch A I g
  have hn := (List.getElem?_eq_some_iff.mp h).1
  obtain ⟨c, hc, e⟩ := List.mem_map.mp (eldAt_of (elds_mem C hn))
  obtain ⟨h1, h2⟩ := List.mem_filter.mp hc
  have e1 : c.headD 0 - L.length = n := congrArg Prod.fst e
  have e2 : (pick L c.tail).foldl ext (rs.getD (c.headD 0 - L.length) []) = eldAt (elds L rs (chs (L.length + rs.length) m)) n := congrArg Prod.snd e
  have h3 : L.length ≤ c.headD 0 := of_decide_eq_true h2
  refine ⟨c, h1, h2, by omega, ?_⟩
  rw [← e2, e1, List.getD_eq_getElem?_getD, h]
  rfl
theorem ldsh_at {n : Nat} {r : List Str} (h : rs[n]? = some r) : (ldsh L rs (chs (L.length + rs.length) m))[n]? = some (eldAt (elds L rs (chs (L.length + rs.length) m)) n) := by
  have hn := (List.getElem?_eq_some_iff.mp h).1
  unfold ldsh
  rw [List.getElem?_append_left (by rw [List.length_map, List.length_range]; exact hn), List.getElem?_map, List.getElem?_range hn]
  rfl
theorem ldsh_pre {n : Nat} {r : List Str} (h : rs[n]? = some r) : ∃ t, (ldsh L rs (chs (L.length + rs.length) m))[n]? = some (r ++ t) := by
  obtain ⟨c, _, _, _, e⟩ := eld_at A B I g h
  obtain ⟨t, e2⟩ := fold_pre (pick L c.tail) r
  exact ⟨t, by rw [ldsh_at A B I g h, e, e2]⟩
theorem ldsh_left {qs : List Qn} (hL : L = left rs qs) : left (ldsh L rs (chs (L.length + rs.length) m)) qs = [] := by
  refine left_nil'.mpr fun q hq => ?_
  have C := led_ch A I g
  by_cases hs : srvd rs q = true
  · obtain ⟨r, hr, h1⟩ := List.any_eq_true.mp hs
    obtain ⟨n, hn, e⟩ := List.getElem_of_mem hr
    obtain ⟨t, e2⟩ := ldsh_pre A B I g (show rs[n]? = some r by rw [List.getElem?_eq_getElem hn, e])
    exact srvd_of (List.mem_of_getElem? e2) (srv_app h1)
  · have hqL : q ∈ L := by
      rw [hL]
      exact List.mem_filter.mpr ⟨hq, by simpa using hs⟩
    obtain ⟨i, hi, e⟩ := List.getElem_of_mem hqL
    have hg : L[i]? = some q := by rw [List.getElem?_eq_getElem hi, e]
    obtain ⟨c, hc, hic⟩ := chs_all I (led_nodup rs L) g (i := i) (by rw [ledW_len]; omega)
    rw [ledW_len] at hc
    cases hb : isEld L.length c with
    | true =>
      obtain ⟨r, h1, h2, h3, h4⟩ := C.old c hc hb
      have hit : i ∈ c.tail := by
        cases c with
        | nil => cases hic
        | cons a t =>
          rcases List.mem_cons.mp hic with rfl | h
          · have h6 : L.length ≤ i := of_decide_eq_true hb
            omega
          · exact h
      have hrm := B.ok r (List.mem_of_getElem? h1)
      have hsv := fold_srv h3 hrm.cols.nd h4 q (pick_of hit hg)
      have hn := (List.getElem?_eq_some_iff.mp h1).1
      have hh : L.length ≤ c.headD 0 := of_decide_eq_true hb
      obtain ⟨c', hc', hb', hd', e'⟩ := eld_at A B I g h1
      have ecc : c' = c := by
        exact inj_nd C.nd (List.mem_filter.mpr ⟨hc', hb'⟩) (List.mem_filter.mpr ⟨hc, hb⟩) (by omega)
      subst ecc
      refine srvd_of (List.mem_of_getElem? (ldsh_at A B I g h1)) ?_
      rw [e']
      exact hsv
    | false =>
      obtain ⟨h1, h2⟩ := C.new c hc hb
      refine srvd_of (List.mem_append_right _ (List.mem_map.mpr ⟨c, List.mem_filter.mpr ⟨hc, by rw [hb]; rfl⟩, rfl⟩)) (idx_srv h2 q (pick_of hic hg))
theorem ldsh_cost : shc f (ldsh L rs (chs (L.length + rs.length) m)) = sumV (ledW f rs L) (ledP rs L) := by
  have C := led_ch A I g
  have hs := chs_sum I (led_nodup rs L) g
  rw [ledW_len] at hs
  rw [hs, ← sum_split (isEld L.length)]
  unfold ldsh
  rw [shc_app]
  congr 1
  · have p : ((List.range rs.length).map fun n => eldAt (elds L rs (chs (L.length + rs.length) m)) n).Perm ((elds L rs (chs (L.length + rs.length) m)).map (·.2)) := by
      have lt : ∀ c ∈ (chs (L.length + rs.length) m).filter (isEld L.length), L.length ≤ c.headD 0 ∧ c.headD 0 - L.length < rs.length := fun c hc => by
        obtain ⟨h1, h2⟩ := List.mem_filter.mp hc
        obtain ⟨r, h3, _⟩ := C.old c h1 h2
        exact ⟨of_decide_eq_true h2, (List.getElem?_eq_some_iff.mp h3).1⟩
      have knd : ((elds L rs (chs (L.length + rs.length) m)).map (·.1)).Nodup := by
        unfold elds
        rw [List.map_map, List.nodup_iff_pairwise_ne, List.pairwise_map]
        have nd := C.nd
        rw [List.nodup_iff_pairwise_ne, List.pairwise_map] at nd
        refine nd.imp_of_mem fun {a b} ha hb ne e => ne ?_
        have e : a.headD 0 - L.length = b.headD 0 - L.length := e
        have := lt a ha
        have := lt b hb
        omega
      have pr : (List.range rs.length).Perm ((elds L rs (chs (L.length + rs.length) m)).map (·.1)) := by
        refine perm_of_mem List.nodup_range knd fun n => ?_
        rw [List.mem_range, List.mem_map]
        constructor
        · intro hn
          exact elds_mem C hn
        · rintro ⟨e, he, rfl⟩
          obtain ⟨c, hc, rfl⟩ := List.mem_map.mp he
          exact (lt c hc).2
      have q := pr.map fun n => eldAt (elds L rs (chs (L.length + rs.length) m)) n
      rw [List.map_map] at q
      refine q.trans (List.Perm.of_eq (List.map_congr_left fun e he => ?_))
      have := inj_nd knd (eldAt_of ⟨e, he, rfl⟩) he rfl
      exact congrArg Prod.snd this
    rw [shc_sum, perm_sum (p.map _)]
    unfold elds
    rw [List.map_map, List.map_map]
    congr 1
    refine List.map_congr_left fun c hc => ?_
    obtain ⟨h1, h2⟩ := List.mem_filter.mp hc
    obtain ⟨r, h3, h4, h5, h6⟩ := C.old c h1 h2
    have hrm := B.ok r (List.mem_of_getElem? h3)
    have hh : L.length ≤ c.headD 0 := of_decide_eq_true h2
    show wsum f ((pick L c.tail).foldl ext (rs.getD (c.headD 0 - L.length) [])) = _
    rw [List.getD_eq_getElem?_getD, h3]
    refine (getD_some ?_).symm
    show some (wsum f ((pick L c.tail).foldl ext r)) = _
    cases c with
    | nil => exact absurd rfl (C.ne [] h1).1
    | cons a t =>
      cases t with
      | nil =>
        have e : a = L.length + (a - L.length) := by have : L.length ≤ a := hh; omega
        show some (wsum f r) = (ledW f rs L)[a]?
        rw [e, ledW_st]
        have h3 : rs[a - L.length]? = some r := h3
        rw [h3]
        rfl
      | cons b t =>
        have ne : b :: t ≠ [] := by simp
        have h5 : ChOk (pick L (b :: t)) := h5
        have h6 : ∀ q ∈ pick L (b :: t), ∀ x ∈ r, x ∈ q.1 := h6
        have hl := last_lt ne h4
        have e : (a :: b :: t).getLastD 0 = (b :: t).getLastD 0 := rfl
        rw [e, ledW_at hl, List.getElem?_eq_getElem hl]
        have e2 := pick_last ne h4
        rw [List.getElem?_eq_getElem hl] at e2
        show some (wsum f ((pick L (b :: t)).foldl ext r)) = _
        rw [fold_wsum h5 hrm.cols.nd hrm.cols.mem h6 e2]
        rfl
  · unfold mors
    rw [shc_sum, List.map_map]
    congr 1
    refine List.map_congr_left fun c hc => ?_
    obtain ⟨h1, h2⟩ := List.mem_filter.mp hc
    have h2 : isEld L.length c = false := by simpa using h2
    obtain ⟨h3, h4⟩ := C.new c h1 h2
    have ne := (C.ne c h1).1
    have hl := last_lt ne h3
    show wsum f (idx (pick L c)) = _
    exact (getD_some (by rw [ledW_at hl]; exact idx_wsum ne h3 h4)).symm
end
theorem ledB_of {ts rs : List (List Str)} {qs : List Qn} (h1 : left ts qs = []) (h2 : ∀ (n : Nat) (r : List Str), rs[n]? = some r → ∃ t, ts[n]? = some (r ++ t)) : ledB ts rs qs = true := by
  unfold ledB
  have hl : rs.length ≤ ts.length := by
    by_cases h0 : rs.length = 0
    · omega
    · have hn : rs.length - 1 < rs.length := by omega
      obtain ⟨t, e⟩ := h2 _ _ (List.getElem?_eq_getElem hn)
      have := (List.getElem?_eq_some_iff.mp e).1
      omega
  rw [decide_eq_true h1, decide_eq_true hl, Bool.true_and, Bool.true_and]
  refine List.all_eq_true.mpr fun p hp => decide_eq_true ?_
  obtain ⟨t, e⟩ := h2 _ _ (plc_mem.mp hp)
  rw [List.getD_eq_getElem?_getD, e]
  exact List.take_left
theorem nsh_none {m : BL} : nsh [] m = [] := rfl
theorem ldsh_none {f : Str → Int} {rs : List (List Str)} {m : BL} (B : ShOk rs) (I : LotIn (ledW f rs []) (ledP rs [])) (g : LotGood (ledW f rs []) (ledP rs []) m) : ldsh [] rs (chs (([] : List Qn).length + rs.length) m) = rs := by
  have A : AkOk [] := ⟨⟨List.nodup_nil, List.Pairwise.nil⟩, (fun q h => by cases h), by decide⟩
  have hm : mors [] (chs (([] : List Qn).length + rs.length) m) = [] := by
    unfold mors
    have : ((chs (([] : List Qn).length + rs.length) m).filter fun c => !isEld ([] : List Qn).length c) = [] := List.filter_eq_nil_iff.mpr fun c _ z => by
      have : isEld ([] : List Qn).length c = true := decide_eq_true (Nat.zero_le _)
      rw [this] at z
      cases z
    rw [this]
    rfl
  have hl : (ldsh [] rs (chs (([] : List Qn).length + rs.length) m)).length = rs.length := by
    unfold ldsh
    rw [hm, List.append_nil, List.length_map, List.length_range]
  refine List.ext_getElem? fun n => ?_
  cases h : rs[n]? with
  | none =>
    rw [List.getElem?_eq_none_iff] at h ⊢
    omega
  | some r =>
    obtain ⟨c, _, _, _, e⟩ := eld_at A B I g h
    rw [ldsh_at A B I g h, e]
    have : pick [] c.tail = [] := by
      unfold pick
      refine List.filterMap_eq_nil_iff.mpr fun i _ => rfl
    rw [this]
    rfl
end NK
end

section
set_option Elab.async false
set_option linter.all false
set_option maxRecDepth 100000
set_option maxHeartbeats 400000
namespace NK
open PySem PySem.Spec L2
open PyProof.Rows hiding St
/-! ### an instance with one field that a relation tells -/
section
variable {K : PySem.W.Frag} {σ : L2.St} {S H S0 H0 : Hp} {te : TE} {R T : Rel}
def spMkR {α : Type} (K : PySem.W.Frag) (C f : Str) (A : α → List V → Hp → Prop) (T : α → Rel) : Sp := fun vs H Q _ => ∃ a x dx us S, vs = .ref x :: us ∧ H x = some (.ins (He.ga K C) dx []) ∧ S x = none ∧ Same S H ∧ A a us S ∧
  ∀ S' H' t, Gw S H S' H' → S' x = none → T a t S' → Q .non (upd H' x (.ins (He.ga K C) dx [(f, t)]))
def IR (K : PySem.W.Frag) (C f : Str) (T : Rel) : Rel := fun v S => ∃ a dx t, v = .ref a ∧ S a = some (.ins (He.ga K C) dx [(f, t)]) ∧ T t S
theorem g_mkR {C f : Str} {α : Type} {A : α → List V → Hp → Prop} {T : α → Rel} {t : TA} {a : α} (u : Up (T a)) (h : GA t σ S (A a)) : G (StX.tMakeR (He.ga K C) (spMkR K C f A T) E0 t) σ S (IR K C f (T a)) := fun S1 H1 e b Q q =>
  h S1 H1 e b _ fun vs S2 H2 e2 r x dx hx hdx ne => by
    have b2 : Same S2 (upd (upd H2 dx (.own x)) x (.ins (He.ga K C) dx [])) := Same.wr (Same.wr e2.sh (e2.sh.free hdx)) (e2.sh.free hx)
    refine ⟨a, x, dx, vs, S2, rfl, upd_same, e2.sh.free hx, b2, r, fun S' H' t g hs hd => ⟨rfl, ?_⟩⟩
    have hH : H' x = some (.ins (He.ga K C) dx []) := g.hh _ _ upd_same
    have g0 : Gw S2 H2 S' H' := by
      refine ⟨g.ss, fun p o hp => g.hh p o ?_, g.sh, fun p o hp => g.old p o ?_⟩ <;>
        rw [upd_ne (ne_of_none hp hx), upd_ne (ne_of_none hp hdx)] <;> exact hp
    have g1 := (g0.wr (o := .ins (He.ga K C) dx [(f, t)]) hx hs).frz hx hs upd_same
    exact q (.ref x) _ _ (e2.trans g1) ⟨x, dx, t, rfl, upd_same, u _ _ _ (Same.new hs) hd⟩
theorem s_fsetR {C f : Str} {x : Addr} {dx : Addr} {H S0 H0 : Hp} {E : Ends} {i : Nat} (hi : σ[i]? = some (some (.ref x))) (h : G te σ S R) (e : Gw S0 H0 S H) (hx : H x = some (.ins (He.ga K C) dx [])) (hs : S x = none) (hc : Cls K (He.ga K C)) (hn : NoAttr K (He.ga K C) f)
    (k : ∀ S' H' t, Gw S0 H0 S' H' → S' x = none → R t S' → E.nx σ (upd H' x (.ins (He.ga K C) dx [(f, t)]))) : sFld K (tVar i) te f E σ H :=
  h S H (Same.refl S) e.sh _ fun v S1 H1 e1 r => ⟨.ref x, hi, x, _, dx, [], rfl, e1.hh _ _ hx, hc, hn, by decide, k S1 H1 v (e.trans e1) (e1.none hs hx) r⟩
/-- t is read only for a while -/
theorem Gw.lock {t : Addr} {od : Obj} {u : HO} {S' H' : Hp} (hs : S t = some u) (b : Same S H) (g : Gw (upd S t (.frz od u)) (upd H t (.frz od u)) S' H') : H' t = some (.frz od u) ∧ Gw S H (upd S' t u) (upd H' t u) := by
  have ht := g.hh _ _ (show upd H t (HO.frz od u) t = _ from upd_same)
  refine ⟨ht, fun p o hp => ?_, fun p o hp => ?_, upd_mono g.sh, fun p o hp => ?_⟩
  · by_cases n : p = t
    · subst n
      rw [upd_same, ← hp, hs]
    · rw [upd_ne n]
      exact g.ss _ _ (by rw [upd_ne n]; exact hp)
  · by_cases n : p = t
    · subst n
      rw [upd_same, ← hp, b _ _ hs]
    · rw [upd_ne n]
      exact g.hh _ _ (by rw [upd_ne n]; exact hp)
  · by_cases n : p = t
    · subst n
      rw [upd_same, hs]
    · rw [upd_ne n, g.old p o (by rw [upd_ne n]; exact hp), upd_ne n]
theorem g_lock {t : Addr} {u : HO} (hs : S t = some u) (mu : Mut (some u)) (h : ∀ od, G te σ (upd S t (.frz od u)) R) (hR : ∀ od v S', S' t = some (.frz od u) → R v S' → T v (upd S' t u)) : G (tLockE te) σ S T := fun S1 H1 e b Q q =>
  ⟨t, u, b _ _ (e _ _ hs), mu, fun od => h od _ _ (upd_mono e) (upd_mono b) _ fun v S2 H2 g r => by
    obtain ⟨h1, h2⟩ := Gw.lock (e _ _ hs) b g
    exact ⟨h1, q v _ _ h2 (hR od v S2 (g.ss _ _ upd_same) r)⟩⟩
/-! ### a table: columns and ints -/
abbrev TB := List (Str × Int)
def encTb (tb : TB) : List (Key × V) := tb.map fun p => (Sum.inr p.1, .int p.2)
def TbR (tb : TB) : Rel := fun v S => ∃ t, v = .ref t ∧ S t = some (.dK (encTb tb))
theorem up_tb {tb : TB} : Up (TbR tb) := fun v H H' e ⟨t, h1, h2⟩ => ⟨t, h1, e _ _ h2⟩
structure TbOk (tb : TB) : Prop where
  mem : ∀ p ∈ tb, p.1 ∈ menu ∧ 1 ≤ p.2 ∧ p.2 ≤ 10 ^ 30
  nd : (tb.map (·.1)).Nodup
  len : tb.length ≤ 100
/-- what a table says -/
def tbF (tb : TB) (c : Str) : Int := ((tb.find? fun p => p.1 == c).map (·.2)).getD 1
theorem valV_encTb (tb : TB) (c : Str) : valV (encTb tb) (Sum.inr c : Key) = (tb.find? fun p => p.1 == c).map fun p => V.int p.2 := by
  induction tb with
  | nil => rfl
  | cons p tb ih =>
    unfold encTb at ih ⊢
    rw [List.map_cons]
    by_cases e : p.1 = c
    · rw [valV_pos (by rw [e]), List.find?_cons, beq_iff_eq.mpr e]
      rfl
    · rw [valV_neg (fun z => e (Sum.inr.inj z)), ih, List.find?_cons, beq_eq_false_iff_ne.mpr e]
theorem find_nd : ∀ {tb : TB} {p : Str × Int}, (tb.map (·.1)).Nodup → p ∈ tb → (tb.find? fun q => q.1 == p.1) = some p
  | q :: tb, p, nd, h => by
    rw [List.map_cons, List.nodup_cons] at nd
    rcases List.mem_cons.mp h with rfl | h
    · rw [List.find?_cons, beq_self_eq_true]
    · have ne : ¬ q.1 = p.1 := fun e => nd.1 (e ▸ List.mem_map.mpr ⟨p, h, rfl⟩)
      rw [List.find?_cons, beq_eq_false_iff_ne.mpr ne]
      exact find_nd nd.2 h
theorem tbV_of {tb : TB} {v : V} {S : Hp} (h : TbR tb v S) : TabV (tbF tb) v S := by
  obtain ⟨t, rfl, h⟩ := h
  refine ⟨t, _, rfl, h, fun c => ?_⟩
  rw [valV_encTb]
  unfold tbF
  cases (tb.find? fun p => p.1 == c) with
  | none => exact .inl ⟨rfl, rfl⟩
  | some p => exact .inr rfl
theorem tbF_ok {tb : TB} (h : TbOk tb) : WtOk (tbF tb) := by
  have q : ∀ c, 1 ≤ tbF tb c ∧ tbF tb c ≤ 10 ^ 30 := fun c => by
    unfold tbF
    cases e : (tb.find? fun p => p.1 == c) with
    | none => exact ⟨by decide, by decide⟩
    | some p => exact (h.mem p (List.mem_of_find?_eq_some e)).2
  exact ⟨fun c => (q c).1, fun c => (q c).2⟩
theorem gi_items {tb : TB} (h : G te σ S (fun v S => ∃ t od, v = .ref t ∧ S t = some (.frz od (.dK (encTb tb))))) : GI (iItems te) σ S tb (fun p => D K (.tuple [.str p.1, .int p.2])) := fun S1 H1 e b R q => h S1 H1 e b _ fun v S2 H2 e2 ⟨t, od, ev, ht⟩ => by
  refine ⟨t, od, encTb tb, ev, e2.sh _ _ ht, q _ S2 H2 e2 ?_⟩
  have w := walk_items (d := t) (o := od) (kvs := encTb tb)
  have hl : tb.length = (encTb tb).length := by unfold encTb; rw [List.length_map]
  unfold Wk
  rw [hl]
  refine w.mono (fun H' e' => e' _ _ ht) fun i H x H' hi eG hy S' s1 s2 => ?_
  obtain ⟨T, x1, y1, rfl, hT, rfl, h1, h2⟩ := hy
  unfold encTb at h1 h2
  dsimp only at h1 h2
  rw [List.getElem?_map] at h1 h2
  cases h3 : tb[i]? with
  | none => rw [h3] at h1; cases h1
  | some z =>
    rw [h3] at h1 h2
    cases h1
    cases h2
    exact ⟨_, Gw.new s2 hT, z, rfl, .tup (SqT.of upd_same) (.cons (.str _) (.cons (.int _) .nil))⟩
end
section
variable {P : Program} {w : World} {K : PySem.W.Frag} {mg : Str → Option Value} {base : Heap}
theorem kit_dct : PySem.W.kitOne K (.type "dict") (.type "dict") = some true := by simp [PySem.W.kitOne]
abbrev n_Weights___init__ : List Str := ["self", "table", "column", "weight"]
theorem sc_Weights___init__ : FnScope n_Weights___init__ ["self", "table"] (defScope s_Weights___init__) := ⟨rfl, rfl, rfl, by decide +kernel, rfl, by decide +kernel, by decide +kernel⟩
abbrev sp_Weights___init__ (K : PySem.W.Frag) : Sp := spMkR K "Weights" "kept_table" (fun (tb : {tb : TB // TbOk tb}) => A1 (TbR tb.1)) (fun tb => TbR tb.1)
theorem ok_Weights___init__ (T : Fx K mg) : CalM P w K mg base 3 "Weights" "__init__" (sp_Weights___init__ K) := by
  obtain ⟨fd, Fn⟩ := T.d_Weights___init__
  refine ⟨fn_pos Fn sc_Weights___init__ (fun vs H Q E h => ?_) (fun _ _ _ _ _ _ us hl => match us, hl with | [_, _], _ => rfl) (fun cdv A outer s H vs Q E hr h => ?_), T.m_Weights___init__, T.c_Weights, fnIn_of Fn⟩
  · obtain ⟨_, x, _, us, _, rfl, _, _, _, ⟨_, rfl, _⟩, _⟩ := h
    rfl
  · obtain ⟨⟨tb, B⟩, x, dx, us, S, rfl, hx, hs, hS, ⟨va, rfl, t, rfl, ht⟩, k⟩ := h
    have B : TbOk tb := B
    have hlen := B.len
    have hu := hu_of hr
    refine ⟨_, pss_cons (ps_if (pt_not (pt_val (pe_callB (r := rIsi K) call_isi rfl T.b_isinstance bt_isinstance (pa_cons (pv 1) (pa_cons (pe_bltn (v := .ty "dict") rfl T.b_dict bt_dict rfl) pa_nil)))))
        (pss_one ps_never) pss_nil) (pss_cons (ps_if (pt_not (pt_val (pe_lock (pe_callB (r := rAll K) (cr_all rfl) rfl T.b_all bt_all (pa_cons (pe_lc (own := [("column", 2), ("weight", 3)]) rfl
        sc_Weights___init__.nd (pi_items (pv 1)) (blkOk_by (N := n_Weights___init__) (sc := defScope s_Weights___init__) (by decide +kernel)) (fun _ _ _ _ _ => (pg_tupK (K := K) (n := 2) rfl (pgs_cons
        (pg_name (i := 2) sc_Weights___init__.nd rfl (by first | exact Or.inl rfl | exact Or.inr rfl)) (pgs_cons (pg_name (i := 3) sc_Weights___init__.nd rfl
        (by first | exact Or.inl rfl | exact Or.inr rfl)) pgs_nil)))) (fun _ _ _ _ _ => pts_nil) (fun _ _ _ _ _ => (pe_and (pe_f ((ok_is_column T).mono (by decide : 1 ≤ 2)) (hr.mono (by decide))
        (pa_cons (pv 2) pa_nil)) (pe_one (pe_f ((ok_is_weight T).mono (by decide : 2 ≤ 2)) (hr.mono (by decide)) (pa_cons (pv 3) pa_nil)))))) pa_nil))))) (pss_one ps_never) pss_nil) (pss_one (ps_fld
        (pv 0) (pe_lock (pe_dc (own := [("column", 2)]) rfl sc_Weights___init__.nd (pi_keys (pv 1)) (blkOk_by (N := n_Weights___init__) (sc := defScope s_Weights___init__) (by decide +kernel)) (fun _
        _ _ _ _ => (pg_name (i := 2) sc_Weights___init__.nd rfl (by first | exact Or.inl rfl | exact Or.inr rfl))) (fun _ _ _ _ _ => pts_nil) (fun _ _ _ _ _ => (pv 2)) (fun _ _ _ _ _ => (pe_dget hu
        (pv 1) (pv 2) (fun _ _ => rfl))))) rfl))), ?_⟩
    refine q_no (gt_eq (gt_not (gt_B (g_isi (g_var (R := TbR tb) rfl ⟨t, rfl, ht⟩ up_tb) (fun v H1 ⟨a, e1, e2⟩ => e1 ▸ .base (.dK e2)) up_tb kit_dct))) rfl) (.refl hS) fun S1 H1 e1 s1 => ?_
    have ht1 := s1 _ _ ht
    refine q_no (gt_eq (gt_not (gt_B (g_lock (T := Is (.bl true)) ht1 trivial (fun od => g_eq (g_all2 (xs := tb) (d1 := fun (p : Str × Int) => .str p.1) (d2 := fun (p : Str × Int) => .int p.2) (fun _ => true) (gi_items (tb := tb) (g_var (R := fun v S => ∃ t od, v = V.ref t ∧ S t = some (.frz od (.dK (encTb tb)))) rfl ⟨t, od, rfl, upd_same⟩ fun v H H' e ⟨a, b, h1, h2⟩ => ⟨a, b, h1, e _ _ h2⟩)) (by omega) fun p x y S2 s2 hp dx dy => ?_) (by simp)) fun _ _ _ _ r => r))) rfl) e1 fun S2 H2 e2 s2 => ?_
    · obtain ⟨m1, m2⟩ := B.mem p hp
      cases Dp.strI dx
      cases Dp.intI dy
      exact g_eq (g_and (g_call (R := fun _ => Is (.bl true)) (a := (⟨p.1, m1⟩ : {c : Str // c ∈ menu})) (ga_one (g_is rfl))) fun _ => g_call (R := fun _ => Is (.bl true)) (a := (⟨p.2, m2⟩ : {n : Int // 1 ≤ n ∧ n ≤ 10 ^ 30})) (ga_one (g_is rfl))) rfl
    have ht2 := s2 _ _ ht1
    refine s_fsetR (R := TbR tb) rfl (g_lock (R := fun v S => ∃ D, v = .ref D ∧ D ≠ t ∧ S D = some (.dK (encTb tb))) ht2 trivial (fun od => ?_) fun _ v S' _ ⟨D, e1, n, e2⟩ => ⟨D, e1, by rw [upd_ne n]; exact e2⟩) e2 (e2.hh _ _ hx) (e2.none hs hx) T.c_Weights T.n_kept_table fun S' H' t g hn hd => k S' H' t g hn hd
    intro S3 H3 e3 b3 Q q
    have hl : S3 t = some (.frz od (.dK (encTb tb))) := e3 _ _ upd_same
    refine ⟨.ref t, rfl, t, od, rfl, .inl ⟨encTb tb, b3 _ _ hl, fun D hD => ?_⟩⟩
    have nD : t ≠ D := ne_of_none (b3 _ _ hl) hD
    have elen : (encTb tb).length = tb.length := by unfold encTb; rw [List.length_map]
    refine ⟨fun i m H' => m = tb.length - i ∧ i ≤ tb.length ∧ H' = upd H3 D (.dK (encTb (tb.take i))), ⟨_, rfl, Nat.zero_le _, rfl⟩, ?_⟩
    rintro i m H5 ⟨rfl, hi, rfl⟩
    have ht5 : upd H3 D (.dK (encTb (tb.take i))) t = some (.frz od (.dK (encTb tb))) := by rw [upd_ne nD]; exact b3 _ _ hl
    by_cases hlt : i < tb.length
    · refine .inr ⟨⟨ht5, by omega⟩, fun H' => i + 1 ≤ tb.length ∧ H' = upd H3 D (.dK (encTb (tb.take (i + 1)))), fun H' h => ⟨tb.length - (i + 1), by omega, rfl, h.1, h.2⟩, ?_⟩
      rintro x H6 ⟨rfl, kk, vv, hk, rfl⟩
      have hp : tb[i]? = some tb[i] := List.getElem?_eq_getElem hlt
      obtain ⟨e4, e5⟩ : kk = Sum.inr tb[i].1 ∧ vv = .int tb[i].2 := by
        unfold encTb at hk
        rw [List.getElem?_map, hp] at hk
        cases hk
        exact ⟨rfl, rfl⟩
      subst e4 e5
      have htk : tb.take (i + 1) = tb.take i ++ [tb[i]] := by rw [List.take_add_one, hp]; rfl
      have hnd : ((tb.take i ++ [tb[i]]).map (·.1)).Nodup := htk ▸ (List.Nodup.sublist (List.Sublist.map _ (List.take_sublist _ _)) B.nd)
      have hno : valV (encTb (tb.take i)) (Sum.inr tb[i].1 : Key) = none := by
        rw [valV_encTb]
        have e : ((tb.take i).find? fun p => p.1 == tb[i].1) = none := List.find?_eq_none.mpr fun p h1 h2 => by
          rw [List.map_append, List.nodup_append] at hnd
          exact hnd.2.2 _ (List.mem_map.mpr ⟨p, h1, rfl⟩) _ (List.mem_map.mpr ⟨_, List.mem_singleton.mpr rfl, rfl⟩) (beq_iff_eq.mp h2)
        rw [e]
        rfl
      have hva : valV (encTb tb) (Sum.inr tb[i].1 : Key) = some (.int tb[i].2) := by
        rw [valV_encTb, find_nd B.nd (List.getElem_mem hlt)]
        rfl
      refine ⟨rfl, ?_⟩
      unfold tYes
      refine iteT ?_
      refine ⟨_, rfl, .ref t, rfl, _, rfl, t, .int tb[i].2, rfl, .inl ⟨encTb tb, Sum.inr tb[i].1, .inr ⟨od, ht5⟩, rfl, hva.symm⟩, encTb (tb.take i), Sum.inr tb[i].1, rfl, upd_same, ?_, hlt, ?_⟩
      · unfold encTb
        rw [List.length_map, List.length_take]
        exact Nat.lt_of_le_of_lt (Nat.le_trans (Nat.min_le_right _ _) hlen) (by decide)
      · rw [upd_upd, putK_new _ hno, htk]
        unfold encTb
        rw [List.map_append]
        rfl
    · obtain rfl : i = tb.length := by omega
      rw [List.take_length]
      refine .inl ⟨⟨by rw [List.take_length] at ht5; exact ht5, by omega⟩, ?_⟩
      exact q (.ref D) _ _ (Gw.new b3 hD) ⟨D, rfl, nD.symm, upd_same⟩
end
end NK
end

section
set_option Elab.async false
set_option linter.all false
set_option maxRecDepth 100000
set_option maxHeartbeats 400000
namespace NK
open PySem PySem.Spec L2
open PyProof.Rows hiding St
section
variable {P : Program} {w : World} {K : PySem.W.Frag} {mg : Str → Option Value} {base : Heap}
abbrev n__law_bag : List Str := ["_law_script", "_law_cell"]
theorem sc__law_bag : FnScope n__law_bag ["_law_script"] (defScope s__law_bag) := ⟨rfl, rfl, rfl, by decide +kernel, rfl, by decide +kernel, by decide +kernel⟩
abbrev sp__law_bag (K : PySem.W.Frag) : Sp := Pu (fun (ns : List Int) => A1 (D K (.list (ns.map .int)))) (fun _ => BagV)
theorem ok__law_bag (T : Fx K mg) : Cal P w K mg base 1 "_law_bag" (sp__law_bag K) := by
  obtain ⟨fd, Fn⟩ := T.d__law_bag
  refine ⟨fn_pos Fn sc__law_bag (fun vs H Q E h => ?_) (fun _ _ _ _ _ _ us hl => match us, hl with | [_], _ => rfl) (fun cdv A outer s H vs Q E hr h => ?_), T.g__law_bag, Fn.kp⟩
  · obtain ⟨_, _, _, ⟨_, rfl, _⟩, _⟩ := h
    rfl
  · obtain ⟨ns, S, hS, ⟨va, rfl, hv⟩, k⟩ := h
    refine ⟨_, pss_one (ps_ret (pe_close (pe_lst (pa_cons pe_int (pa_cons pe_int (pa_cons pe_int (pa_cons (pe_lc (own := [("_law_cell", 1)]) rfl sc__law_bag.nd (pi_listK (K := K) (pe_slice (r := rSlL K)
        sl_list (pv 0) po_none (po_some pe_int))) (blkOk_by (N := n__law_bag) (sc := defScope s__law_bag) (by decide +kernel)) (fun _ _ _ _ _ => (pg_name (i := 1) sc__law_bag.nd rfl
        (by first | exact Or.inl rfl | exact Or.inr rfl))) (fun _ _ _ _ _ => pts_nil) (fun _ _ _ _ _ => (pe_callB call_abs rfl T.b_abs bt_abs (pa_cons (pv 1) pa_nil)))) pa_nil))))))), ?_⟩
    refine s_ret (R := BagV) (g_close fun S1 H1 e b Q q => ?_) hS k
    have hg := g_map0 (K := K) (S := S) (wi := iList K (tSl (rSlL K) (tVar 0) tNoPart (tPart (tC (.int 63))))) (te := tCB (fun xs H Q => ∃ i : Int, xs = [.int i] ∧ Q (.int (if i < 0 then -i else i)) H) (tCons (tVar 1) tNil)) (RI := fun (i : Int) => D K (.int i)) (σ := [some va, none]) (i := 1) (vs := [1]) (xs := ns.take 63) (fun i => if i < 0 then -i else i) PyData.int (gi_listE (xs := ns.take 63) (enc := PyData.int) (by rw [List.map_take]; exact g_l0D (g_slHi (i := 63) (g_var (R := D K (.list (ns.map .int))) rfl hv .d) (g_c (v := .int 63))))) (by rw [List.length_take]; omega) fun i x S2 s2 hi rx => g_cb (ga_one (g_var rfl rx .d)) fun vs S1 H1 _ c ⟨v, e, r⟩ Q q => ⟨i, by rw [e, Dp.intI r], q _ S1 H1 (.refl c) (.int _)⟩
    exact hg S1 H1 e b (fun x H2 => Q [V.int 0, .int 1234567891, .int 0, x] H2) fun v S2 H2 e2 r => by
      obtain ⟨pl, ws, rfl, hp, hd⟩ := r
      refine q [V.int 0, .int 1234567891, .int 0, .ref pl] _ _ e2 ⟨0, 1234567891, 0, pl, (ns.take 63).map fun i => if i < 0 then -i else i, rfl, by decide, by decide, by decide, by rw [hp, DpAll.ints hd], fun n hn => ?_⟩
      obtain ⟨i, _, rfl⟩ := List.mem_map.mp hn
      split <;> omega
abbrev n__law_take : List Str := ["_law_bag_here", "_law_many", "_law_cell", "_law_mixed_here", "_law_drawn", "_law_begin", "_law_second"]
theorem sc__law_take : FnScope n__law_take ["_law_bag_here", "_law_many"] (defScope s__law_take) := ⟨rfl, rfl, rfl, by decide +kernel, rfl, by decide +kernel, by decide +kernel⟩
abbrev sp__law_take (K : PySem.W.Frag) : Sp := Pu (fun (j : {j : Int // 0 < j ∧ j ≤ 1000}) => A2 BagV (Is (.int j.1))) (fun j v _ => ∃ d : Nat, v = .int d ∧ (d : Int) < j.1)
theorem ok__law_take (T : Fx K mg) : Cal P w K mg base 1 "_law_take" (sp__law_take K) := by
  obtain ⟨fd, Fn⟩ := T.d__law_take
  refine ⟨fn_pos Fn sc__law_take (fun vs H Q E h => ?_) (fun _ _ _ _ _ _ us hl => match us, hl with | [_, _], _ => rfl) (fun cdv A outer s H vs Q E hr h => ?_), T.g__law_take, Fn.kp⟩
  · obtain ⟨_, _, _, ⟨_, _, rfl, _⟩, _⟩ := h
    rfl
  · obtain ⟨⟨j, hj1, hj2⟩, S, hS, ⟨va, vb, rfl, ⟨p, l, ns, rfl, hp, hl, hn⟩, rfl⟩, k⟩ := h
    refine ⟨_, pss_open (pss_cons (ps_if (pt_cmpR op_eq (pe_ix (r := rIxL K) ix_list (pv 0) pe_int (fun _ _ => rfl)) pe_int (nomark _)) (pss_cons (ps_set (i := 2) sc__law_take.nd rfl
        (by first | exact Or.inl rfl | exact Or.inr rfl) pe_int) (pss_cons (ps_if (pt_cmpR op_lt (pe_ix (r := rIxL K) ix_list (pv 0) pe_int (fun _ _ => rfl)) (pe_callB (r := rLn K) call_len rfl
        T.b_len bt_len (pa_cons (pe_ix (r := rIxL K) ix_list (pv 0) pe_int (fun _ _ => rfl)) pa_nil)) (nomark _)) (pss_one (ps_set (i := 2) sc__law_take.nd rfl
        (by first | exact Or.inl rfl | exact Or.inr rfl) (pe_ix (r := rIxL K) ix_list (pe_ix (r := rIxL K) ix_list (pv 0) pe_int (fun _ _ => rfl)) (pe_ix (r := rIxL K) ix_list (pv 0) pe_int (fun _ _
        => rfl)) (fun _ _ => rfl)))) pss_nil) (pss_cons (ps_augS (pv 0) pe_int get_list pe_int ip_add set_list) (pss_cons (ps_if (pt_cmpR op_ge (pv 2) pe_int (nomark _)) (pss_one (ps_asg (pv 2)
        (pg_sub (pv 0) pe_int set_list))) pss_nil) (pss_cons (ps_set (i := 3) sc__law_take.nd rfl (by first | exact Or.inl rfl | exact Or.inr rfl) (pe_op op_add (pe_op op_add (pe_op op_mul (pe_ix (r
        := rIxL K) ix_list (pv 0) pe_int (fun _ _ => rfl)) pe_int) (pe_op op_mod (pe_callTy call_int1 rfl T.b_int bt_int (pa_cons (pv 2) pa_nil)) pe_int)) (pe_op op_mul pe_int (pe_ix (r := rIxL K)
        ix_list (pv 0) pe_int (fun _ _ => rfl))))) (pss_one (ps_asg (pe_op op_mod (pe_callTy call_int1 rfl T.b_int bt_int (pa_cons (pv 3) pa_nil)) pe_int) (pg_sub (pv 0) pe_int set_list))))))))
        pss_nil) (pss_cons (ps_if (pt_cmpR op_gt (pe_ix (r := rIxL K) ix_list (pv 0) pe_int (fun _ _ => rfl)) pe_int (nomark _)) (pss_cons (ps_set (i := 4) sc__law_take.nd rfl
        (by first | exact Or.inl rfl | exact Or.inr rfl) (pe_op op_mod (pe_callTy call_int1 rfl T.b_int bt_int (pa_cons (pe_ix (r := rIxL K) ix_list (pv 0) pe_int (fun _ _ => rfl)) pa_nil)) (pv 1)))
        (pss_cons (ps_asg (pe_op op_fdiv (pe_callTy call_int1 rfl T.b_int bt_int (pa_cons (pe_ix (r := rIxL K) ix_list (pv 0) pe_int (fun _ _ => rfl)) pa_nil)) (pv 1)) (pg_sub (pv 0) pe_int set_list))
        (pss_one (ps_ret (pv 4))))) pss_nil) (pss_cons (ps_set (i := 5) sc__law_take.nd rfl (by first | exact Or.inl rfl | exact Or.inr rfl) (pe_op op_mod (pe_callTy call_int1 rfl T.b_int bt_int
        (pa_cons (pe_op op_mul (pe_op op_add (pe_ix (r := rIxL K) ix_list (pv 0) pe_int (fun _ _ => rfl)) pe_int) pe_int) pa_nil)) pe_int)) (pss_cons (ps_set (i := 6) sc__law_take.nd rfl
        (by first | exact Or.inl rfl | exact Or.inr rfl) (pe_op op_mod (pe_callTy call_int1 rfl T.b_int bt_int (pa_cons (pe_op op_mul (pe_op op_mod (pe_callTy call_int1 rfl T.b_int bt_int (pa_cons
        (pe_op op_mul (pv 5) (pv 5)) pa_nil)) pe_int) pe_int) pa_nil)) pe_int)) (pss_one (ps_ret (pe_op op_mod (pe_callTy call_int1 rfl T.b_int bt_int (pa_cons (pe_op op_fdiv (pv 6) pe_int) pa_nil))
        (pv 1)))))))), ?_⟩
    have npl : l ≠ p := fun z => by
      rw [z, hp] at hl
      cases hl
    have ends : ∀ (a b c : Int) (d : Nat), 0 ≤ a → 0 ≤ b → 0 ≤ c → (d : Int) < j → BagN (upd H p (bagL a b c l)) p l ∧ Q (.int d) (upd (upd H p (bagL a b c l)) p (BagO l p)) := fun a b c d ha hb hc hd => by
      refine ⟨⟨a, b, c, ha, hb, hc, upd_same⟩, ?_⟩
      have e : upd (upd H p (bagL a b c l)) p (BagO l p) = H := by
        rw [upd_upd]
        funext x
        by_cases n : x = p
        · subst n
          rw [upd_same, hS _ _ hp]
        · rw [upd_ne n]
      rw [e]
      exact k _ _ _ (.refl hS) ⟨d, rfl, hd⟩
    refine ⟨p, l, hS _ _ hp, fun a b c ha hb hc => ?_⟩
    refine s_have (M := fun σ' H' => ∃ (a b c : Int) (x2 x3 x4 x5 x6 : Option V), 0 ≤ a ∧ 0 ≤ b ∧ 0 ≤ c ∧ σ' = [some (.ref p), some (.int j), x2, x3, x4, x5, x6] ∧ H' = upd H p (bagL a b c l)) ?_ fun rest => ?_
    · rintro σ' H' ⟨a, b, c, x2, x3, x4, x5, x6, ha, hb, hc, rfl, rfl⟩
      have bx : ∀ (i : Int) (v : V) {σ : L2.St}, σ[0]? = some (some (V.ref p)) → atI [V.int a, .int b, .int c, .ref l] i = some v → X1 (tOp (rIxL K) (tVar 0) (tC (.int i))) σ (upd H p (bagL a b c l)) v := fun i v σ h0 h => x_ix (x_var h0) x_cc upd_same h
      refine xs_if (x_0 (bx 0 (.int a) rfl rfl) x_cc) (fun h1 => ?_) fun h1 => ?_
      · refine xq_set (x_mod (x_int1 (bx 0 (.int a) rfl rfl)) (x_var rfl) hj1) ?_
        refine xs_put (x_div (x_int1 (bx 0 (.int a) rfl rfl)) (x_var rfl) ⟨hj1, by omega⟩) rfl upd_same (i := 0) (m := 0) rfl ?_
        rw [upd_upd]
        have hm := Int.emod_nonneg a (Int.ne_of_gt hj1)
        have := ends (a / j) b c (a % j).toNat (Int.ediv_nonneg ha (Int.le_of_lt hj1)) hb hc (by rw [Int.toNat_of_nonneg hm]; exact Int.emod_lt_of_pos a hj1)
        rw [Int.toNat_of_nonneg hm] at this
        exact ⟨_, rfl, this⟩
      · have cm : ∀ (x : Int), CMul x 39373 ∧ CMul x 30011 ∧ CMul x 48271 := fun x => ⟨.inr ⟨by decide, by decide⟩, .inr ⟨by decide, by decide⟩, .inr ⟨by decide, by decide⟩⟩
        refine xq_set (x_mod (x_int1 (x_mul (x_add (bx 1 (.int b) rfl rfl) x_cc) x_cc (cm _).1)) x_cc (by decide)) ?_
        have hb2 := Int.emod_nonneg ((b + 1) * 39373) (show (1000000007 : Int) ≠ 0 by decide)
        have hb3 := Int.emod_lt_of_pos ((b + 1) * 39373) (show (0 : Int) < 1000000007 by decide)
        generalize ((b + 1) * 39373) % 1000000007 = y at *
        refine xq_set (x_mod (x_int1 (x_mul (x_mod (x_int1 (x_mul (i := y) (j := y) (x_var rfl) (x_var rfl) (.inl ⟨by omega, by omega⟩))) x_cc (by decide)) x_cc (cm _).2.1)) x_cc (by decide)) ?_
        have hz2 := Int.emod_nonneg (y * y % 998244353 * 30011) (show (998244353 : Int) ≠ 0 by decide)
        generalize y * y % 998244353 * 30011 % 998244353 = z at *
        have h7 : (0 : Int) ≤ z / 7 := Int.ediv_nonneg hz2 (by decide)
        have hm := Int.emod_nonneg (z / 7) (Int.ne_of_gt hj1)
        have := ends a b c (z / 7 % j).toNat ha hb hc (by rw [Int.toNat_of_nonneg hm]; exact Int.emod_lt_of_pos _ hj1)
        rw [Int.toNat_of_nonneg hm] at this
        exact x_mod (x_int1 (x_div (i := z) (x_var rfl) x_cc ⟨by decide, by decide⟩)) (x_var rfl) hj1 _ this
    · have bx : ∀ (a b c : Int) (i : Int) (v : V) {σ : L2.St}, σ[0]? = some (some (V.ref p)) → atI [V.int a, .int b, .int c, .ref l] i = some v → X1 (tOp (rIxL K) (tVar 0) (tC (.int i))) σ (upd H p (bagL a b c l)) v := fun a b c i v σ h0 h => x_ix (x_var h0) x_cc upd_same h
      have hlH : ∀ a b c, upd H p (bagL a b c l) l = some (.lst (ns.map V.int)) := fun a b c => by
        rw [upd_ne npl]
        exact hS _ _ hl
      refine xs_if (x_eq (bx a b c 0 (.int a) rfl rfl) x_cc) (fun h1 => ?_) fun h1 => rest _ _ ⟨a, b, c, _, _, _, _, _, ha, hb, hc, rfl, rfl⟩
      refine xq_set x_cc ?_
      refine s_have (M := fun σ' H' => ∃ x2 : Int, 0 ≤ x2 ∧ σ' = [some (.ref p), some (.int j), some (.int x2), none, none, none, none] ∧ H' = upd H p (bagL a b c l)) ?_ fun rest2 => ?_
      · rintro σ' H' ⟨x2, h2, rfl, rfl⟩
        refine xs_aug (K := K) (j := 1) (p := p) (xs := [V.int a, .int b, .int c, .ref l]) (m := 2) (z := c) x_cc rfl upd_same (by decide) rfl rfl ?_
        rw [upd_upd]
        dsimp only
        refine s_have (M := fun σ' H' => ∃ a' : Int, 0 ≤ a' ∧ σ' = [some (.ref p), some (.int j), some (.int x2), none, none, none, none] ∧ H' = upd H p (bagL a' b (c + 1) l)) ?_ fun rest3 => ?_
        · rintro σ' H' ⟨a', ha', rfl, rfl⟩
          have hc1 : 0 ≤ c + 1 := by omega
          refine xq_set (x_add (i := b * 48271 + x2 % 2147483647) (j := 7919 * (c + 1)) (x_add (i := b * 48271) (j := x2 % 2147483647) (x_mul (i := b) (j := 48271) (bx a' b (c + 1) 1 (.int b) rfl rfl) x_cc (.inr ⟨by decide, by decide⟩)) (x_mod (i := x2) (j := 2147483647) (x_int1 (i := x2) (x_var (n := 2) (σ := [some (.ref p), some (.int j), some (.int x2), none, none, none, none]) rfl)) x_cc (by decide))) (x_mul (i := 7919) (j := c + 1) x_cc (bx a' b (c + 1) 2 (.int (c + 1)) (σ := [some (.ref p), some (.int j), some (.int x2), none, none, none, none]) rfl rfl) (.inl ⟨by decide, by decide⟩))) ?_
          generalize b * 48271 + x2 % 2147483647 + 7919 * (c + 1) = y
          refine xs_put (x_mod (x_int1 (i := y) (x_var rfl)) x_cc (by decide)) rfl upd_same (i := 1) (m := 1) rfl ?_
          rw [upd_upd]
          exact rest _ _ ⟨a', y % 2147483647, c + 1, _, _, _, _, _, ha', Int.emod_nonneg y (by decide), hc1, rfl, rfl⟩
        · refine xs_if (x_0 (g := fun i j => .bl (decide (j ≤ i))) (i := x2) (j := 1000000000000000000) (x_var rfl) x_cc) (fun h3 => ?_) fun h3 => rest3 _ _ ⟨a, ha, rfl, rfl⟩
          refine xs_put (x_var (v := .int x2) rfl) rfl upd_same (i := 0) (m := 0) rfl ?_
          rw [upd_upd]
          exact rest3 _ _ ⟨x2, h2, rfl, rfl⟩
      · refine xs_if (x_0 (bx a b c 2 (.int c) rfl rfl) (x_len (bx a b c 3 (.ref l) rfl rfl) (hlH a b c))) (fun h2 => ?_) fun h2 => rest2 _ _ ⟨0, by decide, rfl, rfl⟩
        have h2 : c < ((ns.map V.int).length : Int) := of_decide_eq_true h2
        rw [List.length_map] at h2
        have hci : (c.toNat : Int) = c := Int.toNat_of_nonneg hc
        have hn1 : ns[c.toNat]? = some (ns[c.toNat]'(by omega)) := List.getElem?_eq_getElem _
        refine xs_set (x_ix (v := .int (ns[c.toNat]'(by omega))) (bx a b c 3 (.ref l) rfl rfl) (bx a b c 2 (.int c) rfl rfl) (hlH a b c) ?_) (rest2 _ _ ⟨_, hn _ (List.getElem_mem _), rfl, rfl⟩)
        unfold atI ixN
        rw [if_pos hc, List.length_map, if_pos h2]
        show (ns.map V.int)[c.toNat]? = _
        rw [List.getElem?_map, hn1]
        rfl
end
end NK
end

section
set_option Elab.async false
set_option linter.all false
set_option maxRecDepth 100000
set_option maxHeartbeats 400000
namespace NK
open PySem PySem.Spec L2
open PyProof.Rows hiding St
section
variable {P : Program} {w : World} {K : PySem.W.Frag} {mg : Str → Option Value} {base : Heap}
/-- a number below j -/
def LtV (j : Int) : Rel := fun v _ => ∃ d : Nat, v = .int d ∧ (d : Int) < j
theorem up_lt {j : Int} : Up (LtV j) := fun v H H' e h => h
/-- the bag's next number -/
theorem g_take {σ : L2.St} {S : Hp} {ta tb : TE} {j : Int} (ha : G ta σ S BagV) (hb : G tb σ S (Is (.int j))) (h0 : 0 < j) (h1 : j ≤ 1000) : G (tF (sp__law_take K) (tCons ta (tCons tb tNil))) σ S (LtV j) :=
  g_call (R := fun (j : {j : Int // 0 < j ∧ j ≤ 1000}) v _ => ∃ d : Nat, v = .int d ∧ (d : Int) < j.1) (a := (⟨j, h0, h1⟩ : {j : Int // 0 < j ∧ j ≤ 1000})) (ga_two ha up_bag hb)
theorem atI_natL {α : Type} {xs : List α} {d : Nat} (h : d < xs.length) : atI xs (d : Int) = some xs[d] := by
  have e : ixN xs.length (d : Int) = some d := by
    unfold ixN
    rw [if_pos (by omega), if_pos (by omega)]
    rfl
  unfold atI
  rw [e]
  exact List.getElem?_eq_getElem h
/-- l[a number below its length] -/
theorem g_ixAny {σ : L2.St} {S : Hp} {ta tb : TE} {ds : List PyData} (ha : G ta σ S (D K (.list ds))) (hb : G tb σ S (LtV ds.length)) : G (tOp (rIxL K) ta tb) σ S (fun v S => ∃ d ∈ ds, Dp K S v d) :=
  g_op ha .d hb fun x y S1 H1 _ c hx hy Q q => by
    obtain ⟨d, rfl, hd⟩ := hy
    obtain ⟨p, xs, rfl, h1, h2⟩ := Dp.lstI hx
    have hl := DpAll.len h2
    have hd2 : d < xs.length := by omega
    obtain ⟨e, h3, h4⟩ := DpAll.get h2 (List.getElem?_eq_getElem hd2)
    exact ⟨p, xs, d, _, rfl, rfl, Same.sqL c h1, atI_natL hd2, q _ S1 H1 (.refl c) ⟨e, List.mem_of_getElem? h3, h4⟩⟩
abbrev rIns : V → List V → Hp → VK → Prop := fun x vs H Q => ∃ (l : Addr) (xs : List V) (i : Int) (y : V), x = .ref l ∧ vs = [.int i, y] ∧ H l = some (.lst xs) ∧ xs.length < sizeLine ∧ 0 ≤ i ∧ i < 2 ^ 63 ∧
  Q .non (upd H l (.lst (xs.take i.toNat ++ [y] ++ xs.drop i.toNat)))
/-- l.insert(a number, x) -/
theorem s_ins {σ : L2.St} {S H : Hp} {ta : TE} {i j : Nat} {l : Addr} {ys : List V} {x : V} {E : Ends} (hl : σ[i]? = some (some (.ref l))) (hx : σ[j]? = some (some x)) (ha : G ta σ (upd S l (.lst ys)) (LtV (ys.length + 1))) (b : Same S H) (hL : H l = some (.lst ys)) (hs : S l = none) (hz : ys.length ≤ 1000)
    (k : ∀ d S1 H1, Gw S H S1 H1 → S1 l = none → d ≤ ys.length → H1 l = some (.lst ys) → E.nx σ (upd H1 l (.lst (ys.take d ++ [x] ++ ys.drop d)))) : tDrop (tBM K "list" rIns (tVar i) (tCons ta (tCons (tVar j) tNil))) E σ H :=
  ⟨.ref l, hl, .inl ⟨rfl, ys, SqL.of hL⟩, ha (upd S l (.lst ys)) H (Same.refl _) (lend b hL) _ fun v S1 H1 e ⟨d, ev, hd⟩ => by
    have e' := e.lent hs
    have h1 := e'.hh _ _ hL
    refine ⟨x, hx, l, ys, d, x, rfl, by rw [ev], h1, Nat.lt_of_le_of_lt hz (by decide), by omega, by omega, ?_⟩
    exact k d _ H1 e' del_same (by omega) h1⟩
theorem ins_perm {α : Type} (ys : List α) (d : Nat) (x : α) : (ys.take d ++ [x] ++ ys.drop d).Perm (x :: ys) := by
  have h : (ys.take d ++ [x]).Perm (x :: ys.take d) := List.perm_append_comm
  have h2 := h.append_right (ys.drop d)
  rw [List.cons_append, List.take_append_drop] at h2
  exact h2
abbrev n__law_one : List Str := ["_law_bag_here", "_law_some"]
theorem sc__law_one : FnScope n__law_one ["_law_bag_here", "_law_some"] (defScope s__law_one) := ⟨rfl, rfl, rfl, by decide +kernel, rfl, by decide +kernel, by decide +kernel⟩
abbrev sp__law_one (K : PySem.W.Frag) : Sp := Pu (fun (ds : {ds : List PyData // 0 < ds.length ∧ ds.length ≤ 1000}) => A2 BagV (D K (.list ds.1))) (fun ds v S => ∃ d ∈ ds.1, Dp K S v d)
theorem ok__law_one (T : Fx K mg) : Cal P w K mg base 2 "_law_one" (sp__law_one K) := by
  obtain ⟨fd, Fn⟩ := T.d__law_one
  refine ⟨fn_pos Fn sc__law_one (fun vs H Q E h => ?_) (fun _ _ _ _ _ _ us hl => match us, hl with | [_, _], _ => rfl) (fun cdv A outer s H vs Q E hr h => ?_), T.g__law_one, Fn.kp⟩
  · obtain ⟨_, _, _, ⟨_, _, rfl, _⟩, _⟩ := h
    rfl
  · obtain ⟨⟨ds, hd0, hd1⟩, S, hS, ⟨va, vb, rfl, hb, hv⟩, k⟩ := h
    have hd0 : 0 < ds.length := hd0
    have hd1 : ds.length ≤ 1000 := hd1
    refine ⟨_, pss_one (ps_ret (pe_ix (r := rIxL K) ix_list (pv 1) (pe_f ((ok__law_take T).mono (by decide : 1 ≤ 1)) (hr.mono (by decide)) (pa_cons (pv 0) (pa_cons (pe_callB (r := rLn K) call_len rfl T.b_len
        bt_len (pa_cons (pv 1) pa_nil)) pa_nil))) (fun _ _ => rfl))), ?_⟩
    exact s_ret (R := fun v S => ∃ d ∈ ds, Dp K S v d) (g_ixAny (g_var rfl hv .d) (g_take (g_var rfl hb up_bag) (g_lenL (g_var rfl hv .d)) (by omega) (by omega))) hS k
abbrev n__law_mixed : List Str := ["_law_bag_here", "_law_things", "_law_found", "_law_thing"]
theorem sc__law_mixed : FnScope n__law_mixed ["_law_bag_here", "_law_things"] (defScope s__law_mixed) := ⟨rfl, rfl, rfl, by decide +kernel, rfl, by decide +kernel, by decide +kernel⟩
abbrev sp__law_mixed (K : PySem.W.Frag) : Sp := Pu (fun (ds : {ds : List PyData // ds.length ≤ 100}) => A2 BagV (D K (.list ds.1))) (fun ds v S => ∃ es, es.Perm ds.1 ∧ L0 K es v S)
theorem ok__law_mixed (T : Fx K mg) : Cal P w K mg base 2 "_law_mixed" (sp__law_mixed K) := by
  obtain ⟨fd, Fn⟩ := T.d__law_mixed
  refine ⟨fn_pos Fn sc__law_mixed (fun vs H Q E h => ?_) (fun _ _ _ _ _ _ us hl => match us, hl with | [_, _], _ => rfl) (fun cdv A outer s H vs Q E hr h => ?_), T.g__law_mixed, Fn.kp⟩
  · obtain ⟨_, _, _, ⟨_, _, rfl, _⟩, _⟩ := h
    rfl
  · obtain ⟨⟨ds, hd1⟩, S, hS, ⟨va, vb, rfl, hb, hv⟩, k⟩ := h
    have hd1 : ds.length ≤ 100 := hd1
    refine ⟨_, pss_cons (ps_set (i := 2) sc__law_mixed.nd rfl (by first | exact Or.inl rfl | exact Or.inr rfl) (pe_lst pa_nil)) (pss_cons (ps_for PassesOwn.never rfl (pi_listK (K := K) (pv 1)) (pg_name (i :=
        3) sc__law_mixed.nd rfl (by first | exact Or.inl rfl | exact Or.inr rfl)) (pss_one (ps_expr (pe_bm PySem.F.plainAttrs_list PySem.F.slot_list_insert PySem.F.type_list_insert mt_insert (pv 2)
        (pa_cons (pe_f ((ok__law_take T).mono (by decide : 1 ≤ 1)) (hr.mono (by decide)) (pa_cons (pv 0) (pa_cons (pe_op op_add (pe_callB (r := rLn K) call_len rfl T.b_len bt_len (pa_cons (pv 2)
        pa_nil)) pe_int) pa_nil))) (pa_cons (pv 3) pa_nil)))))) (pss_one (ps_ret (pv 2)))), ?_⟩
    refine q_newL (.refl hS) fun p H1 hp g1 hSp hH1 => ?_
    refine q_for (gi_list (ds := ds) (g_var rfl hv .d)) g1.sh fun S2 H2 e2 => ⟨fun i σ' S' H' => (Gw S H S' H' ∧ Same S2 S') ∧ (∃ x, σ' = [some va, some vb, some (.ref p), x]) ∧ S' p = none ∧ ∃ ws es, H' p = some (.lst ws) ∧ DpAll K S' ws es ∧ es.Perm (ds.take i),
      ⟨⟨g1.trans e2, Same.refl _⟩, ⟨_, rfl⟩, e2.none hSp hH1, [], [], e2.hh _ _ hH1, .nil, .refl _⟩, fun i σ' S' H' h => ⟨h.1.2, h.1.1.sh⟩, ?_, ?_⟩
    · rintro i d x σ' S3 H3 S4 H4 hx ⟨⟨g3, s3⟩, ⟨y, rfl⟩, hp3, ws, es, h1, h2, h3⟩ e4 rx
      have h2' := DpAll.up e4.ss h2
      have hl2 := DpAll.len h2
      have hi : es.length ≤ 100 := by
        rw [h3.length_eq, List.length_take]
        omega
      have hp4 := e4.none hp3 h1
      refine s_ins (ys := ws) (x := x) rfl rfl ?_ e4.sh (e4.hh _ _ h1) hp4 (by omega) fun d' S5 H5 g5 hs5 hd5 h5 => ?_
      · rw [hl2]
        refine g_take (g_var rfl (up_bag _ _ _ (e2.ss.trans (s3.trans (e4.ss.trans (Same.new hp4)))) hb) up_bag) (g_I0 (i := (es.length : Int)) (g_lenL (g_var (R := D K (.list es)) rfl (.lst (SqL.of upd_same) (dall_new h2' hp4)) .d)) g_c) (by omega) (by omega)
      · have g6 : Gw S H S5 (upd H5 p (.lst (ws.take d' ++ [x] ++ ws.drop d'))) := ((g3.trans e4).trans g5).wr hp hs5
        have h25 := DpAll.up g5.ss h2'
        have e5 : ds.take (i + 1) = ds.take i ++ [d] := by
          rw [List.take_add_one, hx]
          rfl
        refine ⟨S5, ⟨g6, (s3.trans e4.ss).trans g5.ss⟩, ⟨_, rfl⟩, hs5, _, es.take d' ++ [d] ++ es.drop d', upd_same, DpAll.app (DpAll.app (DpAll.take d' h25) (.cons (Dp.up g5.ss rx) .nil)) (DpAll.drop d' h25), ?_⟩
        rw [e5]
        exact (ins_perm es d' d).trans ((h3.cons d).trans (List.perm_append_comm (l₁ := [d])))
    · rintro σ' S3 H3 ⟨⟨g3, s3⟩, ⟨y, rfl⟩, hp3, ws, es, h1, h2, h3⟩
      rw [List.take_length] at h3
      exact ⟨.ref p, rfl, k _ _ _ (g3.frz hp hp3 h1) ⟨es, h3, p, ws, rfl, upd_same, DpAll.up (Same.new hp3) h2⟩⟩
end
end NK
end

section
set_option Elab.async false
set_option linter.all false
set_option maxRecDepth 100000
set_option maxHeartbeats 400000
namespace NK
open PySem PySem.Spec L2
open PyProof.Rows hiding St
/-! ### results that are not told -/
section
variable {K : PySem.W.Frag} {σ : L2.St} {S H S0 H0 : Hp} {ta tb te : TE} {tt tu : TT} {α β : Type} {E : Ends} {u ts tz : TS}
theorem perm_map {f : α → β} {es ms : List β} (h : es.Perm ms) : ∀ l : List α, ms = l.map f → ∃ l' : List α, l'.Perm l ∧ es = l'.map f := by
  induction h with
  | nil => intro l e; exact ⟨l, .refl _, e⟩
  | cons x _ ih =>
    intro l e
    match l, e with
    | a :: l, e =>
      obtain ⟨h1, h2⟩ := List.cons.inj e
      obtain ⟨l', h3, h4⟩ := ih l h2
      exact ⟨a :: l', h3.cons a, by rw [h1, h4]; rfl⟩
  | swap x y l0 =>
    intro l e
    match l, e with
    | a :: b :: l, e =>
      obtain ⟨h1, h2⟩ := List.cons.inj e
      obtain ⟨h3, h4⟩ := List.cons.inj h2
      exact ⟨b :: a :: l, .swap a b l, by rw [h1, h3, h4]; rfl⟩
  | trans _ _ ih1 ih2 =>
    intro l e
    obtain ⟨l1, h1, h2⟩ := ih2 l e
    obtain ⟨l2, h3, h4⟩ := ih1 l1 h2
    exact ⟨l2, h3.trans h1, h4⟩
/-- a test that may go either way -/
def GTx (tt : TT) (σ : L2.St) (S : Hp) : Prop := ∀ S1 H1, Same S S1 → Same S1 H1 → ∀ Q : Bool → Hp → Prop, (∀ c S2 H2, Gw S1 H1 S2 H2 → Q c H2) → tt σ H1 Q
theorem gtx_eq {j n : Int} (h : G te σ S (LtV j)) : GTx (tTest (tOp rEq te (tC (.int n)))) σ S := fun S1 H1 e b Q q => h S1 H1 e b _ fun v S2 H2 e2 ⟨d, ev, _⟩ => by
  subst ev
  exact ⟨rfl, _, rfl, q _ S2 H2 e2⟩
theorem gtx_gt {j n : Int} (h : G te σ S (LtV j)) : GTx (tTest (tOp (rI0 fun i j => .bl (decide (j < i))) te (tC (.int n)))) σ S := fun S1 H1 e b Q q => h S1 H1 e b _ fun v S2 H2 e2 ⟨d, ev, _⟩ => by
  subst ev
  exact ⟨d, n, rfl, rfl, _, rfl, q _ S2 H2 e2⟩
theorem s_ifx (h : GTx tt σ S) (e : Gw S0 H0 S H) (k1 : ∀ S1 H1, Gw S0 H0 S1 H1 → Same S S1 → ts E σ H1) (k2 : ∀ S1 H1, Gw S0 H0 S1 H1 → Same S S1 → tz E σ H1) : tIfS tt ts tz E σ H :=
  h S H (Same.refl S) e.sh _ fun c S1 H1 e1 => by
    cases c with
    | true => exact k1 S1 H1 (e.trans e1) e1.ss
    | false => exact k2 S1 H1 (e.trans e1) e1.ss
def GIx {γ : Type} (wi : TI) (σ : L2.St) (S : Hp) (P : γ → Prop) (xs : γ → List α) (RI : α → Rel) : Prop :=
  ∀ S1 H1, Same S S1 → Same S1 H1 → ∀ R : It → Hp → Prop, (∀ b J S2 H2, P b → Gw S1 H1 S2 H2 → Wk J S2 (xs b) RI → R J H2) → wi σ H1 R
theorem q_forX {γ : Type} {wi : TI} {g : TG} {tb' : TS} {P : γ → Prop} {xs : γ → List α} {RI : α → Rel} (h : GIx wi σ S P xs RI) (b : Same S H)
    (k : ∀ c, P c → ∀ S1 H1, Gw S H S1 H1 → ∃ Pv : Nat → L2.St → Hp → Hp → Prop, Pv 0 σ S1 H1 ∧ (∀ i σ' S' H', Pv i σ' S' H' → Same S1 S' ∧ Same S' H') ∧
      (∀ i a x σ' S0 H0 S' H', (xs c)[i]? = some a → Pv i σ' S0 H0 → Gw S0 H0 S' H' → RI a x S' → g x σ' H' fun σ2 H2 => tb' { E with nx := fun σ3 H3 => ∃ S3, Pv (i + 1) σ3 S3 H3, ct := fun σ3 H3 => ∃ S3, Pv (i + 1) σ3 S3 H3, bk := u E } σ2 H2) ∧
      ∀ σ' S' H', Pv (xs c).length σ' S' H' → u E σ' H') : tSeq (tFor wi g tb') u E σ H := by
  refine h S H (Same.refl S) b _ fun c J S1 H1 pc e1 w => ?_
  obtain ⟨Pv, p0, hg, hs, hd⟩ := k c pc S1 H1 e1
  refine for_it w (fun i σ' H' => ∃ S', Pv i σ' S' H') ⟨S1, p0⟩ (fun i σ' H' _ ⟨S', p⟩ => (hg i σ' S' H' p).1.trans (hg i σ' S' H' p).2) (fun i x σ' H0 H' hi ⟨S0, p⟩ hy => ?_) fun σ' H' ⟨S', p⟩ => hd σ' S' H' p
  obtain ⟨S', g', a, ha, ri⟩ := hy S0 (hg i σ' S0 H0 p).1 (hg i σ' S0 H0 p).2
  exact hs i a x σ' S0 H0 S' H' ha p g' ri
theorem gix_range {j : Int} (h : G te σ S (LtV j)) (hj : j ≤ 1000) : GIx (iRng1 (tCons te tNil)) σ S (fun n : Nat => (n : Int) < j) (fun n => List.range n) (fun i => Is (.int (i : Nat))) := fun S1 H1 e b R q => h S1 H1 e b _ fun v S2 H2 e2 ⟨n, ev, hn⟩ => by
  subst ev
  exact gi_range1 (σ := σ) (te := tC (.int n)) (n := n) (fun S1 H1 e b Q q => q _ S1 H1 (.refl b) rfl) (by omega) S2 H2 (Same.refl _) e2.sh R fun J S3 H3 e3 w => q n J S3 H3 hn (e2.trans e3) w
/-- 1 + a number -/
theorem g_take1 {j : Int} (h : G te σ S (LtV j)) : G (tOp (rI0 fun i j => .int (i + j)) (tC (.int 1)) te) σ S (fun v _ => ∃ i : Nat, v = .int i ∧ 1 ≤ i ∧ (i : Int) ≤ j) := fun S1 H1 e b Q q => h S1 H1 e b _ fun v S2 H2 e2 ⟨d, ev, hd⟩ => by
  subst ev
  exact ⟨1, d, rfl, rfl, q _ S2 H2 e2 ⟨1 + d, by push_cast; rfl, by omega, by omega⟩⟩
/-- some of a row, as far as a number -/
abbrev SomeL (K : PySem.W.Frag) (enc : α → PyData) (P : List α → Prop) : Rel := fun v S => ∃ ys : List α, P ys ∧ L0 K (ys.map enc) v S
theorem g_mixed {enc : α → PyData} {xs : List α} (ha : G ta σ S BagV) (hb : G tb σ S (D K (.list (xs.map enc)))) (hl : xs.length ≤ 100) : G (tF (sp__law_mixed K) (tCons ta (tCons tb tNil))) σ S (SomeL K enc fun ys => ys.Perm xs) :=
  (g_call (R := fun (ds : {ds : List PyData // ds.length ≤ 100}) v S => ∃ es, es.Perm ds.1 ∧ L0 K es v S) (a := (⟨xs.map enc, by rw [List.length_map]; exact hl⟩ : {ds : List PyData // ds.length ≤ 100})) (ga_two ha up_bag hb)).imp fun v S _ ⟨es, h1, h2⟩ => by
    obtain ⟨ys, h3, rfl⟩ := perm_map h1 xs rfl
    exact ⟨ys, h3, h2⟩
theorem sl_some {enc : α → PyData} {P : List α → Prop} {Qp : Nat → Prop} (ha : G ta σ S (SomeL K enc P)) (hb : G tb σ S (fun v _ => ∃ i : Nat, v = .int i ∧ Qp i)) (e : Same S S0) (b : Same S0 H0) {Q : VK}
    (q : ∀ ys i p ws S1 H1, P ys → Qp i → Gw S0 H0 S1 H1 → H1 p = none → DpAll K S1 ws ((ys.take i).map enc) → Q (.ref p) (upd H1 p (.lst ws))) : tSl (rSlL K) ta tNoPart (tPart tb) σ H0 Q :=
  ha S0 H0 e b _ fun x S2 H2 e2 ⟨ys, hP, l, vs, ex, h1, h2⟩ => hb S2 H2 (e.trans e2.ss) e2.sh _ fun y S3 H3 e3 ⟨i, hy, hQ⟩ => by
    refine ⟨i, hy, l, vs, ex, Same.sqL (e3.ss.trans e3.sh) (SqL.of h1), fun p hp => ?_⟩
    refine q ys i p _ S3 H3 hP hQ (e2.trans e3) hp ?_
    rw [cut_hi, List.map_take]
    exact DpAll.take i (DpAll.up e3.ss h2)
theorem g_slX {enc : α → PyData} {P : List α → Prop} {Qp : Nat → Prop} (ha : G ta σ S (SomeL K enc P)) (hb : G tb σ S (fun v _ => ∃ i : Nat, v = .int i ∧ Qp i)) : G (tSl (rSlL K) ta tNoPart (tPart tb)) σ S (SomeL K enc fun zs => ∃ ys i, P ys ∧ Qp i ∧ zs = ys.take i) := fun S1 H1 e b Q q =>
  sl_some ha hb e b fun ys i p ws S2 H2 hP hQ e2 hp hd => q _ _ _ (e2.trans (Gw.new e2.sh hp)) ⟨_, ⟨ys, i, hP, hQ, rfl⟩, p, ws, rfl, upd_same, dall_new hd (e2.sh.free hp)⟩
theorem q_slM {enc : α → PyData} {P : List α → Prop} {Qp : Nat → Prop} {n : Nat} (ha : G ta σ S (SomeL K enc P)) (hb : G tb σ S (fun v _ => ∃ i : Nat, v = .int i ∧ Qp i)) (b : Same S H)
    (k : ∀ ys i p ws S1 H1, P ys → Qp i → Gw S H S1 H1 → H p = none → S1 p = none → H1 p = some (.lst ws) → DpAll K S1 ws ((ys.take i).map enc) → u E (σ.set n (some (.ref p))) H1) : tSeq (tAsg (tSl (rSlL K) ta tNoPart (tPart tb)) (gName n)) u E σ H :=
  sl_some ha hb (Same.refl S) b fun ys i p ws S2 H2 hP hQ e2 hp hd => k ys i p ws S2 _ hP hQ (e2.trans (Gw.mut e2.sh hp)) (e2.free hp) (e2.sh.free hp) upd_same hd
theorem g_tupOfX {enc : α → PyData} {P : List α → Prop} (h : G te σ S (SomeL K enc P)) : G (tCB (rTupOf K) (tCons te tNil)) σ S (fun v S => ∃ ys : List α, P ys ∧ Dp K S v (.tuple (ys.map enc))) :=
  g_cb (ga_one h) fun vs S1 H1 _ c ⟨v, e, ys, hP, a, xs, ev, e2, h2⟩ Q q => by
    subst ev
    exact ⟨a, xs, e, .inl ⟨SqL.of (c _ _ e2), fun l hl => q _ _ _ (Gw.new c hl) ⟨ys, hP, .tup (SqT.of upd_same) (dall_new h2 (c.free hl))⟩⟩⟩
end
/-- some names -/
structure NmOk (cs : List Str) : Prop where
  nd : cs.Nodup
  mem : ∀ c ∈ cs, c ∈ menu
  lo : 1 ≤ cs.length
theorem NmOk.hi {cs : List Str} (h : NmOk cs) : cs.length ≤ 12 := sub_len h.nd h.mem
theorem NmOk.perm {cs ds : List Str} (h : NmOk cs) (p : ds.Perm cs) : NmOk ds := ⟨p.nodup_iff.mpr h.nd, fun c hc => h.mem c (p.mem_iff.mp hc), by rw [p.length_eq]; exact h.lo⟩
theorem NmOk.take {cs : List Str} {i : Nat} (h : NmOk cs) (h1 : 1 ≤ i) : NmOk (cs.take i) := ⟨h.nd.sublist (List.take_sublist _ _), fun c hc => h.mem c (List.mem_of_mem_take hc), by rw [List.length_take]; have := h.lo; omega⟩
theorem nmOk_menu : NmOk menu := ⟨by decide, fun c h => h, by decide⟩
theorem srt_ok {cs : List Str} (nd : cs.Nodup) (mem : ∀ c ∈ cs, c ∈ menu) : ColsOk (srtS cs) := ⟨fun c hc => mem c ((srtS_perm cs).mem_iff.mp hc), (srtS_perm cs).nodup_iff.mpr nd⟩
section
variable {P : Program} {w : World} {K : PySem.W.Frag} {mg : Str → Option Value} {base : Heap}
abbrev n__law_names : List Str := ["_law_bag_here", "_law_many", "_law_menu"]
theorem sc__law_names : FnScope n__law_names ["_law_bag_here", "_law_many"] (defScope s__law_names) := ⟨rfl, rfl, rfl, by decide +kernel, rfl, by decide +kernel, by decide +kernel⟩
abbrev sp__law_names (K : PySem.W.Frag) : Sp := Pu (fun (j : {j : Nat // 1 ≤ j ∧ j ≤ 12}) => A2 BagV (Is (.int (j.1 : Nat)))) (fun _ => SomeL K .str NmOk)
theorem ok__law_names (T : Fx K mg) : Cal P w K mg base 3 "_law_names" (sp__law_names K) := by
  obtain ⟨fd, Fn⟩ := T.d__law_names
  refine ⟨fn_pos Fn sc__law_names (fun vs H Q E h => ?_) (fun _ _ _ _ _ _ us hl => match us, hl with | [_, _], _ => rfl) (fun cdv A outer s H vs Q E hr h => ?_), T.g__law_names, Fn.kp⟩
  · obtain ⟨_, _, _, ⟨_, _, rfl, _⟩, _⟩ := h
    rfl
  · obtain ⟨⟨j, hj1, hj2⟩, S, hS, ⟨va, vb, rfl, hb, hv⟩, k⟩ := h
    refine ⟨_, pss_cons (ps_set (i := 2) sc__law_names.nd rfl (by first | exact Or.inl rfl | exact Or.inr rfl) (pe_lst (pa_cons pe_str (pa_cons pe_str (pa_cons pe_str (pa_cons pe_str (pa_cons pe_str (pa_cons
        pe_str (pa_cons pe_str (pa_cons pe_str (pa_cons pe_str (pa_cons pe_str (pa_cons pe_str (pa_cons pe_str pa_nil)))))))))))))) (pss_one (ps_ret (pe_slice (r := rSlL K) sl_list (pe_f
        ((ok__law_mixed T).mono (by decide : 2 ≤ 2)) (hr.mono (by decide)) (pa_cons (pv 0) (pa_cons (pv 2) pa_nil))) po_none (po_some (pv 1))))), ?_⟩
    refine q_set (R := D K (.list (menu.map .str))) (g_lst (ds := menu.map .str) ?_ (by decide)) (.refl hS) fun v S1 H1 e1 s1 dm => ?_
    · repeat first | exact ga_d0 | refine ga_dc (g_dStr g_c) ?_
    refine s_retK (R := SomeL K .str NmOk) ((g_slX (enc := PyData.str) (Qp := fun i => i = j) (g_mixed (xs := menu) (g_var rfl (up_bag _ _ _ s1 hb) up_bag) (g_var rfl dm .d) (by decide)) (g_var (R := fun v _ => ∃ i : Nat, v = .int i ∧ i = j) rfl ⟨j, hv, rfl⟩ fun _ _ _ _ h => h)).imp ?_) e1 k
    rintro v S2 _ ⟨zs, ⟨ys, i, hp, rfl, rfl⟩, h⟩
    exact ⟨_, (nmOk_menu.perm hp).take hj1, h⟩
abbrev n__law_index : List Str := ["_law_bag_here", "_law_names_here"]
theorem sc__law_index : FnScope n__law_index ["_law_bag_here", "_law_names_here"] (defScope s__law_index) := ⟨rfl, rfl, rfl, by decide +kernel, rfl, by decide +kernel, by decide +kernel⟩
abbrev sp__law_index (K : PySem.W.Frag) : Sp := Pu (fun (cs : {cs : List Str // NmOk cs}) => A2 BagV (D K (.list (cs.1.map .str)))) (fun _ v S => ∃ r, IxOk r ∧ D K (encC r) v S)
theorem ok__law_index (T : Fx K mg) : Cal P w K mg base 3 "_law_index" (sp__law_index K) := by
  obtain ⟨fd, Fn⟩ := T.d__law_index
  refine ⟨fn_pos Fn sc__law_index (fun vs H Q E h => ?_) (fun _ _ _ _ _ _ us hl => match us, hl with | [_, _], _ => rfl) (fun cdv A outer s H vs Q E hr h => ?_), T.g__law_index, Fn.kp⟩
  · obtain ⟨_, _, _, ⟨_, _, rfl, _⟩, _⟩ := h
    rfl
  · obtain ⟨⟨cs, hc⟩, S, hS, ⟨va, vb, rfl, hb, hv⟩, k⟩ := h
    refine ⟨_, pss_one (ps_ret (pe_callTy (r := rTupOf K) call_tuple_of rfl T.b_tuple bt_tuple (pa_cons (pe_slice (r := rSlL K) sl_list (pe_f ((ok__law_mixed T).mono (by decide : 2 ≤ 2)) (hr.mono (by decide))
        (pa_cons (pv 0) (pa_cons (pv 1) pa_nil))) po_none (po_some (pe_op op_add pe_int (pe_f ((ok__law_take T).mono (by decide : 1 ≤ 2)) (hr.mono (by decide)) (pa_cons (pv 0) (pa_cons (pe_callB (r :=
        rLn K) call_len rfl T.b_len bt_len (pa_cons (pv 1) pa_nil)) pa_nil)))))) pa_nil))), ?_⟩
    have hc : NmOk cs := hc
    have hi := hc.hi
    have lo := hc.lo
    refine s_ret (R := fun v S => ∃ r, IxOk r ∧ D K (encC r) v S) ((g_tupOfX (g_slX (enc := PyData.str) (g_mixed (xs := cs) (g_var rfl hb up_bag) (g_var rfl hv .d) (by omega)) (g_take1 (g_take (g_var rfl hb up_bag) (g_lenL (ds := cs.map PyData.str) (g_var rfl hv .d)) (by rw [List.length_map]; omega) (by rw [List.length_map]; omega))))).imp ?_) hS k
    rintro v S2 _ ⟨zs, ⟨ys, i, hp, ⟨h1, _⟩, rfl⟩, h⟩
    have o := (hc.perm hp).take h1
    exact ⟨_, ⟨⟨o.mem, o.nd⟩, fun e => by have := o.lo; rw [e] at this; exact absurd this (by decide)⟩, h⟩
abbrev n__law_question : List Str := ["_law_bag_here", "_law_names_here", "_law_some", "_law_end"]
theorem sc__law_question : FnScope n__law_question ["_law_bag_here", "_law_names_here"] (defScope s__law_question) := ⟨rfl, rfl, rfl, by decide +kernel, rfl, by decide +kernel, by decide +kernel⟩
abbrev sp__law_question (K : PySem.W.Frag) : Sp := Pu (fun (cs : {cs : List Str // NmOk cs}) => A2 BagV (D K (.list (cs.1.map .str)))) (fun _ v S => ∃ q, QOk q ∧ D K (encQ q) v S)
theorem ok__law_question (T : Fx K mg) : Cal P w K mg base 7 "_law_question" (sp__law_question K) := by
  obtain ⟨fd, Fn⟩ := T.d__law_question
  refine ⟨fn_pos Fn sc__law_question (fun vs H Q E h => ?_) (fun _ _ _ _ _ _ us hl => match us, hl with | [_, _], _ => rfl) (fun cdv A outer s H vs Q E hr h => ?_), T.g__law_question, Fn.kp⟩
  · obtain ⟨_, _, _, ⟨_, _, rfl, _⟩, _⟩ := h
    rfl
  · obtain ⟨⟨cs, hc⟩, S, hS, ⟨va, vb, rfl, hb, hv⟩, k⟩ := h
    refine ⟨_, pss_cons (ps_set (i := 2) sc__law_question.nd rfl (by first | exact Or.inl rfl | exact Or.inr rfl) (pe_slice (r := rSlL K) sl_list (pe_f ((ok__law_mixed T).mono (by decide : 2 ≤ 6)) (hr.mono
        (by decide)) (pa_cons (pv 0) (pa_cons (pv 1) pa_nil))) po_none (po_some (pe_op op_add pe_int (pe_f ((ok__law_take T).mono (by decide : 1 ≤ 6)) (hr.mono (by decide)) (pa_cons (pv 0) (pa_cons
        (pe_callB (r := rLn K) call_len rfl T.b_len bt_len (pa_cons (pv 1) pa_nil)) pa_nil))))))) (pss_cons (ps_set (i := 3) sc__law_question.nd rfl (by first | exact Or.inl rfl | exact Or.inr rfl)
        (pe_ifExp (pt_cmpR op_eq (pe_f ((ok__law_take T).mono (by decide : 1 ≤ 6)) (hr.mono (by decide)) (pa_cons (pv 0) (pa_cons pe_int pa_nil))) pe_int (nomark _)) (pe_bm0 PySem.F.plainAttrs_list
        PySem.F.slot_list_pop PySem.F.type_list_pop mt_pop (pv 2)) pe_str)) (pss_one (ps_ret (pe_tup (pa_cons (pe_callTy (r := rTupOf K) call_tuple_of rfl T.b_tuple bt_tuple (pa_cons (pe_callB (r :=
        rSortL K) (cr_sortL (hr.mono (by decide))) rfl T.b_sorted bt_sorted (pa_cons (pv 2) pa_nil)) pa_nil)) (pa_cons (pv 3) pa_nil)))))), ?_⟩
    have hc : NmOk cs := hc
    have hi := hc.hi
    have lo := hc.lo
    refine q_slM (enc := PyData.str) (P := fun ys => ys.Perm cs) (Qp := fun i => 1 ≤ i ∧ (i : Int) ≤ ((cs.map PyData.str).length : Int)) (g_mixed (xs := cs) (g_var rfl hb up_bag) (g_var rfl hv .d) (by omega)) (g_take1 (g_take (g_var rfl hb up_bag) (g_lenL (ds := cs.map PyData.str) (g_var rfl hv .d)) (by rw [List.length_map]; omega) (by rw [List.length_map]; omega))) hS fun ys i p ws S1 H1 hP ⟨h1, _⟩ g1 hp0 hp hH hd => ?_
    have o := (hc.perm hP).take h1
    generalize ys.take i = zs at *
    obtain rfl := DpAll.strs hd
    refine s_have (M := fun σ' H' => ∃ (zs : List Str) (l : Str) (S2 : Hp), σ' = [some va, some vb, some (.ref p), some (.str l)] ∧ Gw S H S2 H' ∧ S2 p = none ∧ H' p = some (.lst (zs.map .str)) ∧ QOk (srtS zs, l)) ?_ fun rest => ?_
    · rintro σ' H' ⟨zs, l, S2, rfl, g2, hp2, hH2, ok⟩
      refine s_retK (R := fun v S => ∃ q, QOk q ∧ D K (encQ q) v S) ((g_tup (ds := [encC (srtS zs), .str l]) (ga_dc (g_tupOfL (g_sortLS (cs := zs) (g_var (R := D K (.list (zs.map .str))) rfl (.lst (SqL.of upd_same) (DpAll.ofStrs _)) .d))) (ga_dc (g_dStr (g_is rfl)) ga_d0)) (by simp)).imp fun v S _ h => ⟨_, ok, h⟩) (g2.frz hp0 hp2 hH2) k
    · refine gtx_eq (g_take (j := 2) (g_var rfl (up_bag _ _ _ g1.ss hb) up_bag) g_c (by decide) (by decide)) S1 H1 (Same.refl _) g1.sh _ fun c S2 H2 e2 => ?_
      have hH2 := e2.hh _ _ hH
      have hp2 := e2.none hp hH
      have g2 := g1.trans e2
      cases c with
      | true =>
        have hne : zs ≠ [] := fun e => by have := o.lo; rw [e] at this; exact absurd this (by decide)
        have hsp : zs = zs.dropLast ++ [zs.getLast hne] := (List.dropLast_concat_getLast hne).symm
        have hl : (zs.map V.str)[(zs.map V.str).length - 1]? = some (.str (zs.getLast hne)) := by
          rw [List.getElem?_map, List.length_map, List.getElem?_eq_getElem (by have := o.lo; omega), ← List.getLast_eq_getElem]
          rfl
        refine ⟨.ref p, rfl, .inl ⟨rfl, _, SqL.of hH2⟩, p, _, _, rfl, rfl, hH2, hl, ?_⟩
        have nd := o.nd
        rw [hsp, List.nodup_append] at nd
        have mm := o.mem
        have hm := mm _ (List.getLast_mem hne)
        refine rest _ _ ⟨zs.dropLast, zs.getLast hne, S2, rfl, g2.wr hp0 hp2, hp2, by rw [upd_same, List.map_dropLast], srt_ok nd.1 fun c h => mm c ((List.dropLast_sublist _).subset h), srtS_asc _, .inr ⟨hm, fun h => nd.2.2 _ ((srtS_perm _).mem_iff.mp h) _ (List.mem_singleton.mpr rfl) rfl⟩, .inr ?_⟩
        intro e
        have e : zs.getLast hne = "" := e
        rw [e] at hm
        revert hm
        decide
      | false =>
        refine rest _ _ ⟨zs, "", S2, rfl, g2, hp2, hH2, srt_ok o.nd o.mem, srtS_asc _, .inl rfl, .inl fun e => ?_⟩
        have h2 := (srtS_perm zs).length_eq
        have e : srtS zs = [] := e
        rw [e] at h2
        have := o.lo
        simp at h2
        omega
abbrev n__law_beginning : List Str := ["_law_bag_here", "_law_row", "_law_many"]
theorem sc__law_beginning : FnScope n__law_beginning ["_law_bag_here", "_law_row"] (defScope s__law_beginning) := ⟨rfl, rfl, rfl, by decide +kernel, rfl, by decide +kernel, by decide +kernel⟩
abbrev sp__law_beginning (K : PySem.W.Frag) : Sp := Pu (fun (cs : {cs : List Str // NmOk cs}) => A2 BagV (D K (.list (cs.1.map .str)))) (fun _ v S => ∃ q, QOk q ∧ D K (encQ q) v S)
theorem ok__law_beginning (T : Fx K mg) : Cal P w K mg base 7 "_law_beginning" (sp__law_beginning K) := by
  obtain ⟨fd, Fn⟩ := T.d__law_beginning
  refine ⟨fn_pos Fn sc__law_beginning (fun vs H Q E h => ?_) (fun _ _ _ _ _ _ us hl => match us, hl with | [_, _], _ => rfl) (fun cdv A outer s H vs Q E hr h => ?_), T.g__law_beginning, Fn.kp⟩
  · obtain ⟨_, _, _, ⟨_, _, rfl, _⟩, _⟩ := h
    rfl
  · obtain ⟨⟨cs, hc⟩, S, hS, ⟨va, vb, rfl, hb, hv⟩, k⟩ := h
    refine ⟨_, pss_cons (ps_set (i := 2) sc__law_beginning.nd rfl (by first | exact Or.inl rfl | exact Or.inr rfl) (pe_op op_add pe_int (pe_f ((ok__law_take T).mono (by decide : 1 ≤ 6)) (hr.mono (by decide))
        (pa_cons (pv 0) (pa_cons (pe_callB (r := rLn K) call_len rfl T.b_len bt_len (pa_cons (pv 1) pa_nil)) pa_nil))))) (pss_cons (ps_if (pt_cmpR op_eq (pe_f ((ok__law_take T).mono (by decide : 1 ≤
        6)) (hr.mono (by decide)) (pa_cons (pv 0) (pa_cons pe_int pa_nil))) pe_int (nomark _)) (pss_one (ps_ret (pe_tup (pa_cons (pe_callTy (r := rTupOf K) call_tuple_of rfl T.b_tuple bt_tuple
        (pa_cons (pe_callB (r := rSortL K) (cr_sortL (hr.mono (by decide))) rfl T.b_sorted bt_sorted (pa_cons (pe_slice (r := rSlL K) sl_list (pv 1) po_none (po_some (pe_op op_sub (pv 2) pe_int)))
        pa_nil)) pa_nil)) (pa_cons (pe_ix (r := rIxL K) ix_list (pv 1) (pe_op op_sub (pv 2) pe_int) (fun _ _ => rfl)) pa_nil))))) pss_nil) (pss_one (ps_ret (pe_tup (pa_cons (pe_callTy (r := rTupOf K)
        call_tuple_of rfl T.b_tuple bt_tuple (pa_cons (pe_callB (r := rSortL K) (cr_sortL (hr.mono (by decide))) rfl T.b_sorted bt_sorted (pa_cons (pe_slice (r := rSlL K) sl_list (pv 1) po_none
        (po_some (pv 2))) pa_nil)) pa_nil)) (pa_cons pe_str pa_nil)))))), ?_⟩
    have hc : NmOk cs := hc
    have hi := hc.hi
    have lo := hc.lo
    refine q_set (R := fun v _ => ∃ i : Nat, v = .int i ∧ 1 ≤ i ∧ (i : Int) ≤ ((cs.map PyData.str).length : Int)) (g_take1 (g_take (g_var rfl hb up_bag) (g_lenL (ds := cs.map PyData.str) (g_var rfl hv .d)) (by rw [List.length_map]; omega) (by rw [List.length_map]; omega))) (.refl hS) fun v S1 H1 e1 s1 dm => ?_
    obtain ⟨i, rfl, h1, h2⟩ := dm
    rw [List.length_map] at h2
    have hv1 : D K (.list (cs.map PyData.str)) vb S1 := Dp.up s1 hv
    refine s_ifx (gtx_eq (g_take (j := 2) (g_var rfl (up_bag _ _ _ s1 hb) up_bag) g_c (by decide) (by decide))) e1 (fun S2 H2 e2 s2 => ?_) fun S2 H2 e2 s2 => ?_
    · have hv2 : D K (.list (cs.map PyData.str)) vb S2 := Dp.up s2 hv1
      have hlt : i - 1 < cs.length := by omega
      have hget : cs[i - 1]? = some cs[i - 1] := List.getElem?_eq_getElem hlt
      have hmem := hc.mem _ (List.getElem_mem hlt)
      have hnd := hc.nd
      have hsp : cs.take i = cs.take (i - 1) ++ [cs[i - 1]] := by
        have : i = (i - 1) + 1 := by omega
        conv => lhs; rw [this, List.take_add_one, hget]
        rfl
      have hnd : (cs.take (i - 1) ++ [cs[i - 1]]).Nodup := hsp ▸ hnd.sublist (List.take_sublist _ _)
      rw [List.nodup_append] at hnd
      refine s_retK (R := fun v S => ∃ q, QOk q ∧ D K (encQ q) v S) ((g_tup (ds := [encC (srtS (cs.take (i - 1))), .str cs[i - 1]]) (ga_dc (g_tupOfL (g_sortLS (cs := cs.take (i - 1)) ?_)) (ga_dc (g_ixL (ds := cs.map PyData.str) (i := i - 1) (g_var rfl hv2 .d) (g_eq (g_I0 (i := (i : Int)) (j := 1) (g_is rfl) g_c) ?_) (by rw [List.getElem?_map, hget]; rfl)) ga_d0)) (by simp)).imp fun v S _ h => ⟨(srtS (cs.take (i - 1)), cs[i - 1]), ?_, h⟩) e2 k
      · rw [List.map_take]
        exact g_l0D (g_slHi (g_var rfl hv2 .d) (g_eq (g_I0 (i := (i : Int)) (j := 1) (g_is rfl) g_c) (by rw [show (i : Int) - 1 = ((i - 1 : Nat) : Int) by omega])))
      · rw [show (i : Int) - 1 = ((i - 1 : Nat) : Int) by omega]
      · refine ⟨srt_ok hnd.1 fun c h => hc.mem c (List.mem_of_mem_take h), srtS_asc _, .inr ⟨hmem, fun h => hnd.2.2 _ ((srtS_perm _).mem_iff.mp h) _ (List.mem_singleton.mpr rfl) rfl⟩, .inr fun e => ?_⟩
        have e : cs[i - 1] = "" := e
        rw [e] at hmem
        revert hmem
        decide
    · have hv2 : D K (.list (cs.map PyData.str)) vb S2 := Dp.up s2 hv1
      dsimp only [tNext]
      have o := hc.take h1
      refine s_retK (R := fun v S => ∃ q, QOk q ∧ D K (encQ q) v S) ((g_tup (ds := [encC (srtS (cs.take i)), .str ""]) (ga_dc (g_tupOfL (g_sortLS (cs := cs.take i) ?_)) (ga_dc (g_dStr g_c) ga_d0)) (by simp)).imp fun v S _ h => ⟨(srtS (cs.take i), ""), ⟨srt_ok o.nd o.mem, srtS_asc _, .inl rfl, .inl fun e => ?_⟩, h⟩) e2 k
      · rw [List.map_take]
        exact g_l0D (g_slHi (g_var rfl hv2 .d) (g_is rfl))
      · have h2 := (srtS_perm (cs.take i)).length_eq
        have e : srtS (cs.take i) = [] := e
        rw [e] at h2
        have := o.lo
        simp at h2
        omega
end
end NK
end

section
set_option Elab.async false
set_option linter.all false
set_option maxRecDepth 100000
set_option maxHeartbeats 400000
namespace NK
open PySem PySem.Spec L2
open PyProof.Rows hiding St
section
variable {P : Program} {w : World} {K : PySem.W.Frag} {mg : Str → Option Value} {base : Heap}
theorem L0.d {ds : List PyData} {v : V} {S : Hp} (h : L0 K ds v S) : Dp K S v (.list ds) := by
  obtain ⟨p, vs, rfl, h1, h2⟩ := h
  exact .lst (SqL.of h1) h2
theorem g_one {σ : L2.St} {S : Hp} {ta tb : TE} {ds : List PyData} (ha : G ta σ S BagV) (hb : G tb σ S (D K (.list ds))) (h0 : 0 < ds.length) (h1 : ds.length ≤ 1000) : G (tF (sp__law_one K) (tCons ta (tCons tb tNil))) σ S (fun v S => ∃ d ∈ ds, Dp K S v d) :=
  g_call (R := fun (ds : {ds : List PyData // 0 < ds.length ∧ ds.length ≤ 1000}) v S => ∃ d ∈ ds.1, Dp K S v d) (a := (⟨ds, h0, h1⟩ : {ds : List PyData // 0 < ds.length ∧ ds.length ≤ 1000})) (ga_two ha up_bag hb)
abbrev n__law_questions : List Str := ["_law_bag_here", "_law_names_here", "_law_most", "_law_rows", "_law_found", "_law_k"]
theorem sc__law_questions : FnScope n__law_questions ["_law_bag_here", "_law_names_here", "_law_most"] (defScope s__law_questions) := ⟨rfl, rfl, rfl, by decide +kernel, rfl, by decide +kernel, by decide +kernel⟩
abbrev sp__law_questions (K : PySem.W.Frag) : Sp := Pu (fun (z : {z : List Str × Nat // NmOk z.1 ∧ z.2 ≤ 100}) => A3 BagV (D K (.list (z.1.1.map .str))) (Is (.int (z.1.2 : Nat)))) (fun z => SomeL K encQ fun qs => (∀ q ∈ qs, QOk q) ∧ qs.length ≤ z.1.2)
theorem ok__law_questions (T : Fx K mg) : Cal P w K mg base 8 "_law_questions" (sp__law_questions K) := by
  obtain ⟨fd, Fn⟩ := T.d__law_questions
  refine ⟨fn_pos Fn sc__law_questions (fun vs H Q E h => ?_) (fun _ _ _ _ _ _ us hl => match us, hl with | [_, _, _], _ => rfl) (fun cdv A outer s H vs Q E hr h => ?_), T.g__law_questions, Fn.kp⟩
  · obtain ⟨_, _, _, ⟨_, _, _, rfl, _⟩, _⟩ := h
    rfl
  · obtain ⟨⟨⟨cs, most⟩, hc, hm⟩, S, hS, ⟨va, vb, vc, rfl, hb, hv, rfl⟩, k⟩ := h
    have hc : NmOk cs := hc
    have hi := hc.hi
    have lo := hc.lo
    have hm : most ≤ 100 := hm
    refine ⟨_, pss_cons (ps_par (i := 3) (j := 4) rfl sc__law_questions.nd rfl rfl (by decide) rfl rfl (pa_cons (pe_lst (pa_cons (pe_f ((ok__law_mixed T).mono (by decide : 2 ≤ 7)) (hr.mono (by decide))
        (pa_cons (pv 0) (pa_cons (pv 1) pa_nil))) (pa_cons (pe_f ((ok__law_mixed T).mono (by decide : 2 ≤ 7)) (hr.mono (by decide)) (pa_cons (pv 0) (pa_cons (pv 1) pa_nil))) pa_nil))) (pa_cons (pe_lst
        pa_nil) pa_nil)) rfl) (pss_cons (ps_for PassesOwn.never rfl (pi_range1 rfl T.b_range (pa_cons (pe_f ((ok__law_take T).mono (by decide : 1 ≤ 7)) (hr.mono (by decide)) (pa_cons (pv 0) (pa_cons
        (pe_op op_add (pv 2) pe_int) pa_nil))) pa_nil)) (pg_name (i := 5) sc__law_questions.nd rfl (by first | exact Or.inl rfl | exact Or.inr rfl)) (pss_one (ps_if (pt_cmpR op_eq (pe_f ((ok__law_take
        T).mono (by decide : 1 ≤ 7)) (hr.mono (by decide)) (pa_cons (pv 0) (pa_cons pe_int pa_nil))) pe_int (nomark _)) (pss_one (ps_expr (pe_bm PySem.F.plainAttrs_list PySem.F.slot_list_append
        PySem.F.type_list_append mt_append (pv 4) (pa_cons (pe_f ((ok__law_question T).mono (by decide : 7 ≤ 7)) (hr.mono (by decide)) (pa_cons (pv 0) (pa_cons (pv 1) pa_nil))) pa_nil)))) (pss_one
        (ps_expr (pe_bm PySem.F.plainAttrs_list PySem.F.slot_list_append PySem.F.type_list_append mt_append (pv 4) (pa_cons (pe_f ((ok__law_beginning T).mono (by decide : 7 ≤ 7)) (hr.mono (by decide))
        (pa_cons (pv 0) (pa_cons (pe_f ((ok__law_one T).mono (by decide : 2 ≤ 7)) (hr.mono (by decide)) (pa_cons (pv 0) (pa_cons (pv 3) pa_nil))) pa_nil))) pa_nil))))))) (pss_one (ps_ret (pv 4)))), ?_⟩
    have mx : G _ _ S (SomeL K PyData.str fun ys => ys.Perm cs) := g_mixed (σ := [some va, some vb, some (.int (most : Nat)), none, none, none]) (ta := tVar 0) (tb := tVar 1) (xs := cs) (g_var rfl hb up_bag) (g_var rfl hv .d) (by omega)
    refine mx S H (Same.refl _) hS _ fun v1 S1 H1 e1 ⟨c1, p1, r1⟩ => mx S1 H1 e1.ss e1.sh _ fun v2 S2 H2 e2 ⟨c2, p2, r2⟩ => ⟨by show 2 ≤ sizeLine; decide, fun pr hpr => ⟨Nat.zero_le _, fun pf hpf => ⟨_, _, rfl, ?_⟩⟩⟩
    have g2 := (e1.trans e2).trans (Gw.new (o := .lst [v1, v2]) e2.sh hpr)
    have hpf0 : H pf = none := g2.free hpf
    have g3 := g2.trans (Gw.mut (o := .lst []) g2.sh hpf)
    have hrows : D K (.list [.list (c1.map .str), .list (c2.map .str)]) (.ref pr) (upd S2 pr (.lst [v1, v2])) := .lst (SqL.of upd_same) (dall_new (.cons (Dp.up e2.ss r1.d) (.cons r2.d .nil)) (e2.sh.free hpr))
    have hpfS := g2.sh.free hpf
    have hH3 : upd (upd H2 pr (.lst [v1, v2])) pf (.lst []) pf = some (.lst []) := upd_same
    generalize upd S2 pr (.lst [v1, v2]) = S3 at *
    generalize upd (upd H2 pr (.lst [v1, v2])) pf (.lst []) = H3 at *
    have n1 := hc.perm p1
    have n2 := hc.perm p2
    refine q_forX (gix_range (j := (most : Int) + 1) (g_take (g_var (σ := [some va, some vb, some (.int (most : Nat)), some (.ref pr), some (.ref pf), none]) rfl (up_bag _ _ _ g3.ss hb) up_bag) (g_I0 (i := (most : Int)) (j := 1) (g_is rfl) g_c) (by omega) (by omega)) (by omega)) g3.sh fun n hn S4 H4 e4 => ⟨fun i σ' S' H' => (Gw S H S' H' ∧ Same S4 S') ∧ (∃ x, σ' = [some va, some vb, some (.int (most : Nat)), some (.ref pr), some (.ref pf), x]) ∧ S' pf = none ∧ ∃ ws, ∃ qs : List Qn, H' pf = some (.lst ws) ∧ DpAll K S' ws (qs.map encQ) ∧ (∀ q ∈ qs, QOk q) ∧ qs.length = i,
      ⟨⟨g3.trans e4, Same.refl _⟩, ⟨_, rfl⟩, e4.none hpfS hH3, [], [], e4.hh _ _ hH3, .nil, (fun _ h => by cases h), rfl⟩, fun i σ' S' H' h => ⟨h.1.2, h.1.1.sh⟩, ?_, ?_⟩
    · rintro i a x σ' S5 H5 S6 H6 hx ⟨⟨g5, s5⟩, ⟨y, rfl⟩, hp5, ws, qs, h1, h2, h3, h4⟩ e6 rx
      have hlen : ws.length ≤ 200 := by
        have hi := (List.getElem?_eq_some_iff.mp hx).1
        rw [List.length_range] at hi
        rw [DpAll.len h2, List.length_map]
        omega
      have hp6 := e6.none hp5 h1
      have ss6 : Same S S6 := (g5.trans e6).ss
      have s46 : Same S4 S6 := s5.trans e6.ss
      have fin : ∀ (E : Ends) (v : V) (S7 H7 S8 H8 : Hp), Gw S6 H6 S7 H7 → Gw S7 H7 S8 H8 → (∃ q, QOk q ∧ D K (encQ q) v S8) → ∃ S3, (Gw S H S3 (upd H8 pf (.lst (ws ++ [v]))) ∧ Same S4 S3) ∧ (∃ x', [some va, some vb, some (.int (most : Nat)), some (.ref pr), some (.ref pf), some x] = [some va, some vb, some (.int (most : Nat)), some (.ref pr), some (.ref pf), x']) ∧ S3 pf = none ∧ ∃ ws', ∃ qs : List Qn, upd H8 pf (.lst (ws ++ [v])) pf = some (.lst ws') ∧ DpAll K S3 ws' (qs.map encQ) ∧ (∀ q ∈ qs, QOk q) ∧ qs.length = i + 1 := fun E v S7 H7 S8 H8 e7 e8 ⟨q, hq, r⟩ => by
        have e78 := e7.trans e8
        have hp8 := e78.none hp6 (e6.hh _ _ h1)
        have g8 : Gw S H S8 (upd H8 pf (.lst (ws ++ [v]))) := ((g5.trans e6).trans e78).wr hpf0 hp8
        refine ⟨S8, ⟨g8, s46.trans e78.ss⟩, ⟨_, rfl⟩, hp8, ws ++ [v], qs ++ [q], upd_same, ?_, ?_, by rw [List.length_append, h4]; rfl⟩
        · rw [List.map_append]
          exact DpAll.app (DpAll.up (e6.ss.trans e78.ss) h2) (.cons r .nil)
        · intro q' hq'
          rcases List.mem_append.mp hq' with h | h
          · exact h3 q' h
          · cases List.mem_singleton.mp h
            exact hq
      have hb6 := up_bag _ _ _ ss6 hb
      have hv6 : D K (.list (cs.map PyData.str)) vb S6 := Dp.up ss6 hv
      refine s_ifx (gtx_eq (g_take (j := 3) (g_var rfl hb6 up_bag) g_c (by decide) (by decide))) (.refl e6.sh) (fun S7 H7 e7 s7 => ?_) fun S7 H7 e7 s7 => ?_
      · refine s_app (i := 4) (R := fun v S => ∃ q, QOk q ∧ D K (encQ q) v S) rfl ?_ e7.sh (e7.hh _ _ (e6.hh _ _ h1)) (by omega) fun v S8 H8 e8 r => fin { nx := fun _ _ => True, rt := Q } v S7 H7 S8 H8 e7 e8 r
        exact g_call (R := fun (_ : {cs : List Str // NmOk cs}) v S => ∃ q, QOk q ∧ D K (encQ q) v S) (a := (⟨cs, hc⟩ : {cs : List Str // NmOk cs})) (ga_two (g_var rfl (up_bag _ _ _ s7 hb6) up_bag) up_bag (g_var rfl (Dp.up s7 hv6) .d))
      · refine s_app (i := 4) (R := fun v S => ∃ q, QOk q ∧ D K (encQ q) v S) rfl ?_ e7.sh (e7.hh _ _ (e6.hh _ _ h1)) (by omega) fun v S8 H8 e8 r => fin { nx := fun _ _ => True, rt := Q } v S7 H7 S8 H8 e7 e8 r
        refine (g_callX (α := {cs : List Str // NmOk cs}) (A := fun cs => A2 BagV (D K (.list (cs.1.map .str)))) (Rr := fun _ v S => ∃ q, QOk q ∧ D K (encQ q) v S) (Pp := fun _ => True) ((ga_two (g_var rfl (up_bag _ _ _ s7 hb6) up_bag) up_bag (g_one (g_var rfl (up_bag _ _ _ s7 hb6) up_bag) (g_var (R := D K (.list [.list (c1.map .str), .list (c2.map .str)])) rfl (Dp.up ((e4.ss.trans s46).trans s7) hrows) .d) (by simp) (by simp))).imp ?_)).imp fun v S _ ⟨_, _, h⟩ => h
        rintro vs S8 _ ⟨v, u, e, h5, d, hd, h6⟩
        rcases List.mem_cons.mp hd with rfl | hd
        · exact ⟨⟨c1, n1⟩, trivial, v, u, e, h5, h6⟩
        · cases List.mem_singleton.mp hd
          exact ⟨⟨c2, n2⟩, trivial, v, u, e, h5, h6⟩
    · rintro σ' S5 H5 ⟨⟨g5, s5⟩, ⟨y, rfl⟩, hp5, ws, qs, h1, h2, h3, h4⟩
      rw [List.length_range] at h4
      have hq : qs.length ≤ most := by omega
      exact ⟨.ref pf, rfl, k _ _ _ (g5.frz hpf0 hp5 h1) ⟨qs, ⟨h3, hq⟩, pf, ws, rfl, upd_same, DpAll.up (Same.new hp5) h2⟩⟩
theorem q_setLent {σ : L2.St} {S H S0 H0 : Hp} {te : TE} {R : Rel} {u : TS} {E : Ends} {i : Nat} {l : Addr} {o : HO} (h : G te σ (upd S l o) R) (e : Gw S0 H0 S H) (hl : H l = some o) (hs : S l = none)
    (k : ∀ v S1 H1, Gw S0 H0 (del S1 l) H1 → Same S (del S1 l) → H1 l = some o → S1 l = some o → R v S1 → u E (σ.set i (some v)) H1) : tSeq (tAsg te (gName i)) u E σ H :=
  h (upd S l o) H (Same.refl _) (lend e.sh hl) _ fun v S1 H1 e1 r => by
    have e' := e1.lent hs
    exact k v S1 H1 (e.trans e') e'.ss (e'.hh _ _ hl) (e1.ss _ _ upd_same) r
theorem encC_del {S : Hp} {l : Addr} {ys : List V} {r : List Str} {v : V} (h : Dp K S v (encC r)) (hl : S l = some (.lst ys)) : Dp K (del S l) v (encC r) := by
  obtain ⟨a, xs, rfl, h1, h2⟩ := Dp.tupI h
  obtain rfl := DpAll.strs h2
  refine .tup ?_ (DpAll.ofStrs r)
  rcases h1 with h1 | h1
  · refine .inl ?_
    rcases h1 with h1 | ⟨o, h1⟩
    · exact .inl (by rw [del_ne fun e => by rw [e, hl] at h1; cases h1]; exact h1)
    · exact .inr ⟨o, by rw [del_ne fun e => by rw [e, hl] at h1; cases h1]; exact h1⟩
  · exact .inr h1
/-- t[:a number] of a tuple -/
theorem g_slTX {σ : L2.St} {S : Hp} {ta tb : TE} {ds : List PyData} {Qp : Nat → Prop} (ha : G ta σ S (D K (.tuple ds))) (hb : G tb σ S (fun v _ => ∃ i : Nat, v = .int i ∧ Qp i)) : G (tSl (rSlA K) ta tNoPart (tPart tb)) σ S (fun v S => ∃ i, Qp i ∧ Dp K S v (.tuple (ds.take i))) := fun S1 H1 e b Q q =>
  ha S1 H1 e b _ fun x S2 H2 e2 hx => hb S2 H2 (e.trans e2.ss) e2.sh _ fun y S3 H3 e3 ⟨i, hy, hQ⟩ => by
    obtain ⟨a, xs, rfl, h1, h2⟩ := Dp.tupI hx
    have h2' := DpAll.up e3.ss h2
    have e23 := e2.trans e3
    refine ⟨i, hy, a, xs, rfl, Same.sqT (e3.ss.trans e3.sh) h1, fun wh => q _ _ _ e23 ⟨i, hQ, ?_⟩, fun _ p hp => q _ _ _ (e23.trans (Gw.new e3.sh hp)) ⟨i, hQ, .tup (SqT.of upd_same) ?_⟩⟩
    · have w : min i xs.length = xs.length := sIx_some.symm.trans wh.2
      have l := DpAll.len h2
      rw [List.take_of_length_le (by omega)]
      exact Dp.up e3.ss hx
    · rw [cut_hi]
      exact dall_new (DpAll.take i h2') (e3.sh.free hp)
theorem IxOk.take {r : List Str} {i : Nat} (h : IxOk r) (h1 : 1 ≤ i) : IxOk (r.take i) := ⟨⟨fun c hc => h.cols.mem c (List.mem_of_mem_take hc), h.cols.nd.sublist (List.take_sublist _ _)⟩, fun e => by
  have h2 : min i r.length = 0 := by rw [← List.length_take, e]; rfl
  have h3 := List.length_pos_iff.mpr h.ne
  omega⟩
abbrev n__law_indexes : List Str := ["_law_bag_here", "_law_names_here", "_law_most", "_law_found", "_law_k", "_law_way", "_law_one_here"]
theorem sc__law_indexes : FnScope n__law_indexes ["_law_bag_here", "_law_names_here", "_law_most"] (defScope s__law_indexes) := ⟨rfl, rfl, rfl, by decide +kernel, rfl, by decide +kernel, by decide +kernel⟩
abbrev sp__law_indexes (K : PySem.W.Frag) : Sp := Pu (fun (z : {z : List Str × Nat // NmOk z.1 ∧ z.2 ≤ 100}) => A3 BagV (D K (.list (z.1.1.map .str))) (Is (.int (z.1.2 : Nat)))) (fun z => SomeL K encC fun rs => (∀ r ∈ rs, IxOk r) ∧ rs.length ≤ z.1.2)
theorem ok__law_indexes (T : Fx K mg) : Cal P w K mg base 4 "_law_indexes" (sp__law_indexes K) := by
  obtain ⟨fd, Fn⟩ := T.d__law_indexes
  refine ⟨fn_pos Fn sc__law_indexes (fun vs H Q E h => ?_) (fun _ _ _ _ _ _ us hl => match us, hl with | [_, _, _], _ => rfl) (fun cdv A outer s H vs Q E hr h => ?_), T.g__law_indexes, Fn.kp⟩
  · obtain ⟨_, _, _, ⟨_, _, _, rfl, _⟩, _⟩ := h
    rfl
  · obtain ⟨⟨⟨cs, most⟩, hc, hm⟩, S, hS, ⟨va, vb, vc, rfl, hb, hv, rfl⟩, k⟩ := h
    have hc : NmOk cs := hc
    have hi := hc.hi
    have lo := hc.lo
    have hm : most ≤ 100 := hm
    refine ⟨_, pss_cons (ps_set (i := 3) sc__law_indexes.nd rfl (by first | exact Or.inl rfl | exact Or.inr rfl) (pe_lst pa_nil)) (pss_cons (ps_for PassesOwn.never rfl (pi_range1 rfl T.b_range (pa_cons (pe_f
        ((ok__law_take T).mono (by decide : 1 ≤ 3)) (hr.mono (by decide)) (pa_cons (pv 0) (pa_cons (pe_op op_add (pv 2) pe_int) pa_nil))) pa_nil)) (pg_name (i := 4) sc__law_indexes.nd rfl
        (by first | exact Or.inl rfl | exact Or.inr rfl)) (pss_cons (ps_set (i := 5) sc__law_indexes.nd rfl (by first | exact Or.inl rfl | exact Or.inr rfl) (pe_f ((ok__law_take T).mono (by decide : 1
        ≤ 3)) (hr.mono (by decide)) (pa_cons (pv 0) (pa_cons pe_int pa_nil)))) (pss_one (ps_if (PW.pt (pw_or (pt_cmpR (r := rEqD K) (op_eqD hr.units) (pv 3) (pe_lst pa_nil) (nomark _)) (pw_or1
        (pt_cmpR op_lt (pv 5) pe_int (nomark _))))) (pss_one (ps_expr (pe_bm PySem.F.plainAttrs_list PySem.F.slot_list_append PySem.F.type_list_append mt_append (pv 3) (pa_cons (pe_f ((ok__law_index
        T).mono (by decide : 3 ≤ 3)) (hr.mono (by decide)) (pa_cons (pv 0) (pa_cons (pv 1) pa_nil))) pa_nil)))) (pss_cons (ps_set (i := 6) sc__law_indexes.nd rfl
        (by first | exact Or.inl rfl | exact Or.inr rfl) (pe_f ((ok__law_one T).mono (by decide : 2 ≤ 3)) (hr.mono (by decide)) (pa_cons (pv 0) (pa_cons (pv 3) pa_nil)))) (pss_one (ps_expr (pe_bm
        PySem.F.plainAttrs_list PySem.F.slot_list_append PySem.F.type_list_append mt_append (pv 3) (pa_cons (pe_slice (r := rSlA K) (sl_tupK (K := K)) (pv 6) po_none (po_some (pe_op op_add pe_int
        (pe_f ((ok__law_take T).mono (by decide : 1 ≤ 3)) (hr.mono (by decide)) (pa_cons (pv 0) (pa_cons (pe_callB (r := rLn K) call_len rfl T.b_len bt_len (pa_cons (pv 6) pa_nil)) pa_nil))))))
        pa_nil))))))))) (pss_one (ps_ret (pe_f ((ok__law_mixed T).mono (by decide : 2 ≤ 3)) (hr.mono (by decide)) (pa_cons (pv 0) (pa_cons (pv 3) pa_nil)))))), ?_⟩
    refine q_newL (.refl hS) fun pf H1 hpf0 g1 hSp hH1 => ?_
    refine q_forX (gix_range (j := (most : Int) + 1) (g_take (g_var rfl hb up_bag) (g_I0 (i := (most : Int)) (j := 1) (g_is rfl) g_c) (by omega) (by omega)) (by omega)) g1.sh fun n hn S4 H4 e4 => ⟨fun i σ' S' H' => (Gw S H S' H' ∧ Same S4 S') ∧ (∃ x y z, σ' = [some va, some vb, some (.int (most : Nat)), some (.ref pf), x, y, z]) ∧ S' pf = none ∧ ∃ ws, ∃ rs : List (List Str), H' pf = some (.lst ws) ∧ DpAll K S' ws (rs.map encC) ∧ (∀ r ∈ rs, IxOk r) ∧ rs.length = i,
      ⟨⟨g1.trans e4, Same.refl _⟩, ⟨_, _, _, rfl⟩, e4.none hSp hH1, [], [], e4.hh _ _ hH1, .nil, (fun _ h => by cases h), rfl⟩, fun i σ' S' H' h => ⟨h.1.2, h.1.1.sh⟩, ?_, ?_⟩
    · rintro i a x σ' S5 H5 S6 H6 hx ⟨⟨g5, s5⟩, ⟨y0, y1, y2, rfl⟩, hp5, ws, rs, h1, h2, h3, h4⟩ e6 rx
      have hrs : rs.length ≤ 100 := by
        have hi := (List.getElem?_eq_some_iff.mp hx).1
        rw [List.length_range] at hi
        omega
      have hlen : ws.length ≤ 200 := by
        rw [DpAll.len h2, List.length_map]
        omega
      have hp6 := e6.none hp5 h1
      have ss6 : Same S S6 := (g5.trans e6).ss
      have s46 : Same S4 S6 := s5.trans e6.ss
      have fin : ∀ (v : V) (S8 H8 : Hp) (y z : Option V), Gw S6 H6 S8 H8 → (∃ r, IxOk r ∧ D K (encC r) v S8) → ∃ S3, (Gw S H S3 (upd H8 pf (.lst (ws ++ [v]))) ∧ Same S4 S3) ∧ (∃ x' y' z', [some va, some vb, some (.int (most : Nat)), some (.ref pf), some x, y, z] = [some va, some vb, some (.int (most : Nat)), some (.ref pf), x', y', z']) ∧ S3 pf = none ∧ ∃ ws', ∃ rs : List (List Str), upd H8 pf (.lst (ws ++ [v])) pf = some (.lst ws') ∧ DpAll K S3 ws' (rs.map encC) ∧ (∀ r ∈ rs, IxOk r) ∧ rs.length = i + 1 := fun v S8 H8 y z e78 ⟨q, hq, r⟩ => by
        have hp8 := e78.none hp6 (e6.hh _ _ h1)
        have g8 : Gw S H S8 (upd H8 pf (.lst (ws ++ [v]))) := ((g5.trans e6).trans e78).wr hpf0 hp8
        refine ⟨S8, ⟨g8, s46.trans e78.ss⟩, ⟨_, _, _, rfl⟩, hp8, ws ++ [v], rs ++ [q], upd_same, ?_, ?_, by rw [List.length_append, h4]; rfl⟩
        · rw [List.map_append]
          exact DpAll.app (DpAll.up (e6.ss.trans e78.ss) h2) (.cons r .nil)
        · intro q' hq'
          rcases List.mem_append.mp hq' with h | h
          · exact h3 q' h
          · cases List.mem_singleton.mp h
            exact hq
      have hb6 := up_bag _ _ _ ss6 hb
      have hv6 : D K (.list (cs.map PyData.str)) vb S6 := Dp.up ss6 hv
      refine q_set (R := LtV 4) (g_take (j := 4) (g_var rfl hb6 up_bag) g_c (by decide) (by decide)) (.refl e6.sh) fun vw S7 H7 e7 s7 ⟨d, hd, _⟩ => ?_
      subst hd
      have hp7 := e7.none hp6 (e6.hh _ _ h1)
      have h17 := e7.hh _ _ (e6.hh _ _ h1)
      have h27 := DpAll.up (e6.ss.trans s7) h2
      have hb7 := up_bag _ _ _ s7 hb6
      have hv7 : D K (.list (cs.map PyData.str)) vb S7 := Dp.up s7 hv6
      have flt : Flt 3 (.list (rs.map encC)) := flt_lst (n := 2) fun d hd => by
        obtain ⟨r, hr, rfl⟩ := List.mem_map.mp hd
        exact flt_idx (h3 r hr)
      have ht : GT (tOr (tTest (tOp (rEqD K) (tVar 3) (tLst tNil))) (tTest (tOp (rI0 fun i j => V.bl (decide (i < j))) (tVar 5) (tC (V.int 2))))) [some va, some vb, some (.int (most : Nat)), some (.ref pf), some x, some (.int (d : Nat)), y2] (upd S7 pf (.lst ws)) (PyData.eqv (.list (rs.map encC)) (.list []) || decide ((d : Int) < 2)) :=
        gt_or (gt_test (g_eqD (d := .list (rs.map encC)) (e := .list []) (g_var rfl (.lst (SqL.of upd_same) (dall_new h27 hp7)) .d) (g_lst ga_d0 (by decide)) flt.sh (flt_lst (n := 1) fun d hd => by cases hd).sh)) fun _ => gt_test (g_I0 (i := (d : Int)) (j := 2) (g_is rfl) g_c)
      refine ht.lent (Same.refl _) e7.sh h17 hp7 fun S8 H8 e8 hp8 => ?_
      have e78 := e7.trans e8
      have h18 := e8.hh _ _ h17
      have hb8 := up_bag _ _ _ e8.ss hb7
      cases hc2 : (PyData.eqv (.list (rs.map encC)) (.list []) || decide ((d : Int) < 2)) with
      | true =>
        refine s_app (i := 3) (R := fun v S => ∃ r, IxOk r ∧ D K (encC r) v S) rfl ?_ e8.sh h18 (by omega) fun v S9 H9 e9 r => fin v S9 H9 _ _ (e78.trans e9) r
        exact g_call (R := fun (_ : {cs : List Str // NmOk cs}) v S => ∃ r, IxOk r ∧ D K (encC r) v S) (a := (⟨cs, hc⟩ : {cs : List Str // NmOk cs})) (ga_two (g_var rfl hb8 up_bag) up_bag (g_var rfl (Dp.up e8.ss hv7) .d))
      | false =>
        have hne : 0 < (rs.map encC).length := by
          cases rs with
          | nil => simp [PyData.eqv, PyData.eqvAll] at hc2
          | cons r rs => simp
        have h28 := DpAll.up e8.ss h27
        refine q_setLent (R := fun v S => ∃ d ∈ rs.map encC, Dp K S v d) (g_one (g_var rfl (up_bag _ _ _ (Same.new hp8) hb8) up_bag) (g_var (R := D K (.list (rs.map encC))) rfl (.lst (SqL.of upd_same) (dall_new h28 hp8)) .d) hne (by rw [List.length_map]; omega)) e78 h18 hp8 fun vo S9 H9 e9 s9 h19 hs9 ⟨do_, hdo, ro⟩ => ?_
        obtain ⟨r, hr, rfl⟩ := List.mem_map.mp hdo
        have ro' : D K (encC r) vo (del S9 pf) := encC_del ro hs9
        refine s_app (i := 3) (R := fun v S => ∃ r, IxOk r ∧ D K (encC r) v S) rfl ?_ e9.sh h19 (by omega) fun v S10 H10 e10 r => fin v S10 H10 _ _ (e9.trans e10) r
        refine (g_slTX (ds := r.map PyData.str) (g_var rfl ro' .d) (g_take1 (g_take (g_var rfl (up_bag _ _ _ s9 hb8) up_bag) (g_lenT (ds := r.map PyData.str) (g_var rfl ro' .d)) ?_ ?_))).imp fun v S _ ⟨i, ⟨hi1, _⟩, h⟩ => ⟨r.take i, (h3 r hr).take hi1, by rw [← List.map_take] at h; exact h⟩
        · have := List.length_pos_iff.mpr (h3 r hr).ne
          rw [List.length_map]
          omega
        · have := (h3 r hr).cols.len
          rw [List.length_map]
          omega
    · rintro σ' S5 H5 ⟨⟨g5, s5⟩, ⟨y0, y1, y2, rfl⟩, hp5, ws, rs, h1, h2, h3, h4⟩
      rw [List.length_range] at h4
      have hq : rs.length ≤ most := by omega
      have g6 := g5.frz hpf0 hp5 h1
      refine s_retK (R := SomeL K encC fun rs => (∀ r ∈ rs, IxOk r) ∧ rs.length ≤ most) ((g_mixed (enc := encC) (xs := rs) (g_var rfl (up_bag _ _ _ g6.ss hb) up_bag) (g_var (R := D K (.list (rs.map encC))) rfl (.lst (SqL.of upd_same) (DpAll.up (Same.new hp5) h2)) .d) (by omega)).imp fun v S _ ⟨ys, hy, h⟩ => ⟨ys, ⟨fun r hr => h3 r (hy.mem_iff.mp hr), by rw [hy.length_eq]; exact hq⟩, h⟩) g6 k
theorem gix_list {σ : L2.St} {S : Hp} {te : TE} {α : Type} {enc : α → PyData} {Pp : List α → Prop} (h : G te σ S (SomeL K enc Pp)) : GIx (iList K te) σ S Pp (fun ys => ys) (fun a => D K (enc a)) := fun S1 H1 e b R q => h S1 H1 e b _ fun v S2 H2 e2 ⟨ys, hP, r⟩ =>
  gi_listE (σ := σ) (te := tC v) (xs := ys) (enc := enc) (fun S1 H1 e b Q q => q _ S1 H1 (.refl b) (Dp.up e r.d)) S2 H2 (Same.refl _) e2.sh R fun J S3 H3 e3 w => q ys J S3 H3 hP (e2.trans e3) w
theorem gtx_and {σ : L2.St} {S S1 H1 : Hp} {tt tu : TT} {a : Bool} (h : GT tt σ S a) (k : GTx tu σ S) (e : Same S S1) (b : Same S1 H1) {Q : Bool → Hp → Prop} (q : ∀ c S2 H2, Gw S1 H1 S2 H2 → (c = true → a = true) → Q c H2) : tAnd tt tu σ H1 Q := h S1 H1 e b _ fun S2 H2 e2 => by
  cases a with
  | false => exact q false S2 H2 e2 fun h => h
  | true => exact k S2 H2 (e.trans e2.ss) e2.sh _ fun c S3 H3 e3 => q c S3 H3 (e2.trans e3) fun _ => rfl
/-- the weights that a table is drawn from -/
def wtLists : List (List Int) := [[1, 2, 3], [1, 4, 9, 100], [1, 10 ^ 29, 10 ^ 30, 2]]
theorem wtLists_ok : ∀ l ∈ wtLists, (0 < l.length ∧ l.length ≤ 4) ∧ ∀ n ∈ l, 1 ≤ n ∧ n ≤ 10 ^ 30 := by decide
abbrev n__law_table : List Str := ["_law_bag_here", "_law_names_here", "_law_style", "_law_found", "_law_name"]
theorem sc__law_table : FnScope n__law_table ["_law_bag_here", "_law_names_here"] (defScope s__law_table) := ⟨rfl, rfl, rfl, by decide +kernel, rfl, by decide +kernel, by decide +kernel⟩
abbrev sp__law_table (K : PySem.W.Frag) : Sp := Pu (fun (cs : {cs : List Str // NmOk cs}) => A2 BagV (D K (.list (cs.1.map .str)))) (fun cs v S => ∃ tb, TbOk tb ∧ TbR tb v S)
theorem ok__law_table (T : Fx K mg) : Cal P w K mg base 3 "_law_table" (sp__law_table K) := by
  obtain ⟨fd, Fn⟩ := T.d__law_table
  refine ⟨fn_pos Fn sc__law_table (fun vs H Q E h => ?_) (fun _ _ _ _ _ _ us hl => match us, hl with | [_, _], _ => rfl) (fun cdv A outer s H vs Q E hr h => ?_), T.g__law_table, Fn.kp⟩
  · obtain ⟨_, _, _, ⟨_, _, rfl, _⟩, _⟩ := h
    rfl
  · obtain ⟨⟨cs, hc⟩, S, hS, ⟨va, vb, rfl, hb, hv⟩, k⟩ := h
    have hc : NmOk cs := hc
    have hi := hc.hi
    have lo := hc.lo
    have hu := hu_of hr
    refine ⟨_, pss_cons (ps_par (i := 2) (j := 3) rfl sc__law_table.nd rfl rfl (by decide) rfl rfl (pa_cons (pe_f ((ok__law_take T).mono (by decide : 1 ≤ 2)) (hr.mono (by decide)) (pa_cons (pv 0) (pa_cons
        pe_int pa_nil))) (pa_cons pe_dnewK pa_nil)) rfl) (pss_cons (ps_for PassesOwn.never rfl (pi_listK (K := K) (pe_f ((ok__law_mixed T).mono (by decide : 2 ≤ 2)) (hr.mono (by decide)) (pa_cons (pv
        0) (pa_cons (pv 1) pa_nil)))) (pg_name (i := 4) sc__law_table.nd rfl (by first | exact Or.inl rfl | exact Or.inr rfl)) (pss_one (ps_if (PW.pt (pw_and (pt_cmpR op_gt (pv 2) pe_int (nomark _))
        (pw_and1 (pt_cmpR op_gt (pe_f ((ok__law_take T).mono (by decide : 1 ≤ 2)) (hr.mono (by decide)) (pa_cons (pv 0) (pa_cons pe_int pa_nil))) pe_int (nomark _))))) (pss_one (ps_dput hu (pv 3) (pv
        4) (pe_f ((ok__law_one T).mono (by decide : 2 ≤ 2)) (hr.mono (by decide)) (pa_cons (pv 0) (pa_cons (pe_ix (r := rIxL K) ix_list (pe_lst (pa_cons (pe_lst (pa_cons pe_int (pa_cons pe_int
        (pa_cons pe_int pa_nil)))) (pa_cons (pe_lst (pa_cons pe_int (pa_cons pe_int (pa_cons pe_int (pa_cons pe_int pa_nil))))) (pa_cons (pe_lst (pa_cons pe_int (pa_cons (pe_op op_pow pe_int pe_int)
        (pa_cons (pe_op op_pow pe_int pe_int) (pa_cons pe_int pa_nil))))) pa_nil)))) (pe_op op_sub (pv 2) pe_int) (fun _ _ => rfl)) pa_nil))) rfl)) pss_nil))) (pss_one (ps_ret (pv 3)))), ?_⟩
    refine g_take (j := 4) (g_var (σ := [some va, some vb, none, none, none]) rfl hb up_bag) g_c (by decide) (by decide) S H (Same.refl _) hS _ fun v S1 H1 e1 ⟨d, ev, hd⟩ => fun pf hpf => ⟨_, _, rfl, ?_⟩
    subst ev
    have hpf0 := e1.free hpf
    have hpfS := e1.sh.free hpf
    have g1 := e1.trans (Gw.mut (o := .dK []) e1.sh hpf)
    have hH1 : upd H1 pf (.dK []) pf = some (.dK []) := upd_same
    generalize upd H1 pf (.dK []) = H2 at *
    refine q_forX (gix_list (Pp := fun ys => ys.Perm cs) (enc := PyData.str) (g_mixed (xs := cs) (g_var (σ := [some va, some vb, some (.int (d : Nat)), some (.ref pf), none]) rfl (up_bag _ _ _ g1.ss hb) up_bag) (g_var rfl (Dp.up g1.ss hv) .d) (by omega))) g1.sh fun ys hP S4 H4 e4 => ⟨fun i σ' S' H' => (Gw S H S' H' ∧ Same S4 S') ∧ (∃ x, σ' = [some va, some vb, some (.int (d : Nat)), some (.ref pf), x]) ∧ S' pf = none ∧ ∃ tb : TB, H' pf = some (.dK (encTb tb)) ∧ (∀ p ∈ tb, p.1 ∈ ys.take i ∧ 1 ≤ p.2 ∧ p.2 ≤ 10 ^ 30) ∧ (tb.map (·.1)).Nodup ∧ tb.length ≤ i,
      ⟨⟨g1.trans e4, Same.refl _⟩, ⟨_, rfl⟩, e4.none hpfS hH1, [], e4.hh _ _ hH1, (fun _ h => by cases h), List.nodup_nil, Nat.le_refl _⟩, fun i σ' S' H' h => ⟨h.1.2, h.1.1.sh⟩, ?_, ?_⟩
    · rintro i c x σ' S5 H5 S6 H6 hx ⟨⟨g5, s5⟩, ⟨y0, rfl⟩, hp5, tb, h1, h2, h3, h4⟩ e6 rx
      have rx := Dp.strI rx
      subst rx
      have o := hc.perm hP
      have hilt := (List.getElem?_eq_some_iff.mp hx).1
      have hi12 := o.hi
      have hp6 := e6.none hp5 h1
      have ss6 : Same S S6 := (g5.trans e6).ss
      have htk : ys.take (i + 1) = ys.take i ++ [c] := by rw [List.take_add_one, hx]; rfl
      have hsub : ∀ z, z ∈ ys.take i → z ∈ ys.take (i + 1) := fun z hz => by rw [htk]; exact List.mem_append_left _ hz
      refine gtx_and (a := decide ((0 : Int) < (d : Int))) (gt_test (g_I0 (i := (d : Int)) (j := 0) (g_is rfl) g_c)) (gtx_gt (g_take (j := 4) (g_var rfl (up_bag _ _ _ ss6 hb) up_bag) g_c (by decide) (by decide))) (Same.refl _) e6.sh fun cc S7 H7 e7 hcc => ?_
      have hp7 := e7.none hp6 (e6.hh _ _ h1)
      have h17 := e7.hh _ _ (e6.hh _ _ h1)
      cases cc with
      | false => exact ⟨S7, ⟨(g5.trans e6).trans e7, (s5.trans e6.ss).trans e7.ss⟩, ⟨_, rfl⟩, hp7, tb, h17, fun p hp => ⟨hsub _ (h2 p hp).1, (h2 p hp).2⟩, h3, by omega⟩
      | true =>
        have hd0 : (0 : Int) < (d : Int) := of_decide_eq_true (hcc rfl)
        have hl3 : d - 1 < wtLists.length := by show d - 1 < 3; omega
        have hg : wtLists[d - 1]? = some wtLists[d - 1] := List.getElem?_eq_getElem hl3
        have ok := wtLists_ok _ (List.getElem_mem hl3)
        generalize wtLists[d - 1] = l at *
        refine g_one (ds := l.map PyData.int) (g_var rfl (up_bag _ _ _ (ss6.trans e7.ss) hb) up_bag) (g_ixL (ds := wtLists.map fun l => .list (l.map .int)) (i := d - 1) (g_lst ?_ (by decide)) (g_eq (g_I0 (i := (d : Int)) (j := 1) (g_is rfl) g_c) ?_) (by rw [List.getElem?_map, hg]; rfl)) (by rw [List.length_map]; exact ok.1.1) (by rw [List.length_map]; omega) S7 H7 (Same.refl _) e7.sh _ fun v S8 H8 e8 ⟨dd, hdd, rv⟩ => ?_
        · refine ga_dc (g_lst (ds := [.int 1, .int 2, .int 3]) (ga_dc (g_dInt g_c) (ga_dc (g_dInt g_c) (ga_dc (g_dInt g_c) ga_d0))) (by decide)) (ga_dc (g_lst (ds := [.int 1, .int 4, .int 9, .int 100]) (ga_dc (g_dInt g_c) (ga_dc (g_dInt g_c) (ga_dc (g_dInt g_c) (ga_dc (g_dInt g_c) ga_d0)))) (by decide)) (ga_dc (g_lst (ds := [.int 1, .int (10 ^ 29), .int (10 ^ 30), .int 2]) (ga_dc (g_dInt g_c) (ga_dc (g_dInt (g_I (i := 10) (j := 29) g_c g_c ?_)) (ga_dc (g_dInt (g_I (i := 10) (j := 30) g_c g_c ?_)) (ga_dc (g_dInt g_c) ga_d0)))) (by decide)) ga_d0))
          · exact ⟨by decide, by decide, by decide⟩
          · exact ⟨by decide, by decide, by decide⟩
        · rw [show (d : Int) - 1 = ((d - 1 : Nat) : Int) by omega]
        · obtain ⟨n, hn, rfl⟩ := List.mem_map.mp hdd
          have rv := Dp.intI rv
          subst rv
          have hp8 := e8.none hp7 h17
          have h18 := e8.hh _ _ h17
          have g8 := ((g5.trans e6).trans e7).trans e8
          have hno : valV (encTb tb) (Sum.inr c : Key) = none := by
            rw [valV_encTb]
            have e : (tb.find? fun p => p.1 == c) = none := List.find?_eq_none.mpr fun p hp1 hp2 => by
              have nd := (o.nd).sublist (List.take_sublist (i + 1) ys)
              rw [htk, List.nodup_append] at nd
              exact nd.2.2 _ (h2 p hp1).1 _ (List.mem_singleton.mpr rfl) (beq_iff_eq.mp hp2)
            rw [e]
            rfl
          have hnc : ∀ p ∈ tb, p.1 ≠ c := fun p hp e => by
            have nd := (o.nd).sublist (List.take_sublist (i + 1) ys)
            rw [htk, List.nodup_append] at nd
            exact nd.2.2 _ (h2 p hp).1 _ (List.mem_singleton.mpr rfl) e
          have hel : (encTb tb).length < sizeLine := by
            unfold encTb
            rw [List.length_map]
            exact Nat.lt_of_lt_of_le (show tb.length < 100 by omega) (by decide)
          refine ⟨.ref pf, rfl, .str c, rfl, pf, _, rfl, DPut.k (k := Sum.inr c) h18 hel, S8, ⟨g8.wr hpf0 hp8, ((s5.trans e6.ss).trans e7.ss).trans e8.ss⟩, ⟨_, rfl⟩, hp8, tb ++ [(c, n)], ?_, ?_, ?_, ?_⟩
          · rw [upd_same, putK_new _ hno]
            unfold encTb
            rw [List.map_append]
            rfl
          · intro p hp
            rcases List.mem_append.mp hp with h | h
            · exact ⟨hsub _ (h2 p h).1, (h2 p h).2⟩
            · cases List.mem_singleton.mp h
              exact ⟨by rw [htk]; exact List.mem_append_right _ (List.mem_singleton.mpr rfl), ok.2 n hn⟩
          · rw [List.map_append, List.nodup_append]
            refine ⟨h3, by simp, fun a ha b hb e => ?_⟩
            obtain ⟨p, hp, rfl⟩ := List.mem_map.mp ha
            obtain rfl : b = c := by simpa using hb
            exact hnc p hp e
          · rw [List.length_append]
            simp
            omega
    · rintro σ' S5 H5 ⟨⟨g5, s5⟩, ⟨y0, rfl⟩, hp5, tb, h1, h2, h3, h4⟩
      have o := hc.perm hP
      have hi12 := o.hi
      exact ⟨.ref pf, rfl, k _ _ _ (g5.frz hpf0 hp5 h1) ⟨tb, ⟨fun p hp => ⟨o.mem _ (List.mem_of_mem_take (h2 p hp).1), (h2 p hp).2⟩, h3, by omega⟩, pf, rfl, upd_same⟩⟩
abbrev n__law_heavy : List Str := ["_law_bag_here", "_law_table_here"]
theorem sc__law_heavy : FnScope n__law_heavy ["_law_bag_here", "_law_table_here"] (defScope s__law_heavy) := ⟨rfl, rfl, rfl, by decide +kernel, rfl, by decide +kernel, by decide +kernel⟩
abbrev sp__law_heavy (K : PySem.W.Frag) : Sp := Pu (fun (tb : {tb : TB // TbOk tb}) => A2 BagV (TbR tb.1)) (fun _ v S => ∃ f, WtOk f ∧ HvV K f v S)
theorem ok__law_heavy (T : Fx K mg) : Cal P w K mg base 5 "_law_heavy" (sp__law_heavy K) := by
  obtain ⟨fd, Fn⟩ := T.d__law_heavy
  refine ⟨fn_pos Fn sc__law_heavy (fun vs H Q E h => ?_) (fun _ _ _ _ _ _ us hl => match us, hl with | [_, _], _ => rfl) (fun cdv A outer s H vs Q E hr h => ?_), T.g__law_heavy, Fn.kp⟩
  · obtain ⟨_, _, _, ⟨_, _, rfl, _⟩, _⟩ := h
    rfl
  · obtain ⟨⟨tb, ht⟩, S, hS, ⟨va, vb, rfl, hb, hv⟩, k⟩ := h
    have ht : TbOk tb := ht
    refine ⟨_, pss_one (ps_ret (pe_ifExp (PW.pt (pw_and (pt_cmpR (op_eqE hr.units0) (pv 1) pe_dnewK (nomark _)) (pw_and1 (pt_cmpR op_eq (pe_f ((ok__law_take T).mono (by decide : 1 ≤ 4)) (hr.mono (by decide))
        (pa_cons (pv 0) (pa_cons pe_int pa_nil))) pe_int (nomark _))))) pe_non (StX.pe_makeR T.mk_Weights ((ok_Weights___init__ T).mono (by decide : 3 ≤ 3)).run (hr.mono (by decide)) rfl T.g_Weights
        pass0 (pa_cons (pv 1) pa_nil)))), ?_⟩
    obtain ⟨t, rfl, htS⟩ := hv
    have mk : ∀ S1 H1, Gw S H S1 H1 → StX.tMakeR (He.ga K "Weights") (sp_Weights___init__ K) E0 (tCons (tVar 1) tNil) [some va, some (.ref t)] H1 Q := fun S1 H1 g =>
      g_mkR (T := fun (tb : {tb : TB // TbOk tb}) => TbR tb.1) (a := (⟨tb, ht⟩ : {tb : TB // TbOk tb})) up_tb (ga_one (g_var (R := TbR tb) rfl ⟨t, rfl, g.ss _ _ htS⟩ up_tb)) S1 H1 (Same.refl _) g.sh _ fun v S2 H2 e2 ⟨a, dx, t', h1, h2, h3⟩ => k v S2 H2 (g.trans e2) ⟨tbF tb, tbF_ok ht, .inr ⟨a, dx, t', h1, h2, tbV_of h3⟩⟩
    refine ⟨.ref t, rfl, fun p hp => ⟨t, p, encTb tb, rfl, rfl, ?_, upd_same, _, rfl, ?_⟩⟩
    · rw [upd_ne (ne_of_none (hS _ _ htS) hp)]
      exact hS _ _ htS
    · have g1 : Gw S H S (upd H p (.dK [])) := Gw.mut hS hp
      cases (encTb tb).isEmpty with
      | false => exact mk _ _ g1
      | true =>
        refine gtx_eq (n := 0) (g_take (j := 2) (g_var rfl hb up_bag) g_c (by decide) (by decide)) S _ (Same.refl _) g1.sh _ fun c S2 H2 e2 => ?_
        cases c with
        | false => exact mk _ _ (g1.trans e2)
        | true => exact k .non S2 H2 (g1.trans e2) ⟨fun _ => 1, ⟨fun _ => by decide, fun _ => by decide⟩, .inl ⟨rfl, rfl⟩⟩
end
end NK
end

section
set_option Elab.async false
set_option linter.all false
set_option maxRecDepth 100000
set_option maxHeartbeats 400000
namespace NK
open PySem PySem.Spec L2
open PyProof.Rows hiding St
/-- questions, a standing shelf, weights: what the law asks about -/
structure RtIn (qs : List Qn) (rs : List (List Str)) (f : Str → Int) : Prop where
  ak : AkOk qs
  sh : ShOk rs
  wt : WtOk f
  len : rs.length ≤ 6
section
variable {K : PySem.W.Frag} {σ : L2.St} {S : Hp} {ta tb tc tz : TE} {qs : List Qn} {rs ts : List (List Str)} {f : Str → Int}
theorem RtIn.led (h : RtIn qs rs f) : (left rs qs).length + rs.length ≤ 48 ∧ rs.length * (left rs qs).length ≤ 90 := by
  have h1 := (left_ok h.ak (rs := rs)).len
  have h2 := h.len
  refine ⟨by omega, ?_⟩
  exact Nat.le_trans (Nat.mul_le_mul h2 h1) (by decide)
/-- what a led lot asks for -/
structure LdAsk (qs : List Qn) (rs : List (List Str)) (f : Str → Int) : Prop where
  ak : AkOk qs
  sh : ShOk rs
  wt : WtOk f
  hn : (left rs qs).length + rs.length ≤ 48
  hm : rs.length * (left rs qs).length ≤ 90
theorem RtIn.ld (h : RtIn qs rs f) : LdAsk qs rs f := ⟨h.ak, h.sh, h.wt, h.led.1, h.led.2⟩
theorem LdAsk.lot (h : LdAsk qs rs f) : LotIn (ledW f rs (left rs qs)) (ledP rs (left rs qs)) := in_led (left_ok h.ak) h.sh h.wt h.hn h.hm
theorem c_lm (A : AkOk qs) (B : ShOk rs) (W : WtOk f) (hq : G ta σ S (AskedV K qs)) (hr : G tb σ S (ShelfV K rs)) (hf : G tz σ S (HvV K f)) : G (tK 2 (sp_least_more K) (tCons ta (tCons tb tNil)) (tCons tz tNil)) σ S (D K (.tuple [.int (fewV (left rs qs) : Nat), .int (costV f (left rs qs))])) :=
  g_k2 (RX := AskedV K qs) (RY := ShelfV K rs) (RZ := HvV K f) (R := fun (z : {z : (List Qn × List (List Str)) × (Str → Int) // AkOk z.1.1 ∧ ShOk z.1.2 ∧ WtOk z.2}) => D K (.tuple [.int (fewV (left z.1.1.2 z.1.1.1) : Nat), .int (costV z.1.2 (left z.1.1.2 z.1.1.1))])) (a := (⟨((qs, rs), f), A, B, W⟩ : {z : (List Qn × List (List Str)) × (Str → Int) // AkOk z.1.1 ∧ ShOk z.1.2 ∧ WtOk z.2})) hq up_i1 hr up_i1 hf fun v u z S h1 h2 h3 => ⟨v, u, z, rfl, h1, h2, h3⟩
theorem c_la (h : LdAsk qs rs f) (hq : G ta σ S (AskedV K qs)) (hr : G tb σ S (ShelfV K rs)) (hf : G tz σ S (HvV K f)) : G (tK 2 (sp_least_added K) (tCons ta (tCons tb tNil)) (tCons tz tNil)) σ S (Is (.int (addV f rs qs))) :=
  g_k2 (RX := AskedV K qs) (RY := ShelfV K rs) (RZ := HvV K f) (R := fun (z : LedIn) => Is (.int (addV z.1.2 z.1.1.2 z.1.1.1))) (a := (⟨((qs, rs), f), h.ak, h.sh, h.wt, h.hn, h.hm⟩ : LedIn)) hq up_i1 hr up_i1 hf fun v u z S h1 h2 h3 => ⟨v, u, z, rfl, h1, h2, h3⟩
theorem c_lc (A : AkOk qs) (W : WtOk f) (hq : G ta σ S (AskedV K qs)) (hf : G tz σ S (HvV K f)) : G (tK 1 (sp_least_cost K) (tCons ta tNil) (tCons tz tNil)) σ S (Is (.int (costV f qs))) :=
  g_k1 (RX := AskedV K qs) (RZ := HvV K f) (R := fun (z : {z : List Qn × (Str → Int) // AkOk z.1 ∧ WtOk z.2}) => Is (.int (costV z.1.2 z.1.1))) (a := (⟨(qs, f), A, W⟩ : {z : List Qn × (Str → Int) // AkOk z.1 ∧ WtOk z.2})) hq up_i1 hf fun v z S h1 h2 => ⟨v, z, rfl, h1, h2⟩
theorem c_co (B : ShOk rs) (hr : G ta σ S (ShelfV K rs)) (hf : G tz σ S (HvV K f)) : G (tK 1 (sp_cost K) (tCons ta tNil) (tCons tz tNil)) σ S (Is (.int (shc f rs))) :=
  g_k1 (RX := ShelfV K rs) (RZ := HvV K f) (R := fun (z : {z : List (List Str) × (Str → Int) // ShOk z.1}) => Is (.int (shc z.1.2 z.1.1))) (a := (⟨(rs, f), B⟩ : {z : List (List Str) × (Str → Int) // ShOk z.1})) hr up_i1 hf fun v z S h1 h2 => ⟨v, z, rfl, h1, h2⟩
theorem c_ns (A : AkOk qs) (W : WtOk f) (hq : G ta σ S (AskedV K qs)) (hf : G tz σ S (HvV K f)) : G (tK 1 (sp_narrow_shelf K) (tCons ta tNil) (tCons tz tNil)) σ S (fun v S => ∃ m, LotGood (qs.map (wq f)) (prs qs) m ∧ ShelfV K (nsh qs m) v S) :=
  g_k1 (RX := AskedV K qs) (RZ := HvV K f) (R := fun (z : {z : List Qn × (Str → Int) // AkOk z.1 ∧ WtOk z.2}) v S => ∃ m, LotGood (z.1.1.map (wq z.1.2)) (prs z.1.1) m ∧ ShelfV K (nsh z.1.1 m) v S) (a := (⟨(qs, f), A, W⟩ : {z : List Qn × (Str → Int) // AkOk z.1 ∧ WtOk z.2})) hq up_i1 hf fun v z S h1 h2 => ⟨v, z, rfl, h1, h2⟩
theorem c_few (A : AkOk qs) (hq : G ta σ S (AskedV K qs)) : G (tF (sp_fewest K) (tCons ta tNil)) σ S (Is (.int (fewV qs : Nat))) :=
  g_call (R := fun (z : {qs : List Qn // AkOk qs}) => Is (.int (fewV z.1 : Nat))) (a := (⟨qs, A⟩ : {qs : List Qn // AkOk qs})) (ga_one hq)
theorem c_ms (A : AkOk qs) (B : ShOk rs) (W : WtOk f) (hq : G ta σ S (AskedV K qs)) (hr : G tb σ S (ShelfV K rs)) (hf : G tz σ S (HvV K f)) : G (tK 2 (sp_more_shelf K) (tCons ta (tCons tb tNil)) (tCons tz tNil)) σ S (fun v S => ∃ m, LotGood ((left rs qs).map (wq f)) (prs (left rs qs)) m ∧ ShelfV K (nsh (left rs qs) m) v S) :=
  g_k2 (RX := AskedV K qs) (RY := ShelfV K rs) (RZ := HvV K f) (R := fun (z : {z : (List Qn × List (List Str)) × (Str → Int) // AkOk z.1.1 ∧ ShOk z.1.2 ∧ WtOk z.2}) v S => ∃ m, LotGood ((left z.1.1.2 z.1.1.1).map (wq z.1.2)) (prs (left z.1.1.2 z.1.1.1)) m ∧ ShelfV K (nsh (left z.1.1.2 z.1.1.1) m) v S) (a := (⟨((qs, rs), f), A, B, W⟩ : {z : (List Qn × List (List Str)) × (Str → Int) // AkOk z.1.1 ∧ ShOk z.1.2 ∧ WtOk z.2})) hq up_i1 hr up_i1 hf fun v u z S h1 h2 h3 => ⟨v, u, z, rfl, h1, h2, h3⟩
theorem c_lo (h : LdAsk qs rs f) (hq : G ta σ S (AskedV K qs)) (hr : G tb σ S (ShelfV K rs)) (hf : G tz σ S (HvV K f)) : G (tK 2 (sp_led_on K) (tCons ta (tCons tb tNil)) (tCons tz tNil)) σ S (fun v S => ∃ m, LotGood (ledW f rs (left rs qs)) (ledP rs (left rs qs)) m ∧ ShelfV K (ldsh (left rs qs) rs (chs ((left rs qs).length + rs.length) m)) v S) :=
  g_k2 (RX := AskedV K qs) (RY := ShelfV K rs) (RZ := HvV K f) (R := fun (z : LedIn) v S => ∃ m, LotGood (ledW z.1.2 z.1.1.2 (left z.1.1.2 z.1.1.1)) (ledP z.1.1.2 (left z.1.1.2 z.1.1.1)) m ∧ ShelfV K (ldsh (left z.1.1.2 z.1.1.1) z.1.1.2 (chs ((left z.1.1.2 z.1.1.1).length + z.1.1.2.length) m)) v S) (a := (⟨((qs, rs), f), h.ak, h.sh, h.wt, h.hn, h.hm⟩ : LedIn)) hq up_i1 hr up_i1 hf fun v u z S h1 h2 h3 => ⟨v, u, z, rfl, h1, h2, h3⟩
theorem c_im (A : AkOk qs) (B : ShOk rs) (C : ShOk ts) (W : WtOk f) (hq : G ta σ S (AskedV K qs)) (hr : G tb σ S (ShelfV K rs)) (ht : G tc σ S (ShelfV K ts)) (hf : G tz σ S (HvV K f)) : G (tK 3 (sp_is_more K) (tCons ta (tCons tb (tCons tc tNil))) (tCons tz tNil)) σ S (Is (.bl (moreB f ts rs qs))) :=
  g_callK (R := fun (z : {z : (List Qn × List (List Str)) × List (List Str) × (Str → Int) // AkOk z.1.1 ∧ ShOk z.1.2 ∧ ShOk z.2.1 ∧ WtOk z.2.2}) => Is (.bl (moreB z.1.2.2 z.1.2.1 z.1.1.2 z.1.1.1))) (a := (⟨((qs, rs), ts, f), A, B, C, W⟩ : {z : (List Qn × List (List Str)) × List (List Str) × (Str → Int) // AkOk z.1.1 ∧ ShOk z.1.2 ∧ ShOk z.2.1 ∧ WtOk z.2.2})) (ga_three hq up_i1 hr up_i1 ht) (fun vs S S' e ⟨v, u, w, e1, h1, h2, h3⟩ => ⟨v, u, w, e1, up_i1 _ _ _ e h1, up_i1 _ _ _ e h2, up_i1 _ _ _ e h3⟩) (ga_one hf) fun vs z S' _ ⟨v, u, w, e1, h1, h2, h3⟩ h4 => by
    subst e1
    exact ⟨rfl, v, u, w, z, rfl, h1, h2, h3, h4⟩
theorem c_il (h : LdAsk qs rs f) (C : ShOk ts) (hq : G ta σ S (AskedV K qs)) (hr : G tb σ S (ShelfV K rs)) (ht : G tc σ S (ShelfV K ts)) (hf : G tz σ S (HvV K f)) : G (tK 3 (sp_is_led_on K) (tCons ta (tCons tb (tCons tc tNil))) (tCons tz tNil)) σ S (Is (.bl (ledOnB f ts rs qs))) :=
  g_callK (R := fun (z : {z : LedIn × List (List Str) // ShOk z.2}) => Is (.bl (ledOnB z.1.1.1.2 z.1.2 z.1.1.1.1.2 z.1.1.1.1.1))) (a := (⟨(⟨((qs, rs), f), h.ak, h.sh, h.wt, h.hn, h.hm⟩, ts), C⟩ : {z : LedIn × List (List Str) // ShOk z.2})) (ga_three hq up_i1 hr up_i1 ht) (fun vs S S' e ⟨v, u, w, e1, h1, h2, h3⟩ => ⟨v, u, w, e1, up_i1 _ _ _ e h1, up_i1 _ _ _ e h2, up_i1 _ _ _ e h3⟩) (ga_one hf) fun vs z S' _ ⟨v, u, w, e1, h1, h2, h3⟩ h4 => by
    subst e1
    exact ⟨rfl, v, u, w, z, rfl, h1, h2, h3, h4⟩
/-- shelf + shelf, shelf == shelf -/
theorem g_addO (C : ShOk (rs ++ ts)) (ha : G ta σ S (ShelfV K rs)) (hb : G tb σ S (ShelfV K ts)) : G (tOp (rAddO K "Shelf" (sp_Shelf___add__ K)) ta tb) σ S (ShelfV K (rs ++ ts)) :=
  g_op ha up_i1 hb fun x y S1 H1 _ c hx hy Q q => by
    have hx0 := hx
    have hy0 := hy
    obtain ⟨a, dx, t, rfl, h1, _⟩ := hx0
    obtain ⟨b, dy, u, rfl, h2, _⟩ := hy0
    exact ⟨a, dx, _, b, dy, _, rfl, rfl, c _ _ h1, c _ _ h2, ⟨(rs, ts), C⟩, S1, c, ⟨_, _, rfl, hx, hy⟩, fun v S2 H2 e2 r => ⟨by obtain ⟨p, _, _, e, _⟩ := r; exact ⟨p, e⟩, q v S2 H2 e2 r⟩⟩
theorem g_eqO (B : ShOk rs) (C : ShOk ts) (ha : G ta σ S (ShelfV K rs)) (hb : G tb σ S (ShelfV K ts)) : G (tOp (rEqO K "Shelf" (sp_Shelf___eq__ K)) ta tb) σ S (Is (.bl (decide (rs = ts)))) :=
  g_op ha up_i1 hb fun x y S1 H1 _ c hx hy Q q => by
    have hx0 := hx
    have hy0 := hy
    obtain ⟨a, dx, t, rfl, h1, _⟩ := hx0
    obtain ⟨b, dy, u, rfl, h2, _⟩ := hy0
    exact ⟨a, dx, _, b, dy, _, rfl, rfl, c _ _ h1, c _ _ h2, ⟨(rs, ts), B, C⟩, S1, c, ⟨_, _, rfl, hx, hy⟩, fun v S2 H2 e2 r => ⟨⟨_, r⟩, q v S2 H2 e2 r⟩⟩
theorem g_lenAk (hq : G ta σ S (AskedV K qs)) (A : AkOk qs) : G (tCB (rLenO K "Asked" (sp_Asked___len__ K)) (tCons ta tNil)) σ S (Is (.int (qs.length : Nat))) :=
  g_lenO (α := List Qn) (A := fun qs => AskedV K qs) (f := fun qs => qs.length) (a := qs) hq asked_at (by have := A.len; show qs.length < 100000; omega)
/-- x, y = a, b -/
theorem q_par {u : TS} {E : Ends} {S0 H0 H : Hp} {i j : Nat} {R T : Rel} (ha : G ta σ S R) (ur : Up R) (hb : G tb σ S T) (e : Gw S0 H0 S H) (k : ∀ v w S1 H1, Gw S0 H0 S1 H1 → Same S S1 → R v S1 → T w S1 → u E ((σ.set i (some v)).set j (some w)) H1) : tSeq (tPar i j (tCons ta (tCons tb tNil))) u E σ H :=
  ha S H (Same.refl S) e.sh _ fun v S1 H1 e1 r => hb S1 H1 e1.ss e1.sh _ fun w S2 H2 e2 t => ⟨v, w, rfl, k v w S2 H2 ((e.trans e1).trans e2) (e1.trans e2).ss (ur _ _ _ e2.ss r) t⟩
theorem g_neI {i j : Int} (ha : G ta σ S (Is (.int i))) (hb : G tb σ S (Is (.int j))) (h : i = j) : G (tOp rNe ta tb) σ S (Is (.bl false)) := g_eq (g_neS (x := .int i) (y := .int j) ha hb rfl) (by rw [h, decide_eq_true rfl]; rfl)
theorem up_ex {α : Type} {Pp : α → Prop} {R : α → Rel} (h : ∀ a, Up (R a)) : Up (fun v S => ∃ a, Pp a ∧ R a v S) := fun v S S' e ⟨a, h1, h2⟩ => ⟨a, h1, h a _ _ _ e h2⟩
theorem flt_ii (a b : Int) : Flt 2 (.tuple [.int a, .int b]) := flt_tup fun d hd => by
  rcases List.mem_cons.mp hd with rfl | hd
  · exact flt_int a
  · cases List.mem_singleton.mp hd
    exact flt_int b
theorem eqv_ii (a b : Int) : PyData.eqv (.tuple [.int a, .int b]) (.tuple [.int a, .int b]) = true := by
  simp [PyData.eqv, PyData.eqvAll]
end
section
variable {P : Program} {w : World} {K : PySem.W.Frag} {mg : Str → Option Value} {base : Heap}
abbrev n__law_right : List Str := ["_law_asked", "_law_standing", "_law_heavy_here", "_law_few", "_law_price", "_law_added_cost", "_law_left", "_law_further", "_law_longer"]
theorem sc__law_right : FnScope n__law_right ["_law_asked", "_law_standing", "_law_heavy_here"] (defScope s__law_right) := ⟨rfl, rfl, rfl, by decide +kernel, rfl, by decide +kernel, by decide +kernel⟩
abbrev sp__law_right (K : PySem.W.Frag) : Sp := Pu (fun (z : {z : (List Qn × List (List Str)) × (Str → Int) // RtIn z.1.1 z.1.2 z.2}) => A3 (AskedV K z.1.1.1) (ShelfV K z.1.1.2) (HvV K z.1.2)) (fun _ => Is (.bl true))
theorem ok__law_right (T : Fx K mg) : Cal P w K mg base 58 "_law_right" (sp__law_right K) := by
  obtain ⟨fd, Fn⟩ := T.d__law_right
  refine ⟨fn_pos Fn sc__law_right (fun vs H Q E h => ?_) (fun _ _ _ _ _ _ us hl => match us, hl with | [_, _, _], _ => rfl) (fun cdv A outer s H vs Q E hr h => ?_), T.g__law_right, Fn.kp⟩
  · obtain ⟨_, _, _, ⟨_, _, _, rfl, _⟩, _⟩ := h
    rfl
  · obtain ⟨⟨⟨⟨qs, rs⟩, f⟩, ⟨A, B, W, hl⟩⟩, S, hS, ⟨va, vb, vc, rfl, hv, hw, hf⟩, k⟩ := h
    have A : AkOk qs := A
    have B : ShOk rs := B
    have W : WtOk f := W
    have hl : rs.length ≤ 6 := hl
    refine ⟨_, pss_cons (ps_asg (pe_fk1 ((ok_least_more T).mono (by decide : 56 ≤ 57)) (hr.mono (by decide)) (pa_cons (pv 0) (pa_cons (pv 1) pa_nil)) (pk_cons (pv 2) pk_nil)) (pg_tupK (K := K) (n := 2) rfl
        (pgs_cons (pg_name (i := 3) sc__law_right.nd rfl (by first | exact Or.inl rfl | exact Or.inr rfl)) (pgs_cons (pg_name (i := 4) sc__law_right.nd rfl
        (by first | exact Or.inl rfl | exact Or.inr rfl)) pgs_nil)))) (pss_cons (ps_par (i := 5) (j := 6) rfl sc__law_right.nd rfl rfl (by decide) rfl rfl (pa_cons (pe_fk1 ((ok_least_added T).mono (by
        decide : 55 ≤ 57)) (hr.mono (by decide)) (pa_cons (pv 0) (pa_cons (pv 1) pa_nil)) (pk_cons (pv 2) pk_nil)) (pa_cons (pe_f ((ok_unserved T).mono (by decide : 12 ≤ 57)) (hr.mono (by decide))
        (pa_cons (pv 1) (pa_cons (pv 0) pa_nil))) pa_nil)) rfl) (pss_cons (ps_if (pt_cmpR (r := rNeD K) (op_neD hr.units) (pe_tup (pa_cons (pv 3) (pa_cons (pv 4) pa_nil))) (pe_tup (pa_cons (pe_f
        ((ok_fewest T).mono (by decide : 55 ≤ 57)) (hr.mono (by decide)) (pa_cons (pv 6) pa_nil)) (pa_cons (pe_fk1 ((ok_least_cost T).mono (by decide : 55 ≤ 57)) (hr.mono (by decide)) (pa_cons (pv 6)
        pa_nil) (pk_cons (pv 2) pk_nil)) pa_nil))) (nomark _)) (pss_one (ps_ret pe_bl)) pss_nil) (pss_cons (ps_if (pt_not (pt_chain3 op_le op_le op_le pe_int (pv 5) (pv 4) (pe_fk1 ((ok_least_cost
        T).mono (by decide : 55 ≤ 57)) (hr.mono (by decide)) (pa_cons (pv 0) pa_nil) (pk_cons (pv 2) pk_nil)))) (pss_one (ps_ret pe_bl)) pss_nil) (pss_cons (ps_par (i := 7) (j := 8) rfl
        sc__law_right.nd rfl rfl (by decide) rfl rfl (pa_cons (pe_fk1 ((ok_more_shelf T).mono (by decide : 56 ≤ 57)) (hr.mono (by decide)) (pa_cons (pv 0) (pa_cons (pv 1) pa_nil)) (pk_cons (pv 2)
        pk_nil)) (pa_cons (pe_fk1 ((ok_led_on T).mono (by decide : 55 ≤ 57)) (hr.mono (by decide)) (pa_cons (pv 0) (pa_cons (pv 1) pa_nil)) (pk_cons (pv 2) pk_nil)) pa_nil)) rfl) (pss_cons (ps_if
        (PW.pt (pw_or (pt_cmpR op_gt (pe_callB (cr_lenO ((ok_Asked___len__ T).mono (by decide : 1 ≤ 56)) (hr.mono (by decide))) rfl T.b_len bt_len (pa_cons (pe_f ((ok_unserved T).mono (by decide : 12
        ≤ 57)) (hr.mono (by decide)) (pa_cons (pe_op (op_addO ((ok_Shelf___add__ T).mono (by decide : 11 ≤ 57)) T.sf (hr.mono (by decide))) (pv 1) (pv 7)) (pa_cons (pv 0) pa_nil))) pa_nil)) pe_int
        (nomark _)) (pw_or (pt_cmpR op_ne (pe_fk1 ((ok_cost T).mono (by decide : 10 ≤ 57)) (hr.mono (by decide)) (pa_cons (pv 7) pa_nil) (pk_cons (pv 2) pk_nil)) (pv 4) (nomark _)) (pw_or1 (pt_cmpR
        op_ne (pe_callB (cr_lenO ((ok_Shelf___len__ T).mono (by decide : 1 ≤ 56)) (hr.mono (by decide))) rfl T.b_len bt_len (pa_cons (pv 7) pa_nil)) (pv 3) (nomark _)))))) (pss_one (ps_ret pe_bl))
        pss_nil) (pss_cons (ps_if (PW.pt (pw_or (pt_cmpR op_gt (pe_callB (cr_lenO ((ok_Asked___len__ T).mono (by decide : 1 ≤ 56)) (hr.mono (by decide))) rfl T.b_len bt_len (pa_cons (pe_f
        ((ok_unserved T).mono (by decide : 12 ≤ 57)) (hr.mono (by decide)) (pa_cons (pv 8) (pa_cons (pv 0) pa_nil))) pa_nil)) pe_int (nomark _)) (pw_or1 (pt_cmpR op_ne (pe_fk1 ((ok_cost T).mono (by
        decide : 10 ≤ 57)) (hr.mono (by decide)) (pa_cons (pv 8) pa_nil) (pk_cons (pv 2) pk_nil)) (pe_op op_add (pe_fk1 ((ok_cost T).mono (by decide : 10 ≤ 57)) (hr.mono (by decide)) (pa_cons (pv 1)
        pa_nil) (pk_cons (pv 2) pk_nil)) (pv 5)) (nomark _))))) (pss_one (ps_ret pe_bl)) pss_nil) (pss_cons (ps_if (PW.pt (pw_or (pt_not (pt_val (pe_fk1 ((ok_is_more T).mono (by decide : 57 ≤ 57))
        (hr.mono (by decide)) (pa_cons (pv 0) (pa_cons (pv 1) (pa_cons (pv 7) pa_nil))) (pk_cons (pv 2) pk_nil)))) (pw_or1 (pt_not (pt_val (pe_fk1 ((ok_is_led_on T).mono (by decide : 56 ≤ 57))
        (hr.mono (by decide)) (pa_cons (pv 0) (pa_cons (pv 1) (pa_cons (pv 8) pa_nil))) (pk_cons (pv 2) pk_nil))))))) (pss_one (ps_ret pe_bl)) pss_nil) (pss_one (ps_ret (pe_cmpR op_eq (pe_fk1
        ((ok_is_led_on T).mono (by decide : 56 ≤ 57)) (hr.mono (by decide)) (pa_cons (pv 0) (pa_cons (pv 1) (pa_cons (pe_op (op_addO ((ok_Shelf___add__ T).mono (by decide : 11 ≤ 57)) T.sf (hr.mono
        (by decide))) (pv 1) (pv 7)) pa_nil))) (pk_cons (pv 2) pk_nil)) (pe_cmpR op_eq (pv 5) (pv 4) (nomark _)) (nomark _))))))))))), ?_⟩
    have R : RtIn qs rs f := ⟨A, B, W, hl⟩
    have D := R.ld
    have AL : AkOk (left rs qs) := left_ok A
    have I := D.lot
    have m1 : 0 ≤ addV f rs qs := by
      have := led_ge I
      unfold addV
      omega
    have m2 : addV f rs qs ≤ costV f (left rs qs) := by
      have := led_le AL W I
      unfold addV
      omega
    have m3 : costV f (left rs qs) ≤ costV f qs := cost_sub A AL left_sub W
    refine q_unp (c_lm A B W (g_var rfl hv up_i1) (g_var rfl hw up_i1) (g_var rfl hf up_hv)) (.refl hS) fun x y S1 H1 e1 s1 hx hy => ?_
    cases Dp.intI hx
    cases Dp.intI hy
    have hv1 := up_i1 _ _ _ s1 hv
    have hw1 := up_i1 _ _ _ s1 hw
    have hf1 := up_hv _ _ _ s1 hf
    refine q_par (c_la D (g_var rfl hv1 up_i1) (g_var rfl hw1 up_i1) (g_var rfl hf1 up_hv)) .is (g_uns B A (g_var rfl hw1 up_i1) (g_var rfl hv1 up_i1)) e1 fun x y S2 H2 e2 s2 hx hu => ?_
    cases hx
    have hv2 := up_i1 _ _ _ s2 hv1
    have hw2 := up_i1 _ _ _ s2 hw1
    have hf2 := up_hv _ _ _ s2 hf1
    refine q_no (gt_eq (gt_test (g_neD (d := .tuple [.int (fewV (left rs qs) : Nat), .int (costV f (left rs qs))]) (e := .tuple [.int (fewV (left rs qs) : Nat), .int (costV f (left rs qs))]) (g_tup (ga_dc (g_dInt (g_is rfl)) (ga_dc (g_dInt (g_is rfl)) ga_d0)) (by simp)) (g_tup (ga_dc (g_dInt (c_few AL (g_var rfl hu up_i1))) (ga_dc (g_dInt (c_lc AL W (g_var rfl hu up_i1) (g_var rfl hf2 up_hv))) ga_d0)) (by simp)) (flt_ii _ _).sh (flt_ii _ _).sh)) (by rw [eqv_ii]; rfl)) e2 fun S3 H3 e3 s3 => ?_
    have hv3 := up_i1 _ _ _ s3 hv2
    have hw3 := up_i1 _ _ _ s3 hw2
    have hf3 := up_hv _ _ _ s3 hf2
    refine q_no (gt_eq (gt_not (gt_chain3 (p := fun i j => decide (i ≤ j)) (i := 0) (j := addV f rs qs) (k := costV f (left rs qs)) (l := costV f qs) g_c (g_is rfl) (g_is rfl) (c_lc A W (g_var rfl hv3 up_i1) (g_var rfl hf3 up_hv)))) (by rw [decide_eq_true m1, decide_eq_true m2, decide_eq_true m3]; rfl)) e3 fun S4 H4 e4 s4 => ?_
    have hv4 := up_i1 _ _ _ s4 hv3
    have hw4 := up_i1 _ _ _ s4 hw3
    have hf4 := up_hv _ _ _ s4 hf3
    refine q_par (c_ms A B W (g_var rfl hv4 up_i1) (g_var rfl hw4 up_i1) (g_var rfl hf4 up_hv)) (up_ex fun _ => up_i1) (c_lo D (g_var rfl hv4 up_i1) (g_var rfl hw4 up_i1) (g_var rfl hf4 up_hv)) e4 fun x y S5 H5 e5 s5 ⟨m, gm, hn5⟩ ⟨m', gl, ht5⟩ => ?_
    have hv5 := up_i1 _ _ _ s5 hv4
    have hw5 := up_i1 _ _ _ s5 hw4
    have hf5 := up_hv _ _ _ s5 hf4
    have No := nsh_ok AL W gm
    have To := ldsh_ok B (led_ch AL I gl)
    have nc := nsh_cost AL W gm
    have nl := nsh_len AL W gm
    have nle := nsh_le AL W gm
    have nf : left (nsh (left rs qs) m) (left rs qs) = [] := nsh_left AL W gm
    have tf := ldsh_left AL B I gl (qs := qs) rfl
    have tp := fun (n : Nat) (r : List Str) (h : rs[n]? = some r) => ldsh_pre AL B I gl h
    have tcost := ldsh_cost AL B I gl
    generalize nsh (left rs qs) m = N at *
    generalize ldsh (left rs qs) rs (chs ((left rs qs).length + rs.length) m') = T' at *
    have al := AL.len
    have RN : ShOk (rs ++ N) := ⟨fun r hr => (List.mem_append.mp hr).elim (B.ok r) (No.ok r), by rw [List.length_append]; omega⟩
    have rf : left (rs ++ N) qs = [] := by rw [left_app]; exact nf
    have tadd : shc f T' = shc f rs + addV f rs qs := by
      rw [tcost]
      unfold addV
      omega
    refine q_no (gt_eq (gt_or (gt_test (g_I0 (i := ((left (rs ++ N) qs).length : Int)) (j := 0) (g_lenAk (g_uns RN A (g_addO RN (g_var rfl hw5 up_i1) (g_var rfl hn5 up_i1)) (g_var rfl hv5 up_i1)) (left_ok A)) g_c)) fun _ => gt_or (gt_test (g_neI (c_co No (g_var rfl hn5 up_i1) (g_var rfl hf5 up_hv)) (g_is rfl) nc)) fun _ => gt_test (g_neI (g_lenSh (g_var rfl hn5 up_i1) No.len) (g_is rfl) (by rw [nl]))) (by rw [rf]; rfl)) e5 fun S6 H6 e6 s6 => ?_
    have hv6 := up_i1 _ _ _ s6 hv5
    have hw6 := up_i1 _ _ _ s6 hw5
    have hf6 := up_hv _ _ _ s6 hf5
    have hn6 := up_i1 _ _ _ s6 hn5
    have ht6 := up_i1 _ _ _ s6 ht5
    refine q_no (gt_eq (gt_or (gt_test (g_I0 (i := ((left T' qs).length : Int)) (j := 0) (g_lenAk (g_uns To A (g_var rfl ht6 up_i1) (g_var rfl hv6 up_i1)) (left_ok A)) g_c)) fun _ => gt_test (g_neI (c_co To (g_var rfl ht6 up_i1) (g_var rfl hf6 up_hv)) (g_I0 (i := shc f rs) (j := addV f rs qs) (c_co B (g_var rfl hw6 up_i1) (g_var rfl hf6 up_hv)) (g_is rfl)) tadd)) (by rw [tf]; rfl)) e6 fun S7 H7 e7 s7 => ?_
    have hv7 := up_i1 _ _ _ s7 hv6
    have hw7 := up_i1 _ _ _ s7 hw6
    have hf7 := up_hv _ _ _ s7 hf6
    have hn7 := up_i1 _ _ _ s7 hn6
    have ht7 := up_i1 _ _ _ s7 ht6
    have b1 : moreB f N rs qs = true := by
      unfold moreB
      rw [decide_eq_true nf, decide_eq_true nc]
      rfl
    have b2 : ledOnB f T' rs qs = true := by
      unfold ledOnB
      rw [ledB_of tf tp, decide_eq_true (by omega)]
      rfl
    refine q_no (gt_eq (gt_or (gt_not (gt_B (c_im A B No W (g_var rfl hv7 up_i1) (g_var rfl hw7 up_i1) (g_var rfl hn7 up_i1) (g_var rfl hf7 up_hv)))) fun _ => gt_not (gt_B (c_il D To (g_var rfl hv7 up_i1) (g_var rfl hw7 up_i1) (g_var rfl ht7 up_i1) (g_var rfl hf7 up_hv)))) (by rw [b1, b2]; rfl)) e7 fun S8 H8 e8 s8 => ?_
    have hv8 := up_i1 _ _ _ s8 hv7
    have hw8 := up_i1 _ _ _ s8 hw7
    have hf8 := up_hv _ _ _ s8 hf7
    have hn8 := up_i1 _ _ _ s8 hn7
    have b3 : ledOnB f (rs ++ N) rs qs = decide (V.int (addV f rs qs) = V.int (costV f (left rs qs))) := by
      unfold ledOnB
      rw [ledB_of rf fun n r h => ⟨[], by rw [List.append_nil, List.getElem?_append_left (List.getElem?_eq_some_iff.mp h).1, h]⟩, Bool.true_and, shc_app, nc]
      by_cases h : addV f rs qs = costV f (left rs qs)
      · rw [decide_eq_true (show shc f rs + costV f (left rs qs) - shc f rs = addV f rs qs by omega), h, decide_eq_true rfl]
      · rw [decide_eq_false (show ¬ shc f rs + costV f (left rs qs) - shc f rs = addV f rs qs by omega), decide_eq_false fun z => h (V.int.inj z)]
    refine s_retK (R := Is (.bl true)) (g_eq (g_eqS (x := .bl (ledOnB f (rs ++ N) rs qs)) (y := .bl (decide (V.int (addV f rs qs) = V.int (costV f (left rs qs))))) (c_il D RN (g_var rfl hv8 up_i1) (g_var rfl hw8 up_i1) (g_addO RN (g_var rfl hw8 up_i1) (g_var rfl hn8 up_i1)) (g_var rfl hf8 up_hv)) (g_eqS (x := .int (addV f rs qs)) (y := .int (costV f (left rs qs))) (g_is rfl) (g_is rfl) rfl) rfl) (by rw [b3, decide_eq_true rfl])) e8 k
theorem shOk_nil : ShOk [] := ⟨(fun r h => by cases h), by decide⟩
theorem add_none {f : Str → Int} {qs : List Qn} : addV f [] qs = costV f qs := by
  unfold addV costV
  rw [left_none]
  have e1 : ledW f [] qs = qs.map (wq f) := List.append_nil _
  have e2 : ledP [] qs = prs qs := List.append_nil _
  have e3 : shc f [] = 0 := rfl
  rw [e1, e2, e3]
  omega
theorem few_nil : fewV [] = 0 := by
  obtain ⟨X, a1, a2⟩ := ant_ex (([] : List Qn).map fun _ => (1 : Int)) (prs []) 0
  have e : fewV [] = X.length := a2.symm
  rw [e]
  cases X with
  | nil => rfl
  | cons i X =>
    obtain ⟨x, h1, _⟩ := ofW_iff.mp (a1.wt i List.mem_cons_self)
    cases h1
theorem cost_nil {f : Str → Int} : costV f [] = 0 := by
  unfold costV
  exact sumV_int (ws := ([] : List Qn).map (wq f)) (ps := prs []) (M := 0) fun x hx => by cases hx
abbrev n__law_ends_right : List Str := ["_law_asked", "_law_heavy_here", "_law_none", "_law_best"]
theorem sc__law_ends_right : FnScope n__law_ends_right ["_law_asked", "_law_heavy_here"] (defScope s__law_ends_right) := ⟨rfl, rfl, rfl, by decide +kernel, rfl, by decide +kernel, by decide +kernel⟩
abbrev sp__law_ends_right (K : PySem.W.Frag) : Sp := Pu (fun (z : {z : List Qn × (Str → Int) // AkOk z.1 ∧ WtOk z.2}) => A2 (AskedV K z.1.1) (HvV K z.1.2)) (fun _ => Is (.bl true))
theorem ok__law_ends_right (T : Fx K mg) : Cal P w K mg base 57 "_law_ends_right" (sp__law_ends_right K) := by
  obtain ⟨fd, Fn⟩ := T.d__law_ends_right
  refine ⟨fn_pos Fn sc__law_ends_right (fun vs H Q E h => ?_) (fun _ _ _ _ _ _ us hl => match us, hl with | [_, _], _ => rfl) (fun cdv A outer s H vs Q E hr h => ?_), T.g__law_ends_right, Fn.kp⟩
  · obtain ⟨_, _, _, ⟨_, _, rfl, _⟩, _⟩ := h
    rfl
  · obtain ⟨⟨⟨qs, f⟩, A, W⟩, S, hS, ⟨va, vb, rfl, hv, hf⟩, k⟩ := h
    have A : AkOk qs := A
    have W : WtOk f := W
    refine ⟨_, pss_cons (ps_par (i := 2) (j := 3) rfl sc__law_ends_right.nd rfl rfl (by decide) rfl rfl (pa_cons (StX.pe_makeR T.mk_Shelf ((ok_Shelf___init__ T).mono (by decide : 9 ≤ 55)).run (hr.mono
        (by decide)) rfl T.g_Shelf pass0 (pa_cons (pe_lst pa_nil) pa_nil)) (pa_cons (pe_fk1 ((ok_narrow_shelf T).mono (by decide : 55 ≤ 56)) (hr.mono (by decide)) (pa_cons (pv 0) pa_nil) (pk_cons (pv
        1) pk_nil)) pa_nil)) rfl) (pss_cons (ps_if (pt_cmpR (r := rNeD K) (op_neD hr.units) (pe_fk1 ((ok_least_more T).mono (by decide : 56 ≤ 56)) (hr.mono (by decide)) (pa_cons (pv 0) (pa_cons (pv 2)
        pa_nil)) (pk_cons (pv 1) pk_nil)) (pe_tup (pa_cons (pe_f ((ok_fewest T).mono (by decide : 55 ≤ 56)) (hr.mono (by decide)) (pa_cons (pv 0) pa_nil)) (pa_cons (pe_fk1 ((ok_least_cost T).mono (by
        decide : 55 ≤ 56)) (hr.mono (by decide)) (pa_cons (pv 0) pa_nil) (pk_cons (pv 1) pk_nil)) pa_nil))) (nomark _)) (pss_one (ps_ret pe_bl)) pss_nil) (pss_cons (ps_if (pt_cmpR op_ne (pe_fk1
        ((ok_least_added T).mono (by decide : 55 ≤ 56)) (hr.mono (by decide)) (pa_cons (pv 0) (pa_cons (pv 2) pa_nil)) (pk_cons (pv 1) pk_nil)) (pe_fk1 ((ok_least_cost T).mono (by decide : 55 ≤ 56))
        (hr.mono (by decide)) (pa_cons (pv 0) pa_nil) (pk_cons (pv 1) pk_nil)) (nomark _)) (pss_one (ps_ret pe_bl)) pss_nil) (pss_cons (ps_if (PW.pt (pw_or (pt_cmpR (r := rNeD K) (op_neD hr.units)
        (pe_fk1 ((ok_least_more T).mono (by decide : 56 ≤ 56)) (hr.mono (by decide)) (pa_cons (pv 0) (pa_cons (pv 3) pa_nil)) (pk_cons (pv 1) pk_nil)) (pe_tup (pa_cons pe_int (pa_cons pe_int pa_nil)))
        (nomark _)) (pw_or1 (pt_cmpR op_ne (pe_fk1 ((ok_least_added T).mono (by decide : 55 ≤ 56)) (hr.mono (by decide)) (pa_cons (pv 0) (pa_cons (pv 3) pa_nil)) (pk_cons (pv 1) pk_nil)) pe_int
        (nomark _))))) (pss_one (ps_ret pe_bl)) pss_nil) (pss_one (ps_ret (pe_and (pe_cmpR (op_eqO ((ok_Shelf___eq__ T).mono (by decide : 1 ≤ 56)) (hr.mono (by decide))) (pe_fk1 ((ok_more_shelf
        T).mono (by decide : 56 ≤ 56)) (hr.mono (by decide)) (pa_cons (pv 0) (pa_cons (pv 3) pa_nil)) (pk_cons (pv 1) pk_nil)) (pv 2) (nomark _)) (pe_one (pe_cmpR (op_eqO ((ok_Shelf___eq__ T).mono (by
        decide : 1 ≤ 56)) (hr.mono (by decide))) (pe_fk1 ((ok_led_on T).mono (by decide : 55 ≤ 56)) (hr.mono (by decide)) (pa_cons (pv 0) (pa_cons (pv 3) pa_nil)) (pk_cons (pv 1) pk_nil)) (pv 3)
        (nomark _))))))))), ?_⟩
    have DZ : LdAsk qs [] f := ⟨A, shOk_nil, W, by have := (left_ok A (rs := [])).len; show _ + 0 ≤ 48; omega, by show 0 * _ ≤ 90; omega⟩
    refine q_par (g_shelf (rs := []) (g_lst ga_d0 (by decide)) shOk_nil) up_i1 (c_ns A W (g_var rfl hv up_i1) (g_var rfl hf up_hv)) (.refl hS) fun x y S1 H1 e1 s1 hz ⟨m, gm, hn1⟩ => ?_
    have hv1 := up_i1 _ _ _ s1 hv
    have hf1 := up_hv _ _ _ s1 hf
    have No := nsh_ok A W gm
    have nle := nsh_le A W gm
    have nf : left (nsh qs m) qs = [] := nsh_left A W gm
    generalize nsh qs m = N at *
    have al := A.len
    have DN : LdAsk qs N f := ⟨A, No, W, by rw [nf]; show 0 + N.length ≤ 48; omega, by rw [nf]; show N.length * 0 ≤ 90; omega⟩
    have an : addV f N qs = 0 := by
      have h1 := led_ge DN.lot
      have h2 := led_le (left_ok A) W DN.lot
      have h3 : costV f (left N qs) = 0 := by rw [nf]; exact cost_nil
      unfold addV
      omega
    have lz : G (tK 2 (sp_least_more K) (tCons (tVar 0) (tCons (tVar 2) tNil)) (tCons (tVar 1) tNil)) [some va, some vb, some x, some y] S1 (D K (.tuple [.int (fewV qs : Nat), .int (costV f qs)])) := by
      have := c_lm (K := K) (σ := [some va, some vb, some x, some y]) (S := S1) (ta := tVar 0) (tb := tVar 2) (tz := tVar 1) A shOk_nil W (g_var rfl hv1 up_i1) (g_var rfl hz up_i1) (g_var rfl hf1 up_hv)
      rw [left_none] at this
      exact this
    refine q_no (gt_eq (gt_test (g_neD (e := .tuple [.int (fewV qs : Nat), .int (costV f qs)]) lz (g_tup (ga_dc (g_dInt (c_few A (g_var rfl hv1 up_i1))) (ga_dc (g_dInt (c_lc A W (g_var rfl hv1 up_i1) (g_var rfl hf1 up_hv))) ga_d0)) (by simp)) (flt_ii _ _).sh (flt_ii _ _).sh)) (by rw [eqv_ii]; rfl)) e1 fun S2 H2 e2 s2 => ?_
    have hv2 := up_i1 _ _ _ s2 hv1
    have hf2 := up_hv _ _ _ s2 hf1
    have hz2 := up_i1 _ _ _ s2 hz
    have hn2 := up_i1 _ _ _ s2 hn1
    refine q_no (gt_test (g_neI (c_la DZ (g_var rfl hv2 up_i1) (g_var rfl hz2 up_i1) (g_var rfl hf2 up_hv)) (c_lc A W (g_var rfl hv2 up_i1) (g_var rfl hf2 up_hv)) add_none)) e2 fun S3 H3 e3 s3 => ?_
    have hv3 := up_i1 _ _ _ s3 hv2
    have hf3 := up_hv _ _ _ s3 hf2
    have hz3 := up_i1 _ _ _ s3 hz2
    have hn3 := up_i1 _ _ _ s3 hn2
    have ln : G (tK 2 (sp_least_more K) (tCons (tVar 0) (tCons (tVar 3) tNil)) (tCons (tVar 1) tNil)) [some va, some vb, some x, some y] S3 (D K (.tuple [.int 0, .int 0])) := by
      have := c_lm (K := K) (σ := [some va, some vb, some x, some y]) (S := S3) (ta := tVar 0) (tb := tVar 3) (tz := tVar 1) A No W (g_var rfl hv3 up_i1) (g_var rfl hn3 up_i1) (g_var rfl hf3 up_hv)
      rw [nf, few_nil, cost_nil] at this
      exact this
    refine q_no (gt_eq (gt_or (gt_test (g_neD (e := .tuple [.int 0, .int 0]) ln (g_tup (ga_dc (g_dInt g_c) (ga_dc (g_dInt g_c) ga_d0)) (by simp)) (flt_ii _ _).sh (flt_ii _ _).sh)) fun _ => gt_test (g_neI (c_la DN (g_var rfl hv3 up_i1) (g_var rfl hn3 up_i1) (g_var rfl hf3 up_hv)) g_c an)) (by rw [eqv_ii]; rfl)) e3 fun S4 H4 e4 s4 => ?_
    have hv4 := up_i1 _ _ _ s4 hv3
    have hf4 := up_hv _ _ _ s4 hf3
    have hz4 := up_i1 _ _ _ s4 hz3
    have hn4 := up_i1 _ _ _ s4 hn3
    refine s_retK (R := Is (.bl true)) (g_eq (g_and (a := decide (([] : List (List Str)) = [])) (b := decide (N = N)) (g_eqO shOk_nil shOk_nil ((c_ms A No W (g_var rfl hv4 up_i1) (g_var rfl hn4 up_i1) (g_var rfl hf4 up_hv)).imp ?_) (g_var rfl hz4 up_i1)) fun _ => g_eqO No No ((c_lo DN (g_var rfl hv4 up_i1) (g_var rfl hn4 up_i1) (g_var rfl hf4 up_hv)).imp ?_) (g_var rfl hn4 up_i1)) (by rw [decide_eq_true rfl, decide_eq_true rfl]; rfl)) e4 k
    · rintro v S' _ ⟨m2, _, h⟩
      rw [nf] at h
      exact h
    · rintro v S' _ ⟨m2, g2, h⟩
      have I := DN.lot
      rw [nf] at h g2 I
      rw [ldsh_none No I g2] at h
      exact h
end
section
variable {K : PySem.W.Frag} {σ : L2.St} {S : Hp} {ta tb te tr : TE} {t : TA}
theorem g_mk1X {C f : Str} {α : Type} {A : α → List V → Hp → Prop} {d : α → PyData} {Pp : α → Prop} (h : GA t σ S (fun vs S => ∃ a, Pp a ∧ A a vs S)) (hu : ∀ a vs S S', Same S S' → A a vs S → A a vs S') : G (StX.tMakeR (He.ga K C) (spMk1 K C f A d) E0 t) σ S (fun v S => ∃ a, Pp a ∧ I1 K C f (d a) v S) := fun S1 H1 e b Q q =>
  h S1 H1 e b _ fun vs S2 H2 e2 ⟨a, pa, r⟩ => (g_mk1 (σ := σ) (t := fun _ H Q => Q vs H) (a := a) (S := S2) (fun S3 H3 e3 b3 Q q => q vs S3 H3 (.refl b3) (hu _ _ _ _ e3 r)) (hu a)) S2 H2 (Same.refl _) e2.sh Q fun v S3 H3 e3 rv => q v S3 H3 (e2.trans e3) ⟨a, pa, rv⟩
theorem g_callK0X {α : Type} {A : α → List V → Hp → Prop} {R : α → Rel} {Pp : α → Prop} (h : GA t σ S (fun vs S => ∃ a, Pp a ∧ A a (vs ++ [.non]) S)) : G (tCall (Pu A R) [.non] E0 t) σ S (fun v S => ∃ a, Pp a ∧ R a v S) := fun S1 H1 e b Q q =>
  h S1 H1 e b _ fun vs S2 H2 e2 ⟨a, pa, r⟩ => ⟨a, S2, e2.sh, r, fun v S3 H3 e3 rv => q v S3 H3 (e2.trans e3) ⟨a, pa, rv⟩⟩
/-- Asked(..), Shelf(..) of what is not told -/
theorem g_askedX {P : List Qn → Prop} (h : G te σ S (SomeL K encQ fun qs => (∀ q ∈ qs, QOk q) ∧ qs.length ≤ 15 ∧ P qs)) : G (StX.tMakeR (He.ga K "Asked") (sp_Asked___init__ K) E0 (tCons te tNil)) σ S (fun v S => ∃ qs, P qs ∧ (AkOk (canonQ qs) ∧ (canonQ qs).length ≤ qs.length) ∧ AskedV K (canonQ qs) v S) :=
  (g_mk1X (Pp := fun (qs : {qs : List Qn // (∀ q ∈ qs, QOk q) ∧ qs.length ≤ 48}) => P qs.1 ∧ AkOk (canonQ qs.1)) ((ga_one h).imp fun vs S2 _ ⟨v, ev, qs, ⟨h1, h2, h3⟩, r⟩ => ⟨⟨qs, h1, by omega⟩, ⟨h3, canonQ_asc qs, fun q hq => h1 q (canonQ_mem.mp hq), Nat.le_trans canonQ_len h2⟩, v, ev, r.d⟩) fun _ => d_up).imp fun v S2 _ ⟨qs, ⟨h1, h2⟩, h3⟩ => ⟨qs.1, h1, ⟨h2, canonQ_len⟩, h3⟩
theorem g_shelfX {P : List (List Str) → Prop} (h : G te σ S (SomeL K encC fun rs => ShOk rs ∧ P rs)) : G (StX.tMakeR (He.ga K "Shelf") (sp_Shelf___init__ K) E0 (tCons te tNil)) σ S (fun v S => ∃ rs, (ShOk rs ∧ P rs) ∧ ShelfV K rs v S) :=
  (g_mk1X (Pp := fun (rs : {rs : List (List Str) // ShOk rs}) => P rs.1) ((ga_one h).imp fun vs S2 _ ⟨v, ev, rs, ⟨h1, h2⟩, r⟩ => ⟨⟨rs, h1⟩, h2, v, ev, r.d⟩) fun _ => d_up).imp fun v S2 _ ⟨rs, h1, h2⟩ => ⟨rs.1, ⟨rs.2, h1⟩, h2⟩
/-- shelf.with_index(..) of what is not told -/
theorem g_withX {rs : List (List Str)} (B : ShOk rs) (hl : rs.length ≤ 40) (h : G tr σ S (ShelfV K rs)) (hb : G tb σ S (fun v S => ∃ r, IxOk r ∧ D K (encC r) v S)) :
    G (tM "Shelf" "with_index" K (sp_Shelf_with_index K) tr (tCons tb tNil)) σ S (fun v S => ∃ r, (IxOk r ∧ ShOk (rs ++ [r])) ∧ ShelfV K (rs ++ [r]) v S) := fun S1 H1 e b Q q =>
  h S1 H1 e b _ fun v S2 H2 e2 r => by
    have r0 := r
    obtain ⟨p, dx, t, rfl, h4, _⟩ := r0
    refine ⟨p, dx, _, rfl, e2.sh _ _ h4, by rfl, ga_one hb S2 H2 (e.trans e2.ss) e2.sh _ fun vs S3 H3 e6 ⟨y, ey, x, hx, ry⟩ => ?_⟩
    have ok : ShOk (rs ++ [x]) := ⟨fun z hz => (List.mem_append.mp hz).elim (B.ok z) fun w => by rw [List.mem_singleton.mp w]; exact hx, by rw [List.length_append]; simp; omega⟩
    exact ⟨⟨(rs, x), ok⟩, S3, e6.sh, ⟨_, y, by rw [ey], up_i1 _ _ _ e6.ss r, ry⟩, fun v S4 H4 e7 rv => q v S4 H4 ((e2.trans e6).trans e7) ⟨x, ⟨hx, ok⟩, rv⟩⟩
/-- for x in (a, b) -/
theorem gi_pair {α : Type} {RI : α → Rel} {a b : α} (u : ∀ a, Up (RI a)) (h : GA t σ S (fun vs H => ∃ v w, vs = [v, w] ∧ RI a v H ∧ RI b w H)) : GI (iTup K (tTup t)) σ S [a, b] RI := fun S1 H1 e bb R q => by
    refine h S1 H1 e bb _ fun vs S2 H2 e2 r => ?_
    obtain ⟨v, w, rfl, r1, r2⟩ := r
    refine ⟨by show 2 ≤ sizeLine; decide, fun p hp => ⟨p, rfl, ⟨[v, w], SqT.of upd_same⟩, q _ (upd S2 p (.tup [v, w])) _ (e2.trans (Gw.new e2.sh hp)) ?_⟩⟩
    have hn := Same.new (o := .tup [v, w]) (e2.sh.free hp)
    have wk := walk_tup (K := K) (a := p) (xs := [v, w])
    refine wk.mono (fun H' e' => Same.sqT e' (SqT.of upd_same)) fun i H x H' hi eG ⟨e3, hx⟩ S' s1 s2 => ?_
    subst e3
    refine ⟨S', .refl s2, ?_⟩
    match i, hx with
    | 0, hx =>
      cases hx
      exact ⟨a, rfl, u _ _ _ _ (hn.trans s1) r1⟩
    | 1, hx =>
      cases hx
      exact ⟨b, rfl, u _ _ _ _ (hn.trans s1) r2⟩
end
section
variable {P : Program} {w : World} {K : PySem.W.Frag} {mg : Str → Option Value} {base : Heap}
theorem fn_top {name qual : Str} {params : Arguments} {body : List Stmt} {scope : Scope} {f : Addr} {fd : FuncData} {N ps : List Str} {k : Nat} {sp : Sp} {kws : List (Str × V)}
    (F : FunD K name qual params body scope [] kws f fd) (S : FnScope N ps scope) (len : ∀ vs H Q E, sp vs H Q E → vs.length = ps.length)
    (hbody : ∀ (cdv : Value) (A : Around) (outer : List Env) (s : Shared) (H : Hp) (vs : List V) (Q : VK) (E : XK), Room k (A.deeper (envOfC qual scope s.heap.objs.size f cdv)) → sp vs H Q E →
      ∃ t, PSs (cxOf CX0 P w K mg base N qual scope f cdv A outer s H E).nox body t ∧ t { nx := fun _ H' => Q .non H', rt := Q } (start N vs) H) : FnOk P w K mg base CX0 (k + 1) f fd ps sp :=
  F.ok (CX := CX0) (P := P) (w := w) (mg := mg) (base := base) (k := k) S len fun cdv A outer s H vs Q E hr h => by
    obtain ⟨t, h1, h2⟩ := hbody cdv A outer s H vs Q E hr h
    exact ⟨t, h1.nox, h2⟩
abbrev n_law : List Str := ["_law_script", "_law_bag_here", "_law_turn", "_law_names_here", "_law_table_here", "_law_asked", "_law_heavy_here", "_law_standing", "_law_more", "_law_shelf"]
theorem sc_law : FnScope n_law ["_law_script"] (defScope s_law) := ⟨rfl, rfl, rfl, by decide +kernel, rfl, by decide +kernel, by decide +kernel⟩
abbrev sp_law (K : PySem.W.Frag) : Sp := Pu (fun (ns : List Int) => A1 (D K (.list (ns.map .int)))) (fun _ => Is (.bl true))
theorem ok_law (T : Fx K mg) {fd : FuncData} (Fn : FunD K d_law.name d_law.qual (defArgs s_law) (defBody s_law) (defScope s_law) [] (d_law.kws K) (He.fAd K d_law.at_) fd) : FnOk P w K mg base CX0 60 (He.ga K "law") fd ["_law_script"] (sp_law K) := by
  refine fn_top Fn sc_law (fun vs H Q E h => ?_) (fun cdv A outer s H vs Q E hr h => ?_)
  · obtain ⟨_, _, _, ⟨_, rfl, _⟩, _⟩ := h
    rfl
  · obtain ⟨ns, S, hS, ⟨va, rfl, hv⟩, k⟩ := h
    refine ⟨_, pss_cons (ps_set (i := 1) sc_law.nd rfl (by first | exact Or.inl rfl | exact Or.inr rfl) (pe_f ((ok__law_bag T).mono (by decide : 1 ≤ 58)) (hr.mono (by decide)) (pa_cons (pv 0) pa_nil)))
        (pss_cons (ps_for PassesOwn.never rfl (pi_range1 rfl T.b_range (pa_cons pe_int pa_nil)) (pg_name (i := 2) sc_law.nd rfl (by first | exact Or.inl rfl | exact Or.inr rfl)) (pss_cons (ps_set (i
        := 3) sc_law.nd rfl (by first | exact Or.inl rfl | exact Or.inr rfl) (pe_f ((ok__law_names T).mono (by decide : 3 ≤ 58)) (hr.mono (by decide)) (pa_cons (pv 1) (pa_cons (pe_op op_add pe_int
        (pe_f ((ok__law_take T).mono (by decide : 1 ≤ 58)) (hr.mono (by decide)) (pa_cons (pv 1) (pa_cons pe_int pa_nil)))) pa_nil)))) (pss_cons (ps_par (i := 4) (j := 5) rfl sc_law.nd rfl rfl
        (by decide) rfl rfl (pa_cons (pe_f ((ok__law_table T).mono (by decide : 3 ≤ 58)) (hr.mono (by decide)) (pa_cons (pv 1) (pa_cons (pv 3) pa_nil))) (pa_cons (StX.pe_makeR T.mk_Asked
        ((ok_Asked___init__ T).mono (by decide : 10 ≤ 57)).run (hr.mono (by decide)) rfl T.g_Asked pass0 (pa_cons (pe_f ((ok__law_questions T).mono (by decide : 8 ≤ 58)) (hr.mono (by decide)) (pa_cons
        (pv 1) (pa_cons (pv 3) (pa_cons pe_int pa_nil)))) pa_nil)) pa_nil)) rfl) (pss_cons (ps_par (i := 6) (j := 7) rfl sc_law.nd rfl rfl (by decide) rfl rfl (pa_cons (pe_f ((ok__law_heavy T).mono
        (by decide : 5 ≤ 58)) (hr.mono (by decide)) (pa_cons (pv 1) (pa_cons (pv 4) pa_nil))) (pa_cons (StX.pe_makeR T.mk_Shelf ((ok_Shelf___init__ T).mono (by decide : 9 ≤ 57)).run (hr.mono
        (by decide)) rfl T.g_Shelf pass0 (pa_cons (pe_f ((ok__law_indexes T).mono (by decide : 4 ≤ 58)) (hr.mono (by decide)) (pa_cons (pv 1) (pa_cons (pv 3) (pa_cons pe_int pa_nil)))) pa_nil))
        pa_nil)) rfl) (pss_cons (ps_if (pt_cmpR op_eq (pe_f ((ok__law_take T).mono (by decide : 1 ≤ 58)) (hr.mono (by decide)) (pa_cons (pv 1) (pa_cons pe_int pa_nil))) pe_int (nomark _)) (pss_one
        (ps_set (i := 7) sc_law.nd rfl (by first | exact Or.inl rfl | exact Or.inr rfl) (pe_fk0 ((ok_narrow_shelf T).mono (by decide : 55 ≤ 58)) (hr.mono (by decide)) (pa_cons (StX.pe_makeR T.mk_Asked
        ((ok_Asked___init__ T).mono (by decide : 10 ≤ 57)).run (hr.mono (by decide)) rfl T.g_Asked pass0 (pa_cons (pe_f ((ok__law_questions T).mono (by decide : 8 ≤ 58)) (hr.mono (by decide)) (pa_cons
        (pv 1) (pa_cons (pv 3) (pa_cons pe_int pa_nil)))) pa_nil)) pa_nil) pk_nil))) pss_nil) (pss_cons (ps_set (i := 8) sc_law.nd rfl (by first | exact Or.inl rfl | exact Or.inr rfl) (pe_mK (K := K)
        ((ok_Shelf_with_index T).mono (by decide : 11 ≤ 58)) (hr.mono (by decide)) (pv 7) (pa_cons (pe_f ((ok__law_index T).mono (by decide : 3 ≤ 58)) (hr.mono (by decide)) (pa_cons (pv 1) (pa_cons
        (pv 3) pa_nil))) pa_nil))) (pss_cons (ps_for PassesOwn.never rfl (pi_tupK (K := K) (pe_tup (pa_cons (pv 7) (pa_cons (pv 8) pa_nil)))) (pg_name (i := 9) sc_law.nd rfl
        (by first | exact Or.inl rfl | exact Or.inr rfl)) (pss_one (ps_if (pt_not (pt_val (pe_f ((ok__law_right T).mono (by decide : 58 ≤ 58)) (hr.mono (by decide)) (pa_cons (pv 5) (pa_cons (pv 9)
        (pa_cons (pv 6) pa_nil)))))) (pss_one (ps_ret pe_bl)) pss_nil))) (pss_cons (ps_if (pt_cmpR op_gt (pe_ix (r := rIxT K) ix_tup (pe_fk1 ((ok_least_more T).mono (by decide : 56 ≤ 58)) (hr.mono
        (by decide)) (pa_cons (pv 5) (pa_cons (pv 8) pa_nil)) (pk_cons (pv 6) pk_nil)) pe_int (fun _ _ => rfl)) (pe_ix (r := rIxT K) ix_tup (pe_fk1 ((ok_least_more T).mono (by decide : 56 ≤ 58))
        (hr.mono (by decide)) (pa_cons (pv 5) (pa_cons (pv 7) pa_nil)) (pk_cons (pv 6) pk_nil)) pe_int (fun _ _ => rfl)) (nomark _)) (pss_one (ps_ret pe_bl)) pss_nil) (pss_cons (ps_if (pt_cmpR op_gt
        (pe_fk1 ((ok_least_added T).mono (by decide : 55 ≤ 58)) (hr.mono (by decide)) (pa_cons (pv 5) (pa_cons (pv 8) pa_nil)) (pk_cons (pv 6) pk_nil)) (pe_fk1 ((ok_least_added T).mono (by decide : 55
        ≤ 58)) (hr.mono (by decide)) (pa_cons (pv 5) (pa_cons (pv 7) pa_nil)) (pk_cons (pv 6) pk_nil)) (nomark _)) (pss_one (ps_ret pe_bl)) pss_nil) (pss_one (ps_if (pt_not (pt_val (pe_f
        ((ok__law_ends_right T).mono (by decide : 57 ≤ 58)) (hr.mono (by decide)) (pa_cons (pv 5) (pa_cons (pv 6) pa_nil))))) (pss_one (ps_ret pe_bl)) pss_nil))))))))))) (pss_one (ps_ret pe_bl))), ?_⟩
    refine q_set (R := BagV) (g_call (R := fun _ => BagV) (a := ns) (ga_one (g_var rfl hv .d))) (.refl hS) fun vg S1 H1 e1 s1 hb => ?_
    refine q_for (gi_range1 (n := 3) g_c (by decide)) e1.sh fun S2 H2 e2 => ⟨fun i σ' S' H' => (Gw S H S' H' ∧ Same S2 S') ∧ ∃ x2 x3 x4 x5 x6 x7 x8 x9, σ' = [some va, some vg, x2, x3, x4, x5, x6, x7, x8, x9],
      ⟨⟨e1.trans e2, Same.refl _⟩, _, _, _, _, _, _, _, _, rfl⟩, fun i σ' S' H' h => ⟨h.1.2, h.1.1.sh⟩, ?_, ?_⟩
    · rintro i n x σ' S3 H3 S4 H4 hx ⟨⟨g3, s3⟩, x2, x3, x4, x5, x6, x7, x8, x9, rfl⟩ e4 rx
      have g4 := g3.trans e4
      have s24 : Same S2 S4 := s3.trans e4.ss
      have hb4 := up_bag _ _ _ (e2.ss.trans s24) hb
      refine q_set (R := SomeL K PyData.str NmOk) ((g_callX (α := {j : Nat // 1 ≤ j ∧ j ≤ 12}) (A := fun j => A2 BagV (Is (.int (j.1 : Nat)))) (Rr := fun _ => SomeL K .str NmOk) (Pp := fun _ => True) ((ga_two (g_var rfl hb4 up_bag) up_bag (g_take1 (g_take (j := 7) (g_var rfl hb4 up_bag) g_c (by decide) (by decide)))).imp fun vs S _ ⟨v, u, e, h1, i, h2, h3, h4⟩ => ⟨⟨i, h3, by omega⟩, trivial, v, u, e, h1, h2⟩)).imp fun v S _ ⟨_, _, h⟩ => h) (.refl e4.sh) fun vn S5 H5 e5 s5 hn => ?_
      obtain ⟨cs, hc, hn⟩ := hn
      have hn5 : D K (.list (cs.map PyData.str)) vn S5 := hn.d
      have hb5 := up_bag _ _ _ s5 hb4
      have aq : ∀ (most : Nat) (hm : most ≤ 15) {σ : L2.St} {S : Hp}, σ[1]? = some (some vg) → σ[3]? = some (some vn) → Same S5 S → G (StX.tMakeR (He.ga K "Asked") (sp_Asked___init__ K) E0 (tCons (tF (sp__law_questions K) (tCons (tVar 1) (tCons (tVar 3) (tCons (tC (.int (most : Nat))) tNil)))) tNil)) σ S (fun v S => ∃ qs, qs.length ≤ most ∧ (AkOk (canonQ qs) ∧ (canonQ qs).length ≤ qs.length) ∧ AskedV K (canonQ qs) v S) := fun most hm σ S h1 h3 ss =>
        g_askedX ((g_call (R := fun (z : {z : List Str × Nat // NmOk z.1 ∧ z.2 ≤ 100}) => SomeL K encQ fun qs => (∀ q ∈ qs, QOk q) ∧ qs.length ≤ z.1.2) (a := (⟨(cs, most), hc, by omega⟩ : {z : List Str × Nat // NmOk z.1 ∧ z.2 ≤ 100})) (ga_three (g_var h1 (up_bag _ _ _ ss hb5) up_bag) up_bag (g_var h3 (Dp.up ss hn5) .d) .d g_c)).imp fun v S _ ⟨qs, ⟨h1, h2⟩, h3⟩ => ⟨qs, ⟨h1, by have h2 : qs.length ≤ most := h2; omega, h2⟩, h3⟩)
      refine q_par (R := fun v S => ∃ tb, TbOk tb ∧ TbR tb v S) (g_call (R := fun (_ : {cs : List Str // NmOk cs}) v S => ∃ tb, TbOk tb ∧ TbR tb v S) (a := (⟨cs, hc⟩ : {cs : List Str // NmOk cs})) (ga_two (g_var rfl hb5 up_bag) up_bag (g_var rfl hn5 .d))) (up_ex fun _ => up_tb) (aq 15 (by decide) rfl rfl (Same.refl _)) e5 fun vt vq S6 H6 e6 s6 ⟨tb, htb, ht6⟩ ⟨qs0, hq0, ⟨A, hlq⟩, hq6⟩ => ?_
      generalize canonQ qs0 = qs at *
      have hb6 := up_bag _ _ _ s6 hb5
      have hn6 := Dp.up s6 hn5
      refine q_par (R := fun v S => ∃ f, WtOk f ∧ HvV K f v S) (g_call (R := fun (_ : {tb : TB // TbOk tb}) v S => ∃ f, WtOk f ∧ HvV K f v S) (a := (⟨tb, htb⟩ : {tb : TB // TbOk tb})) (ga_two (g_var rfl hb6 up_bag) up_bag (g_var rfl ht6 up_tb))) (up_ex fun _ => up_hv) (g_shelfX (P := fun rs => rs.length ≤ 5) ((g_call (R := fun (z : {z : List Str × Nat // NmOk z.1 ∧ z.2 ≤ 100}) => SomeL K encC fun rs => (∀ r ∈ rs, IxOk r) ∧ rs.length ≤ z.1.2) (a := (⟨(cs, 5), hc, show 5 ≤ 100 by decide⟩ : {z : List Str × Nat // NmOk z.1 ∧ z.2 ≤ 100})) (ga_three (g_var rfl hb6 up_bag) up_bag (g_var rfl hn6 .d) .d g_c)).imp fun v S _ ⟨rs, ⟨h1, h2⟩, h3⟩ => ⟨rs, ⟨⟨h1, by have h2 : rs.length ≤ 5 := h2; omega⟩, h2⟩, h3⟩)) e6 fun vf vr S7 H7 e7 s7 ⟨f, W, hf7⟩ ⟨rs0, ⟨hr0, hl0⟩, hr7⟩ => ?_
      have hb7 := up_bag _ _ _ s7 hb6
      have hn7 := Dp.up s7 hn6
      have hq7 := up_i1 _ _ _ s7 hq6
      refine s_have (M := fun σ' H' => ∃ vr rs S', σ' = [some va, some vg, some x, some vn, some vt, some vq, some vf, some vr, x8, x9] ∧ Gw S4 H4 S' H' ∧ Same S7 S' ∧ ShOk rs ∧ rs.length ≤ 5 ∧ ShelfV K rs vr S') ?_ fun rest => ?_
      · rintro σ' H' ⟨vr, rs, S8, rfl, e8, s8, B, hl, hr8⟩
        have hb8 := up_bag _ _ _ s8 hb7
        have hn8 := Dp.up s8 hn7
        refine q_set (g_withX B (by omega) (g_var rfl hr8 up_i1) (g_call (R := fun (_ : {cs : List Str // NmOk cs}) v S => ∃ r, IxOk r ∧ D K (encC r) v S) (a := (⟨cs, hc⟩ : {cs : List Str // NmOk cs})) (ga_two (g_var rfl hb8 up_bag) up_bag (g_var rfl hn8 .d)))) e8 fun vm S9 H9 e9 s9 ⟨r, ⟨hr, C⟩, hm9⟩ => ?_
        have hq9 := up_i1 _ _ _ (s8.trans s9) hq7
        have hf9 := up_hv _ _ _ (s8.trans s9) hf7
        have hr9 := up_i1 _ _ _ s9 hr8
        have rt1 : RtIn qs rs f := ⟨A, B, W, by omega⟩
        have rt2 : RtIn qs (rs ++ [r]) f := ⟨A, C, W, by rw [List.length_append]; simp; omega⟩
        refine q_for (xs := [rs, rs ++ [r]]) (RI := fun rs => ShelfV K rs) (gi_pair (RI := fun rs => ShelfV K rs) (a := rs) (b := rs ++ [r]) (fun _ => up_i1) (ga_two (g_var rfl hr9 up_i1) up_i1 (g_var rfl hm9 up_i1))) e9.sh fun S10 H10 e10 => ⟨fun i σ' S' H' => (Gw S4 H4 S' H' ∧ Same S10 S') ∧ ∃ x9, σ' = [some va, some vg, some x, some vn, some vt, some vq, some vf, some vr, some vm, x9],
          ⟨⟨e9.trans e10, Same.refl _⟩, _, rfl⟩, fun i σ' S' H' h => ⟨h.1.2, h.1.1.sh⟩, ?_, ?_⟩
        · rintro j ts y σ' S11 H11 S12 H12 hj ⟨⟨g11, s11⟩, z, rfl⟩ e12 ry
          have ss : Same S9 S12 := e10.ss.trans (s11.trans e12.ss)
          have rts : RtIn qs ts f := by
            rcases List.mem_cons.mp (List.mem_of_getElem? hj) with rfl | h
            · exact rt1
            · cases List.mem_singleton.mp h
              exact rt2
          refine s_no (gt_eq (gt_not (gt_B (g_call (R := fun (_ : {z : (List Qn × List (List Str)) × (Str → Int) // RtIn z.1.1 z.1.2 z.2}) => Is (.bl true)) (a := (⟨((qs, ts), f), rts⟩ : {z : (List Qn × List (List Str)) × (Str → Int) // RtIn z.1.1 z.1.2 z.2})) (ga_three (g_var rfl (up_i1 _ _ _ ss hq9) up_i1) up_i1 (g_var rfl ry up_i1) up_i1 (g_var rfl (up_hv _ _ _ ss hf9) up_hv))))) rfl) (.refl e12.sh) fun S13 H13 e13 s13 => ?_
          exact ⟨S13, ⟨(g11.trans e12).trans e13, (s11.trans e12.ss).trans s13⟩, _, rfl⟩
        · rintro σ' S11 H11 ⟨⟨g11, s11⟩, z, rfl⟩
          have ss : Same S9 S11 := e10.ss.trans s11
          have hq11 := up_i1 _ _ _ ss hq9
          have hf11 := up_hv _ _ _ ss hf9
          have hr11 := up_i1 _ _ _ ss hr9
          have hm11 := up_i1 _ _ _ ss hm9
          have lm : ∀ q ∈ left (rs ++ [r]) qs, q ∈ left rs qs := fun q hq => by
            rw [left_app] at hq
            exact left_sub q hq
          have c1 : costV f (left (rs ++ [r]) qs) ≤ costV f (left rs qs) := cost_sub (left_ok A) (left_ok A) lm W
          have c2 : addV f (rs ++ [r]) qs ≤ addV f rs qs := by
            have h1 := led_more (left_ok A) (left_ok A) lm W rt1.ld.lot rt2.ld.lot
            have h2 : shc f (rs ++ [r]) = shc f rs + wsum f r := by
              rw [shc_app]
              show shc f rs + (wsum f r + 0) = _
              omega
            unfold addV
            omega
          refine q_no (gt_eq (gt_test (g_I0 (i := costV f (left (rs ++ [r]) qs)) (j := costV f (left rs qs)) (g_isInt (g_ixT (i := 1) (c_lm A C W (g_var rfl hq11 up_i1) (g_var rfl hm11 up_i1) (g_var rfl hf11 up_hv)) (g_c (v := .int 1)) rfl)) (g_isInt (g_ixT (i := 1) (c_lm A B W (g_var rfl hq11 up_i1) (g_var rfl hr11 up_i1) (g_var rfl hf11 up_hv)) (g_c (v := .int 1)) rfl)))) (decide_eq_false (by omega))) g11 fun S12 H12 e12 s12 => ?_
          have hq12 := up_i1 _ _ _ s12 hq11
          have hf12 := up_hv _ _ _ s12 hf11
          refine q_no (gt_eq (gt_test (g_I0 (i := addV f (rs ++ [r]) qs) (j := addV f rs qs) (c_la rt2.ld (g_var rfl hq12 up_i1) (g_var rfl (up_i1 _ _ _ s12 hm11) up_i1) (g_var rfl hf12 up_hv)) (c_la rt1.ld (g_var rfl hq12 up_i1) (g_var rfl (up_i1 _ _ _ s12 hr11) up_i1) (g_var rfl hf12 up_hv)))) (decide_eq_false (by omega))) e12 fun S13 H13 e13 s13 => ?_
          have hq13 := up_i1 _ _ _ s13 hq12
          have hf13 := up_hv _ _ _ s13 hf12
          refine s_no (gt_eq (gt_not (gt_B (g_call (R := fun (_ : {z : List Qn × (Str → Int) // AkOk z.1 ∧ WtOk z.2}) => Is (.bl true)) (a := (⟨(qs, f), A, W⟩ : {z : List Qn × (Str → Int) // AkOk z.1 ∧ WtOk z.2})) (ga_two (g_var rfl hq13 up_i1) up_i1 (g_var rfl hf13 up_hv))))) rfl) e13 fun S14 H14 e14 s14 => ?_
          exact ⟨S14, ⟨g3.trans (e4.trans e14), s24.trans e14.ss⟩, _, _, _, _, _, _, _, _, rfl⟩
      · refine s_ifx (gtx_eq (g_take (j := 3) (g_var rfl hb7 up_bag) g_c (by decide) (by decide))) e7 (fun S8 H8 e8 s8 => ?_) fun S8 H8 e8 s8 => rest _ _ ⟨vr, rs0, S8, rfl, e8, s8, hr0, hl0, up_i1 _ _ _ s8 hr7⟩
        have s58 := (s6.trans s7).trans s8
        refine s_setK (R := fun v S => ∃ rs, (ShOk rs ∧ rs.length ≤ 5) ∧ ShelfV K rs v S) ((g_callK0X (α := {z : List Qn × (Str → Int) // AkOk z.1 ∧ WtOk z.2}) (A := fun z => A2 (AskedV K z.1.1) (HvV K z.1.2)) (R := fun z v S => ∃ m, LotGood (z.1.1.map (wq z.1.2)) (prs z.1.1) m ∧ ShelfV K (nsh z.1.1 m) v S) (Pp := fun z => z.1.1.length ≤ 4) ((ga_one (aq 4 (by decide) rfl rfl s58)).imp fun vs S _ ⟨v, e, qs1, h1, ⟨h2, h3⟩, h4⟩ => ⟨⟨(canonQ qs1, fun _ => 1), h2, ⟨fun _ => (show (1 : Int) ≤ 1 by decide), fun _ => (show (1 : Int) ≤ 10 ^ 30 by decide)⟩⟩, by have h1 : qs1.length ≤ 4 := h1; show (canonQ qs1).length ≤ 4; omega, v, .non, by rw [e]; rfl, h4, .inl ⟨rfl, rfl⟩⟩)).imp fun v S _ ⟨z, h1, m, h2, h3⟩ => ⟨nsh z.1.1 m, ⟨nsh_ok z.2.1 z.2.2 h2, by have := nsh_le z.2.1 z.2.2 h2; omega⟩, h3⟩) e8 fun v S9 H9 e9 s9 ⟨rs, ⟨h1, h2⟩, h3⟩ => rest _ _ ⟨v, rs, S9, rfl, e9, s8.trans s9, h1, h2, h3⟩
    · rintro σ' S3 H3 ⟨⟨g3, s3⟩, x2, x3, x4, x5, x6, x7, x8, x9, rfl⟩
      exact k _ _ _ g3 rfl
end
end NK
end

section
set_option Elab.async false
set_option linter.all false
set_option maxRecDepth 100000
set_option maxHeartbeats 0
namespace NK
open PySem PySem.Spec PyProof.Rows L2
abbrev R : PySem.W.OpenRow := PySem.W.OpenLaw.row PySem.Challenge.rw_narrowkeys_k01_whole_standing_led_on_and
/-- what an object names -/
def offs (g : Addr → Option Obj) (a : Addr) : List Addr := match g a with
  | some o => He.refsD o
  | none => []
def isCls (g : Addr → Option Obj) (a : Addr) : Bool := match g a with
  | some ⟨_, _, .cls _, _⟩ => true
  | _ => false
def isFun (g : Addr → Option Obj) (a : Addr) : Bool := match g a with
  | some ⟨_, _, .func _, _⟩ => true
  | _ => false
/-- the globals, the classes with their dicts and methods, the codes of all functions -/
def adrs (g : Addr → Option Obj) : List Addr :=
  let a1 := offs g mainGlobals
  let cs := a1.filter (isCls g)
  let fs := a1.filter (isFun g)
  let ns := cs.flatMap (offs g)
  let ms := (ns.flatMap (offs g)).filter (isFun g)
  mainGlobals :: (cs ++ (ns ++ (fs ++ (ms ++ (fs.flatMap (offs g) ++ ms.flatMap (offs g))))))
def frN (g : Addr → Option Obj) : PySem.W.Frag := He.frG g (adrs g)
/-- what the facts of HandS.HeadHook1 do not name: the class Shelf's own ways -/
def exB (K : PySem.W.Frag) : Bool := PySem.W.selfFirst K (He.ga K "Shelf") && (decide (PySem.W.findIn K (.ref (He.ga K "Shelf")) "__class__" = some (some (.builtin "object.__class__"))) &&
  (decide (PySem.W.specialIn K (.builtin "object.__class__") "__get__" = some (some (.builtin "getset_descriptor.__get__"))) && (decide (PySem.W.takesIn K (.builtin "object.__class__") = some true) && decide (PySem.W.mroIn K (He.ga K "Shelf") (.type "object") = some true))))
theorem exB_fx {K : PySem.W.Frag} {mg : Str → Option Value} (c : He.SaysD fa fn K) (e : exB K = true) (h : ∃ h, K.In h ∧ h.Ns mainGlobals mg) : Fx K mg := by
  obtain ⟨e1, e⟩ := Bool.and_eq_true_iff.mp e
  obtain ⟨e2, e⟩ := Bool.and_eq_true_iff.mp e
  obtain ⟨e3, e⟩ := Bool.and_eq_true_iff.mp e
  obtain ⟨e4, e5⟩ := Bool.and_eq_true_iff.mp e
  exact ⟨c, h, e1, of_decide_eq_true e2, of_decide_eq_true e3, of_decide_eq_true e4, of_decide_eq_true e5⟩
def hk : PySem.W.Hook where
  α := He.AlD × Bool
  obs := fun s => (He.obsD fa fn (frN s.heap.get?), exB (frN s.heap.get?))
  val := fun _ => (He.valD fn, true)
  says := fun _ h => ∃ K : PySem.W.Frag, K.In h ∧ He.SaysD fa fn K ∧ exB K = true
  of := fun _ _ e => ⟨_, He.frG_in, congrArg Prod.fst e, congrArg Prod.snd e⟩
  keeps := fun _ _ _ ⟨K, hK, c⟩ k => ⟨K, PySem.W.Frag.In.keeps hK k, c⟩
def ob (s : PySem.W.SharedT) : He.AlD × Bool := (He.obsD fa fn (frN (HandSHeadRun.getT s)), exB (frN (HandSHeadRun.getT s)))
theorem ob_eq (s : PySem.W.SharedT) : ob s = hk.obs s.abs := by
  have e : HandSHeadRun.getT s = s.abs.heap.get? := funext (HandSHeadRun.getT_eq s)
  show (He.obsD fa fn (frN (HandSHeadRun.getT s)), exB (frN (HandSHeadRun.getT s))) = (He.obsD fa fn (frN s.abs.heap.get?), exB (frN s.abs.heap.get?))
  rw [e]
theorem run (w : World) : HandSHeadRun.RunEq R (PySem.W.view R.prog [94]) hk ob 20000 loose w := by
  intro os
  kernel_rfl
theorem law_fin {P : Program} {w : World} {K : PySem.W.Frag} {mg : Str → Option Value} {h : Heap} {f : Addr} (X : K.In h) (G : h.Ns mainGlobals mg) (hfa : mg ("law" : Str) = some (.ref f)) (c : He.SaysD fa fn K) (e : exB K = true) :
    ∃ fd : FuncData, (∀ (s : Shared) (v : Value), BindsTo s fd ⟨[v], []⟩ [("_law_script", v)]) ∧ ∀ base : Heap, K.In base → base.Ns mainGlobals mg → FnOk P w K mg base CX0 60 f fd ["_law_script"] (sp_law K) := by
  have T : Fx K mg := exB_fx c e ⟨h, X, G⟩
  obtain ⟨fd, Fn⟩ := T.d_law
  have e := hfa.symm.trans T.g_law
  cases e
  have b := FunD.bindsA (ps := ["_law_script"]) Fn fun _ _ _ _ _ _ us hl => match us, hl with | [_], _ => rfl
  exact ⟨fd, fun s v => b s [v] rfl, fun base _ _ => ok_law T Fn⟩
theorem law_sp {K : PySem.W.Frag} {H : Hp} {a : Addr} {ns : List Int} (hS : SqL K H a (ns.map V.int)) : sp_law K [.ref a] H (fun v _ => v = .bl true) fun _ _ _ => False :=
  ⟨ns, H, Same.refl H, ⟨.ref a, rfl, .lst hS (DpAll.ofInts ns)⟩, fun v S' H' _ r => r⟩
end NK
open PySem PySem.W PySem.Calls PyProof.Rows
theorem PySem.Challenge.cw_narrowkeys_k01_whole_standing_led_on_and_holds : PySem.Challenge.rw_narrowkeys_k01_whole_standing_led_on_and.Holds := by
  w_on; o_law
  refine HandSHeadRun.head_any (r := OpenLaw.row PySem.Challenge.rw_narrowkeys_k01_whole_standing_led_on_and) (q := view (OpenLaw.row PySem.Challenge.rw_narrowkeys_k01_whole_standing_led_on_and).prog [94]) (H := NK.hk) (ob := NK.ob) (M := 20000) (loose := NK.loose) (d := HandSHeadRun.topDef (OpenLaw.row PySem.Challenge.rw_narrowkeys_k01_whole_standing_led_on_and).prog 94) (kwd := []) NK.ob_eq
    (by kernel_rfl) (fun s => by kernel_rfl) NK.run (by kernel_rfl) (by kernel_rfl) (by kernel_rfl) (by rfl) (by first | assumption | decide +kernel) (by decide +kernel) ⟨rfl, rfl, rfl, rfl, rfl, by decide +kernel⟩ ?hw ?hc
  case hw => w_witness2
  case hc =>
    refine L2.walk_ofE (l := PySem.Challenge.rw_narrowkeys_k01_whole_standing_led_on_and) (n := 63) (k := 60) (x := "_law_script") (CX := L2.CX0) rfl (by decide) (by kernel_rfl) ⟨rfl, by decide, by decide⟩ ?F (fun _ _ _ _ z => z)
    intro w mg fa h Y G hmg0
    obtain ⟨K, KX, c, e⟩ := Y
    have hmg : mg ("law" : PySem.Str) = some (.ref fa) := by
      have e : (HandSHeadRun.topDef (OpenLaw.row PySem.Challenge.rw_narrowkeys_k01_whole_standing_led_on_and).prog 94).name = ("law" : PySem.Str) := by kernel_rfl
      rw [← e]
      exact hmg0
    obtain ⟨fd, hb, hF⟩ := NK.law_fin (P := (PySem.Challenge.rw_narrowkeys_k01_whole_standing_led_on_and).prog) (w := w) KX G hmg c e
    exact ⟨K, fd, NK.sp_law K, KX, hb, fun H a ns hl _ hS => NK.law_sp hS, hF⟩
end
