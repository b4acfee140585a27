import PyProof.Rows.All
import Wide.All
import OpenK.AllK
import Wide.FinOn
import KE.KStateDown
import HandS.Base
import HandS.Call
import HandS.Ends
import HandS.More
import HandS.Words
import HandS.WordsExc
import HandS.Defaults
import HandS.Head0
import HandS.Head1
import HandS.Head2
import HandS.HeadEnd
import HandS.HeadHook1
import HandS.HeadHook2
import PySem.Challenge.RW_traitsure_k04_whole_benches
import HandS.ForMost
import HandS.ForExc
import HandS.IsInst
import HandS.Walk
import HandS.Zip
import HandS.TupAny
import HandS.Deep
import HandS.Text
import KE.SortCalls
import KE.DataCmp
import KE.SortData
import KE.GoesEnum
import HandS.Dict
import KE.KDictPairs
import KE.KDictKeyed
import KE.GoesDict
import HandS.Style
import HandS.Wide
import HandS.FStr
import HandS.ExcOwn
import KE.KCallOwn
import HandS.ExcIs
import HandS.ExcValue
import PyProof.Rows.CountFlat
set_option Elab.async false
set_option linter.all false
set_option maxRecDepth 100000
set_option maxHeartbeats 0
namespace Tr.Hd
open PySem PySem.Spec PyProof.Rows L2
def top (i : Nat) : Stmt := PySem.Challenge.pw_traitsure_k04_whole_benches.main.body.getD i (.Pass ⟨0, 0, 0, 0⟩)
abbrev R : PySem.W.OpenRow := PySem.W.OpenLaw.row PySem.Challenge.rw_traitsure_k04_whole_benches
def d_is_between : He.DefD := ⟨("is_between", none), "is_between", "is_between", defArgs (top 29), defBody (top 29), defScope (top 29), [], []⟩
def d_are_small : He.DefD := ⟨("are_small", none), "are_small", "are_small", defArgs (top 30), defBody (top 30), defScope (top 30), [], []⟩
def d_is_constructor : He.DefD := ⟨("is_constructor", none), "is_constructor", "is_constructor", defArgs (top 31), defBody (top 31), defScope (top 31), [], []⟩
def d_are_traits : He.DefD := ⟨("are_traits", none), "are_traits", "are_traits", defArgs (top 32), defBody (top 32), defScope (top 32), [], []⟩
def d_is_world : He.DefD := ⟨("is_world", none), "is_world", "is_world", defArgs (top 33), defBody (top 33), defScope (top 33), [], []⟩
def d_check_world : He.DefD := ⟨("check_world", none), "check_world", "check_world", defArgs (top 34), defBody (top 34), defScope (top 34), [], []⟩
def d_trait_names : He.DefD := ⟨("trait_names", none), "trait_names", "trait_names", defArgs (top 35), defBody (top 35), defScope (top 35), [], []⟩
def d_form_of : He.DefD := ⟨("form_of", none), "form_of", "form_of", defArgs (top 36), defBody (top 36), defScope (top 36), [], []⟩
def d_all_below : He.DefD := ⟨("all_below", none), "all_below", "all_below", defArgs (top 37), defBody (top 37), defScope (top 37), [], []⟩
def d_is_sort_with : He.DefD := ⟨("is_sort_with", none), "is_sort_with", "is_sort_with", defArgs (top 38), defBody (top 38), defScope (top 38), [], []⟩
def d_size_in : He.DefD := ⟨("size_in", none), "size_in", "size_in", defArgs (top 39), defBody (top 39), defScope (top 39), [], []⟩
def d_check_sort : He.DefD := ⟨("check_sort", none), "check_sort", "check_sort", defArgs (top 40), defBody (top 40), defScope (top 40), [], []⟩
def d_check_trait : He.DefD := ⟨("check_trait", none), "check_trait", "check_trait", defArgs (top 41), defBody (top 41), defScope (top 41), [], []⟩
def d_reckoned : He.DefD := ⟨("reckoned", none), "reckoned", "reckoned", defArgs (top 42), defBody (top 42), defScope (top 42), [], []⟩
def d_is_reckoning : He.DefD := ⟨("is_reckoning", none), "is_reckoning", "is_reckoning", defArgs (top 43), defBody (top 43), defScope (top 43), [], []⟩
def d_is_short : He.DefD := ⟨("is_short", none), "is_short", "is_short", defArgs (top 44), defBody (top 44), defScope (top 44), [], []⟩
def d_is_body : He.DefD := ⟨("is_body", none), "is_body", "is_body", defArgs (top 45), defBody (top 45), defScope (top 45), [], []⟩
def d_are_asks : He.DefD := ⟨("are_asks", none), "are_asks", "are_asks", defArgs (top 46), defBody (top 46), defScope (top 46), [], []⟩
def d_is_known_instance : He.DefD := ⟨("is_known_instance", none), "is_known_instance", "is_known_instance", defArgs (top 47), defBody (top 47), defScope (top 47), [], []⟩
def d_check_instance : He.DefD := ⟨("check_instance", none), "check_instance", "check_instance", defArgs (top 48), defBody (top 48), defScope (top 48), [], []⟩
def d_are_instances : He.DefD := ⟨("are_instances", none), "are_instances", "are_instances", defArgs (top 49), defBody (top 49), defScope (top 49), [], []⟩
def d_check_set : He.DefD := ⟨("check_set", none), "check_set", "check_set", defArgs (top 50), defBody (top 50), defScope (top 50), [], []⟩
def d_check_number : He.DefD := ⟨("check_number", none), "check_number", "check_number", defArgs (top 51), defBody (top 51), defScope (top 51), [], []⟩
def d_does_fit : He.DefD := ⟨("does_fit", none), "does_fit", "does_fit", defArgs (top 52), defBody (top 52), defScope (top 52), [], []⟩
def d_rank_of : He.DefD := ⟨("rank_of", none), "rank_of", "rank_of", defArgs (top 53), defBody (top 53), defScope (top 53), [], []⟩
def d_fits_roots : He.DefD := ⟨("fits_roots", none), "fits_roots", "fits_roots", defArgs (top 55), defBody (top 55), defScope (top 55), [], []⟩
def d_more_special : He.DefD := ⟨("more_special", none), "more_special", "more_special", defArgs (top 56), defBody (top 56), defScope (top 56), [], []⟩
def d_chosen_of : He.DefD := ⟨("chosen_of", none), "chosen_of", "chosen_of", defArgs (top 57), defBody (top 57), defScope (top 57), [], []⟩
def d_code_of : He.DefD := ⟨("code_of", none), "code_of", "code_of", defArgs (top 58), defBody (top 58), defScope (top 58), [], []⟩
def d_state_after : He.DefD := ⟨("state_after", none), "state_after", "state_after", defArgs (top 59), defBody (top 59), defScope (top 59), [], []⟩
def d_rows_of : He.DefD := ⟨("rows_of", none), "rows_of", "rows_of", defArgs (top 60), defBody (top 60), defScope (top 60), [], []⟩
def d_all_states : He.DefD := ⟨("all_states", none), "all_states", "all_states", defArgs (top 61), defBody (top 61), defScope (top 61), [], []⟩
def d_first_ask : He.DefD := ⟨("first_ask", none), "first_ask", "first_ask", defArgs (top 62), defBody (top 62), defScope (top 62), [], []⟩
def d_fitting : He.DefD := ⟨("fitting", none), "fitting", "fitting", defArgs (top 64), defBody (top 64), defScope (top 64), [], []⟩
def d_stands : He.DefD := ⟨("stands", none), "stands", "stands", defArgs (top 65), defBody (top 65), defScope (top 65), [], []⟩
def d_plan_of : He.DefD := ⟨("plan_of", none), "plan_of", "plan_of", defArgs (top 67), defBody (top 67), defScope (top 67), [], []⟩
def d_found_double : He.DefD := ⟨("found_double", none), "found_double", "found_double", defArgs (top 69), defBody (top 69), defScope (top 69), [], []⟩
def d_is_clear : He.DefD := ⟨("is_clear", none), "is_clear", "is_clear", defArgs (top 70), defBody (top 70), defScope (top 70), [], []⟩
def d_does_cover : He.DefD := ⟨("does_cover", none), "does_cover", "does_cover", defArgs (top 72), defBody (top 72), defScope (top 72), [], []⟩
def d_body_asks : He.DefD := ⟨("body_asks", none), "body_asks", "body_asks", defArgs (top 74), defBody (top 74), defScope (top 74), [], []⟩
def d_head_follows : He.DefD := ⟨("head_follows", none), "head_follows", "head_follows", defArgs (top 75), defBody (top 75), defScope (top 75), [], []⟩
def d_part_follows : He.DefD := ⟨("part_follows", none), "part_follows", "part_follows", defArgs (top 76), defBody (top 76), defScope (top 76), [], []⟩
def d_found_faults : He.DefD := ⟨("found_faults", none), "found_faults", "found_faults", defArgs (top 77), defBody (top 77), defScope (top 77), [], []⟩
def d_faults : He.DefD := ⟨("faults", none), "faults", "faults", defArgs (top 78), defBody (top 78), defScope (top 78), [], []⟩
def d__law_town : He.DefD := ⟨("_law_town", none), "_law_town", "_law_town", defArgs (top 82), defBody (top 82), defScope (top 82), [], []⟩
def d__law_draw : He.DefD := ⟨("_law_draw", none), "_law_draw", "_law_draw", defArgs (top 83), defBody (top 83), defScope (top 83), [], []⟩
def d__law_pick : He.DefD := ⟨("_law_pick", none), "_law_pick", "_law_pick", defArgs (top 84), defBody (top 84), defScope (top 84), [], []⟩
def d__law_outcome : He.DefD := ⟨("_law_outcome", none), "_law_outcome", "_law_outcome", defArgs (top 85), defBody (top 85), defScope (top 85), [], []⟩
def d__law_name : He.DefD := ⟨("_law_name", none), "_law_name", "_law_name", defArgs (top 86), defBody (top 86), defScope (top 86), [], []⟩
def d__law_raises : He.DefD := ⟨("_law_raises", none), "_law_raises", "_law_raises", defArgs (top 87), defBody (top 87), defScope (top 87), [], []⟩
def d__law_world : He.DefD := ⟨("_law_world", none), "_law_world", "_law_world", defArgs (top 88), defBody (top 88), defScope (top 88), [], []⟩
def d__law_traits : He.DefD := ⟨("_law_traits", none), "_law_traits", "_law_traits", defArgs (top 89), defBody (top 89), defScope (top 89), [], []⟩
def d__law_body : He.DefD := ⟨("_law_body", none), "_law_body", "_law_body", defArgs (top 90), defBody (top 90), defScope (top 90), [], []⟩
def d__law_instance : He.DefD := ⟨("_law_instance", none), "_law_instance", "_law_instance", defArgs (top 91), defBody (top 91), defScope (top 91), [], []⟩
def d__law_sort : He.DefD := ⟨("_law_sort", none), "_law_sort", "_law_sort", defArgs (top 92), defBody (top 92), defScope (top 92), [], []⟩
def d__law_fits : He.DefD := ⟨("_law_fits", none), "_law_fits", "_law_fits", defArgs (top 93), defBody (top 93), defScope (top 93), [], []⟩
def d__law_holds : He.DefD := ⟨("_law_holds", none), "_law_holds", "_law_holds", defArgs (top 94), defBody (top 94), defScope (top 94), [], []⟩
def d__law_call : He.DefD := ⟨("_law_call", none), "_law_call", "_law_call", defArgs (top 95), defBody (top 95), defScope (top 95), [], []⟩
def d__law_back : He.DefD := ⟨("_law_back", none), "_law_back", "_law_back", defArgs (top 96), defBody (top 96), defScope (top 96), [], []⟩
def d_law : He.DefD := ⟨("law", none), "law", "law", defArgs (top 97), defBody (top 97), defScope (top 97), [], []⟩
def d_B__init__ : He.DefD := ⟨("Bench", some "__init__"), "__init__", "Bench.__init__", defArgs (inClass (top 80) 0), defBody (inClass (top 80) 0), defScope (inClass (top 80) 0), [], []⟩
def d_B__len__ : He.DefD := ⟨("Bench", some "__len__"), "__len__", "Bench.__len__", defArgs (inClass (top 80) 1), defBody (inClass (top 80) 1), defScope (inClass (top 80) 1), [], []⟩
def d_B__eq__ : He.DefD := ⟨("Bench", some "__eq__"), "__eq__", "Bench.__eq__", defArgs (inClass (top 80) 2), defBody (inClass (top 80) 2), defScope (inClass (top 80) 2), [], []⟩
def d_B__str__ : He.DefD := ⟨("Bench", some "__str__"), "__str__", "Bench.__str__", defArgs (inClass (top 80) 3), defBody (inClass (top 80) 3), defScope (inClass (top 80) 3), [], []⟩
def d_Bperform : He.DefD := ⟨("Bench", some "perform"), "perform", "Bench.perform", defArgs (inClass (top 80) 4), defBody (inClass (top 80) 4), defScope (inClass (top 80) 4), [], []⟩
def d_Badd : He.DefD := ⟨("Bench", some "add"), "add", "Bench.add", defArgs (inClass (top 80) 5), defBody (inClass (top 80) 5), defScope (inClass (top 80) 5), [], []⟩
def d_Bdrop : He.DefD := ⟨("Bench", some "drop"), "drop", "Bench.drop", defArgs (inClass (top 80) 6), defBody (inClass (top 80) 6), defScope (inClass (top 80) 6), [], []⟩
def d_Binstances : He.DefD := ⟨("Bench", some "instances"), "instances", "Bench.instances", defArgs (inClass (top 80) 7), defBody (inClass (top 80) 7), defScope (inClass (top 80) 7), [], []⟩
def d_Bholds : He.DefD := ⟨("Bench", some "holds"), "holds", "Bench.holds", defArgs (inClass (top 80) 8), defBody (inClass (top 80) 8), defScope (inClass (top 80) 8), [], []⟩
def d_Bis_clear : He.DefD := ⟨("Bench", some "is_clear"), "is_clear", "Bench.is_clear", defArgs (inClass (top 80) 9), defBody (inClass (top 80) 9), defScope (inClass (top 80) 9), [], []⟩
def d_Bfaults : He.DefD := ⟨("Bench", some "faults"), "faults", "Bench.faults", defArgs (inClass (top 80) 10), defBody (inClass (top 80) 10), defScope (inClass (top 80) 10), [], []⟩
def d_Bundo : He.DefD := ⟨("Bench", some "undo"), "undo", "Bench.undo", defArgs (inClass (top 80) 11), defBody (inClass (top 80) 11), defScope (inClass (top 80) 11), [], []⟩
def d_Bredo : He.DefD := ⟨("Bench", some "redo"), "redo", "Bench.redo", defArgs (inClass (top 80) 12), defBody (inClass (top 80) 12), defScope (inClass (top 80) 12), [], []⟩
def fn0 : List He.DefD := [d_is_between, d_are_small, d_is_constructor, d_are_traits, d_is_world, d_check_world, d_trait_names, d_form_of, d_all_below, d_is_sort_with, d_size_in, d_check_sort, d_check_trait, d_reckoned, d_is_reckoning, d_is_short, d_is_body, d_are_asks, d_is_known_instance, d_check_instance]
def fn1 : List He.DefD := [d_are_instances, d_check_set, d_check_number, d_does_fit, d_rank_of, d_fits_roots, d_more_special, d_chosen_of, d_code_of, d_state_after, d_rows_of, d_all_states, d_first_ask, d_fitting, d_stands, d_plan_of, d_found_double, d_is_clear, d_does_cover, d_body_asks]
def fn2 : List He.DefD := [d_head_follows, d_part_follows, d_found_faults, d_faults, d__law_town, d__law_draw, d__law_pick, d__law_outcome, d__law_name, d__law_raises, d__law_world, d__law_traits, d__law_body, d__law_instance, d__law_sort, d__law_fits, d__law_holds, d__law_call, d__law_back, d_law]
def fn3 : List He.DefD := [d_B__init__, d_B__len__, d_B__eq__, d_B__str__, d_Bperform, d_Badd, d_Bdrop, d_Binstances, d_Bholds, d_Bis_clear, d_Bfaults, d_Bundo, d_Bredo]
def fn : List He.DefD := fn0 ++ fn1 ++ fn2 ++ fn3
def fa0 : List He.Fa := [.glo "is_between", .glo "are_small", .glo "is_constructor", .glo "are_traits", .glo "is_world", .glo "check_world", .glo "trait_names", .glo "form_of", .glo "all_below", .glo "is_sort_with", .glo "size_in", .glo "check_sort", .glo "check_trait", .glo "reckoned", .glo "is_reckoning", .glo "is_short", .glo "is_body", .glo "are_asks", .glo "is_known_instance", .glo "check_instance", .glo "are_instances", .glo "check_set", .glo "check_number", .glo "does_fit", .glo "rank_of", .glo "fits_roots", .glo "more_special", .glo "chosen_of", .glo "code_of", .glo "state_after"]
def fa1 : List He.Fa := [.glo "rows_of", .glo "all_states", .glo "first_ask", .glo "fitting", .glo "stands", .glo "plan_of", .glo "found_double", .glo "is_clear", .glo "does_cover", .glo "body_asks", .glo "head_follows", .glo "part_follows", .glo "found_faults", .glo "faults", .glo "_law_town", .glo "_law_draw", .glo "_law_pick", .glo "_law_outcome", .glo "_law_name", .glo "_law_raises", .glo "_law_world", .glo "_law_traits", .glo "_law_body", .glo "_law_instance", .glo "_law_sort", .glo "_law_fits", .glo "_law_holds", .glo "_law_call", .glo "_law_back", .glo "law"]
def fa2 : List He.Fa := [.glo "TraitError", .glo "InvalidWorld", .glo "InvalidSort", .glo "InvalidTrait", .glo "InvalidInstance", .glo "InvalidSet", .glo "InvalidNumber", .glo "InvalidSize", .glo "InvalidGranted", .glo "InvalidPairs", .glo "InvalidStock", .glo "InvalidWanted", .glo "InvalidChoice", .glo "InvalidLibrary", .glo "InvalidModule", .glo "InvalidProgram", .glo "InvalidArguments", .glo "InvalidText", .glo "Tangled", .glo "Unsound", .glo "Unclear", .glo "Unchecked", .glo "NotHolding", .glo "TooMany", .glo "NothingToUndo", .glo "Bench", .free "isinstance", .free "int", .free "bool", .free "len"]
def fa3 : List He.Fa := [.free "all", .free "str", .free "tuple", .free "any", .free "range", .free "dict", .free "sum", .free "sorted", .free "zip", .free "enumerate", .free "min", .free "max", .free "list", .free "ValueError", .exc "InvalidNumber", .exc "NothingToUndo", .cls "Bench", .mkr "Bench", .meth "Bench" "perform", .meth "Bench" "add", .meth "Bench" "drop", .meth "Bench" "instances", .meth "Bench" "holds", .meth "Bench" "is_clear", .meth "Bench" "faults", .meth "Bench" "undo", .meth "Bench" "redo", .noat "Bench" "world", .noat "Bench" "states", .noat "Bench" "done"]
def fa4 : List He.Fa := [.noat "Bench" "undone", .meth "Bench" "__len__", .meth "Bench" "__eq__", .meth "Bench" "__str__", .exm "InvalidNumber" "TraitError" true, .exm "NothingToUndo" "TraitError" true, .str "SMALL" "abcdefghijklmnopqrstuvwxyz", .str "GREAT" "ABCDEFGHIJKLMNOPQRSTUVWXYZ"]
def fa : List He.Fa := fa0 ++ fa1 ++ fa2 ++ fa3 ++ fa4
def nm0 : List PySem.Str := ["__name__", "TraitError", "InvalidWorld", "InvalidSort", "InvalidTrait", "InvalidInstance", "InvalidSet", "InvalidNumber", "InvalidSize", "InvalidGranted", "InvalidPairs", "InvalidStock", "InvalidWanted", "InvalidChoice", "InvalidLibrary", "InvalidModule", "InvalidProgram", "InvalidArguments", "InvalidText", "Tangled", "Unsound", "Unclear", "Unchecked", "NotHolding", "TooMany", "NothingToUndo", "SMALL", "GREAT", "is_between", "are_small"]
def nm1 : List PySem.Str := ["is_constructor", "are_traits", "is_world", "check_world", "trait_names", "form_of", "all_below", "is_sort_with", "size_in", "check_sort", "check_trait", "reckoned", "is_reckoning", "is_short", "is_body", "are_asks", "is_known_instance", "check_instance", "are_instances", "check_set", "check_number", "does_fit", "rank_of", "fits_roots", "more_special", "chosen_of", "code_of", "state_after", "rows_of", "all_states"]
def nm2 : List PySem.Str := ["first_ask", "fitting", "stands", "plan_of", "found_double", "is_clear", "does_cover", "body_asks", "head_follows", "part_follows", "found_faults", "faults", "Bench", "_law_town", "_law_draw", "_law_pick", "_law_outcome", "_law_name", "_law_raises", "_law_world", "_law_traits", "_law_body", "_law_instance", "_law_sort", "_law_fits", "_law_holds", "_law_call", "_law_back"]
def names : List PySem.Str := nm0 ++ nm1 ++ nm2
def nmAll : List Str := ["InvalidWorld", "InvalidSort", "InvalidTrait", "InvalidInstance", "InvalidSet", "InvalidNumber", "InvalidSize", "InvalidGranted", "InvalidPairs", "InvalidStock", "InvalidWanted", "InvalidChoice", "InvalidLibrary", "InvalidModule", "InvalidProgram", "InvalidArguments", "InvalidText", "Tangled", "Unsound", "Unclear", "Unchecked", "NotHolding", "TooMany", "NothingToUndo"]
/-- what the law asks besides -/
def bkB (K : PySem.W.Frag) (C : Addr) : Bool := He.eqO (PySem.W.findIn K (.ref C) "__ne__") (some (some (.builtin "object.__ne__"))) && (He.eqO (PySem.W.findIn K (.ref C) "__class__") (some (some (.builtin "object.__class__"))) && (He.eqO (PySem.W.specialIn K (.builtin "object.__class__") "__get__") (some (some (.builtin "getset_descriptor.__get__"))) && (decide (PySem.W.takesIn K (.builtin "object.__class__") = some true) && (decide (PySem.W.mroIn K C (.type "object") = some true) && (decide (PySem.W.kitOne K (.type "tuple") (.ref C) = some false) && (decide (PySem.W.kitOne K (.type "str") (.ref C) = some false) && (decide (PySem.W.subIn K (.type "tuple") (.ref C) = some false) && decide (PySem.W.subIn K (.type "str") (.ref C) = some false))))))))
def exB (K : PySem.W.Frag) (D : Addr) : Bool := He.eqO (PySem.W.findIn K (.ref D) "__getattribute__") (some (some (.builtin "BaseException.__getattribute__"))) && (He.eqO (PySem.W.findIn K (.ref D) "__getattr__") (some none) && (decide (PySem.W.subIn K (.ref D) (.type "BaseException") = some true) && (PySem.W.hasDictIn K D && (He.eqO (PySem.W.findIn K (.ref D) "__class__") (some (some (.builtin "object.__class__"))) && (He.eqO (PySem.W.specialIn K (.builtin "object.__class__") "__get__") (some (some (.builtin "getset_descriptor.__get__"))) && (decide (PySem.W.takesIn K (.builtin "object.__class__") = some true) && decide (PySem.W.mroIn K D (.type "object") = some true)))))))
def nmB (K : PySem.W.Frag) (D : Addr) (j : Nat) : Nat → List Str → Bool
  | _, [] => true
  | i, x :: r => decide (PySem.W.kitOne K (.ref D) (.ref (He.ga K x)) = some (decide (i = j))) && nmB K D j (i + 1) r
def xB (K : PySem.W.Frag) (D : Addr) (j : Nat) : Bool := exB K D && (decide (PySem.W.kitOne K (.ref D) (.type "ValueError") = some true) && nmB K D j 0 nmAll)
def xok (K : PySem.W.Frag) : Bool := bkB K (He.ga K "Bench") && (xB K (He.ga K "InvalidNumber") 5 && xB K (He.ga K "NothingToUndo") 23)
/-! the head's hook: the written part by layers of what the module names -/
def forceN {a : Type} : List Nat → (List Nat → a) → a
  | [], k => k []
  | x :: r, k => HandSHeadRun.frNat x fun x => forceN r fun r => k (x :: r)
theorem forceN_eq {a : Type} : ∀ (l : List Nat) (k : List Nat → a), forceN l k = k l
  | [], _ => rfl
  | x :: r, k => by
    unfold forceN
    rw [HandSHeadRun.frNat_eq, forceN_eq r]
def nextL (g : Addr → Option Obj) (l : List Addr) : List Addr := l.flatMap fun q => match g q with
  | some o => He.refsD o
  | none => []
abbrev AlX : Type := Bool × He.AlD
def layers (g : Addr → Option Obj) : Nat → List Addr → List Addr → (List Addr → AlX) → AlX
  | 0, acc, _, k => k acc
  | n + 1, acc, l, k => forceN (nextL g l) fun l2 => forceN (acc ++ l2) fun acc2 => layers g n acc2 l2 k
theorem layers_of {g : Addr → Option Obj} {k : List Addr → AlX} {v : AlX} : ∀ {n : Nat} {acc l : List Addr}, layers g n acc l k = v → ∃ m, k m = v
  | 0, acc, _, h => ⟨acc, h⟩
  | n + 1, acc, l, h => by
    unfold layers at h
    rw [forceN_eq, forceN_eq] at h
    exact layers_of h
def obsX (g : Addr → Option Obj) : AlX := layers g 4 [mainGlobals] [mainGlobals] fun m => (xok (He.frG g m), He.obsD fa fn (He.frG g m))
def hk : PySem.W.Hook where
  α := AlX
  obs := fun s => obsX s.heap.get?
  val := fun _ => (true, He.valD fn)
  says := fun _ h => ∃ K : PySem.W.Frag, K.In h ∧ He.SaysD fa fn K ∧ xok K = true
  of := fun _ _ e => by
    obtain ⟨m, q⟩ := layers_of e
    exact ⟨_, He.frG_in, congrArg Prod.snd q, congrArg Prod.fst q⟩
  keeps := fun _ _ _ ⟨K, hK, c⟩ k => ⟨K, PySem.W.Frag.In.keeps hK k, c⟩
def ob (s : PySem.W.SharedT) : AlX := obsX (HandSHeadRun.getT s)
theorem ob_eq (s : PySem.W.SharedT) : ob s = hk.obs s.abs := by
  have e : HandSHeadRun.getT s = s.abs.heap.get? := funext (HandSHeadRun.getT_eq s)
  show obsX _ = obsX _
  rw [e]
theorem run (w : World) : HandSHeadRun.RunEq R (PySem.W.view R.prog [97]) hk ob 8000 names w := by
  intro os
  kernel_rfl
end Tr.Hd
set_option Elab.async false
set_option linter.all false
set_option maxRecDepth 100000
set_option maxHeartbeats 1000000
set_option autoImplicit false
/-! DL1: a heap-free layer for defs that work on plain data -/
namespace DL
open PySem PySem.Spec PyProof.Rows L2
abbrev D := PyData
abbrev DEnv := List (Option D)

/-! ### semantic readings -/
def WX (X : Cx) (e : Expr) : TE := fun σ H Q => ∀ pins s, Inv X pins σ H s → wpAny (model X.prog X.w) X.A (eval e X.env) (EP X pins σ Q) X.xe s
def WT (X : Cx) (e : Expr) : TT := fun σ H Q => ∀ pins s, Inv X pins σ H s → wpAny (model X.prog X.w) X.A (isTrue e X.env (eval e X.env)) (TP X pins σ Q) X.xe s
def WA (X : Cx) (es : List Expr) : TA := fun σ H Q => ∀ pos pins s, Inv X pins σ H s → wpAny (model X.prog X.w) X.A (spliced (backTo pos (starEach es X.env))) (AP X pins σ Q) X.xe s
def WSt (X : Cx) (st : Stmt) : TS := fun Z σ H => ∀ pins s, Inv X pins σ H s → wpAny (model X.prog X.w) X.A (exec st X.env) (SP X pins Z) X.xe s
def WSs (X : Cx) (st : List Stmt) : TS := fun Z σ H => ∀ pins s, Inv X pins σ H s → wpAny (model X.prog X.w) X.A (execs st X.env) (SP X pins Z) X.xe s
def WG (X : Cx) (tg : Expr) : TG := fun v σ H Q => ∀ pins s u, Inv X pins σ H s → RelV v u → wpAny (model X.prog X.w) X.A (assign tg X.env u) (fun _ s' => ∃ σ' H', Inv X pins σ' H' s' ∧ Q σ' H') X.xe s
def WI (X : Cx) (tg it : Expr) : TI := fun σ H R => ∀ pins s, Inv X pins σ H s → wpAny (model X.prog X.w) X.A (eval it X.env) (fun v s1 => wpAny (model X.prog X.w) X.A (pyIter v) (PIE X pins σ tg R) X.xe s1) X.xe s
section
variable {X : Cx} {e tg it : Expr} {es : List Expr} {st : Stmt} {sts : List Stmt}
theorem pe_w : PE X e (WX X e) := ⟨fun pins s σ H Q I h => h pins s I⟩
theorem pt_w : PT X e (WT X e) := ⟨fun pins s σ H Q I h => h pins s I⟩
theorem pa_w : PA X es (WA X es) := ⟨fun pos pins s σ H Q I h => h pos pins s I⟩
theorem ps_w : PS X st (WSt X st) := ⟨fun pins s σ H Q I h => h pins s I⟩
theorem pss_w : PSs X sts (WSs X sts) := ⟨fun pins s σ H Q I h => h pins s I⟩
theorem pg_w : PG X tg (WG X tg) := ⟨fun pins s σ H v u Q I r h => h pins s u I r⟩
theorem pi_w : PI X tg it (WI X tg it) := ⟨fun pins s σ H R I h => h pins s I⟩
theorem wx_of {t : TE} {σ H Q} (p : PE X e t) (h : t σ H Q) : WX X e σ H Q := fun pins s I => p.run pins s σ H Q I h
theorem wt_of {t : TT} {σ H Q} (p : PT X e t) (h : t σ H Q) : WT X e σ H Q := fun pins s I => p.run pins s σ H Q I h
theorem wa_of {t : TA} {σ H Q} (p : PA X es t) (h : t σ H Q) : WA X es σ H Q := fun pos pins s I => p.run pos pins s σ H Q I h
theorem ws_of {t : TS} {σ H Q} (p : PS X st t) (h : t Q σ H) : WSt X st Q σ H := fun pins s I => p.run pins s σ H Q I h
theorem wss_of {t : TS} {σ H Q} (p : PSs X sts t) (h : t Q σ H) : WSs X sts Q σ H := fun pins s I => p.run pins s σ H Q I h
theorem wg_of {t : TG} {v σ H Q} (p : PG X tg t) (h : t v σ H Q) : WG X tg v σ H Q := fun pins s u I r => p.run pins s σ H v u Q I r h
theorem wi_of {t : TI} {σ H R} (p : PI X tg it t) (h : t σ H R) : WI X tg it σ H R := fun pins s I => p.run pins s σ H R I h
theorem wx_mono {σ H} {Q Q' : VK} (h : WX X e σ H Q) (m : ∀ v H', Q v H' → Q' v H') : WX X e σ H Q' := fun pins s I =>
  thn (h pins s I) fun u s1 ⟨v, H1, I1, r, q⟩ => ⟨v, H1, I1, r, m _ _ q⟩
theorem wss_mono {σ H} {Z Z' : Ends} (h : WSs X sts Z σ H) (m1 : ∀ σ' H', Z.nx σ' H' → Z'.nx σ' H') (m2 : ∀ v H', Z.rt v H' → Z'.rt v H') (m3 : ∀ σ' H', Z.bk σ' H' → Z'.bk σ' H') (m4 : ∀ σ' H', Z.ct σ' H' → Z'.ct σ' H') : WSs X sts Z' σ H := fun pins s I =>
  thn (h pins s I) fun f s1 q => by
    cases f with
    | next => obtain ⟨σ', H', I', q⟩ := q; exact ⟨σ', H', I', m1 _ _ q⟩
    | brk => obtain ⟨σ', H', I', q⟩ := q; exact ⟨σ', H', I', m3 _ _ q⟩
    | cont => obtain ⟨σ', H', I', q⟩ := q; exact ⟨σ', H', I', m4 _ _ q⟩
    | ret u => obtain ⟨v, σ', H', I', r, q⟩ := q; exact ⟨v, σ', H', I', r, m2 _ _ q⟩
end

/-! ### cores -/
def TupO : HO → Prop
  | .tup _ => True
  | .frz _ (.tup _) => True
  | _ => False
/-- Hc is a part of H that holds all its tuples -/
structure Cor (Hc H : Hp) : Prop where
  sub : Same Hc H
  tup : ∀ a o, H a = some o → TupO o → Hc a = some o
theorem Cor.refl (H : Hp) : Cor H H := ⟨Same.refl H, fun _ _ e _ => e⟩
structure Grow (Hc H Hc1 H1 : Hp) : Prop where
  hh : Same H H1
  cc : Same Hc Hc1
  nw : ∀ a, H a ≠ none → Hc a = none → Hc1 a = none
  cor : Cor Hc1 H1
theorem Grow.refl {Hc H : Hp} (c : Cor Hc H) : Grow Hc H Hc H := ⟨Same.refl H, Same.refl Hc, fun _ _ e => e, c⟩
theorem Grow.trans {Hc H Hc1 H1 Hc2 H2 : Hp} (a : Grow Hc H Hc1 H1) (b : Grow Hc1 H1 Hc2 H2) : Grow Hc H Hc2 H2 :=
  ⟨a.hh.trans b.hh, a.cc.trans b.cc, fun p h1 h2 => b.nw p (fun z => by
    cases q : H p with
    | none => exact h1 q
    | some o => rw [a.hh p o q] at z; cases z) (a.nw p h1 h2), b.cor⟩
theorem same_new {H : Hp} {p : Addr} {o : HO} (h : H p = none) : Same H (upd H p o) := fun a u e => by
  rw [upd_ne (ne_of_none e h)]
  exact e
/-- a new object, put into the core -/
theorem Grow.new {Hc H : Hp} {p : Addr} {o : HO} (c : Cor Hc H) (h : H p = none) : Grow Hc H (upd Hc p o) (upd H p o) := by
  have hc : Hc p = none := c.sub.free h
  refine ⟨same_new h, same_new hc, fun a h1 h2 => ?_, ⟨fun a u e => ?_, fun a u e t => ?_⟩⟩
  · have ne : a ≠ p := fun z => h1 (by rw [z]; exact h)
    rw [upd_ne ne]
    exact h2
  · by_cases ea : a = p
    · rw [ea, upd_same] at e ⊢
      exact e
    · rw [upd_ne ea] at e ⊢
      exact c.sub a u e
  · by_cases ea : a = p
    · rw [ea, upd_same] at e ⊢
      exact e
    · rw [upd_ne ea] at e ⊢
      exact c.tup a u e t
/-- a new list, kept out of the core -/
theorem Grow.own {Hc H : Hp} {p : Addr} {xs : List V} (c : Cor Hc H) (h : H p = none) : Grow Hc H Hc (upd H p (.lst xs)) := by
  refine ⟨same_new h, Same.refl _, fun a h1 h2 => h2, ⟨c.sub.trans (same_new h), fun a u e t => ?_⟩⟩
  by_cases ea : a = p
  · rw [ea, upd_same] at e
    cases e
    exact t.elim
  · rw [upd_ne ea] at e
    exact c.tup a u e t

/-! ### data over a heap -/
section
variable {K : PySem.W.Frag} {H H' : Hp}
theorem seqT_same {a : Addr} {xs : List V} (e : Same H H') (h : SqT K H a xs) : SqT K H' a xs := by
  rcases h with (h | ⟨o, h⟩) | h
  · exact .inl (.inl (e _ _ h))
  · exact .inl (.inr ⟨o, e _ _ h⟩)
  · exact .inr h
mutual
theorem dp_to (hl : ∀ a xs, SqL K H a xs → SqL K H' a xs) (ht : ∀ a xs, SqT K H a xs → SqT K H' a xs) : ∀ {v : V} {d : D}, Dp K H v d → Dp K H' v d
  | _, _, .non => .non
  | _, _, .bl b => .bl b
  | _, _, .int i => .int i
  | _, _, .str x => .str x
  | _, _, .lst h a => .lst (hl _ _ h) (dps_to hl ht a)
  | _, _, .tup h a => .tup (ht _ _ h) (dps_to hl ht a)
theorem dps_to (hl : ∀ a xs, SqL K H a xs → SqL K H' a xs) (ht : ∀ a xs, SqT K H a xs → SqT K H' a xs) : ∀ {vs : List V} {ds : List D}, DpAll K H vs ds → DpAll K H' vs ds
  | _, _, .nil => .nil
  | _, _, .cons h t => .cons (dp_to hl ht h) (dps_to hl ht t)
end
theorem _root_.L2.Dp.same {v : V} {d : D} (h : Dp K H v d) (e : Same H H') : Dp K H' v d := dp_to (fun _ _ q => e.seq q) (fun _ _ q => seqT_same e q) h
theorem _root_.L2.DpAll.same {vs : List V} {ds : List D} (h : DpAll K H vs ds) (e : Same H H') : DpAll K H' vs ds := dps_to (fun _ _ q => e.seq q) (fun _ _ q => seqT_same e q) h
mutual
/-- no list, no dict within -/
def noL : D → Bool
  | .list _ => false
  | .dict _ => false
  | .tuple xs => noLs xs
  | _ => true
def noLs : List D → Bool
  | [] => true
  | x :: xs => noL x && noLs xs
end
mutual
theorem dp_tup (ht : ∀ a xs, SqT K H a xs → SqT K H' a xs) : ∀ {v : V} {d : D}, noL d = true → Dp K H v d → Dp K H' v d
  | _, _, _, .non => .non
  | _, _, _, .bl b => .bl b
  | _, _, _, .int i => .int i
  | _, _, _, .str x => .str x
  | _, _, n, .lst h a => by unfold noL at n; cases n
  | _, _, n, .tup h a => .tup (ht _ _ h) (dps_tup ht (by unfold noL at n; exact n) a)
theorem dps_tup (ht : ∀ a xs, SqT K H a xs → SqT K H' a xs) : ∀ {vs : List V} {ds : List D}, noLs ds = true → DpAll K H vs ds → DpAll K H' vs ds
  | _, _, _, .nil => .nil
  | _, _, n, .cons h t => by
    unfold noLs at n
    rw [Bool.and_eq_true] at n
    exact .cons (dp_tup ht n.1 h) (dps_tup ht n.2 t)
end
/-- tuples are in every core -/
theorem Cor.seqT {Hc : Hp} {a : Addr} {xs : List V} (c : Cor Hc H) (h : SqT K H a xs) : SqT K Hc a xs := by
  rcases h with (h | ⟨o, h⟩) | h
  · exact .inl (.inl (c.tup _ _ h trivial))
  · exact .inl (.inr ⟨o, c.tup _ _ h trivial⟩)
  · exact .inr h
theorem _root_.L2.DpAll.len : ∀ {vs : List V} {ds : List D}, DpAll K H vs ds → vs.length = ds.length
  | _, _, .nil => rfl
  | _, _, .cons _ t => by rw [List.length_cons, List.length_cons, L2.DpAll.len t]
theorem _root_.L2.DpAll.get : ∀ {vs : List V} {ds : List D} {i : Nat} {d : D}, DpAll K H vs ds → ds[i]? = some d → ∃ v, vs[i]? = some v ∧ Dp K H v d
  | _, _, _, _, .nil, e => by simp at e
  | _, _, 0, _, .cons h _, e => by simp at e; subst e; exact ⟨_, rfl, h⟩
  | _, _, i + 1, d, .cons _ t, e => by
    obtain ⟨v, a, b⟩ := L2.DpAll.get (i := i) (d := d) t (by simpa using e)
    exact ⟨v, by simpa using a, b⟩
theorem _root_.L2.DpAll.get' {vs : List V} {ds : List D} {i : Nat} {v : V} (h : DpAll K H vs ds) (e : vs[i]? = some v) : ∃ d, ds[i]? = some d ∧ Dp K H v d := by
  have l := h.len
  obtain ⟨h1, _⟩ := List.getElem?_eq_some_iff.mp e
  have h2 : i < ds.length := by omega
  obtain ⟨w, a, b⟩ := h.get (List.getElem?_eq_getElem h2)
  rw [e] at a
  cases a
  exact ⟨_, List.getElem?_eq_getElem h2, b⟩
theorem _root_.L2.DpAll.app : ∀ {vs ws : List V} {ds es : List D}, DpAll K H vs ds → DpAll K H ws es → DpAll K H (vs ++ ws) (ds ++ es)
  | _, _, _, _, .nil, t => t
  | _, _, _, _, .cons h r, t => .cons h (L2.DpAll.app r t)
theorem _root_.L2.DpAll.take : ∀ {vs : List V} {ds : List D} (n : Nat), DpAll K H vs ds → DpAll K H (vs.take n) (ds.take n)
  | _, _, 0, _ => .nil
  | _, _, _ + 1, .nil => .nil
  | _, _, n + 1, .cons h t => .cons h (L2.DpAll.take n t)
theorem _root_.L2.DpAll.drop : ∀ {vs : List V} {ds : List D} (n : Nat), DpAll K H vs ds → DpAll K H (vs.drop n) (ds.drop n)
  | _, _, 0, h => h
  | _, _, _ + 1, .nil => .nil
  | _, _, n + 1, .cons _ t => L2.DpAll.drop n t
end


/-! ### data, worlds (told by a mark), dicts of numbers by texts -/
def isD : D → Bool
  | .dict _ => false
  | _ => true
/-- a tuple whose first item is a tuple without a dict of its own -/
def PlainW (K : PySem.W.Frag) (H : Hp) (v : V) (d : D) : Prop := ∃ (a b : Addr) (v2 : V) (ys : List V) (o : Obj) (ds : List D) (d2 : D), v = .ref a ∧ SqT K H a [.ref b, v2] ∧ H b = some (.frz o (.tup ys)) ∧ o.dict = none ∧ DpAll K H ys ds ∧ Dp K H v2 d2 ∧ d = .tuple [.tuple ds, d2]
theorem PlainW.dp {K : PySem.W.Frag} {H : Hp} {v : V} {d : D} (h : PlainW K H v d) : Dp K H v d := by
  obtain ⟨a, b, v2, ys, o, ds, d2, rfl, h1, h2, _, h4, h5, rfl⟩ := h
  exact .tup h1 (.cons (.tup (.inl (.inr ⟨o, h2⟩)) h4) (.cons h5 .nil))
/-- the entries of a dict by texts -/
inductive SAll (K : PySem.W.Frag) (H : Hp) : List (Key × V) → List (D × D) → Prop
  | nil : SAll K H [] []
  | cons {x : Str} {v : V} {d : D} {r : List (Key × V)} {r' : List (D × D)} : Dp K H v d → SAll K H r r' → SAll K H ((.inr x, v) :: r) ((.str x, d) :: r')
/-- the entries of a dict by nested tuples: the hash beside the key -/
inductive NAll (K : PySem.W.Frag) (H : Hp) : List (Int × Addr × V) → List (D × D) → Prop
  | nil : NAll K H [] []
  | cons {h : Int} {b : Addr} {v : V} {k d : D} {r : List (Int × Addr × V)} {r' : List (D × D)} : Dp K H (.ref b) k → Dp K H v d → NAll K H r r' → NAll K H ((h, b, v) :: r) ((.tuple [k, .int h], d) :: r')
def nstO (a : Addr) (ep : Nat) (es : List (Int × Addr × V)) : HO := .ext fun h => ∃ (o : Obj) (ar : Array DictEntry), h.get? a = some o ∧ o.ExactDict ∧ o.data = .dict ar ep ∧ Paired (fun (e : Int × Addr × V) (x : DictEntry) => x.hash = e.1 ∧ x.key = .ref e.2.1 ∧ RelV e.2.2 x.val) es ar.toList ∧ es.length ≤ sizeLine ∧ (a == sysModules) = false
/-- what may be written, as data: lists, dicts (told by the first entry's mark) -/
inductive TopO (K : PySem.W.Frag) (H : Hp) (a : Addr) : HO → D → Prop
  | lst {xs : List V} {ds : List D} : DpAll K H xs ds → TopO K H a (.lst xs) (.list ds)
  | dct {vs : List (Key × V)} {r : List (D × D)} : SAll K H vs r → TopO K H a (.dK vs) (.dict ((.bool false, .none) :: r))
  | nst {ep : Nat} {es : List (Int × Addr × V)} {r : List (D × D)} : NAll K H es r → TopO K H a (nstO a ep es) (.dict ((.bool true, .none) :: r))
theorem SAll.same {K : PySem.W.Frag} {H H' : Hp} : ∀ {vs : List (Key × V)} {r : List (D × D)}, SAll K H vs r → Same H H' → SAll K H' vs r
  | _, _, .nil, _ => .nil
  | _, _, .cons h t, e => .cons (h.same e) (SAll.same t e)
theorem NAll.same {K : PySem.W.Frag} {H H' : Hp} : ∀ {vs : List (Int × Addr × V)} {r : List (D × D)}, NAll K H vs r → Same H H' → NAll K H' vs r
  | _, _, .nil, _ => .nil
  | _, _, .cons k h t, e => .cons (k.same e) (h.same e) (NAll.same t e)
theorem TopO.same {K : PySem.W.Frag} {H H' : Hp} {a : Addr} {o : HO} {d : D} (h : TopO K H a o d) (e : Same H H') : TopO K H' a o d := by
  cases h with
  | lst p => exact .lst (p.same e)
  | dct p => exact .dct (p.same e)
  | nst p => exact .nst (p.same e)
theorem TopO.notT {K : PySem.W.Frag} {H : Hp} {a : Addr} {o : HO} {d : D} (h : TopO K H a o d) : ¬ TupO o := by
  cases h <;> exact id
def Dq (K : PySem.W.Frag) (H : Hp) (v : V) : D → Prop
  | .dict [(.none, d)] => PlainW K H v d
  | .dict [(.int t, _)] => v = .ref t.toNat
  | .dict kvs => ∃ a o, v = .ref a ∧ H a = some o ∧ TopO K H a o (.dict kvs)
  | d => Dp K H v d
theorem _root_.L2.Dp.q {K : PySem.W.Frag} {H : Hp} {v : V} {d : D} (h : Dp K H v d) : Dq K H v d := by
  cases h with
  | non => exact .non
  | bl b => exact .bl b
  | int i => exact .int i
  | str x => exact .str x
  | lst h a => exact .lst h a
  | tup h a => exact .tup h a
theorem Dq.p {K : PySem.W.Frag} {H : Hp} {v : V} {d : D} (h : Dq K H v d) (i : isD d = true) : Dp K H v d := by
  cases d with
  | dict kvs => cases i
  | _ => exact h
theorem Dq.same {K : PySem.W.Frag} {H H' : Hp} {v : V} {d : D} (h : Dq K H v d) (e : Same H H') : Dq K H' v d := by
  cases d with
  | dict kvs =>
    unfold Dq at h ⊢
    split at h
    · obtain ⟨a, b, v2, ys, o, ds, d2, h1, h2, h3, h4, h5, h6, h7⟩ := h
      exact ⟨a, b, v2, ys, o, ds, d2, h1, seqT_same e h2, e _ _ h3, h4, h5.same e, h6.same e, h7⟩
    · exact h
    · obtain ⟨a, o, h1, h2, h3⟩ := h
      exact ⟨a, o, h1, e _ _ h2, h3.same e⟩
    · rename_i hn
      exact (hn _ rfl).elim
  | _ => exact L2.Dp.same (show Dp K H v _ from h) e
inductive DqAll (K : PySem.W.Frag) (H : Hp) : List V → List D → Prop
  | nil : DqAll K H [] []
  | cons {v : V} {vs : List V} {d : D} {ds : List D} : Dq K H v d → DqAll K H vs ds → DqAll K H (v :: vs) (d :: ds)
theorem DqAll.same {K : PySem.W.Frag} {H H' : Hp} : ∀ {vs : List V} {ds : List D}, DqAll K H vs ds → Same H H' → DqAll K H' vs ds
  | _, _, .nil, _ => .nil
  | _, _, .cons h t, e => .cons (h.same e) (DqAll.same t e)
theorem DqAll.len {K : PySem.W.Frag} {H : Hp} : ∀ {vs : List V} {ds : List D}, DqAll K H vs ds → vs.length = ds.length
  | _, _, .nil => rfl
  | _, _, .cons _ t => by rw [List.length_cons, List.length_cons, DqAll.len t]
theorem DqAll.get {K : PySem.W.Frag} {H : Hp} : ∀ {vs : List V} {ds : List D} {i : Nat} {d : D}, DqAll K H vs ds → ds[i]? = some d → ∃ v, vs[i]? = some v ∧ Dq K H v d
  | _, _, _, _, .nil, e => by simp at e
  | _, _, 0, _, .cons h _, e => by simp at e; subst e; exact ⟨_, rfl, h⟩
  | _, _, i + 1, d, .cons _ t, e => by
    obtain ⟨v, a, b⟩ := DqAll.get (i := i) (d := d) t (by simpa using e)
    exact ⟨v, by simpa using a, b⟩

/-! ### the slots as data -/
structure DSX (K : PySem.W.Frag) (Hc : Hp) (σ : L2.St) (H : Hp) (env : DEnv) : Prop where
  cor : Cor Hc H
  len : env.length = σ.length
  at_ : ∀ (i : Nat) (d : D), env[i]? = some (some d) → ∃ v, σ[i]? = some (some v) ∧ Dq K Hc v d
theorem DSX.grow {K : PySem.W.Frag} {Hc H Hc1 H1 : Hp} {σ : L2.St} {env : DEnv} (h : DSX K Hc σ H env) (g : Grow Hc H Hc1 H1) : DSX K Hc1 σ H1 env :=
  ⟨g.cor, h.len, fun i d e => by
    obtain ⟨v, a, b⟩ := h.at_ i d e
    exact ⟨v, a, b.same g.cc⟩⟩

/-! ### what an expression evaluates to -/
/-- e gives the datum d -/
def EVd (X : Cx) (e : Expr) (env : DEnv) (d : D) : Prop := ∀ (Hc : Hp) (σ : L2.St) (H : Hp), DSX X.K Hc σ H env → ∀ Q : VK, (∀ v Hc1 H1, Grow Hc H Hc1 H1 → Dq X.K Hc1 v d → Q v H1) → WX X e σ H Q
/-- e gives a new list of the data ds, not in the core -/
def EVn (X : Cx) (e : Expr) (env : DEnv) (ds : List D) : Prop := ∀ (Hc : Hp) (σ : L2.St) (H : Hp), DSX X.K Hc σ H env → ∀ Q : VK, (∀ a vs Hc1 H1, Grow Hc H Hc1 H1 → H a = none → Hc1 a = none → H1 a = some (.lst vs) → DpAll X.K Hc1 vs ds → Q (.ref a) H1) → WX X e σ H Q
/-- the test e gives b -/
def EVt (X : Cx) (e : Expr) (env : DEnv) (b : Bool) : Prop := ∀ (Hc : Hp) (σ : L2.St) (H : Hp), DSX X.K Hc σ H env → ∀ Q : Bool → Hp → Prop, (∀ Hc1 H1, Grow Hc H Hc1 H1 → Q b H1) → WT X e σ H Q
def EVa (X : Cx) (es : List Expr) (env : DEnv) (ds : List D) : Prop := ∀ (Hc : Hp) (σ : L2.St) (H : Hp), DSX X.K Hc σ H env → ∀ Q : List V → Hp → Prop, (∀ vs Hc1 H1, Grow Hc H Hc1 H1 → DpAll X.K Hc1 vs ds → Q vs H1) → WA X es σ H Q
section
variable {X : Cx} {e a b c : Expr} {es : List Expr} {env : DEnv} {pos : Pos} {d : D} {ds : List D}
theorem EVd.is {d' : D} (h : EVd X e env d) (q : d = d') : EVd X e env d' := q ▸ h
theorem EVt.is {b b' : Bool} (h : EVt X e env b) (q : b = b') : EVt X e env b' := q ▸ h
theorem grow_list {Hc H : Hp} {p : Addr} {vs : List V} (c : Cor Hc H) (h : H p = some (.lst vs)) (hc : Hc p = none) : Cor (upd Hc p (.lst vs)) H ∧ Same Hc (upd Hc p (.lst vs)) := by
  refine ⟨⟨fun a u e => ?_, fun a u e t => ?_⟩, same_new hc⟩
  · by_cases ea : a = p
    · rw [ea, upd_same] at e
      rw [ea, h]
      exact e
    · rw [upd_ne ea] at e
      exact c.sub a u e
  · by_cases ea : a = p
    · rw [ea, h] at e
      cases e
      exact t.elim
    · rw [upd_ne ea]
      exact c.tup a u e t
/-- a new list may be put into the core -/
theorem EVn.toD (h : EVn X e env ds) : EVd X e env (.list ds) := fun Hc σ H hs Q q => h Hc σ H hs _ fun p vs Hc1 H1 g np nc hp hd => by
  obtain ⟨c2, s2⟩ := grow_list g.cor hp nc
  refine q _ (upd Hc1 p (.lst vs)) H1 ⟨g.hh, g.cc.trans s2, fun z h1 h2 => ?_, c2⟩ (L2.Dp.lst (.inl (.inl upd_same)) (hd.same s2))
  have ne : z ≠ p := fun q => h1 (by rw [q]; exact np)
  rw [upd_ne ne]
  exact g.nw z h1 h2
theorem ev_var {i : Nat} {x : Str} (hN : X.N[i]? = some x) (hv : Vis X.env.scope x) (he : env[i]? = some (some d)) (hd : (x == ("__debug__" : Str)) = false := by decide) (hcd : (x == ("__classdict__" : Str)) = false := by decide) : EVd X (.Name x pos) env d :=
  fun Hc σ H hs Q q => wx_of (pe_var hN hv hd hcd) (by
    obtain ⟨v, h1, h2⟩ := hs.at_ i d he
    exact ⟨v, h1, q v Hc H (Grow.refl hs.cor) h2⟩)
theorem ev_int {i j} : EVd X (.Constant (.int i) j pos) env (.int i) := fun Hc σ H hs Q q => wx_of pe_int (q _ Hc H (Grow.refl hs.cor) (L2.Dp.int i))
theorem ev_bl {i j} : EVd X (.Constant (.bool i) j pos) env (.bool i) := fun Hc σ H hs Q q => wx_of pe_bl (q _ Hc H (Grow.refl hs.cor) (L2.Dp.bl i))
theorem ev_non {j} : EVd X (.Constant .none j pos) env .none := fun Hc σ H hs Q q => wx_of pe_non (q _ Hc H (Grow.refl hs.cor) L2.Dp.non)
theorem ev_str {i j} : EVd X (.Constant (.str i) j pos) env (.str i) := fun Hc σ H hs Q q => wx_of pe_str (q _ Hc H (Grow.refl hs.cor) (L2.Dp.str i))
theorem ev_gstr {x z : Str} {u : Value} (hg : Gl X x) (hm : X.mg x = some u) (r : RelV (.str z) u) (hd : (x == ("__debug__" : Str)) = false := by decide) : EVd X (.Name x pos) env (.str z) :=
  fun Hc σ H hs Q q => wx_of (pe_glob hg hm r hd) (q _ Hc H (Grow.refl hs.cor) (L2.Dp.str z))
theorem dp_int {K : PySem.W.Frag} {H : Hp} {v : V} {i : Int} (h : Dp K H v (.int i)) : v = .int i := by cases h; rfl
theorem dp_str {K : PySem.W.Frag} {H : Hp} {v : V} {i : Str} (h : Dp K H v (.str i)) : v = .str i := by cases h; rfl
theorem dp_bl {K : PySem.W.Frag} {H : Hp} {v : V} {i : Bool} (h : Dp K H v (.bool i)) : v = .bl i := by cases h; rfl
theorem dp_non {K : PySem.W.Frag} {H : Hp} {v : V} (h : Dp K H v .none) : v = .non := by cases h; rfl
theorem dp_tupI {K : PySem.W.Frag} {H : Hp} {v : V} (h : Dp K H v (.tuple ds)) : ∃ a xs, v = .ref a ∧ SqT K H a xs ∧ DpAll K H xs ds := by cases h with | tup h a => exact ⟨_, _, rfl, h, a⟩
theorem dp_lstI {K : PySem.W.Frag} {H : Hp} {v : V} (h : Dp K H v (.list ds)) : ∃ a xs, v = .ref a ∧ SqL K H a xs ∧ DpAll K H xs ds := by cases h with | lst h a => exact ⟨_, _, rfl, h, a⟩
theorem sql_sub {K : PySem.W.Frag} {Hc H : Hp} {p : Addr} {xs : List V} (c : Cor Hc H) (h : SqL K Hc p xs) : SqL K H p xs := c.sub.seq h
theorem sqt_sub {K : PySem.W.Frag} {Hc H : Hp} {p : Addr} {xs : List V} (c : Cor Hc H) (h : SqT K Hc p xs) : SqT K H p xs := seqT_same c.sub h
/-- two operands -/
theorem ev_op {op : Operator} {r : R2} {d1 d2 : D} (ho : OpR X (binaryOp op) r) (ha : EVd X a env d1) (hb : EVd X b env d2)
    (hr : ∀ x y Hc H, Cor Hc H → Dq X.K Hc x d1 → Dq X.K Hc y d2 → ∀ Q : VK, (∀ v Hc1 H1, Grow Hc H Hc1 H1 → Dq X.K Hc1 v d → Q v H1) → r x y H Q) : EVd X (.BinOp a op b pos) env d :=
  fun Hc σ H hs Q q => wx_of (pe_op ho pe_w pe_w) (ha Hc σ H hs _ fun x Hc1 H1 g1 p1 => hb Hc1 σ H1 (hs.grow g1) _ fun y Hc2 H2 g2 p2 =>
    hr x y Hc2 H2 g2.cor (p1.same g2.cc) p2 Q fun v Hc3 H3 g3 p3 => q v Hc3 H3 ((g1.trans g2).trans g3) p3)
theorem ev_add {i j : Int} (ha : EVd X a env (.int i)) (hb : EVd X b env (.int j)) : EVd X (.BinOp a .Add b pos) env (.int (i + j)) :=
  ev_op op_add ha hb fun x y Hc H c p1 p2 Q q => ⟨i, j, dp_int p1, dp_int p2, q _ Hc H (Grow.refl c) (L2.Dp.int _)⟩
theorem ev_sub {i j : Int} (ha : EVd X a env (.int i)) (hb : EVd X b env (.int j)) : EVd X (.BinOp a .Sub b pos) env (.int (i - j)) :=
  ev_op op_sub ha hb fun x y Hc H c p1 p2 Q q => ⟨i, j, dp_int p1, dp_int p2, q _ Hc H (Grow.refl c) (L2.Dp.int _)⟩
theorem ev_mul {i j : Int} (ha : EVd X a env (.int i)) (hb : EVd X b env (.int j)) (hc : CMul i j) : EVd X (.BinOp a .Mult b pos) env (.int (i * j)) :=
  ev_op op_mul ha hb fun x y Hc H c p1 p2 Q q => ⟨i, j, dp_int p1, dp_int p2, hc, q _ Hc H (Grow.refl c) (L2.Dp.int _)⟩
theorem ev_mod {i j : Int} (ha : EVd X a env (.int i)) (hb : EVd X b env (.int j)) (hc : 0 < j) : EVd X (.BinOp a .Mod b pos) env (.int (i % j)) :=
  ev_op op_mod ha hb fun x y Hc H c p1 p2 Q q => ⟨i, j, dp_int p1, dp_int p2, hc, q _ Hc H (Grow.refl c) (L2.Dp.int _)⟩
theorem ev_fdiv {i j : Int} (ha : EVd X a env (.int i)) (hb : EVd X b env (.int j)) (hc : CDiv i j) : EVd X (.BinOp a .FloorDiv b pos) env (.int (i / j)) :=
  ev_op op_fdiv ha hb fun x y Hc H c p1 p2 Q q => ⟨i, j, dp_int p1, dp_int p2, hc, q _ Hc H (Grow.refl c) (L2.Dp.int _)⟩
/-! argument lists -/
theorem ea_nil : EVa X [] env [] := fun Hc σ H hs Q q => wa_of pa_nil (q _ Hc H (Grow.refl hs.cor) .nil)
theorem ea_cons (ha : EVd X e env d) (hr : EVa X es env ds) (hi : isD d = true := by rfl) (hs : starEach (e :: es) X.env = (false, eval e X.env) :: starEach es X.env := by rfl) : EVa X (e :: es) env (d :: ds) :=
  fun Hc σ H hd Q q => wa_of (pa_cons pe_w pa_w hs) (ha Hc σ H hd _ fun x Hc1 H1 g1 p1 => hr Hc1 σ H1 (hd.grow g1) _ fun xs Hc2 H2 g2 p2 => q _ Hc2 H2 (g1.trans g2) (.cons ((p1.p hi).same g2.cc) p2))
theorem ev_tup {k} (h : EVa X es env ds) (hl : ds.length ≤ sizeLine) : EVd X (.Tuple es k pos) env (.tuple ds) := fun Hc σ H hs Q q =>
  wx_of (pe_tup pa_w) (h Hc σ H hs _ fun xs Hc1 H1 g1 p1 => ⟨by rw [p1.len]; exact hl, fun p np => by
    have g2 := Grow.new (o := .tup xs) g1.cor np
    exact q _ _ _ (g1.trans g2) (L2.Dp.tup (.inl (.inl upd_same)) (p1.same g2.cc))⟩)
theorem ev_lst (h : EVa X es env ds) (hl : ds.length ≤ sizeLine) : EVn X (.List es pos) env ds := fun Hc σ H hs Q q =>
  wx_of (pe_lst pa_w) (h Hc σ H hs _ fun xs Hc1 H1 g1 p1 => ⟨by rw [p1.len]; exact hl, fun p np => by
    have g2 := Grow.own (xs := xs) g1.cor np
    exact q p xs _ _ (g1.trans g2) (g1.hh.free np) (g1.cor.sub.free np) upd_same p1⟩)
/-- arguments that may be worlds -/
def EVq (X : Cx) (es : List Expr) (env : DEnv) (ds : List D) : Prop := ∀ (Hc : Hp) (σ : L2.St) (H : Hp), DSX X.K Hc σ H env → ∀ Q : List V → Hp → Prop, (∀ vs Hc1 H1, Grow Hc H Hc1 H1 → DqAll X.K Hc1 vs ds → Q vs H1) → WA X es σ H Q
theorem eq_nil : EVq X [] env [] := fun Hc σ H hs Q q => wa_of pa_nil (q _ Hc H (Grow.refl hs.cor) .nil)
theorem eq_cons (ha : EVd X e env d) (hr : EVq X es env ds) (hs : starEach (e :: es) X.env = (false, eval e X.env) :: starEach es X.env := by rfl) : EVq X (e :: es) env (d :: ds) :=
  fun Hc σ H hd Q q => wa_of (pa_cons pe_w pa_w hs) (ha Hc σ H hd _ fun x Hc1 H1 g1 p1 => hr Hc1 σ H1 (hd.grow g1) _ fun xs Hc2 H2 g2 p2 => q _ Hc2 H2 (g1.trans g2) (.cons (p1.same g2.cc) p2))
/-! tests -/
theorem et_val {b : Bool} (h : EVd X e env (.bool b)) (he : ∀ whole, isTrue e X.env whole = (do let v ← whole; standAt e.pos; holding [v] (truthy v)) := by intro _; rfl) : EVt X e env b := fun Hc σ H hs Q q =>
  wt_of (pt_val pe_w he) (h Hc σ H hs _ fun v Hc1 H1 g p => ⟨b, dp_bl p, q Hc1 H1 g⟩)
/-- a comparison's rule, as a value -/
theorem ev_cmp {op : CmpOp} {r : R2} {d1 d2 : D} {k : Bool} (ho : OpR X (compareOp op) r) (ha : EVd X a env d1) (hb : EVd X b env d2) (hm : behindInMarks op b = false)
    (hr : ∀ x y Hc H, Cor Hc H → Dq X.K Hc x d1 → Dq X.K Hc y d2 → ∀ Q : VK, Q (.bl k) H → r x y H Q) : EVd X (.Compare a [op] [b] pos) env (.bool k) :=
  fun Hc σ H hs Q q => wx_of (pe_cmpR ho pe_w pe_w hm) (ha Hc σ H hs _ fun x Hc1 H1 g1 p1 => hb Hc1 σ H1 (hs.grow g1) _ fun y Hc2 H2 g2 p2 =>
    hr x y Hc2 H2 g2.cor (p1.same g2.cc) p2 Q (q _ Hc2 H2 (g1.trans g2) (L2.Dp.bl k)))
theorem et_cmp {op : CmpOp} {r : R2} {d1 d2 : D} {k : Bool} (ho : OpR X (compareOp op) r) (ha : EVd X a env d1) (hb : EVd X b env d2) (hm : behindInMarks op b = false)
    (hr : ∀ x y Hc H, Cor Hc H → Dq X.K Hc x d1 → Dq X.K Hc y d2 → ∀ Q : VK, Q (.bl k) H → r x y H Q) : EVt X (.Compare a [op] [b] pos) env k :=
  fun Hc σ H hs Q q => wt_of (pt_cmpR ho pe_w pe_w hm) (ha Hc σ H hs _ fun x Hc1 H1 g1 p1 => hb Hc1 σ H1 (hs.grow g1) _ fun y Hc2 H2 g2 p2 =>
    hr x y Hc2 H2 g2.cor (p1.same g2.cc) p2 _ ⟨k, rfl, q Hc2 H2 (g1.trans g2)⟩)
/-- and, or, not -/
theorem et_not {k : Bool} (h : EVt X a env k) : EVt X (.UnaryOp .Not a pos) env (!k) := fun Hc σ H hs Q q =>
  wt_of (pt_not pt_w) (h Hc σ H hs _ fun Hc1 H1 g => q Hc1 H1 g)
def EVw (X : Cx) (e : Expr) (env : DEnv) (b : Bool) : Prop := ∀ (Hc : Hp) (σ : L2.St) (H : Hp), DSX X.K Hc σ H env → ∀ Q : Bool → Hp → Prop, (∀ Hc1 H1, Grow Hc H Hc1 H1 → Q b H1) → ∀ whole pins s, Inv X pins σ H s → wpAny (model X.prog X.w) X.A (isTrue e X.env whole) (TP X pins σ Q) X.xe s
theorem EVw.t {k : Bool} (h : EVw X e env k) : EVt X e env k := fun Hc σ H hs Q q pins s I => h Hc σ H hs Q q _ pins s I
theorem ew_of {t : TT} {k : Bool} (p : PW X e t) (h : ∀ (Hc : Hp) (σ : L2.St) (H : Hp), DSX X.K Hc σ H env → ∀ Q : Bool → Hp → Prop, (∀ Hc1 H1, Grow Hc H Hc1 H1 → Q k H1) → t σ H Q) : EVw X e env k :=
  fun Hc σ H hs Q q whole pins s I => p.run whole pins s σ H Q I (h Hc σ H hs Q q)
def WW (X : Cx) (e : Expr) : TT := fun σ H Q => ∀ whole pins s, Inv X pins σ H s → wpAny (model X.prog X.w) X.A (isTrue e X.env whole) (TP X pins σ Q) X.xe s
theorem pw_w : PW X e (WW X e) := ⟨fun whole pins s σ H Q I h => h whole pins s I⟩
theorem ew_and1 {k : Bool} (h : EVt X a env k) : EVw X (.BoolOp .And [a] pos) env k := ew_of (pw_and1 pt_w) fun Hc σ H hs Q q => h Hc σ H hs Q q
theorem ew_or1 {k : Bool} (h : EVt X a env k) : EVw X (.BoolOp .Or [a] pos) env k := ew_of (pw_or1 pt_w) fun Hc σ H hs Q q => h Hc σ H hs Q q
theorem ew_and {rest : List Expr} {k l : Bool} (h : EVt X a env k) (h2 : k = true → EVw X (.BoolOp .And (b :: rest) pos) env l) : EVw X (.BoolOp .And (a :: b :: rest) pos) env (k && l) :=
  ew_of (pw_and pt_w pw_w) fun Hc σ H hs Q q => h Hc σ H hs _ fun Hc1 H1 g => by
    cases k with
    | true => exact fun whole pins s I => h2 rfl Hc1 σ H1 (hs.grow g) Q (fun Hc2 H2 g2 => q Hc2 H2 (g.trans g2)) whole pins s I
    | false => exact q Hc1 H1 g
theorem ew_or {rest : List Expr} {k l : Bool} (h : EVt X a env k) (h2 : k = false → EVw X (.BoolOp .Or (b :: rest) pos) env l) : EVw X (.BoolOp .Or (a :: b :: rest) pos) env (k || l) :=
  ew_of (pw_or pt_w pw_w) fun Hc σ H hs Q q => h Hc σ H hs _ fun Hc1 H1 g => by
    cases k with
    | false => exact fun whole pins s I => h2 rfl Hc1 σ H1 (hs.grow g) Q (fun Hc2 H2 g2 => q Hc2 H2 (g.trans g2)) whole pins s I
    | true => exact q Hc1 H1 g
/-- .. as values -/
theorem ev_one {op} (h : EVd X a env d) : EVd X (.BoolOp op [a] pos) env d := fun Hc σ H hs Q q => wx_of (pe_one pe_w) (h Hc σ H hs Q q)
theorem ev_and {rest : List Expr} {k l : Bool} (h : EVd X a env (.bool k)) (h2 : k = true → EVd X (.BoolOp .And (b :: rest) pos) env (.bool l)) : EVd X (.BoolOp .And (a :: b :: rest) pos) env (.bool (k && l)) :=
  fun Hc σ H hs Q q => wx_of (pe_and pe_w pe_w) (h Hc σ H hs _ fun v Hc1 H1 g p => ⟨k, dp_bl p, by
    cases k with
    | true => exact h2 rfl Hc1 σ H1 (hs.grow g) Q fun v Hc2 H2 g2 p2 => q v Hc2 H2 (g.trans g2) p2
    | false => exact q _ Hc1 H1 g (L2.Dp.bl false)⟩)
theorem ev_or {rest : List Expr} {k l : Bool} (h : EVd X a env (.bool k)) (h2 : k = false → EVd X (.BoolOp .Or (b :: rest) pos) env (.bool l)) : EVd X (.BoolOp .Or (a :: b :: rest) pos) env (.bool (k || l)) :=
  fun Hc σ H hs Q q => wx_of (pe_or pe_w pe_w) (h Hc σ H hs _ fun v Hc1 H1 g p => ⟨k, dp_bl p, by
    cases k with
    | false => exact h2 rfl Hc1 σ H1 (hs.grow g) Q fun v Hc2 H2 g2 p2 => q v Hc2 H2 (g.trans g2) p2
    | true => exact q _ Hc1 H1 g (L2.Dp.bl true)⟩)
theorem ev_not {k : Bool} (h : EVd X a env (.bool k)) : EVd X (.UnaryOp .Not a pos) env (.bool (!k)) := fun Hc σ H hs Q q =>
  wx_of (pe_not pe_w) (h Hc σ H hs _ fun v Hc1 H1 g p => ⟨k, dp_bl p, q _ Hc1 H1 g (L2.Dp.bl _)⟩)
theorem ev_if {k : Bool} (h : EVt X c env k) (h1 : k = true → EVd X a env d) (h2 : k = false → EVd X b env d) : EVd X (.IfExp c a b pos) env d := fun Hc σ H hs Q q =>
  wx_of (pe_ifExp pt_w pe_w pe_w) (h Hc σ H hs _ fun Hc1 H1 g => by
    cases k with
    | true => exact h1 rfl Hc1 σ H1 (hs.grow g) Q fun v Hc2 H2 g2 p2 => q v Hc2 H2 (g.trans g2) p2
    | false => exact h2 rfl Hc1 σ H1 (hs.grow g) Q fun v Hc2 H2 g2 p2 => q v Hc2 H2 (g.trans g2) p2)
/-- a built-in called -/
theorem ev_callB {x : Str} {p : Pos} {id : String} {r : List V → Hp → VK → Prop} (hc : CallR X (.builtin id) r) (hg : Gl X x) (hm : X.mg x = none) (hv : bootBuiltins x = some (.builtin id)) (ha : EVa X (e :: es) env ds)
    (hr : ∀ vs Hc H, Cor Hc H → DpAll X.K Hc vs ds → ∀ Q : VK, (∀ v Hc1 H1, Grow Hc H Hc1 H1 → Dq X.K Hc1 v d → Q v H1) → r vs H Q)
    (hn : x ≠ "__name__" := by decide) (hdb : (x == ("__debug__" : Str)) = false := by decide)
    (he : starEach (e :: es) X.env = (false, eval e X.env) :: starEach es X.env := by rfl) (hpl : (backTo pos (starEach es X.env)).any (·.1) = false := by rfl) : EVd X (.Call (.Name x p) (e :: es) [] pos) env d := fun Hc σ H hs Q q =>
  wx_of (pe_callB hc hg hm hv pa_w hn hdb he hpl) (ha Hc σ H hs _ fun vs Hc1 H1 g p => hr vs Hc1 H1 g.cor p Q fun v Hc2 H2 g2 p2 => q v Hc2 H2 (g.trans g2) p2)
theorem ev_callTy {x : Str} {p : Pos} {T : String} {r : List V → Hp → VK → Prop} (hc : CallR X (.type T) r) (hg : Gl X x) (hm : X.mg x = none) (hv : bootBuiltins x = some (.type T)) (ha : EVa X (e :: es) env ds)
    (hr : ∀ vs Hc H, Cor Hc H → DpAll X.K Hc vs ds → ∀ Q : VK, (∀ v Hc1 H1, Grow Hc H Hc1 H1 → Dq X.K Hc1 v d → Q v H1) → r vs H Q)
    (hn : x ≠ "__name__" := by decide) (hdb : (x == ("__debug__" : Str)) = false := by decide)
    (he : starEach (e :: es) X.env = (false, eval e X.env) :: starEach es X.env := by rfl) (hpl : (backTo pos (starEach es X.env)).any (·.1) = false := by rfl) : EVd X (.Call (.Name x p) (e :: es) [] pos) env d := fun Hc σ H hs Q q =>
  wx_of (pe_callTy hc hg hm hv pa_w hn hdb he hpl) (ha Hc σ H hs _ fun vs Hc1 H1 g p => hr vs Hc1 H1 g.cor p Q fun v Hc2 H2 g2 p2 => q v Hc2 H2 (g.trans g2) p2)
end
end DL
set_option Elab.async false
set_option linter.all false
set_option maxRecDepth 100000
set_option maxHeartbeats 1000000
set_option autoImplicit false
/-! DL2: subscripts, comparisons, built-ins over data -/
namespace DL
open PySem PySem.Spec PyProof.Rows L2
section
variable {X : Cx} {e a b c : Expr} {es : List Expr} {env : DEnv} {pos : Pos} {d : D} {ds : List D}
theorem atI_dp {K : PySem.W.Frag} {H : Hp} {vs : List V} {i : Int} (h : DpAll K H vs ds) (e : atI ds i = some d) : ∃ v, atI vs i = some v ∧ Dp K H v d := by
  unfold atI at e ⊢
  rw [h.len]
  cases q : ixN ds.length i with
  | none => rw [q] at e; cases e
  | some j =>
    rw [q] at e
    exact h.get e
theorem ev_ix {r : R2} {d1 d2 : D} (hr : IxR X r) (ha : EVd X a env d1) (hb : EVd X b env d2) (hs : PlainIx b)
    (hq : ∀ x y Hc H, Cor Hc H → Dq X.K Hc x d1 → Dq X.K Hc y d2 → ∀ Q : VK, (∀ v, Dp X.K Hc v d → Q v H) → r x y H Q) : EVd X (.Subscript a b pos) env d :=
  fun Hc σ H hd Q q => wx_of (pe_ix hr pe_w pe_w hs) (ha Hc σ H hd _ fun x Hc1 H1 g1 p1 => hb Hc1 σ H1 (hd.grow g1) _ fun y Hc2 H2 g2 p2 =>
    hq x y Hc2 H2 g2.cor (p1.same g2.cc) p2 Q fun v p3 => q v Hc2 H2 (g1.trans g2) p3.q)
/-- t[i], xs[i] -/
theorem ev_ixT {i : Int} (ha : EVd X a env (.tuple ds)) (hb : EVd X b env (.int i)) (hi : atI ds i = some d) (hs : PlainIx b := by exact fun _ _ => rfl) : EVd X (.Subscript a b pos) env d :=
  ev_ix ix_tup ha hb hs fun x y Hc H c p1 p2 Q q => by
    obtain ⟨p, xs, rfl, h1, h2⟩ := dp_tupI p1
    obtain ⟨v, h3, h4⟩ := atI_dp h2 hi
    exact ⟨p, xs, i, v, rfl, dp_int p2, sqt_sub c h1, h3, q v h4⟩
theorem ev_ixL {i : Int} (ha : EVd X a env (.list ds)) (hb : EVd X b env (.int i)) (hi : atI ds i = some d) (hs : PlainIx b := by exact fun _ _ => rfl) : EVd X (.Subscript a b pos) env d :=
  ev_ix ix_list ha hb hs fun x y Hc H c p1 p2 Q q => by
    obtain ⟨p, xs, rfl, h1, h2⟩ := dp_lstI p1
    obtain ⟨v, h3, h4⟩ := atI_dp h2 hi
    exact ⟨p, xs, i, v, rfl, dp_int p2, sql_sub c h1, h3, q v h4⟩
theorem ev_ixS {z : Str} {i : Int} {k : Nat} (ha : EVd X a env (.str z)) (hb : EVd X b env (.int i)) (hz : z.length ≤ sizeLine) (hi : atI z.cps.toList i = some k) (hs : PlainIx b := by exact fun _ _ => rfl) : EVd X (.Subscript a b pos) env (.str ⟨#[k]⟩) :=
  ev_ix ix_str ha hb hs fun x y Hc H c p1 p2 Q q => ⟨z, i, k, dp_str p1, dp_int p2, hz, hi, q _ (.str _)⟩
/-! slices -/
def EVo (X : Cx) (e : Option Expr) (env : DEnv) (o : Option Int) : Prop := ∀ (Hc : Hp) (σ : L2.St) (H : Hp), DSX X.K Hc σ H env → ∀ Q : Option Int → Hp → Prop, (∀ Hc1 H1, Grow Hc H Hc1 H1 → Q o H1) → ∃ t, PO X e t ∧ t σ H Q
def WO (X : Cx) (e : Option Expr) : TO := fun σ H Q => ∃ t, PO X e t ∧ t σ H Q
theorem po_w {o : Option Expr} : PO X o (WO X o) := by
  refine ⟨?_⟩
  intro pins s σ H Q I ⟨t, p, h⟩
  exact p.run pins s σ H Q I h
theorem eo_none : EVo X none env none := fun Hc σ H hs Q q => ⟨_, po_none, q Hc H (Grow.refl hs.cor)⟩
theorem eo_some {i : Int} (h : EVd X e env (.int i)) : EVo X (some e) env (some i) := fun Hc σ H hs Q q =>
  ⟨_, po_some pe_w, h Hc σ H hs _ fun v Hc1 H1 g p => ⟨i, dp_int p, q Hc1 H1 g⟩⟩
def cutD (xs : List D) (lo hi : Option Int) : List D := (xs.drop (HT.sIx xs.length 0 lo)).take (HT.sIx xs.length xs.length hi - HT.sIx xs.length 0 lo)
theorem cut_dp {K : PySem.W.Frag} {H : Hp} {vs : List V} {lo hi : Option Int} (h : DpAll K H vs ds) : DpAll K H (cutV vs lo hi) (cutD ds lo hi) := by
  unfold cutV cutD
  rw [h.len]
  exact (h.drop _).take _
theorem ev_slT {o1 o2 : Option Expr} {lo hi : Option Int} {p2 : Pos} (ha : EVd X a env (.tuple ds)) (h1 : EVo X o1 env lo) (h2 : EVo X o2 env hi) : EVd X (.Subscript a (.Slice o1 o2 none p2) pos) env (.tuple (cutD ds lo hi)) :=
  fun Hc σ H hd Q q => wx_of (pe_slice sl_tupA pe_w po_w po_w) (ha Hc σ H hd _ fun x Hc1 H1 g1 p1 => h1 Hc1 σ H1 (hd.grow g1) _ fun Hc2 H2 g2 => h2 Hc2 σ H2 ((hd.grow g1).grow g2) _ fun Hc3 H3 g3 => by
    obtain ⟨p, xs, rfl, h1, h2⟩ := dp_tupI p1
    have g23 := g2.trans g3
    have hx := cut_dp (lo := lo) (hi := hi) (h2.same g23.cc)
    refine ⟨p, xs, rfl, sqt_sub g3.cor (seqT_same g23.cc h1), ?_⟩
    have fin : Q (.ref p) H3 ∨ True := .inr trivial
    refine ⟨fun hw => ?_, fun hw l nl => ?_⟩
    · have e1 : cutV xs lo hi = xs := by
        unfold cutV
        rw [hw.1, hw.2]
        simp
      rw [e1] at hx
      exact q _ Hc3 H3 (g1.trans g23) (L2.Dp.tup (seqT_same g23.cc h1) hx)
    · have g4 := Grow.new (o := .tup (cutV xs lo hi)) g3.cor nl
      exact q _ _ _ ((g1.trans g23).trans g4) (L2.Dp.tup (.inl (.inl upd_same)) (hx.same g4.cc)))
theorem en_slL {o1 o2 : Option Expr} {lo hi : Option Int} {p2 : Pos} (ha : EVd X a env (.list ds)) (h1 : EVo X o1 env lo) (h2 : EVo X o2 env hi) : EVn X (.Subscript a (.Slice o1 o2 none p2) pos) env (cutD ds lo hi) :=
  fun Hc σ H hd Q q => wx_of (pe_slice sl_list pe_w po_w po_w) (ha Hc σ H hd _ fun x Hc1 H1 g1 p1 => h1 Hc1 σ H1 (hd.grow g1) _ fun Hc2 H2 g2 => h2 Hc2 σ H2 ((hd.grow g1).grow g2) _ fun Hc3 H3 g3 => by
    obtain ⟨p, xs, rfl, h1, h2⟩ := dp_lstI p1
    have g23 := g2.trans g3
    refine ⟨p, xs, rfl, sql_sub g3.cor (g23.cc.seq h1), fun l nl => ?_⟩
    have g4 := Grow.own (xs := cutV xs lo hi) g3.cor nl
    have gg := g1.trans g23
    exact q l _ Hc3 _ (gg.trans g4) (gg.hh.free nl) (g3.cor.sub.free nl) upd_same (cut_dp (h2.same g23.cc)))
theorem ev_slS {z : Str} {o1 o2 : Option Expr} {lo hi : Option Int} {p2 : Pos} (ha : EVd X a env (.str z)) (h1 : EVo X o1 env lo) (h2 : EVo X o2 env hi) (hz : z.length ≤ sizeLine) : EVd X (.Subscript a (.Slice o1 o2 none p2) pos) env (.str (cutS z lo hi)) :=
  fun Hc σ H hd Q q => wx_of (pe_slice sl_str pe_w po_w po_w) (ha Hc σ H hd _ fun x Hc1 H1 g1 p1 => h1 Hc1 σ H1 (hd.grow g1) _ fun Hc2 H2 g2 => h2 Hc2 σ H2 ((hd.grow g1).grow g2) _ fun Hc3 H3 g3 =>
    ⟨z, dp_str p1, hz, q _ Hc3 H3 ((g1.trans g2).trans g3) (L2.Dp.str _)⟩)
/-! t + u, xs + ys -/
theorem ev_catT {es1 : List D} (ha : EVd X a env (.tuple ds)) (hb : EVd X b env (.tuple es1)) (hz : ds.length + es1.length ≤ sizeLine) : EVd X (.BinOp a .Add b pos) env (.tuple (ds ++ es1)) :=
  ev_op op_catA ha hb fun x y Hc H c p1 p2 Q q => by
    obtain ⟨p, xs, rfl, h1, h2⟩ := dp_tupI p1
    obtain ⟨p', ys, rfl, h3, h4⟩ := dp_tupI p2
    have hx := h2.app h4
    refine ⟨p, p', xs, ys, rfl, rfl, sqt_sub c h1, sqt_sub c h3, by rw [h2.len, h4.len]; exact hz, fun e1 => ?_, fun _ e2 => ?_, fun _ _ l nl => ?_⟩
    · subst e1
      cases h2
      exact q _ Hc H (Grow.refl c) p2
    · subst e2
      cases h4
      exact q _ Hc H (Grow.refl c) (by rw [List.append_nil]; exact p1)
    · have g4 := Grow.new (o := .tup (xs ++ ys)) c nl
      exact q _ _ _ g4 (L2.Dp.tup (.inl (.inl upd_same)) (hx.same g4.cc))
/-! comparisons -/
theorem nomk {op : CmpOp} (h : op ≠ .In := by decide) (h2 : op ≠ .NotIn := by decide) : behindInMarks op b = false := nomark b h h2
/-- a comparison, as a value and as a test -/
def EVc (X : Cx) (op : CmpOp) (a b : Expr) (env : DEnv) (k : Bool) : Prop := behindInMarks op b = false ∧ ∃ (r : R2) (d1 d2 : D), OpR X (compareOp op) r ∧ EVd X a env d1 ∧ EVd X b env d2 ∧
  ∀ x y Hc H, Cor Hc H → Dq X.K Hc x d1 → Dq X.K Hc y d2 → ∀ Q : VK, Q (.bl k) H → r x y H Q
theorem ev_c {op : CmpOp} {k : Bool} (h : EVc X op a b env k) : EVd X (.Compare a [op] [b] pos) env (.bool k) := by
  obtain ⟨hm, r, d1, d2, ho, ha, hb, hr⟩ := h
  exact ev_cmp ho ha hb hm hr
theorem et_c {op : CmpOp} {k : Bool} (h : EVc X op a b env k) : EVt X (.Compare a [op] [b] pos) env k := by
  obtain ⟨hm, r, d1, d2, ho, ha, hb, hr⟩ := h
  exact et_cmp ho ha hb hm hr
theorem ec_of {op : CmpOp} {r : R2} {d1 d2 : D} {k : Bool} (ho : OpR X (compareOp op) r) (ha : EVd X a env d1) (hb : EVd X b env d2) (hm : behindInMarks op b = false)
    (hr : ∀ x y Hc H, Cor Hc H → Dq X.K Hc x d1 → Dq X.K Hc y d2 → ∀ Q : VK, Q (.bl k) H → r x y H Q) : EVc X op a b env k := ⟨hm, r, d1, d2, ho, ha, hb, hr⟩
theorem EVc.is {op : CmpOp} {k k' : Bool} (h : EVc X op a b env k) (q : k = k') : EVc X op a b env k' := q ▸ h
abbrev lay (d : D) : Bool := SeqAt.shaped d
theorem cs_same {Hc H : Hp} {K : PySem.W.Frag} {v : V} (c : Cor Hc H) (h : Dp K Hc v d) : Dp K H v d := h.same c.sub
theorem lay_is (h : lay d = true) : isD d = true := by
  cases d with
  | dict kvs =>
    have h1 := SeqAt.canLay_of_shaped h
    simp [PyData.canLay0] at h1
  | _ => rfl
theorem alike_is {d1 d2 : D} (h : PySem.W.alike d1 d2 = true) : isD d1 = true ∧ isD d2 = true := by
  cases d1 <;> cases d2 <;> first | exact ⟨rfl, rfl⟩ | (simp [PySem.W.alike] at h)
theorem ec_eq {d1 d2 : D} (hu : X.A.units + 64 < cLine) (ha : EVd X a env d1) (hb : EVd X b env d2) (s1 : lay d1 = true) (s2 : lay d2 = true) : EVc X .Eq a b env (PyData.eqv d1 d2) :=
  ec_of (op_eqD hu) ha hb nomk fun x y Hc H c p1 p2 Q q => ⟨d1, d2, cs_same c (p1.p (lay_is s1)), cs_same c (p2.p (lay_is s2)), s1, s2, q⟩
theorem ec_ne {d1 d2 : D} (hu : X.A.units + 64 < cLine) (ha : EVd X a env d1) (hb : EVd X b env d2) (s1 : lay d1 = true) (s2 : lay d2 = true) : EVc X .NotEq a b env (!PyData.eqv d1 d2) :=
  ec_of (op_neD hu) ha hb nomk fun x y Hc H c p1 p2 Q q => ⟨d1, d2, cs_same c (p1.p (lay_is s1)), cs_same c (p2.p (lay_is s2)), s1, s2, q⟩
theorem ec_eqS {x y : Str} (ha : EVd X a env (.str x)) (hb : EVd X b env (.str y)) : EVc X .Eq a b env (decide (x = y)) :=
  ec_of op_eq ha hb nomk fun u v Hc H c p1 p2 Q q => by
    rw [dp_str p1, dp_str p2]
    refine ⟨rfl, ?_⟩
    rw [show decide (V.str x = V.str y) = decide (x = y) from by by_cases h : x = y <;> simp [h]]
    exact q
theorem ec_neS {x y : Str} (ha : EVd X a env (.str x)) (hb : EVd X b env (.str y)) : EVc X .NotEq a b env (!decide (x = y)) :=
  ec_of op_ne ha hb nomk fun u v Hc H c p1 p2 Q q => by
    rw [dp_str p1, dp_str p2]
    refine ⟨rfl, ?_⟩
    rw [show decide (V.str x = V.str y) = decide (x = y) from by by_cases h : x = y <;> simp [h]]
    exact q
theorem ec_eqI {x y : Int} (ha : EVd X a env (.int x)) (hb : EVd X b env (.int y)) : EVc X .Eq a b env (decide (x = y)) :=
  ec_of op_eq ha hb nomk fun u v Hc H c p1 p2 Q q => by
    rw [dp_int p1, dp_int p2]
    refine ⟨rfl, ?_⟩
    rw [show decide (V.int x = V.int y) = decide (x = y) from by by_cases h : x = y <;> simp [h]]
    exact q
theorem ec_neI {x y : Int} (ha : EVd X a env (.int x)) (hb : EVd X b env (.int y)) : EVc X .NotEq a b env (!decide (x = y)) :=
  ec_of op_ne ha hb nomk fun u v Hc H c p1 p2 Q q => by
    rw [dp_int p1, dp_int p2]
    refine ⟨rfl, ?_⟩
    rw [show decide (V.int x = V.int y) = decide (x = y) from by by_cases h : x = y <;> simp [h]]
    exact q
theorem ec_ltS {x y : Str} (ha : EVd X a env (.str x)) (hb : EVd X b env (.str y)) : EVc X .Lt a b env (decide (x.cps.toList < y.cps.toList)) :=
  ec_of op_lt_str ha hb nomk fun u v Hc H c p1 p2 Q q => ⟨x, y, dp_str p1, dp_str p2, q⟩
def isNon : D → Bool
  | .none => true
  | _ => false
theorem dp_isNon {K : PySem.W.Frag} {H : Hp} {v : V} (h : Dp K H v d) : decide (v = .non) = isNon d := by
  cases h <;> simp [isNon]
theorem dq_isNon {K : PySem.W.Frag} {H : Hp} {v : V} (h : Dq K H v d) : decide (v = .non) = isNon d := by
  cases d with
  | dict kvs =>
    unfold Dq at h
    split at h
    · obtain ⟨a, b, v2, ys, o, ds, d2, rfl, _⟩ := h
      rfl
    · rw [h]
      rfl
    · obtain ⟨a, o, rfl, _⟩ := h
      rfl
    · rename_i hn
      exact (hn _ rfl).elim
  | _ => exact dp_isNon (show Dp K H v _ from h)
theorem ev_isN {j pos'} (ha : EVd X a env d) : EVd X (.Compare a [.Is] [.Constant .none j pos'] pos) env (.bool (isNon d)) := fun Hc σ H hs Q q =>
  wx_of (pe_cmp (pc_isN pe_w) rfl) (ha Hc σ H hs _ fun v Hc1 H1 g p => q _ Hc1 H1 g (by rw [dq_isNon p]; exact L2.Dp.bl _))
theorem et_isN {j pos'} (ha : EVd X a env d) : EVt X (.Compare a [.Is] [.Constant .none j pos'] pos) env (isNon d) := fun Hc σ H hs Q q =>
  wt_of (pt_cmp (pc_isN pe_w) rfl) (ha Hc σ H hs _ fun v Hc1 H1 g p => ⟨_, rfl, by rw [dq_isNon p]; exact q Hc1 H1 g⟩)
theorem ev_notN {j pos'} (ha : EVd X a env d) : EVd X (.Compare a [.IsNot] [.Constant .none j pos'] pos) env (.bool (!isNon d)) := fun Hc σ H hs Q q =>
  wx_of (pe_cmp (pc_notN pe_w) rfl) (ha Hc σ H hs _ fun v Hc1 H1 g p => q _ Hc1 H1 g (by rw [dq_isNon p]; exact L2.Dp.bl _))
theorem et_notN {j pos'} (ha : EVd X a env d) : EVt X (.Compare a [.IsNot] [.Constant .none j pos'] pos) env (!isNon d) := fun Hc σ H hs Q q =>
  wt_of (pt_cmp (pc_notN pe_w) rfl) (ha Hc σ H hs _ fun v Hc1 H1 g p => ⟨_, rfl, by rw [dq_isNon p]; exact q Hc1 H1 g⟩)
theorem ec_lt {i j : Int} (ha : EVd X a env (.int i)) (hb : EVd X b env (.int j)) : EVc X .Lt a b env (decide (i < j)) :=
  ec_of op_lt ha hb nomk fun x y Hc H c p1 p2 Q q => ⟨i, j, dp_int p1, dp_int p2, q⟩
theorem ec_le {i j : Int} (ha : EVd X a env (.int i)) (hb : EVd X b env (.int j)) : EVc X .LtE a b env (decide (i ≤ j)) :=
  ec_of op_le ha hb nomk fun x y Hc H c p1 p2 Q q => ⟨i, j, dp_int p1, dp_int p2, q⟩
theorem ec_gt {i j : Int} (ha : EVd X a env (.int i)) (hb : EVd X b env (.int j)) : EVc X .Gt a b env (decide (j < i)) :=
  ec_of op_gt ha hb nomk fun x y Hc H c p1 p2 Q q => ⟨i, j, dp_int p1, dp_int p2, q⟩
theorem ec_ge {i j : Int} (ha : EVd X a env (.int i)) (hb : EVd X b env (.int j)) : EVc X .GtE a b env (decide (j ≤ i)) :=
  ec_of op_ge ha hb nomk fun x y Hc H c p1 p2 Q q => ⟨i, j, dp_int p1, dp_int p2, q⟩
/-- lo <= x <= hi -/
theorem ev_chain {i j k : Int} (ha : EVd X a env (.int i)) (hb : EVd X b env (.int j)) (hc : EVd X c env (.int k)) (hm : lastMarks [.LtE, .LtE] [b, c] = false := by rfl) : EVd X (.Compare a [.LtE, .LtE] [b, c] pos) env (.bool (decide (i ≤ j) && decide (j ≤ k))) := fun Hc σ H hs Q q =>
  wx_of (pe_chain op_le op_le pe_w pe_w pe_w (hm := hm)) (ha Hc σ H hs _ fun x Hc1 H1 g1 p1 => hb Hc1 σ H1 (hs.grow g1) _ fun y Hc2 H2 g2 p2 => ⟨i, j, dp_int p1, dp_int p2, _, rfl, by
    by_cases h : i ≤ j
    · rw [decide_eq_true h, if_pos rfl]
      exact hc Hc2 σ H2 ((hs.grow g1).grow g2) _ fun z Hc3 H3 g3 p3 => ⟨j, k, dp_int p2, dp_int p3, by
        have z := q (.bl (true && decide (j ≤ k))) Hc3 H3 ((g1.trans g2).trans g3) (by rw [decide_eq_true h]; exact L2.Dp.bl _)
        exact z⟩
    · rw [decide_eq_false h, if_neg Bool.false_ne_true]
      exact q _ Hc2 H2 (g1.trans g2) (by rw [decide_eq_false h]; exact L2.Dp.bl false)⟩)
theorem et_chain {i j k : Int} (ha : EVd X a env (.int i)) (hb : EVd X b env (.int j)) (hc : EVd X c env (.int k)) (hm : lastMarks [.LtE, .LtE] [b, c] = false := by rfl) : EVt X (.Compare a [.LtE, .LtE] [b, c] pos) env (decide (i ≤ j) && decide (j ≤ k)) := fun Hc σ H hs Q q =>
  wt_of (pt_chain op_le op_le pe_w pe_w pe_w (hm := hm)) (ha Hc σ H hs _ fun x Hc1 H1 g1 p1 => hb Hc1 σ H1 (hs.grow g1) _ fun y Hc2 H2 g2 p2 => ⟨i, j, dp_int p1, dp_int p2, _, rfl, by
    by_cases h : i ≤ j
    · rw [decide_eq_true h] at q ⊢
      rw [if_pos rfl]
      exact hc Hc2 σ H2 ((hs.grow g1).grow g2) _ fun z Hc3 H3 g3 p3 => ⟨j, k, dp_int p2, dp_int p3, _, rfl, q Hc3 H3 ((g1.trans g2).trans g3)⟩
    · rw [decide_eq_false h] at q ⊢
      rw [if_neg Bool.false_ne_true]
      exact ⟨_, rfl, q Hc2 H2 (g1.trans g2)⟩⟩)
/-! in -/
def flatD : D → Bool
  | .list _ | .tuple _ | .dict _ => false
  | _ => true
theorem flat_dp {K : PySem.W.Frag} {H : Hp} {v : V} (h : Dp K H v d) (f : flatD d = true) : flatV v = true := by
  cases h <;> first | rfl | cases f
theorem flat_is (f : flatD d = true) : isD d = true := by cases d <;> first | rfl | cases f
theorem flat_dps {K : PySem.W.Frag} {H : Hp} : ∀ {vs : List V} {ds : List D}, DpAll K H vs ds → ds.all flatD = true → vs.all flatV = true
  | _, _, .nil, _ => rfl
  | _, _, .cons h t, f => by
    rw [List.all_cons, Bool.and_eq_true] at f ⊢
    exact ⟨flat_dp h f.1, flat_dps t f.2⟩
theorem eqv_dp {K : PySem.W.Frag} {H : Hp} {v u : V} {d1 d2 : D} (h : Dp K H v d1) (k : Dp K H u d2) (f1 : flatD d1 = true) (f2 : flatD d2 = true) : eqV v u = PyData.eqv d1 d2 := by
  cases h <;> cases k <;> first | (cases f1; done) | (cases f2; done) | (unfold eqV PyData.eqv; first | rfl | simp [eqV, PyData.eqv])
theorem inV_dp {K : PySem.W.Frag} {H : Hp} {u : V} (k : Dp K H u d) (f : flatD d = true) : ∀ {vs : List V} {ds : List D}, DpAll K H vs ds → ds.all flatD = true → inV u vs = ds.any fun z => PyData.eqv z d
  | _, _, .nil, _ => rfl
  | _, _, .cons h t, fs => by
    rw [List.all_cons, Bool.and_eq_true] at fs
    have ih := inV_dp k f t fs.2
    unfold inV at ih ⊢
    rw [List.any_cons, List.any_cons, eqv_dp h k fs.1 f, ih]
/-- x in a list or tuple of flat items -/
def seqD : D → Option (List D)
  | .list ds => some ds
  | .tuple ds => some ds
  | _ => none
theorem seq_is {d1 : D} (e : seqD d1 = some ds) : isD d1 = true := by cases d1 <;> first | rfl | cases e
theorem seq_dp {K : PySem.W.Frag} {Hc H : Hp} {v : V} {d1 : D} (c : Cor Hc H) (hq : Dq K Hc v d1) (e : seqD d1 = some ds) : ∃ p xs, v = .ref p ∧ (SqL K H p xs ∨ SqT K H p xs) ∧ DpAll K Hc xs ds := by
  have h := hq.p (seq_is e)
  cases h with
  | lst h a =>
    cases e
    exact ⟨_, _, rfl, .inl (sql_sub c h), a⟩
  | tup h a =>
    cases e
    exact ⟨_, _, rfl, .inr (sqt_sub c h), a⟩
  | _ => cases e
theorem ec_in {d1 d2 : D} (ha : EVd X a env d1) (hb : EVd X b env d2) (hd : seqD d2 = some ds) (f1 : flatD d1 = true) (f2 : ds.all flatD = true) (hm : behindInMarks .In b = false := by with_unfolding_all rfl) :
    EVc X .In a b env (ds.any fun z => PyData.eqv z d1) :=
  ec_of op_in_seq ha hb hm fun x y Hc H c p1 p2 Q q => by
    obtain ⟨p, xs, rfl, h1, h2⟩ := seq_dp c p2 hd
    refine ⟨p, xs, rfl, h1, flat_dp (p1.p (flat_is f1)) f1, flat_dps h2 f2, ?_⟩
    rw [if_neg Bool.false_ne_true, inV_dp (p1.p (flat_is f1)) f1 h2 f2]
    exact q
theorem ec_notin {d1 d2 : D} (ha : EVd X a env d1) (hb : EVd X b env d2) (hd : seqD d2 = some ds) (f1 : flatD d1 = true) (f2 : ds.all flatD = true) (hm : behindInMarks .NotIn b = false := by with_unfolding_all rfl) :
    EVc X .NotIn a b env (!ds.any fun z => PyData.eqv z d1) :=
  ec_of op_notIn_seq ha hb hm fun x y Hc H c p1 p2 Q q => by
    obtain ⟨p, xs, rfl, h1, h2⟩ := seq_dp c p2 hd
    refine ⟨p, xs, rfl, h1, flat_dp (p1.p (flat_is f1)) f1, flat_dps h2 f2, ?_⟩
    rw [if_pos rfl, inV_dp (p1.p (flat_is f1)) f1 h2 f2]
    exact q
theorem ec_inD {d1 : D} (hu : X.A.units + 65 < cLine) (ha : EVd X a env d1) (hb : EVd X b env (.list ds)) (f1 : lay d1 = true) (f2 : lay (.list ds) = true) (hm : behindInMarks .In b = false := by with_unfolding_all rfl) :
    EVc X .In a b env (ds.any fun z => PyData.eqv z d1) :=
  ec_of (op_inD hu) ha hb hm fun x y Hc H c p1 p2 Q q => ⟨d1, ds, cs_same c (p1.p (lay_is f1)), cs_same c p2, f1, f2, q⟩
theorem ec_notinD {d1 : D} (hu : X.A.units + 65 < cLine) (ha : EVd X a env d1) (hb : EVd X b env (.list ds)) (f1 : lay d1 = true) (f2 : lay (.list ds) = true) (hm : behindInMarks .NotIn b = false := by with_unfolding_all rfl) :
    EVc X .NotIn a b env (!ds.any fun z => PyData.eqv z d1) :=
  ec_of (op_notInD hu) ha hb hm fun x y Hc H c p1 p2 Q q => ⟨d1, ds, cs_same c (p1.p (lay_is f1)), cs_same c p2, f1, f2, q⟩
theorem ec_inS {x y : Str} (ha : EVd X a env (.str x)) (hb : EVd X b env (.str y)) (hm : behindInMarks .In b = false := by with_unfolding_all rfl) :
    EVc X .In a b env (!(Builtin.Str.occurrences y x 0 y.length 1).isEmpty) :=
  ec_of op_in_str ha hb hm fun u v Hc H c p1 p2 Q q => ⟨x, y, dp_str p1, dp_str p2, q⟩
/-- one sign -/
theorem ec_in1 {k : Nat} {y : Str} (ha : EVd X a env (.str ⟨#[k]⟩)) (hb : EVd X b env (.str y)) (hm : behindInMarks .In b = false := by with_unfolding_all rfl) :
    EVc X .In a b env (decide (k ∈ y.cps.toList)) :=
  ec_of op_in_sign ha hb hm fun u v Hc H c p1 p2 Q q => ⟨k, y, dp_str p1, dp_str p2, q⟩
/-! < of data -/
theorem op_ltD (h : ∀ n : Nat, n ≤ 200 → X.A.units + n < cLine) : OpR X (compareOp .Lt) (fun x y H Q => ∃ d1 d2, Dp X.K H x d1 ∧ Dp X.K H y d2 ∧ PySem.W.alike d1 d2 = true ∧ d1 ≠ .none ∧ min d1.depth d2.depth ≤ 200 ∧ Q (.bl (PySem.W.dataLt d1 d2)) H) := by
  intro pins s σ H x y v u Q I rx ry hh
  obtain ⟨d1, d2, h1, h2, al, nn, dd, q⟩ := hh
  obtain ⟨as, r1⟩ := Dp.reads I d1 x v h1 rx
  obtain ⟨bs, r2⟩ := Dp.reads I d2 y u h2 ry
  exact PySem.W.rcLt_alike d1 d2 X.A s v u as bs r1 r2 al nn (h _ dd) X.prog X.w X.xe (EP X pins σ Q) ⟨.bl _, H, I, rfl, q⟩
theorem ec_ltD {d1 d2 : D} (h : ∀ n : Nat, n ≤ 200 → X.A.units + n < cLine) (ha : EVd X a env d1) (hb : EVd X b env d2) (al : PySem.W.alike d1 d2 = true) (nn : d1 ≠ .none) (dd : min d1.depth d2.depth ≤ 200) :
    EVc X .Lt a b env (PySem.W.dataLt d1 d2) :=
  ec_of (op_ltD h) ha hb nomk fun x y Hc H c p1 p2 Q q => ⟨d1, d2, cs_same c (p1.p (alike_is al).1), cs_same c (p2.p (alike_is al).2), al, nn, dd, q⟩
end
end DL
set_option Elab.async false
set_option linter.all false
set_option maxRecDepth 100000
set_option maxHeartbeats 1000000
set_option autoImplicit false
/-! DL3: built-in calls over data -/
namespace DL
open PySem PySem.Spec PyProof.Rows L2
section
variable {X : Cx} {e a b c : Expr} {es : List Expr} {env : DEnv} {pos : Pos} {d : D} {ds : List D}
/-! isinstance -/
def tyOf : D → String
  | .none => "NoneType"
  | .bool _ => "bool"
  | .int _ => "int"
  | .str _ => "str"
  | .list _ => "list"
  | .tuple _ => "tuple"
  | .dict _ => "dict"
theorem rd_tyL {K : PySem.W.Frag} {H : Hp} {p : Addr} {xs : List V} (h : SqL K H p xs) : TyX K H (.ref p) (.type "list") := by
  rcases h with (h | ⟨o, h⟩) | ⟨o, its, n, h1, h2, _⟩
  · exact .base (.lst h)
  · exact .base (.frz h)
  · exact .kList h1 h2
theorem rd_tyT {K : PySem.W.Frag} {H : Hp} {p : Addr} {xs : List V} (h : SqT K H p xs) : TyX K H (.ref p) (.type "tuple") := by
  rcases h with (h | ⟨o, h⟩) | ⟨o, its, n, h1, h2, _⟩
  · exact .base (.tup h)
  · exact .fTuple h
  · exact .kTuple h1 h2
theorem dp_ty {K : PySem.W.Frag} {H : Hp} {v : V} (h : Dp K H v d) : TyX K H v (.type (tyOf d)) := by
  cases h with
  | non => exact .base .non
  | bl b => exact .base (.bl b)
  | int i => exact .base (.int i)
  | str x => exact .base (.str x)
  | lst h _ => exact rd_tyL h
  | tup h _ => exact rd_tyT h
/-- isinstance(x, T), T a built-in type -/
theorem ev_isi {x : Str} {p p' : Pos} {T : String} {k : Bool} (ha : EVd X a env d) (hg : Gl X "isinstance") (hm : X.mg "isinstance" = none) (hg' : Gl X x) (hm' : X.mg x = none) (hv' : bootBuiltins x = some (.type T)) (hi : isD d = true) (hk : kitB (tyOf d) T = some k)
    (hn : x ≠ "__name__" := by decide) (hdb : (x == ("__debug__" : Str)) = false := by decide)
    (hs : starEach [.Name x p'] X.env = (false, eval (.Name x p') X.env) :: starEach [] X.env := by rfl)
    (he : starEach (a :: [.Name x p']) X.env = (false, eval a X.env) :: starEach [.Name x p'] X.env := by rfl) (hpl : (backTo pos (starEach [.Name x p'] X.env)).any (·.1) = false := by rfl) : EVd X (.Call (.Name "isinstance" p) [a, .Name x p'] [] pos) env (.bool k) := fun Hc σ H hd Q q =>
  wx_of (pe_callB call_isi hg hm (by decide +kernel) (pa_cons pe_w (pa_cons (pe_bltn (v := .ty T) hg' hm' hv' rfl hn hdb) pa_nil hs) he) (he := he) (hpl := hpl)) (ha Hc σ H hd _ fun v Hc1 H1 g p => by
    exact ⟨v, .ty T, .type (tyOf d), .type T, k, rfl, .ty T, dp_ty (cs_same g.cor (p.p hi)), kit_ty hk, q _ Hc1 H1 g (L2.Dp.bl k)⟩)
/-! len -/
def lenD : D → Option Nat
  | .list ds => some ds.length
  | .tuple ds => some ds.length
  | .str z => if z.length ≤ sizeLine then some z.length else none
  | _ => none
theorem len_is {n : Nat} (h : lenD d = some n) : isD d = true := by cases d <;> first | rfl | cases h
theorem ev_len {p : Pos} {n : Nat} (ha : EVd X a env d) (hg : Gl X "len") (hm : X.mg "len" = none) (hl : lenD d = some n) (he : starEach (a :: []) X.env = (false, eval a X.env) :: starEach [] X.env := by rfl) : EVd X (.Call (.Name "len" p) [a] [] pos) env (.int n) :=
  ev_callB call_len hg hm PySem.boot_len (ea_cons ha ea_nil (len_is hl) he) (fun vs Hc H c h Q q => by
    cases h with
    | cons h t =>
      cases t
      refine ⟨_, n, rfl, ?_, q _ Hc H (Grow.refl c) (L2.Dp.int _)⟩
      cases h with
      | str z =>
        have hl2 : (if z.length ≤ sizeLine then some z.length else none) = some n := hl
        by_cases hz : z.length ≤ sizeLine
        · rw [if_pos hz] at hl2
          exact ⟨hz, (Option.some.inj hl2).symm⟩
        · rw [if_neg hz] at hl2
          cases hl2
      | lst h a => exact .inl ⟨_, sql_sub c h, by rw [a.len]; exact (Option.some.inj hl).symm⟩
      | tup h a => exact .inr ⟨_, sqt_sub c h, by rw [a.len]; exact (Option.some.inj hl).symm⟩
      | _ => cases hl) (he := he) (hpl := by rfl)
/-! all, any, sum -/
theorem dps_bls {K : PySem.W.Frag} {H : Hp} : ∀ {bs : List Bool} {vs : List V}, DpAll K H vs (bs.map .bool) → vs = bs.map V.bl
  | [], _, h => by cases h; rfl
  | b :: bs, _, h => by
    cases h with
    | cons h t => rw [dp_bl h, dps_bls t]; rfl
theorem dps_ints {K : PySem.W.Frag} {H : Hp} : ∀ {bs : List Int} {vs : List V}, DpAll K H vs (bs.map .int) → vs = bs.map V.int
  | [], _, h => by cases h; rfl
  | b :: bs, _, h => by
    cases h with
    | cons h t => rw [dp_int h, dps_ints t]; rfl
theorem ev_all {p : Pos} {bs : List Bool} (hc : X.calm = true) (ha : EVd X a env (.list (bs.map .bool))) (hg : Gl X "all") (hm : X.mg "all" = none) (he : starEach (a :: []) X.env = (false, eval a X.env) :: starEach [] X.env := by rfl) : EVd X (.Call (.Name "all" p) [a] [] pos) env (.bool (bs.all id)) :=
  ev_callB (cr_all hc) hg hm (by decide +kernel) (ea_cons ha ea_nil rfl he) (fun vs Hc H c h Q q => by
    cases h with
    | cons h t =>
      cases t
      obtain ⟨p, xs, rfl, h1, h2⟩ := dp_lstI h
      exact ⟨p, bs, rfl, by rw [← dps_bls h2]; exact sql_sub c h1, q _ Hc H (Grow.refl c) (L2.Dp.bl _)⟩) (he := he) (hpl := by rfl)
theorem ev_any {p : Pos} {bs : List Bool} (hc : X.calm = true) (ha : EVd X a env (.list (bs.map .bool))) (hg : Gl X "any") (hm : X.mg "any" = none) (he : starEach (a :: []) X.env = (false, eval a X.env) :: starEach [] X.env := by rfl) : EVd X (.Call (.Name "any" p) [a] [] pos) env (.bool (bs.any id)) :=
  ev_callB (cr_any hc) hg hm (by decide +kernel) (ea_cons ha ea_nil rfl he) (fun vs Hc H c h Q q => by
    cases h with
    | cons h t =>
      cases t
      obtain ⟨p, xs, rfl, h1, h2⟩ := dp_lstI h
      exact ⟨p, bs, rfl, by rw [← dps_bls h2]; exact sql_sub c h1, q _ Hc H (Grow.refl c) (L2.Dp.bl _)⟩) (he := he) (hpl := by rfl)
theorem ev_sum {p : Pos} {bs : List Int} (hc : X.calm = true) (ha : EVd X a env (.list (bs.map .int))) (hg : Gl X "sum") (hm : X.mg "sum" = none) (he : starEach (a :: []) X.env = (false, eval a X.env) :: starEach [] X.env := by rfl) : EVd X (.Call (.Name "sum" p) [a] [] pos) env (.int bs.sum) :=
  ev_callB (cr_sum hc) hg hm (by decide +kernel) (ea_cons ha ea_nil rfl he) (fun vs Hc H c h Q q => by
    cases h with
    | cons h t =>
      cases t
      obtain ⟨p, xs, rfl, h1, h2⟩ := dp_lstI h
      exact ⟨p, bs, rfl, by rw [← dps_ints h2]; exact sql_sub c h1, q _ Hc H (Grow.refl c) (L2.Dp.int _)⟩) (he := he) (hpl := by rfl)
theorem ev_min {p : Pos} {i j : Int} (hc : X.calm = true) (ha : EVd X a env (.int i)) (hb : EVd X b env (.int j)) (hg : Gl X "min") (hm : X.mg "min" = none)
    (he2 : starEach (b :: []) X.env = (false, eval b X.env) :: starEach [] X.env := by rfl) (he : starEach (a :: [b]) X.env = (false, eval a X.env) :: starEach [b] X.env := by rfl) (hpl : (backTo pos (starEach [b] X.env)).any (·.1) = false := by rfl) : EVd X (.Call (.Name "min" p) [a, b] [] pos) env (.int (if j < i then j else i)) :=
  ev_callB (call_min2 hc) hg hm (by decide +kernel) (ea_cons ha (ea_cons hb ea_nil rfl he2) rfl he) (fun vs Hc H c h Q q => by
    cases h with
    | cons h t =>
      cases t with
      | cons h2 t =>
        cases t
        exact ⟨i, j, by rw [dp_int h, dp_int h2], q _ Hc H (Grow.refl c) (L2.Dp.int _)⟩) (he := he) (hpl := hpl)
theorem ev_max {p : Pos} {i j : Int} (hc : X.calm = true) (ha : EVd X a env (.int i)) (hb : EVd X b env (.int j)) (hg : Gl X "max") (hm : X.mg "max" = none)
    (he2 : starEach (b :: []) X.env = (false, eval b X.env) :: starEach [] X.env := by rfl) (he : starEach (a :: [b]) X.env = (false, eval a X.env) :: starEach [b] X.env := by rfl) (hpl : (backTo pos (starEach [b] X.env)).any (·.1) = false := by rfl) : EVd X (.Call (.Name "max" p) [a, b] [] pos) env (.int (if j > i then j else i)) :=
  ev_callB (call_max2 hc) hg hm (by decide +kernel) (ea_cons ha (ea_cons hb ea_nil rfl he2) rfl he) (fun vs Hc H c h Q q => by
    cases h with
    | cons h t =>
      cases t with
      | cons h2 t =>
        cases t
        exact ⟨i, j, by rw [dp_int h, dp_int h2], q _ Hc H (Grow.refl c) (L2.Dp.int _)⟩) (he := he) (hpl := hpl)
/-! tuple(xs), list(xs) -/
theorem ev_tuple {p : Pos} (ha : EVd X a env d) (hd : seqD d = some ds) (hg : Gl X "tuple") (hm : X.mg "tuple" = none) (he : starEach (a :: []) X.env = (false, eval a X.env) :: starEach [] X.env := by rfl) : EVd X (.Call (.Name "tuple" p) [a] [] pos) env (.tuple ds) :=
  ev_callTy call_tuple_of hg hm (by decide +kernel) (ea_cons ha ea_nil (seq_is hd) he) (fun vs Hc H c h Q q => by
    cases h with
    | cons h t =>
      cases t
      cases h with
      | @lst p' xs _ h a =>
        cases hd
        refine ⟨_, _, rfl, .inl ⟨sql_sub c h, fun l nl => ?_⟩⟩
        have g := Grow.new (o := .tup xs) c nl
        exact q _ _ _ g (L2.Dp.tup (.inl (.inl upd_same)) (a.same g.cc))
      | tup h a =>
        cases hd
        exact ⟨_, _, rfl, .inr ⟨sqt_sub c h, q _ Hc H (Grow.refl c) (L2.Dp.tup h a)⟩⟩
      | _ => cases hd) (he := he) (hpl := by rfl)
theorem en_callTy {x : Str} {p : Pos} {T : String} {r : List V → Hp → VK → Prop} (hc : CallR X (.type T) r) (hg : Gl X x) (hm : X.mg x = none) (hv : bootBuiltins x = some (.type T)) {ds1 : List D} (ha : EVa X (e :: es) env ds1)
    (hr : ∀ vs Hc H, Cor Hc H → DpAll X.K Hc vs ds1 → ∀ Q : VK, (∀ l us, H l = none → DpAll X.K Hc us ds → Q (.ref l) (upd H l (.lst us))) → r vs H Q)
    (hn : x ≠ "__name__" := by decide) (hdb : (x == ("__debug__" : Str)) = false := by decide)
    (he : starEach (e :: es) X.env = (false, eval e X.env) :: starEach es X.env := by rfl) (hpl : (backTo pos (starEach es X.env)).any (·.1) = false := by rfl) : EVn X (.Call (.Name x p) (e :: es) [] pos) env ds := fun Hc σ H hs Q q =>
  wx_of (pe_callTy hc hg hm hv pa_w hn hdb he hpl) (ha Hc σ H hs _ fun vs Hc1 H1 g p => hr vs Hc1 H1 g.cor p Q fun l us nl h =>
    q l us Hc1 _ (g.trans (Grow.own (xs := us) g.cor nl)) (g.hh.free nl) (g.cor.sub.free nl) upd_same h)
theorem en_callB {x : Str} {p : Pos} {id : String} {r : List V → Hp → VK → Prop} (hc : CallR X (.builtin id) r) (hg : Gl X x) (hm : X.mg x = none) (hv : bootBuiltins x = some (.builtin id)) {ds1 : List D} (ha : EVa X (e :: es) env ds1)
    (hr : ∀ vs Hc H, Cor Hc H → DpAll X.K Hc vs ds1 → ∀ Q : VK, (∀ l us, H l = none → DpAll X.K Hc us ds → Q (.ref l) (upd H l (.lst us))) → r vs H Q)
    (hn : x ≠ "__name__" := by decide) (hdb : (x == ("__debug__" : Str)) = false := by decide)
    (he : starEach (e :: es) X.env = (false, eval e X.env) :: starEach es X.env := by rfl) (hpl : (backTo pos (starEach es X.env)).any (·.1) = false := by rfl) : EVn X (.Call (.Name x p) (e :: es) [] pos) env ds := fun Hc σ H hs Q q =>
  wx_of (pe_callB hc hg hm hv pa_w hn hdb he hpl) (ha Hc σ H hs _ fun vs Hc1 H1 g p => hr vs Hc1 H1 g.cor p Q fun l us nl h =>
    q l us Hc1 _ (g.trans (Grow.own (xs := us) g.cor nl)) (g.hh.free nl) (g.cor.sub.free nl) upd_same h)
theorem en_list {p : Pos} (ha : EVd X a env d) (hd : seqD d = some ds) (hg : Gl X "list") (hm : X.mg "list" = none) (he : starEach (a :: []) X.env = (false, eval a X.env) :: starEach [] X.env := by rfl) : EVn X (.Call (.Name "list" p) [a] [] pos) env ds :=
  en_callTy call_list_of hg hm (by decide +kernel) (ea_cons ha ea_nil (seq_is hd) he) (fun vs Hc H c h Q q => by
    cases h with
    | cons h t =>
      cases t
      obtain ⟨p, xs, rfl, h1, h2⟩ := seq_dp c h.q hd
      exact ⟨p, xs, rfl, h1, fun l nl => q l xs nl h2⟩) (he := he) (hpl := by rfl)
/-! sorted -/
def sortD (ds : List D) : List D := ds.mergeSort (PySem.W.dataLe false id)
def rSortedD (K : PySem.W.Frag) (A : Around) : List V → Hp → VK → Prop := fun vs H Q => ∃ (p : Addr) (xs : List V) (ds : List D), vs = [V.ref p] ∧ SqL K H p xs ∧ DpAll K H xs ds ∧ PySem.W.AllAlike ds ∧ PySem.W.Sortable ds ∧ (∀ d, d ∈ ds → A.units + 2 + d.depth < cLine) ∧
  ∀ l ys, H l = none → (∀ R : V → D → Prop, (∀ (i : Nat) v d, xs[i]? = some v → ds[i]? = some d → R v d) → Paired R ys (sortD ds)) → Q (.ref l) (upd H l (.lst ys))
theorem each_of_vals {R : V → D → Prop} : ∀ {xs : List V} {us : List Value} {ds : List D}, Vals xs us → Paired R xs ds → PySem.W.EachIs (fun u d => ∃ v, RelV v u ∧ R v d) us ds
  | _, _, _, .nil, .nil => .nil
  | _, _, _, .cons r t, .cons p q => .cons ⟨_, r, p⟩ (each_of_vals t q)
theorem vals_of_each {R : V → D → Prop} : ∀ {us : List Value} {ds : List D}, PySem.W.EachIs (fun u d => ∃ v, RelV v u ∧ R v d) us ds → ∃ xs, Vals xs us ∧ Paired R xs ds
  | _, _, .nil => ⟨[], .nil, .nil⟩
  | _, _, .cons ⟨v, r, p⟩ t => by
    obtain ⟨xs, h1, h2⟩ := vals_of_each t
    exact ⟨v :: xs, .cons r h1, .cons p h2⟩
theorem paired_all {R : V → D → Prop} : ∀ {xs : List V} {ds : List D}, xs.length = ds.length → (∀ (i : Nat) v d, xs[i]? = some v → ds[i]? = some d → R v d) → Paired R xs ds
  | [], [], _, _ => .nil
  | [], _ :: _, h, _ => by simp at h
  | _ :: _, [], h, _ => by simp at h
  | x :: xs, d :: ds, h, k => .cons (k 0 x d rfl rfl) (paired_all (by simpa using h) fun i v d h1 h2 => k (i + 1) v d (by simpa using h1) (by simpa using h2))
theorem each_reads {pins : List (Addr × Obj)} {σ : L2.St} {H : Hp} {s : Shared} (I : Inv X pins σ H s) : ∀ {xs : List V} {us : List Value} {ds : List D}, Vals xs us → DpAll X.K H xs ds → PySem.W.EachIs (fun u d => ∃ as, Reads s.heap u (id d) as) us ds
  | _, _, _, .nil, .nil => .nil
  | _, _, _, .cons r t, .cons p q => .cons (Dp.reads I _ _ _ p r) (each_reads I t q)
theorem cr_sortedD : CallR X (.builtin "sorted") (rSortedD X.K X.A) := by
  intro pins s σ H vs us Q I r h
  obtain ⟨p, xs, ds, rfl, hs, hd, hal, hk, hu, q⟩ := h
  obtain ⟨its, rv, hl, hz⟩ := I.list hs
  obtain ⟨u, rfl, ru⟩ := vals1 r
  obtain rfl : u = Value.ref p := ru
  have hlen := hd.len
  have rl := rv.length
  let R : V → D → Prop := fun v d => ∃ i : Nat, xs[i]? = some v ∧ ds[i]? = some d
  have pr : Paired R xs ds := paired_all hlen fun i v d h1 h2 => ⟨i, h1, h2⟩
  refine PySem.W.sorted_data (bs := ds) (enc := id) (R := fun u d => ∃ v, RelV v u ∧ R v d) hl.isList (each_of_vals rv pr) (each_reads I rv hd) (by rw [List.map_id]; exact hal) (by rw [List.map_id]; exact hk) (by omega) hu fun out ho he => ?_
  obtain ⟨ys, h1, h2⟩ := vals_of_each he
  obtain ⟨c, hc⟩ := sortedAll_at s.heap its out.toArray
  have I2 : Inv X pins σ (upd H (s.heap.objs.size + 1) (.lst ys)) { s with heap := sortedAll s.heap its out.toArray } := by
    refine I.laid (t' := s.toks) (fun b o e => sortedAll_old e) (Nat.le_succ _) ⟨?_, out, c, h1, hc⟩
    rw [h1.length, ho]
    omega
  refine ⟨.ref (s.heap.objs.size + 1), _, I2, rfl, ?_⟩
  have fin : ∀ R' : V → D → Prop, (∀ (i : Nat) v d, xs[i]? = some v → ds[i]? = some d → R' v d) → Paired R' ys (sortD ds) := fun R' k => Paired.mapP h2 fun v d ⟨i, a, b⟩ => k i v d a b
  exact q _ ys (I.hok.fresh (Nat.le_succ _)) fin
theorem dps_paired {K : PySem.W.Frag} {H : Hp} : ∀ {xs : List V} {ds : List D}, Paired (fun v d => Dp K H v d) xs ds → DpAll K H xs ds
  | _, _, .nil => .nil
  | _, _, .cons h t => .cons h (dps_paired t)
theorem en_sorted {p : Pos} (ha : EVd X a env (.list ds)) (hal : PySem.W.AllAlike ds) (hk : PySem.W.Sortable ds) (hu : ∀ d, d ∈ ds → X.A.units + 2 + d.depth < cLine) (hg : Gl X "sorted") (hm : X.mg "sorted" = none)
    (he : starEach (a :: []) X.env = (false, eval a X.env) :: starEach [] X.env := by rfl) : EVn X (.Call (.Name "sorted" p) [a] [] pos) env (sortD ds) :=
  en_callB cr_sortedD hg hm (by decide +kernel) (ea_cons ha ea_nil rfl he) (fun vs Hc H c h Q q => by
    cases h with
    | cons h t =>
      cases t
      obtain ⟨p, xs, rfl, h1, h2⟩ := dp_lstI h
      refine ⟨p, xs, ds, rfl, sql_sub c h1, h2.same c.sub, hal, hk, hu, fun l ys nl pr => q l ys nl ?_⟩
      refine dps_paired (pr _ fun i v d h3 h4 => ?_)
      obtain ⟨v', h5, h6⟩ := h2.get h4
      rw [h3] at h5
      cases h5
      exact h6) (he := he) (hpl := by rfl)
end
end DL
set_option Elab.async false
set_option linter.all false
set_option maxRecDepth 100000
set_option maxHeartbeats 1000000
set_option autoImplicit false
/-! DL4: targets, walks, comprehensions -/
namespace DL
open PySem PySem.Spec PyProof.Rows L2
/-! ### targets -/
/-- tg takes the datum d: env becomes env', by the slots js alone -/
def GV (X : Cx) (tg : Expr) (d : D) (env env' : DEnv) (js : List Nat) : Prop := ∀ (Hc : Hp) (σ : L2.St) (H : Hp), DSX X.K Hc σ H env → ∀ v, Dq X.K Hc v d → ∀ Q : L2.St → Hp → Prop,
  (∀ σ', DSX X.K Hc σ' H env' → σ'.length = σ.length → (∀ i : Nat, i ∉ js → σ'[i]? = σ[i]?) → Q σ' H) → WG X tg v σ H Q
theorem DSX.set {K : PySem.W.Frag} {Hc H : Hp} {σ : L2.St} {env : DEnv} {v : V} {d : D} (h : DSX K Hc σ H env) (i : Nat) (p : Dq K Hc v d) : DSX K Hc (σ.set i (some v)) H (env.set i (some d)) := by
  refine ⟨h.cor, by rw [List.length_set, List.length_set]; exact h.len, fun j e hj => ?_⟩
  by_cases hij : i = j
  · subst hij
    have hl : i < env.length := by
      obtain ⟨q, _⟩ := List.getElem?_eq_some_iff.mp hj
      rw [List.length_set] at q
      exact q
    rw [List.getElem?_set_self hl] at hj
    cases hj
    exact ⟨v, List.getElem?_set_self (by have := h.len; omega), p⟩
  · rw [List.getElem?_set_ne hij] at hj ⊢
    exact h.at_ j e hj
section
variable {X : Cx} {e a b c tg it : Expr} {es : List Expr} {env env' : DEnv} {pos : Pos} {d : D} {ds : List D}
theorem gv_name {i : Nat} {x : Str} (hN : X.N.Nodup) (hi : X.N[i]? = some x) (hx : Loc X.env.scope x) (hf : X.fn x = true ∨ X.env.scope.names.lookup x = some .local := by first | exact .inl rfl | exact .inr rfl | assumption) : GV X (.Name x pos) d env (env.set i (some d)) [i] :=
  fun Hc σ H hs v p Q q => wg_of (pg_name hN hi hx hf) (q _ (hs.set i p) (List.length_set ..) fun j hj => by
    rw [List.getElem?_set_ne (fun z => hj (by rw [z]; exact List.mem_singleton_self _))])
/-- several targets -/
def GVs (X : Cx) (ts : List Expr) (ds : List D) (env env' : DEnv) (js : List Nat) : Prop := ∀ (Hc : Hp) (σ : L2.St) (H : Hp), DSX X.K Hc σ H env → ∀ vs, DpAll X.K Hc vs ds → ∀ Q : L2.St → Hp → Prop,
  (∀ σ', DSX X.K Hc σ' H env' → σ'.length = σ.length → (∀ i : Nat, i ∉ js → σ'[i]? = σ[i]?) → Q σ' H) → ∀ pins s us, Inv X pins σ H s → Vals vs us → wpAny (model X.prog X.w) X.A (assignInOrder ((assignEach ts X.env).map (·.2)) us) (fun _ s' => ∃ σ' H', Inv X pins σ' H' s' ∧ Q σ' H') X.xe s
theorem gvs_nil : GVs X [] [] env env [] := fun Hc σ H hs vs p Q q pins s us I r => by
  cases p
  exact pgs_nil.run pins s σ H [] us Q I r ⟨rfl, q σ hs rfl fun _ _ => rfl⟩
theorem gvs_cons {t : Expr} {ts : List Expr} {env1 env2 : DEnv} {j1 j2 : List Nat} (h1 : GV X t d env env1 j1) (h2 : GVs X ts ds env1 env2 j2)
    (hs : (assignEach (t :: ts) X.env).map (·.2) = assign t X.env :: (assignEach ts X.env).map (·.2) := by rfl) : GVs X (t :: ts) (d :: ds) env env2 (j1 ++ j2) := fun Hc σ H hd vs p Q q pins s us I r => by
  cases p with
  | cons p ps =>
    rename_i v vs'
    have hp : PGs X ts (fun vs σ H Q => ∀ pins s us, Inv X pins σ H s → Vals vs us → wpAny (model X.prog X.w) X.A (assignInOrder ((assignEach ts X.env).map (·.2)) us) (fun _ s' => ∃ σ' H', Inv X pins σ' H' s' ∧ Q σ' H') X.xe s) :=
      ⟨fun pins s σ H vs us Q I r h => h pins s us I r⟩
    refine (pgs_cons pg_w hp hs).run pins s σ H _ us Q I r ⟨v, vs', rfl, ?_⟩
    refine h1 Hc σ H hd v p.q _ fun σ1 hd1 l1 k1 => ?_
    exact fun pins s us I r => h2 Hc σ1 H hd1 vs' ps Q (fun σ2 hd2 l2 k2 => q σ2 hd2 (l2.trans l1) fun i hi => (k2 i fun z => hi (List.mem_append_right _ z)).trans (k1 i fun z => hi (List.mem_append_left _ z))) pins s us I r
theorem gv_tup {k n : Nat} {js : List Nat} (hc : X.calm = true) (h : GVs X es ds env env' js) (hl : ds.length = n) (hn : (assignEach es X.env).length = n := by rfl) (hst : (assignEach es X.env).findIdx? (·.1) = none := by rfl) : GV X (.Tuple es k pos) (.tuple ds) env env' js :=
  fun Hc σ H hs v p Q q => by
    obtain ⟨a, xs, rfl, h1, h2⟩ := dp_tupI p
    have hp : PGs X es (fun vs σ H Q => ∀ pins s us, Inv X pins σ H s → Vals vs us → wpAny (model X.prog X.w) X.A (assignInOrder ((assignEach es X.env).map (·.2)) us) (fun _ s' => ∃ σ' H', Inv X pins σ' H' s' ∧ Q σ' H') X.xe s) :=
      ⟨fun pins s σ H vs us Q I r h => h pins s us I r⟩
    exact wg_of (pg_tup hc hp hn hst) ⟨a, xs, rfl, sqt_sub hs.cor h1, by rw [h2.len]; exact hl, fun pins s us I r => h Hc σ H hs xs h2 Q q pins s us I r⟩

/-! ### walks -/
/-- at turn i, wherever the core Hc1 stands in another core -/
def YC (K : PySem.W.Frag) (Hc1 : Hp) (ds : List D) : Nat → Hp → V → Hp → Prop := fun i H2 v H3 => ∀ Hc2, Cor Hc2 H2 → Same Hc1 Hc2 → ∃ Hc3 d, Grow Hc2 H2 Hc3 H3 ∧ ds[i]? = some d ∧ Dp K Hc3 v d
def IV (X : Cx) (tg it : Expr) (env : DEnv) (ds : List D) : Prop := ∀ (Hc : Hp) (σ : L2.St) (H : Hp), DSX X.K Hc σ H env → ∀ R : It → Hp → Prop,
  (∀ J Hc1 H1, Grow Hc H Hc1 H1 → Walk J ds.length (fun H2 => Same Hc1 H2) (YC X.K Hc1 ds) → R J H1) → WI X tg it σ H R
theorem yc_at {K : PySem.W.Frag} {Hc1 : Hp} {xs : List V} (h : DpAll K Hc1 xs ds) {i : Nat} {H2 H3 : Hp} {v : V} (y : YAt xs i H2 v H3) : YC K Hc1 ds i H2 v H3 := fun Hc2 c s => by
  obtain ⟨rfl, e⟩ := y
  obtain ⟨d, h1, h2⟩ := h.get' e
  exact ⟨Hc2, d, Grow.refl c, h1, h2.same s⟩
theorem iv_list (he : EVd X e env (.list ds)) : IV X tg e env ds := fun Hc σ H hs R r => wi_of (pi_list pe_w) (he Hc σ H hs _ fun v Hc1 H1 g p => by
  obtain ⟨a, xs, rfl, h1, h2⟩ := dp_lstI p
  refine ⟨a, rfl, ⟨xs, sql_sub g.cor h1⟩, r _ Hc1 H1 g ?_⟩
  rw [← h2.len]
  exact (walk_list (K := X.K) (a := a) (xs := xs)).mono (fun H2 s2 => s2.seq h1) fun i H2 x H3 _ _ y => yc_at h2 y)
theorem iv_tup (he : EVd X e env (.tuple ds)) : IV X tg e env ds := fun Hc σ H hs R r => wi_of (pi_tup pe_w) (he Hc σ H hs _ fun v Hc1 H1 g p => by
  obtain ⟨a, xs, rfl, h1, h2⟩ := dp_tupI p
  refine ⟨a, rfl, ⟨xs, sqt_sub g.cor h1⟩, r _ Hc1 H1 g ?_⟩
  rw [← h2.len]
  exact (walk_tup (K := X.K) (a := a) (xs := xs)).mono (fun H2 s2 => seqT_same s2 h1) fun i H2 x H3 _ _ y => yc_at h2 y)
def rangeD (n : Nat) : List D := (List.range n).map fun (i : Nat) => .int (i : Nat)
theorem rangeD_len (n : Nat) : (rangeD n).length = n := by simp [rangeD]
theorem iv_range1 {p : Pos} {n : Nat} (he : EVd X e env (.int (n : Nat))) (hg : Gl X "range") (hm : X.mg "range" = none) (hn : n ≤ 1000000) (hs : starEach [e] X.env = [(false, eval e X.env)] := by rfl) : IV X tg (.Call (.Name "range" p) [e] [] pos) env (rangeD n) :=
  fun Hc σ H hd R r => wi_of (pi_range1 hg hm pa_w hs) ((ea_cons he ea_nil rfl hs) Hc σ H hd _ fun vs Hc1 H1 g p => by
    cases p with
    | cons p t =>
      cases t
      have h62 : (1000000 : Int) < 2 ^ 62 := by decide
      refine ⟨(n : Int), by rw [dp_int p], by omega, by omega, r _ Hc1 H1 g ?_⟩
      rw [rangeD_len, Int.toNat_natCast]
      refine (walk_range (lo := 0) (n := n)).mono (fun _ _ => trivial) fun i H2 x H3 hi _ y => fun Hc2 c s => ?_
      obtain ⟨rfl, rfl⟩ := y
      refine ⟨Hc2, .int (i : Nat), Grow.refl c, ?_, ?_⟩
      · simp [rangeD, hi]
      · have e0 : (0 : Int) + ((i : Nat) : Int) = ((i : Nat) : Int) := Int.zero_add _
        show Dp X.K Hc2 (V.int (0 + ((i : Nat) : Int))) _
        rw [e0]
        exact .int _)
def signsD (z : Str) : List D := z.cps.toList.map fun k => .str ⟨#[k]⟩
theorem iv_str {z : Str} (he : EVd X e env (.str z)) : IV X tg e env (signsD z) := fun Hc σ H hs R r => wi_of (pi_str pe_w) (he Hc σ H hs _ fun v Hc1 H1 g p => by
  refine ⟨z, dp_str p, r _ Hc1 H1 g ?_⟩
  have e1 : (signsD z).length = z.cps.size := by simp [signsD]
  rw [e1]
  refine (walk_str (z := z)).mono (fun _ _ => trivial) fun i H2 x H3 hi _ y => fun Hc2 c s => ?_
  obtain ⟨rfl, k, hk, rfl⟩ := y
  refine ⟨Hc2, .str ⟨#[k]⟩, Grow.refl c, ?_, .str _⟩
  rw [← Array.getElem?_toList] at hk
  simp [signsD, hk])
def pairD (x y : D) : D := .tuple [x, y]
theorem yc_pair {K : PySem.W.Frag} {Hc1 : Hp} {f g : Nat → Option V} {i : Nat} {H2 H3 : Hp} {v : V} (y : YPair f g i H2 v H3) (hf : ∀ Hc2, Same Hc1 Hc2 → ∀ x y, f i = some x → g i = some y → ∃ d d', ds[i]? = some (pairD d d') ∧ Dp K Hc2 x d ∧ Dp K Hc2 y d') : YC K Hc1 ds i H2 v H3 := fun Hc2 c s => by
  obtain ⟨T, x, z, rfl, nT, rfl, e1, e2⟩ := y
  have gr := Grow.new (o := .tup [x, z]) c nT
  obtain ⟨d, d', h1, h2, h3⟩ := hf _ (s.trans gr.cc) x z e1 e2
  exact ⟨_, _, gr, h1, .tup (.inl (.inl upd_same)) (.cons h2 (.cons h3 .nil))⟩
def zipD (ds es : List D) : List D := List.zipWith pairD ds es
theorem zipD_get {ds es : List D} {i : Nat} {d d' : D} (h1 : ds[i]? = some d) (h2 : es[i]? = some d') : (zipD ds es)[i]? = some (pairD d d') := by
  unfold zipD
  rw [List.getElem?_zipWith, h1, h2]
theorem zipD_len (ds es : List D) : (zipD ds es).length = min ds.length es.length := by simp [zipD]
/-- zip of two lists, of two tuples -/
theorem iv_zip {e2 : Expr} {p tpos : Pos} {elts : List Expr} {kk : Nat} {ds2 : List D} (h1 : EVd X e env (.tuple ds)) (h2 : EVd X e2 env (.tuple ds2)) (hg : Gl X "zip") (hm : X.mg "zip" = none)
    (hs2 : starEach [e2] X.env = (false, eval e2 X.env) :: starEach [] X.env := by rfl) (hs : starEach [e, e2] X.env = (false, eval e X.env) :: starEach [e2] X.env := by rfl) (hpl : (backTo pos (starEach [e2] X.env)).any (·.1) = false := by rfl) :
    IV X (.Tuple elts kk tpos) (.Call (.Name "zip" p) [e, e2] [] pos) env (zipD ds ds2) := fun Hc σ H hd R r => wi_of (RZ.pi_zipA hg hm pa_w hs hpl) ((ea_cons h1 (ea_cons h2 ea_nil rfl hs2) rfl hs) Hc σ H hd _ fun vs Hc1 H1 g q => by
  cases q with
  | cons q t =>
    cases t with
    | cons q2 t =>
      cases t
      obtain ⟨a, xs, rfl, k1, k2⟩ := dp_tupI q
      obtain ⟨b, ys, rfl, k3, k4⟩ := dp_tupI q2
      refine ⟨a, b, xs, ys, rfl, .inr ⟨sqt_sub g.cor k1, sqt_sub g.cor k3, r _ Hc1 H1 g ?_⟩⟩
      have hl1 := k2.len
      have hl2 := k4.len
      rw [zipD_len]
      refine ⟨fun i H2 hi s2 => ?_, fun H2 s2 => ⟨xs, ys, seqT_same s2 k1, seqT_same s2 k3, by omega⟩, fun i H2 x H3 hi s2 y => ?_⟩
      · have i1 : i < xs.length := by omega
        have i2 : i < ys.length := by omega
        exact ⟨xs, ys, xs[i], ys[i], seqT_same s2 k1, seqT_same s2 k3, by simp [i1], by simp [i2]⟩
      · obtain ⟨T, x', z, rfl, nT, rfl, f1, f2⟩ := y
        refine yc_pair (f := fun i => xs[i]?) (g := fun i => ys[i]?) ⟨T, x', z, rfl, nT, rfl, f1 xs (seqT_same s2 k1), f2 ys (seqT_same s2 k3)⟩ fun Hc2 s x y ex ey => ?_
        obtain ⟨d, m1, m2⟩ := k2.get' ex
        obtain ⟨d', m3, m4⟩ := k4.get' ey
        exact ⟨d, d', zipD_get m1 m3, m2.same s, m4.same s⟩)
def enumD (ds : List D) : List D := List.zipWith pairD (rangeD ds.length) ds
theorem enumD_len (ds : List D) : (enumD ds).length = ds.length := by simp [enumD, rangeD]
theorem enumD_get {i : Nat} (h : ds[i]? = some d) : (enumD ds)[i]? = some (pairD (.int (i : Nat)) d) := by
  have hi : i < ds.length := (List.getElem?_eq_some_iff.mp h).1
  unfold enumD rangeD
  rw [List.getElem?_zipWith, h]
  simp [hi]
theorem iv_enum {p tpos : Pos} {elts : List Expr} {kk : Nat} (h1 : EVd X e env (.list ds)) (hg : Gl X "enumerate") (hm : X.mg "enumerate" = none) (hs : starEach [e] X.env = [(false, eval e X.env)] := by rfl) :
    IV X (.Tuple elts kk tpos) (.Call (.Name "enumerate" p) [e] [] pos) env (enumD ds) := fun Hc σ H hd R r => wi_of (pi_enum hg hm pa_w hs) ((ea_cons h1 ea_nil rfl hs) Hc σ H hd _ fun vs Hc1 H1 g q => by
  cases q with
  | cons q t =>
    cases t
    obtain ⟨a, xs, rfl, k1, k2⟩ := dp_lstI q
    refine ⟨a, xs, rfl, sql_sub g.cor k1, r _ Hc1 H1 g ?_⟩
    rw [enumD_len, ← k2.len]
    refine (walk_enum (K := X.K) (a := a) (xs := xs)).mono (fun H2 s2 => s2.seq k1) fun i H2 x H3 hi _ y => yc_pair y fun Hc2 s x y ex ey => ?_
    obtain ⟨d, m1, m2⟩ := k2.get' ey
    cases ex
    exact ⟨_, d, enumD_get m1, .int _, m2.same s⟩)

/-! ### comprehensions -/
def wipeE (env : DEnv) : List Nat → DEnv
  | [] => env
  | v :: vs => (wipeE env vs).set v none
theorem wipe_get {σ : L2.St} {i : Nat} : ∀ {vs : List Nat}, i ∉ vs → (wipe σ vs)[i]? = σ[i]?
  | [], _ => rfl
  | v :: vs, h => by
    unfold wipe
    rw [List.getElem?_set_ne (fun z => h (by rw [z]; exact List.mem_cons_self)), wipe_get fun z => h (List.mem_cons_of_mem _ z)]
theorem wipe_in {σ : L2.St} {i : Nat} : ∀ {vs : List Nat}, i ∈ vs → i < σ.length → (wipe σ vs)[i]? = some none
  | v :: vs, h, hl => by
    unfold wipe
    by_cases e : v = i
    · subst e
      exact List.getElem?_set_self (by rw [wipe_length]; exact hl)
    · rw [List.getElem?_set_ne e]
      exact wipe_in ((List.mem_cons.mp h).resolve_left fun z => e z.symm) hl
theorem wipe_eq {σ σ' : L2.St} {vs : List Nat} (hl : σ'.length = σ.length) (k : ∀ i : Nat, i ∉ vs → σ'[i]? = σ[i]?) : wipe σ' vs = wipe σ vs := by
  refine List.ext_getElem? fun i => ?_
  by_cases hi : i ∈ vs
  · by_cases hlt : i < σ.length
    · rw [wipe_in hi hlt, wipe_in hi (by omega)]
    · rw [List.getElem?_eq_none (by rw [wipe_length]; omega), List.getElem?_eq_none (by rw [wipe_length]; omega)]
  · rw [wipe_get hi, wipe_get hi, k i hi]
theorem wipe_idem {σ : L2.St} {vs : List Nat} : wipe (wipe σ vs) vs = wipe σ vs := wipe_eq (wipe_length _ _) fun i hi => wipe_get hi
theorem wipeE_some {env : DEnv} {i : Nat} {x : D} : ∀ {vs : List Nat}, (wipeE env vs)[i]? = some (some x) → env[i]? = some (some x) ∧ i ∉ vs
  | [], h => ⟨h, by simp⟩
  | v :: vs, h => by
    unfold wipeE at h
    by_cases hi : v = i
    · subst hi
      by_cases hv : v < (wipeE env vs).length
      · rw [List.getElem?_set_self hv] at h; cases h
      · rw [List.getElem?_eq_none (by rw [List.length_set]; omega)] at h; cases h
    · rw [List.getElem?_set_ne hi] at h
      obtain ⟨h1, h2⟩ := wipeE_some h
      exact ⟨h1, by simp only [List.mem_cons, not_or]; exact ⟨fun z => hi z.symm, h2⟩⟩
theorem wipeE_length (env : DEnv) : ∀ vs : List Nat, (wipeE env vs).length = env.length
  | [] => rfl
  | v :: vs => by unfold wipeE; rw [List.length_set, wipeE_length env vs]
theorem DSX.wipe {K : PySem.W.Frag} {Hc H : Hp} {σ : L2.St} (h : DSX K Hc σ H env) (vs : List Nat) : DSX K Hc (L2.wipe σ vs) H (wipeE env vs) :=
  ⟨h.cor, by rw [wipeE_length, wipe_length]; exact h.len, fun i d e => by
    obtain ⟨h1, h2⟩ := wipeE_some e
    rw [wipe_get h2]
    exact h.at_ i d h1⟩
/-- in each block of the comprehension -/
def Blk (X : Cx) (scope : Scope) (P : Cx → Prop) : Prop := ∀ (s : Shared) (H : Hp) (C : Addr) (cl : List (Str × Addr)) (fp : List Addr), P (X.blk s H scope (compEnvC scope cl C X.env) fp)
/-- the tests of a clause -/
def EVts (X : Cx) (ifs : List Expr) (env : DEnv) (b : Bool) : Prop := ∀ (Hc : Hp) (σ : L2.St) (H : Hp), DSX X.K Hc σ H env → ∀ Q : Bool → Hp → Prop, (∀ Hc1 H1, Grow Hc H Hc1 H1 → Q b H1) → ∃ t, PTs X ifs t ∧ t σ H Q
theorem ets_nil : EVts X [] env true := fun Hc σ H hs Q q => ⟨_, pts_nil, q Hc H (Grow.refl hs.cor)⟩
theorem ets_one {k : Bool} (h : EVt X c env k) : EVts X [c] env k := fun Hc σ H hs Q q => ⟨_, pts_one pt_w, h Hc σ H hs Q q⟩
theorem Grow.mutO {Hc0 H0 Hc H : Hp} {p : Addr} {o' : HO} (g : Grow Hc0 H0 Hc H) (h0 : H0 p = none) (hc : Hc p = none) (nt : ¬ TupO o') : Grow Hc0 H0 Hc (upd H p o') := by
  refine ⟨fun a o e => ?_, g.cc, g.nw, ⟨fun a o e => ?_, fun a o e t => ?_⟩⟩
  · rw [upd_ne (ne_of_none e h0)]
    exact g.hh a o e
  · rw [upd_ne (ne_of_none e hc)]
    exact g.cor.sub a o e
  · by_cases ea : a = p
    · rw [ea, upd_same] at e
      cases e
      exact absurd t nt
    · rw [upd_ne ea] at e
      exact g.cor.tup a o e t
theorem Grow.mut {Hc0 H0 Hc H : Hp} {p : Addr} {xs ys : List V} (g : Grow Hc0 H0 Hc H) (h0 : H0 p = none) (hc : Hc p = none) (h : H p = some (.lst xs)) : Grow Hc0 H0 Hc (upd H p (.lst ys)) := g.mutO h0 hc id
/-- what one turn of a comprehension does with the datum d: gives f d, or drops it -/
def Turn1 (X : Cx) (tg elt : Expr) (ifs : List Expr) (scope : Scope) (env0 : DEnv) (vs : List Nat) (d : D) (r : Option D) : Prop :=
  ∃ env' js, (∀ j ∈ js, j ∈ vs) ∧ Blk X scope (fun Y => GV Y tg d env0 env' js) ∧ Blk X scope (fun Y => EVts Y ifs env' r.isSome) ∧ ∀ y, r = some y → Blk X scope (fun Y => EVd Y elt env' y ∧ isD y = true)
def gB (X : Cx) (tg : Expr) (scope : Scope) : TG := fun v σ H Q => ∀ (s : Shared) (H' : Hp) (C : Addr) (cl : List (Str × Addr)) (fp : List Addr), WG (X.blk s H' scope (compEnvC scope cl C X.env) fp) tg v σ H Q
def tB' (X : Cx) (ifs : List Expr) (scope : Scope) : TT := fun σ H Q => ∀ (s : Shared) (H' : Hp) (C : Addr) (cl : List (Str × Addr)) (fp : List Addr), ∃ t, PTs (X.blk s H' scope (compEnvC scope cl C X.env) fp) ifs t ∧ t σ H Q
def eB (X : Cx) (elt : Expr) (scope : Scope) : TE := fun σ H Q => ∀ (s : Shared) (H' : Hp) (C : Addr) (cl : List (Str × Addr)) (fp : List Addr), WX (X.blk s H' scope (compEnvC scope cl C X.env) fp) elt σ H Q
theorem pg_gB {tg : Expr} {scope : Scope} (s : Shared) (H' : Hp) (C : Addr) (cl : List (Str × Addr)) (fp : List Addr) : PG (X.blk s H' scope (compEnvC scope cl C X.env) fp) tg (gB X tg scope) :=
  ⟨fun pins s1 σ H v u Q I r h => h s H' C cl fp pins s1 u I r⟩
theorem pts_tB {ifs : List Expr} {scope : Scope} (s : Shared) (H' : Hp) (C : Addr) (cl : List (Str × Addr)) (fp : List Addr) : PTs (X.blk s H' scope (compEnvC scope cl C X.env) fp) ifs (tB' X ifs scope) := by
  refine ⟨fun pins s1 σ H Q I h => ?_⟩
  obtain ⟨t, p, q⟩ := h s H' C cl fp
  exact p.run pins s1 σ H Q I q
theorem pe_eB {elt : Expr} {scope : Scope} (s : Shared) (H' : Hp) (C : Addr) (cl : List (Str × Addr)) (fp : List Addr) : PE (X.blk s H' scope (compEnvC scope cl C X.env) fp) elt (eB X elt scope) :=
  ⟨fun pins s1 σ H Q I h => h s H' C cl fp pins s1 I⟩
theorem take_fm {α : Type} {xs : List α} {x : α} {f : α → Option D} {i : Nat} (h : xs[i]? = some x) : (xs.take (i + 1)).filterMap f = (xs.take i).filterMap f ++ (match f x with | some y => [y] | none => []) := by
  have hi := (List.getElem?_eq_some_iff.mp h).1
  rw [List.take_succ, h]
  simp only [Option.toList_some, List.filterMap_append]
  cases e : f x with
  | none => simp [e]
  | some y => simp [e]
/-- the reading of a comprehension over data -/
theorem lc_read {α : Type} {xs : List α} {enc : α → D} {tg iter elt : Expr} {ifs : List Expr} {scope : Scope} {vs : List Nat} (f : α → Option D) (hi : IV X tg iter env (xs.map enc)) (hz : xs.length ≤ sizeLine)
    (turn : ∀ x, x ∈ xs → Turn1 X tg elt ifs scope (wipeE env vs) vs (enc x) (f x)) {Hc : Hp} {σ : L2.St} {H : Hp} (hs : DSX X.K Hc σ H env) {Q : VK}
    (q : ∀ a vv Hc1 H1, Grow Hc H Hc1 H1 → H a = none → Hc1 a = none → H1 a = some (.lst vv) → DpAll X.K Hc1 vv (xs.filterMap f) → Q (.ref a) H1) :
    tLc (WI X tg iter) (gB X tg scope) (tB' X ifs scope) (eB X elt scope) vs σ H Q := by
  refine hi Hc σ H hs _ fun J Hc1 H1 g1 w => ?_
  intro p np
  have nc : Hc1 p = none := g1.cor.sub.free np
  refine lc_it w (fun i H2 => ∃ Hc2 acc, Grow Hc1 H1 Hc2 H2 ∧ H2 p = some (.lst acc) ∧ Hc2 p = none ∧ DpAll X.K Hc2 acc ((xs.take i).filterMap f)) ?_ ?_ ?_ ?_
  · exact ⟨Hc1, [], Grow.own g1.cor np, upd_same, nc, by simp; exact .nil⟩
  · rintro i H2 _ ⟨Hc2, acc, g2, _⟩
    exact g2.cc.trans g2.cor.sub
  · rintro i x H2 H3 hlt ⟨Hc2, acc, g2, hp, hn, ha⟩ y
    obtain ⟨Hc3, d, g3, hd, px⟩ := y Hc2 g2.cor g2.cc
    rw [List.getElem?_map] at hd
    obtain ⟨a, hda, rfl⟩ := Option.map_eq_some_iff.mp hd
    rw [List.length_map] at hlt
    obtain ⟨env', js, hjs, hg, ht, he⟩ := turn a (List.mem_of_getElem? hda)
    have g13 := g2.trans g3
    have hs3 := ((hs.grow g1).grow g13).wipe vs
    have hp3 : H3 p = some (.lst acc) := g3.hh _ _ hp
    have hn3 : Hc3 p = none := g3.nw p (by rw [hp]; exact fun z => nomatch z) hn
    intro s Hx C cl fp
    refine hg s Hx C cl fp Hc3 (wipe σ vs) H3 hs3 x px.q _ fun σ2 hs4 hl hk => ?_
    have hw : wipe σ2 vs = wipe σ vs := by
      rw [wipe_eq hl fun i hi => hk i fun z => hi (hjs i z), wipe_idem]
    refine ⟨hw, fun s' Hx' C' cl' fp' => ?_⟩
    have htk := take_fm (f := f) hda
    cases e : f a with
    | none =>
      rw [e] at ht htk
      refine ht s' Hx' C' cl' fp' Hc3 σ2 H3 hs4 _ fun Hc4 H4 g4 => ?_
      have z : (none : Option D).isSome = true → False := fun z => nomatch z
      rw [if_neg z]
      refine ⟨Hc4, acc, g13.trans g4, g4.hh _ _ hp3, g4.nw p (by rw [hp3]; exact fun z => nomatch z) hn3, ?_⟩
      rw [htk]
      exact ((ha.same g3.cc).same g4.cc).app .nil |> fun z => by simpa using z
    | some r =>
      rw [e] at ht htk
      refine ht s' Hx' C' cl' fp' Hc3 σ2 H3 hs4 _ fun Hc4 H4 g4 => ?_
      rw [if_pos (show (some r : Option D).isSome = true from rfl)]
      intro s2 Hx2 C2 cl2 fp2
      obtain ⟨he1, he2⟩ := he r e s2 Hx2 C2 cl2 fp2
      refine he1 Hc4 σ2 H4 (hs4.grow g4) _ fun v5 Hc5 H5 g5 p5 => ?_
      have hp5 : H5 p = some (.lst acc) := g5.hh _ _ (g4.hh _ _ hp3)
      have hn4 : Hc4 p = none := g4.nw p (by rw [hp3]; exact fun z => nomatch z) hn3
      have hn5 : Hc5 p = none := g5.nw p (by rw [g4.hh _ _ hp3]; exact fun z => nomatch z) hn4
      have ha5 := ((ha.same g3.cc).same g4.cc).same g5.cc
      refine ⟨acc, hp5, ?_, Hc5, acc ++ [v5], ((g13.trans g4).trans g5).mut np hn5 hp5, upd_same, hn5, ?_⟩
      · have h1 := ha5.len
        have h2 : ((xs.take i).filterMap f).length ≤ i := Nat.le_trans (List.length_filterMap_le _ _) (by rw [List.length_take]; exact Nat.min_le_left _ _)
        omega
      · rw [htk]
        exact ha5.app (.cons (p5.p he2) .nil)
  · rintro H2 ⟨Hc2, acc, g2, hp, hn, ha⟩
    rw [List.length_map, List.take_length] at ha
    exact q p acc Hc2 H2 (g1.trans g2) (g1.hh.free np) hn hp ha
theorem en_lc {α : Type} {xs : List α} {enc : α → D} {tg iter elt : Expr} {ifs : List Expr} {scope : Scope} {own : List (Str × Nat)} (f : α → Option D) (hc : X.calm = true) (hN : X.N.Nodup) (ok : BlkOk X.N X.env.scope scope own) (hi : IV X tg iter env (xs.map enc)) (hz : xs.length ≤ sizeLine)
    (turn : ∀ x, x ∈ xs → Turn1 X tg elt ifs scope (wipeE env (own.map (·.2))) (own.map (·.2)) (enc x) (f x)) (hf : ∀ x, foldedSetIterable iter X.env x = pure x := by intro _; rfl) : EVn X (.ListComp elt [⟨tg, iter, ifs, 0⟩] scope pos) env (xs.filterMap f) :=
  fun Hc σ H hs Q q => wx_of (pe_lc hc hN pi_w ok pg_gB pts_tB pe_eB hf) (lc_read f hi hz turn hs q)
/-- without a test: a map -/
theorem en_lcM {α : Type} {xs : List α} {enc : α → D} {tg iter elt : Expr} {scope : Scope} {own : List (Str × Nat)} (g : α → D) (hc : X.calm = true) (hN : X.N.Nodup) (ok : BlkOk X.N X.env.scope scope own) (hi : IV X tg iter env (xs.map enc)) (hz : xs.length ≤ sizeLine)
    (turn : ∀ x, x ∈ xs → ∃ env' js, (∀ j ∈ js, j ∈ own.map (·.2)) ∧ Blk X scope (fun Y => GV Y tg (enc x) (wipeE env (own.map (·.2))) env' js) ∧ Blk X scope (fun Y => EVd Y elt env' (g x)) ∧ isD (g x) = true) (hf : ∀ x, foldedSetIterable iter X.env x = pure x := by intro _; rfl) : EVn X (.ListComp elt [⟨tg, iter, [], 0⟩] scope pos) env (xs.map g) := by
  have h := en_lc (pos := pos) (ifs := []) (fun x => some (g x)) hc hN ok hi hz (fun x hx => by
    obtain ⟨env', js, h1, h2, h3, h4⟩ := turn x hx
    exact ⟨env', js, h1, h2, fun s H C cl fp => ets_nil, fun y e s H C cl fp => by
      cases e
      exact ⟨h3 s H C cl fp, h4⟩⟩) hf
  rw [List.filterMap_eq_map'] at h
  exact h
theorem map_zipW {α β : Type} (f : α → D) (g : β → D) : ∀ (xs : List α) (ys : List β), zipD (xs.map f) (ys.map g) = (xs.zip ys).map fun p => pairD (f p.1) (g p.2)
  | [], _ => rfl
  | _ :: _, [] => rfl
  | x :: xs, y :: ys => by
    have ih := map_zipW f g xs ys
    unfold zipD at ih ⊢
    rw [List.map_cons, List.map_cons, List.zipWith_cons_cons, ih, List.zip_cons_cons, List.map_cons]
theorem map_enumAux {α : Type} (f : α → D) : ∀ (xs : List α) (n : Nat), List.zipWith pairD ((List.range' n xs.length).map fun (i : Nat) => .int (i : Nat)) (xs.map f) = (xs.zipIdx n).map fun p => pairD (.int (p.2 : Nat)) (f p.1)
  | [], _ => rfl
  | x :: xs, n => by
    rw [List.length_cons, List.range'_succ, List.map_cons, List.map_cons, List.zipWith_cons_cons, map_enumAux f xs (n + 1), List.zipIdx_cons, List.map_cons]
theorem map_enum {α : Type} (f : α → D) (xs : List α) : enumD (xs.map f) = xs.zipIdx.map fun p => pairD (.int (p.2 : Nat)) (f p.1) := by
  unfold enumD rangeD
  rw [List.length_map, List.range_eq_range']
  exact map_enumAux f xs 0
end
end DL
set_option Elab.async false
set_option linter.all false
set_option maxRecDepth 100000
set_option maxHeartbeats 1000000
set_option autoImplicit false
/-! DL5: statements over data, promises of defs -/
namespace DL
open PySem PySem.Spec PyProof.Rows L2
/-- a slot: a datum, or a list (dict) that only this slot holds -/
inductive Sl where
  | dat (d : D)
  | own (d : D)
abbrev SEnv := List (Option Sl)
def slV : Option Sl → Option D
  | some (.dat d) => some d
  | _ => none
def slA : Option Sl → Option D
  | some (.dat d) => some d
  | some (.own d) => some d
  | none => none
abbrev vis (env : SEnv) : DEnv := env.map slV
abbrev allE (env : SEnv) : DEnv := env.map slA
structure DSc (K : PySem.W.Frag) (Hc0 H0 Hc : Hp) (σ : L2.St) (H : Hp) (env : SEnv) : Prop where
  gr : Grow Hc0 H0 Hc H
  len : env.length = σ.length
  dat : ∀ (i : Nat) (d : D), env[i]? = some (some (.dat d)) → ∃ v, σ[i]? = some (some v) ∧ Dq K Hc v d
  own : ∀ (i : Nat) (d : D), env[i]? = some (some (.own d)) → ∃ a o, σ[i]? = some (some (.ref a)) ∧ H0 a = none ∧ Hc a = none ∧ H a = some o ∧ TopO K Hc a o d
  sep : ∀ (i j : Nat) (d e : D) (a : Addr), env[i]? = some (some (.own d)) → env[j]? = some (some (.own e)) → σ[i]? = some (some (.ref a)) → σ[j]? = some (some (.ref a)) → i = j
def DS (K : PySem.W.Frag) (Hc0 H0 : Hp) (σ : L2.St) (H : Hp) (env : SEnv) : Prop := ∃ Hc, DSc K Hc0 H0 Hc σ H env
section
variable {K : PySem.W.Frag} {Hc0 H0 Hc H Hc1 H1 : Hp} {σ : L2.St} {env : SEnv}
theorem DSc.x (h : DSc K Hc0 H0 Hc σ H env) : DSX K Hc σ H (vis env) := ⟨h.gr.cor, by rw [List.length_map]; exact h.len, fun i d e => by
  rw [List.getElem?_map] at e
  cases q : env[i]? with
  | none => rw [q] at e; cases e
  | some s =>
    rw [q] at e
    cases s with
    | none => cases e
    | some s =>
      cases s with
      | dat d2 => cases e; exact h.dat i d q
      | own ds => cases e⟩
/-- the core with all that is younger than the entry -/
def frz (H0 Hc H : Hp) : Hp := fun a => match H0 a with
  | some _ => Hc a
  | none => H a
theorem frz_old {a : Addr} {o : HO} (e : H0 a = some o) : frz H0 Hc H a = Hc a := by unfold frz; rw [e]
theorem frz_new {a : Addr} (e : H0 a = none) : frz H0 Hc H a = H a := by unfold frz; rw [e]
theorem frz_cor (c : Cor Hc H) : Cor (frz H0 Hc H) H := ⟨fun a o e => by
  cases q : H0 a with
  | some u => rw [frz_old q] at e; exact c.sub a o e
  | none => rw [frz_new q] at e; exact e, fun a o e t => by
  cases q : H0 a with
  | some u => rw [frz_old q]; exact c.tup a o e t
  | none => rw [frz_new q]; exact e⟩
theorem frz_same (c : Cor Hc H) : Same Hc (frz H0 Hc H) := fun a o e => by
  cases q : H0 a with
  | some u => rw [frz_old q]; exact e
  | none => rw [frz_new q]; exact c.sub a o e
theorem TopO.dq {H' : Hp} {a : Addr} {o : HO} {d : D} (h : TopO K H a o d) (e : H' a = some o) (s : Same H H') : Dq K H' (.ref a) d := by
  cases h with
  | lst p => exact L2.Dp.lst (.inl (.inl e)) (p.same s)
  | dct p => exact ⟨a, _, rfl, e, .dct (p.same s)⟩
  | nst p => exact ⟨a, _, rfl, e, .nst (p.same s)⟩
theorem DSc.all (h : DSc K Hc0 H0 Hc σ H env) : DSX K (frz H0 Hc H) σ H (allE env) := ⟨frz_cor h.gr.cor, by rw [List.length_map]; exact h.len, fun i d e => by
  rw [List.getElem?_map] at e
  have fs := frz_same (H0 := H0) h.gr.cor
  cases q : env[i]? with
  | none => rw [q] at e; cases e
  | some s =>
    rw [q] at e
    cases s with
    | none => cases e
    | some s =>
      cases s with
      | dat d2 =>
        cases e
        obtain ⟨v, a, b⟩ := h.dat i d q
        exact ⟨v, a, b.same fs⟩
      | own d2 =>
        cases e
        obtain ⟨a, o, h1, h2, h3, h4, h5⟩ := h.own i d q
        exact ⟨_, h1, h5.dq (by rw [frz_new h2]; exact h4) fs⟩⟩
theorem noL_is {d : D} (h : noL d = true) : isD d = true := by
  cases d with
  | dict kvs => unfold noL at h; cases h
  | _ => rfl
/-- from the wide core: seen from the entry -/
theorem Grow.unfrz (g0 : Grow Hc0 H0 Hc H) (g : Grow (frz H0 Hc H) H Hc1 H1) : Grow Hc0 H0 Hc1 H1 :=
  ⟨g0.hh.trans g.hh, (g0.cc.trans (frz_same g0.cor)).trans g.cc, fun a h1 h2 => by
    cases q : H0 a with
    | none => exact absurd q h1
    | some o => exact g.nw a (by rw [g0.hh a o q]; exact fun z => nomatch z) (by rw [frz_old q]; exact g0.nw a h1 h2), g.cor⟩
/-- .. seen from the core: what is new joins it -/
theorem Grow.narrow (c : Cor Hc H) (g : Grow (frz H0 Hc H) H Hc1 H1) : ∃ Hc2, Grow Hc H Hc2 H1 ∧ (∀ v d, noL d = true → Dq K Hc1 v d → Dp K Hc2 v d) ∧ (∀ vs ds, noLs ds = true → DpAll K Hc1 vs ds → DpAll K Hc2 vs ds) ∧ ∀ a, H a = none → Hc2 a = H1 a := by
  let Hc2 : Hp := fun a => match H a with
    | some _ => Hc a
    | none => H1 a
  have old : ∀ {a : Addr} {o : HO}, H a = some o → Hc2 a = Hc a := fun {a o} e => by show (match H a with | some _ => Hc a | none => H1 a) = _; rw [e]
  have new : ∀ {a : Addr}, H a = none → Hc2 a = H1 a := fun {a} e => by show (match H a with | some _ => Hc a | none => H1 a) = _; rw [e]
  have cor : Cor Hc2 H1 := ⟨fun a o e => by
    cases q : H a with
    | some u => rw [old q] at e; exact g.hh a o (c.sub a o e)
    | none => rw [new q] at e; exact e, fun a o e t => by
    cases q : H a with
    | some u =>
      rw [old q]
      have z := g.hh a u q
      rw [e] at z
      cases z
      exact c.tup a o q t
    | none => rw [new q]; exact e⟩
  have ht : ∀ a xs, SqT K Hc1 a xs → SqT K Hc2 a xs := fun a xs h => cor.seqT (sqt_sub g.cor h)
  exact ⟨Hc2, ⟨g.hh, fun a o e => by rw [old (c.sub a o e)]; exact e, fun a h1 h2 => by
    cases q : H a with
    | none => exact absurd q h1
    | some u => rw [old q]; exact h2, cor⟩, fun v d n p => dp_tup ht n (p.p (noL_is n)), fun vs ds n p => dps_tup ht n p, fun a e => new e⟩
theorem DSc.grow (h : DSc K Hc0 H0 Hc σ H env) (g : Grow Hc H Hc1 H1) : DSc K Hc0 H0 Hc1 σ H1 env :=
  ⟨h.gr.trans g, h.len, fun i d e => by
    obtain ⟨v, a, b⟩ := h.dat i d e
    exact ⟨v, a, b.same g.cc⟩, fun i ds e => by
    obtain ⟨a, o, h1, h2, h3, h4, h5⟩ := h.own i ds e
    exact ⟨a, o, h1, h2, g.nw a (by rw [h4]; exact fun z => nomatch z) h3, g.hh a _ h4, h5.same g.cc⟩, h.sep⟩
theorem set_at {α : Type} {l : List (Option α)} {i j : Nat} {x y : α} (e : (l.set i (some x))[j]? = some (some y)) : (j = i ∧ i < l.length ∧ x = y) ∨ (j ≠ i ∧ l[j]? = some (some y)) := by
  by_cases h : i = j
  · subst h
    have hl : i < l.length := by
      obtain ⟨q, _⟩ := List.getElem?_eq_some_iff.mp e
      rw [List.length_set] at q
      exact q
    rw [List.getElem?_set_self hl] at e
    cases e
    exact .inl ⟨rfl, hl, rfl⟩
  · rw [List.getElem?_set_ne h] at e
    exact .inr ⟨fun z => h z.symm, e⟩
theorem DSc.setDat (h : DSc K Hc0 H0 Hc σ H env) (i : Nat) {v : V} {d : D} (p : Dq K Hc v d) : DSc K Hc0 H0 Hc (σ.set i (some v)) H (env.set i (some (.dat d))) := by
  refine ⟨h.gr, by rw [List.length_set, List.length_set]; exact h.len, fun j d' e => ?_, fun j ds e => ?_, fun j k ds es a e1 e2 s1 s2 => ?_⟩
  · rcases set_at e with ⟨rfl, hl, e'⟩ | ⟨hn, e'⟩
    · cases e'
      exact ⟨v, List.getElem?_set_self (by have := h.len; omega), p⟩
    · rw [List.getElem?_set_ne (Ne.symm hn)]
      exact h.dat j d' e'
  · rcases set_at e with ⟨rfl, hl, e'⟩ | ⟨hn, e'⟩
    · cases e'
    · rw [List.getElem?_set_ne (Ne.symm hn)]
      exact h.own j ds e'
  · rcases set_at e1 with ⟨rfl, hl, e'⟩ | ⟨hn1, e1'⟩
    · cases e'
    · rcases set_at e2 with ⟨rfl, hl, e'⟩ | ⟨hn2, e2'⟩
      · cases e'
      · rw [List.getElem?_set_ne (Ne.symm hn1)] at s1
        rw [List.getElem?_set_ne (Ne.symm hn2)] at s2
        exact h.sep j k ds es a e1' e2' s1 s2
theorem DSc.setOwn (h : DSc K Hc0 H0 Hc σ H env) (i : Nat) {a : Addr} {o : HO} {d : D} (h0 : H0 a = none) (hc : Hc a = none) (ha : H a = some o) (p : TopO K Hc a o d)
    (fr : ∀ (j : Nat) (e : D), env[j]? = some (some (.own e)) → σ[j]? = some (some (.ref a)) → j = i) : DSc K Hc0 H0 Hc (σ.set i (some (.ref a))) H (env.set i (some (.own d))) := by
  refine ⟨h.gr, by rw [List.length_set, List.length_set]; exact h.len, fun j d' e => ?_, fun j es e => ?_, fun j k ds1 es1 b e1 e2 s1 s2 => ?_⟩
  · rcases set_at e with ⟨rfl, hl, e'⟩ | ⟨hn, e'⟩
    · cases e'
    · rw [List.getElem?_set_ne (Ne.symm hn)]
      exact h.dat j d' e'
  · rcases set_at e with ⟨rfl, hl, e'⟩ | ⟨hn, e'⟩
    · cases e'
      exact ⟨a, o, List.getElem?_set_self (by have := h.len; omega), h0, hc, ha, p⟩
    · rw [List.getElem?_set_ne (Ne.symm hn)]
      exact h.own j es e'
  · have hlen := h.len
    rcases set_at e1 with ⟨rfl, hl, e'⟩ | ⟨hn1, e1'⟩
    · rcases set_at e2 with ⟨rfl, _, _⟩ | ⟨hn2, e2'⟩
      · rfl
      · rw [List.getElem?_set_self (by omega)] at s1
        cases s1
        rw [List.getElem?_set_ne (Ne.symm hn2)] at s2
        exact absurd (fr k _ e2' s2) hn2
    · rcases set_at e2 with ⟨rfl, hl, e'⟩ | ⟨hn2, e2'⟩
      · rw [List.getElem?_set_self (by omega)] at s2
        cases s2
        rw [List.getElem?_set_ne (Ne.symm hn1)] at s1
        exact absurd (fr j _ e1' s1) hn1
      · rw [List.getElem?_set_ne (Ne.symm hn1)] at s1
        rw [List.getElem?_set_ne (Ne.symm hn2)] at s2
        exact h.sep j k _ _ b e1' e2' s1 s2
/-- the list of a slot is changed -/
theorem DSc.mut (h : DSc K Hc0 H0 Hc σ H env) {i : Nat} {a : Addr} {o' : HO} {ds es : D} (e : env[i]? = some (some (.own ds))) (hs : σ[i]? = some (some (.ref a))) (h0 : H0 a = none) (hc : Hc a = none) (p : TopO K Hc a o' es) :
    DSc K Hc0 H0 Hc σ (upd H a o') (env.set i (some (.own es))) := by
  refine ⟨h.gr.mutO h0 hc p.notT, by rw [List.length_set]; exact h.len, fun j d' ej => ?_, fun j fs ej => ?_, fun j k ds1 es1 b e1 e2 s1 s2 => ?_⟩
  · rcases set_at ej with ⟨rfl, hl, e'⟩ | ⟨hn, e'⟩
    · cases e'
    · exact h.dat j d' e'
  · rcases set_at ej with ⟨rfl, hl, e'⟩ | ⟨hn, e'⟩
    · cases e'
      exact ⟨a, o', hs, h0, hc, upd_same, p⟩
    · obtain ⟨b, zs, h1, h2, h3, h4, h5⟩ := h.own j fs e'
      have hb : b ≠ a := fun z => by
        subst z
        exact hn (h.sep j i _ _ b e' e h1 hs)
      exact ⟨b, zs, h1, h2, h3, by rw [upd_ne hb]; exact h4, h5⟩
  · rcases set_at e1 with ⟨rfl, _, _⟩ | ⟨_, e1'⟩
    · rcases set_at e2 with ⟨rfl, _, _⟩ | ⟨_, e2'⟩
      · rfl
      · exact h.sep _ _ _ _ b e e2' s1 s2
    · rcases set_at e2 with ⟨rfl, _, _⟩ | ⟨_, e2'⟩
      · exact h.sep _ _ _ _ b e1' e s1 s2
      · exact h.sep _ _ _ _ b e1' e2' s1 s2
theorem DSc.rebase {Hb : Hp} (h : DSc K Hb H0 Hc σ H env) (cc : Same Hc0 Hb) (nw : ∀ a, H0 a ≠ none → Hc0 a = none → Hb a = none) : DSc K Hc0 H0 Hc σ H env :=
  ⟨⟨h.gr.hh, cc.trans h.gr.cc, fun a h1 h2 => h.gr.nw a h1 (nw a h1 h2), h.gr.cor⟩, h.len, h.dat, h.own, h.sep⟩
end

/-! ### what is wanted behind -/
structure EndsD where
  nx : SEnv → Prop
  rt : D → Prop
  bk : SEnv → Prop := fun _ => False
  ct : SEnv → Prop := fun _ => False
def RT (K : PySem.W.Frag) (Hc0 H0 : Hp) (v : V) (H : Hp) (d : D) : Prop := ∃ Hc, Grow Hc0 H0 Hc H ∧ Dq K Hc v d
def lift (K : PySem.W.Frag) (Hc0 H0 : Hp) (Z : EndsD) : Ends where
  nx := fun σ H => ∃ env, DS K Hc0 H0 σ H env ∧ Z.nx env
  rt := fun v H => ∃ d, RT K Hc0 H0 v H d ∧ Z.rt d
  bk := fun σ H => ∃ env, DS K Hc0 H0 σ H env ∧ Z.bk env
  ct := fun σ H => ∃ env, DS K Hc0 H0 σ H env ∧ Z.ct env
def SV (X : Cx) (st : Stmt) (Z : EndsD) (env : SEnv) : Prop := ∀ (Hc0 H0 : Hp) (σ : L2.St) (H : Hp), DS X.K Hc0 H0 σ H env → WSt X st (lift X.K Hc0 H0 Z) σ H
def SVs (X : Cx) (st : List Stmt) (Z : EndsD) (env : SEnv) : Prop := ∀ (Hc0 H0 : Hp) (σ : L2.St) (H : Hp), DS X.K Hc0 H0 σ H env → WSs X st (lift X.K Hc0 H0 Z) σ H
section
variable {X : Cx} {e a b c tg it : Expr} {es : List Expr} {env env' : SEnv} {pos : Pos} {d : D} {ds : List D} {st : Stmt} {sts A B : List Stmt} {Z : EndsD}
theorem sv_nil (h : Z.nx env) : SVs X [] Z env := fun Hc0 H0 σ H hs => wss_of pss_nil ⟨env, hs, h⟩
theorem sv_cons (h : SV X st { Z with nx := fun env' => SVs X sts Z env' } env) : SVs X (st :: sts) Z env := fun Hc0 H0 σ H hs pins s I => by
  have h1 := h Hc0 H0 σ H hs
  refine wss_of (pss_cons (t := WSt X st) (u := WSs X sts) ps_w pss_w) ?_ pins s I
  show WSt X st { lift X.K Hc0 H0 Z with nx := WSs X sts (lift X.K Hc0 H0 Z) } σ H
  intro pins s I
  refine thn (h1 pins s I) fun f s1 q => ?_
  cases f with
  | next =>
    obtain ⟨σ', H', I', env', hd, k⟩ := q
    exact ⟨σ', H', I', k Hc0 H0 σ' H' hd⟩
  | brk => exact q
  | cont => exact q
  | ret u => exact q
theorem sv_one (h : SV X st Z env) : SVs X [st] Z env := fun Hc0 H0 σ H hs => wss_of (pss_one (t := WSt X st) ps_w) (h Hc0 H0 σ H hs)
theorem sv_pass (h : Z.nx env) : SV X (.Pass pos) Z env := fun Hc0 H0 σ H hs => ws_of ps_pass ⟨env, hs, h⟩
/-- name = e, e of the data -/
theorem sv_set {i : Nat} {x : Str} {pos' : Pos} (hN : X.N.Nodup) (hi : X.N[i]? = some x) (hx : Loc X.env.scope x) (he : EVd X e (vis env) d) (h : Z.nx (env.set i (some (.dat d)))) (hs : swapsWith e (some (.Name x pos')) pos.line X.env = pure false := by rfl)
    (hf : X.fn x = true ∨ X.env.scope.names.lookup x = some .local := by first | exact .inl rfl | exact .inr rfl | assumption) : SV X (.Assign [.Name x pos'] e pos) Z env := fun Hc0 H0 σ H ⟨Hc, q⟩ =>
  ws_of (ps_set hN hi hx pe_w hs hf) (he Hc σ H q.x _ fun v Hc1 H1 g p => ⟨_, ⟨Hc1, (q.grow g).setDat i p⟩, h⟩)
/-- name = e, e may read the lists of slots -/
theorem sv_setA {i : Nat} {x : Str} {pos' : Pos} (hN : X.N.Nodup) (hi : X.N[i]? = some x) (hx : Loc X.env.scope x) (he : EVd X e (allE env) d) (hd : noL d = true) (h : Z.nx (env.set i (some (.dat d)))) (hs : swapsWith e (some (.Name x pos')) pos.line X.env = pure false := by rfl)
    (hf : X.fn x = true ∨ X.env.scope.names.lookup x = some .local := by first | exact .inl rfl | exact .inr rfl | assumption) : SV X (.Assign [.Name x pos'] e pos) Z env := fun Hc0 H0 σ H ⟨Hc, q⟩ =>
  ws_of (ps_set hN hi hx pe_w hs hf) (he _ σ H q.all _ fun v Hc1 H1 g p => by
    obtain ⟨Hc2, g2, k1, _, _⟩ := Grow.narrow (K := X.K) q.gr.cor g
    exact ⟨_, ⟨Hc2, (q.grow g2).setDat i (k1 v d hd p).q⟩, h⟩)
/-- name = a new list -/
theorem sv_setN {i : Nat} {x : Str} {pos' : Pos} (hN : X.N.Nodup) (hi : X.N[i]? = some x) (hx : Loc X.env.scope x) (he : EVn X e (allE env) ds) (hd : noLs ds = true) (h : Z.nx (env.set i (some (.own (.list ds))))) (hs : swapsWith e (some (.Name x pos')) pos.line X.env = pure false := by rfl)
    (hf : X.fn x = true ∨ X.env.scope.names.lookup x = some .local := by first | exact .inl rfl | exact .inr rfl | assumption) : SV X (.Assign [.Name x pos'] e pos) Z env := fun Hc0 H0 σ H ⟨Hc, q⟩ =>
  ws_of (ps_set hN hi hx pe_w hs hf) (he _ σ H q.all _ fun p xs Hc1 H1 g np nc hp ha => by
    obtain ⟨Hc2, g2, _, k2, k3⟩ := Grow.narrow (K := X.K) q.gr.cor g
    have c3 : ∃ Hc3, Grow Hc H Hc3 H1 ∧ Hc3 p = none ∧ DpAll X.K Hc3 xs ds := by
      refine ⟨fun z => if z = p then none else Hc2 z, ⟨g2.hh, fun z o e => ?_, fun z h1 h2 => ?_, ⟨fun z o e => ?_, fun z o e t => ?_⟩⟩, if_pos rfl, ?_⟩
      · have ne : z ≠ p := fun w => by rw [w, q.gr.cor.sub.free np] at e; cases e
        show (if z = p then none else Hc2 z) = _
        rw [if_neg ne]
        exact g2.cc z o e
      · show (if z = p then none else Hc2 z) = _
        by_cases w : z = p
        · rw [if_pos w]
        · rw [if_neg w]
          exact g2.nw z h1 h2
      · by_cases w : z = p
        · rw [if_pos w] at e
          cases e
        · rw [if_neg w] at e
          exact g2.cor.sub z o e
      · have ne : z ≠ p := fun w => by rw [w, hp] at e; cases e; exact t.elim
        show (if z = p then none else Hc2 z) = _
        rw [if_neg ne]
        exact g2.cor.tup z o e t
      · refine dps_tup (fun z zs hz => ?_) hd (k2 xs ds hd ha)
        rcases hz with (hz | ⟨o, hz⟩) | hz
        · have ne : z ≠ p := fun w => by rw [w] at hz; have := g2.cor.sub _ _ hz; rw [hp] at this; cases this
          exact .inl (.inl (by show (if z = p then none else Hc2 z) = _; rw [if_neg ne]; exact hz))
        · have ne : z ≠ p := fun w => by rw [w] at hz; have := g2.cor.sub _ _ hz; rw [hp] at this; cases this
          exact .inl (.inr ⟨o, by show (if z = p then none else Hc2 z) = _; rw [if_neg ne]; exact hz⟩)
        · exact .inr hz
    obtain ⟨Hc3, g3, n3, a3⟩ := c3
    refine ⟨_, ⟨Hc3, (q.grow g3).setOwn i (q.gr.hh.free np) n3 hp (.lst a3) fun j es e1 e2 => ?_⟩, h⟩
    obtain ⟨b, zs, h1, h2, h3, h4, h5⟩ := q.own j es e1
    rw [h1] at e2
    cases e2
    rw [np] at h4
    cases h4)
/-- name = [..], a comprehension -/
theorem sv_setLc {α : Type} {xs : List α} {enc : α → D} {i : Nat} {y : Str} {py : Pos} {elt tg iter : Expr} {ifs : List Expr} {scope : Scope} {own : List (Str × Nat)} {spos : Pos} (f : α → Option D) (hc : X.calm = true) (hN : X.N.Nodup) (hy : X.N[i]? = some y) (hyl : X.env.scope.names.lookup y = some .local)
    (hsw : swapsWith (.ListComp elt [⟨tg, iter, ifs, 0⟩] scope pos) (some (.Name y py)) spos.line X.env = pure true) (ok : BlkOk X.N X.env.scope scope own) (hi : IV X tg iter (vis env) (xs.map enc)) (hz : xs.length ≤ sizeLine)
    (turn : ∀ x, x ∈ xs → Turn1 X tg elt ifs scope (wipeE (vis env) (own.map (·.2))) (own.map (·.2)) (enc x) (f x)) (h : Z.nx (env.set i (some (.dat (.list (xs.filterMap f)))))) (hs : ∀ x, foldedSetIterable iter X.env x = pure x := by intro _; rfl) :
    SV X (.Assign [.Name y py] (.ListComp elt [⟨tg, iter, ifs, 0⟩] scope pos) spos) Z env := fun Hc0 H0 σ H ⟨Hc, q⟩ =>
  ws_of (ps_setLc hc hN hy hyl hsw pi_w ok pg_gB pts_tB pe_eB hs) (lc_read f hi hz turn q.x fun p xs Hc1 H1 g np nc hp ha => by
    obtain ⟨c2, s2⟩ := grow_list g.cor hp nc
    have g2 : Grow Hc H (upd Hc1 p (.lst xs)) H1 := ⟨g.hh, g.cc.trans s2, fun z h1 h2 => by
      have ne : z ≠ p := fun q => h1 (by rw [q]; exact np)
      rw [upd_ne ne]
      exact g.nw z h1 h2, c2⟩
    exact ⟨_, ⟨_, (q.grow g2).setDat i (L2.Dp.lst (.inl (.inl upd_same)) (ha.same s2)).q⟩, h⟩)
theorem sv_if {k : Bool} (hc : EVt X c (allE env) k) (h1 : k = true → SVs X A Z env) (h2 : k = false → SVs X B Z env) : SV X (.If c A B pos) Z env := fun Hc0 H0 σ H ⟨Hc, q⟩ =>
  ws_of (ps_if (t := WSs X A) (u := WSs X B) pt_w pss_w pss_w) (hc _ σ H q.all _ fun Hc1 H1 g => by
    obtain ⟨Hc2, g2, _⟩ := Grow.narrow (K := X.K) q.gr.cor g
    have q2 : DS X.K Hc0 H0 σ H1 env := ⟨Hc2, q.grow g2⟩
    cases k with
    | true =>
      rw [if_pos rfl]
      exact h1 rfl Hc0 H0 σ H1 q2
    | false =>
      rw [if_neg Bool.false_ne_true]
      exact h2 rfl Hc0 H0 σ H1 q2)
theorem sv_ret (he : EVd X e (allE env) d) (h : Z.rt d) : SV X (.Return (some e) pos) Z env := fun Hc0 H0 σ H ⟨Hc, q⟩ =>
  ws_of (ps_ret pe_w) (he _ σ H q.all _ fun v Hc1 H1 g p => ⟨d, ⟨Hc1, q.gr.unfrz g, p⟩, h⟩)
/-- xs.append(e), xs a list of a slot -/
theorem sv_append {i : Nat} {call : Expr} (pe : PE X call (tBM X.K "list" rAppend (tVar i) (tCons (WX X e) tNil))) (hx : env[i]? = some (some (.own (.list ds)))) (he : EVd X e (allE env) d) (hd : noL d = true) (hz : ds.length < sizeLine) (h : Z.nx (env.set i (some (.own (.list (ds ++ [d]))))))
    (hs : swapsWith call none pos.line X.env = pure false := by rfl) : SV X (.Expr call pos) Z env := fun Hc0 H0 σ H ⟨Hc, q⟩ =>
  ws_of (ps_expr pe hs) (by
    obtain ⟨l, o, h1, h2, h3, h4, h5⟩ := q.own i _ hx
    cases h5 with
    | @lst xs _ h5 =>
    refine ⟨_, h1, .inl ⟨rfl, _, .inl (.inl h4)⟩, ?_⟩
    refine he _ σ H q.all _ fun v Hc1 H1 g p => ?_
    obtain ⟨Hc2, g2, k1, _⟩ := Grow.narrow (K := X.K) q.gr.cor g
    have q2 := q.grow g2
    have c2 := g2.nw l (by rw [h4]; exact fun z => nomatch z) h3
    have ha2 : H1 l = some (.lst xs) := g.hh l _ h4
    refine ⟨l, xs, v, rfl, rfl, ha2, by rw [h5.len]; exact hz, ?_⟩
    exact ⟨_, ⟨Hc2, q2.mut hx h1 h2 c2 (TopO.lst <| (h5.same g2.cc).app (.cons (k1 v d hd p) .nil))⟩, h⟩)
/-- xs.extend(e), e a list -/
theorem sv_extend {i : Nat} {call : Expr} (pe : PE X call (tBM X.K "list" rExtend (tVar i) (tCons (WX X e) tNil))) (hx : env[i]? = some (some (.own (.list ds)))) {es' : List D} (he : EVn X e (allE env) es') (hd : noLs es' = true) (hz : ds.length + es'.length ≤ sizeLine) (h : Z.nx (env.set i (some (.own (.list (ds ++ es'))))))
    (hs : swapsWith call none pos.line X.env = pure false := by rfl) : SV X (.Expr call pos) Z env := fun Hc0 H0 σ H ⟨Hc, q⟩ =>
  ws_of (ps_expr pe hs) (by
    obtain ⟨l, o, h1, h2, h3, h4, h5⟩ := q.own i _ hx
    cases h5 with
    | @lst xs _ h5 =>
    refine ⟨_, h1, .inl ⟨rfl, _, .inl (.inl h4)⟩, ?_⟩
    refine he _ σ H q.all _ fun b ys Hc1 H1 g nb cb hb p => ?_
    obtain ⟨Hc2, g2, _, k2, _⟩ := Grow.narrow (K := X.K) q.gr.cor g
    have q2 := q.grow g2
    have c2 := g2.nw l (by rw [h4]; exact fun z => nomatch z) h3
    have ha2 : H1 l = some (.lst xs) := g.hh l _ h4
    refine ⟨l, b, xs, ys, rfl, rfl, ha2, hb, by rw [h5.len, p.len]; exact hz, ?_⟩
    exact ⟨_, ⟨Hc2, q2.mut hx h1 h2 c2 (TopO.lst <| (h5.same g2.cc).app (k2 ys es' hd p))⟩, h⟩)
/-! ### for -/
/-- what a target stores, by slots -/
inductive Tgt where
  | one (i : Nat)
  | tup (is : List Nat)
def setAll (env : SEnv) : List Nat → List D → SEnv
  | i :: is, d :: ds => setAll (env.set i (some (.dat d))) is ds
  | _, _ => env
def Tgt.put (env : SEnv) : Tgt → D → SEnv
  | .one i, d => env.set i (some (.dat d))
  | .tup is, .tuple ds => setAll env is ds
  | .tup _, _ => env
def TgtOk (X : Cx) (tg : Expr) (t : Tgt) (d : D) : Prop := ∀ (Hc0 H0 Hc : Hp) (σ : L2.St) (H : Hp) (env : SEnv), DSc X.K Hc0 H0 Hc σ H env → ∀ v, Dq X.K Hc v d → ∀ Q : L2.St → Hp → Prop, (∀ σ', DSc X.K Hc0 H0 Hc σ' H (t.put env d) → Q σ' H) → WG X tg v σ H Q
theorem tg_one {i : Nat} {x : Str} (hN : X.N.Nodup) (hi : X.N[i]? = some x) (hx : Loc X.env.scope x) (hf : X.fn x = true ∨ X.env.scope.names.lookup x = some .local := by first | exact .inl rfl | exact .inr rfl | assumption) : TgtOk X (.Name x pos) (.one i) d :=
  fun Hc0 H0 Hc σ H env q v p Q k => wg_of (pg_name hN hi hx hf) (k _ (q.setDat i p))
def TgtsOk (X : Cx) (ts : List Expr) (is : List Nat) : Prop := ∀ (ds : List D), ds.length = is.length → ∀ (Hc0 H0 Hc : Hp) (σ : L2.St) (H : Hp) (env : SEnv), DSc X.K Hc0 H0 Hc σ H env → ∀ vs, DpAll X.K Hc vs ds → ∀ Q : L2.St → Hp → Prop, (∀ σ', DSc X.K Hc0 H0 Hc σ' H (setAll env is ds) → Q σ' H) →
  ∀ pins s us, Inv X pins σ H s → Vals vs us → wpAny (model X.prog X.w) X.A (assignInOrder ((assignEach ts X.env).map (·.2)) us) (fun _ s' => ∃ σ' H', Inv X pins σ' H' s' ∧ Q σ' H') X.xe s
theorem tgs_nil : TgtsOk X [] [] := fun ds hl Hc0 H0 Hc σ H env q vs p Q k pins s us I r => by
  cases ds with
  | nil =>
    cases p
    exact pgs_nil.run pins s σ H [] us Q I r ⟨rfl, k σ q⟩
  | cons d ds => simp at hl
theorem tgs_cons {t : Expr} {ts : List Expr} {i : Nat} {is : List Nat} (h1 : ∀ d, TgtOk X t (.one i) d) (h2 : TgtsOk X ts is)
    (hs : (assignEach (t :: ts) X.env).map (·.2) = assign t X.env :: (assignEach ts X.env).map (·.2) := by rfl) : TgtsOk X (t :: ts) (i :: is) := fun ds hl Hc0 H0 Hc σ H env q vs p Q k pins s us I r => by
  cases p with
  | nil => simp at hl
  | cons p ps =>
    rename_i v vs' d ds'
    have hp : PGs X ts (fun vs σ H Q => ∀ pins s us, Inv X pins σ H s → Vals vs us → wpAny (model X.prog X.w) X.A (assignInOrder ((assignEach ts X.env).map (·.2)) us) (fun _ s' => ∃ σ' H', Inv X pins σ' H' s' ∧ Q σ' H') X.xe s) :=
      ⟨fun pins s σ H vs us Q I r h => h pins s us I r⟩
    refine (pgs_cons pg_w hp hs).run pins s σ H _ us Q I r ⟨v, vs', rfl, ?_⟩
    refine h1 d Hc0 H0 Hc σ H env q v p.q _ fun σ1 q1 => ?_
    exact fun pins s us I r => h2 ds' (by simpa using hl) Hc0 H0 Hc σ1 H _ q1 vs' ps Q k pins s us I r
theorem tg_tup {k n : Nat} {is : List Nat} (hc : X.calm = true) (h : TgtsOk X es is) (hl : ds.length = is.length) (hl2 : is.length = n) (hn : (assignEach es X.env).length = n := by rfl) (hst : (assignEach es X.env).findIdx? (·.1) = none := by rfl) : TgtOk X (.Tuple es k pos) (.tup is) (.tuple ds) :=
  fun Hc0 H0 Hc σ H env q v p Q kk => by
    obtain ⟨a, xs, rfl, h1, h2⟩ := dp_tupI p
    have hp : PGs X es (fun vs σ H Q => ∀ pins s us, Inv X pins σ H s → Vals vs us → wpAny (model X.prog X.w) X.A (assignInOrder ((assignEach es X.env).map (·.2)) us) (fun _ s' => ∃ σ' H', Inv X pins σ' H' s' ∧ Q σ' H') X.xe s) :=
      ⟨fun pins s σ H vs us Q I r h => h pins s us I r⟩
    exact wg_of (pg_tup hc hp hn hst) ⟨a, xs, rfl, sqt_sub q.gr.cor h1, by rw [h2.len, hl, hl2], fun pins s us I r => h ds hl Hc0 H0 Hc σ H env q xs h2 Q kk pins s us I r⟩
/-- a, b, .. = e -/
theorem sv_unpack {is : List Nat} {k n : Nat} {p2 : Pos} (hc : X.calm = true) (h : TgtsOk X es is) (he : EVd X e (vis env) (.tuple ds)) (hl : ds.length = is.length) (hl2 : is.length = n) (hz : Z.nx (setAll env is ds)) (hn : (assignEach es X.env).length = n := by rfl) (hst : (assignEach es X.env).findIdx? (·.1) = none := by rfl)
    (hs : swapsWithSole [.Tuple es k p2] e pos.line X.env = pure false := by rfl) (hw : swappedStores [.Tuple es k p2] e X.env = pure none := by rfl) (h1 : (assignEach [.Tuple es k p2] X.env).map (·.2) = [assign (.Tuple es k p2) X.env] := by rfl) : SV X (.Assign [.Tuple es k p2] e pos) Z env := fun Hc0 H0 σ H ⟨Hc, q⟩ =>
  ws_of (ps_asg pe_w pg_w hs hw h1) (he Hc σ H q.x _ fun v Hc1 H1 g p => tg_tup hc h hl hl2 hn hst Hc0 H0 Hc1 σ H1 env (q.grow g) v p _ fun σ' q' => ⟨_, ⟨Hc1, q'⟩, hz⟩)
theorem sv_for0 {t : Tgt} {body : List Stmt} (Pv : Nat → SEnv → Prop) (hp : PassesOwn (model X.prog X.w) X.A X.env X.xe) (hc : X.calm = true) (hi : IV X tg it (vis env) ds) (h0 : Pv 0 env) (htg : ∀ d, d ∈ ds → TgtOk X tg t d)
    (turn : ∀ (i : Nat) (d : D) (env' : SEnv), ds[i]? = some d → Pv i env' → SVs X body { nx := Pv (i + 1), ct := Pv (i + 1), bk := Z.nx, rt := Z.rt } (t.put env' d)) (hd : ∀ env', Pv ds.length env' → Z.nx env')
    (hs : ∀ x, foldedSetIterable it X.env x = pure x := by intro _; rfl) : SV X (.For tg it body [] pos) Z env := fun Hc0 H0 σ H ⟨Hc, q⟩ =>
  ws_of (ps_for (g := WG X tg) (tb := WSs X body) hp hc pi_w pg_w pss_w hs) (hi Hc σ H q.x _ fun J Hc1 H1 g w => by
    have cc0 : Same Hc0 Hc1 := q.gr.cc.trans g.cc
    have nw0 : ∀ a, H0 a ≠ none → Hc0 a = none → Hc1 a = none := (q.gr.trans g).nw
    have q1 := q.grow g
    refine for_it w (fun i σ' H' => ∃ env', DS X.K Hc1 H0 σ' H' env' ∧ Pv i env') ?_ ?_ ?_ ?_
    · exact ⟨env, ⟨Hc1, ⟨⟨q1.gr.hh, Same.refl _, fun a h1 h2 => h2, q1.gr.cor⟩, q1.len, q1.dat, q1.own, q1.sep⟩⟩, h0⟩
    · rintro i σ' H' _ ⟨env', ⟨Hc2, q2⟩, _⟩
      exact q2.gr.cc.trans q2.gr.cor.sub
    · rintro i x σ' H' H'' hlt ⟨env', ⟨Hc2, q2⟩, pv'⟩ y
      obtain ⟨Hc3, d, g3, hd3, px⟩ := y Hc2 q2.gr.cor q2.gr.cc
      refine htg d (List.mem_of_getElem? hd3) Hc1 H0 Hc3 σ' H'' env' (q2.grow g3) x px.q _ fun σ2 q4 => ?_
      have b := turn i d env' hd3 pv' Hc1 H0 σ2 H'' ⟨Hc3, q4⟩
      refine wss_mono b (fun _ _ z => z) (fun v H5 z => ?_) (fun σ5 H5 z => ?_) (fun _ _ z => z)
      · obtain ⟨r, ⟨Hc5, g5, p5⟩, k⟩ := z
        exact ⟨r, ⟨Hc5, ⟨g5.hh, cc0.trans g5.cc, fun a h1 h2 => g5.nw a h1 (nw0 a h1 h2), g5.cor⟩, p5⟩, k⟩
      · obtain ⟨e5, ⟨Hc5, q5⟩, k⟩ := z
        exact ⟨e5, ⟨Hc5, q5.rebase cc0 nw0⟩, k⟩
    · rintro σ' H' ⟨env', ⟨Hc2, q2⟩, pv'⟩
      exact ⟨env', ⟨Hc2, q2.rebase cc0 nw0⟩, hd env' pv'⟩)
theorem sv_for {α : Type} {xs : List α} {enc : α → D} {t : Tgt} {body : List Stmt} (Pv : Nat → SEnv → Prop) (hp : PassesOwn (model X.prog X.w) X.A X.env X.xe) (hc : X.calm = true) (hi : IV X tg it (vis env) (xs.map enc)) (h0 : Pv 0 env) (htg : ∀ x, TgtOk X tg t (enc x))
    (turn : ∀ (i : Nat) (x : α) (env' : SEnv), xs[i]? = some x → Pv i env' → SVs X body { nx := Pv (i + 1), ct := Pv (i + 1), bk := Z.nx, rt := Z.rt } (t.put env' (enc x))) (hd : ∀ env', Pv xs.length env' → Z.nx env')
    (hs : ∀ x, foldedSetIterable it X.env x = pure x := by intro _; rfl) : SV X (.For tg it body [] pos) Z env :=
  sv_for0 Pv hp hc hi h0 (fun d hd => by
    obtain ⟨x, _, rfl⟩ := List.mem_map.mp hd
    exact htg x) (fun i d env' hd pv' => by
    rw [List.getElem?_map] at hd
    obtain ⟨x, hx, rfl⟩ := Option.map_eq_some_iff.mp hd
    exact turn i x env' hx pv') (fun env' h => hd env' (by rw [List.length_map] at h; exact h)) hs
theorem sv_break (h : Z.bk env) : SV X (.Break pos) Z env := fun Hc0 H0 σ H hs => ws_of ps_break ⟨env, hs, h⟩
theorem sv_continue (h : Z.ct env) : SV X (.Continue pos) Z env := fun Hc0 H0 σ H hs => ws_of ps_continue ⟨env, hs, h⟩
/-- an expression whose value is dropped -/
theorem sv_drop (he : EVd X e (vis env) d) (h : Z.nx env) (hs : swapsWith e none pos.line X.env = pure false := by rfl) : SV X (.Expr e pos) Z env := fun Hc0 H0 σ H ⟨Hc, q⟩ =>
  ws_of (ps_expr pe_w hs) (he Hc σ H q.x _ fun v Hc1 H1 g p => ⟨env, ⟨Hc1, q.grow g⟩, h⟩)
end

/-! ### promises -/
def spD (K : PySem.W.Frag) (spec : List D → D → Prop) : Sp := fun vs H Q _ => ∃ (Hc : Hp) (ds : List D) (d : D), Cor Hc H ∧ DqAll K Hc vs ds ∧ spec ds d ∧ ∀ v Hc1 H1, Grow Hc H Hc1 H1 → Dq K Hc1 v d → Q v H1
structure DefK (P : Program) (w : World) (K : PySem.W.Frag) (mg : Str → Option Value) (base : Heap) (x : Str) (k : Nat) (ps : List Str) (sp : Sp) : Prop where
  ex : ∃ f fd, mg x = some (.ref f) ∧ PySem.W.keepIn K (.ref f) = true ∧ Binds K fd ps [] ∧ FnOk P w K mg base CX0 k f fd ps sp
abbrev DefD (P : Program) (w : World) (K : PySem.W.Frag) (mg : Str → Option Value) (base : Heap) (x : Str) (k : Nat) (ps : List Str) (spec : List D → D → Prop) : Prop := DefK P w K mg base x k ps (spD K spec)
section
variable {X : Cx} {e a b c : Expr} {es : List Expr} {env : DEnv} {pos p : Pos} {d : D} {ds : List D} {x : Str} {k : Nat} {ps : List Str} {spec : List D → D → Prop}
theorem ev_call (F : DefD X.prog X.w X.K X.mg X.base x k ps spec) (hr : Room k X.A) (hg : Gl X x) (ha : EVq X (e :: es) env ds) (hsp : spec ds d) (hdb : (x == ("__debug__" : Str)) = false := by decide)
    (he : starEach (e :: es) X.env = (false, eval e X.env) :: starEach es X.env := by rfl) (hpl : (backTo pos (starEach es X.env)).any (·.1) = false := by rfl) : EVd X (.Call (.Name x p) (e :: es) [] pos) env d := fun Hc σ H hs Q q => by
  obtain ⟨f, fd, hm, hk, hb, ok⟩ := F.ex
  exact wx_of (pe_call ok hr hg hm hk hb .nil pass0 pa_w hdb he hpl) (ha Hc σ H hs _ fun vs Hc1 H1 g pa => by
    rw [List.append_nil]
    exact ⟨Hc1, ds, d, g.cor, pa, hsp, fun v Hc2 H2 g2 p2 => q v Hc2 H2 (g.trans g2) p2⟩)
def startS (n : Nat) (ds : List D) : SEnv := ds.map (fun d => some (.dat d)) ++ List.replicate (n - ds.length) none
theorem ds_start {K : PySem.W.Frag} {N : List Str} {vs : List V} {Hc H : Hp} (c : Cor Hc H) (h : DqAll K Hc vs ds) : DS K Hc H (L2.start N vs) H (startS N.length ds) := by
  refine ⟨Hc, Grow.refl c, ?_, fun i d e => ?_, fun i ds e => ?_, fun i j es fs a e => ?_⟩
  · unfold startS L2.start
    simp [h.len]
  · unfold startS at e
    by_cases hi : i < ds.length
    · rw [List.getElem?_append_left (by simpa using hi), List.getElem?_map] at e
      cases q : ds[i]? with
      | none => rw [q] at e; cases e
      | some d2 =>
        rw [q] at e
        cases e
        obtain ⟨v, h1, h2⟩ := h.get q
        refine ⟨v, ?_, h2⟩
        unfold L2.start
        rw [List.getElem?_append_left (by simpa [h.len] using hi), List.getElem?_map, h1]
        rfl
    · rw [List.getElem?_append_right (by simpa using Nat.le_of_not_lt hi), List.getElem?_replicate] at e
      split at e <;> cases e
  · unfold startS at e
    rcases List.mem_append.mp (List.mem_of_getElem? e) with m | m
    · obtain ⟨d, _, z⟩ := List.mem_map.mp m
      cases z
    · have := List.eq_of_mem_replicate m
      cases this
  · unfold startS at e
    rcases List.mem_append.mp (List.mem_of_getElem? e) with m | m
    · obtain ⟨d, _, z⟩ := List.mem_map.mp m
      cases z
    · have := List.eq_of_mem_replicate m
      cases this
end
/-- a def over data, by its body -/
theorem fn_D {P : Program} {w : World} {K : PySem.W.Frag} {mg : Str → Option Value} {base : Heap} {x qual : Str} {params : Arguments} {body : List Stmt} {scope : Scope} {f : Addr} {fd : FuncData} {N ps : List Str} {k : Nat} {spec : List D → D → Prop}
    (F : FunD K x qual params body scope [] [] f fd) (S : FnScope N ps scope) (hl : ∀ ds d, spec ds d → ds.length = ps.length)
    (hb : ∀ (cdv : Value) (A : Around) (outer : List Env) (s : Shared) (H : Hp) (E : XK) (ds : List D) (d : D), spec ds d → Room k (A.deeper (envOfC qual scope s.heap.objs.size f cdv)) →
      SVs (cxOf CX0 P w K mg base N qual scope f cdv A outer s H E).nox body { nx := fun _ => d = .none, rt := fun r => r = d } (startS N.length ds)) : FnOk P w K mg base CX0 (k + 1) f fd ps (spD K spec) := by
  refine F.ok S (fun vs H Q E h => ?_) (fun cdv A outer s H vs Q E hr h => ?_)
  · obtain ⟨Hc, ds, d, c, pa, hsp, _⟩ := h
    rw [pa.len]
    exact hl ds d hsp
  · obtain ⟨Hc, ds, d, c, pa, hsp, q⟩ := h
    have b := hb cdv A outer s H E ds d hsp hr Hc H (L2.start N vs) H (ds_start c pa)
    refine ⟨_, PSs.nox pss_w, wss_mono b (fun σ' H' z => ?_) (fun v H' z => ?_) (fun _ _ z => ?_) (fun _ _ z => ?_)⟩
    · obtain ⟨env, ⟨Hc1, q1⟩, rfl⟩ := z
      exact q .non Hc1 H' q1.gr L2.Dp.non
    · obtain ⟨r, ⟨Hc1, g, p⟩, rfl⟩ := z
      exact q v Hc1 H' g p
    · obtain ⟨_, _, z⟩ := z
      exact z.elim
    · obtain ⟨_, _, z⟩ := z
      exact z.elim
end DL
set_option Elab.async false
set_option linter.all false
set_option maxRecDepth 100000
set_option maxHeartbeats 1000000
set_option autoImplicit false
/-! M0: worlds, sorts, instances as plain data, and what is asked of them -/
namespace Tr
open PySem PySem.Spec L2 DL
structure Wd where
  cs : List (Str × Nat)
  ts : List (Str × Str × List Str)
def encCL (c : Str × Nat) : List D := [.str c.1, .int (c.2 : Nat)]
abbrev encC (c : Str × Nat) : D := .tuple (encCL c)
def encTL (t : Str × Str × List Str) : List D := [.str t.1, .str t.2.1, .tuple (t.2.2.map .str)]
abbrev encT (t : Str × Str × List Str) : D := .tuple (encTL t)
def encW (w : Wd) : D := .tuple [.tuple (w.cs.map encC), .tuple (w.ts.map encT)]
/-- a world as an argument -/
abbrev W (w : Wd) : D := .dict [(.none, encW w)]
inductive Srt where
  | n0 (r : Str)
  | n1 (r : Str) (a : Srt)
  | n2 (r : Str) (a b : Srt)
  deriving DecidableEq
namespace Srt
def root : Srt → Str
  | n0 r => r
  | n1 r _ => r
  | n2 r _ _ => r
def parts : Srt → List Srt
  | n0 _ => []
  | n1 _ a => [a]
  | n2 _ a b => [a, b]
def size : Srt → Nat
  | n0 _ => 1
  | n1 _ a => 1 + a.size
  | n2 _ a b => 1 + a.size + b.size
def depth : Srt → Nat
  | n0 _ => 1
  | n1 _ a => 1 + a.depth
  | n2 _ a b => 1 + max a.depth b.depth
end Srt
def encSL : Srt → List D
  | .n0 r => [.str r]
  | .n1 r a => [.str r, .tuple (encSL a)]
  | .n2 r a b => [.str r, .tuple (encSL a), .tuple (encSL b)]
abbrev encS (s : Srt) : D := .tuple (encSL s)
theorem encSL_eq (s : Srt) : encSL s = .str s.root :: s.parts.map encS := by cases s <;> rfl
inductive Rk where
  | num (n : Nat)
  | mark
  | plus (a b : Rk)
  | times (a b : Rk)
  | tell (t : Str) (p : Nat)
def encRL : Rk → List D
  | .num n => [.str "number", .int (n : Nat)]
  | .mark => [.str "mark"]
  | .plus a b => [.str "plus", .tuple (encRL a), .tuple (encRL b)]
  | .times a b => [.str "times", .tuple (encRL a), .tuple (encRL b)]
  | .tell t p => [.str "tell", .str t, .int (p : Nat)]
abbrev encR (r : Rk) : D := .tuple (encRL r)
def encPL (p : Str × Rk) : List D := [.str p.1, encR p.2]
abbrev encP (p : Str × Rk) : D := .tuple (encPL p)
inductive Bd where
  | rk (r : Rk)
  | made (r : Rk) (ps : List (Str × Rk))
def encBL : Bd → List D
  | .rk r => encRL r
  | .made r ps => .str "made" :: encR r :: ps.map encP
abbrev encB (b : Bd) : D := .tuple (encBL b)
structure Inst where
  tr : Str
  root : Str
  lims : List (Option Str)
  asks : List (Str × Nat)
  body : Bd
def encL : Option Str → D
  | none => .none
  | some x => .str x
def encAL (a : Str × Nat) : List D := [.str a.1, .int (a.2 : Nat)]
abbrev encA (a : Str × Nat) : D := .tuple (encAL a)
def encIL (i : Inst) : List D := [.str i.tr, .str i.root, .tuple (i.lims.map encL), .tuple (i.asks.map encA), encB i.body]
abbrev encI (i : Inst) : D := .tuple (encIL i)
abbrev encIs (is : List Inst) : D := .tuple (is.map encI)
/-! ### what is asked -/
def signs (s : Str) : List Nat := s.cps.toList
def smallS : Str := "abcdefghijklmnopqrstuvwxyz"
def greatS : Str := "ABCDEFGHIJKLMNOPQRSTUVWXYZ"
def sLt (x y : Str) : Bool := decide (x.cps.toList < y.cps.toList)
def areSmall (x : Str) (lo hi : Int) : Bool := decide (lo ≤ x.length) && decide ((x.length : Int) ≤ hi) && (signs x).all fun c => decide (c ∈ signs smallS)
def okC (c : Str × Nat) : Bool := (match signs c.1 with
  | [] => false
  | k :: _ => decide (k ∈ signs greatS)) && areSmall (cutS c.1 (some 1) none) 0 5 && decide (c.2 ≤ 2) && !decide (c.1 = "") && decide (c.1.length ≤ sizeLine)
def asc : List Str → Bool
  | x :: y :: r => sLt x y && asc (y :: r)
  | _ => true
def okT : List Str → List (Str × Str × List Str) → Bool
  | _, [] => true
  | ear, t :: r => areSmall t.1 1 6 && !(ear.any fun z => decide (z = t.1)) && (decide (t.2.1 = "tell") || decide (t.2.1 = "make")) && (t.2.2.all fun b => ear.any fun z => decide (z = b)) && asc t.2.2 && decide (t.1.length ≤ sizeLine) && okT (ear ++ [t.1]) r
structure OkW (w : Wd) : Prop where
  c1 : 1 ≤ w.cs.length
  c4 : w.cs.length ≤ 4
  cn : ∀ c ∈ w.cs, okC c = true
  ca : asc (w.cs.map (·.1)) = true
  c0 : (w.cs.any fun c => decide (c.2 = 0)) = true
  t1 : 1 ≤ w.ts.length
  t4 : w.ts.length ≤ 4
  tt : okT [] w.ts = true
  b4 : ∀ t ∈ w.ts, t.2.2.length ≤ 4
  st : ∀ t ∈ w.ts, PyData.strOk t.1 = true ∧ PyData.strOk t.2.1 = true
  sc : ∀ c ∈ w.cs, PyData.strOk c.1 = true
def names (w : Wd) : List Str := w.ts.map (·.1)
def ctors (w : Wd) : List Str := w.cs.map (·.1)
/-- the number of parts of a root -/
def arC (cs : List (Str × Nat)) (r : Str) : Option Nat := (cs.find? fun c => decide (c.1 = r)).map (·.2)
def okS (w : Wd) : Srt → Bool
  | .n0 r => decide (arC w.cs r = some 0)
  | .n1 r a => decide (arC w.cs r = some 1) && okS w a
  | .n2 r a b => decide (arC w.cs r = some 2) && okS w a && okS w b
theorem okS_root {w : Wd} {s : Srt} (h : okS w s = true) : arC w.cs s.root = some s.parts.length := by
  cases s with
  | n0 r => simpa [okS, Srt.root, Srt.parts] using h
  | n1 r a => simp [okS] at h; simpa [Srt.root, Srt.parts] using h.1
  | n2 r a b => simp [okS] at h; simpa [Srt.root, Srt.parts] using h.1.1
theorem okS_parts {w : Wd} {s p : Srt} (h : okS w s = true) (hp : p ∈ s.parts) : okS w p = true := by
  cases s with
  | n0 r => simp [Srt.parts] at hp
  | n1 r a => simp [okS] at h; simp [Srt.parts] at hp; subst hp; exact h.2
  | n2 r a b =>
    simp [okS] at h
    simp [Srt.parts] at hp
    rcases hp with rfl | rfl
    · exact h.1.2
    · exact h.2
theorem depth_parts {s p : Srt} (hp : p ∈ s.parts) : p.depth < s.depth := by
  cases s with
  | n0 r => simp [Srt.parts] at hp
  | n1 r a => simp [Srt.parts] at hp; subst hp; simp [Srt.depth]
  | n2 r a b =>
    simp [Srt.parts] at hp
    rcases hp with rfl | rfl
    · simp [Srt.depth]; omega
    · simp [Srt.depth]; omega
theorem depth_pos (s : Srt) : 1 ≤ s.depth := by cases s <;> simp [Srt.depth]
theorem size_eq (s : Srt) : s.size = 1 + (s.parts.map Srt.size).sum := by cases s <;> simp [Srt.size, Srt.parts] <;> omega
theorem parts_len (s : Srt) : s.parts.length ≤ 2 := by cases s <;> simp [Srt.parts]
theorem size_parts {s p : Srt} (hp : p ∈ s.parts) : p.size < s.size := by
  cases s with
  | n0 r => simp [Srt.parts] at hp
  | n1 r a => simp [Srt.parts] at hp; subst hp; simp [Srt.size]
  | n2 r a b =>
    simp [Srt.parts] at hp
    rcases hp with rfl | rfl
    · simp [Srt.size]; omega
    · simp [Srt.size]; omega
/-! ### lists of texts as data -/
theorem flat_strs {α : Type} (f : α → Str) : ∀ xs : List α, (xs.map fun a => (PyData.str (f a) : D)).all flatD = true
  | [] => rfl
  | x :: xs => by rw [List.map_cons, List.all_cons, flat_strs f xs]; rfl
theorem any_strs {α : Type} (f : α → Str) (x : Str) : ∀ xs : List α, ((xs.map fun a => (PyData.str (f a) : D)).any fun z => PyData.eqv z (.str x)) = xs.any fun a => decide (f a = x)
  | [] => rfl
  | y :: xs => by
    rw [List.map_cons, List.any_cons, List.any_cons, any_strs f x xs]
    have e : PyData.eqv (.str (f y)) (.str x) = decide (f y = x) := by
      show ((f y) == x) = _
      by_cases h : f y = x
      · rw [h]; simp
      · rw [decide_eq_false h]; exact beq_eq_false_iff_ne.mpr h
    rw [e]
/-! ### sorts and instances -/
def okL (p : Option Str × Srt) : Bool := match p.1 with
  | none => true
  | some l => decide (p.2.root = l)
def fitsM (i : Inst) (s : Srt) : Bool := decide (i.root = s.root) && (i.lims.zip s.parts).all okL
def Srt.sub (s : Srt) (n : Nat) : Option Srt := s.parts[n]?
theorem sub_mem {s p : Srt} {n : Nat} (h : s.sub n = some p) : p ∈ s.parts := List.mem_of_getElem? h
/-- whether an ask holds -/
def standsM (is : List Inst) (s : Srt) (t : Str) : Bool := is.any fun one => (decide (one.tr = t) && fitsM one s) && one.asks.all fun a => match h : s.sub a.2 with
  | some p => standsM is p a.1
  | none => false
termination_by s.size
decreasing_by exact size_parts (sub_mem h)
end Tr
set_option Elab.async false
set_option linter.all false
set_option maxRecDepth 100000
set_option maxHeartbeats 1000000
set_option autoImplicit false
/-! W0: the program's text by places, what its names stand for -/
namespace Tr
open PySem PySem.Spec PyProof.Rows L2 DL
def top (i : Nat) : Stmt := PySem.Challenge.pw_traitsure_k04_whole_benches.main.body.getD i (.Pass ⟨0, 0, 0, 0⟩)
/-- a def of the top -/
def Has (K : PySem.W.Frag) (mg : Str → Option Value) (x : Str) (st : Stmt) : Prop := ∃ f fd, FunD K x x (defArgs st) (defBody st) (defScope st) [] [] f fd ∧ mg x = some (.ref f)
/-- the built-ins stand under their names -/
structure Blt (mg : Str → Option Value) : Prop where
  isinstance : mg "isinstance" = none
  int : mg "int" = none
  bool : mg "bool" = none
  len : mg "len" = none
  all : mg "all" = none
  any : mg "any" = none
  str : mg "str" = none
  tuple : mg "tuple" = none
  range : mg "range" = none
  dict : mg "dict" = none
  sum : mg "sum" = none
  sorted : mg "sorted" = none
  zip : mg "zip" = none
  enumerate : mg "enumerate" = none
  min : mg "min" = none
  max : mg "max" = none
  list : mg "list" = none
  small : ∃ t, mg "SMALL" = some (.str "abcdefghijklmnopqrstuvwxyz" t)
  great : ∃ t, mg "GREAT" = some (.str "ABCDEFGHIJKLMNOPQRSTUVWXYZ" t)
section
variable {X : Cx} {env : DEnv} {pos : Pos} {d : D}
/-- the name in slot i -/
theorem ev_v (i : Nat) {x : Str} (he : env[i]? = some (some d)) (hN : X.N[i]? = some x := by rfl) (hv : Vis X.env.scope x := by first | exact Or.inl rfl | exact Or.inr (Or.inl rfl) | exact Or.inr (Or.inr rfl)) (hd : (x == ("__debug__" : Str)) = false := by decide) (hcd : (x == ("__classdict__" : Str)) = false := by decide) : EVd X (.Name x pos) env d :=
  ev_var hN hv he hd hcd
theorem kb_ss : kitB "str" "str" = some true := by decide +kernel
theorem kb_ts : kitB "tuple" "str" = some false := by decide +kernel
theorem kb_tt : kitB "tuple" "tuple" = some true := by decide +kernel
theorem kb_st : kitB "str" "tuple" = some false := by decide +kernel
theorem kb_it : kitB "int" "tuple" = some false := by decide +kernel
theorem kb_ii : kitB "int" "int" = some true := by decide +kernel
theorem kb_ib : kitB "int" "bool" = some false := by decide +kernel
theorem bt_str : bootBuiltins "str" = some (.type "str") := by decide +kernel
theorem bt_int : bootBuiltins "int" = some (.type "int") := by decide +kernel
theorem bt_bool : bootBuiltins "bool" = some (.type "bool") := by decide +kernel
theorem bt_tuple : bootBuiltins "tuple" = some (.type "tuple") := by decide +kernel
theorem ev_isS {a : Expr} {p p' : Pos} {k : Bool} (B : Blt X.mg) (ha : EVd X a env d) (hk : kitB (tyOf d) "str" = some k) (hi : isD d = true := by rfl) (hg : Gl X "isinstance" := by rfl) (hg' : Gl X "str" := by rfl)
    (hs : starEach [.Name "str" p'] X.env = (false, eval (.Name "str" p') X.env) :: starEach [] X.env := by rfl) (he : starEach (a :: [.Name "str" p']) X.env = (false, eval a X.env) :: starEach [.Name "str" p'] X.env := by rfl) (hpl : (backTo pos (starEach [.Name "str" p'] X.env)).any (·.1) = false := by rfl) :
    EVd X (.Call (.Name "isinstance" p) [a, .Name "str" p'] [] pos) env (.bool k) := ev_isi ha hg B.isinstance hg' B.str bt_str hi hk (by decide) (by decide) hs he hpl
theorem ev_isI {a : Expr} {p p' : Pos} {k : Bool} (B : Blt X.mg) (ha : EVd X a env d) (hk : kitB (tyOf d) "int" = some k) (hi : isD d = true := by rfl) (hg : Gl X "isinstance" := by rfl) (hg' : Gl X "int" := by rfl)
    (hs : starEach [.Name "int" p'] X.env = (false, eval (.Name "int" p') X.env) :: starEach [] X.env := by rfl) (he : starEach (a :: [.Name "int" p']) X.env = (false, eval a X.env) :: starEach [.Name "int" p'] X.env := by rfl) (hpl : (backTo pos (starEach [.Name "int" p'] X.env)).any (·.1) = false := by rfl) :
    EVd X (.Call (.Name "isinstance" p) [a, .Name "int" p'] [] pos) env (.bool k) := ev_isi ha hg B.isinstance hg' B.int bt_int hi hk (by decide) (by decide) hs he hpl
theorem ev_isB {a : Expr} {p p' : Pos} {k : Bool} (B : Blt X.mg) (ha : EVd X a env d) (hk : kitB (tyOf d) "bool" = some k) (hi : isD d = true := by rfl) (hg : Gl X "isinstance" := by rfl) (hg' : Gl X "bool" := by rfl)
    (hs : starEach [.Name "bool" p'] X.env = (false, eval (.Name "bool" p') X.env) :: starEach [] X.env := by rfl) (he : starEach (a :: [.Name "bool" p']) X.env = (false, eval a X.env) :: starEach [.Name "bool" p'] X.env := by rfl) (hpl : (backTo pos (starEach [.Name "bool" p'] X.env)).any (·.1) = false := by rfl) :
    EVd X (.Call (.Name "isinstance" p) [a, .Name "bool" p'] [] pos) env (.bool k) := ev_isi ha hg B.isinstance hg' B.bool bt_bool hi hk (by decide) (by decide) hs he hpl
theorem ev_isT {a : Expr} {p p' : Pos} {k : Bool} (B : Blt X.mg) (ha : EVd X a env d) (hk : kitB (tyOf d) "tuple" = some k) (hi : isD d = true := by rfl) (hg : Gl X "isinstance" := by rfl) (hg' : Gl X "tuple" := by rfl)
    (hs : starEach [.Name "tuple" p'] X.env = (false, eval (.Name "tuple" p') X.env) :: starEach [] X.env := by rfl) (he : starEach (a :: [.Name "tuple" p']) X.env = (false, eval a X.env) :: starEach [.Name "tuple" p'] X.env := by rfl) (hpl : (backTo pos (starEach [.Name "tuple" p'] X.env)).any (·.1) = false := by rfl) :
    EVd X (.Call (.Name "isinstance" p) [a, .Name "tuple" p'] [] pos) env (.bool k) := ev_isi ha hg B.isinstance hg' B.tuple bt_tuple hi hk (by decide) (by decide) hs he hpl
end
section
variable {X : Cx} {env : DEnv} {pos : Pos} {d : D} {e c : Expr} {Z : EndsD} {senv : SEnv}
/-! short words for stores -/
theorem s_set (i : Nat) {x : Str} {pos' : Pos} (nd : X.N.Nodup) (he : EVd X e (vis senv) d) (h : Z.nx (senv.set i (some (.dat d)))) (hi : X.N[i]? = some x := by rfl) (hx : Loc X.env.scope x := by first | exact Or.inl rfl | exact Or.inr rfl) (hs : swapsWith e (some (.Name x pos')) pos.line X.env = pure false := by rfl)
    (hf : X.fn x = true ∨ X.env.scope.names.lookup x = some .local := by first | exact .inl rfl | exact .inr rfl | assumption) : SV X (.Assign [.Name x pos'] e pos) Z senv := sv_set nd hi hx he h hs hf
theorem s_setA (i : Nat) {x : Str} {pos' : Pos} (nd : X.N.Nodup) (he : EVd X e (allE senv) d) (hd : noL d = true) (h : Z.nx (senv.set i (some (.dat d)))) (hi : X.N[i]? = some x := by rfl) (hx : Loc X.env.scope x := by first | exact Or.inl rfl | exact Or.inr rfl) (hs : swapsWith e (some (.Name x pos')) pos.line X.env = pure false := by rfl)
    (hf : X.fn x = true ∨ X.env.scope.names.lookup x = some .local := by first | exact .inl rfl | exact .inr rfl | assumption) : SV X (.Assign [.Name x pos'] e pos) Z senv := sv_setA nd hi hx he hd h hs hf
theorem s_setN (i : Nat) {x : Str} {pos' : Pos} {ds : List D} (nd : X.N.Nodup) (he : EVn X e (allE senv) ds) (hd : noLs ds = true) (h : Z.nx (senv.set i (some (.own (.list ds))))) (hi : X.N[i]? = some x := by rfl) (hx : Loc X.env.scope x := by first | exact Or.inl rfl | exact Or.inr rfl) (hs : swapsWith e (some (.Name x pos')) pos.line X.env = pure false := by rfl)
    (hf : X.fn x = true ∨ X.env.scope.names.lookup x = some .local := by first | exact .inl rfl | exact .inr rfl | assumption) : SV X (.Assign [.Name x pos'] e pos) Z senv := sv_setN nd hi hx he hd h hs hf
theorem t_one (i : Nat) {x : Str} (nd : X.N.Nodup) (hi : X.N[i]? = some x := by rfl) (hx : Loc X.env.scope x := by first | exact Or.inl rfl | exact Or.inr rfl) (hf : X.fn x = true ∨ X.env.scope.names.lookup x = some .local := by first | exact .inl rfl | exact .inr rfl | assumption) : TgtOk X (.Name x pos) (.one i) d := tg_one nd hi hx hf
theorem g_one (i : Nat) {x : Str} (nd : X.N.Nodup) (hi : X.N[i]? = some x := by rfl) (hx : Loc X.env.scope x := by first | exact Or.inl rfl | exact Or.inr rfl) (hf : X.fn x = true ∨ X.env.scope.names.lookup x = some .local := by first | exact .inl rfl | exact .inr rfl | assumption) : ∀ (d : D) (env : DEnv), GV X (.Name x pos) d env (env.set i (some d)) [i] := fun d env => gv_name nd hi hx hf
/-! comprehensions with one name -/
theorem all_map_id {α : Type} (p : α → Bool) : ∀ xs : List α, (xs.map p).all id = xs.all p
  | [] => rfl
  | x :: xs => by rw [List.map_cons, List.all_cons, List.all_cons, all_map_id p xs, id]
theorem any_map_id {α : Type} (p : α → Bool) : ∀ xs : List α, (xs.map p).any id = xs.any p
  | [] => rfl
  | x :: xs => by rw [List.map_cons, List.any_cons, List.any_cons, any_map_id p xs, id]
variable {α : Type} {xs : List α} {enc : α → D} {tg iter elt : Expr} {scope : Scope} {own : List (Str × Nat)}
theorem en_map1 {i : Nat} {x : Str} {px : Pos} (g : α → D) (nd : X.N.Nodup) (ok : BlkOk X.N X.env.scope scope [(x, i)]) (hc : X.calm = true) (hi : IV X (.Name x px) iter env (xs.map enc)) (hz : xs.length ≤ sizeLine) (hg : Blk X scope fun Y => ∀ (d : D) (env : DEnv), GV Y (.Name x px) d env (env.set i (some d)) [i])
    (turn : ∀ a, a ∈ xs → Blk X scope fun Y => EVd Y elt ((wipeE env [i]).set i (some (enc a))) (g a)) (hD : ∀ a, isD (g a) = true) (hf : ∀ x, foldedSetIterable iter X.env x = pure x := by intro _; rfl) : EVn X (.ListComp elt [⟨.Name x px, iter, [], 0⟩] scope pos) env (xs.map g) :=
  en_lcM g hc nd ok hi hz (fun a ha => ⟨_, [i], fun j hj => hj, fun s H C cl fp => hg s H C cl fp _ _, turn a ha, hD a⟩) hf
theorem en_fil1 {i : Nat} {x : Str} {px : Pos} (p : α → Bool) (g : α → D) (nd : X.N.Nodup) (ok : BlkOk X.N X.env.scope scope [(x, i)]) (hc : X.calm = true) (hi : IV X (.Name x px) iter env (xs.map enc)) (hz : xs.length ≤ sizeLine) (hg : Blk X scope fun Y => ∀ (d : D) (env : DEnv), GV Y (.Name x px) d env (env.set i (some d)) [i])
    (test : ∀ a, a ∈ xs → Blk X scope fun Y => EVt Y c ((wipeE env [i]).set i (some (enc a))) (p a)) (turn : ∀ a, a ∈ xs → p a = true → Blk X scope fun Y => EVd Y elt ((wipeE env [i]).set i (some (enc a))) (g a)) (hD : ∀ a, isD (g a) = true)
    (hf : ∀ x, foldedSetIterable iter X.env x = pure x := by intro _; rfl) : EVn X (.ListComp elt [⟨.Name x px, iter, [c], 0⟩] scope pos) env ((xs.filter p).map g) := by
  have h := en_lc (pos := pos) (ifs := [c]) (elt := elt) (fun a => if p a = true then some (g a) else none) hc nd ok hi hz (fun a ha => ⟨(wipeE env [i]).set i (some (enc a)), [i], fun j hj => hj, fun s H C cl fp => hg s H C cl fp _ _, fun s H C cl fp => ets_one (by
    have t := test a ha s H C cl fp
    cases q : p a with
    | true => rw [q] at t; simpa using t
    | false => rw [q] at t; simpa using t), fun y e s H C cl fp => by
      by_cases q : p a = true
      · rw [if_pos q] at e
        cases e
        exact ⟨turn a ha q s H C cl fp, hD a⟩
      · rw [if_neg q] at e
        cases e⟩) hf
  have e1 : ∀ l : List α, l.filterMap (fun a => if p a = true then some (g a) else none) = (l.filter p).map g := fun l => by
    induction l with
    | nil => rfl
    | cons y l ih =>
      rw [List.filterMap_cons, List.filter_cons]
      by_cases q : p y = true
      · rw [if_pos q, if_pos q, List.map_cons, ih]
      · rw [if_neg q, if_neg q, ih]
  rw [e1] at h
  exact h
/-! .. with several names -/
def setE (env : DEnv) : List Nat → List D → DEnv
  | i :: is, d :: ds => setE (env.set i (some d)) is ds
  | _, _ => env
theorem en_mapT {is : List Nat} {elts : List Expr} {kk : Nat} {tp : Pos} {encs : α → List D} (g : α → D) (nd : X.N.Nodup) (ok : BlkOk X.N X.env.scope scope own) (hj : ∀ j ∈ is, j ∈ own.map (·.2)) (hc : X.calm = true) (hi : IV X (.Tuple elts kk tp) iter env (xs.map fun a => .tuple (encs a))) (hz : xs.length ≤ sizeLine)
    (hl : ∀ a, (encs a).length = is.length) (hg : Blk X scope fun Y => ∀ (ds : List D) (env : DEnv), ds.length = is.length → GV Y (.Tuple elts kk tp) (.tuple ds) env (setE env is ds) is)
    (turn : ∀ a, a ∈ xs → Blk X scope fun Y => EVd Y elt (setE (wipeE env (own.map (·.2))) is (encs a)) (g a)) (hD : ∀ a, isD (g a) = true) (hf : ∀ x, foldedSetIterable iter X.env x = pure x := by intro _; rfl) : EVn X (.ListComp elt [⟨.Tuple elts kk tp, iter, [], 0⟩] scope pos) env (xs.map g) :=
  en_lcM g hc nd ok hi hz (fun a ha => ⟨_, is, hj, fun s H C cl fp => hg s H C cl fp _ _ (hl a), turn a ha, hD a⟩) hf
theorem en_filT {is : List Nat} {elts : List Expr} {kk : Nat} {tp : Pos} {encs : α → List D} (p : α → Bool) (g : α → D) (nd : X.N.Nodup) (ok : BlkOk X.N X.env.scope scope own) (hj : ∀ j ∈ is, j ∈ own.map (·.2)) (hc : X.calm = true) (hi : IV X (.Tuple elts kk tp) iter env (xs.map fun a => .tuple (encs a))) (hz : xs.length ≤ sizeLine)
    (hl : ∀ a, (encs a).length = is.length) (hg : Blk X scope fun Y => ∀ (ds : List D) (env : DEnv), ds.length = is.length → GV Y (.Tuple elts kk tp) (.tuple ds) env (setE env is ds) is)
    (test : ∀ a, a ∈ xs → Blk X scope fun Y => EVt Y c (setE (wipeE env (own.map (·.2))) is (encs a)) (p a)) (turn : ∀ a, a ∈ xs → p a = true → Blk X scope fun Y => EVd Y elt (setE (wipeE env (own.map (·.2))) is (encs a)) (g a)) (hD : ∀ a, isD (g a) = true)
    (hf : ∀ x, foldedSetIterable iter X.env x = pure x := by intro _; rfl) : EVn X (.ListComp elt [⟨.Tuple elts kk tp, iter, [c], 0⟩] scope pos) env ((xs.filter p).map g) := by
  have h := en_lc (pos := pos) (ifs := [c]) (elt := elt) (fun a => if p a = true then some (g a) else none) hc nd ok hi hz (fun a ha => ⟨setE (wipeE env (own.map (·.2))) is (encs a), is, hj, fun s H C cl fp => hg s H C cl fp _ _ (hl a), fun s H C cl fp => ets_one (by
    have t := test a ha s H C cl fp
    cases q : p a with
    | true => rw [q] at t; simpa using t
    | false => rw [q] at t; simpa using t), fun y e s H C cl fp => by
      by_cases q : p a = true
      · rw [if_pos q] at e
        cases e
        exact ⟨turn a ha q s H C cl fp, hD a⟩
      · rw [if_neg q] at e
        cases e⟩) hf
  have e1 : ∀ l : List α, l.filterMap (fun a => if p a = true then some (g a) else none) = (l.filter p).map g := fun l => by
    induction l with
    | nil => rfl
    | cons y l ih =>
      rw [List.filterMap_cons, List.filter_cons]
      by_cases q : p y = true
      · rw [if_pos q, if_pos q, List.map_cons, ih]
      · rw [if_neg q, if_neg q, ih]
  rw [e1] at h
  exact h
theorem g_two {i j : Nat} {a b : Expr} {k : Nat} (hc : X.calm = true) (h1 : ∀ (d : D) (env : DEnv), GV X a d env (env.set i (some d)) [i]) (h2 : ∀ (d : D) (env : DEnv), GV X b d env (env.set j (some d)) [j])
    (s1 : (assignEach [a, b] X.env).map (·.2) = assign a X.env :: (assignEach [b] X.env).map (·.2) := by rfl) (s2 : (assignEach [b] X.env).map (·.2) = assign b X.env :: (assignEach [] X.env).map (·.2) := by rfl)
    (hn : (assignEach [a, b] X.env).length = 2 := by rfl) (hst : (assignEach [a, b] X.env).findIdx? (·.1) = none := by rfl) : ∀ (ds : List D) (env : DEnv), ds.length = [i, j].length → GV X (.Tuple [a, b] k pos) (.tuple ds) env (setE env [i, j] ds) [i, j] := fun ds env hl =>
  match ds, hl with
  | [d1, d2], _ => gv_tup hc (gvs_cons (h1 d1 env) (gvs_cons (h2 d2 _) gvs_nil s2) s1) rfl hn hst
theorem g_three {i j l : Nat} {a b c : Expr} {k : Nat} (hc : X.calm = true) (h1 : ∀ (d : D) (env : DEnv), GV X a d env (env.set i (some d)) [i]) (h2 : ∀ (d : D) (env : DEnv), GV X b d env (env.set j (some d)) [j]) (h3 : ∀ (d : D) (env : DEnv), GV X c d env (env.set l (some d)) [l])
    (s1 : (assignEach [a, b, c] X.env).map (·.2) = assign a X.env :: (assignEach [b, c] X.env).map (·.2) := by rfl) (s2 : (assignEach [b, c] X.env).map (·.2) = assign b X.env :: (assignEach [c] X.env).map (·.2) := by rfl) (s3 : (assignEach [c] X.env).map (·.2) = assign c X.env :: (assignEach [] X.env).map (·.2) := by rfl)
    (hn : (assignEach [a, b, c] X.env).length = 3 := by rfl) (hst : (assignEach [a, b, c] X.env).findIdx? (·.1) = none := by rfl) : ∀ (ds : List D) (env : DEnv), ds.length = [i, j, l].length → GV X (.Tuple [a, b, c] k pos) (.tuple ds) env (setE env [i, j, l] ds) [i, j, l] := fun ds env hl =>
  match ds, hl with
  | [d1, d2, d3], _ => gv_tup hc (gvs_cons (h1 d1 env) (gvs_cons (h2 d2 _) (gvs_cons (h3 d3 _) gvs_nil s3) s2) s1) rfl hn hst
/-! all([..]), any([..]) -/
theorem ev_allL {p : Pos} {q : α → Bool} {es : Expr} (B : Blt X.mg) (hc : X.calm = true) (h : EVn X es env (xs.map fun a => .bool (q a))) (hg : Gl X "all" := by rfl) (he : starEach (es :: []) X.env = (false, eval es X.env) :: starEach [] X.env := by rfl) : EVd X (.Call (.Name "all" p) [es] [] pos) env (.bool (xs.all q)) := by
  have e1 : (xs.map fun a => PyData.bool (q a)) = (xs.map q).map PyData.bool := by rw [List.map_map]; rfl
  rw [e1] at h
  have z := ev_all (pos := pos) (p := p) hc h.toD hg B.all he
  rw [all_map_id] at z
  exact z
theorem ev_anyL {p : Pos} {q : α → Bool} {es : Expr} (B : Blt X.mg) (hc : X.calm = true) (h : EVn X es env (xs.map fun a => .bool (q a))) (hg : Gl X "any" := by rfl) (he : starEach (es :: []) X.env = (false, eval es X.env) :: starEach [] X.env := by rfl) : EVd X (.Call (.Name "any" p) [es] [] pos) env (.bool (xs.any q)) := by
  have e1 : (xs.map fun a => PyData.bool (q a)) = (xs.map q).map PyData.bool := by rw [List.map_map]; rfl
  rw [e1] at h
  have z := ev_any (pos := pos) (p := p) hc h.toD hg B.any he
  rw [any_map_id] at z
  exact z
theorem ev_lenT {ds : List D} {p : Pos} {a : Expr} (B : Blt X.mg) (ha : EVd X a env (.tuple ds)) (hg : Gl X "len" := by rfl) (he : starEach (a :: []) X.env = (false, eval a X.env) :: starEach [] X.env := by rfl) : EVd X (.Call (.Name "len" p) [a] [] pos) env (.int ds.length) := ev_len ha hg B.len rfl he
theorem ev_lenL {ds : List D} {p : Pos} {a : Expr} (B : Blt X.mg) (ha : EVd X a env (.list ds)) (hg : Gl X "len" := by rfl) (he : starEach (a :: []) X.env = (false, eval a X.env) :: starEach [] X.env := by rfl) : EVd X (.Call (.Name "len" p) [a] [] pos) env (.int ds.length) := ev_len ha hg B.len rfl he
theorem ev_lenS {z : Str} {p : Pos} {a : Expr} (B : Blt X.mg) (ha : EVd X a env (.str z)) (hz : z.length ≤ sizeLine) (hg : Gl X "len" := by rfl) (he : starEach (a :: []) X.env = (false, eval a X.env) :: starEach [] X.env := by rfl) : EVd X (.Call (.Name "len" p) [a] [] pos) env (.int z.length) := ev_len ha hg B.len (by show (if z.length ≤ sizeLine then some z.length else none) = _; rw [if_pos hz]) he
end
theorem def_mk {P : Program} {w : World} {K : PySem.W.Frag} {mg : Str → Option Value} {base : Heap} {x : Str} {st : Stmt} {k : Nat} {ps : List Str} {spec : List D → D → Prop} (H : Has K mg x st)
    (h : ∀ (kV doc pm : Value) (an : Option Addr) (cdv ct : Value) (us : List Value), us.length = ps.length → bindArgs (PySem.W.fnOf x x (defArgs st) (defBody st) (defScope st) .none kV doc pm an cdv ct) ⟨us, []⟩ = pure (ps.zip us))
    (ok : ∀ f fd, FunD K x x (defArgs st) (defBody st) (defScope st) [] [] f fd → FnOk P w K mg base CX0 k f fd ps (spD K spec)) : DefD P w K mg base x k ps spec := by
  obtain ⟨f, fd, F, hm⟩ := H
  exact ⟨f, fd, hm, F.kp, F.bindsN h, ok f fd F⟩
section
variable {X : Cx} {env : DEnv} {senv : SEnv} {pos p : Pos} {d : D} {a b c e : Expr} {rest : List Expr} {Z : EndsD} {A B' : List Stmt}
theorem ev_SMALL (B : Blt X.mg) (hg : Gl X "SMALL" := by rfl) : EVd X (.Name "SMALL" pos) env (.str smallS) := by
  obtain ⟨t, h⟩ := B.small
  exact ev_gstr hg h ⟨t, rfl⟩
theorem ev_GREAT (B : Blt X.mg) (hg : Gl X "GREAT" := by rfl) : EVd X (.Name "GREAT" pos) env (.str greatS) := by
  obtain ⟨t, h⟩ := B.great
  exact ev_gstr hg h ⟨t, rfl⟩
/-! tests whose answer is known -/
theorem w_orF {k : Bool} (h : EVt X a env false) (h2 : EVw X (.BoolOp .Or (b :: rest) pos) env k) : EVw X (.BoolOp .Or (a :: b :: rest) pos) env k := ew_or h fun _ => h2
theorem w_orT (h : EVt X a env true) : EVw X (.BoolOp .Or (a :: b :: rest) pos) env true := ew_or (l := true) h fun q => nomatch q
theorem w_andT {k : Bool} (h : EVt X a env true) (h2 : EVw X (.BoolOp .And (b :: rest) pos) env k) : EVw X (.BoolOp .And (a :: b :: rest) pos) env k := ew_and h fun _ => h2
theorem w_andF (h : EVt X a env false) : EVw X (.BoolOp .And (a :: b :: rest) pos) env false := ew_and (l := true) h fun q => nomatch q
theorem v_andT {k : Bool} (h : EVd X a env (.bool true)) (h2 : EVd X (.BoolOp .And (b :: rest) pos) env (.bool k)) : EVd X (.BoolOp .And (a :: b :: rest) pos) env (.bool k) := ev_and h fun _ => h2
theorem v_orT (h : EVd X a env (.bool true)) : EVd X (.BoolOp .Or (a :: b :: rest) pos) env (.bool true) := ev_or (l := true) h fun q => nomatch q
theorem v_orF {k : Bool} (h : EVd X a env (.bool false)) (h2 : EVd X (.BoolOp .Or (b :: rest) pos) env (.bool k)) : EVd X (.BoolOp .Or (a :: b :: rest) pos) env (.bool k) := ev_or h fun _ => h2
theorem t_notT (h : EVt X a env true) : EVt X (.UnaryOp .Not a pos) env false := et_not h
theorem t_notF (h : EVt X a env false) : EVt X (.UnaryOp .Not a pos) env true := et_not h
theorem v_notF (h : EVd X a env (.bool false)) : EVd X (.UnaryOp .Not a pos) env (.bool true) := ev_not h
theorem v_notT (h : EVd X a env (.bool true)) : EVd X (.UnaryOp .Not a pos) env (.bool false) := ev_not h
theorem c_eqTI {x y : Int} (ha : EVd X a env (.int x)) (hb : EVd X b env (.int y)) (h : x = y) : EVt X (.Compare a [.Eq] [b] pos) env true := (et_c (ec_eqI ha hb)).is (decide_eq_true h)
theorem c_eqFI {x y : Int} (ha : EVd X a env (.int x)) (hb : EVd X b env (.int y)) (h : ¬ x = y) : EVt X (.Compare a [.Eq] [b] pos) env false := (et_c (ec_eqI ha hb)).is (decide_eq_false h)
theorem c_neFI {x y : Int} (ha : EVd X a env (.int x)) (hb : EVd X b env (.int y)) (h : x = y) : EVt X (.Compare a [.NotEq] [b] pos) env false := (et_c (ec_neI ha hb)).is (by rw [decide_eq_true h]; rfl)
theorem c_neTI {x y : Int} (ha : EVd X a env (.int x)) (hb : EVd X b env (.int y)) (h : ¬ x = y) : EVt X (.Compare a [.NotEq] [b] pos) env true := (et_c (ec_neI ha hb)).is (by rw [decide_eq_false h]; rfl)
theorem c_eqTS {x y : Str} (ha : EVd X a env (.str x)) (hb : EVd X b env (.str y)) (h : x = y) : EVt X (.Compare a [.Eq] [b] pos) env true := (et_c (ec_eqS ha hb)).is (decide_eq_true h)
theorem c_eqFS {x y : Str} (ha : EVd X a env (.str x)) (hb : EVd X b env (.str y)) (h : ¬ x = y) : EVt X (.Compare a [.Eq] [b] pos) env false := (et_c (ec_eqS ha hb)).is (decide_eq_false h)
theorem c_neFS {x y : Str} (ha : EVd X a env (.str x)) (hb : EVd X b env (.str y)) (h : x = y) : EVt X (.Compare a [.NotEq] [b] pos) env false := (et_c (ec_neS ha hb)).is (by rw [decide_eq_true h]; rfl)
theorem c_neTS {x y : Str} (ha : EVd X a env (.str x)) (hb : EVd X b env (.str y)) (h : ¬ x = y) : EVt X (.Compare a [.NotEq] [b] pos) env true := (et_c (ec_neS ha hb)).is (by rw [decide_eq_false h]; rfl)
theorem _root_.DL.EVd.isB {k k' : Bool} (h : EVd X e env (.bool k)) (q : k = k') : EVd X e env (.bool k') := q ▸ h
theorem _root_.DL.EVd.tt {k : Bool} (h : EVd X e env (.bool k)) (he : ∀ whole, isTrue e X.env whole = (do let v ← whole; standAt e.pos; holding [v] (truthy v)) := by intro _; rfl) : EVt X e env k := et_val h he
theorem tE {k : Bool} (h : EVw X e env k) : EVt X e env k := h.t
theorem tV {k : Bool} (h : EVd X e env (.bool k)) (he : ∀ whole, isTrue e X.env whole = (do let v ← whole; standAt e.pos; holding [v] (truthy v)) := by intro _; rfl) : EVt X e env k := et_val h he
theorem bV {k k' : Bool} (h : EVd X e env (.bool k)) (q : k = k') : EVd X e env (.bool k') := q ▸ h
theorem bT {k k' : Bool} (h : EVt X e env k) (q : k = k') : EVt X e env k' := q ▸ h
theorem c_notNF (ha : EVd X a env d) (h : isNon d = true := by rfl) {j pos'} : EVt X (.Compare a [.IsNot] [.Constant .none j pos'] pos) env false := (et_notN ha).is (by rw [h]; rfl)
theorem c_notNT (ha : EVd X a env d) (h : isNon d = false := by rfl) {j pos'} : EVt X (.Compare a [.IsNot] [.Constant .none j pos'] pos) env true := (et_notN ha).is (by rw [h]; rfl)
theorem c_isNT (ha : EVd X a env d) (h : isNon d = true := by rfl) {j pos'} : EVt X (.Compare a [.Is] [.Constant .none j pos'] pos) env true := (et_isN ha).is h
theorem c_isNF (ha : EVd X a env d) (h : isNon d = false := by rfl) {j pos'} : EVt X (.Compare a [.Is] [.Constant .none j pos'] pos) env false := (et_isN ha).is h
theorem v_isNT (ha : EVd X a env d) (h : isNon d = true := by rfl) {j pos'} : EVd X (.Compare a [.Is] [.Constant .none j pos'] pos) env (.bool true) := bV (ev_isN ha) h
theorem v_isNF (ha : EVd X a env d) (h : isNon d = false := by rfl) {j pos'} : EVd X (.Compare a [.Is] [.Constant .none j pos'] pos) env (.bool false) := bV (ev_isN ha) h
theorem sum_nats {α : Type} (q : α → Nat) : ∀ l : List α, (l.map fun p => ((q p : Nat) : Int)).sum = (((l.map q).sum : Nat) : Int)
  | [] => rfl
  | y :: l => by rw [List.map_cons, List.sum_cons, sum_nats q l, List.map_cons, List.sum_cons]; omega
theorem ev_sumN {α : Type} {xs : List α} {q : α → Nat} (B : Blt X.mg) (hc : X.calm = true) (h : EVn X e env (xs.map fun a => .int (q a : Nat))) (hg : Gl X "sum" := by rfl) (he : starEach (e :: []) X.env = (false, eval e X.env) :: starEach [] X.env := by rfl) : EVd X (.Call (.Name "sum" p) [e] [] pos) env (.int ((xs.map q).sum : Nat)) := by
  have e1 : (xs.map fun a => (PyData.int (q a : Nat) : D)) = (xs.map fun a => ((q a : Nat) : Int)).map PyData.int := by rw [List.map_map]; rfl
  rw [e1] at h
  have z := ev_sum (pos := pos) (p := p) hc h.toD hg B.sum he
  rw [sum_nats] at z
  exact z
/-- a test that fails is passed by -/
theorem sv_skip (hc : EVt X c (allE senv) false) (h : Z.nx senv) : SV X (.If c A [] pos) Z senv := sv_if hc (fun q => nomatch q) fun _ => sv_nil h
theorem sv_then (hc : EVt X c (allE senv) true) (h : SVs X A Z senv) : SV X (.If c A B' pos) Z senv := sv_if hc (fun _ => h) fun q => nomatch q
theorem sv_else (hc : EVt X c (allE senv) false) (h : SVs X B' Z senv) : SV X (.If c A B' pos) Z senv := sv_if hc (fun q => nomatch q) fun _ => h
/-- items of a world -/
theorem dq_W {K : PySem.W.Frag} {H : Hp} {v : V} {w : Wd} (h : Dq K H v (W w)) : Dp K H v (encW w) := PlainW.dp h
theorem ev_W (i : Nat) {x : Str} {n : Int} {w : Wd} (he : env[i]? = some (some (W w))) (hd : atI [PyData.tuple (w.cs.map encC), PyData.tuple (w.ts.map encT)] n = some d) {j : Nat} {p1 p2 : Pos} (hN : X.N[i]? = some x := by rfl) (hv : Vis X.env.scope x := by first | exact Or.inl rfl | exact Or.inr (Or.inl rfl) | exact Or.inr (Or.inr rfl))
    (h1 : (x == ("__debug__" : Str)) = false := by decide) (h2 : (x == ("__classdict__" : Str)) = false := by decide) : EVd X (.Subscript (.Name x p1) (.Constant (.int n) j p2) pos) env d :=
  ev_ix ix_tup (ev_var hN hv he h1 h2) ev_int (fun _ _ => rfl) fun v y Hc H c p1 p2 Q q => by
    obtain ⟨p, xs, rfl, h1, h2⟩ := dp_tupI (dq_W p1)
    obtain ⟨v, h3, h4⟩ := atI_dp h2 hd
    exact ⟨p, xs, n, v, rfl, dp_int p2, sqt_sub c h1, h3, q v h4⟩
end
end Tr
set_option Elab.async false
set_option linter.all false
set_option maxRecDepth 100000
set_option maxHeartbeats 1000000
set_option autoImplicit false
namespace Tr
open PySem PySem.Spec PyProof.Rows L2 DL
section
variable {P : Program} {w : World} {K : PySem.W.Frag} {mg : Str → Option Value} {base : Heap}
def spBetween (ds : List D) (r : D) : Prop := ∃ v lo hi : Int, ds = [.int v, .int lo, .int hi] ∧ r = .bool (decide (lo ≤ v) && decide (v ≤ hi))
abbrev N_is_between : List Str := ["value", "low", "high"]
theorem sc_is_between : FnScope N_is_between ["value", "low", "high"] (defScope (top 29)) := ⟨rfl, rfl, rfl, by decide +kernel, rfl, by decide +kernel, by decide +kernel⟩
theorem ok_is_between (B : Blt mg)  (F : Has K mg "is_between" (top 29)) : DefD P w K mg base "is_between" 1 ["value", "low", "high"] spBetween := by
  refine def_mk F (fun _ _ _ _ _ _ us hl => match us, hl with | [_, _, _], _ => rfl) fun f fd F => fn_D F sc_is_between (fun ds d h => ?_) fun cdv A outer s H E ds d h hr => ?_
  · obtain ⟨v, lo, hi, rfl, _⟩ := h
    rfl
  · obtain ⟨v, lo, hi, rfl, rfl⟩ := h
    refine sv_one (sv_ret (v_andT (ev_isI B (ev_v 0 rfl) kb_ii) (v_andT (v_notF (ev_isB B (ev_v 0 rfl) kb_ib)) (ev_one (ev_chain (ev_v 1 rfl) (ev_v 0 rfl) (ev_v 2 rfl))))) ?_)
    rfl
def spSmall (ds : List D) (r : D) : Prop := ∃ (s : Str) (lo hi : Int), s.length ≤ sizeLine ∧ ds = [.str s, .int lo, .int hi] ∧ r = .bool (areSmall s lo hi)
abbrev N_are_small : List Str := ["value", "low", "high", "sign"]
theorem sc_are_small : FnScope N_are_small ["value", "low", "high"] (defScope (top 30)) := ⟨rfl, rfl, rfl, by decide +kernel, rfl, by decide +kernel, by decide +kernel⟩
theorem ok_are_small (B : Blt mg)  (F : Has K mg "are_small" (top 30)) : DefD P w K mg base "are_small" 1 ["value", "low", "high"] spSmall := by
  refine def_mk F (fun _ _ _ _ _ _ us hl => match us, hl with | [_, _, _], _ => rfl) fun f fd F => fn_D F sc_are_small (fun ds d h => ?_) fun cdv A outer s H E ds d h hr => ?_
  · obtain ⟨v, lo, hi, _, rfl, _⟩ := h
    rfl
  · obtain ⟨v, lo, hi, hz, rfl, rfl⟩ := h
    refine sv_one (sv_ret (v_andT (ev_isS B (ev_v 0 rfl) kb_ss) (ev_and (ev_chain (ev_v 1 rfl) (ev_lenS B (ev_v 0 rfl) hz) (ev_v 2 rfl)) fun _ => ev_one (ev_allL B rfl (q := fun k => decide (k ∈ signs smallS)) (en_map1 (i := 3) (fun k => .bool (decide (k ∈ signs smallS))) sc_are_small.nd (blkOk_by (N := N_are_small) (sc := defScope (top 30)) (by decide +kernel)) rfl (iv_str (ev_v 0 rfl)) (Nat.le_trans (by simp [Str.length]) hz) (fun _ _ _ _ _ => g_one 3 sc_are_small.nd)
      (fun k _ _ _ _ _ _ => ev_c (ec_in1 (ev_v 3 rfl) (ev_SMALL B))) (fun _ => rfl))))) ?_)
    rfl
def spCtor (ds : List D) (r : D) : Prop := ∃ c : Str × Nat, okC c = true ∧ ds = [encC c] ∧ r = .bool true
abbrev N_is_constructor : List Str := ["value"]
theorem sc_is_constructor : FnScope N_is_constructor ["value"] (defScope (top 31)) := ⟨rfl, rfl, rfl, by decide +kernel, rfl, by decide +kernel, by decide +kernel⟩
theorem ok_is_constructor (B : Blt mg) (D1 : DefD P w K mg base "are_small" 1 ["value", "low", "high"] spSmall) (D2 : DefD P w K mg base "is_between" 1 ["value", "low", "high"] spBetween) (F : Has K mg "is_constructor" (top 31)) : DefD P w K mg base "is_constructor" 2 ["value"] spCtor := by
  refine def_mk F (fun _ _ _ _ _ _ us hl => match us, hl with | [_], _ => rfl) fun f fd F => fn_D F sc_is_constructor (fun ds d h => ?_) fun cdv A outer s H E ds d h hr => ?_
  · obtain ⟨c, _, rfl, _⟩ := h
    rfl
  · obtain ⟨⟨n, k⟩, ok, rfl, rfl⟩ := h
    have ok1 : (((((match signs n with
      | [] => false
      | k :: _ => decide (k ∈ signs greatS)) && areSmall (cutS n (some 1) none) 0 5) && decide (k ≤ 2)) && !decide (n = "")) && decide (n.length ≤ sizeLine)) = true := ok
    simp only [Bool.and_eq_true] at ok1
    obtain ⟨⟨⟨⟨o1, o2⟩, o3⟩, o4⟩, o5⟩ := ok1
    have o3 := of_decide_eq_true o3
    have o5 := of_decide_eq_true o5
    have o4 : decide (n = "") = false := by
      cases q : decide (n = "") with
      | false => rfl
      | true => rw [q] at o4; cases o4
    cases e : signs n with
    | nil => rw [e] at o1; cases o1
    | cons c0 cr =>
      rw [e] at o1
      have o1 : decide (c0 ∈ signs greatS) = true := o1
      have hat : atI n.cps.toList 0 = some c0 := atI_nat (j := 0) (by show (signs n)[0]? = some c0; rw [e]; rfl)
      have vv : ∀ env0 : DEnv, env0[0]? = some (some (encC (n, k))) → True := fun _ _ => trivial
      refine sv_cons (sv_skip (tE (w_orF (t_notT (tV (ev_isT B (ev_v 0 rfl) kb_tt))) (w_orF (c_neFI (ev_lenT B (ev_v 0 rfl)) ev_int rfl) (w_orF (t_notT (tV (ev_isS B (ev_ixT (ev_v 0 rfl) ev_int rfl) kb_ss))) (ew_or1 (c_eqFS (ev_ixT (ev_v 0 rfl) ev_int rfl) ev_str (of_decide_eq_false o4))))))) ?_)
      refine sv_one (sv_ret (v_andT (bV (ev_c (ec_in1 (ev_ixS (ev_ixT (ev_v 0 rfl) ev_int rfl) ev_int o5 hat) (ev_GREAT B))) o1) (v_andT (ev_call D1 (hr.mono (by decide)) rfl (eq_cons (ev_slS (ev_ixT (ev_v 0 rfl) ev_int rfl) (eo_some ev_int) eo_none o5) (eq_cons ev_int (eq_cons ev_int eq_nil))) ⟨_, 0, 5, ?_, rfl, by rw [o2]⟩)
        (ev_one (ev_call D2 (hr.mono (by decide)) rfl (eq_cons (ev_ixT (ev_v 0 rfl) ev_int rfl) (eq_cons ev_int (eq_cons ev_int eq_nil))) ⟨_, 0, 2, rfl, rfl⟩)))) ?_)
      · exact Nat.le_trans (cutS_length _ _ _) o5
      · have h1 : decide ((0 : Int) ≤ (k : Int)) = true := decide_eq_true (Int.natCast_nonneg k)
        have h2 : decide ((k : Int) ≤ 2) = true := decide_eq_true (by omega)
        rw [h1, h2]
        rfl
end
end Tr
set_option Elab.async false
set_option linter.all false
set_option maxRecDepth 100000
set_option maxHeartbeats 1000000
set_option autoImplicit false
/-! DZ: enumerate of a tuple, zip of a tuple and a list -/
namespace PySem
theorem enumT_meets {v : Value} {o : Obj} {H : Heap → Prop} (B : Begins v o H) :
    Meets (Builtin.«enumerate.__new__» ⟨[.type "enumerate", v], []⟩) (fun _ R s => H s.heap ∧
      R (.ok (.ret (.ref (s.heap.push o).objs.size))) { s with heap := (s.heap.push o).push { cls := .type "enumerate", data := .fields #[.none, .bool false, .ref s.heap.objs.size, rawInt 0, .none, .none] } }) :=
  .of_wp fun prog w A R s h => by
    obtain ⟨hp, g, d, tk, os⟩ := s; obtain ⟨h1, h⟩ := h
    have hsub := sub_enumerate
    have q1 : ∀ {A' : Around} {E : Value → Shared → Prop} {Q : Value → Shared → Prop}, Q (.ref hp.objs.size) ⟨hp.push o, g, d, tk, os⟩ → wpAny (model prog w) A' (pyIter v) Q E ⟨hp, g, d, tk, os⟩ :=
      fun q => B.iter prog w _ _ ⟨hp, g, d, tk, os⟩ _ h1 q
    wp_walk using q1
    refine wpAny_stack_any fun st => wpAny_pure ?_
    split
    · rename_i c _ _ _ _ _
      cases (c == Value.type "enumerate")
      · wp_walk using q1
        exact ⟨_, rfl, h⟩
      · wp_walk using q1
        exact ⟨_, rfl, h⟩
    · wp_walk using q1
      exact ⟨_, rfl, h⟩
theorem enumT_begins {prog : Program} {w : World} {A : Around} {E : Value → Shared → Prop} {s : Shared} {v : Value} {o : Obj} {H : Heap → Prop} {Q : Value → Shared → Prop} (B : Begins v o H) (h1 : H s.heap)
    (h : ∀ h', IsEnum h' (s.heap.objs.size + 1) s.heap.objs.size 0 .none → h'.get? s.heap.objs.size = some o → h'.objs.size = s.heap.objs.size + 2 →
      (∀ b o, s.heap.get? b = some o → h'.get? b = some o) → Q (.ref (s.heap.objs.size + 1)) { s with heap := h' }) :
    wpAny (model prog w) A (call (.type "enumerate") [v]) Q E s := by
  refine callType_new F.called_enumerate (by decide) (F.typeCall_enumerate_1 _) (F.newCall_enumerate_1 _) (fun obj => F.args_object_init_2 obj _) F.entry_enumerate_new
    (enumT_meets B) ⟨h1, ?_⟩
  have hz : (s.heap.push o).objs.size = s.heap.objs.size + 1 := Heap.size_push ..
  show _ ∧ _
  rw [hz]
  have he : IsEnum ((s.heap.push o).push { cls := .type "enumerate", data := .fields #[.none, .bool false, .ref s.heap.objs.size, rawInt 0, .none, .none] }) (s.heap.objs.size + 1) s.heap.objs.size 0 .none := by
    have := Heap.get?_push_size (s.heap.push o) (o := { cls := .type "enumerate", data := .fields #[.none, .bool false, .ref s.heap.objs.size, rawInt 0, .none, .none] }) rfl
    rw [hz] at this; exact this
  refine ⟨⟨_, he, rfl⟩, h _ he (Heap.get?_push_of_some _ (Heap.get?_push_size _ B.free)) (by rw [Heap.size_push, hz]) fun b o x => Heap.get?_push_of_some _ (Heap.get?_push_of_some _ x)⟩
end PySem
namespace DL
open PySem PySem.Spec PyProof.Rows L2
def IteT (K : PySem.W.Frag) (a : Addr) : It :=
  ⟨fun i H => ∃ (xs : List V) (x : V), SqT K H a xs ∧ xs[i]? = some x, fun i H v H' => ∃ T x, v = .ref T ∧ H T = none ∧ H' = upd H T (.tup [.int (i : Nat), x]) ∧ ∀ xs, SqT K H a xs → xs[i]? = some x, fun i H => ∃ xs : List V, SqT K H a xs ∧ xs.length = i⟩
theorem turn_enumT {P : Program} {w : World} {K : PySem.W.Frag} {elts : List Expr} {kk : Nat} {tpos : Pos} (a e it : Addr) :
    Turn P w K (.Tuple elts kk tpos) (IteT K a) [e, it] e (fun i h => (∃ old, IsEnum h e it ((i : Nat) : Int) old) ∧ h.IsTupleIter it a i ∧ e ≠ it ∧ a ≠ it ∧ a ≠ e) where
  mem := by simp
  obj := fun i h st b hb => by
    obtain ⟨⟨old, he⟩, ⟨o, ho, hc, hd⟩, _⟩ := st
    have e' : b = e ∨ b = it := by simpa using hb
    rcases e' with z | z
    · rw [z]; exact ⟨_, he, fun v q => nomatch q⟩
    · rw [z]; exact ⟨o, ho, fun v q => by rw [hd] at q; cases q⟩
  keep := fun i h h' st k => let ⟨⟨old, he⟩, hi, hne⟩ := st; ⟨⟨old, k e (by simp) _ he⟩, hi.at fun o q => k it (by simp) o q, hne⟩
  item := by
    intro X hP hw hK hc i pins s σ H E I hf st hg
    subst hP hw hK
    obtain ⟨⟨old, he⟩, hit, hne, hai, hae⟩ := st
    obtain ⟨xs, x, hq, hx⟩ := hg
    obtain ⟨its, rv, p, hz⟩ := I.tuple hq
    obtain ⟨u, hu, ru⟩ := rv.get hx
    have hel : e < s.heap.objs.size := Heap.lt_size he
    have hil : it < s.heap.objs.size := by obtain ⟨_, q, _⟩ := hit; exact Heap.lt_size q
    have D := Draws.tuple (prog := X.prog) (w := X.w) (A := X.A.in1) (I.ok.hd hc) it a hai its.toArray
    have hlt : i < its.toArray.size := by
      have := (List.getElem?_eq_some_iff.mp hu).1
      simpa using this
    refine wpAny_pyNext_enum_itemD D he ⟨hit, p⟩ hlt hne (by simp; exact ⟨hne, Ne.symm hae⟩) fun x1 h' tk hP1 ho st' hT hsz hk => ?_
    have ex : x1 = u := by
      have hu2 : its.toArray[i]? = some u := by simpa using hu
      rw [hP1] at hu2
      exact Option.some.inj hu2
    subst ex
    refine ⟨_, rfl, wpAny_letOwnedTupleGo_enum (s := { s with heap := h', toks := tk + 1 }) ho fun h'' he' sb => ?_⟩
    have hT2 : h''.get? s.heap.objs.size = some { cls := .type "tuple", data := .seq #[.int i tk, x1] } := (sb.2 _ (Nat.ne_of_gt hel)).trans hT
    have new : ObjOk X.prog X.w (upd H s.heap.objs.size (.tup [.int (i : Nat), x])) h'' s.heap.objs.size (.tup [.int (i : Nat), x]) :=
      ⟨by show 2 ≤ sizeLine; decide, [.int i tk, x1], .cons ⟨_, rfl⟩ (.cons ru .nil), ⟨_, hT2, rfl, _, rfl⟩⟩
    have I1 : Inv X pins σ (upd H s.heap.objs.size (.tup [.int (i : Nat), x])) { s with heap := h'', toks := tk + 1 } :=
      I.turnedNew (ch := [e, it]) (fun b ob hb q => (sb.2 b (fun z => hb (by simp [z]))).trans (hk b ob (fun z => hb (by simp [z])) (fun z => hb (by simp [z])) q)) hf (Nat.le_refl _) new
    refine ⟨.ref s.heap.objs.size, _, I1, rfl, ⟨_, x, rfl, I.hok.fresh (Nat.le_refl _), rfl, fun ys hy => by rw [I.tuple_inj hy hq]; exact hx⟩, ⟨⟨x1, ?_⟩, st'.1.at fun o q => (sb.2 it (Ne.symm hne)).trans q, hne, hai, hae⟩, fun b hb => ?_⟩
    · have e1 : ((i + 1 : Nat) : Int) = (i : Int) + 1 := by omega
      rw [e1]; exact he'
    · have hb' : b < s.heap.objs.size := by
        have e' : b = e ∨ b = it := by simpa using hb
        rcases e' with z | z
        · rw [z]; exact hel
        · rw [z]; exact hil
      rw [upd_ne (Nat.ne_of_lt hb')]
      exact (hf b hb).1
  done := by
    intro X hP hw hK hc i pins s σ H E I hf st hg
    subst hP hw hK
    obtain ⟨⟨old, he⟩, hit, hne, hai, hae⟩ := st
    obtain ⟨xs, hq, hx⟩ := hg
    obtain ⟨its, rv, p, hz⟩ := I.tuple hq
    obtain ⟨f0, f1, f2, f3, f4, f5⟩ := hf it (by simp)
    have hl := rv.length
    have D := Draws.tuple (prog := X.prog) (w := X.w) (A := X.A.in1) (I.ok.hd hc) it a hai its.toArray
    have e1 : its.toArray.size = i := by simp; omega
    rw [e1] at D
    exact wpAny_pyNext_enum_endD D he ⟨hit, p⟩ fun h' eb => ⟨rfl, I.turned (t' := s.toks) (fun b o hb q => eb b o hb q) f0 f1 f3 f4 f5⟩
  self := fun A i s Q E st h => let ⟨⟨_, he⟩, _⟩ := st; wpAny_pyIter_enum he h
def iEnumT (K : PySem.W.Frag) (ta : TA) : TI := fun σ H R => ta σ H fun vs H1 => ∃ a xs, vs = [.ref a] ∧ SqT K H1 a xs ∧ R (IteT K a) H1
theorem pi_enumT {X : Cx} {e : Expr} {ta : TA} {p pos tpos : Pos} {elts : List Expr} {kk : Nat} (hg : Gl X "enumerate") (hm : X.mg "enumerate" = none) (ha : PA X [e] ta) (hs : starEach [e] X.env = [(false, eval e X.env)] := by rfl) :
    PI X (.Tuple elts kk tpos) (.Call (.Name "enumerate" p) [e] [] pos) (iEnumT X.K ta) := by
  refine ⟨fun pins s σ H R I h => ?_⟩
  refine Call_ (ld_blt I hg hm boot_enumerate (PyProof.Rows.callWith_type1 (thn (ha.run pos pins s σ H _ I h) fun us s1 ⟨vs, H1, I1, r1, q1⟩ => ?_) hs rfl))
  obtain ⟨a, xs, ex, hq, q⟩ := q1
  subst ex
  cases r1 with
  | cons r rr =>
    cases rr
    cases r
    obtain ⟨its, rv, p', hz⟩ := I1.tuple hq
    obtain ⟨oa, hoa, _⟩ := id p'
    have hal : a < s1.heap.objs.size := Heap.lt_size hoa
    refine enumT_begins (begins_tuple a its.toArray) p' fun h' he hit hsz hk => wpAny_pyIter_enum he ?_
    have I2 : Inv X pins σ H1 { s1 with heap := h' } := I1.kept (t' := s1.toks) hk
    refine ⟨s1.heap.objs.size + 1, [s1.heap.objs.size + 1, s1.heap.objs.size], _, _, H1, rfl, I2, turn_enumT a (s1.heap.objs.size + 1) s1.heap.objs.size, ⟨⟨.none, he⟩, ⟨_, hit, rfl, rfl⟩, Nat.succ_ne_self _, Nat.ne_of_lt hal, Nat.ne_of_lt (Nat.lt_succ_of_lt hal)⟩, fun b hb => ?_, q⟩
    have e' : b = s1.heap.objs.size + 1 ∨ b = s1.heap.objs.size := by simpa using hb
    have hle : s1.heap.objs.size ≤ b := by
      rcases e' with z | z
      · rw [z]; exact Nat.le_add_right _ _
      · rw [z]; exact Nat.le_refl _
    exact I1.fpOk hle (I1.hok.fresh hle)
theorem walk_enumT {K : PySem.W.Frag} {a : Addr} {xs : List V} : Walk (IteT K a) xs.length (fun H => SqT K H a xs) (YPair (fun i => some (.int (i : Nat))) (fun i => xs[i]?)) := by
  refine ⟨fun i H hi hs => ?_, fun H hs => ?_, fun i H x H' hi hs y => ?_⟩
  · exact ⟨xs, _, hs, List.getElem?_eq_getElem hi⟩
  · exact ⟨xs, hs, rfl⟩
  · obtain ⟨T, x', rfl, nT, rfl, f⟩ := y
    exact ⟨T, _, x', rfl, nT, rfl, rfl, f xs hs⟩
section
variable {X : Cx} {e e2 : Expr} {env : DEnv} {pos : Pos} {d : D} {ds ds2 : List D}
theorem iv_enumT {p tpos : Pos} {elts : List Expr} {kk : Nat} (h1 : EVd X e env (.tuple ds)) (hg : Gl X "enumerate") (hm : X.mg "enumerate" = none) (hs : starEach [e] X.env = [(false, eval e X.env)] := by rfl) :
    IV X (.Tuple elts kk tpos) (.Call (.Name "enumerate" p) [e] [] pos) env (enumD ds) := fun Hc σ H hd R r => wi_of (pi_enumT hg hm pa_w hs) ((ea_cons h1 ea_nil rfl hs) Hc σ H hd _ fun vs Hc1 H1 g q => by
  cases q with
  | cons q t =>
    cases t
    obtain ⟨a, xs, rfl, k1, k2⟩ := dp_tupI q
    refine ⟨a, xs, rfl, sqt_sub g.cor k1, r _ Hc1 H1 g ?_⟩
    rw [enumD_len, ← k2.len]
    refine (walk_enumT (K := X.K) (a := a) (xs := xs)).mono (fun H2 s2 => seqT_same s2 k1) fun i H2 x H3 hi _ y => yc_pair y fun Hc2 s x y ex ey => ?_
    obtain ⟨d, m1, m2⟩ := k2.get' ey
    cases ex
    exact ⟨_, d, enumD_get m1, .int _, m2.same s⟩)
end
/-! ### zip of a tuple and a list -/
def ItzM (K : PySem.W.Frag) (a b : Addr) : It :=
  ⟨fun i H => ∃ (xs ys : List V) (x y : V), SqT K H a xs ∧ SqL K H b ys ∧ xs[i]? = some x ∧ ys[i]? = some y,
    fun i H v H' => ∃ T x y, v = .ref T ∧ H T = none ∧ H' = upd H T (.tup [x, y]) ∧ (∀ xs, SqT K H a xs → xs[i]? = some x) ∧ ∀ ys, SqL K H b ys → ys[i]? = some y,
    fun i H => ∃ xs ys : List V, SqT K H a xs ∧ SqL K H b ys ∧ i ≤ xs.length ∧ i ≤ ys.length ∧ (i = xs.length ∨ i = ys.length)⟩
theorem turn_zipM {P : Program} {w : World} {K : PySem.W.Frag} {elts : List Expr} {kk : Nat} {tpos : Pos} {a b z TI TO i1 i2 : Addr} (S : ZipSep2 z TI TO i1 i2 [i1, a] [i2, b]) :
    Turn P w K (.Tuple elts kk tpos) (ItzM K a b) [z, TI, TO, i1, i2] z (fun i h => IsZip h z TI TO .none ∧ IsPair h TI (.ref i1) (.ref i2) ∧ (∃ x y, IsPair h TO x y) ∧ h.IsTupleIter i1 a i ∧ h.IsListIter i2 b i) where
  mem := by simp
  obj := fun i h st c hc => by
    obtain ⟨hz, hTI, ⟨x, y, hTO⟩, ⟨o1, e1, _, d1⟩, ⟨o2, e2, _, d2⟩⟩ := st
    have e' : c = z ∨ c = TI ∨ c = TO ∨ c = i1 ∨ c = i2 := by simpa using hc
    rcases e' with q | q | q | q | q
    · rw [q]; exact ⟨_, hz, fun v q => nomatch q⟩
    · rw [q]; exact ⟨_, hTI, fun v q => nomatch q⟩
    · rw [q]; exact ⟨_, hTO, fun v q => nomatch q⟩
    · rw [q]; exact ⟨o1, e1, fun v q => by rw [d1] at q; cases q⟩
    · rw [q]; exact ⟨o2, e2, fun v q => by rw [d2] at q; cases q⟩
  keep := fun i h h' st k => by
    obtain ⟨hz, hTI, ⟨x, y, hTO⟩, h1, h2⟩ := st
    exact ⟨k z (by simp) _ hz, k TI (by simp) _ hTI, ⟨x, y, k TO (by simp) _ hTO⟩, h1.at fun o q => k i1 (by simp) o q, h2.at fun o q => k i2 (by simp) o q⟩
  item := by
    intro X hP hw hK hc i pins s σ H E I hf st hg
    subst hP hw hK
    obtain ⟨hz, hTI, ⟨x0, y0, hTO⟩, h1, h2⟩ := st
    obtain ⟨xs, ys, x, y, hqx, hqy, hx, hy⟩ := hg
    obtain ⟨its, rv, p, _⟩ := I.tuple hqx
    obtain ⟨its2, rv2, p2, _⟩ := I.list hqy
    obtain ⟨u, hu, ru⟩ := rv.get hx
    obtain ⟨u2, hu2, ru2⟩ := rv2.get hy
    have hzl : z < s.heap.objs.size := Heap.lt_size hz
    have n1 : a ≠ i1 := fun q => by
      subst q
      obtain ⟨o1, e1, c1, _⟩ := id h1
      obtain ⟨o2, e2, c2, _⟩ := p
      rw [e1] at e2
      cases e2
      rw [c1] at c2
      exact absurd (Value.type.inj c2) (by decide)
    have n2 : b ≠ i2 := fun q => by
      subst q
      obtain ⟨o1, e1, c1, _⟩ := id h2
      obtain ⟨o2, e2, c2, _⟩ := p2.isList
      rw [e1] at e2
      cases e2
      rw [c1] at c2
      exact absurd (Value.type.inj c2) (by decide)
    have D1 := Draws.tuple (prog := X.prog) (w := X.w) (A := X.A.in1) (I.ok.hd hc) i1 a n1 its.toArray
    have D2 := Draws.list (prog := X.prog) (w := X.w) (A := X.A.in1) (I.ok.hd hc) i2 b n2 its2.toArray
    have lt1 : i < its.toArray.size := by simpa using (List.getElem?_eq_some_iff.mp hu).1
    have lt2 : i < its2.toArray.size := by simpa using (List.getElem?_eq_some_iff.mp hu2).1
    refine wpAny_pyNext_zipD2_item S D1 D2 hz hTI hTO ⟨h1, p⟩ ⟨h2, p2.isList⟩ lt1 lt2 fun x1 x2 h' tk y1 y2 z' TO' s1' s2' hT hsz hk => ?_
    have ex : x1 = u := by
      have q : its.toArray[i]? = some u := by simpa using hu
      rw [y1] at q
      exact Option.some.inj q
    have ey : x2 = u2 := by
      have q : its2.toArray[i]? = some u2 := by simpa using hu2
      rw [y2] at q
      exact Option.some.inj q
    subst ex ey
    refine ⟨_, rfl, wpAny_letOwnedTupleGo_zip (s := { s with heap := h', toks := tk }) z' fun h'' z'' sb => ?_⟩
    have hT2 : h''.get? s.heap.objs.size = some { cls := .type "tuple", data := .seq #[x1, x2] } := (sb.2 _ (Nat.ne_of_gt hzl)).trans hT
    have new : ObjOk X.prog X.w (upd H s.heap.objs.size (.tup [x, y])) h'' s.heap.objs.size (.tup [x, y]) :=
      ⟨by show 2 ≤ sizeLine; decide, [x1, x2], .cons ru (.cons ru2 .nil), ⟨_, hT2, rfl, _, rfl⟩⟩
    have I1 : Inv X pins σ (upd H s.heap.objs.size (.tup [x, y])) { s with heap := h'', toks := tk } :=
      I.turnedNew (t' := tk) (ch := [z, TI, TO, i1, i2]) (fun c o hb q => (sb.2 c (fun q' => hb (by simp [q']))).trans (hk c o (fun q' => hb (by simp [q'])) (fun q' => hb (by simp [q'])) (fun q' => hb (by simp [q'])) (fun q' => hb (by simp [q'])) q)) hf (Nat.le_refl _) new
    refine ⟨.ref s.heap.objs.size, _, I1, rfl, ⟨_, x, y, rfl, I.hok.fresh (Nat.le_refl _), rfl, fun l hl => by rw [I.tuple_inj hl hqx]; exact hx, fun l hl => by rw [I.list_inj hl hqy]; exact hy⟩, ⟨z'', ?_, ⟨x1, x2, ?_⟩, ?_, ?_⟩, fun c hcm => ?_⟩
    · exact (sb.2 _ S.TIz).trans (hk _ _ S.TIz S.TITO S.TIi1 S.TIi2 hTI)
    · exact (sb.2 _ S.TOz).trans TO'
    · exact s1'.1.at fun o q => (sb.2 _ (Ne.symm S.zi1)).trans q
    · exact s2'.1.at fun o q => (sb.2 _ (Ne.symm S.zi2)).trans q
    · have hlt : c < s.heap.objs.size := by
        have e' : c = z ∨ c = TI ∨ c = TO ∨ c = i1 ∨ c = i2 := by simpa using hcm
        rcases e' with q | q | q | q | q
        · rw [q]; exact hzl
        · rw [q]; exact Heap.lt_size hTI
        · rw [q]; exact Heap.lt_size hTO
        · rw [q]; obtain ⟨_, e1, _⟩ := h1; exact Heap.lt_size e1
        · rw [q]; obtain ⟨_, e2, _⟩ := h2; exact Heap.lt_size e2
      rw [upd_ne (Nat.ne_of_lt hlt)]
      exact (hf c hcm).1
  done := by
    intro X hP hw hK hc i pins s σ H E I hf st hg
    subst hP hw hK
    obtain ⟨hz, hTI, ⟨x0, y0, hTO⟩, h1, h2⟩ := st
    obtain ⟨xs, ys, hqx, hqy, le1, le2, hend⟩ := hg
    obtain ⟨its, rv, p, _⟩ := I.tuple hqx
    obtain ⟨its2, rv2, p2, _⟩ := I.list hqy
    have l1 := rv.length
    have l2 := rv2.length
    have n1 : a ≠ i1 := fun q => by
      subst q
      obtain ⟨o1, e1, c1, _⟩ := id h1
      obtain ⟨o2, e2, c2, _⟩ := p
      rw [e1] at e2
      cases e2
      rw [c1] at c2
      exact absurd (Value.type.inj c2) (by decide)
    have n2 : b ≠ i2 := fun q => by
      subst q
      obtain ⟨o1, e1, c1, _⟩ := id h2
      obtain ⟨o2, e2, c2, _⟩ := p2.isList
      rw [e1] at e2
      cases e2
      rw [c1] at c2
      exact absurd (Value.type.inj c2) (by decide)
    have D1 := Draws.tuple (prog := X.prog) (w := X.w) (A := X.A.in1) (I.ok.hd hc) i1 a n1 its.toArray
    have D2 := Draws.list (prog := X.prog) (w := X.w) (A := X.A.in1) (I.ok.hd hc) i2 b n2 its2.toArray
    exact wpAny_pyNext_zipD2_end S D1 D2 hz hTI hTO ⟨h1, p⟩ ⟨h2, p2.isList⟩ (by simp; omega) (by simp; omega) (by simp; omega) fun h' tk hk => ⟨rfl, I.turnedL (t' := tk) (ch := [z, TI, TO, i1, i2]) (fun c o hb q =>
      hk c o (fun q' => hb (by simp [q'])) (fun q' => hb (by simp [q'])) (fun q' => hb (by simp [q'])) (fun q' => hb (by simp [q'])) q) hf⟩
  self := fun A i s Q E st h => wpAny_pyIter_zip st.1 h
def iZipM (K : PySem.W.Frag) (ta : TA) : TI := fun σ H R => ta σ H fun vs H1 => ∃ a b xs ys, vs = [.ref a, .ref b] ∧ SqT K H1 a xs ∧ SqL K H1 b ys ∧ R (ItzM K a b) H1
theorem pi_zipM {X : Cx} {e e2 : Expr} {ta : TA} {p pos tpos : Pos} {elts : List Expr} {kk : Nat} (hg : Gl X "zip") (hm : X.mg "zip" = none) (ha : PA X [e, e2] ta)
    (hs : starEach [e, e2] X.env = (false, eval e X.env) :: starEach [e2] X.env := by rfl) (hpl : (backTo pos (starEach [e2] X.env)).any (·.1) = false := by rfl) :
    PI X (.Tuple elts kk tpos) (.Call (.Name "zip" p) [e, e2] [] pos) (iZipM X.K ta) := by
  refine ⟨fun pins s σ H R I h => ?_⟩
  refine Call_ (ld_blt I hg hm PyProof.Rows.boot_zip (PyProof.Rows.callWith_type1 (thn (ha.run pos pins s σ H _ I h) fun us s1 ⟨vs, H1, I1, r1, q1⟩ => ?_) hs hpl))
  obtain ⟨a, b, xs, ys, ex, hqx, hqy, q⟩ := q1
  subst ex
  cases r1 with
  | cons r rr =>
    cases rr with
    | cons r' rr =>
      cases rr
      cases r
      cases r'
      obtain ⟨its, rv, p1, _⟩ := I1.tuple hqx
      obtain ⟨its2, rv2, p2, _⟩ := I1.list hqy
      obtain ⟨oa, hoa, _⟩ := id p1
      have la : a < s1.heap.objs.size := Heap.lt_size hoa
      have lb : b < s1.heap.objs.size := p2.lt
      refine zip_begins2 (begins_tuple a its.toArray) (begins_list b its2.toArray) p1 p2.isList fun h' hz hTI hTO h1 h2 hsz hk => wpAny_pyIter_zip hz ?_
      have I2 : Inv X pins σ H1 { s1 with heap := h' } := I1.kept (t' := s1.toks) hk
      refine ⟨s1.heap.objs.size + 4, [s1.heap.objs.size + 4, s1.heap.objs.size + 2, s1.heap.objs.size + 3, s1.heap.objs.size, s1.heap.objs.size + 1], _, _, H1, rfl, I2, turn_zipM (zip_sep2 (fp1 := [a]) (fp2 := [b]) (fun c hc => by
        rw [List.mem_singleton.mp hc]; exact la) (fun c hc => by
        rw [List.mem_singleton.mp hc]; exact lb)), ⟨hz, hTI, ⟨_, _, hTO⟩, ⟨_, h1, rfl, rfl⟩, ⟨_, h2, rfl, rfl⟩⟩, fun c hcm => ?_, q⟩
      have e' : c = s1.heap.objs.size + 4 ∨ c = s1.heap.objs.size + 2 ∨ c = s1.heap.objs.size + 3 ∨ c = s1.heap.objs.size ∨ c = s1.heap.objs.size + 1 := by simpa using hcm
      have hle : s1.heap.objs.size ≤ c := by
        rcases e' with z | z | z | z | z
        · rw [z]; exact Nat.le_add_right _ _
        · rw [z]; exact Nat.le_add_right _ _
        · rw [z]; exact Nat.le_add_right _ _
        · rw [z]; exact Nat.le_refl _
        · rw [z]; exact Nat.le_add_right _ _
      exact I1.fpOk hle (I1.hok.fresh hle)
section
variable {X : Cx} {e e2 : Expr} {env : DEnv} {pos : Pos} {d : D} {ds ds2 : List D}
theorem iv_zipM {p tpos : Pos} {elts : List Expr} {kk : Nat} (h1 : EVd X e env (.tuple ds)) (h2 : EVd X e2 env (.list ds2)) (hg : Gl X "zip") (hm : X.mg "zip" = none)
    (hs2 : starEach [e2] X.env = (false, eval e2 X.env) :: starEach [] X.env := by rfl) (hs : starEach [e, e2] X.env = (false, eval e X.env) :: starEach [e2] X.env := by rfl) (hpl : (backTo pos (starEach [e2] X.env)).any (·.1) = false := by rfl) :
    IV X (.Tuple elts kk tpos) (.Call (.Name "zip" p) [e, e2] [] pos) env (zipD ds ds2) := fun Hc σ H hd R r => wi_of (pi_zipM hg hm pa_w hs hpl) ((ea_cons h1 (ea_cons h2 ea_nil rfl hs2) rfl hs) Hc σ H hd _ fun vs Hc1 H1 g q => by
  cases q with
  | cons q t =>
    cases t with
    | cons q2 t =>
      cases t
      obtain ⟨a, xs, rfl, k1, k2⟩ := dp_tupI q
      obtain ⟨b, ys, rfl, k3, k4⟩ := dp_lstI q2
      refine ⟨a, b, xs, ys, rfl, sqt_sub g.cor k1, sql_sub g.cor k3, r _ Hc1 H1 g ?_⟩
      have hl1 := k2.len
      have hl2 := k4.len
      rw [zipD_len]
      refine ⟨fun i H2 hi s2 => ?_, fun H2 s2 => ⟨xs, ys, seqT_same s2 k1, s2.seq k3, by omega, by omega, by omega⟩, fun i H2 x H3 hi s2 y => ?_⟩
      · have i1 : i < xs.length := by omega
        have i2 : i < ys.length := by omega
        exact ⟨xs, ys, xs[i], ys[i], seqT_same s2 k1, s2.seq k3, by simp [i1], by simp [i2]⟩
      · obtain ⟨T, x', z, rfl, nT, rfl, f1, f2⟩ := y
        refine yc_pair (f := fun i => xs[i]?) (g := fun i => ys[i]?) ⟨T, x', z, rfl, nT, rfl, f1 xs (seqT_same s2 k1), f2 ys (s2.seq k3)⟩ fun Hc2 s x y ex ey => ?_
        obtain ⟨d, m1, m2⟩ := k2.get' ex
        obtain ⟨d', m3, m4⟩ := k4.get' ey
        exact ⟨d, d', zipD_get m1 m3, m2.same s, m4.same s⟩)
end
end DL
set_option Elab.async false
set_option linter.all false
set_option maxRecDepth 100000
set_option maxHeartbeats 1000000
set_option autoImplicit false
/-! DD: dict(world[0]), what it tells -/
namespace Tr
open PySem PySem.Spec PyProof.Rows L2 DL
def dicW (cs : List (Str × Nat)) : List (D × D) := (.bool false, .none) :: cs.map fun c => (.str c.1, .int (c.2 : Nat))
def dicV (cs : List (Str × Nat)) : List (Key × V) := cs.map fun c => (.inr c.1, .int (c.2 : Nat))
theorem sall_dic {K : PySem.W.Frag} {H : Hp} : ∀ {cs : List (Str × Nat)} {vs : List (Key × V)}, SAll K H vs (cs.map fun c => (.str c.1, .int (c.2 : Nat))) → vs = dicV cs
  | [], _, h => by cases h; rfl
  | c :: cs, _, h => by
    cases h with
    | cons p t =>
      cases p
      rw [sall_dic t]
      rfl
theorem sall_dic' {K : PySem.W.Frag} {H : Hp} : ∀ cs : List (Str × Nat), SAll K H (dicV cs) (cs.map fun c => (.str c.1, .int (c.2 : Nat)))
  | [] => .nil
  | c :: cs => .cons (.int _) (sall_dic' cs)
theorem dq_dic {K : PySem.W.Frag} {H : Hp} {v : V} {cs : List (Str × Nat)} : Dq K H v (.dict (dicW cs)) ↔ ∃ a, v = .ref a ∧ H a = some (.dK (dicV cs)) := by
  constructor
  · rintro ⟨a, o, rfl, h1, h2⟩
    cases h2 with
    | dct p => exact ⟨a, rfl, by rw [h1, sall_dic p]⟩
  · rintro ⟨a, rfl, h1⟩
    exact ⟨a, _, rfl, h1, .dct (sall_dic' cs)⟩
theorem putK_new {kvs : List (Key × V)} {k : Key} {v : V} (h : ∀ kv ∈ kvs, kv.1 ≠ k) : putK kvs k v = kvs ++ [(k, v)] := by
  unfold putK
  rw [if_neg]
  intro q
  obtain ⟨kv, hm, e⟩ := List.any_eq_true.mp q
  exact h kv hm (of_decide_eq_true e)
theorem mergeK_nodup : ∀ (more kvs : List (Key × V)), ((kvs ++ more).map (·.1)).Nodup → mergeK kvs more = kvs ++ more
  | [], kvs, _ => by simp [mergeK]
  | (k, v) :: r, kvs, h => by
    have h1 : ∀ kv ∈ kvs, kv.1 ≠ k := fun kv hm e => by
      rw [List.map_append, List.nodup_append] at h
      exact h.2.2 kv.1 (List.mem_map_of_mem hm) k (by simp) e
    have e1 : mergeK kvs ((k, v) :: r) = mergeK (putK kvs k v) r := by simp [mergeK]
    rw [e1, putK_new h1, mergeK_nodup r _ (by simpa using h)]
    simp
theorem mergeK_dicV {cs : List (Str × Nat)} (h : (cs.map (·.1)).Nodup) : mergeK [] (dicV cs) = dicV cs := by
  refine mergeK_nodup (dicV cs) [] ?_
  rw [List.nil_append]
  have e : (dicV cs).map (·.1) = (cs.map (·.1)).map (Sum.inr : Str → Key) := by
    unfold dicV
    rw [List.map_map, List.map_map]
    rfl
  rw [e]
  exact List.Pairwise.map _ (fun a b hab q => hab (Sum.inr.inj q)) h
def rDictW (K : PySem.W.Frag) : List V → Hp → VK → Prop := fun xs H Q => ∃ (b : Addr) (o : Obj) (ys : List V) (cs : List (Str × Nat)), xs = [.ref b] ∧ H b = some (.frz o (.tup ys)) ∧ o.dict = none ∧ DpAll K H ys (cs.map encC) ∧ (cs.map (·.1)).Nodup ∧
  ∀ p, H p = none → Q (.ref p) (upd H p (.dK (dicV cs)))
theorem pair_reads {X : Cx} {pins : List (Addr × Obj)} {σ : L2.St} {H : Hp} {s : Shared} (I : Inv X pins σ H s) : ∀ {cs : List (Str × Nat)} {ys : List V} {its : List Value}, DpAll X.K H ys (cs.map encC) → Vals ys its → ∃ (Ts : List Addr) (prs : List (Key × Value)), its = Ts.map Value.ref ∧ KV (dicV cs) prs ∧
    Paired (fun (T : Addr) (q : Key × Value) => ∃ u, IsTup s.heap T #[u, q.2] ∧ keyIs q.1 u = true) Ts prs
  | [], _, _, h, r => by
    cases h
    cases r
    exact ⟨[], [], rfl, .nil, .nil⟩
  | c :: cs, _, _, h, r => by
    cases h with
    | cons h t =>
      cases r with
      | cons r rt =>
        obtain ⟨Ts, prs, e1, e2, e3⟩ := pair_reads I t rt
        obtain ⟨a, xs, rfl, h1, h2⟩ := dp_tupI h
        cases r
        obtain ⟨its2, rv, ht, _⟩ := I.tuple h1
        cases h2 with
        | cons p1 t1 =>
          cases t1 with
          | cons p2 t2 =>
            cases t2
            cases dp_str p1
            cases dp_int p2
            obtain ⟨u1, u2, rfl, r1, r2⟩ := vals2 rv
            obtain ⟨t, rfl⟩ := r1
            refine ⟨a :: Ts, (.inr c.1, u2) :: prs, by rw [e1]; rfl, .cons ⟨rfl, r2⟩ e2, .cons ⟨_, ht, keyIs_str _ _⟩ e3⟩
theorem paired_at {α β : Type} {R : α → β → Prop} : ∀ {xs : List α} {ys : List β} {i : Nat} {y : β}, Paired R xs ys → ys[i]? = some y → ∃ x, xs[i]? = some x ∧ R x y
  | _, _, _, _, .nil, e => by simp at e
  | _, _, 0, _, .cons h _, e => by simp at e; subst e; exact ⟨_, rfl, h⟩
  | _, _, i + 1, y, .cons _ t, e => by
    obtain ⟨x, a, b⟩ := paired_at (i := i) (y := y) t (by simpa using e)
    exact ⟨x, by simpa using a, b⟩
theorem call_dictW {X : Cx} (hc : X.calm = true) : CallR X (.type "dict") (rDictW X.K) := by
  intro pins s σ H xs us Q I r h
  obtain ⟨b, o, ys, cs, rfl, hb, hd, pa, nd, q⟩ := h
  obtain ⟨u, rfl, ru⟩ := vals1 r
  cases ru
  obtain ⟨ho, hz, its, rv, o2, ho2, hcl, n, hdat⟩ := (show ObjOk X.prog X.w H s.heap b (.frz o (.tup ys)) from I.hok b _ hb)
  rw [ho] at ho2
  cases ho2
  obtain ⟨Ts, prs, rfl, kv, pp⟩ := pair_reads I pa rv
  have lT : Ts.length = prs.length := Paired.length pp
  have key : ∀ q ∈ prs, True := fun _ _ => trivial
  -- the pairs' keys as values
  let ps : List (Value × Value) := (List.range prs.length).map fun (i : Nat) => ((match (prs[i]? : Option (Key × Value)) with
    | some _ => (match s.heap.get? (Ts.getD i 0) with
      | some ob => (match ob.data with
        | .seq a _ => a.getD 0 .none
        | _ => .none)
      | none => .none)
    | none => .none), (match (prs[i]? : Option (Key × Value)) with
    | some q => q.2
    | none => .none))
  have lps : ps.length = prs.length := by simp [ps]
  have atp : ∀ (i : Nat) (q : Key × Value), prs[i]? = some q → ∃ T u, Ts[i]? = some T ∧ ps[i]? = some (u, q.2) ∧ IsTup s.heap T #[u, q.2] ∧ keyIs q.1 u = true := fun i q e => by
    obtain ⟨T, hT, u, ht, hk⟩ := paired_at pp e
    have hi : i < prs.length := (List.getElem?_eq_some_iff.mp e).1
    obtain ⟨ob, hob, _, m, hm⟩ := id ht
    obtain ⟨k, v⟩ := q
    have hk2 : ∃ x, k = .inr x := by
      obtain ⟨c, hc, e1, _⟩ : ∃ c, (dicV cs)[i]? = some c ∧ c.1 = k ∧ True := by
        obtain ⟨c, hc, e1, e2⟩ := paired_at (R := fun (p : Key × V) (q : Key × Value) => p.1 = q.1 ∧ RelV p.2 q.2) kv e
        exact ⟨c, hc, e1, trivial⟩
      unfold dicV at hc
      rw [List.getElem?_map] at hc
      obtain ⟨c2, _, rfl⟩ := Option.map_eq_some_iff.mp hc
      exact ⟨c2.1, e1.symm⟩
    obtain ⟨x, rfl⟩ := hk2
    refine ⟨T, u, hT, ?_, ht, hk⟩
    have e3 : Ts.getD i 0 = T := by rw [List.getD_eq_getElem?_getD, hT]; rfl
    have e4 : (List.range prs.length)[i]? = some i := by simp [hi]
    show ((List.range prs.length).map _)[i]? = _
    rw [List.getElem?_map, e4]
    simp only [Option.map_some, e, e3, hob, hm]
    rfl
  have hsz : ps.length ≤ sizeLine := by
    have := rv.length
    rw [List.length_map] at this
    omega
  have hm : (s.heap.objs.size == sysModules) = false := beq_eq_false_iff_ne.mpr (Nat.ne_of_gt I.big)
  refine call_dict_pairs (knd := mixKind X.prog X.w) (kvs := prs) (PairArg.tuple b (Ts.map Value.ref).toArray (fun i => Ts.getD i 0) ps) (I.ok.hd hc) ⟨⟨o, n, ho, hcl, hd, hdat⟩, by rw [List.size_toArray, List.length_map, lT, lps], fun j k v e => ?_⟩ ⟨by rw [lps], fun i k v rel => ?_⟩ hsz fun h' tk hd' kp => ?_
  · have hj : j < prs.length := by
      have := (List.getElem?_eq_some_iff.mp e).1
      omega
    obtain ⟨T, u, hT, hp, ht, hk⟩ := atp j _ (List.getElem?_eq_getElem hj)
    rw [hp] at e
    cases e
    have e3 : Ts.getD j 0 = T := by rw [List.getD_eq_getElem?_getD, hT]; rfl
    refine ⟨by simp [hT, e3], .inl ?_⟩
    show s.heap.IsTuple (Ts.getD j 0) _
    rw [e3]
    exact ht
  · have rel : ps[i]? = some (k, v) := rel
    have hi : i < prs.length := by
      have := (List.getElem?_eq_some_iff.mp rel).1
      omega
    obtain ⟨T, u, hT, hp, ht, hk⟩ := atp i _ (List.getElem?_eq_getElem hi)
    rw [hp] at rel
    cases rel
    exact ⟨prs[i].1, List.getElem?_eq_getElem hi, hk⟩
  · have hkm := KV.merge (kvs := []) (vs := []) kv .nil
    refine ⟨.ref s.heap.objs.size, upd H s.heap.objs.size (.dK (dicV cs)), I.laid (t' := tk) (fun b o e => kp b o (by simp) e) (Nat.le_refl _) ?_, rfl, q _ (I.hok.fresh (Nat.le_refl _))⟩
    have e5 : mergeK [] (dicV cs) = dicV cs := mergeK_dicV nd
    rw [e5] at hkm
    refine (show ObjOk X.prog X.w _ _ _ (.dK (dicV cs)) from ⟨?_, hm, _, hkm, hd'⟩)
    have l1 : (dicV cs).length = prs.length := Paired.length kv
    omega
theorem valV_dicV (cs : List (Str × Nat)) (x : Str) : valV (dicV cs) (.inr x) = (arC cs x).map fun n => .int (n : Nat) := by
  induction cs with
  | nil => rfl
  | cons c cs ih =>
    unfold dicV at ih ⊢
    rw [List.map_cons]
    by_cases h : c.1 = x
    · rw [valV_pos (by rw [h])]
      unfold arC
      rw [List.find?_cons_of_pos (by simp [h])]
      rfl
    · have e1 : valV ((Sum.inr c.1, V.int (c.2 : Nat)) :: cs.map fun c => ((Sum.inr c.1 : Key), V.int (c.2 : Nat))) (Sum.inr x : Key) = valV (cs.map fun c => ((Sum.inr c.1 : Key), V.int (c.2 : Nat))) (Sum.inr x : Key) := by
        unfold valV
        rw [List.find?_cons_of_neg (by simp [h])]
      rw [e1, ih]
      unfold arC
      rw [List.find?_cons_of_neg (by simp [h])]
section
variable {X : Cx} {env : DEnv} {pos p p1 p2 p3 : Pos} {o k : Expr} {cs : List (Str × Nat)} {w : Wd}
theorem ev_dictW (i : Nat) {x : Str} {j : Nat} (B : Blt X.mg) (hc : X.calm = true) (he : env[i]? = some (some (W w))) (nd : (w.cs.map (·.1)).Nodup) (hN : X.N[i]? = some x := by rfl) (hv : Vis X.env.scope x := by first | exact Or.inl rfl | exact Or.inr (Or.inl rfl) | exact Or.inr (Or.inr rfl))
    (h1 : (x == ("__debug__" : Str)) = false := by decide) (h2 : (x == ("__classdict__" : Str)) = false := by decide) (hg : Gl X "dict" := by rfl)
    (hs : starEach [.Subscript (.Name x p1) (.Constant (.int 0) j p2) p3] X.env = (false, eval (.Subscript (.Name x p1) (.Constant (.int 0) j p2) p3) X.env) :: starEach [] X.env := by rfl) :
    EVd X (.Call (.Name "dict" p) [.Subscript (.Name x p1) (.Constant (.int 0) j p2) p3] [] pos) env (.dict (dicW w.cs)) := fun Hc σ H hd Q q =>
  wx_of (pe_callTy (call_dictW hc) hg B.dict (by decide +kernel) (pa_cons (pe_ix ix_tup (pe_var hN hv h1 h2) pe_int (fun _ _ => rfl)) pa_nil hs) (he := hs) (hpl := by rfl)) (by
    obtain ⟨v, e1, pl⟩ := hd.at_ i _ he
    obtain ⟨a, b, v2, ys, ob, ds, d2, rfl, ht, hb, hn, pa, p2, e3⟩ := (show PlainW X.K Hc v (encW w) from pl)
    have e4 : ds = w.cs.map encC := by
      have e5 : (PyData.tuple [.tuple (w.cs.map encC), .tuple (w.ts.map encT)] : D) = .tuple [.tuple ds, d2] := e3
      injection e5 with e6
      injection e6 with e7 _
      injection e7 with e8
      exact e8.symm
    subst e4
    have hb2 : H b = some (.frz ob (.tup ys)) := hd.cor.sub _ _ hb
    refine ⟨_, e1, a, _, 0, .ref b, rfl, rfl, sqt_sub hd.cor ht, atI_nat (j := 0) rfl, b, ob, ys, w.cs, rfl, hb2, hn, pa.same hd.cor.sub, nd, fun l nl => ?_⟩
    have g := Grow.new (o := .dK (dicV w.cs)) hd.cor nl
    exact q _ _ _ g (dq_dic.mpr ⟨l, rfl, upd_same⟩))
/-- d[k], k there -/
theorem ev_dget {x : Str} {n : Nat} (hu : X.A.units + 1 < cLine) (ho : EVd X o env (.dict (dicW cs))) (hk : EVd X k env (.str x)) (hn : arC cs x = some n) (hs : NoSl k := by exact fun _ _ => rfl) : EVd X (.Subscript o k pos) env (.int (n : Nat)) := fun Hc σ H hd Q q =>
  wx_of (pe_dget hu pe_w pe_w hs) (ho Hc σ H hd _ fun v Hc1 H1 g1 p1 => hk Hc1 σ H1 (hd.grow g1) _ fun u Hc2 H2 g2 p2 => by
    obtain ⟨a, rfl, ha⟩ := dq_dic.mp (p1.same g2.cc)
    cases dp_str p2
    refine ⟨a, _, rfl, ?_, q _ Hc2 H2 (g1.trans g2) (L2.Dp.int _)⟩
    have z := DGet.k (k := .inr x) (g2.cor.sub _ _ ha)
    rw [valV_dicV, hn] at z
    exact z)
/-- d.get(k) -/
def getC (o : Option Nat) : D := match o with
  | some n => .int (n : Nat)
  | none => .none
theorem ev_getd {x : Str} {apos cpos : Pos} (hu : X.A.units + 1 < cLine) (ho : EVd X o env (.dict (dicW cs))) (hk : EVd X k env (.str x)) (m : M1 X o "get" apos k cpos := by exact ⟨rfl, rfl, rfl, rfl⟩) : EVd X (.Call (.Attribute o "get" apos) [k] [] cpos) env (getC (arC cs x)) := fun Hc σ H hd Q q =>
  wx_of (pe_dget1 hu pe_w pe_w m) (ho Hc σ H hd _ fun v Hc1 H1 g1 p1 => by
    obtain ⟨a, rfl, ha⟩ := dq_dic.mp p1
    refine ⟨a, rfl, .inl ⟨_, .inl (g1.cor.sub _ _ ha)⟩, ?_⟩
    refine hk Hc1 σ H1 (hd.grow g1) _ fun u Hc2 H2 g2 p2 => ?_
    cases dp_str p2
    refine ⟨_, DGet.k (k := .inr x) (g2.hh _ _ (g1.cor.sub _ _ ha)), ?_⟩
    rw [valV_dicV]
    refine q _ Hc2 H2 (g1.trans g2) ?_
    cases arC cs x with
    | none => exact L2.Dp.non
    | some n => exact L2.Dp.int _)
theorem et_din {x : Str} (hu : X.A.units + 1 < cLine) (hk : EVd X k env (.str x)) (ho : EVd X o env (.dict (dicW cs))) (hm : behindInMarks .In o = false := by with_unfolding_all rfl) : EVd X (.Compare k [.In] [o] pos) env (.bool (arC cs x).isSome) := fun Hc σ H hd Q q =>
  wx_of (pe_cmp (pc_din hu pe_w pe_w) hm) (hk Hc σ H hd _ fun u Hc1 H1 g1 p1 => ho Hc1 σ H1 (hd.grow g1) _ fun v Hc2 H2 g2 p2 => by
    obtain ⟨a, rfl, ha⟩ := dq_dic.mp p2
    cases dp_str p1
    refine ⟨a, _, rfl, DGet.k (k := .inr x) (g2.cor.sub _ _ ha), ?_⟩
    rw [valV_dicV, Option.isSome_map]
    exact q _ Hc2 H2 (g1.trans g2) (L2.Dp.bl _))
theorem et_dnotin {x : Str} (hu : X.A.units + 1 < cLine) (hk : EVd X k env (.str x)) (ho : EVd X o env (.dict (dicW cs))) (hm : behindInMarks .NotIn o = false := by with_unfolding_all rfl) : EVt X (.Compare k [.NotIn] [o] pos) env (!(arC cs x).isSome) := fun Hc σ H hd Q q =>
  wt_of (pt_cmp (pc_dnotin hu pe_w pe_w) hm) (hk Hc σ H hd _ fun u Hc1 H1 g1 p1 => ho Hc1 σ H1 (hd.grow g1) _ fun v Hc2 H2 g2 p2 => by
    obtain ⟨a, rfl, ha⟩ := dq_dic.mp p2
    cases dp_str p1
    refine ⟨a, _, rfl, DGet.k (k := .inr x) (g2.cor.sub _ _ ha), _, rfl, ?_⟩
    rw [valV_dicV, Option.isSome_map]
    exact q Hc2 H2 (g1.trans g2))
end
end Tr
set_option Elab.async false
set_option linter.all false
set_option maxRecDepth 100000
set_option maxHeartbeats 1000000
set_option autoImplicit false
namespace Tr
open PySem PySem.Spec PyProof.Rows L2 DL
theorem _root_.L2.Room.u {k : Nat} {A : Around} (r : Room k A) (n : Nat) (h : n ≤ 200 := by decide) : A.units + n < cLine := by have := r.un; omega
theorem cut_1 (x : D) (ds : List D) : DL.cutD (x :: ds) (some 1) none = ds := by
  have e : HT.sIx (ds.length + 1) 0 (some 1) = 1 := by
    simp [HT.sIx]
  have e2 : HT.sIx (ds.length + 1) (ds.length + 1) none = ds.length + 1 := by simp [HT.sIx]
  unfold DL.cutD
  rw [List.length_cons, e, e2]
  simp
theorem find_head {α : Type} (p : α → Bool) (l : List α) : (l.filter p)[0]? = l.find? p := by
  rw [← List.head?_eq_getElem?, List.head?_filter]
theorem any_names (xs : List Str) (x : Str) : ((xs.map PyData.str).any fun z => PyData.eqv z (.str x)) = decide (x ∈ xs) := by
  rw [any_strs (fun z => z) x xs]
  by_cases h : x ∈ xs
  · rw [decide_eq_true h]
    exact List.any_eq_true.mpr ⟨x, h, decide_eq_true rfl⟩
  · rw [decide_eq_false h]
    cases q : xs.any fun a => decide (a = x) with
    | false => rfl
    | true =>
      obtain ⟨y, hy, e⟩ := List.any_eq_true.mp q
      have e := of_decide_eq_true e
      subst e
      exact absurd hy h
theorem flat_names (xs : List Str) : (xs.map PyData.str).all flatD = true := flat_strs (fun z => z) xs
section
variable {X : Cx} {env : DEnv} {pos p tpos : Pos} {a b : Expr} {elts : List Expr} {kk : Nat} {α β : Type} {xs : List α} {ys : List β} {f : α → D} {g : β → D}
theorem w_zipT (B : Blt X.mg) (h1 : EVd X a env (.tuple (xs.map f))) (h2 : EVd X b env (.tuple (ys.map g))) (hg : Gl X "zip" := by rfl)
    (hs2 : starEach [b] X.env = (false, eval b X.env) :: starEach [] X.env := by rfl) (hs : starEach [a, b] X.env = (false, eval a X.env) :: starEach [b] X.env := by rfl) (hpl : (backTo pos (starEach [b] X.env)).any (·.1) = false := by rfl) :
    IV X (.Tuple elts kk tpos) (.Call (.Name "zip" p) [a, b] [] pos) env ((xs.zip ys).map fun p => .tuple [f p.1, g p.2]) := by
  have z := iv_zip (pos := pos) (p := p) (elts := elts) (kk := kk) (tpos := tpos) h1 h2 hg B.zip hs2 hs hpl
  rw [map_zipW] at z
  exact z
theorem w_zipM (B : Blt X.mg) (h1 : EVd X a env (.tuple (xs.map f))) (h2 : EVd X b env (.list (ys.map g))) (hg : Gl X "zip" := by rfl)
    (hs2 : starEach [b] X.env = (false, eval b X.env) :: starEach [] X.env := by rfl) (hs : starEach [a, b] X.env = (false, eval a X.env) :: starEach [b] X.env := by rfl) (hpl : (backTo pos (starEach [b] X.env)).any (·.1) = false := by rfl) :
    IV X (.Tuple elts kk tpos) (.Call (.Name "zip" p) [a, b] [] pos) env ((xs.zip ys).map fun p => .tuple [f p.1, g p.2]) := by
  have z := iv_zipM (pos := pos) (p := p) (elts := elts) (kk := kk) (tpos := tpos) h1 h2 hg B.zip hs2 hs hpl
  rw [map_zipW] at z
  exact z
theorem w_enumT (B : Blt X.mg) (h1 : EVd X a env (.tuple (xs.map f))) (hg : Gl X "enumerate" := by rfl) (hs : starEach [a] X.env = [(false, eval a X.env)] := by rfl) :
    IV X (.Tuple elts kk tpos) (.Call (.Name "enumerate" p) [a] [] pos) env (xs.zipIdx.map fun p => .tuple [.int (p.2 : Nat), f p.1]) := by
  have z := iv_enumT (pos := pos) (p := p) (elts := elts) (kk := kk) (tpos := tpos) h1 hg B.enumerate hs
  rw [map_enum] at z
  exact z
theorem w_enumL (B : Blt X.mg) (h1 : EVd X a env (.list (xs.map f))) (hg : Gl X "enumerate" := by rfl) (hs : starEach [a] X.env = [(false, eval a X.env)] := by rfl) :
    IV X (.Tuple elts kk tpos) (.Call (.Name "enumerate" p) [a] [] pos) env (xs.zipIdx.map fun p => .tuple [.int (p.2 : Nat), f p.1]) := by
  have z := iv_enum (pos := pos) (p := p) (elts := elts) (kk := kk) (tpos := tpos) h1 hg B.enumerate hs
  rw [map_enum] at z
  exact z
end
theorem take_all {α : Type} {xs : List α} {p : α → Bool} {i : Nat} {x : α} (h : xs[i]? = some x) (ha : (xs.take i).all p = true) (hp : p x = true) : (xs.take (i + 1)).all p = true := by
  rw [List.take_succ, h, List.all_append, ha]
  simpa using hp
theorem at_all {α : Type} {xs : List α} {p : α → Bool} {i : Nat} {x : α} (h : xs[i]? = some x) (hp : p x = false) : xs.all p = false := by
  cases q : xs.all p with
  | false => rfl
  | true =>
    have := List.all_eq_true.mp q x (List.mem_of_getElem? h)
    rw [hp] at this
    cases this
section
variable {P : Program} {w : World} {K : PySem.W.Frag} {mg : Str → Option Value} {base : Heap}
def spNames (ds : List D) (r : D) : Prop := ∃ v : Wd, v.ts.length ≤ 4 ∧ ds = [W v] ∧ r = .list ((names v).map .str)
abbrev N_trait_names : List Str := ["world", "name", "form", "below"]
theorem sc_trait_names : FnScope N_trait_names ["world"] (defScope (top 35)) := ⟨rfl, rfl, rfl, by decide +kernel, rfl, by decide +kernel, by decide +kernel⟩
theorem ok_trait_names (B : Blt mg)  (F : Has K mg "trait_names" (top 35)) : DefD P w K mg base "trait_names" 1 ["world"] spNames := by
  refine def_mk F (fun _ _ _ _ _ _ us hl => match us, hl with | [_], _ => rfl) fun f fd F => fn_D F sc_trait_names (fun ds d h => ?_) fun cdv A outer s H E ds d h hr => ?_
  · obtain ⟨v, _, rfl, _⟩ := h
    rfl
  · obtain ⟨v, hl, rfl, rfl⟩ := h
    refine sv_one (sv_ret (EVn.toD (en_mapT (is := [1, 2, 3]) (own := [("name", 1), ("form", 2), ("below", 3)]) (encs := encTL) (fun t => .str t.1) sc_trait_names.nd (blkOk_by (N := N_trait_names) (sc := defScope (top 35)) (by decide +kernel)) (by decide) rfl (iv_tup (ev_W 0 rfl rfl)) (Nat.le_trans hl (by decide)) (fun _ => rfl) (fun _ _ _ _ _ => g_three rfl (g_one 1 sc_trait_names.nd) (g_one 2 sc_trait_names.nd) (g_one 3 sc_trait_names.nd))
      (fun t _ _ _ _ _ _ => ev_v 1 rfl) (fun _ => rfl))) ?_)
    show PyData.list _ = _
    unfold names
    rw [List.map_map]
    rfl
def formW (v : Wd) (t : Str) : Option Str := (v.ts.find? fun x => decide (x.1 = t)).map (·.2.1)
def spForm (ds : List D) (r : D) : Prop := ∃ (v : Wd) (t f : Str), v.ts.length ≤ 4 ∧ ds = [W v, .str t] ∧ formW v t = some f ∧ r = .str f
abbrev N_form_of : List Str := ["world", "trait", "name", "form", "below"]
theorem sc_form_of : FnScope N_form_of ["world", "trait"] (defScope (top 36)) := ⟨rfl, rfl, rfl, by decide +kernel, rfl, by decide +kernel, by decide +kernel⟩
theorem ok_form_of (B : Blt mg)  (F : Has K mg "form_of" (top 36)) : DefD P w K mg base "form_of" 1 ["world", "trait"] spForm := by
  refine def_mk F (fun _ _ _ _ _ _ us hl => match us, hl with | [_, _], _ => rfl) fun f fd F => fn_D F sc_form_of (fun ds d h => ?_) fun cdv A outer s H E ds d h hr => ?_
  · obtain ⟨v, t, f, _, rfl, _⟩ := h
    rfl
  · obtain ⟨v, t, f, hl, rfl, hf, rfl⟩ := h
    refine sv_one (sv_ret (ev_ixL (EVn.toD (en_filT (is := [2, 3, 4]) (own := [("name", 2), ("form", 3), ("below", 4)]) (encs := encTL) (fun x => decide (x.1 = t)) (fun t => .str t.2.1) sc_form_of.nd (blkOk_by (N := N_form_of) (sc := defScope (top 36)) (by decide +kernel)) (by decide) rfl (iv_tup (ev_W 0 rfl rfl)) (Nat.le_trans hl (by decide)) (fun _ => rfl) (fun _ _ _ _ _ => g_three rfl (g_one 2 sc_form_of.nd) (g_one 3 sc_form_of.nd) (g_one 4 sc_form_of.nd))
      (fun x _ _ _ _ _ _ => et_c (ec_eqS (ev_v 2 rfl) (ev_v 1 rfl))) (fun t _ _ _ _ _ _ _ => ev_v 3 rfl) (fun _ => rfl))) ev_int (atI_nat (j := 0) (by
        rw [List.getElem?_map, find_head]
        unfold formW at hf
        obtain ⟨x, h1, h2⟩ := Option.map_eq_some_iff.mp hf
        rw [h1]
        exact congrArg some (congrArg PyData.str h2)))) rfl)
def spTrait (ds : List D) (r : D) : Prop := ∃ (v : Wd) (t : Str), v.ts.length ≤ 4 ∧ t ∈ names v ∧ ds = [W v, .str t] ∧ r = .none
abbrev N_check_trait : List Str := ["world", "trait"]
theorem sc_check_trait : FnScope N_check_trait ["world", "trait"] (defScope (top 41)) := ⟨rfl, rfl, rfl, by decide +kernel, rfl, by decide +kernel, by decide +kernel⟩
theorem ok_check_trait (B : Blt mg) (D1 : DefD P w K mg base "trait_names" 1 ["world"] spNames) (F : Has K mg "check_trait" (top 41)) : DefD P w K mg base "check_trait" 2 ["world", "trait"] spTrait := by
  refine def_mk F (fun _ _ _ _ _ _ us hl => match us, hl with | [_, _], _ => rfl) fun f fd F => fn_D F sc_check_trait (fun ds d h => ?_) fun cdv A outer s H E ds d h hr => ?_
  · obtain ⟨v, t, _, _, rfl, _⟩ := h
    rfl
  · obtain ⟨v, t, hl, ht, rfl, rfl⟩ := h
    refine sv_one (sv_skip (tE (w_orF (t_notT (tV (ev_isS B (ev_v 1 rfl) kb_ss))) (ew_or1 (bT (et_c (ec_notin (ev_v 1 rfl) (ev_call D1 (hr.mono (by decide)) rfl (eq_cons (ev_v 0 rfl) eq_nil) ⟨_, hl, rfl, rfl⟩) rfl rfl (flat_names _))) ?_)))) rfl)
    rw [any_names, decide_eq_true ht]
    rfl
def spSort (k : Nat) (ds : List D) (r : D) : Prop := ∃ (v : Wd) (x : Srt), (v.cs.map (·.1)).Nodup ∧ okS v x = true ∧ x.depth ≤ k ∧ ds = [W v, encS x, .str ""] ∧ r = .bool true
abbrev N_is_sort_with : List Str := ["world", "value", "names", "part"]
theorem sc_is_sort_with : FnScope N_is_sort_with ["world", "value", "names"] (defScope (top 38)) := ⟨rfl, rfl, rfl, by decide +kernel, rfl, by decide +kernel, by decide +kernel⟩
theorem ok_is_sort_with (B : Blt mg) (F : Has K mg "is_sort_with" (top 38)) : ∀ k : Nat, DefD P w K mg base "is_sort_with" (k + 1) ["world", "value", "names"] (spSort k)
  | 0 => by
    refine def_mk F (fun _ _ _ _ _ _ us hl => match us, hl with | [_, _, _], _ => rfl) fun f fd F => fn_D F sc_is_sort_with (fun ds d h => ?_) fun cdv A outer s H E ds d h hr => ?_
    · obtain ⟨v, x, _, _, _, rfl, _⟩ := h
      rfl
    · obtain ⟨v, x, _, _, hd, _⟩ := h
      have := depth_pos x
      omega
  | k + 1 => by
    have D1 := ok_is_sort_with B F k
    refine def_mk F (fun _ _ _ _ _ _ us hl => match us, hl with | [_, _, _], _ => rfl) fun f fd F => fn_D F sc_is_sort_with (fun ds d h => ?_) fun cdv A outer s H E ds d h hr => ?_
    · obtain ⟨v, x, _, _, _, rfl, _⟩ := h
      rfl
    · obtain ⟨v, x, nd, ho, hd, rfl, rfl⟩ := h
      have hlen : (encSL x).length = x.parts.length + 1 := by rw [encSL_eq, List.length_cons, List.length_map]
      have hpos : ¬ ((encSL x).length : Int) = 0 := by omega
      have h0 : atI (encSL x) 0 = some (.str x.root) := atI_nat (j := 0) (by rw [encSL_eq]; rfl)
      refine sv_cons (sv_skip (tV (ev_isS B (ev_v 1 rfl) kb_ts)) ?_)
      refine sv_cons (sv_skip (tE (w_orF (t_notT (tV (ev_isT B (ev_v 1 rfl) kb_tt))) (w_orF (c_eqFI (ev_lenT B (ev_v 1 rfl)) ev_int hpos) (ew_or1 (t_notT (tV (ev_isS B (ev_ixT (ev_v 1 rfl) ev_int h0) kb_ss))))))) ?_)
      refine sv_cons (sv_skip (c_neFI (EVd.is (ev_getd (hr.u 1) (ev_dictW 0 B rfl rfl nd) (ev_ixT (ev_v 1 rfl) ev_int h0)) (by rw [okS_root ho]; rfl)) (ev_sub (ev_lenT B (ev_v 1 rfl)) ev_int) (by rw [hlen]; omega)) ?_)
      refine sv_one (sv_ret (ev_allL B rfl (q := fun _ => true) (en_map1 (xs := x.parts) (enc := encS) (i := 3) (fun _ => .bool true) sc_is_sort_with.nd (blkOk_by (N := N_is_sort_with) (sc := defScope (top 38)) (by decide +kernel)) rfl (iv_tup (EVd.is (ev_slT (ev_v 1 rfl) (eo_some ev_int) eo_none) (by rw [encSL_eq, cut_1]))) (Nat.le_trans (parts_len x) (by decide)) (fun _ _ _ _ _ => g_one 3 sc_is_sort_with.nd)
        (fun p hp _ _ _ _ _ => ev_call D1 hr rfl (eq_cons (ev_v 0 rfl) (eq_cons (ev_v 3 rfl) (eq_cons (ev_v 2 rfl) eq_nil))) ⟨_, p, nd, okS_parts ho hp, by have := depth_parts hp; omega, rfl, rfl⟩) (fun _ => rfl))) ?_)
      simp
def spSize (k : Nat) (ds : List D) (r : D) : Prop := ∃ x : Srt, x.depth ≤ k ∧ ds = [encS x] ∧ r = .int (x.size : Nat)
abbrev N_size_in : List Str := ["sort", "part"]
theorem sc_size_in : FnScope N_size_in ["sort"] (defScope (top 39)) := ⟨rfl, rfl, rfl, by decide +kernel, rfl, by decide +kernel, by decide +kernel⟩
theorem ok_size_in (B : Blt mg) (F : Has K mg "size_in" (top 39)) : ∀ k : Nat, DefD P w K mg base "size_in" (k + 1) ["sort"] (spSize k)
  | 0 => by
    refine def_mk F (fun _ _ _ _ _ _ us hl => match us, hl with | [_], _ => rfl) fun f fd F => fn_D F sc_size_in (fun ds d h => ?_) fun cdv A outer s H E ds d h hr => ?_
    · obtain ⟨x, _, rfl, _⟩ := h
      rfl
    · obtain ⟨x, hd, _⟩ := h
      have := depth_pos x
      omega
  | k + 1 => by
    have D1 := ok_size_in B F k
    refine def_mk F (fun _ _ _ _ _ _ us hl => match us, hl with | [_], _ => rfl) fun f fd F => fn_D F sc_size_in (fun ds d h => ?_) fun cdv A outer s H E ds d h hr => ?_
    · obtain ⟨x, _, rfl, _⟩ := h
      rfl
    · obtain ⟨x, hd, rfl, rfl⟩ := h
      refine sv_one (sv_ret (ev_if (tV (ev_isS B (ev_v 0 rfl) kb_ts)) (fun q => nomatch q) fun _ => ev_add ev_int (ev_sumN B rfl (en_map1 (xs := x.parts) (enc := encS) (i := 1) (fun p => .int (p.size : Nat)) sc_size_in.nd (blkOk_by (N := N_size_in) (sc := defScope (top 39)) (by decide +kernel)) rfl (iv_tup (EVd.is (ev_slT (ev_v 0 rfl) (eo_some ev_int) eo_none) (by rw [encSL_eq, cut_1]))) (Nat.le_trans (parts_len x) (by decide)) (fun _ _ _ _ _ => g_one 1 sc_size_in.nd)
          (fun p hp _ _ _ _ _ => ev_call D1 hr rfl (eq_cons (ev_v 1 rfl) eq_nil) ⟨p, by have := depth_parts hp; omega, rfl, rfl⟩) (fun _ => rfl)))) ?_)
      show PyData.int (1 + _) = _
      congr 1
      rw [size_eq x]
      show (1 : Int) + ((x.parts.map Srt.size).sum : Nat) = _
      omega
def spCheckSort (k : Nat) (ds : List D) (r : D) : Prop := ∃ (v : Wd) (x : Srt), (v.cs.map (·.1)).Nodup ∧ okS v x = true ∧ x.depth ≤ k ∧ x.size ≤ 12 ∧ ds = [W v, encS x, .str ""] ∧ r = .none
abbrev N_check_sort : List Str := ["world", "sort", "names"]
theorem sc_check_sort : FnScope N_check_sort ["world", "sort", "names"] (defScope (top 40)) := ⟨rfl, rfl, rfl, by decide +kernel, rfl, by decide +kernel, by decide +kernel⟩
theorem ok_check_sort (B : Blt mg) (k : Nat) (D1 : DefD P w K mg base "is_sort_with" (k + 1) ["world", "value", "names"] (spSort k)) (D2 : DefD P w K mg base "size_in" (k + 1) ["sort"] (spSize k)) (F : Has K mg "check_sort" (top 40)) : DefD P w K mg base "check_sort" (k + 2) ["world", "sort", "names"] (spCheckSort k) := by
  refine def_mk F (fun _ _ _ _ _ _ us hl => match us, hl with | [_, _, _], _ => rfl) fun f fd F => fn_D F sc_check_sort (fun ds d h => ?_) fun cdv A outer s H E ds d h hr => ?_
  · obtain ⟨v, x, _, _, _, _, rfl, _⟩ := h
    rfl
  · obtain ⟨v, x, nd, ho, hd, hz, rfl, rfl⟩ := h
    exact sv_one (sv_skip (tE (w_orF (t_notT (tV (ev_call D1 hr rfl (eq_cons (ev_v 0 rfl) (eq_cons (ev_v 1 rfl) (eq_cons (ev_v 2 rfl) eq_nil))) ⟨_, x, nd, ho, hd, rfl, rfl⟩))) (ew_or1 (bT (et_c (ec_gt (ev_call D2 hr rfl (eq_cons (ev_v 1 rfl) eq_nil) ⟨x, hd, rfl, rfl⟩) ev_int)) (decide_eq_false (by omega)))))) rfl)
def spRank (k : Nat) (ds : List D) (r : D) : Prop := ∃ x : Srt, x.depth ≤ k ∧ ds = [encS x] ∧ r = .tuple [.int (x.size : Nat), encS x]
abbrev N_rank_of : List Str := ["sort"]
theorem sc_rank_of : FnScope N_rank_of ["sort"] (defScope (top 53)) := ⟨rfl, rfl, rfl, by decide +kernel, rfl, by decide +kernel, by decide +kernel⟩
theorem ok_rank_of (B : Blt mg) (k : Nat) (D1 : DefD P w K mg base "size_in" (k + 1) ["sort"] (spSize k)) (F : Has K mg "rank_of" (top 53)) : DefD P w K mg base "rank_of" (k + 2) ["sort"] (spRank k) := by
  refine def_mk F (fun _ _ _ _ _ _ us hl => match us, hl with | [_], _ => rfl) fun f fd F => fn_D F sc_rank_of (fun ds d h => ?_) fun cdv A outer s H E ds d h hr => ?_
  · obtain ⟨x, _, rfl, _⟩ := h
    rfl
  · obtain ⟨x, hd, rfl, rfl⟩ := h
    exact sv_one (sv_ret (ev_tup (ea_cons (ev_call D1 hr rfl (eq_cons (ev_v 0 rfl) eq_nil) ⟨x, hd, rfl, rfl⟩) (ea_cons (ev_v 0 rfl) ea_nil)) (Nat.le_of_ble_eq_true rfl)) rfl)
def spFit (ds : List D) (r : D) : Prop := ∃ (i : Inst) (x : Srt), ds = [encI i, encS x] ∧ r = .bool (fitsM i x)
abbrev N_does_fit : List Str := ["instance", "sort", "limit", "part"]
theorem sc_does_fit : FnScope N_does_fit ["instance", "sort"] (defScope (top 52)) := ⟨rfl, rfl, rfl, by decide +kernel, rfl, by decide +kernel, by decide +kernel⟩
theorem ok_does_fit (B : Blt mg)  (F : Has K mg "does_fit" (top 52)) : DefD P w K mg base "does_fit" 1 ["instance", "sort"] spFit := by
  refine def_mk F (fun _ _ _ _ _ _ us hl => match us, hl with | [_, _], _ => rfl) fun f fd F => fn_D F sc_does_fit (fun ds d h => ?_) fun cdv A outer s H E ds d h hr => ?_
  · obtain ⟨i, x, rfl, _⟩ := h
    rfl
  · obtain ⟨i, x, rfl, rfl⟩ := h
    have h0 : atI (encSL x) 0 = some (.str x.root) := atI_nat (j := 0) (by rw [encSL_eq]; rfl)
    have h0 : atI (encSL x) 0 = some (.str x.root) := atI_nat (j := 0) (by rw [encSL_eq]; rfl)
    by_cases hroot : i.root = x.root
    · have hfit : fitsM i x = (i.lims.zip x.parts).all okL := by
        unfold fitsM
        rw [decide_eq_true hroot, Bool.true_and]
      refine sv_cons (sv_skip (c_neFS (ev_ixT (ev_v 0 rfl) ev_int rfl) (ev_ixT (ev_v 1 rfl) ev_int h0) hroot) ?_)
      refine sv_cons (sv_for (xs := i.lims.zip x.parts) (enc := fun p => .tuple [encL p.1, encS p.2]) (t := .tup [2, 3]) (fun n env' => (∃ a b, env' = [some (.dat (encI i)), some (.dat (encS x)), a, b]) ∧ ((i.lims.zip x.parts).take n).all okL = true) PassesOwn.never rfl
        (w_zipT (xs := i.lims) (ys := x.parts) B ?_ ?_) ⟨⟨none, none, rfl⟩, rfl⟩ (fun p => tg_tup rfl (tgs_cons (fun _ => t_one 2 sc_does_fit.nd) (tgs_cons (fun _ => t_one 3 sc_does_fit.nd) tgs_nil)) rfl rfl) ?_ ?_)
      · exact ev_ixT (ev_v 0 rfl) ev_int rfl
      · exact EVd.is (ev_slT (ev_v 1 rfl) (eo_some ev_int) eo_none) (by rw [encSL_eq, cut_1])
      · rintro n ⟨l, p⟩ _ hn ⟨⟨a, b, rfl⟩, ih⟩
        have hp0 : atI (encSL p) 0 = some (.str p.root) := atI_nat (j := 0) (by rw [encSL_eq]; rfl)
        cases l with
        | none =>
          exact sv_one (sv_skip (tE (w_andF (c_notNF (ev_v 2 rfl)))) ⟨⟨_, _, rfl⟩, take_all hn ih rfl⟩)
        | some l =>
          by_cases hl : p.root = l
          · exact sv_one (sv_skip (tE (w_andT (c_notNT (ev_v 2 rfl)) (ew_and1 (tE (w_orF (tV (ev_isS B (ev_v 3 rfl) kb_ts)) (ew_or1 (c_neFS (ev_ixT (ev_v 3 rfl) ev_int hp0) (ev_v 2 rfl) hl))))))) ⟨⟨_, _, rfl⟩, take_all hn ih (decide_eq_true hl)⟩)
          · refine sv_one (sv_then (tE (w_andT (c_notNT (ev_v 2 rfl)) (ew_and1 (tE (w_orF (tV (ev_isS B (ev_v 3 rfl) kb_ts)) (ew_or1 (c_neTS (ev_ixT (ev_v 3 rfl) ev_int hp0) (ev_v 2 rfl) hl))))))) (sv_one (sv_ret ev_bl ?_)))
            show PyData.bool false = _
            rw [hfit, at_all hn (decide_eq_false hl)]
      · rintro _ ⟨⟨a, b, rfl⟩, ih⟩
        rw [List.take_length] at ih
        refine sv_one (sv_ret ev_bl ?_)
        show PyData.bool true = _
        rw [hfit, ih]
    · refine sv_cons (sv_then (c_neTS (ev_ixT (ev_v 0 rfl) ev_int rfl) (ev_ixT (ev_v 1 rfl) ev_int h0) hroot) (sv_one (sv_ret ev_bl ?_)))
      unfold fitsM
      rw [decide_eq_false hroot]
      rfl
end
end Tr
set_option Elab.async false
set_option linter.all false
set_option maxRecDepth 100000
set_option maxHeartbeats 1000000
set_option autoImplicit false
namespace Tr
open PySem PySem.Spec PyProof.Rows L2 DL
theorem fm_if {α : Type} (p : α → Bool) (g : α → D) : ∀ l : List α, l.filterMap (fun a => if p a = true then some (g a) else none) = (l.filter p).map g
  | [] => rfl
  | y :: l => by
    rw [List.filterMap_cons, List.filter_cons]
    by_cases q : p y = true
    · rw [if_pos q, if_pos q, List.map_cons, fm_if p g l]
    · rw [if_neg q, if_neg q, fm_if p g l]
section
variable {X : Cx} {pos : Pos} {senv : SEnv} {Z : EndsD} {c : Expr} {α : Type} {xs : List α} {iter elt : Expr} {scope : Scope} {own : List (Str × Nat)}
/-- y = [elt for a, b in iter if c] -/
theorem s_filT {i : Nat} {is : List Nat} {elts : List Expr} {kk : Nat} {tp py spos : Pos} {y : Str} {encs : α → List D} (p : α → Bool) (g : α → D) (nd : X.N.Nodup) (hy : X.N[i]? = some y) (ok : BlkOk X.N X.env.scope scope own) (hj : ∀ j ∈ is, j ∈ own.map (·.2)) (hc : X.calm = true)
    (hi : IV X (.Tuple elts kk tp) iter (vis senv) (xs.map fun a => .tuple (encs a))) (hz : xs.length ≤ sizeLine)
    (hl : ∀ a, (encs a).length = is.length) (hg : Blk X scope fun Y => ∀ (ds : List D) (env : DEnv), ds.length = is.length → GV Y (.Tuple elts kk tp) (.tuple ds) env (setE env is ds) is)
    (test : ∀ a, a ∈ xs → Blk X scope fun Y => EVt Y c (setE (wipeE (vis senv) (own.map (·.2))) is (encs a)) (p a)) (turn : ∀ a, a ∈ xs → p a = true → Blk X scope fun Y => EVd Y elt (setE (wipeE (vis senv) (own.map (·.2))) is (encs a)) (g a)) (hD : ∀ a, isD (g a) = true)
    (h : Z.nx (senv.set i (some (.dat (.list ((xs.filter p).map g)))))) (hyl : X.env.scope.names.lookup y = some .local := by rfl)
    (hsw : swapsWith (.ListComp elt [⟨.Tuple elts kk tp, iter, [c], 0⟩] scope pos) (some (.Name y py)) spos.line X.env = pure true := by rfl) (hf : ∀ x, foldedSetIterable iter X.env x = pure x := by intro _; rfl) :
    SV X (.Assign [.Name y py] (.ListComp elt [⟨.Tuple elts kk tp, iter, [c], 0⟩] scope pos) spos) Z senv := by
  refine sv_setLc (fun a => if p a = true then some (g a) else none) hc nd hy hyl hsw ok hi hz (fun a ha => ⟨setE (wipeE (vis senv) (own.map (·.2))) is (encs a), is, hj, fun s H C cl fp => hg s H C cl fp _ _ (hl a), fun s H C cl fp => ets_one (by
    have t := test a ha s H C cl fp
    cases q : p a with
    | true => rw [q] at t; simpa using t
    | false => rw [q] at t; simpa using t), fun y e s H C cl fp => by
      by_cases q : p a = true
      · rw [if_pos q] at e
        cases e
        exact ⟨turn a ha q s H C cl fp, hD a⟩
      · rw [if_neg q] at e
        cases e⟩) ?_ hf
  rw [fm_if]
  exact h
end
/-! ### plain laws of instances -/
def okR (p : Option Str × Str) : Bool := match p.1 with
  | none => true
  | some l => decide (l = p.2)
def fitR (i : Inst) (root : Str) (roots : List Str) : Bool := decide (i.root = root) && (i.lims.zip roots).all okR
def fitsAt (is : List Inst) (t : Str) (x : Srt) : List (Inst × Nat) := is.zipIdx.filter fun p => decide (p.1.tr = t) && fitsM p.1 x
def askM (is : List Inst) (x : Srt) (a : Str × Nat) : Bool := match x.sub a.2 with
  | some p => standsM is p a.1
  | none => false
theorem any_idx {α : Type} (f : α → Bool) (l : List α) : l.any f = l.zipIdx.any fun p => f p.1 := by
  have e : l.zipIdx.map (·.1) = l := List.zipIdx_map_fst 0 l
  conv => lhs; rw [← e, List.any_map]
  rfl
theorem standsM_eq (is : List Inst) (x : Srt) (t : Str) : standsM is x t = (fitsAt is t x).any fun p => p.1.asks.all (askM is x) := by
  unfold standsM
  rw [any_idx]
  unfold fitsAt
  rw [List.any_filter]
  congr 1
  funext p
  congr 1
  congr 1
  funext a
  unfold askM
  split <;> rename_i h
  · rw [h]
  · rw [h]
structure OkA (v : Wd) (i : Inst) : Prop where
  lims : i.lims.length ≤ 2
  asks : i.asks.length ≤ 3
  at_ : ∀ a ∈ i.asks, ∃ n, arC v.cs i.root = some n ∧ a.2 < n
theorem fits_root {i : Inst} {x : Srt} (h : fitsM i x = true) : i.root = x.root := by
  unfold fitsM at h
  rw [Bool.and_eq_true] at h
  exact of_decide_eq_true h.1
section
variable {P : Program} {w : World} {K : PySem.W.Frag} {mg : Str → Option Value} {base : Heap}
def spFitR (ds : List D) (r : D) : Prop := ∃ (i : Inst) (root : Str) (roots : List Str), i.lims.length ≤ 2 ∧ ds = [encI i, .str root, .list (roots.map .str)] ∧ r = .bool (fitR i root roots)
abbrev N_fits_roots : List Str := ["instance", "root", "roots", "limit", "one"]
theorem sc_fits_roots : FnScope N_fits_roots ["instance", "root", "roots"] (defScope (top 55)) := ⟨rfl, rfl, rfl, by decide +kernel, rfl, by decide +kernel, by decide +kernel⟩
theorem ok_fits_roots (B : Blt mg)  (F : Has K mg "fits_roots" (top 55)) : DefD P w K mg base "fits_roots" 1 ["instance", "root", "roots"] spFitR := by
  refine def_mk F (fun _ _ _ _ _ _ us hl => match us, hl with | [_, _, _], _ => rfl) fun f fd F => fn_D F sc_fits_roots (fun ds d h => ?_) fun cdv A outer s H E ds d h hr => ?_
  · obtain ⟨i, root, roots, _, rfl, _⟩ := h
    rfl
  · obtain ⟨i, root, roots, hl, rfl, rfl⟩ := h
    by_cases hroot : i.root = root
    · refine sv_cons (sv_skip (c_neFS (ev_ixT (ev_v 0 rfl) ev_int rfl) (ev_v 1 rfl) hroot) ?_)
      refine sv_one (sv_ret (ev_allL B rfl (q := okR) (en_mapT (xs := i.lims.zip roots) (is := [3, 4]) (own := [("limit", 3), ("one", 4)]) (encs := fun p => [encL p.1, .str p.2]) (fun p => .bool (okR p)) sc_fits_roots.nd (blkOk_by (N := N_fits_roots) (sc := defScope (top 55)) (by decide +kernel)) (by decide) rfl (w_zipM (xs := i.lims) (ys := roots) B (ev_ixT (ev_v 0 rfl) ev_int rfl) (ev_v 2 rfl)) (Nat.le_trans (by rw [List.length_zip]; exact Nat.le_trans (Nat.min_le_left _ _) hl) (by decide)) (fun _ => rfl) (fun _ _ _ _ _ => g_two rfl (g_one 3 sc_fits_roots.nd) (g_one 4 sc_fits_roots.nd))
        (fun p _ _ _ _ _ _ => match p with
          | (none, o) => v_orT (v_isNT (ev_v 3 rfl))
          | (some l, o) => v_orF (v_isNF (ev_v 3 rfl)) (ev_one (ev_c (ec_eqS (ev_v 3 rfl) (ev_v 4 rfl))))) (fun _ => rfl))) ?_)
      show PyData.bool _ = _
      unfold fitR
      rw [decide_eq_true hroot, Bool.true_and]
    · refine sv_cons (sv_then (c_neTS (ev_ixT (ev_v 0 rfl) ev_int rfl) (ev_v 1 rfl) hroot) (sv_one (sv_ret ev_bl ?_)))
      unfold fitR
      rw [decide_eq_false hroot]
      rfl
def encN (p : Inst × Nat) : List D := [.int (p.2 : Nat), encI p.1]
def spFitting (ds : List D) (r : D) : Prop := ∃ (is : List Inst) (t : Str) (x : Srt), is.length ≤ 8 ∧ ds = [encIs is, .str t, encS x] ∧ r = .list ((fitsAt is t x).map fun p => .tuple (encN p))
abbrev N_fitting : List Str := ["instances", "trait", "sort", "rows", "number", "one"]
theorem sc_fitting : FnScope N_fitting ["instances", "trait", "sort"] (defScope (top 64)) := ⟨rfl, rfl, rfl, by decide +kernel, rfl, by decide +kernel, by decide +kernel⟩
theorem ok_fitting (B : Blt mg) (D1 : DefD P w K mg base "does_fit" 1 ["instance", "sort"] spFit) (F : Has K mg "fitting" (top 64)) : DefD P w K mg base "fitting" 2 ["instances", "trait", "sort"] spFitting := by
  refine def_mk F (fun _ _ _ _ _ _ us hl => match us, hl with | [_, _, _], _ => rfl) fun f fd F => fn_D F sc_fitting (fun ds d h => ?_) fun cdv A outer s H E ds d h hr => ?_
  · obtain ⟨is, t, x, _, rfl, _⟩ := h
    rfl
  · obtain ⟨is, t, x, hl, rfl, rfl⟩ := h
    have hz : is.zipIdx.length ≤ sizeLine := Nat.le_trans (by rw [List.length_zipIdx]; exact hl) (by decide)
    refine sv_cons (s_filT (xs := is.zipIdx) (i := 3) (is := [4, 5]) (own := [("number", 4), ("one", 5)]) (encs := encN) (fun p => decide (p.1.tr = t)) (fun p => .tuple (encN p)) sc_fitting.nd rfl (blkOk_by (N := N_fitting) (sc := defScope (top 64)) (by decide +kernel)) (by decide) rfl (w_enumT (xs := is) B (ev_v 0 rfl)) hz (fun _ => rfl) (fun _ _ _ _ _ => g_two rfl (g_one 4 sc_fitting.nd) (g_one 5 sc_fitting.nd))
      (fun p _ _ _ _ _ _ => et_c (ec_eqS (ev_ixT (ev_v 5 rfl) ev_int rfl) (ev_v 1 rfl))) (fun p _ _ _ _ _ _ _ => ev_tup (ea_cons (ev_v 4 rfl) (ea_cons (ev_v 5 rfl) ea_nil)) (Nat.le_of_ble_eq_true rfl)) (fun _ => rfl) ?_)
    refine sv_one (sv_ret (EVn.toD (en_filT (xs := is.zipIdx.filter fun p => decide (p.1.tr = t)) (is := [4, 5]) (own := [("number", 4), ("one", 5)]) (encs := encN) (fun p => fitsM p.1 x) (fun p => .tuple (encN p)) sc_fitting.nd (blkOk_by (N := N_fitting) (sc := defScope (top 64)) (by decide +kernel)) (by decide) rfl (iv_list (ev_v 3 rfl)) (Nat.le_trans (List.length_filter_le _ _) hz) (fun _ => rfl) (fun _ _ _ _ _ => g_two rfl (g_one 4 sc_fitting.nd) (g_one 5 sc_fitting.nd))
      (fun p _ _ _ _ _ _ => tV (ev_call D1 hr rfl (eq_cons (ev_v 5 rfl) (eq_cons (ev_v 2 rfl) eq_nil)) ⟨p.1, x, rfl, rfl⟩)) (fun p _ _ _ _ _ _ _ => ev_tup (ea_cons (ev_v 4 rfl) (ea_cons (ev_v 5 rfl) ea_nil)) (Nat.le_of_ble_eq_true rfl)) (fun _ => rfl))) ?_)
    show PyData.list _ = _
    rw [List.filter_filter]
    unfold fitsAt
    rw [List.filter_congr fun p _ => Bool.and_comm (fitsM p.1 x) (decide (p.1.tr = t))]
def spStands (k : Nat) (ds : List D) (r : D) : Prop := ∃ (v : Wd) (is : List Inst) (t : Str) (x : Srt), is.length ≤ 8 ∧ (∀ i ∈ is, OkA v i) ∧ okS v x = true ∧ x.depth ≤ k ∧ ds = [encIs is, .str t, encS x] ∧ r = .bool (standsM is x t)
abbrev N_stands : List Str := ["instances", "trait", "sort", "number", "one", "other", "part"]
theorem sc_stands : FnScope N_stands ["instances", "trait", "sort"] (defScope (top 65)) := ⟨rfl, rfl, rfl, by decide +kernel, rfl, by decide +kernel, by decide +kernel⟩
theorem ok_stands (B : Blt mg) (D1 : DefD P w K mg base "fitting" 2 ["instances", "trait", "sort"] spFitting) (F : Has K mg "stands" (top 65)) : ∀ k : Nat, DefD P w K mg base "stands" (k + 3) ["instances", "trait", "sort"] (spStands k)
  | 0 => by
    refine def_mk F (fun _ _ _ _ _ _ us hl => match us, hl with | [_, _, _], _ => rfl) fun f fd F => fn_D F sc_stands (fun ds d h => ?_) fun cdv A outer s H E ds d h hr => ?_
    · obtain ⟨v, is, t, x, _, _, _, _, rfl, _⟩ := h
      rfl
    · obtain ⟨v, is, t, x, _, _, _, hd, _⟩ := h
      have := depth_pos x
      omega
  | k + 1 => by
    have D2 := ok_stands B D1 F k
    refine def_mk F (fun _ _ _ _ _ _ us hl => match us, hl with | [_, _, _], _ => rfl) fun f fd F => fn_D F sc_stands (fun ds d h => ?_) fun cdv A outer s H E ds d h hr => ?_
    · obtain ⟨v, is, t, x, _, _, _, _, rfl, _⟩ := h
      rfl
    · obtain ⟨v, is, t, x, hl, ha, ho, hd, rfl, rfl⟩ := h
      refine sv_cons (sv_for (xs := fitsAt is t x) (enc := fun p => .tuple (encN p)) (t := .tup [3, 4]) (fun n env' => (∃ a b, env' = [some (.dat (encIs is)), some (.dat (.str t)), some (.dat (encS x)), a, b, none, none]) ∧ ((fitsAt is t x).take n).all (fun p => !p.1.asks.all (askM is x)) = true) PassesOwn.never rfl
        (iv_list (ev_call D1 (hr.mono (by omega)) rfl (eq_cons (ev_v 0 rfl) (eq_cons (ev_v 1 rfl) (eq_cons (ev_v 2 rfl) eq_nil))) ⟨is, t, x, hl, rfl, rfl⟩)) ⟨⟨none, none, rfl⟩, rfl⟩ (fun p => tg_tup rfl (tgs_cons (fun _ => t_one 3 sc_stands.nd) (tgs_cons (fun _ => t_one 4 sc_stands.nd) tgs_nil)) rfl rfl) ?_ ?_)
      · rintro n ⟨i, j⟩ _ hn ⟨⟨a, b, rfl⟩, ih⟩
        have hm := List.mem_filter.mp (List.mem_of_getElem? hn)
        have hm1 : i ∈ is := by
          have := List.mem_map_of_mem (f := (·.1)) hm.1
          rw [List.zipIdx_map_fst] at this
          exact this
        have hfi : fitsM i x = true := by
          have := hm.2
          rw [Bool.and_eq_true] at this
          exact this.2
        have hia := ha i hm1
        have call : ∀ Y : Cx, True := fun _ => trivial
        refine sv_one (sv_if (k := i.asks.all (askM is x)) (tV (ev_allL B rfl (q := askM is x) (en_mapT (xs := i.asks) (is := [5, 6]) (own := [("other", 5), ("part", 6)]) (encs := encAL) (fun a => .bool (askM is x a)) sc_stands.nd (blkOk_by (N := N_stands) (sc := defScope (top 65)) (by decide +kernel)) (by decide) rfl (iv_tup (ev_ixT (ev_v 4 rfl) ev_int rfl)) (Nat.le_trans hia.asks (by decide)) (fun _ => rfl) (fun _ _ _ _ _ => g_two rfl (g_one 5 sc_stands.nd) (g_one 6 sc_stands.nd))
          (fun a hma _ _ _ _ _ => ?_) (fun _ => rfl)))) (fun q => sv_one (sv_ret ev_bl ?_)) (fun q => sv_nil ⟨⟨_, _, rfl⟩, take_all hn ih (by rw [q]; rfl)⟩))
        · obtain ⟨m, h1, h2⟩ := hia.at_ a hma
          rw [fits_root hfi, okS_root ho] at h1
          cases h1
          obtain ⟨p, hp⟩ : ∃ p, x.sub a.2 = some p := ⟨_, List.getElem?_eq_getElem h2⟩
          have e : askM is x a = standsM is p a.1 := by unfold askM; rw [hp]
          rw [e]
          refine ev_call D2 hr rfl (eq_cons (ev_v 0 rfl) (eq_cons (ev_v 5 rfl) (eq_cons (ev_ixT (ev_v 2 rfl) (ev_add (ev_v 6 rfl) ev_int) (atI_nat (j := a.2 + 1) ?_)) eq_nil))) ⟨v, is, a.1, p, hl, ha, okS_parts ho (sub_mem hp), by have := depth_parts (sub_mem hp); omega, rfl, rfl⟩
          rw [encSL_eq, List.getElem?_cons_succ, List.getElem?_map, show x.parts[a.2]? = some p from hp]
          rfl
        · show PyData.bool true = _
          rw [standsM_eq]
          congr 1
          exact (List.any_eq_true.mpr ⟨(i, j), List.mem_of_getElem? hn, q⟩).symm
      · rintro _ ⟨⟨a, b, rfl⟩, ih⟩
        rw [List.take_length] at ih
        refine sv_one (sv_ret ev_bl ?_)
        show PyData.bool false = _
        rw [standsM_eq]
        congr 1
        cases q : (fitsAt is t x).any fun p => p.1.asks.all (askM is x) with
        | false => rfl
        | true =>
          obtain ⟨p, h1, h2⟩ := List.any_eq_true.mp q
          have h3 := List.all_eq_true.mp ih p h1
          rw [h2] at h3
          cases h3
end
end Tr
set_option Elab.async false
set_option linter.all false
set_option maxRecDepth 100000
set_option maxHeartbeats 1000000
set_option autoImplicit false
/-! M1: what is asked of instances; laid data -/
namespace Tr
open PySem PySem.Spec PyProof.Rows L2 DL
/-! ### reckonings -/
def Rk.cnt : Rk → Nat
  | .plus a b => 1 + a.cnt + b.cnt
  | .times a b => 1 + a.cnt + b.cnt
  | _ => 1
def Rk.depth : Rk → Nat
  | .plus a b => 1 + max a.depth b.depth
  | .times a b => 1 + max a.depth b.depth
  | _ => 1
def Rk.subs : Rk → List Rk
  | .plus a b => [a, b]
  | .times a b => [a, b]
  | _ => []
def Rk.items : Rk → List (Rk ⊕ D)
  | .num n => [.inr (.int (n : Nat))]
  | .mark => []
  | .plus a b => [.inl a, .inl b]
  | .times a b => [.inl a, .inl b]
  | .tell t p => [.inr (.str t), .inr (.int (p : Nat))]
def encIt : Rk ⊕ D → D
  | .inl r => encR r
  | .inr d => d
theorem Rk.depth_pos (r : Rk) : 1 ≤ r.depth := by cases r <;> simp [Rk.depth]
theorem Rk.depth_subs {r p : Rk} (h : p ∈ r.subs) : p.depth < r.depth := by
  cases r with
  | plus a b =>
    simp [Rk.subs] at h
    rcases h with rfl | rfl <;> simp [Rk.depth] <;> omega
  | times a b =>
    simp [Rk.subs] at h
    rcases h with rfl | rfl <;> simp [Rk.depth] <;> omega
  | _ => simp [Rk.subs] at h
theorem Rk.depth_items {r p : Rk} (h : .inl p ∈ r.items) : p.depth < r.depth := by
  refine Rk.depth_subs (r := r) ?_
  cases r <;> simpa [Rk.items, Rk.subs] using h
theorem Rk.items_dat {r : Rk} {d : D} (h : .inr d ∈ r.items) : kitB (tyOf d) "tuple" = some false ∧ isD d = true := by
  cases r with
  | num n => simp [Rk.items] at h; subst h; exact ⟨kb_it, rfl⟩
  | mark => simp [Rk.items] at h
  | plus a b => simp [Rk.items] at h
  | times a b => simp [Rk.items] at h
  | tell t p =>
    simp [Rk.items] at h
    rcases h with rfl | rfl
    · exact ⟨kb_st, rfl⟩
    · exact ⟨kb_it, rfl⟩
theorem Rk.cnt_eq (r : Rk) : r.cnt = 1 + (r.subs.map Rk.cnt).sum := by cases r <;> simp [Rk.cnt, Rk.subs] <;> omega
def word : Rk → Str
  | .num _ => "number"
  | .mark => "mark"
  | .plus _ _ => "plus"
  | .times _ _ => "times"
  | .tell _ _ => "tell"
theorem encRL_eq (r : Rk) : encRL r = .str (word r) :: r.items.map encIt := by cases r <;> rfl
theorem items_len (r : Rk) : r.items.length ≤ 2 := by cases r <;> simp [Rk.items]
def hasT (v : Wd) (t f : Str) : Bool := v.ts.any fun x => decide (x.1 = t) && decide (x.2.1 = f)
def okRk (v : Wd) (n : Int) : Rk → Bool
  | .num m => decide (m ≤ 99)
  | .mark => true
  | .plus a b => okRk v n a && okRk v n b
  | .times a b => okRk v n a && okRk v n b
  | .tell t p => decide ((p : Int) ≤ n - 1) && hasT v t "tell"
theorem okRk_subs {v : Wd} {n : Int} {r p : Rk} (h : okRk v n r = true) (hp : p ∈ r.subs) : okRk v n p = true := by
  cases r with
  | plus a b =>
    simp only [okRk, Bool.and_eq_true] at h
    simp [Rk.subs] at hp
    rcases hp with rfl | rfl
    · exact h.1
    · exact h.2
  | times a b =>
    simp only [okRk, Bool.and_eq_true] at h
    simp [Rk.subs] at hp
    rcases hp with rfl | rfl
    · exact h.1
    · exact h.2
  | _ => simp [Rk.subs] at hp
def okSh (v : Wd) (n : Int) (r : Rk) : Bool := okRk v n r && decide (r.cnt ≤ 15)
theorem Rk.depth_cnt (r : Rk) : r.depth ≤ r.cnt := by
  induction r with
  | plus a b iha ihb => simp [Rk.depth, Rk.cnt]; omega
  | times a b iha ihb => simp [Rk.depth, Rk.cnt]; omega
  | _ => simp [Rk.depth, Rk.cnt]
def okB (v : Wd) (f : Str) (n : Nat) : Bd → Bool
  | .rk r => decide (f = "tell") && okSh v n r
  | .made r ps => !decide (f = "tell") && decide (ps.length = n) && okSh v (-1) r && ps.all fun p => okSh v (-1) p.2 && hasT v p.1 "make"
def ascA : List (Str × Nat) → Bool
  | x :: y :: r => PySem.W.dataLt (encA x) (encA y) && ascA (y :: r)
  | _ => true
structure OkI (v : Wd) (i : Inst) : Prop where
  tr : i.tr ∈ names v
  ar : arC v.cs i.root = some i.lims.length
  n2 : i.lims.length ≤ 2
  lm : ∀ l ∈ i.lims, ∀ x, l = some x → (arC v.cs x).isSome = true
  al : i.asks.length ≤ 3
  aa : ∀ a ∈ i.asks, a.2 < i.lims.length ∧ a.1 ∈ names v
  as : ascA i.asks = true
  bd : ∃ f, formW v i.tr = some f ∧ okB v f i.lims.length i.body = true
theorem OkI.okA {v : Wd} {i : Inst} (h : OkI v i) : OkA v i := ⟨h.n2, h.al, fun a ha => ⟨_, h.ar, (h.aa a ha).1⟩⟩
/-! ### ascending -/
theorem asc_at : ∀ {l : List Str} {k : Nat} {x y : Str}, asc l = true → l[k]? = some x → l[k + 1]? = some y → sLt x y = true
  | [], _, _, _, _, h, _ => by simp at h
  | [a], k, _, _, _, _, h => by simp at h
  | a :: b :: r, 0, x, y, h, h1, h2 => by
    simp only [asc, Bool.and_eq_true] at h
    simp at h1 h2
    subst h1 h2
    exact h.1
  | a :: b :: r, k + 1, x, y, h, h1, h2 => by
    simp only [asc, Bool.and_eq_true] at h
    exact asc_at (l := b :: r) (k := k) h.2 (by simpa using h1) (by simpa using h2)
theorem ascA_at : ∀ {l : List (Str × Nat)} {k : Nat} {x y : Str × Nat}, ascA l = true → l[k]? = some x → l[k + 1]? = some y → PySem.W.dataLt (encA x) (encA y) = true
  | [], _, _, _, _, h, _ => by simp at h
  | [a], k, _, _, _, _, h => by simp at h
  | a :: b :: r, 0, x, y, h, h1, h2 => by
    simp only [ascA, Bool.and_eq_true] at h
    simp at h1 h2
    subst h1 h2
    exact h.1
  | a :: b :: r, k + 1, x, y, h, h1, h2 => by
    simp only [ascA, Bool.and_eq_true] at h
    exact ascA_at (l := b :: r) (k := k) h.2 (by simpa using h1) (by simpa using h2)
theorem sLt_trans {x y z : Str} (h1 : sLt x y = true) (h2 : sLt y z = true) : sLt x z = true := by
  have h1 : x.cps.toList < y.cps.toList := of_decide_eq_true h1
  have h2 : y.cps.toList < z.cps.toList := of_decide_eq_true h2
  exact decide_eq_true (List.lt_trans h1 h2)
theorem asc_lt : ∀ {l : List Str} {a : Str}, asc (a :: l) = true → ∀ b ∈ l, sLt a b = true
  | [], _, _, b, hb => by simp at hb
  | c :: l, a, h, b, hb => by
    simp only [asc, Bool.and_eq_true] at h
    rcases List.mem_cons.mp hb with rfl | hb
    · exact h.1
    · exact sLt_trans h.1 (asc_lt h.2 b hb)
theorem sLt_irrefl (x : Str) : sLt x x = false := decide_eq_false (List.lt_irrefl _)
theorem asc_tail {l : List Str} {a : Str} (h : asc (a :: l) = true) : asc l = true := by
  cases l with
  | nil => rfl
  | cons b l =>
    simp only [asc, Bool.and_eq_true] at h
    exact h.2
theorem asc_nodup : ∀ {l : List Str}, asc l = true → l.Nodup
  | [], _ => List.nodup_nil
  | a :: l, h => by
    refine List.nodup_cons.mpr ⟨fun hm => ?_, asc_nodup (asc_tail h)⟩
    have := asc_lt h a hm
    rw [sLt_irrefl] at this
    cases this
theorem OkW.nd {v : Wd} (h : OkW v) : (v.cs.map (·.1)).Nodup := asc_nodup h.ca
/-! ### laid data -/
theorem lay_of {d : D} (h1 : d.canLay0 = true) (h2 : d.depth ≤ 64) : lay d = true := by
  show (d.canLay0 && decide (d.depth ≤ 64)) = true
  rw [h1, decide_eq_true h2]
  rfl
theorem lay_all {α : Type} (f : α → D) (n : Nat) : ∀ l : List α, (∀ x ∈ l, (f x).canLay0 = true ∧ (f x).depth ≤ n) → PyData.canLayAll0 (l.map f) = true ∧ PyData.depthAll (l.map f) ≤ n
  | [], _ => ⟨rfl, by simp [PyData.depthAll]⟩
  | x :: l, h => by
    obtain ⟨h1, h2⟩ := lay_all f n l fun y hy => h y (List.mem_cons_of_mem _ hy)
    obtain ⟨h3, h4⟩ := h x List.mem_cons_self
    rw [List.map_cons]
    refine ⟨by simp only [PyData.canLayAll0, h1, h3, Bool.and_self], ?_⟩
    simp only [PyData.depthAll]
    omega
theorem lay_listM {α : Type} {f : α → D} {l : List α} {n : Nat} (h : ∀ x ∈ l, (f x).canLay0 = true ∧ (f x).depth ≤ n) (hn : n ≤ 60) : lay (.list (l.map f)) = true := by
  obtain ⟨h1, h2⟩ := lay_all f n l h
  refine lay_of ?_ ?_
  · simp only [PyData.canLay0]
    exact h1
  · simp only [PyData.depth]
    omega
theorem lay_tupleM {α : Type} {f : α → D} {l : List α} {n : Nat} (h : ∀ x ∈ l, (f x).canLay0 = true ∧ (f x).depth ≤ n) : (PyData.tuple (l.map f)).canLay0 = true ∧ (PyData.tuple (l.map f)).depth ≤ n + 1 := by
  obtain ⟨h1, h2⟩ := lay_all f n l h
  refine ⟨?_, ?_⟩
  · simp only [PyData.canLay0]
    exact h1
  · simp only [PyData.depth]
    omega
theorem str_lay {x : Str} (h : PyData.strOk x = true) : (PyData.str x).canLay0 = true := by simp [PyData.canLay0, h]
theorem int_lay (x : Int) : (PyData.int x).canLay0 = true := by simp [PyData.canLay0]
def pairSS (x y : Str) : D := .tuple [.str x, .str y]
theorem pairSS_lay {x y : Str} (hx : PyData.strOk x = true) (hy : PyData.strOk y = true) : (pairSS x y).canLay0 = true ∧ (pairSS x y).depth ≤ 2 := ⟨by simp [pairSS, PyData.canLay0, PyData.canLayAll0, hx, hy], by simp [pairSS, PyData.depth, PyData.depthAll]⟩
theorem hasT_ok {v : Wd} (o : OkW v) {t f : Str} (h : hasT v t f = true) : PyData.strOk t = true := by
  obtain ⟨x, hx, e⟩ := List.any_eq_true.mp h
  rw [Bool.and_eq_true] at e
  rw [← of_decide_eq_true e.1]
  exact (o.st x hx).1
theorem eqv_str (x y : Str) : PyData.eqv (.str x) (.str y) = decide (x = y) := by
  show (x == y) = _
  by_cases h : x = y
  · rw [h]; simp
  · rw [decide_eq_false h]; exact beq_eq_false_iff_ne.mpr h
theorem eqv_pairSS (x y x' y' : Str) : PyData.eqv (pairSS x y) (pairSS x' y') = (decide (x = x') && decide (y = y')) := by
  simp only [pairSS, PyData.eqv, PyData.eqvAll, Bool.and_true]
  rw [← eqv_str, ← eqv_str]
  simp [PyData.eqv]
theorem any_pairs (v : Wd) (t f : Str) : ((v.ts.map fun x => pairSS x.1 x.2.1).any fun z => PyData.eqv z (pairSS t f)) = hasT v t f := by
  rw [List.any_map]
  unfold hasT
  congr 1
  funext x
  exact eqv_pairSS _ _ _ _
/-! ### rules -/
section
variable {X : Cx} {env : DEnv} {pos : Pos} {a e tg : Expr} {d : D}
theorem ev_neg {i : Int} (h : EVd X a env (.int i)) : EVd X (.UnaryOp .USub a pos) env (.int (-i)) := fun Hc σ H hs Q q =>
  wx_of (pe_un un_neg pe_w) (h Hc σ H hs _ fun v Hc1 H1 g p => ⟨i, dp_int p, q _ Hc1 H1 g (L2.Dp.int _)⟩)
theorem iv_rangeZ {p : Pos} {i : Int} (he : EVd X e env (.int i)) (hg : Gl X "range") (hm : X.mg "range" = none) (h0 : -1000000 ≤ i) (hn : i ≤ 1000000) (hs : starEach [e] X.env = [(false, eval e X.env)] := by rfl) : IV X tg (.Call (.Name "range" p) [e] [] pos) env (rangeD i.toNat) :=
  fun Hc σ H hd R r => wi_of (pi_range1 hg hm pa_w hs) ((ea_cons he ea_nil rfl hs) Hc σ H hd _ fun vs Hc1 H1 g p => by
    cases p with
    | cons p t =>
      cases t
      have h62 : (1000000 : Int) < 2 ^ 62 := by decide
      have h63 : -(2 ^ 62) ≤ (-1000000 : Int) := by decide
      refine ⟨i, by rw [dp_int p], by omega, by omega, r _ Hc1 H1 g ?_⟩
      rw [rangeD_len]
      refine (walk_range (lo := 0) (n := i.toNat)).mono (fun _ _ => trivial) fun i H2 x H3 hi _ y => fun Hc2 c s => ?_
      obtain ⟨rfl, rfl⟩ := y
      refine ⟨Hc2, .int (i : Nat), Grow.refl c, ?_, ?_⟩
      · simp [rangeD, hi]
      · have e0 : (0 : Int) + ((i : Nat) : Int) = ((i : Nat) : Int) := Int.zero_add _
        show Dp X.K Hc2 (V.int (0 + ((i : Nat) : Int))) _
        rw [e0]
        exact .int _)
theorem _root_.DL.EVd.unW {v : Wd} (h : EVd X e env (W v)) : EVd X e env (encW v) := fun Hc σ H hs Q q => h Hc σ H hs Q fun u Hc1 H1 g p => q u Hc1 H1 g (show Dp X.K Hc1 u (encW v) from dq_W p)
end
end Tr
set_option Elab.async false
set_option linter.all false
set_option maxRecDepth 100000
set_option maxHeartbeats 1000000
set_option autoImplicit false
namespace Tr
open PySem PySem.Spec PyProof.Rows L2 DL
theorem okT_ear : ∀ {ear : List Str} {l : List (Str × Str × List Str)} {t : Str × Str × List Str} {r : List (Str × Str × List Str)}, l = t :: r → okT ear l = true →
    areSmall t.1 1 6 = true ∧ t.1 ∉ ear ∧ (t.2.1 = "tell" ∨ t.2.1 = "make") ∧ (∀ b ∈ t.2.2, b ∈ ear) ∧ asc t.2.2 = true ∧ t.1.length ≤ sizeLine ∧ okT (ear ++ [t.1]) r = true := by
  rintro ear _ t r rfl h
  simp only [okT, Bool.and_eq_true, Bool.or_eq_true, decide_eq_true_eq, Bool.not_eq_true', List.all_eq_true, List.any_eq_true] at h
  obtain ⟨⟨⟨⟨⟨⟨h1, h2⟩, h3⟩, h4⟩, h5⟩, h6⟩, h7⟩ := h
  refine ⟨h1, fun hm => ?_, h3, fun b hb => ?_, h5, h6, h7⟩
  · have := List.any_eq_false.mp h2 t.1 hm
    simp at this
  · obtain ⟨z, hz, e⟩ := h4 b hb
    rw [← e]
    exact hz
theorem drop_at {α : Type} {l : List α} {n : Nat} {x : α} (h : l[n]? = some x) : l.drop n = x :: l.drop (n + 1) := by
  obtain ⟨h1, rfl⟩ := List.getElem?_eq_some_iff.mp h
  exact List.drop_eq_getElem_cons h1
theorem take_at {α : Type} {l : List α} {n : Nat} {x : α} (h : l[n]? = some x) : l.take (n + 1) = l.take n ++ [x] := by
  rw [List.take_succ, h]
  rfl
section
variable {P : Program} {w : World} {K : PySem.W.Frag} {mg : Str → Option Value} {base : Heap}
def spTraits (ds : List D) (r : D) : Prop := ∃ v : Wd, OkW v ∧ ds = [.tuple (v.ts.map encT)] ∧ r = .bool true
abbrev N_are_traits : List Str := ["value", "earlier", "trait", "name", "form", "below", "one", "k"]
theorem sc_are_traits : FnScope N_are_traits ["value"] (defScope (top 32)) := ⟨rfl, rfl, rfl, by decide +kernel, rfl, by decide +kernel, by decide +kernel⟩
theorem ok_are_traits (B : Blt mg) (D1 : DefD P w K mg base "are_small" 1 ["value", "low", "high"] spSmall) (F : Has K mg "are_traits" (top 32)) : DefD P w K mg base "are_traits" 2 ["value"] spTraits := by
  refine def_mk F (fun _ _ _ _ _ _ us hl => match us, hl with | [_], _ => rfl) fun f fd F => fn_D F sc_are_traits (fun ds d h => ?_) fun cdv A outer s H E ds d h hr => ?_
  · obtain ⟨v, _, rfl, _⟩ := h
    rfl
  · obtain ⟨v, ok, rfl, rfl⟩ := h
    have hb := ok.b4
    refine sv_cons (sv_skip (tE (w_orF (t_notT (tV (ev_isT B (ev_v 0 rfl) kb_tt))) (ew_or1 (t_notT (bT (et_chain ev_int (ev_lenT B (ev_v 0 rfl)) ev_int) ?_))))) ?_)
    · rw [List.length_map, decide_eq_true (show (1 : Int) ≤ (v.ts.length : Nat) by have := ok.t1; omega), decide_eq_true (show ((v.ts.length : Nat) : Int) ≤ 4 by have := ok.t4; omega)]
      rfl
    refine sv_cons (s_setN 1 sc_are_traits.nd (ev_lst ea_nil (Nat.zero_le _)) rfl ?_)
    refine sv_cons (sv_for (xs := v.ts) (enc := encT) (t := .one 2) (fun n env' => ∃ a b c d e g, env' = [some (.dat (.tuple (v.ts.map encT))), some (.own (.list (((v.ts.take n).map (·.1)).map .str))), a, b, c, d, e, g] ∧ okT ((v.ts.take n).map (·.1)) (v.ts.drop n) = true) PassesOwn.never rfl
      (iv_tup (ev_v 0 rfl)) ⟨none, none, none, none, none, none, rfl, ok.tt⟩ (fun _ => t_one 2 sc_are_traits.nd) ?_ ?_)
    · rintro n ⟨nm, fm, bl⟩ _ hn ⟨a, b, c, d, e, g, rfl, ih⟩
      obtain ⟨h1, h2, h3, h4, h5, h6, h7⟩ := okT_ear (drop_at hn) ih
      have hbl := hb _ (List.mem_of_getElem? hn)
      refine sv_cons (sv_skip (tE (w_orF (t_notT (tV (ev_isT B (ev_v 2 rfl) kb_tt))) (w_orF (c_neFI (ev_lenT B (ev_v 2 rfl)) ev_int rfl) (w_orF (t_notT (tV (bV (ev_call D1 (hr.mono (by decide)) rfl (eq_cons (ev_ixT (ev_v 2 rfl) ev_int rfl) (eq_cons ev_int (eq_cons ev_int eq_nil))) ⟨nm, 1, 6, h6, rfl, rfl⟩) h1)))
        (ew_or1 (bT (et_c (ec_in (ev_ixT (ev_v 2 rfl) ev_int rfl) (ev_v 1 rfl) rfl rfl (flat_names _))) ?_)))))) ?_)
      · rw [any_names]
        exact decide_eq_false h2
      refine sv_cons (sv_unpack rfl (tgs_cons (fun _ => t_one 3 sc_are_traits.nd) (tgs_cons (fun _ => t_one 4 sc_are_traits.nd) (tgs_cons (fun _ => t_one 5 sc_are_traits.nd) tgs_nil))) (ev_v 2 rfl) rfl rfl ?_)
      have hin : (PyData.eqv (.str "tell") (.str fm) || (PyData.eqv (.str "make") (.str fm) || false)) = true := by
        rw [eqv_str, eqv_str]
        rcases h3 with h3 | h3
        · rw [decide_eq_true (show ("tell" : Str) = fm from h3.symm)]; rfl
        · rw [decide_eq_true (show ("make" : Str) = fm from h3.symm), Bool.true_or, Bool.or_true]
      refine sv_cons (sv_skip (tE (w_orF (t_notT (tV (ev_isS B (ev_v 4 rfl) kb_ss))) (w_orF (bT (et_c (ec_notin (ev_v 4 rfl) (ev_tup (ea_cons ev_str (ea_cons ev_str ea_nil)) (Nat.le_of_ble_eq_true rfl)) rfl rfl rfl)) ?_) (ew_or1 (t_notT (tV (ev_isT B (ev_v 5 rfl) kb_tt))))))) ?_)
      · show (!(PyData.eqv (.str "tell") (.str fm) || (PyData.eqv (.str "make") (.str fm) || false))) = false
        rw [hin]
        rfl
      refine sv_cons (sv_skip (t_notT (tV (bV (ev_allL B rfl (q := fun b : Str => decide (b ∈ (v.ts.take n).map (·.1))) (en_map1 (xs := bl) (enc := PyData.str) (i := 6) (fun b => .bool (decide (b ∈ (v.ts.take n).map (·.1)))) sc_are_traits.nd (blkOk_by (N := N_are_traits) (sc := defScope (top 32)) (by decide +kernel)) rfl (iv_tup (ev_v 5 rfl)) (Nat.le_trans hbl (by decide)) (fun _ _ _ _ _ => g_one 6 sc_are_traits.nd)
        (fun b _ _ _ _ _ _ => ?_) (fun _ => rfl))) ?_))) ?_)
      · exact v_andT (ev_isS B (ev_v 6 rfl) kb_ss) (ev_one (bV (ev_c (ec_in (ev_v 6 rfl) (ev_v 1 rfl) rfl rfl (flat_names _))) (any_names _ _)))
      · rw [List.all_eq_true]
        exact fun b hb => decide_eq_true (h4 b hb)
      have hlen : ((((bl.map PyData.str).length : Nat) : Int) - 1).toNat = bl.length - 1 := by rw [List.length_map]; omega
      refine sv_cons (sv_skip (t_notT (tV (bV (ev_allL B rfl (q := fun _ => true) (en_map1 (xs := List.range ((((bl.map PyData.str).length : Nat) : Int) - 1).toNat) (enc := fun (k : Nat) => .int (k : Nat)) (i := 7) (fun _ => .bool true) sc_are_traits.nd (blkOk_by (N := N_are_traits) (sc := defScope (top 32)) (by decide +kernel)) rfl
        (iv_rangeZ (ev_sub (ev_lenT B (ev_v 5 rfl)) ev_int) rfl B.range (by omega) (by rw [List.length_map]; have hbl : bl.length ≤ 4 := hbl; omega)) (Nat.le_trans (by rw [List.length_range, hlen]; have hbl : bl.length ≤ 4 := hbl; omega : _ ≤ 4) (by decide)) (fun _ _ _ _ _ => g_one 7 sc_are_traits.nd)
        (fun k hk _ _ _ _ _ => ?_) (fun _ => rfl))) ?_))) ?_)
      · rw [List.mem_range, hlen] at hk
        have k1 : bl[k]? = some bl[k] := List.getElem?_eq_getElem (by omega)
        have k2 : bl[k + 1]? = some bl[k + 1] := List.getElem?_eq_getElem (by omega)
        exact bV (ev_c (ec_ltS (ev_ixT (ev_v 5 rfl) (ev_v 7 rfl) (atI_nat (j := k) (by rw [List.getElem?_map, k1]; rfl))) (ev_ixT (ev_v 5 rfl) (ev_add (ev_v 7 rfl) ev_int) (atI_nat (j := k + 1) (by rw [List.getElem?_map, k2]; rfl))))) (asc_at h5 k1 k2)
      · rw [List.all_eq_true]
        exact fun _ _ => rfl
      refine sv_one (sv_append (pe_bm PySem.F.plainAttrs_list PySem.F.slot_list_append PySem.F.type_list_append mt_append (pv 1) (pa_cons pe_w pa_nil)) rfl (ev_v 3 rfl) rfl ?_ ?_)
      · show (((v.ts.take n).map (·.1)).map PyData.str).length < sizeLine
        rw [List.length_map, List.length_map, List.length_take]
        exact Nat.lt_of_le_of_lt (Nat.min_le_right _ _) (Nat.lt_of_le_of_lt ok.t4 (by decide))
      · have e1 : ((v.ts.take (n + 1)).map (·.1)).map PyData.str = ((v.ts.take n).map (·.1)).map PyData.str ++ [.str nm] := by
          rw [take_at hn, List.map_append, List.map_append]
          rfl
        show (∃ a b c d e g : Option Sl, (_ : SEnv) = [some (Sl.dat (.tuple (v.ts.map encT))), some (Sl.own (.list (((v.ts.take (n + 1)).map (·.1)).map .str))), a, b, c, d, e, g] ∧ okT ((v.ts.take (n + 1)).map (·.1)) (v.ts.drop (n + 1)) = true)
        rw [e1]
        refine ⟨_, _, _, _, _, _, rfl, ?_⟩
        rw [take_at hn, List.map_append]
        exact h7
    · rintro _ ⟨a, b, c, d, e, g, rfl, ih⟩
      exact sv_one (sv_ret ev_bl rfl)
def spWorld (ds : List D) (r : D) : Prop := ∃ v : Wd, OkW v ∧ ds = [W v] ∧ r = .bool true
abbrev N_is_world : List Str := ["value", "some", "one", "k", "name", "parts"]
theorem sc_is_world : FnScope N_is_world ["value"] (defScope (top 33)) := ⟨rfl, rfl, rfl, by decide +kernel, rfl, by decide +kernel, by decide +kernel⟩
theorem ok_is_world (B : Blt mg) (D1 : DefD P w K mg base "is_constructor" 2 ["value"] spCtor) (D2 : DefD P w K mg base "are_traits" 2 ["value"] spTraits) (F : Has K mg "is_world" (top 33)) : DefD P w K mg base "is_world" 3 ["value"] spWorld := by
  refine def_mk F (fun _ _ _ _ _ _ us hl => match us, hl with | [_], _ => rfl) fun f fd F => fn_D F sc_is_world (fun ds d h => ?_) fun cdv A outer s H E ds d h hr => ?_
  · obtain ⟨v, _, rfl, _⟩ := h
    rfl
  · obtain ⟨v, ok, rfl, rfl⟩ := h
    have hb := ok.b4
    have hc4 := ok.c4
    have hc1 := ok.c1
    have hl : ((v.cs.map encC).length : Nat) = v.cs.length := List.length_map _
    refine sv_cons (sv_skip (tE (w_orF (t_notT (tV (ev_isT B (EVd.unW (ev_v 0 rfl)) kb_tt))) (w_orF (c_neFI (ev_lenT B (EVd.unW (ev_v 0 rfl))) ev_int rfl) (ew_or1 (t_notT (tV (ev_isT B (ev_W (d := .tuple (v.cs.map encC)) 0 rfl rfl) kb_tt))))))) ?_)
    refine sv_cons (s_set 1 sc_is_world.nd (ev_W 0 rfl rfl) ?_)
    refine sv_cons (sv_skip (tE (w_orF (t_notT (bT (et_chain ev_int (ev_lenT B (ev_v 1 rfl)) ev_int) ?_)) (ew_or1 (t_notT (tV (bV (ev_allL B rfl (q := fun _ : Str × Nat => true) (en_map1 (xs := v.cs) (enc := encC) (i := 2) (fun _ => .bool true) sc_is_world.nd (blkOk_by (N := N_is_world) (sc := defScope (top 33)) (by decide +kernel)) rfl (iv_tup (ev_v 1 rfl)) (Nat.le_trans hc4 (by decide)) (fun _ _ _ _ _ => g_one 2 sc_is_world.nd)
      (fun c hc _ _ _ _ _ => ?_) (fun _ => rfl))) ?_)))))) ?_)
    · rw [hl, decide_eq_true (show (1 : Int) ≤ (v.cs.length : Nat) by omega), decide_eq_true (show ((v.cs.length : Nat) : Int) ≤ 4 by omega)]
      rfl
    · exact ev_call D1 (hr.mono (by decide)) rfl (eq_cons (ev_v 2 rfl) eq_nil) ⟨c, ok.cn c hc, rfl, rfl⟩
    · exact List.all_eq_true.mpr fun _ _ => rfl
    have hlen : ((((v.cs.map encC).length : Nat) : Int) - 1).toNat = v.cs.length - 1 := by rw [hl]; omega
    refine sv_cons (sv_skip (t_notT (tV (bV (ev_allL B rfl (q := fun _ : Nat => true) (en_map1 (xs := List.range ((((v.cs.map encC).length : Nat) : Int) - 1).toNat) (enc := fun (k : Nat) => .int (k : Nat)) (i := 3) (fun _ => .bool true) sc_is_world.nd (blkOk_by (N := N_is_world) (sc := defScope (top 33)) (by decide +kernel)) rfl
      (iv_rangeZ (ev_sub (ev_lenT B (ev_v 1 rfl)) ev_int) rfl B.range (by omega) (by omega)) (Nat.le_trans (by rw [List.length_range, hlen]; omega : _ ≤ 4) (by decide)) (fun _ _ _ _ _ => g_one 3 sc_is_world.nd)
      (fun k hk _ _ _ _ _ => ?_) (fun _ => rfl))) ?_))) ?_)
    · rw [List.mem_range, hlen] at hk
      have k1 : v.cs[k]? = some v.cs[k] := List.getElem?_eq_getElem (by omega)
      have k2 : v.cs[k + 1]? = some v.cs[k + 1] := List.getElem?_eq_getElem (by omega)
      exact bV (ev_c (ec_ltS (ev_ixT (ev_ixT (ev_v 1 rfl) (ev_v 3 rfl) (atI_nat (j := k) (by rw [List.getElem?_map, k1]; rfl))) ev_int rfl) (ev_ixT (ev_ixT (ev_v 1 rfl) (ev_add (ev_v 3 rfl) ev_int) (atI_nat (j := k + 1) (by rw [List.getElem?_map, k2]; rfl))) ev_int rfl)))
        (asc_at (k := k) ok.ca (by rw [List.getElem?_map, k1]; rfl) (by rw [List.getElem?_map, k2]; rfl))
    · exact List.all_eq_true.mpr fun _ _ => rfl
    refine sv_one (sv_ret (v_andT (bV (ev_anyL B rfl (q := fun c : Str × Nat => decide (((c.2 : Nat) : Int) = 0)) (en_mapT (xs := v.cs) (is := [4, 5]) (own := [("name", 4), ("parts", 5)]) (encs := encCL) (fun c => .bool (decide (((c.2 : Nat) : Int) = 0))) sc_is_world.nd (blkOk_by (N := N_is_world) (sc := defScope (top 33)) (by decide +kernel)) (by decide) rfl (iv_tup (ev_v 1 rfl)) (Nat.le_trans hc4 (by decide)) (fun _ => rfl) (fun _ _ _ _ _ => g_two rfl (g_one 4 sc_is_world.nd) (g_one 5 sc_is_world.nd))
      (fun c _ _ _ _ _ _ => ?_) (fun _ => rfl))) ?_) (ev_one (ev_call D2 (hr.mono (by decide)) rfl (eq_cons (ev_W 0 rfl rfl) eq_nil) ⟨v, ok, rfl, rfl⟩))) rfl)
    · exact ev_c (ec_eqI (ev_v 5 rfl) ev_int)
    · have := ok.c0
      rw [← this]
      congr 1
      funext c
      by_cases h : c.2 = 0
      · rw [decide_eq_true h, h]; rfl
      · rw [decide_eq_false h, decide_eq_false (by omega)]
def spCheckW (ds : List D) (r : D) : Prop := ∃ v : Wd, OkW v ∧ ds = [W v] ∧ r = .none
abbrev N_check_world : List Str := ["value"]
theorem sc_check_world : FnScope N_check_world ["value"] (defScope (top 34)) := ⟨rfl, rfl, rfl, by decide +kernel, rfl, by decide +kernel, by decide +kernel⟩
theorem ok_check_world (B : Blt mg) (D1 : DefD P w K mg base "is_world" 3 ["value"] spWorld) (F : Has K mg "check_world" (top 34)) : DefD P w K mg base "check_world" 4 ["value"] spCheckW := by
  refine def_mk F (fun _ _ _ _ _ _ us hl => match us, hl with | [_], _ => rfl) fun f fd F => fn_D F sc_check_world (fun ds d h => ?_) fun cdv A outer s H E ds d h hr => ?_
  · obtain ⟨v, _, rfl, _⟩ := h
    rfl
  · obtain ⟨v, ok, rfl, rfl⟩ := h
    have hb := ok.b4
    exact sv_one (sv_skip (t_notT (tV (ev_call D1 (hr.mono (by decide)) rfl (eq_cons (ev_v 0 rfl) eq_nil) ⟨v, ok, rfl, rfl⟩))) rfl)
end
end Tr
set_option Elab.async false
set_option linter.all false
set_option maxRecDepth 100000
set_option maxHeartbeats 1000000
set_option autoImplicit false
namespace Tr
open PySem PySem.Spec PyProof.Rows L2 DL
theorem word_num {x y : Str} (h : decide (x = y) = false) : ¬ x = y := of_decide_eq_false h
section
variable {P : Program} {w : World} {K : PySem.W.Frag} {mg : Str → Option Value} {base : Heap}
def spCnt (k : Nat) (ds : List D) (r : D) : Prop := ∃ x : Rk, x.depth ≤ k ∧ ds = [encR x] ∧ r = .int (x.cnt : Nat)
def cntIt : Rk ⊕ D → D
  | .inl a => .int (a.cnt : Nat)
  | .inr _ => .none
abbrev N_reckoned : List Str := ["value", "part"]
theorem sc_reckoned : FnScope N_reckoned ["value"] (defScope (top 42)) := ⟨rfl, rfl, rfl, by decide +kernel, rfl, by decide +kernel, by decide +kernel⟩
theorem ok_reckoned (B : Blt mg) (F : Has K mg "reckoned" (top 42)) : ∀ k : Nat, DefD P w K mg base "reckoned" (k + 1) ["value"] (spCnt k)
  | 0 => by
    refine def_mk F (fun _ _ _ _ _ _ us hl => match us, hl with | [_], _ => rfl) fun f fd F => fn_D F sc_reckoned (fun ds d h => ?_) fun cdv A outer s H E ds d h hr => ?_
    · obtain ⟨x, _, rfl, _⟩ := h
      rfl
    · obtain ⟨x, hd, _⟩ := h
      have := x.depth_pos
      omega
  | k + 1 => by
    have D1 := ok_reckoned B F k
    refine def_mk F (fun _ _ _ _ _ _ us hl => match us, hl with | [_], _ => rfl) fun f fd F => fn_D F sc_reckoned (fun ds d h => ?_) fun cdv A outer s H E ds d h hr => ?_
    · obtain ⟨x, _, rfl, _⟩ := h
      rfl
    · obtain ⟨x, hd, rfl, rfl⟩ := h
      have hcut : DL.cutD (encRL x) (some 1) none = x.items.map encIt := by rw [encRL_eq, cut_1]
      have hfl : (x.items.filter fun i => i.isLeft).map cntIt = x.subs.map fun a => (.int (a.cnt : Nat) : D) := by cases x <;> rfl
      have main : ∀ (X : Cx) (env : DEnv) (e : Expr), EVn X e env ((x.items.filter fun i => i.isLeft).map cntIt) → EVn X e env (x.subs.map fun a => (.int (a.cnt : Nat) : D)) := fun X env e h => by rw [← hfl]; exact h
      refine sv_one (sv_ret (ev_add ev_int (ev_sumN B rfl (main _ _ _ (en_fil1 (xs := x.items) (enc := encIt) (i := 1) (fun i => i.isLeft) cntIt sc_reckoned.nd (blkOk_by (N := N_reckoned) (sc := defScope (top 42)) (by decide +kernel)) rfl (iv_tup (EVd.is (ev_slT (ev_v 0 rfl) (eo_some ev_int) eo_none) (congrArg PyData.tuple hcut))) (Nat.le_trans (items_len x) (by decide)) (fun _ _ _ _ _ => g_one 1 sc_reckoned.nd)
        (fun i hi _ _ _ _ _ => ?_) (fun i hi hl _ _ _ _ _ => ?_) ?_)))) ?_)
      · cases i with
        | inl a => exact tV (ev_isT B (ev_v 1 rfl) kb_tt)
        | inr d => exact tV (ev_isT B (ev_v 1 rfl) (Rk.items_dat hi).1 (Rk.items_dat hi).2)
      · cases i with
        | inl a => exact ev_call D1 hr rfl (eq_cons (ev_v 1 rfl) eq_nil) ⟨a, by have := Rk.depth_items hi; omega, rfl, rfl⟩
        | inr d => cases hl
      · intro a
        cases a <;> rfl
      · show PyData.int (1 + _) = _
        congr 1
        rw [x.cnt_eq]
        show (1 : Int) + ((x.subs.map Rk.cnt).sum : Nat) = _
        omega
def spRk (k : Nat) (ds : List D) (r : D) : Prop := ∃ (v : Wd) (x : Rk) (n : Int), OkW v ∧ okRk v n x = true ∧ x.depth ≤ k ∧ ds = [W v, encR x, .int n] ∧ r = .bool true
abbrev N_is_reckoning : List Str := ["world", "value", "parts", "part", "row"]
theorem sc_is_reckoning : FnScope N_is_reckoning ["world", "value", "parts"] (defScope (top 43)) := ⟨rfl, rfl, rfl, by decide +kernel, rfl, by decide +kernel, by decide +kernel⟩
theorem ok_is_reckoning (B : Blt mg) (D2 : DefD P w K mg base "is_between" 1 ["value", "low", "high"] spBetween) (F : Has K mg "is_reckoning" (top 43)) : ∀ k : Nat, DefD P w K mg base "is_reckoning" (k + 2) ["world", "value", "parts"] (spRk k)
  | 0 => by
    refine def_mk F (fun _ _ _ _ _ _ us hl => match us, hl with | [_, _, _], _ => rfl) fun f fd F => fn_D F sc_is_reckoning (fun ds d h => ?_) fun cdv A outer s H E ds d h hr => ?_
    · obtain ⟨v, x, n, _, _, _, rfl, _⟩ := h
      rfl
    · obtain ⟨v, x, n, _, _, hd, _⟩ := h
      have := x.depth_pos
      omega
  | k + 1 => by
    have D1 := ok_is_reckoning B D2 F k
    refine def_mk F (fun _ _ _ _ _ _ us hl => match us, hl with | [_, _, _], _ => rfl) fun f fd F => fn_D F sc_is_reckoning (fun ds d h => ?_) fun cdv A outer s H E ds d h hr => ?_
    · obtain ⟨v, x, n, _, _, _, rfl, _⟩ := h
      rfl
    · obtain ⟨v, x, n, ok, hx, hd, rfl, rfl⟩ := h
      have hlen : (encRL x).length = x.items.length + 1 := by rw [encRL_eq, List.length_cons, List.length_map]
      have hpos : ¬ ((encRL x).length : Int) = 0 := by omega
      have h0 : atI (encRL x) 0 = some (.str (word x)) := atI_nat (j := 0) (by rw [encRL_eq]; rfl)
      refine sv_cons (sv_skip (tE (w_orF (t_notT (tV (ev_isT B (ev_v 1 rfl) kb_tt))) (w_orF (c_eqFI (ev_lenT B (ev_v 1 rfl)) ev_int hpos) (ew_or1 (t_notT (tV (ev_isS B (ev_ixT (ev_v 1 rfl) ev_int h0) kb_ss))))))) ?_)
      have form : (∃ a b, encRL x = [.str (word x), encR a, encR b] ∧ a.depth ≤ k ∧ b.depth ≤ k ∧ okRk v n a = true ∧ okRk v n b = true ∧ word x ≠ "number" ∧ word x ≠ "mark" ∧ ("plus" = word x ∨ "times" = word x)) ∨ (∀ a b, x ≠ .plus a b ∧ x ≠ .times a b) := by
        cases x with
        | plus a b =>
          simp only [okRk, Bool.and_eq_true] at hx
          simp only [Rk.depth] at hd
          exact .inl ⟨a, b, rfl, by omega, by omega, hx.1, hx.2, (show ("plus" : Str) ≠ "number" by decide), (show ("plus" : Str) ≠ "mark" by decide), .inl rfl⟩
        | times a b =>
          simp only [okRk, Bool.and_eq_true] at hx
          simp only [Rk.depth] at hd
          exact .inl ⟨a, b, rfl, by omega, by omega, hx.1, hx.2, (show ("times" : Str) ≠ "number" by decide), (show ("times" : Str) ≠ "mark" by decide), .inr rfl⟩
        | _ => exact .inr fun a b => ⟨fun q => (nomatch q), fun q => (nomatch q)⟩
      rcases form with ⟨a, b, he, da, db, oa, ob, w1, w2, w3⟩ | hne
      · refine sv_cons (sv_skip (c_eqFS (ev_ixT (ev_v 1 rfl) ev_int h0) ev_str w1) ?_)
        refine sv_cons (sv_skip (c_eqFS (ev_ixT (ev_v 1 rfl) ev_int h0) ev_str w2) ?_)
        have hcut : DL.cutD (encRL x) (some 1) none = [a, b].map encR := by rw [he, cut_1]; rfl
        refine sv_cons (sv_then (bT (et_c (ec_in (ev_ixT (ev_v 1 rfl) ev_int h0) (ev_tup (ea_cons ev_str (ea_cons ev_str ea_nil)) (Nat.le_of_ble_eq_true rfl)) rfl rfl rfl)) ?_) (sv_one (sv_ret (v_andT (bV (ev_c (ec_eqI (ev_lenT B (ev_v 1 rfl)) ev_int)) ?_) (ev_one (ev_allL B rfl (q := fun _ : Rk => true) (en_map1 (xs := [a, b]) (enc := encR) (i := 3) (fun _ => .bool true) sc_is_reckoning.nd (blkOk_by (N := N_is_reckoning) (sc := defScope (top 43)) (by decide +kernel)) rfl (iv_tup (EVd.is (ev_slT (ev_v 1 rfl) (eo_some ev_int) eo_none) (congrArg PyData.tuple hcut))) (Nat.le_of_ble_eq_true rfl) (fun _ _ _ _ _ => g_one 3 sc_is_reckoning.nd)
          (fun r hm _ _ _ _ _ => ?_) (fun _ => rfl))))) rfl)))
        · show (PyData.eqv (.str "plus") (.str (word x)) || (PyData.eqv (.str "times") (.str (word x)) || false)) = true
          rw [eqv_str, eqv_str]
          rcases w3 with w3 | w3
          · rw [decide_eq_true w3]; rfl
          · rw [decide_eq_true w3, Bool.true_or, Bool.or_true]
        · rw [he]
          rfl
        · have hr2 : okRk v n r = true ∧ r.depth ≤ k := by
            simp at hm
            rcases hm with rfl | rfl
            · exact ⟨oa, da⟩
            · exact ⟨ob, db⟩
          exact ev_call D1 hr rfl (eq_cons (ev_v 0 rfl) (eq_cons (ev_v 3 rfl) (eq_cons (ev_v 2 rfl) eq_nil))) ⟨v, r, n, ok, hr2.1, hr2.2, rfl, rfl⟩
      cases x with
      | num m =>
        refine sv_cons (sv_then (c_eqTS (ev_ixT (ev_v 1 rfl) ev_int rfl) ev_str rfl) (sv_one (sv_ret (v_andT (bV (ev_c (ec_eqI (ev_lenT B (ev_v 1 rfl)) ev_int)) rfl) (ev_one (ev_call D2 (hr.mono (by omega)) rfl (eq_cons (ev_ixT (ev_v 1 rfl) ev_int rfl) (eq_cons ev_int (eq_cons ev_int eq_nil))) ⟨(m : Nat), 0, 99, rfl, rfl⟩))) ?_)))
        have hm : decide (m ≤ 99) = true := hx
        have hm := of_decide_eq_true hm
        show PyData.bool (decide ((0 : Int) ≤ (m : Nat)) && decide (((m : Nat) : Int) ≤ 99)) = _
        rw [decide_eq_true (show (0 : Int) ≤ (m : Nat) by omega), decide_eq_true (show ((m : Nat) : Int) ≤ 99 by omega)]
        rfl
      | mark =>
        refine sv_cons (sv_skip (c_eqFS (ev_ixT (ev_v 1 rfl) ev_int rfl) ev_str (by decide)) ?_)
        exact sv_cons (sv_then (c_eqTS (ev_ixT (ev_v 1 rfl) ev_int rfl) ev_str rfl) (sv_one (sv_ret (bV (ev_c (ec_eqI (ev_lenT B (ev_v 1 rfl)) ev_int)) rfl) rfl)))
      | plus a b => exact absurd rfl (hne a b).1
      | times a b => exact absurd rfl (hne a b).2
      | tell t p =>
        simp only [okRk, Bool.and_eq_true, decide_eq_true_eq] at hx
        refine sv_cons (sv_skip (c_eqFS (ev_ixT (ev_v 1 rfl) ev_int rfl) ev_str (by decide)) ?_)
        refine sv_cons (sv_skip (c_eqFS (ev_ixT (ev_v 1 rfl) ev_int rfl) ev_str (by decide)) ?_)
        refine sv_cons (sv_skip (bT (et_c (ec_in (ev_ixT (d := .str "tell") (ev_v 1 rfl) ev_int rfl) (ev_tup (ea_cons ev_str (ea_cons ev_str ea_nil)) (Nat.le_of_ble_eq_true rfl)) rfl rfl rfl)) (by decide)) ?_)
        refine sv_cons (sv_skip (tE (w_orF (c_neFS (ev_ixT (ev_v 1 rfl) ev_int rfl) ev_str rfl) (w_orF (c_neFI (ev_lenT B (ev_v 1 rfl)) ev_int rfl) (ew_or1 (t_notT (tV (bV (ev_call D2 (hr.mono (by omega)) rfl (eq_cons (ev_ixT (ev_v 1 rfl) ev_int rfl) (eq_cons ev_int (eq_cons (ev_sub (ev_v 2 rfl) ev_int) eq_nil))) ⟨(p : Nat), 0, n - 1, rfl, rfl⟩) ?_))))))) ?_)
        · rw [decide_eq_true (show (0 : Int) ≤ (p : Nat) by omega), decide_eq_true hx.1]
          rfl
        refine sv_one (sv_ret (v_andT (ev_isS B (ev_ixT (d := .str t) (ev_v 1 rfl) ev_int rfl) kb_ss) (ev_one (bV (ev_c (ec_inD (hr.u 65) (ev_tup (ea_cons (ev_ixT (ev_v 1 rfl) ev_int rfl) (ea_cons ev_str ea_nil)) (Nat.le_of_ble_eq_true rfl)) (EVn.toD (en_map1 (xs := v.ts) (enc := encT) (i := 4) (fun x => pairSS x.1 x.2.1) sc_is_reckoning.nd (blkOk_by (N := N_is_reckoning) (sc := defScope (top 43)) (by decide +kernel)) rfl (iv_tup (ev_W 0 rfl rfl)) (Nat.le_trans ok.t4 (by decide)) (fun _ _ _ _ _ => g_one 4 sc_is_reckoning.nd)
          (fun r hr _ _ _ _ _ => ?_) (fun _ => rfl))) ?_ ?_)) ?_))) rfl)
        · exact EVd.is (ev_slT (ev_v 4 rfl) eo_none (eo_some ev_int)) rfl
        · exact lay_of (pairSS_lay (hasT_ok ok hx.2) (by decide +kernel)).1 (Nat.le_trans (pairSS_lay (hasT_ok ok hx.2) (by decide +kernel)).2 (by decide))
        · exact lay_listM (n := 2) (fun r hr => pairSS_lay (ok.st r hr).1 (ok.st r hr).2) (by decide)
        · exact (any_pairs v t "tell").trans hx.2
end
end Tr
set_option Elab.async false
set_option linter.all false
set_option maxRecDepth 100000
set_option maxHeartbeats 1000000
set_option autoImplicit false
namespace Tr
open PySem PySem.Spec PyProof.Rows L2 DL
theorem cut_2 (x y : D) (ds : List D) : DL.cutD (x :: y :: ds) (some 2) none = ds := by
  have e : HT.sIx (ds.length + 2) 0 (some 2) = 2 := by
    simp [HT.sIx]
  have e2 : HT.sIx (ds.length + 2) (ds.length + 2) none = ds.length + 2 := by simp [HT.sIx]
  unfold DL.cutD
  rw [List.length_cons, List.length_cons, e, e2]
  simp
theorem alikeA (x y : Str × Nat) : PySem.W.alike (encA x) (encA y) = true := by simp [encA, encAL, PySem.W.alike, PySem.W.alikeAll]
theorem depthA (x : Str × Nat) : (encA x).depth ≤ 2 := by simp [encA, encAL, PyData.depth, PyData.depthAll]
theorem w_pair {X : Cx} {env : DEnv} {v : Wd} {t f : Str} {a : Expr} {d : D} : True := trivial
section
variable {P : Program} {w : World} {K : PySem.W.Frag} {mg : Str → Option Value} {base : Heap}
def spShort (ds : List D) (r : D) : Prop := ∃ (v : Wd) (x : Rk) (n : Int), OkW v ∧ okSh v n x = true ∧ ds = [W v, encR x, .int n] ∧ r = .bool true
abbrev N_is_short : List Str := ["world", "value", "parts"]
theorem sc_is_short : FnScope N_is_short ["world", "value", "parts"] (defScope (top 44)) := ⟨rfl, rfl, rfl, by decide +kernel, rfl, by decide +kernel, by decide +kernel⟩
theorem ok_is_short (B : Blt mg) (D1 : DefD P w K mg base "is_reckoning" (15 + 2) ["world", "value", "parts"] (spRk 15)) (D2 : DefD P w K mg base "reckoned" (15 + 1) ["value"] (spCnt 15)) (F : Has K mg "is_short" (top 44)) : DefD P w K mg base "is_short" 18 ["world", "value", "parts"] spShort := by
  refine def_mk F (fun _ _ _ _ _ _ us hl => match us, hl with | [_, _, _], _ => rfl) fun f fd F => fn_D F sc_is_short (fun ds d h => ?_) fun cdv A outer s H E ds d h hr => ?_
  · obtain ⟨v, x, n, _, _, rfl, _⟩ := h
    rfl
  · obtain ⟨v, x, n, ok, hx, rfl, rfl⟩ := h
    unfold okSh at hx
    rw [Bool.and_eq_true] at hx
    have h15 := of_decide_eq_true hx.2
    have hd := x.depth_cnt
    exact sv_one (sv_ret (v_andT (ev_call D1 (hr.mono (by decide)) rfl (eq_cons (ev_v 0 rfl) (eq_cons (ev_v 1 rfl) (eq_cons (ev_v 2 rfl) eq_nil))) ⟨v, x, n, ok, hx.1, by omega, rfl, rfl⟩) (ev_one (bV (ev_c (ec_le (ev_call D2 (hr.mono (by decide)) rfl (eq_cons (ev_v 1 rfl) eq_nil) ⟨x, by omega, rfl, rfl⟩) ev_int)) (decide_eq_true (by omega))))) rfl)
def spBody (ds : List D) (r : D) : Prop := ∃ (v : Wd) (t f root : Str) (n : Nat) (b : Bd), OkW v ∧ formW v t = some f ∧ arC v.cs root = some n ∧ n ≤ 2 ∧ okB v f n b = true ∧ ds = [W v, .str t, .str root, encB b] ∧ r = .bool true
abbrev N_is_body : List Str := ["world", "trait", "root", "value", "parts", "part", "row"]
theorem sc_is_body : FnScope N_is_body ["world", "trait", "root", "value"] (defScope (top 45)) := ⟨rfl, rfl, rfl, by decide +kernel, rfl, by decide +kernel, by decide +kernel⟩
theorem ok_is_body (B : Blt mg) (D1 : DefD P w K mg base "is_short" 18 ["world", "value", "parts"] spShort) (D2 : DefD P w K mg base "form_of" 1 ["world", "trait"] spForm) (F : Has K mg "is_body" (top 45)) : DefD P w K mg base "is_body" 19 ["world", "trait", "root", "value"] spBody := by
  refine def_mk F (fun _ _ _ _ _ _ us hl => match us, hl with | [_, _, _, _], _ => rfl) fun f fd F => fn_D F sc_is_body (fun ds d h => ?_) fun cdv A outer s H E ds d h hr => ?_
  · obtain ⟨v, t, f, root, n, b, _, _, _, _, _, rfl, _⟩ := h
    rfl
  · obtain ⟨v, t, fo, root, n, b, ok, hf, hn, h2, hb, rfl, rfl⟩ := h
    refine sv_cons (s_set 4 sc_is_body.nd (ev_dget (hr.u 1) (ev_dictW 0 B rfl rfl ok.nd) (ev_v 2 rfl) hn) ?_)
    cases b with
    | rk x =>
      simp only [okB, Bool.and_eq_true, decide_eq_true_eq] at hb
      exact sv_cons (sv_then (c_eqTS (ev_call D2 (hr.mono (by decide)) rfl (eq_cons (ev_v 0 rfl) (eq_cons (ev_v 1 rfl) eq_nil)) ⟨v, t, fo, ok.t4, rfl, hf, rfl⟩) ev_str hb.1) (sv_one (sv_ret (ev_call D1 (hr.mono (by decide)) rfl (eq_cons (ev_v 0 rfl) (eq_cons (ev_v 3 rfl) (eq_cons (ev_v 4 rfl) eq_nil))) ⟨v, x, n, ok, hb.2, rfl, rfl⟩) rfl)))
    | made x ps =>
      simp only [okB, Bool.and_eq_true, decide_eq_true_eq, Bool.not_eq_true', decide_eq_false_iff_not, List.all_eq_true] at hb
      obtain ⟨⟨⟨h1, hl⟩, hx⟩, hp⟩ := hb
      have hlen : (encBL (.made x ps)).length = ps.length + 2 := by simp [encBL]
      refine sv_cons (sv_skip (c_eqFS (ev_call D2 (hr.mono (by decide)) rfl (eq_cons (ev_v 0 rfl) (eq_cons (ev_v 1 rfl) eq_nil)) ⟨v, t, fo, ok.t4, rfl, hf, rfl⟩) ev_str h1) ?_)
      refine sv_cons (sv_skip (tE (w_orF (t_notT (tV (ev_isT B (ev_v 3 rfl) kb_tt))) (w_orF (c_neFI (ev_lenT B (ev_v 3 rfl)) (ev_add ev_int (ev_v 4 rfl)) (by rw [hlen]; omega)) (ew_or1 (c_neFS (ev_ixT (ev_v 3 rfl) ev_int (atI_nat (j := 0) rfl)) ev_str rfl))))) ?_)
      refine sv_cons (sv_skip (t_notT (tV (ev_call D1 (hr.mono (by decide)) rfl (eq_cons (ev_v 0 rfl) (eq_cons (ev_ixT (ev_v 3 rfl) ev_int (atI_nat (j := 1) rfl)) (eq_cons (ev_neg ev_int) eq_nil))) ⟨v, x, -1, ok, hx, rfl, rfl⟩))) ?_)
      refine sv_cons (sv_for (xs := ps) (enc := encP) (t := .one 5) (fun _ env' => ∃ a, env' = [some (.dat (W v)), some (.dat (.str t)), some (.dat (.str root)), some (.dat (encB (.made x ps))), some (.dat (.int (n : Nat))), a, none]) PassesOwn.never rfl
        (iv_tup (EVd.is (ev_slT (ev_v 3 rfl) (eo_some ev_int) eo_none) (by rw [encBL, cut_2]))) ⟨none, rfl⟩ (fun _ => t_one 5 sc_is_body.nd) ?_ ?_)
      · rintro m ⟨o, y⟩ _ hm ⟨a, rfl⟩
        obtain ⟨hy, ho⟩ := hp _ (List.mem_of_getElem? hm)
        refine sv_cons (sv_skip (tE (w_orF (t_notT (tV (ev_isT B (ev_v 5 rfl) kb_tt))) (w_orF (c_neFI (ev_lenT B (ev_v 5 rfl)) ev_int rfl) (ew_or1 (t_notT (tV (ev_call D1 (hr.mono (by decide)) rfl (eq_cons (ev_v 0 rfl) (eq_cons (ev_ixT (ev_v 5 rfl) ev_int rfl) (eq_cons (ev_neg ev_int) eq_nil))) ⟨v, y, -1, ok, hy, rfl, rfl⟩))))))) ?_)
        refine sv_one (sv_skip (tE (w_orF (t_notT (tV (ev_isS B (ev_ixT (d := .str o) (ev_v 5 rfl) ev_int rfl) kb_ss))) (ew_or1 (bT (et_c (ec_notinD (hr.u 65) (ev_tup (ea_cons (ev_ixT (ev_v 5 rfl) ev_int rfl) (ea_cons ev_str ea_nil)) (Nat.le_of_ble_eq_true rfl)) (EVn.toD (en_map1 (xs := v.ts) (enc := encT) (i := 6) (fun x => pairSS x.1 x.2.1) sc_is_body.nd (blkOk_by (N := N_is_body) (sc := defScope (top 45)) (by decide +kernel)) rfl (iv_tup (ev_W 0 rfl rfl)) (Nat.le_trans ok.t4 (by decide)) (fun _ _ _ _ _ => g_one 6 sc_is_body.nd)
          (fun r hr _ _ _ _ _ => ?_) (fun _ => rfl))) ?_ ?_)) ?_)))) ⟨_, rfl⟩)
        · exact EVd.is (ev_slT (ev_v 6 rfl) eo_none (eo_some ev_int)) rfl
        · exact lay_of (pairSS_lay (hasT_ok ok ho) (by decide +kernel)).1 (Nat.le_trans (pairSS_lay (hasT_ok ok ho) (by decide +kernel)).2 (by decide))
        · exact lay_listM (n := 2) (fun r hr => pairSS_lay (ok.st r hr).1 (ok.st r hr).2) (by decide)
        · rw [show ((v.ts.map fun x => pairSS x.1 x.2.1).any fun z => PyData.eqv z (.tuple [.str o, .str "make"])) = true from (any_pairs v o "make").trans ho]
          rfl
      · rintro _ ⟨a, rfl⟩
        exact sv_one (sv_ret ev_bl rfl)
def spAsks (ds : List D) (r : D) : Prop := ∃ (v : Wd) (l : List (Str × Nat)) (n : Nat), OkW v ∧ l.length ≤ 3 ∧ (∀ a ∈ l, a.2 < n ∧ a.1 ∈ names v) ∧ ascA l = true ∧ ds = [W v, .tuple (l.map encA), .int (n : Nat)] ∧ r = .bool true
abbrev N_are_asks : List Str := ["world", "value", "parts", "ask", "k"]
theorem sc_are_asks : FnScope N_are_asks ["world", "value", "parts"] (defScope (top 46)) := ⟨rfl, rfl, rfl, by decide +kernel, rfl, by decide +kernel, by decide +kernel⟩
theorem ok_are_asks (B : Blt mg) (D1 : DefD P w K mg base "is_between" 1 ["value", "low", "high"] spBetween) (D2 : DefD P w K mg base "trait_names" 1 ["world"] spNames) (F : Has K mg "are_asks" (top 46)) : DefD P w K mg base "are_asks" 2 ["world", "value", "parts"] spAsks := by
  refine def_mk F (fun _ _ _ _ _ _ us hl => match us, hl with | [_, _, _], _ => rfl) fun f fd F => fn_D F sc_are_asks (fun ds d h => ?_) fun cdv A outer s H E ds d h hr => ?_
  · obtain ⟨v, l, n, _, _, _, _, rfl, _⟩ := h
    rfl
  · obtain ⟨v, l, n, ok, hl, ha, hs, rfl, rfl⟩ := h
    refine sv_cons (sv_skip (tE (w_orF (t_notT (tV (ev_isT B (ev_v 1 rfl) kb_tt))) (ew_or1 (bT (et_c (ec_gt (ev_lenT B (ev_v 1 rfl)) ev_int)) (decide_eq_false (by rw [List.length_map]; omega)))))) ?_)
    refine sv_cons (sv_for (xs := l) (enc := encA) (t := .one 3) (fun _ env' => ∃ a, env' = [some (.dat (W v)), some (.dat (.tuple (l.map encA))), some (.dat (.int (n : Nat))), a, none]) PassesOwn.never rfl
      (iv_tup (ev_v 1 rfl)) ⟨none, rfl⟩ (fun _ => t_one 3 sc_are_asks.nd) ?_ ?_)
    · rintro m ⟨o, y⟩ _ hm ⟨a, rfl⟩
      obtain ⟨h1, h2⟩ := ha _ (List.mem_of_getElem? hm)
      have h1 : y < n := h1
      refine sv_cons (sv_skip (tE (w_orF (t_notT (tV (ev_isT B (ev_v 3 rfl) kb_tt))) (w_orF (c_neFI (ev_lenT B (ev_v 3 rfl)) ev_int rfl) (ew_or1 (t_notT (tV (bV (ev_call D1 (hr.mono (by decide)) rfl (eq_cons (ev_ixT (ev_v 3 rfl) ev_int rfl) (eq_cons ev_int (eq_cons (ev_sub (ev_v 2 rfl) ev_int) eq_nil))) ⟨(y : Nat), 0, (n : Int) - 1, rfl, rfl⟩) ?_))))))) ?_)
      · rw [decide_eq_true (show (0 : Int) ≤ (y : Nat) by omega), decide_eq_true (show ((y : Nat) : Int) ≤ (n : Int) - 1 by omega)]
        rfl
      refine sv_one (sv_skip (tE (w_orF (t_notT (tV (ev_isS B (ev_ixT (d := .str o) (ev_v 3 rfl) ev_int rfl) kb_ss))) (ew_or1 (bT (et_c (ec_notin (ev_ixT (d := .str o) (ev_v 3 rfl) ev_int rfl) (ev_call D2 (hr.mono (by decide)) rfl (eq_cons (ev_v 0 rfl) eq_nil) ⟨_, ok.t4, rfl, rfl⟩) rfl rfl (flat_names _))) ?_)))) ⟨_, rfl⟩)
      rw [any_names, decide_eq_true h2]
      rfl
    · rintro _ ⟨a, rfl⟩
      have hlen : ((((l.map encA).length : Nat) : Int) - 1).toNat = l.length - 1 := by rw [List.length_map]; omega
      refine sv_one (sv_ret (bV (ev_allL B rfl (q := fun _ : Nat => true) (en_map1 (xs := List.range ((((l.map encA).length : Nat) : Int) - 1).toNat) (enc := fun (k : Nat) => .int (k : Nat)) (i := 4) (fun _ => .bool true) sc_are_asks.nd (blkOk_by (N := N_are_asks) (sc := defScope (top 46)) (by decide +kernel)) rfl
        (iv_rangeZ (ev_sub (ev_lenT B (ev_v 1 rfl)) ev_int) rfl B.range (by omega) (by rw [List.length_map]; omega)) (Nat.le_trans (by rw [List.length_range, hlen]; omega : _ ≤ 4) (by decide)) (fun _ _ _ _ _ => g_one 4 sc_are_asks.nd)
        (fun k hk _ _ _ _ _ => ?_) (fun _ => rfl))) ?_) rfl)
      · rw [List.mem_range, hlen] at hk
        have k1 : l[k]? = some l[k] := List.getElem?_eq_getElem (by omega)
        have k2 : l[k + 1]? = some l[k + 1] := List.getElem?_eq_getElem (by omega)
        exact bV (ev_c (ec_ltD (fun n hn => hr.u n hn) (ev_ixT (ev_v 1 rfl) (ev_v 4 rfl) (atI_nat (j := k) (by rw [List.getElem?_map, k1]; rfl))) (ev_ixT (ev_v 1 rfl) (ev_add (ev_v 4 rfl) ev_int) (atI_nat (j := k + 1) (by rw [List.getElem?_map, k2]; rfl))) (alikeA _ _) (fun q => nomatch q) (Nat.le_trans (Nat.min_le_left _ _) (Nat.le_trans (depthA _) (by decide))))) (ascA_at hs k1 k2)
      · exact List.all_eq_true.mpr fun _ _ => rfl
def spKnown (ds : List D) (r : D) : Prop := ∃ (v : Wd) (i : Inst), OkW v ∧ OkI v i ∧ ds = [W v, encI i] ∧ r = .bool true
abbrev N_is_known_instance : List Str := ["world", "value", "trait", "root", "limits", "asks", "body", "table", "one", "limit"]
theorem sc_is_known_instance : FnScope N_is_known_instance ["world", "value"] (defScope (top 47)) := ⟨rfl, rfl, rfl, by decide +kernel, rfl, by decide +kernel, by decide +kernel⟩
theorem ok_is_known_instance (B : Blt mg) (D1 : DefD P w K mg base "are_asks" 2 ["world", "value", "parts"] spAsks) (D2 : DefD P w K mg base "is_body" 19 ["world", "trait", "root", "value"] spBody) (D3 : DefD P w K mg base "trait_names" 1 ["world"] spNames) (F : Has K mg "is_known_instance" (top 47)) : DefD P w K mg base "is_known_instance" 20 ["world", "value"] spKnown := by
  refine def_mk F (fun _ _ _ _ _ _ us hl => match us, hl with | [_, _], _ => rfl) fun f fd F => fn_D F sc_is_known_instance (fun ds d h => ?_) fun cdv A outer s H E ds d h hr => ?_
  · obtain ⟨v, i, _, _, rfl, _⟩ := h
    rfl
  · obtain ⟨v, i, ok, oi, rfl, rfl⟩ := h
    refine sv_cons (sv_skip (tE (w_orF (t_notT (tV (ev_isT B (ev_v 1 rfl) kb_tt))) (w_orF (c_neFI (ev_lenT B (ev_v 1 rfl)) ev_int rfl) (ew_or1 (t_notT (tV (bV (ev_allL B rfl (q := fun _ : Str => true) (en_map1 (xs := [i.tr, i.root]) (enc := PyData.str) (i := 8) (fun _ => .bool true) sc_is_known_instance.nd (blkOk_by (N := N_is_known_instance) (sc := defScope (top 47)) (by decide +kernel)) rfl (iv_tup (EVd.is (ev_slT (ev_v 1 rfl) eo_none (eo_some ev_int)) rfl)) (Nat.le_of_ble_eq_true rfl) (fun _ _ _ _ _ => g_one 8 sc_is_known_instance.nd)
      (fun o ho _ _ _ _ _ => ?_) (fun _ => rfl))) rfl))))))) ?_)
    · exact ev_isS B (ev_v 8 rfl) kb_ss
    refine sv_cons (sv_unpack rfl (tgs_cons (fun _ => t_one 2 sc_is_known_instance.nd) (tgs_cons (fun _ => t_one 3 sc_is_known_instance.nd) (tgs_cons (fun _ => t_one 4 sc_is_known_instance.nd) (tgs_cons (fun _ => t_one 5 sc_is_known_instance.nd) (tgs_cons (fun _ => t_one 6 sc_is_known_instance.nd) tgs_nil))))) (ev_v 1 rfl) rfl rfl ?_)
    refine sv_cons (s_set 7 sc_is_known_instance.nd (ev_dictW 0 B rfl rfl ok.nd) ?_)
    refine sv_cons (sv_skip (tE (w_orF (bT (et_c (ec_notin (ev_v 2 rfl) (ev_call D3 (hr.mono (by decide)) rfl (eq_cons (ev_v 0 rfl) eq_nil) ⟨_, ok.t4, rfl, rfl⟩) rfl rfl (flat_names _))) ?_) (w_orF (bT (et_dnotin (hr.u 1) (ev_v 3 rfl) (ev_v 7 rfl)) ?_) (ew_or1 (t_notT (tV (ev_isT B (ev_v 4 rfl) kb_tt))))))) ?_)
    · rw [any_names, decide_eq_true oi.tr]
      rfl
    · rw [oi.ar]
      rfl
    refine sv_cons (sv_skip (c_neFI (ev_lenT B (ev_v 4 rfl)) (ev_dget (hr.u 1) (ev_v 7 rfl) (ev_v 3 rfl) oi.ar) (by rw [List.length_map])) ?_)
    refine sv_cons (sv_skip (t_notT (tV (bV (ev_allL B rfl (q := fun _ : Option Str => true) (en_map1 (xs := i.lims) (enc := encL) (i := 9) (fun _ => .bool true) sc_is_known_instance.nd (blkOk_by (N := N_is_known_instance) (sc := defScope (top 47)) (by decide +kernel)) rfl (iv_tup (ev_v 4 rfl)) (Nat.le_trans oi.n2 (by decide)) (fun _ _ _ _ _ => g_one 9 sc_is_known_instance.nd)
      (fun o ho _ _ _ _ _ => ?_) (fun _ => rfl))) ?_))) ?_)
    · cases o with
      | none => exact v_orT (v_isNT (ev_v 9 rfl))
      | some x => exact v_orF (v_isNF (ev_v 9 rfl)) (ev_one (v_andT (ev_isS B (ev_v 9 rfl) kb_ss) (ev_one (bV (et_din (hr.u 1) (ev_v 9 rfl) (ev_v 7 rfl)) (oi.lm _ ho x rfl)))))
    · exact List.all_eq_true.mpr fun _ _ => rfl
    obtain ⟨fo, hf, hb⟩ := oi.bd
    exact sv_one (sv_ret (v_andT (ev_call D1 (hr.mono (by decide)) rfl (eq_cons (ev_v 0 rfl) (eq_cons (ev_v 5 rfl) (eq_cons (ev_dget (hr.u 1) (ev_v 7 rfl) (ev_v 3 rfl) oi.ar) eq_nil))) ⟨v, i.asks, _, ok, oi.al, oi.aa, oi.as, rfl, rfl⟩) (ev_one (ev_call D2 (hr.mono (by decide)) rfl (eq_cons (ev_v 0 rfl) (eq_cons (ev_v 2 rfl) (eq_cons (ev_v 3 rfl) (eq_cons (ev_v 6 rfl) eq_nil)))) ⟨v, i.tr, fo, i.root, _, i.body, ok, hf, oi.ar, oi.n2, hb, rfl, rfl⟩))) rfl)
def spCheckI (ds : List D) (r : D) : Prop := ∃ (v : Wd) (i : Inst), OkW v ∧ OkI v i ∧ ds = [W v, encI i] ∧ r = .none
abbrev N_check_instance : List Str := ["world", "instance"]
theorem sc_check_instance : FnScope N_check_instance ["world", "instance"] (defScope (top 48)) := ⟨rfl, rfl, rfl, by decide +kernel, rfl, by decide +kernel, by decide +kernel⟩
theorem ok_check_instance (B : Blt mg) (D1 : DefD P w K mg base "is_known_instance" 20 ["world", "value"] spKnown) (F : Has K mg "check_instance" (top 48)) : DefD P w K mg base "check_instance" 21 ["world", "instance"] spCheckI := by
  refine def_mk F (fun _ _ _ _ _ _ us hl => match us, hl with | [_, _], _ => rfl) fun f fd F => fn_D F sc_check_instance (fun ds d h => ?_) fun cdv A outer s H E ds d h hr => ?_
  · obtain ⟨v, i, _, _, rfl, _⟩ := h
    rfl
  · obtain ⟨v, i, ok, oi, rfl, rfl⟩ := h
    exact sv_one (sv_skip (t_notT (tV (ev_call D1 (hr.mono (by decide)) rfl (eq_cons (ev_v 0 rfl) (eq_cons (ev_v 1 rfl) eq_nil)) ⟨v, i, ok, oi, rfl, rfl⟩))) rfl)
def spAreI (ds : List D) (r : D) : Prop := ∃ (v : Wd) (is : List Inst), OkW v ∧ (∀ i ∈ is, OkI v i) ∧ is.length ≤ 8 ∧ ds = [W v, encIs is, .int 8] ∧ r = .bool true
abbrev N_are_instances : List Str := ["world", "value", "most", "one"]
theorem sc_are_instances : FnScope N_are_instances ["world", "value", "most"] (defScope (top 49)) := ⟨rfl, rfl, rfl, by decide +kernel, rfl, by decide +kernel, by decide +kernel⟩
theorem ok_are_instances (B : Blt mg) (D1 : DefD P w K mg base "is_known_instance" 20 ["world", "value"] spKnown) (F : Has K mg "are_instances" (top 49)) : DefD P w K mg base "are_instances" 21 ["world", "value", "most"] spAreI := by
  refine def_mk F (fun _ _ _ _ _ _ us hl => match us, hl with | [_, _, _], _ => rfl) fun f fd F => fn_D F sc_are_instances (fun ds d h => ?_) fun cdv A outer s H E ds d h hr => ?_
  · obtain ⟨v, i, _, _, _, rfl, _⟩ := h
    rfl
  · obtain ⟨v, is, ok, oi, hl, rfl, rfl⟩ := h
    refine sv_one (sv_ret (v_andT (ev_isT B (ev_v 1 rfl) kb_tt) (v_andT (bV (ev_c (ec_le (ev_lenT B (ev_v 1 rfl)) (ev_v 2 rfl))) (decide_eq_true (by rw [List.length_map]; omega))) (ev_one (bV (ev_allL B rfl (q := fun _ : Inst => true) (en_map1 (xs := is) (enc := encI) (i := 3) (fun _ => .bool true) sc_are_instances.nd (blkOk_by (N := N_are_instances) (sc := defScope (top 49)) (by decide +kernel)) rfl (iv_tup (ev_v 1 rfl)) (Nat.le_trans hl (by decide)) (fun _ _ _ _ _ => g_one 3 sc_are_instances.nd)
      (fun i hi _ _ _ _ _ => ?_) (fun _ => rfl))) ?_)))) rfl)
    · exact ev_call D1 (hr.mono (by decide)) rfl (eq_cons (ev_v 0 rfl) (eq_cons (ev_v 3 rfl) eq_nil)) ⟨v, i, ok, oi i hi, rfl, rfl⟩
    · exact List.all_eq_true.mpr fun _ _ => rfl
def spCheckSet (ds : List D) (r : D) : Prop := ∃ (v : Wd) (is : List Inst), OkW v ∧ (∀ i ∈ is, OkI v i) ∧ is.length ≤ 8 ∧ ds = [W v, encIs is] ∧ r = .none
abbrev N_check_set : List Str := ["world", "instances"]
theorem sc_check_set : FnScope N_check_set ["world", "instances"] (defScope (top 50)) := ⟨rfl, rfl, rfl, by decide +kernel, rfl, by decide +kernel, by decide +kernel⟩
theorem ok_check_set (B : Blt mg) (D1 : DefD P w K mg base "are_instances" 21 ["world", "value", "most"] spAreI) (D2 : DefD P w K mg base "check_world" 4 ["value"] spCheckW) (F : Has K mg "check_set" (top 50)) : DefD P w K mg base "check_set" 22 ["world", "instances"] spCheckSet := by
  refine def_mk F (fun _ _ _ _ _ _ us hl => match us, hl with | [_, _], _ => rfl) fun f fd F => fn_D F sc_check_set (fun ds d h => ?_) fun cdv A outer s H E ds d h hr => ?_
  · obtain ⟨v, i, _, _, _, rfl, _⟩ := h
    rfl
  · obtain ⟨v, is, ok, oi, hl, rfl, rfl⟩ := h
    refine sv_cons (sv_drop (ev_call D2 (hr.mono (by decide)) rfl (eq_cons (ev_v 0 rfl) eq_nil) ⟨v, ok, rfl, rfl⟩) ?_)
    exact sv_one (sv_skip (t_notT (tV (ev_call D1 (hr.mono (by decide)) rfl (eq_cons (ev_v 0 rfl) (eq_cons (ev_v 1 rfl) (eq_cons ev_int eq_nil))) ⟨v, is, ok, oi, hl, rfl, rfl⟩))) rfl)
def spPlan (ds : List D) (r : D) : Prop := ∃ is : List Inst, ds = [encIs is] ∧ r = .tuple [.str "trees", encIs is, .int 0]
abbrev N_plan_of : List Str := ["instances"]
theorem sc_plan_of : FnScope N_plan_of ["instances"] (defScope (top 67)) := ⟨rfl, rfl, rfl, by decide +kernel, rfl, by decide +kernel, by decide +kernel⟩
theorem ok_plan_of (B : Blt mg)  (F : Has K mg "plan_of" (top 67)) : DefD P w K mg base "plan_of" 1 ["instances"] spPlan := by
  refine def_mk F (fun _ _ _ _ _ _ us hl => match us, hl with | [_], _ => rfl) fun f fd F => fn_D F sc_plan_of (fun ds d h => ?_) fun cdv A outer s H E ds d h hr => ?_
  · obtain ⟨is, rfl, _⟩ := h
    rfl
  · obtain ⟨is, rfl, rfl⟩ := h
    exact sv_one (sv_ret (ev_tup (ea_cons ev_str (ea_cons (ev_v 0 rfl) (ea_cons ev_int ea_nil))) (Nat.le_of_ble_eq_true rfl)) rfl)
end
end Tr
set_option Elab.async false
set_option linter.all false
set_option maxRecDepth 100000
set_option maxHeartbeats 1000000
set_option autoImplicit false
/-! DN: dicts by nested tuples, dicts by texts: read, written, walked, sorted -/
namespace DL
open PySem PySem.Spec PyProof.Rows L2
abbrev NK := NestedKey
/-- entries by key -/
def payN (w : World) (kvs : List (NK × D)) : List (D × D) := kvs.map fun p => (.tuple [p.1.data, .int (p.1.hash w)], p.2)
abbrev mkN (w : World) (kvs : List (NK × D)) : D := .dict ((.bool true, .none) :: payN w kvs)
def lookN (kvs : List (NK × D)) (k : NK) : Option D := (kvs.find? fun p => decide (p.1 = k)).map (·.2)
def putN (kvs : List (NK × D)) (k : NK) (d : D) : List (NK × D) := if (lookN kvs k).isSome then kvs.map fun p => if p.1 = k then (p.1, d) else p else kvs ++ [(k, d)]
section
variable {X : Cx} {pins : List (Addr × Obj)} {σ : L2.St} {H : Hp} {s : Shared}
mutual
theorem nested_of (I : Inv X pins σ H s) : ∀ (k : NK) (v : V) (u : Value), Dp X.K H v k.data → RelV v u → NestedIs s.heap k u
  | .none, v, u, h, r => by
    unfold NestedKey.data at h
    cases h
    cases r
    exact .none
  | .num i, v, u, h, r => by
    unfold NestedKey.data at h
    cases h
    obtain ⟨t, rfl⟩ := r
    exact .int i t
  | .text x, v, u, h, r => by
    unfold NestedKey.data at h
    cases h
    obtain ⟨t, rfl⟩ := r
    exact .text x t
  | .tup ks, v, u, h, r => by
    unfold NestedKey.data at h
    obtain ⟨a, xs, rfl, h1, h2⟩ := dp_tupI h
    cases r
    obtain ⟨its, rv, p, hz⟩ := I.tuple h1
    obtain ⟨o, ho, hc, n, hd⟩ := p
    exact .tup ho hc hd (nested_all I ks xs its h2 rv)
theorem nested_all (I : Inv X pins σ H s) : ∀ (ks : List NK) (xs : List V) (us : List Value), DpAll X.K H xs (NestedKey.datas ks) → Vals xs us → NestedAll s.heap ks us
  | [], xs, us, h, r => by
    unfold NestedKey.datas at h
    cases h
    cases r
    exact .nil
  | k :: ks, xs, us, h, r => by
    unfold NestedKey.datas at h
    cases h with
    | cons h1 h2 =>
      cases r with
      | cons r1 r2 => exact .cons (nested_of I k _ _ h1 r1) (nested_all I ks _ _ h2 r2)
end
/-- entries, their keys, what they hold -/
inductive R3 (X : Cx) (H : Hp) (h : Heap) : List (NK × Addr × Value) → List (Int × Addr × V) → List (NK × D) → Prop
  | nil : R3 X H h [] [] []
  | cons {k : NK} {b : Addr} {u : Value} {v : V} {d : D} {xs : List (NK × Addr × Value)} {es : List (Int × Addr × V)} {kvs : List (NK × D)} :
    NestedIs h k (.ref b) → RelV v u → Dp X.K H (.ref b) k.data → Dp X.K H v d → R3 X H h xs es kvs → R3 X H h ((k, b, u) :: xs) ((k.hash X.w, b, v) :: es) ((k, d) :: kvs)
theorem r3_of (I : Inv X pins σ H s) : ∀ {kvs : List (NK × D)} {es : List (Int × Addr × V)} {ar : List DictEntry}, NAll X.K H es (payN X.w kvs) → Paired (fun (e : Int × Addr × V) (x : DictEntry) => x.hash = e.1 ∧ x.key = .ref e.2.1 ∧ RelV e.2.2 x.val) es ar →
    ∃ xs, R3 X H s.heap xs es kvs ∧ ar = xs.map (entryOfKey (nestedKind X.prog X.w))
  | [], _, _, h, p => by
    unfold payN at h
    rw [List.map_nil] at h
    cases h
    cases p
    exact ⟨[], .nil, rfl⟩
  | (k, d) :: kvs, _, _, h, p => by
    unfold payN at h
    rw [List.map_cons] at h
    cases h with
    | cons h1 h2 h3 =>
      cases p with
      | cons q t =>
        rename_i x ar
        obtain ⟨xs, e1, e2⟩ := r3_of I (kvs := kvs) h3 t
        obtain ⟨q1, q2, q3⟩ := q
        obtain ⟨hh, kk, vv⟩ := x
        simp only at q1 q2 q3
        subst q1 q2
        exact ⟨(k, _, vv) :: xs, .cons (nested_of I k _ _ h1 rfl) q3 h1 h2 e1, by rw [List.map_cons, e2]; rfl⟩
theorem R3.keys {h : Heap} : ∀ {xs : List (NK × Addr × Value)} {es : List (Int × Addr × V)} {kvs : List (NK × D)}, R3 X H h xs es kvs → xs.map (·.1) = kvs.map (·.1)
  | _, _, _, .nil => rfl
  | _, _, _, .cons _ _ _ _ t => by rw [List.map_cons, List.map_cons, t.keys]
theorem R3.len {h : Heap} : ∀ {xs : List (NK × Addr × Value)} {es : List (Int × Addr × V)} {kvs : List (NK × D)}, R3 X H h xs es kvs → xs.length = kvs.length ∧ es.length = kvs.length
  | _, _, _, .nil => ⟨rfl, rfl⟩
  | _, _, _, .cons _ _ _ _ t => by simp [t.len.1, t.len.2]
theorem R3.is {h : Heap} : ∀ {xs : List (NK × Addr × Value)} {es : List (Int × Addr × V)} {kvs : List (NK × D)}, R3 X H h xs es kvs → ∀ x ∈ xs, NestedIs h x.1 (.ref x.2.1)
  | _, _, _, .nil, x, hx => by simp at hx
  | _, _, _, .cons i _ _ _ t, x, hx => by
    rcases List.mem_cons.mp hx with rfl | hx
    · exact i
    · exact t.is x hx
theorem R3.look {h : Heap} (k : NK) : ∀ {xs : List (NK × Addr × Value)} {es : List (Int × Addr × V)} {kvs : List (NK × D)}, R3 X H h xs es kvs →
    (∃ p v d, atKey xs k = some p ∧ lookN kvs k = some d ∧ RelV v p.2 ∧ Dp X.K H v d) ∨ (atKey xs k = none ∧ lookN kvs k = none)
  | _, _, _, .nil => .inr ⟨rfl, rfl⟩
  | _, _, _, .cons (k := k') (b := b) (u := u) (v := v) (d := d) i r1 d1 d2 t => by
    unfold atKey lookN
    by_cases e : k' = k
    · refine .inl ⟨(b, u), v, d, ?_, ?_, r1, d2⟩
      · rw [List.find?_cons_of_pos (by simp [e])]
        rfl
      · rw [List.find?_cons_of_pos (by simp [e])]
        rfl
    · rw [List.find?_cons_of_neg (by simp [e]), List.find?_cons_of_neg (by simp [e])]
      exact R3.look k t
theorem R3.nall {h : Heap} : ∀ {xs : List (NK × Addr × Value)} {es : List (Int × Addr × V)} {kvs : List (NK × D)}, R3 X H h xs es kvs → NAll X.K H es (payN X.w kvs)
  | _, _, _, .nil => .nil
  | _, _, _, .cons i r1 d1 d2 t => .cons d1 d2 t.nall
theorem R3.pair {h : Heap} : ∀ {xs : List (NK × Addr × Value)} {es : List (Int × Addr × V)} {kvs : List (NK × D)}, R3 X H h xs es kvs → Paired (fun (e : Int × Addr × V) (x : DictEntry) => x.hash = e.1 ∧ x.key = .ref e.2.1 ∧ RelV e.2.2 x.val) es (xs.map (entryOfKey (nestedKind X.prog X.w)))
  | _, _, _, .nil => .nil
  | _, _, _, .cons i r1 d1 d2 t => .cons ⟨rfl, rfl, r1⟩ t.pair
/-- a stored value -/
def mapE (k : NK) (v : V) : List (Int × Addr × V) → List (NK × D) → List (Int × Addr × V)
  | e :: es, p :: kvs => (if p.1 = k then (e.1, e.2.1, v) else e) :: mapE k v es kvs
  | _, _ => []
def putE (w : World) (es : List (Int × Addr × V)) (kvs : List (NK × D)) (k : NK) (b : Addr) (v : V) : List (Int × Addr × V) := if (lookN kvs k).isSome then mapE k v es kvs else es ++ [(k.hash w, b, v)]
theorem R3.mapPut {h : Heap} (k : NK) {v : V} {u : Value} {d : D} (r : RelV v u) (p : Dp X.K H v d) : ∀ {xs : List (NK × Addr × Value)} {es : List (Int × Addr × V)} {kvs : List (NK × D)}, R3 X H h xs es kvs →
    R3 X H h (xs.map (putAt k u)) (mapE k v es kvs) (kvs.map fun q => if q.1 = k then (q.1, d) else q)
  | _, _, _, .nil => .nil
  | _, _, _, .cons (k := k') (b := b) (u := u') (v := v') (d := d') i r1 d1 d2 t => by
    have q := R3.mapPut k r p t
    rw [List.map_cons, List.map_cons]
    unfold mapE
    by_cases e : k' = k
    · have e1 : putAt k u (k', b, u') = (k', b, u) := by
        show (if k' = k then (k', b, u) else (k', b, u')) = _
        exact if_pos e
      rw [e1]
      simp only [e, if_true]
      rw [e] at i d1
      exact .cons i r d1 p q
    · have e1 : putAt k u (k', b, u') = (k', b, u') := by
        show (if k' = k then (k', b, u) else (k', b, u')) = _
        exact if_neg e
      rw [e1]
      simp only [e, if_false]
      exact .cons i r1 d1 d2 q
theorem R3.app {h : Heap} {k : NK} {b : Addr} {v : V} {u : Value} {d : D} (i : NestedIs h k (.ref b)) (r : RelV v u) (pk : Dp X.K H (.ref b) k.data) (p : Dp X.K H v d) : ∀ {xs : List (NK × Addr × Value)} {es : List (Int × Addr × V)} {kvs : List (NK × D)}, R3 X H h xs es kvs →
    R3 X H h (xs ++ [(k, b, u)]) (es ++ [(k.hash X.w, b, v)]) (kvs ++ [(k, d)])
  | _, _, _, .nil => .cons i r pk p .nil
  | _, _, _, .cons i' r1 d1 d2 t => .cons i' r1 d1 d2 (R3.app i r pk p t)
theorem R3.put {h : Heap} {k : NK} {b : Addr} {v : V} {u : Value} {d : D} (i : NestedIs h k (.ref b)) (r : RelV v u) (pk : Dp X.K H (.ref b) k.data) (p : Dp X.K H v d) {xs : List (NK × Addr × Value)} {es : List (Int × Addr × V)} {kvs : List (NK × D)} (q : R3 X H h xs es kvs) :
    R3 X H h (storedH xs k b u) (putE X.w es kvs k b v) (putN kvs k d) := by
  unfold storedH putN putE
  rcases q.look k with ⟨p1, v1, d1, e1, e2, _⟩ | ⟨e1, e2⟩
  · rw [e1, e2]
    exact q.mapPut k r p
  · rw [e1, e2]
    exact q.app i r pk p
theorem NAll.mapPut {K : PySem.W.Frag} {w : World} {Hc : Hp} (k : NK) {v : V} {d : D} (p : Dp K Hc v d) : ∀ {kvs : List (NK × D)} {es : List (Int × Addr × V)}, NAll K Hc es (payN w kvs) → NAll K Hc (mapE k v es kvs) (payN w (kvs.map fun q => if q.1 = k then (q.1, d) else q))
  | [], _, h => by
    unfold payN at h
    rw [List.map_nil] at h
    cases h
    exact .nil
  | (k', d') :: kvs, _, h => by
    unfold payN at h
    rw [List.map_cons] at h
    cases h with
    | cons h1 h2 h3 =>
      have q := NAll.mapPut k p (kvs := kvs) h3
      rw [List.map_cons]
      unfold mapE payN
      rw [List.map_cons]
      by_cases e : k' = k
      · simp only [e, if_true]
        rw [e] at h1
        exact .cons h1 p q
      · simp only [e, if_false]
        exact .cons h1 h2 q
theorem NAll.app {K : PySem.W.Frag} {w : World} {Hc : Hp} {k : NK} {b : Addr} {v : V} {d : D} (pk : Dp K Hc (.ref b) k.data) (p : Dp K Hc v d) : ∀ {kvs : List (NK × D)} {es : List (Int × Addr × V)}, NAll K Hc es (payN w kvs) → NAll K Hc (es ++ [(k.hash w, b, v)]) (payN w (kvs ++ [(k, d)]))
  | [], _, h => by
    unfold payN at h
    rw [List.map_nil] at h
    cases h
    exact .cons pk p .nil
  | (k', d') :: kvs, _, h => by
    unfold payN at h
    rw [List.map_cons] at h
    cases h with
    | cons h1 h2 h3 => exact .cons h1 h2 (NAll.app pk p (kvs := kvs) h3)
theorem NAll.put {K : PySem.W.Frag} {w : World} {Hc : Hp} {k : NK} {b : Addr} {v : V} {d : D} (pk : Dp K Hc (.ref b) k.data) (p : Dp K Hc v d) {kvs : List (NK × D)} {es : List (Int × Addr × V)} (h : NAll K Hc es (payN w kvs)) : NAll K Hc (putE w es kvs k b v) (payN w (putN kvs k d)) := by
  unfold putN putE
  cases e : (lookN kvs k).isSome with
  | true => exact h.mapPut k p
  | false => exact h.app pk p
/-- the dict in the heap -/
theorem nst_dict (I : Inv X pins σ H s) {a : Addr} {ep : Nat} {es : List (Int × Addr × V)} {kvs : List (NK × D)} (ha : H a = some (nstO a ep es)) (hn : NAll X.K H es (payN X.w kvs)) (nd : (kvs.map (·.1)).Nodup) (hd : ∀ p ∈ kvs, p.1.depth ≤ 8) :
    ∃ xs, R3 X H s.heap xs es kvs ∧ s.heap.DictOfH (nestedKind X.prog X.w) a xs ∧ xs.length ≤ sizeLine ∧ (a == sysModules) = false ∧ ∃ ar, s.heap.DictRaw a ar ep ∧ ar.toList = xs.map (entryOfKey (nestedKind X.prog X.w)) := by
  have z : ObjOk X.prog X.w H s.heap a (nstO a ep es) := I.hok a _ ha
  obtain ⟨⟨o, ar, ho, hx, hdat, hp, hz, hm⟩, _, _⟩ := z
  obtain ⟨xs, r3, e⟩ := r3_of I hn hp
  have hk := r3.keys
  have hl := r3.len
  refine ⟨xs, r3, ⟨o, ar, ep, ho, hx, hdat, e, fun x hm => ⟨r3.is x hm, ?_⟩, by rw [hk]; exact nd⟩, by omega, hm, ar, ⟨o, ho, hx, hdat⟩, e⟩
  have : x.1 ∈ xs.map (·.1) := List.mem_map_of_mem hm
  rw [hk] at this
  obtain ⟨p, hp, e⟩ := List.mem_map.mp this
  rw [← e]
  exact hd p hp
theorem nst_ok {h : Heap} {a : Addr} {ep : Nat} {xs : List (NK × Addr × Value)} {es : List (Int × Addr × V)} {kvs : List (NK × D)} {H' H2 : Hp} {h0 : Heap} {o : Obj} {ar : Array DictEntry} (ho : h.get? a = some o) (hx : o.ExactDict) (hdat : o.data = .dict ar ep) (e : ar.toList = xs.map (entryOfKey (nestedKind X.prog X.w)))
    (r3 : R3 X H2 h0 xs es kvs) (hz : xs.length ≤ sizeLine) (hm : (a == sysModules) = false) : ObjOk X.prog X.w H' h a (nstO a ep es) :=
  ⟨⟨o, ar, ho, hx, hdat, by rw [e]; exact r3.pair, by have := r3.len; omega, hm⟩, ⟨o, ho⟩, fun h1 h2 ⟨o1, ar1, q, r⟩ k => ⟨o1, ar1, k _ q, r⟩⟩
end
/-! ### readings -/
def tNewN : TE := fun σ H Q => ∀ p, H p = none → Q (.ref p) (upd H p (nstO p 0 []))
theorem pe_dnewN {X : Cx} {pos : Pos} : PE X (.Dict [] [] pos) tNewN := ⟨fun pins s σ H Q I h => by
  refine wpAny_Dict_empty ⟨.ref s.heap.objs.size, _, I.laid (a := s.heap.objs.size) (o := nstO s.heap.objs.size 0 []) (t' := s.toks) (fun _ _ q => Heap.get?_push_of_some _ q) (Nat.le_refl _) ?_, rfl, h _ (I.hok.fresh (Nat.le_refl _))⟩
  exact nst_ok (X := X) (xs := []) (es := []) (kvs := []) (H2 := H) (h0 := s.heap) (Heap.get?_push_size _ rfl) ⟨rfl, rfl, rfl⟩ rfl rfl .nil (by decide) (beq_eq_false_iff_ne.mpr (Nat.ne_of_gt I.big))⟩
structure NRoom (X : Cx) : Prop where
  u : X.A.units + 20 < cLine
section
variable {X : Cx}
/-- the dict kvs at x -/
def IsN (X : Cx) (H : Hp) (x : V) (a : Addr) (ep : Nat) (es : List (Int × Addr × V)) (kvs : List (NK × D)) : Prop := x = .ref a ∧ H a = some (nstO a ep es) ∧ NAll X.K H es (payN X.w kvs) ∧ (kvs.map (·.1)).Nodup ∧ ∀ p ∈ kvs, p.1.depth ≤ 8
theorem op_inN (hu : X.A.units + 20 < cLine) : OpR X (compareOp .In) (fun x y H Q => ∃ a ep es kvs b k, IsN X H y a ep es kvs ∧ x = .ref b ∧ Dp X.K H (.ref b) (NestedKey.data k) ∧ k.depth ≤ 8 ∧ Q (.bl (lookN kvs k).isSome) H) := by
  intro pins s σ H x y v u Q I rx ry h
  obtain ⟨a, ep, es, kvs, b, k, ⟨rfl, ha, hn, nd, hd⟩, rfl, hk, hk8, q⟩ := h
  cases rx
  cases ry
  obtain ⟨xs, r3, hm, hz, hs, _⟩ := nst_dict I ha hn nd hd
  refine wpAny_in_heap (knd := nestedKind X.prog X.w) (show X.A.units + 1 + 8 < cLine by omega) ⟨nested_of I k _ _ hk rfl, hk8⟩ hs hm ?_
  have e : (atKey xs k).isSome = (lookN kvs k).isSome := by
    rcases r3.look k with ⟨p1, v1, d1, e1, e2, _⟩ | ⟨e1, e2⟩
    · rw [e1, e2]; rfl
    · rw [e1, e2]; rfl
  rw [e]
  exact ⟨.bl _, H, I.tok _, rfl, q⟩
theorem op_notinN (hu : X.A.units + 20 < cLine) : OpR X (compareOp .NotIn) (fun x y H Q => ∃ a ep es kvs b k, IsN X H y a ep es kvs ∧ x = .ref b ∧ Dp X.K H (.ref b) (NestedKey.data k) ∧ k.depth ≤ 8 ∧ Q (.bl (!(lookN kvs k).isSome)) H) := by
  intro pins s σ H x y v u Q I rx ry h
  obtain ⟨a, ep, es, kvs, b, k, ⟨rfl, ha, hn, nd, hd⟩, rfl, hk, hk8, q⟩ := h
  cases rx
  cases ry
  obtain ⟨xs, r3, hm, hz, hs, _⟩ := nst_dict I ha hn nd hd
  show wpAny _ _ (do return Value.bool (!(← contains (.ref a) (.ref b)))) _ _ s
  refine wpAny_bind (wpAny_contains_heap (knd := nestedKind X.prog X.w) (show X.A.units + 1 + 8 < cLine by omega) ⟨nested_of I k _ _ hk rfl, hk8⟩ hs hm (wpAny_pure ?_))
  have e : (atKey xs k).isSome = (lookN kvs k).isSome := by
    rcases r3.look k with ⟨p1, v1, d1, e1, e2, _⟩ | ⟨e1, e2⟩
    · rw [e1, e2]; rfl
    · rw [e1, e2]; rfl
  rw [e]
  exact ⟨.bl _, H, I.tok _, rfl, q⟩
def tGetN (X : Cx) (td ty : TE) : TE := fun σ H Q => td σ H fun x H1 => ty σ H1 fun y H2 => ∃ a ep es kvs b k d, IsN X H2 x a ep es kvs ∧ y = .ref b ∧ Dp X.K H2 (.ref b) (NestedKey.data k) ∧ k.depth ≤ 8 ∧ lookN kvs k = some d ∧ ∀ v, Dp X.K H2 v d → (∀ Hc : Hp, NAll X.K Hc es (payN X.w kvs) → Dp X.K Hc v d) → Q v H2
theorem NAll.atN {K : PySem.W.Frag} {w : World} {H : Hp} {k : NK} : ∀ {kvs : List (NK × D)} {es : List (Int × Addr × V)}, NAll K H es (payN w kvs) → ∀ (j : Nat) (p : NK × D) (e : Int × Addr × V), kvs[j]? = some p → es[j]? = some e → Dp K H e.2.2 p.2
  | [], _, h, j, p, e, h1, h2 => by simp at h1
  | (k, d) :: kvs, _, h, j, p, e, h1, h2 => by
    unfold payN at h
    rw [List.map_cons] at h
    cases h with
    | cons q1 q2 q3 =>
      cases j with
      | zero =>
        simp at h1 h2
        subst h1 h2
        exact q2
      | succ j => exact NAll.atN (k := k) (kvs := kvs) q3 j p e (by simpa using h1) (by simpa using h2)
theorem R3.lookJ {H : Hp} {h : Heap} {k : NK} {d : D} : ∀ {xs : List (NK × Addr × Value)} {es : List (Int × Addr × V)} {kvs : List (NK × D)}, R3 X H h xs es kvs → lookN kvs k = some d →
    ∃ (p : Addr × Value) (j : Nat) (q : NK × D) (e : Int × Addr × V), atKey xs k = some p ∧ kvs[j]? = some q ∧ q.2 = d ∧ es[j]? = some e ∧ RelV e.2.2 p.2
  | _, _, _, .nil, hl => by simp [lookN] at hl
  | _, _, _, .cons (k := k') (b := b) (u := u) (v := v) (d := d') i r1 d1 d2 t, hl => by
    unfold lookN at hl
    by_cases e : k' = k
    · rw [List.find?_cons_of_pos (by simp [e])] at hl
      refine ⟨(b, u), 0, (k', d'), (k'.hash X.w, b, v), ?_, rfl, Option.some.inj hl, rfl, r1⟩
      unfold atKey
      rw [List.find?_cons_of_pos (by simp [e])]
      rfl
    · rw [List.find?_cons_of_neg (by simp [e])] at hl
      obtain ⟨p, j, q, e2, h1, h2, h3, h4, h5⟩ := R3.lookJ t hl
      refine ⟨p, j + 1, q, e2, ?_, by simpa using h2, h3, by simpa using h4, h5⟩
      unfold atKey at h1 ⊢
      rw [List.find?_cons_of_neg (by simp [e])]
      exact h1
theorem pe_getN {o i : Expr} {td ty : TE} {pos : Pos} (hu : X.A.units + 20 < cLine) (ho : PE X o td) (hi : PE X i ty) (hs : NoSl i) : PE X (.Subscript o i pos) (tGetN X td ty) := by
  refine ⟨fun pins s σ H Q I h => ?_⟩
  refine subD_of PySem.F.slot_dict_getitem.lookup hs (thn (ho.run pins s σ H _ I h) fun u s1 ⟨x, H1, I1, rx, q1⟩ => thn (hi.run pins s1 σ H1 _ I1 q1) fun iv s2 ⟨y, H2, I2, ry, a, ep, es, kvs, b, k, d, ⟨ex, ha, hn, nd, hd⟩, ey, hk, hk8, hl, q2⟩ => ?_)
  subst ex ey
  obtain rfl : u = Value.ref a := rx
  cases ry
  obtain ⟨xs, r3, hm, hz, hs, _⟩ := nst_dict I2 ha hn nd hd
  obtain ⟨p, j, q, e, h1, h2, h3, h4, h5⟩ := r3.lookJ hl
  refine ⟨hm.typeIs, wpAny_getItem_heap (knd := nestedKind X.prog X.w) (show X.A.units + 1 + 8 < cLine by omega) ⟨nested_of I2 k _ _ hk rfl, hk8⟩ hm h1 ?_⟩
  exact ⟨e.2.2, H2, I2.tok _, h5, q2 e.2.2 (by rw [← h3]; exact hn.atN (k := k) j q e h2 h4) fun Hc hc => by rw [← h3]; exact hc.atN (k := k) j q e h2 h4⟩
theorem len_putN (kvs : List (NK × D)) (k : NK) (d : D) : (putN kvs k d).length ≤ kvs.length + 1 := by
  unfold putN
  split
  · rw [List.length_map]; omega
  · rw [List.length_append]; exact Nat.le_refl _
theorem len_storedH {α : Type} [DecidableEq α] (xs : List (α × Addr × Value)) (k : α) (b : Addr) (u : Value) : (storedH xs k b u).length ≤ xs.length + 1 := by
  unfold storedH
  split
  · rw [List.length_map]; omega
  · rw [List.length_append]; exact Nat.le_refl _
def tPutN (X : Cx) : TSet := fun o i v H Q => ∃ a ep es kvs b k d, IsN X H o a ep es kvs ∧ i = .ref b ∧ Dp X.K H (.ref b) (NestedKey.data k) ∧ k.depth ≤ 8 ∧ Dp X.K H v d ∧ kvs.length < sizeLine ∧ ∀ ep', Q (upd H a (nstO a ep' (putE X.w es kvs k b v)))
theorem pset_N (hu : X.A.units + 20 < cLine) : PSet X (tPutN X) := by
  intro pins s σ H o i v ov iv u Q I ro ri rv h
  obtain ⟨a, ep, es, kvs, b, k, d, ⟨rfl, ha, hn, nd, hd⟩, rfl, hk, hk8, hv, hl, q⟩ := h
  cases ro
  cases ri
  obtain ⟨xs, r3, hm, hz, hs, _⟩ := nst_dict I ha hn nd hd
  have hlen := r3.len
  have ik := nested_of I k _ _ hk rfl
  refine wpAny_setItem_heap (knd := nestedKind X.prog X.w) (hsz := hz) (show X.A.units + 1 + 8 < cLine by omega) ⟨ik, hk8⟩ hm fun h' dd' sb => ?_
  obtain ⟨o', ar, ep', ho', hx', hd', he', _, _⟩ := dd'
  have r4 := r3.put ik rv hk hv
  have l1 := len_storedH xs k b u
  refine ⟨_, I.write (t' := s.toks + (nestedKind X.prog X.w).draws k) (x := a) (e := a) (o := nstO a ep' (putE X.w es kvs k b v)) (by rw [ha]; exact True.intro) (.inl rfl) (fun b' u' hb e => ?_) ⟨o', ho'⟩ (nst_ok (X := X) (H2 := H) (h0 := s.heap) ho' hx' hd' he' r4 (by omega) hs), q ep'⟩
  exact (sb.2 b' hb).trans e
def sPutR (td ti tv : TE) (t : TSet) : TS := fun D σ H => tv σ H fun v H1 => td σ H1 fun o H2 => ti σ H2 fun i H3 => t o i v H3 fun H4 => D.nx σ H4
theorem ps_putR {o i value : Expr} {td ti tv : TE} {t : TSet} {pos' pos : Pos} (ht : PSet X t) (ho : PE X o td) (hi : PE X i ti) (hv : PE X value tv) (hs : swapsWith value (some (.Subscript o i pos')) pos.line X.env = pure false := by rfl) :
    PS X (.Assign [.Subscript o i pos'] value pos) (sPutR td ti tv t) := by
  refine ⟨fun pins s σ H D I h => ?_⟩
  refine wpAny_Assign_Subscript (thn (hv.run pins s σ H _ I h) fun r s1 ⟨v, H1, I1, rv, q1⟩ => thn (ho.run pins s1 σ H1 _ I1 q1) fun u s2 ⟨x, H2, I2, rx, q2⟩ => thn (hi.run pins s2 σ H2 _ I2 q2) fun iv s3 ⟨y, H3, I3, ry, q3⟩ => ?_) hs
  exact thn (ht pins s3 σ H3 x y v u iv r _ I3 rx ry rv q3) fun _ s4 ⟨H4, I4, q4⟩ => ⟨σ, H4, I4, q4⟩
/-! ### the keys of a dict -/
def RawK (X : Cx) (H : Hp) (a : Addr) (xs : List V) : Prop := ∀ (pins : List (Addr × Obj)) (σ : L2.St) (s : Shared), Inv X pins σ H s → ∃ ar ep, s.heap.DictRaw a ar ep ∧ Vals xs (ar.toList.map (·.key)) ∧ ar.size ≤ sizeLine ∧ (a == sysModules) = false
theorem rawK_N {H : Hp} {a : Addr} {x : V} {ep : Nat} {es : List (Int × Addr × V)} {kvs : List (NK × D)} (h : IsN X H x a ep es kvs) : RawK X H a (es.map fun e => .ref e.2.1) := fun pins σ s I => by
  obtain ⟨rfl, ha, hn, nd, hd⟩ := h
  obtain ⟨xs, r3, hm, hz, hs, ar, hr, he⟩ := nst_dict I ha hn nd hd
  refine ⟨ar, ep, hr, ?_, by rw [← Array.length_toList, he, List.length_map]; exact hz, hs⟩
  rw [he, List.map_map]
  clear he hm hz hr ha
  induction r3 with
  | nil => exact .nil
  | cons i r1 d1 d2 t ih =>
    unfold payN at hn
    rw [List.map_cons] at hn
    cases hn with
    | cons h1 h2 h3 => exact .cons rfl (ih h3 (by rw [List.map_cons] at nd; exact (List.nodup_cons.mp nd).2) fun p hp => hd p (List.mem_cons_of_mem _ hp))
theorem rawK_S {H : Hp} {a : Addr} {kvs : List (Key × V)} (h : H a = some (.dK kvs)) : RawK X H a (kvs.map fun kv => kV kv.1) := fun pins σ s I => by
  obtain ⟨z, hs, vs, rel, dd⟩ := dk_of I.hok h
  have e : (kvs.map fun kv => kV kv.1) = vs.map fun p => kV p.1 := by
    have e := congrArg (List.map kV) rel.keys
    rw [List.map_map, List.map_map] at e
    exact e
  have hl := rel.length
  obtain ⟨ar, ep, hr, hz, hk⟩ := Heap.DictOf.raw dd
  refine ⟨ar, ep, hr, ?_, by omega, hs⟩
  rw [e]
  refine keys_at (by rw [List.length_map, Array.length_toList]; exact hz) fun j v hv => ?_
  rw [List.getElem?_map] at hv
  obtain ⟨en, h1, h2⟩ := Option.map_eq_some_iff.mp hv
  rw [Array.getElem?_toList] at h1
  obtain ⟨hj, h3⟩ := Array.getElem?_eq_some_iff.mp h1
  obtain ⟨⟨k, x⟩, hx⟩ : ∃ p, vs[j]? = some p := ⟨_, List.getElem?_eq_getElem (by omega)⟩
  obtain ⟨q1, q2⟩ := hk j hj k x hx
  refine ⟨k, x, hx, ?_⟩
  rw [← h2, ← h3]
  exact q1
def rSortedRaw (X : Cx) : List V → Hp → VK → Prop := fun vs H Q => ∃ (a : Addr) (xs : List V) (ds : List D), vs = [V.ref a] ∧ RawK X H a xs ∧ DpAll X.K H xs ds ∧ PySem.W.AllAlike ds ∧ PySem.W.Sortable ds ∧ (∀ d, d ∈ ds → X.A.units + 2 + d.depth < cLine) ∧
  ∀ l ys, H l = none → (∀ R : V → D → Prop, (∀ (i : Nat) v d, xs[i]? = some v → ds[i]? = some d → R v d) → Paired R ys (sortD ds)) → Q (.ref l) (upd H l (.lst ys))
theorem call_sortedRaw (hcalm : X.calm = true) : CallR X (.builtin "sorted") (rSortedRaw X) := by
  intro pins s σ H vs us Q I r h
  obtain ⟨a, xs, ds, rfl, hraw, hd, hal, hk, hu, q⟩ := h
  obtain ⟨u, rfl, ru⟩ := vals1 r
  obtain rfl : u = Value.ref a := ru
  obtain ⟨ar, ep, hr, hv, hz, hs⟩ := hraw pins σ s I
  have hlen := hd.len
  have rl := hv.length
  rw [List.length_map, Array.length_toList] at rl
  refine Calls.call_function_entry PyProof.Rows.kind_sorted PyProof.Rows.plain_sorted PyProof.Rows.entry_sorted (PyProof.Rows.args_sorted1 _) ?_
  unfold Builtin.«sorted»
  refine wpAny_bind (m := checkCount "sorted" 1 1 _) (wpAny_pure ?_)
  refine wpAny_bind (PySem.W.kdu_collect (A := X.A.in1) (KdlSrc.rawDict (prog := X.prog) (w := X.w) (d := a) (es := ar) (ep := ep) hs) (I.ok.hd hcalm) hr hz fun h' tk acc hk' hacc => ?_)
  have eacc : acc.toList = ar.toList.map (·.key) := by
    refine List.ext_getElem? fun i => ?_
    by_cases hi : i < ar.size
    · have hi2 : i < acc.size := by rw [hacc.1]; exact hi
      obtain ⟨_, e1⟩ := hacc.2 i acc[i] (Array.getElem?_eq_getElem hi2)
      rw [Array.getElem?_toList, Array.getElem?_eq_getElem hi2, e1, List.getElem?_map, Array.getElem?_toList, Array.getElem?_eq_getElem hi]
      rfl
    · rw [List.getElem?_eq_none (by rw [Array.length_toList, hacc.1]; omega), List.getElem?_eq_none (by rw [List.length_map, Array.length_toList]; omega)]
  have I1 : Inv X pins σ H { s with heap := h', toks := tk } := I.kept hk'
  rw [← eacc] at hv
  have hal2 : acc.toList.length ≤ sizeLine := by rw [Array.length_toList, hacc.1]; exact hz
  refine wpAny_bind (wpAny_newList ?_ hal2)
  let R : V → D → Prop := fun v d => ∃ i : Nat, xs[i]? = some v ∧ ds[i]? = some d
  have pr : Paired R xs ds := paired_all hlen fun i v d h1 h2 => ⟨i, h1, h2⟩
  have hoL : (h'.push (seqObj "list" acc.toList.toArray 0)).get? h'.objs.size = some (seqObj "list" acc.toList.toArray 0) := Heap.get?_push_size _ rfl
  show wpAny _ _ _ _ _ { s with heap := h'.push (seqObj "list" acc.toList.toArray 0), toks := tk }
  have er0 : PySem.W.EachIs (fun v b => ∃ as, Reads (h'.push (seqObj "list" acc.toList.toArray 0)) v (id b) as) acc.toList ds := (each_reads I1 hv hd).mono fun _ _ ⟨as, z⟩ => ⟨as, PyProof.Rows.Reads.keeps (fun _ _ e => Heap.get?_push_of_some _ e) z⟩
  have er : PySem.W.EachIs (fun v b => ∃ as, Reads (PySem.W.sortingHeap (h'.push (seqObj "list" acc.toList.toArray 0)) h'.objs.size acc.toList) v (id b) as) acc.toList ds := (each_reads I1 hv hd).mono fun _ _ ⟨as, z⟩ => ⟨as, PyProof.Rows.Reads.keeps (fun b o e => PySem.W.sortingHeap_old (Nat.ne_of_lt (Heap.lt_size e)) (Heap.get?_push_of_some _ e)) z⟩
  have e' : PySem.W.EachIs (fun u d => ∃ v, RelV v u ∧ R v d) acc.toList ds := each_of_vals hv pr
  have hall : PySem.W.AllAlike (ds.map id) := by rw [List.map_id]; exact hal
  have el : acc.toList.length = ds.length := by rw [← hv.length, hlen]
  refine wpAny_bind (wpAny_holding (wpAny_call_entry PyProof.Rows.slot_list_sort ⟨_, hoL, rfl⟩ PyProof.Rows.entry_list_sort
    (PySem.W.list_sort_vals (κ := PySem.W.dataKind (PySem.W.sortingHeap (h'.push (seqObj "list" acc.toList.toArray 0)) h'.objs.size acc.toList) (ds.map id)) (A := X.A.in1.in1) hoL
      (PySem.W.SortsAt.data (s := { s with heap := PySem.W.sortingHeap (h'.push (seqObj "list" acc.toList.toArray 0)) h'.objs.size acc.toList, toks := tk }) (PySem.W.each_map (R := fun v d => ∃ as, Reads (PySem.W.sortingHeap (h'.push (seqObj "list" acc.toList.toArray 0)) h'.objs.size acc.toList) v d as) id er) hall (by rw [List.map_id]; exact hk) (PySem.W.bound_map hu)) hal2 ⟨.none, rfl, ?_⟩) (PyProof.Rows.args_list_sort _)))
  have fin : PySem.W.EachIs (fun u d => ∃ v, RelV v u ∧ R v d) (PySem.W.sortVals (PySem.W.dataKind (PySem.W.sortingHeap (h'.push (seqObj "list" acc.toList.toArray 0)) h'.objs.size acc.toList) (ds.map id)) false acc.toList acc.toList) (ds.mergeSort (PySem.W.dataLe false id)) := PySem.W.sortVals_data (enc := id) false e' er hall
  obtain ⟨ys, h1, h2⟩ := vals_of_each fin
  obtain ⟨c, hc⟩ := PyProof.Rows.sortedHeap_at (vs := acc.toList) (out := (PySem.W.sortVals (PySem.W.dataKind (PySem.W.sortingHeap (h'.push (seqObj "list" acc.toList.toArray 0)) h'.objs.size acc.toList) (ds.map id)) false acc.toList acc.toList).toArray) hoL
  refine wpAny_pure ⟨_, rfl, .ref h'.objs.size, upd H h'.objs.size (.lst ys), I1.laid (t' := tk) (fun b u e => ?_) (Nat.le_refl _) ⟨?_, _, c, h1, hc⟩, rfl, ?_⟩
  · have hlt : b < h'.objs.size := Heap.lt_size e
    rw [PyProof.Rows.sortedHeap_old (Nat.ne_of_lt hlt) (by rw [size_push']; exact Nat.lt_succ_of_lt hlt)]
    exact Heap.get?_push_of_some _ e
  · rw [h1.length, PySem.W.sortVals_length false rfl]
    omega
  · have fin2 : ∀ R' : V → D → Prop, (∀ (i : Nat) v d, xs[i]? = some v → ds[i]? = some d → R' v d) → Paired R' ys (sortD ds) := fun R' k => Paired.mapP h2 fun v d ⟨i, a, b⟩ => k i v d a b
    exact q _ ys (I1.hok.fresh (Nat.le_refl _)) fin2
end
end DL
set_option Elab.async false
set_option linter.all false
set_option maxRecDepth 100000
set_option maxHeartbeats 1000000
set_option autoImplicit false
/-! DN2: dicts over data; while; walks of what slots hold -/
namespace DL
open PySem PySem.Spec PyProof.Rows L2
/-! ### the walk of a nested dict -/
def ItN (a : Addr) (ep : Nat) (es : List (Int × Addr × V)) : It :=
  ⟨fun i H => H a = some (nstO a ep es) ∧ i < es.length, fun i H v H' => H' = H ∧ ∃ e, es[i]? = some e ∧ v = .ref e.2.1, fun i H => H a = some (nstO a ep es) ∧ es.length ≤ i⟩
theorem nst_raw {X : Cx} {pins : List (Addr × Obj)} {σ : L2.St} {H : Hp} {s : Shared} (I : Inv X pins σ H s) {a : Addr} {ep : Nat} {es : List (Int × Addr × V)} (ha : H a = some (nstO a ep es)) :
    ∃ ar, s.heap.DictRaw a ar ep ∧ ar.size = es.length ∧ (a == sysModules) = false ∧ ∀ (i : Nat) (hi : i < ar.size) (e : Int × Addr × V), es[i]? = some e → ar[i].key = .ref e.2.1 := by
  have z : ObjOk X.prog X.w H s.heap a (nstO a ep es) := I.hok a _ ha
  obtain ⟨⟨o, ar, ho, hx, hdat, hp, hz, hm⟩, _, _⟩ := z
  have hl : es.length = ar.toList.length := Paired.length hp
  rw [Array.length_toList] at hl
  refine ⟨ar, ⟨o, ho, hx, hdat⟩, hl.symm, hm, fun i hi e he => ?_⟩
  have key : ∀ {l : List (Int × Addr × V)} {r : List DictEntry} {i : Nat} {e : Int × Addr × V} {x : DictEntry}, Paired (fun (e : Int × Addr × V) (x : DictEntry) => x.hash = e.1 ∧ x.key = .ref e.2.1 ∧ RelV e.2.2 x.val) l r → l[i]? = some e → r[i]? = some x → x.key = .ref e.2.1 := by
    intro l r
    induction l generalizing r with
    | nil => intro i e x p h1 h2; simp at h1
    | cons y l ih =>
      intro i e x p h1 h2
      cases p with
      | cons q t =>
        cases i with
        | zero =>
          simp at h1 h2
          subst h1 h2
          exact q.2.1
        | succ i => exact ih t (by simpa using h1) (by simpa using h2)
  exact key hp he (by rw [Array.getElem?_toList, Array.getElem?_eq_getElem hi])
theorem turn_N {P : Program} {w : World} {K : PySem.W.Frag} {tg : Expr} {a : Addr} {ep : Nat} {es : List (Int × Addr × V)} (it : Addr) : Turn P w K tg (ItN a ep es) [it] it (fun i h => h.IsKeyIter it a i es.length ep ∧ a ≠ it) where
  mem := by simp
  obj := fun i h st b hb => by
    have e : b = it := by simpa using hb
    subst e
    obtain ⟨⟨oi, e, c, dd⟩, _⟩ := st
    exact ⟨oi, e, fun v z => by rw [dd] at z; cases z⟩
  keep := fun i h h' st k => ⟨st.1.at fun oi e => k it (by simp) oi e, st.2⟩
  item := by
    intro X hP hw hK hc i pins s σ H E I hf st hg
    subst hP hw hK
    obtain ⟨st, hne⟩ := st
    obtain ⟨ha, hi⟩ := hg
    obtain ⟨f0, f1, f2, f3, f4, f5⟩ := hf it (by simp)
    obtain ⟨ar, hr, hz, hs, hk⟩ := nst_raw I ha
    rw [← hz] at st
    have hi2 : i < ar.size := by omega
    refine wpAny_pyNext_keys_item_raw st hr hi2 fun h' st' sb => ?_
    have I1 : Inv X pins σ H { s with heap := h' } := I.turned (t' := s.toks) (fun b ob hb e => (sb.2 b hb).trans e) f0 f1 f3 f4 f5
    obtain ⟨oi, e, c, dd⟩ := id st'
    have hkey := hk i hi2 es[i] (List.getElem?_eq_getElem hi)
    refine ⟨ar[i].key, rfl, go_of (s := { s with heap := h' }) e c dd (by decide) ⟨.ref es[i].2.1, H, I1, by rw [hkey]; rfl, ⟨rfl, es[i], List.getElem?_eq_getElem hi, rfl⟩, ⟨?_, hne⟩, fun b hb => (hf b hb).1⟩⟩
    rw [← hz]
    exact st'
  done := by
    intro X hP hw hK hc i pins s σ H E I hf st hg
    subst hP hw hK
    obtain ⟨st, hne⟩ := st
    obtain ⟨ha, hi⟩ := hg
    obtain ⟨f0, f1, f2, f3, f4, f5⟩ := hf it (by simp)
    obtain ⟨ar, hr, hz, hs, hk⟩ := nst_raw I ha
    rw [← hz] at st
    exact wpAny_pyNext_keys_end_raw (I.ok.hd hc) st hr (by omega) fun h' eb => ⟨rfl, I.turned (t' := s.toks) (fun b ob hb e => eb b ob hb e) f0 f1 f3 f4 f5⟩
  self := fun A i s Q E st h => wpAny_pyIter_keyiter st.1 h
def iN (td : TE) : TI := fun σ H R => td σ H fun x H1 => ∃ a ep es, x = .ref a ∧ H1 a = some (nstO a ep es) ∧ R (ItN a ep es) H1
theorem pi_N {X : Cx} {tg e : Expr} {td : TE} (he : PE X e td) : PI X tg e (iN td) := by
  refine ⟨fun pins s σ H R I h => ?_⟩
  refine thn (he.run pins s σ H _ I h) fun u s1 ⟨x, H1, I1, rx, a, ep, es, ex, ha, q⟩ => ?_
  subst ex
  obtain rfl : u = Value.ref a := rx
  obtain ⟨ar, hr, hz, hs, hk⟩ := nst_raw I1 ha
  obtain ⟨oa, hoa, _⟩ := id hr
  refine wpAny_pyIter_dict_raw hs hr (pi_one (tk := s1.toks) I1 _ (turn_N _) ⟨⟨_, Heap.get?_push_size _ rfl, rfl, ?_⟩, Nat.ne_of_lt (Heap.lt_size hoa)⟩ q)
  rw [hz] <;> rfl
theorem walk_N {a : Addr} {ep : Nat} {es : List (Int × Addr × V)} : Walk (ItN a ep es) es.length (fun H => H a = some (nstO a ep es)) (fun i H v H' => H' = H ∧ ∃ e, es[i]? = some e ∧ v = .ref e.2.1) :=
  ⟨fun i H hi h => ⟨h, hi⟩, fun H h => ⟨h, Nat.le_refl _⟩, fun i H x H' hi h y => y⟩
/-! ### dicts by texts -/
def mkS (kvs : List (Str × D)) : D := .dict ((.bool false, .none) :: kvs.map fun p => (.str p.1, p.2))
def lookS (kvs : List (Str × D)) (x : Str) : Option D := (kvs.find? fun p => decide (p.1 = x)).map (·.2)
def putS (kvs : List (Str × D)) (x : Str) (d : D) : List (Str × D) := if (lookS kvs x).isSome then kvs.map fun p => if p.1 = x then (p.1, d) else p else kvs ++ [(x, d)]
theorem any_find {α : Type} (p : α → Bool) (l : List α) : l.any p = (l.find? p).isSome := by
  induction l with
  | nil => rfl
  | cons x l ih =>
    rw [List.any_cons, List.find?_cons]
    cases p x with
    | true => rfl
    | false => rw [Bool.false_or, ih]
section
variable {K : PySem.W.Frag} {H Hc : Hp}
theorem SAll.look (x : Str) : ∀ {kvs : List (Str × D)} {vs : List (Key × V)}, SAll K H vs (kvs.map fun p => (.str p.1, p.2)) →
    (∃ v d, valV vs (.inr x) = some v ∧ lookS kvs x = some d ∧ Dp K H v d) ∨ (valV vs (.inr x) = none ∧ lookS kvs x = none)
  | [], _, h => by
    cases h
    exact .inr ⟨rfl, rfl⟩
  | (y, d) :: kvs, _, h => by
    cases h with
    | cons p t =>
      rename_i v r
      unfold lookS
      by_cases e : y = x
      · subst e
        exact .inl ⟨v, d, valV_pos rfl, by rw [List.find?_cons_of_pos (by simp)]; rfl, p⟩
      · have e1 : valV ((Sum.inr y, v) :: r) (Sum.inr x : Key) = valV r (Sum.inr x : Key) := by
          unfold valV
          rw [List.find?_cons_of_neg (by simp [e])]
        rw [e1, List.find?_cons_of_neg (by simp [e])]
        exact SAll.look x t
theorem SAll.at_ (x : Str) {d : D} : ∀ {kvs : List (Str × D)} {vs : List (Key × V)}, SAll K H vs (kvs.map fun p => (.str p.1, p.2)) → lookS kvs x = some d → ∃ v, valV vs (.inr x) = some v ∧ ∀ Hc, SAll K Hc vs (kvs.map fun p => (.str p.1, p.2)) → Dp K Hc v d
  | [], _, h, e => by simp [lookS] at e
  | (y, d') :: kvs, _, h, e => by
    cases h with
    | cons p t =>
      rename_i v r
      unfold lookS at e
      by_cases e1 : y = x
      · subst e1
        rw [List.find?_cons_of_pos (by simp)] at e
        cases e
        exact ⟨v, valV_pos rfl, fun Hc h => by cases h with | cons p t => exact p⟩
      · rw [List.find?_cons_of_neg (by simp [e1])] at e
        obtain ⟨v', h1, h2⟩ := SAll.at_ x t e
        refine ⟨v', ?_, fun Hc h => by cases h with | cons p t => exact h2 Hc t⟩
        rw [← h1]
        unfold valV
        rw [List.find?_cons_of_neg (by simp [e1])]
theorem SAll.mapPut (x : Str) {v : V} {d : D} (p : Dp K H v d) : ∀ {kvs : List (Str × D)} {vs : List (Key × V)}, SAll K H vs (kvs.map fun p => (.str p.1, p.2)) →
    SAll K H (vs.map fun kv => if kv.1 = Sum.inr x then (kv.1, v) else kv) ((kvs.map fun q => if q.1 = x then (q.1, d) else q).map fun p => (.str p.1, p.2))
  | [], _, h => by
    cases h
    exact .nil
  | (y, d') :: kvs, _, h => by
    cases h with
    | cons q t =>
      have ih := SAll.mapPut x p t
      rw [List.map_cons, List.map_cons, List.map_cons]
      by_cases e : y = x
      · subst e
        rw [if_pos rfl, if_pos rfl]
        exact .cons p ih
      · rw [if_neg (fun z => e (Sum.inr.inj z)), if_neg e]
        exact .cons q ih
theorem SAll.app (x : Str) {v : V} {d : D} (p : Dp K H v d) : ∀ {kvs : List (Str × D)} {vs : List (Key × V)}, SAll K H vs (kvs.map fun p => (.str p.1, p.2)) → SAll K H (vs ++ [(.inr x, v)]) ((kvs ++ [(x, d)]).map fun p => (.str p.1, p.2))
  | [], _, h => by
    cases h
    exact .cons p .nil
  | (y, d') :: kvs, _, h => by
    cases h with
    | cons q t => exact .cons q (SAll.app x p t)
theorem SAll.put (x : Str) {v : V} {d : D} (p : Dp K H v d) {kvs : List (Str × D)} {vs : List (Key × V)} (h : SAll K H vs (kvs.map fun p => (.str p.1, p.2))) : SAll K H (putK vs (.inr x) v) ((putS kvs x d).map fun p => (.str p.1, p.2)) := by
  unfold putK putS
  rw [any_find]
  rcases h.look x with ⟨v', d', e1, e2, _⟩ | ⟨e1, e2⟩
  · unfold valV at e1
    obtain ⟨z, hz, _⟩ := Option.map_eq_some_iff.mp e1
    rw [hz, e2]
    exact h.mapPut x p
  · unfold valV at e1
    have hz := Option.map_eq_none_iff.mp e1
    rw [hz, e2]
    exact h.app x p
theorem SAll.len : ∀ {kvs : List (Str × D)} {vs : List (Key × V)}, SAll K H vs (kvs.map fun p => (.str p.1, p.2)) → vs.length = kvs.length
  | [], _, h => by cases h; rfl
  | (y, d) :: kvs, _, h => by
    cases h with
    | cons q t => rw [List.length_cons, List.length_cons, SAll.len t]
theorem SAll.keys : ∀ {kvs : List (Str × D)} {vs : List (Key × V)}, SAll K H vs (kvs.map fun p => (.str p.1, p.2)) → DpAll K Hc (vs.map fun kv => kV kv.1) (kvs.map fun p => .str p.1)
  | [], _, h => by cases h; exact .nil
  | (y, d) :: kvs, _, h => by
    cases h with
    | cons q t => exact .cons (.str y) (SAll.keys t)
theorem dq_S {v : V} {kvs : List (Str × D)} (h : Dq K H v (mkS kvs)) : ∃ a vs, v = .ref a ∧ H a = some (.dK vs) ∧ SAll K H vs (kvs.map fun p => (.str p.1, p.2)) := by
  obtain ⟨a, o, rfl, h1, h2⟩ := h
  cases h2 with
  | dct p => exact ⟨a, _, rfl, h1, p⟩
theorem dq_N {w : World} {v : V} {kvs : List (NK × D)} (h : Dq K H v (mkN w kvs)) : ∃ a ep es, v = .ref a ∧ H a = some (nstO a ep es) ∧ NAll K H es (payN w kvs) := by
  obtain ⟨a, o, rfl, h1, h2⟩ := h
  cases h2 with
  | nst p => exact ⟨a, _, _, rfl, h1, p⟩
end
/-! ### rules -/
def KOk (kvs : List (NK × D)) : Prop := (kvs.map (·.1)).Nodup ∧ ∀ p ∈ kvs, p.1.depth ≤ 8
section
variable {X : Cx} {a b e o i tg : Expr} {env : DEnv} {pos p : Pos} {d : D} {kvs : List (NK × D)} {ks : List NK} {skv : List (Str × D)} {x : Str}
theorem dp_tupR {K : PySem.W.Frag} {H : Hp} {v : V} (h : Dp K H v (NestedKey.data (.tup ks))) : ∃ c, v = .ref c := by
  unfold NestedKey.data at h
  obtain ⟨a, xs, rfl, _⟩ := dp_tupI h
  exact ⟨a, rfl⟩
theorem key_isD (k : NK) : isD k.data = true := by cases k <;> (unfold NestedKey.data; rfl)
theorem NAll.sub {K : PySem.W.Frag} {Hc H : Hp} {es : List (Int × Addr × V)} {r : List (D × D)} (h : NAll K Hc es r) (c : Cor Hc H) : NAll K H es r := h.same c.sub
theorem ec_inN (hu : X.A.units + 20 < cLine) (ha : EVd X a env (NestedKey.data (.tup ks))) (hb : EVd X b env (mkN X.w kvs)) (ok : KOk kvs) (hd : (NestedKey.tup ks).depth ≤ 8) (hm : behindInMarks .In b = false := by with_unfolding_all rfl) : EVc X .In a b env (lookN kvs (.tup ks)).isSome :=
  ec_of (op_inN hu) ha hb hm fun u v Hc H c p1 p2 Q q => by
    obtain ⟨l, ep, es, rfl, h1, h2⟩ := dq_N p2
    have k1 := p1.p (key_isD _)
    obtain ⟨z, rfl⟩ := dp_tupR k1
    exact ⟨l, ep, es, kvs, z, .tup ks, ⟨rfl, c.sub _ _ h1, h2.sub c, ok.1, ok.2⟩, rfl, cs_same c k1, hd, q⟩
theorem ec_notinN (hu : X.A.units + 20 < cLine) (ha : EVd X a env (NestedKey.data (.tup ks))) (hb : EVd X b env (mkN X.w kvs)) (ok : KOk kvs) (hd : (NestedKey.tup ks).depth ≤ 8) (hm : behindInMarks .NotIn b = false := by with_unfolding_all rfl) : EVc X .NotIn a b env (!(lookN kvs (.tup ks)).isSome) :=
  ec_of (op_notinN hu) ha hb hm fun u v Hc H c p1 p2 Q q => by
    obtain ⟨l, ep, es, rfl, h1, h2⟩ := dq_N p2
    have k1 := p1.p (key_isD _)
    obtain ⟨z, rfl⟩ := dp_tupR k1
    exact ⟨l, ep, es, kvs, z, .tup ks, ⟨rfl, c.sub _ _ h1, h2.sub c, ok.1, ok.2⟩, rfl, cs_same c k1, hd, q⟩
theorem ev_getN (hu : X.A.units + 20 < cLine) (ho : EVd X o env (mkN X.w kvs)) (hi : EVd X i env (NestedKey.data (.tup ks))) (ok : KOk kvs) (hd : (NestedKey.tup ks).depth ≤ 8) (hl : lookN kvs (.tup ks) = some d) (hs : NoSl i := by exact fun _ _ => rfl) : EVd X (.Subscript o i pos) env d := fun Hc σ H hs0 Q q =>
  wx_of (pe_getN hu pe_w pe_w hs) (ho Hc σ H hs0 _ fun v Hc1 H1 g1 p1 => hi Hc1 σ H1 (hs0.grow g1) _ fun u Hc2 H2 g2 p2 => by
    obtain ⟨l, ep, es, rfl, h1, h2⟩ := dq_N p1
    have k1 := p2.p (key_isD _)
    obtain ⟨z, rfl⟩ := dp_tupR k1
    have c := g2.cor
    have h3 := h2.same g2.cc
    exact ⟨l, ep, es, kvs, z, .tup ks, d, ⟨rfl, c.sub _ _ (g2.cc _ _ h1), h3.sub c, ok.1, ok.2⟩, rfl, cs_same c k1, hd, hl, fun v _ f => q v Hc2 H2 (g1.trans g2) (f Hc2 h3).q⟩)
theorem iv_N (he : EVd X e env (mkN X.w kvs)) : IV X tg e env (kvs.map fun p => p.1.data) := fun Hc σ H hs R r => wi_of (pi_N pe_w) (he Hc σ H hs _ fun v Hc1 H1 g p => by
  obtain ⟨l, ep, es, rfl, h1, h2⟩ := dq_N p
  refine ⟨l, ep, es, rfl, g.cor.sub _ _ h1, r _ Hc1 H1 g ?_⟩
  have hl : es.length = kvs.length := by
    have : ∀ {kvs : List (NK × D)} {es : List (Int × Addr × V)}, NAll X.K Hc1 es (payN X.w kvs) → es.length = kvs.length := by
      intro kvs
      induction kvs with
      | nil => intro es h; unfold payN at h; rw [List.map_nil] at h; cases h; rfl
      | cons y l ih =>
        intro es h
        unfold payN at h
        rw [List.map_cons] at h
        cases h with
        | cons _ _ t => rw [List.length_cons, List.length_cons, ih t]
    exact this h2
  rw [List.length_map, ← hl]
  refine walk_N.mono (fun H2 s2 => s2 _ _ h1) fun i H2 x H3 hi _ y => fun Hc2 c s => ?_
  obtain ⟨rfl, e, he, rfl⟩ := y
  have hi2 : i < kvs.length := by omega
  refine ⟨Hc2, kvs[i].1.data, Grow.refl c, by rw [List.getElem?_map, List.getElem?_eq_getElem hi2]; rfl, ?_⟩
  have : ∀ {kvs : List (NK × D)} {es : List (Int × Addr × V)} {i : Nat} {q : NK × D} {e : Int × Addr × V}, NAll X.K Hc1 es (payN X.w kvs) → kvs[i]? = some q → es[i]? = some e → Dp X.K Hc1 (.ref e.2.1) q.1.data := by
    intro kvs
    induction kvs with
    | nil => intro es i q e h h1; simp at h1
    | cons y l ih =>
      intro es i q e h h1 h2
      unfold payN at h
      rw [List.map_cons] at h
      cases h with
      | cons z1 z2 t =>
        cases i with
        | zero =>
          simp at h1 h2
          subst h1 h2
          exact z1
        | succ i => exact ih t (by simpa using h1) (by simpa using h2)
  exact (this h2 (List.getElem?_eq_getElem hi2) he).same s)
theorem en_sortedN (hc : X.calm = true) (he : EVd X e env (mkN X.w kvs)) (ok : KOk kvs) (hal : PySem.W.AllAlike (kvs.map fun p => p.1.data)) (hk : PySem.W.Sortable (kvs.map fun p => p.1.data)) (hu : ∀ d, d ∈ (kvs.map fun p => p.1.data) → X.A.units + 2 + d.depth < cLine) (hg : Gl X "sorted") (hm : X.mg "sorted" = none)
    (hs : starEach (e :: []) X.env = (false, eval e X.env) :: starEach [] X.env := by rfl) : EVn X (.Call (.Name "sorted" p) [e] [] pos) env (sortD (kvs.map fun p => p.1.data)) := fun Hc σ H hs0 Q q =>
  wx_of (pe_callB (call_sortedRaw hc) hg hm (by decide +kernel) (pa_cons pe_w pa_nil hs) (he := hs) (hpl := by rfl)) (he Hc σ H hs0 _ fun v Hc1 H1 g p => by
    obtain ⟨l, ep, es, rfl, h1, h2⟩ := dq_N p
    have keys : ∀ {kvs : List (NK × D)} {es : List (Int × Addr × V)}, NAll X.K Hc1 es (payN X.w kvs) → DpAll X.K Hc1 (es.map fun e => .ref e.2.1) (kvs.map fun p => p.1.data) := by
      intro kvs
      induction kvs with
      | nil => intro es h; unfold payN at h; rw [List.map_nil] at h; cases h; exact .nil
      | cons y l ih =>
        intro es h
        unfold payN at h
        rw [List.map_cons] at h
        cases h with
        | cons z1 z2 t => exact .cons z1 (ih t)
    have hk1 := keys h2
    refine ⟨l, _, _, rfl, rawK_N ⟨rfl, g.cor.sub _ _ h1, h2.sub g.cor, ok.1, ok.2⟩, hk1.same g.cor.sub, hal, hk, hu, fun t ys nl pr => ?_⟩
    refine q t ys Hc1 _ (g.trans (Grow.own (xs := ys) g.cor nl)) (g.hh.free nl) (g.cor.sub.free nl) upd_same (dps_paired (pr _ fun i v d h3 h4 => ?_))
    obtain ⟨v', h5, h6⟩ := hk1.get h4
    rw [h3] at h5
    cases h5
    exact h6)
theorem en_sortedS (hc : X.calm = true) (he : EVd X e env (mkS skv)) (hu : X.A.units + 20 < cLine) (hg : Gl X "sorted") (hm : X.mg "sorted" = none)
    (hs : starEach (e :: []) X.env = (false, eval e X.env) :: starEach [] X.env := by rfl) : EVn X (.Call (.Name "sorted" p) [e] [] pos) env (sortD (skv.map fun p => .str p.1)) := fun Hc σ H hs0 Q q =>
  wx_of (pe_callB (call_sortedRaw hc) hg hm (by decide +kernel) (pa_cons pe_w pa_nil hs) (he := hs) (hpl := by rfl)) (he Hc σ H hs0 _ fun v Hc1 H1 g p => by
    obtain ⟨l, vs, rfl, h1, h2⟩ := dq_S p
    have hk1 : DpAll X.K Hc1 (vs.map fun kv => kV kv.1) (skv.map fun p => .str p.1) := h2.keys
    refine ⟨l, _, _, rfl, rawK_S (g.cor.sub _ _ h1), hk1.same g.cor.sub, ?_, ?_, ?_, fun t ys nl pr => ?_⟩
    · intro d hd d' hd'
      obtain ⟨z, _, rfl⟩ := List.mem_map.mp hd
      obtain ⟨z', _, rfl⟩ := List.mem_map.mp hd'
      simp [PySem.W.alike]
    · refine .inr fun d hd => ?_
      obtain ⟨z, _, rfl⟩ := List.mem_map.mp hd
      exact ⟨fun q => (nomatch q), fun xs q => (nomatch q)⟩
    · intro d hd
      obtain ⟨z, _, rfl⟩ := List.mem_map.mp hd
      simp only [PyData.depth]
      omega
    · refine q t ys Hc1 _ (g.trans (Grow.own (xs := ys) g.cor nl)) (g.hh.free nl) (g.cor.sub.free nl) upd_same (dps_paired (pr _ fun i v d h3 h4 => ?_))
      obtain ⟨v', h5, h6⟩ := hk1.get h4
      rw [h3] at h5
      cases h5
      exact h6)
theorem ev_getS (hu : X.A.units + 1 < cLine) (ho : EVd X o env (mkS skv)) (hi : EVd X i env (.str x)) (hl : lookS skv x = some d) (hs : NoSl i := by exact fun _ _ => rfl) : EVd X (.Subscript o i pos) env d := fun Hc σ H hd Q q =>
  wx_of (pe_dget hu pe_w pe_w hs) (ho Hc σ H hd _ fun v Hc1 H1 g1 p1 => hi Hc1 σ H1 (hd.grow g1) _ fun u Hc2 H2 g2 p2 => by
    obtain ⟨a, vs, rfl, ha, hv⟩ := dq_S (p1.same g2.cc)
    cases dp_str p2
    obtain ⟨v, e1, e2⟩ := hv.at_ x hl
    exact ⟨a, v, rfl, by
      have z := DGet.k (k := .inr x) (g2.cor.sub _ _ ha)
      rw [e1] at z
      exact z, q v Hc2 H2 (g1.trans g2) (e2 Hc2 hv).q⟩)
end
end DL
set_option Elab.async false
set_option linter.all false
set_option maxRecDepth 100000
set_option maxHeartbeats 1000000
set_option autoImplicit false
/-! DN3: statements over dicts -/
namespace DL
open PySem PySem.Spec PyProof.Rows L2
/-- e gives a datum that may be kept -/
def EVs (X : Cx) (e : Expr) (env : SEnv) (d : D) : Prop := ∀ (Hc0 H0 Hc : Hp) (σ : L2.St) (H : Hp), DSc X.K Hc0 H0 Hc σ H env → ∀ Q : VK, (∀ v Hc1 H1, Grow Hc H Hc1 H1 → Dp X.K Hc1 v d → Q v H1) → WX X e σ H Q
def IVs (X : Cx) (tg it : Expr) (env : SEnv) (ds : List D) : Prop := ∀ (Hc0 H0 Hc : Hp) (σ : L2.St) (H : Hp), DSc X.K Hc0 H0 Hc σ H env → ∀ R : It → Hp → Prop,
  (∀ J Hc1 H1, Grow Hc H Hc1 H1 → Walk J ds.length (fun H2 => Same Hc1 H2) (YC X.K Hc1 ds) → R J H1) → WI X tg it σ H R
section
variable {X : Cx} {e a b c tg it o i : Expr} {es : List Expr} {env env' : SEnv} {pos pos' : Pos} {d : D} {ds : List D} {st : Stmt} {sts A B : List Stmt} {Z : EndsD} {x : Str}
theorem es_v (he : EVd X e (vis env) d) (hi : isD d = true := by rfl) : EVs X e env d := fun Hc0 H0 Hc σ H q Q k => he Hc σ H q.x Q fun v Hc1 H1 g p => k v Hc1 H1 g (p.p hi)
theorem es_a (he : EVd X e (allE env) d) (hn : noL d = true) : EVs X e env d := fun Hc0 H0 Hc σ H q Q k => he _ σ H q.all Q fun v Hc1 H1 g p => by
  obtain ⟨Hc2, g2, k1, _, _⟩ := Grow.narrow (K := X.K) q.gr.cor g
  exact k v Hc2 H1 g2 (k1 v d hn p)
theorem es_n (he : EVn X e (allE env) ds) (hn : noLs ds = true) : EVs X e env (.list ds) := fun Hc0 H0 Hc σ H q Q k => he _ σ H q.all Q fun p xs Hc1 H1 g np nc hp ha => by
  obtain ⟨Hc2, g2, _, k2, k3⟩ := Grow.narrow (K := X.K) q.gr.cor g
  exact k _ Hc2 H1 g2 (L2.Dp.lst (.inl (.inl (by rw [k3 p np]; exact hp))) (k2 xs ds hn ha))
/-- d[k] of a slot's own dict -/
theorem es_getS {j : Nat} {y : Str} {skv : List (Str × D)} {py : Pos} (hu : X.A.units + 1 < cLine) (hj : env[j]? = some (some (.own (mkS skv)))) (hi : EVs X i env (.str x)) (hl : lookS skv x = some d) (hN : X.N[j]? = some y := by rfl) (hv : Vis X.env.scope y := by first | exact Or.inl rfl | exact Or.inr (Or.inl rfl) | exact Or.inr (Or.inr rfl))
    (hs : NoSl i := by exact fun _ _ => rfl) (h1 : (y == ("__debug__" : Str)) = false := by decide) (h2 : (y == ("__classdict__" : Str)) = false := by decide) : EVs X (.Subscript (.Name y py) i pos) env d := fun Hc0 H0 Hc σ H q Q k =>
  wx_of (pe_dget hu (pe_var hN hv h1 h2) pe_w hs) (by
    obtain ⟨l, o, e1, e2, e3, e4, e5⟩ := q.own j _ hj
    refine ⟨_, e1, ?_⟩
    refine hi Hc0 H0 Hc σ H q _ fun u Hc2 H2 g2 p2 => ?_
    cases dp_str p2
    cases e5 with
    | dct e5 =>
      obtain ⟨v, z1, z2⟩ := SAll.at_ x e5 hl
      refine ⟨l, v, rfl, ?_, k v Hc2 H2 g2 (z2 Hc2 (e5.same g2.cc))⟩
      have z := DGet.k (k := .inr x) (g2.hh _ _ e4)
      rw [z1] at z
      exact z)
theorem ivs_v (h : IV X tg it (vis env) ds) : IVs X tg it env ds := fun Hc0 H0 Hc σ H q R r => h Hc σ H q.x R r
theorem ivs_list (he : EVs X e env (.list ds)) : IVs X tg e env ds := fun Hc0 H0 Hc σ H q R r => wi_of (pi_list pe_w) (he Hc0 H0 Hc σ H q _ fun v Hc1 H1 g p => by
  obtain ⟨a, xs, rfl, h1, h2⟩ := dp_lstI p
  refine ⟨a, rfl, ⟨xs, sql_sub g.cor h1⟩, r _ Hc1 H1 g ?_⟩
  rw [← h2.len]
  exact (walk_list (K := X.K) (a := a) (xs := xs)).mono (fun H2 s2 => s2.seq h1) fun i H2 x H3 _ _ y => yc_at h2 y)
theorem sv_setE {i : Nat} {x : Str} (hN : X.N.Nodup) (hi : X.N[i]? = some x) (hx : Loc X.env.scope x) (he : EVs X e env d) (h : Z.nx (env.set i (some (.dat d)))) (hs : swapsWith e (some (.Name x pos')) pos.line X.env = pure false := by rfl)
    (hf : X.fn x = true ∨ X.env.scope.names.lookup x = some .local := by first | exact .inl rfl | exact .inr rfl | assumption) : SV X (.Assign [.Name x pos'] e pos) Z env := fun Hc0 H0 σ H ⟨Hc, q⟩ =>
  ws_of (ps_set hN hi hx pe_w hs hf) (he Hc0 H0 Hc σ H q _ fun v Hc1 H1 g p => ⟨_, ⟨Hc1, (q.grow g).setDat i p.q⟩, h⟩)
theorem sv_forS {t : Tgt} {body : List Stmt} (Pv : Nat → SEnv → Prop) (hp : PassesOwn (model X.prog X.w) X.A X.env X.xe) (hc : X.calm = true) (hi : IVs X tg it env ds) (h0 : Pv 0 env) (htg : ∀ d, d ∈ ds → TgtOk X tg t d)
    (turn : ∀ (i : Nat) (d : D) (env' : SEnv), ds[i]? = some d → Pv i env' → SVs X body { nx := Pv (i + 1), ct := Pv (i + 1), bk := Z.nx, rt := Z.rt } (t.put env' d)) (hd : ∀ env', Pv ds.length env' → Z.nx env')
    (hs : ∀ x, foldedSetIterable it X.env x = pure x := by intro _; rfl) : SV X (.For tg it body [] pos) Z env := fun Hc0 H0 σ H ⟨Hc, q⟩ =>
  ws_of (ps_for (g := WG X tg) (tb := WSs X body) hp hc pi_w pg_w pss_w hs) (hi Hc0 H0 Hc σ H q _ fun J Hc1 H1 g w => by
    have cc0 : Same Hc0 Hc1 := q.gr.cc.trans g.cc
    have nw0 : ∀ a, H0 a ≠ none → Hc0 a = none → Hc1 a = none := (q.gr.trans g).nw
    have q1 := q.grow g
    refine for_it w (fun i σ' H' => ∃ env', DS X.K Hc1 H0 σ' H' env' ∧ Pv i env') ?_ ?_ ?_ ?_
    · exact ⟨env, ⟨Hc1, ⟨⟨q1.gr.hh, Same.refl _, fun a h1 h2 => h2, q1.gr.cor⟩, q1.len, q1.dat, q1.own, q1.sep⟩⟩, h0⟩
    · rintro i σ' H' _ ⟨env', ⟨Hc2, q2⟩, _⟩
      exact q2.gr.cc.trans q2.gr.cor.sub
    · rintro i x σ' H' H'' hlt ⟨env', ⟨Hc2, q2⟩, pv'⟩ y
      obtain ⟨Hc3, d, g3, hd3, px⟩ := y Hc2 q2.gr.cor q2.gr.cc
      refine htg d (List.mem_of_getElem? hd3) Hc1 H0 Hc3 σ' H'' env' (q2.grow g3) x px.q _ fun σ2 q4 => ?_
      have b := turn i d env' hd3 pv' Hc1 H0 σ2 H'' ⟨Hc3, q4⟩
      refine wss_mono b (fun _ _ z => z) (fun v H5 z => ?_) (fun σ5 H5 z => ?_) (fun _ _ z => z)
      · obtain ⟨r, ⟨Hc5, g5, p5⟩, k⟩ := z
        exact ⟨r, ⟨Hc5, ⟨g5.hh, cc0.trans g5.cc, fun a h1 h2 => g5.nw a h1 (nw0 a h1 h2), g5.cor⟩, p5⟩, k⟩
      · obtain ⟨e5, ⟨Hc5, q5⟩, k⟩ := z
        exact ⟨e5, ⟨Hc5, q5.rebase cc0 nw0⟩, k⟩
    · rintro σ' H' ⟨env', ⟨Hc2, q2⟩, pv'⟩
      exact ⟨env', ⟨Hc2, q2.rebase cc0 nw0⟩, hd env' pv'⟩)
theorem sv_forT {α : Type} {xs : List α} {enc : α → D} {t : Tgt} {body : List Stmt} (Pv : Nat → SEnv → Prop) (hp : PassesOwn (model X.prog X.w) X.A X.env X.xe) (hc : X.calm = true) (hi : IVs X tg it env (xs.map enc)) (h0 : Pv 0 env) (htg : ∀ x, TgtOk X tg t (enc x))
    (turn : ∀ (i : Nat) (x : α) (env' : SEnv), xs[i]? = some x → Pv i env' → SVs X body { nx := Pv (i + 1), ct := Pv (i + 1), bk := Z.nx, rt := Z.rt } (t.put env' (enc x))) (hd : ∀ env', Pv xs.length env' → Z.nx env')
    (hs : ∀ x, foldedSetIterable it X.env x = pure x := by intro _; rfl) : SV X (.For tg it body [] pos) Z env :=
  sv_forS Pv hp hc hi h0 (fun d hd => by
    obtain ⟨x, _, rfl⟩ := List.mem_map.mp hd
    exact htg x) (fun i d env' hd pv' => by
    rw [List.getElem?_map] at hd
    obtain ⟨x, hx, rfl⟩ := Option.map_eq_some_iff.mp hd
    exact turn i x env' hx pv') (fun env' h => hd env' (by rw [List.length_map] at h; exact h)) hs
/-- while: W by a count -/
theorem sv_while {body : List Stmt} (W : Nat → SEnv → Prop) (hp : PassesOwn (model X.prog X.w) X.A X.env X.xe) {m0 : Nat} (h0 : W m0 env)
    (turn : ∀ m env', W m env' → ∃ k, EVt X c (allE env') k ∧ (k = true → SVs X body { nx := fun e2 => ∃ m', m' < m ∧ W m' e2, ct := fun e2 => ∃ m', m' < m ∧ W m' e2, bk := Z.nx, rt := Z.rt } env') ∧ (k = false → Z.nx env')) : SV X (.While c body [] pos) Z env := fun Hc0 H0 σ H hs =>
  ws_of (ps_while (tc := WT X c) (tb := WSs X body) hp pt_w pss_w) ⟨fun m σ' H' => ∃ env', DS X.K Hc0 H0 σ' H' env' ∧ W m env', ⟨m0, env, hs, h0⟩, by
    rintro m σ' H' ⟨env', ⟨Hc, q⟩, w⟩
    obtain ⟨k, hc, h1, h2⟩ := turn m env' w
    refine hc _ σ' H' q.all _ fun Hc1 H1 g => ?_
    obtain ⟨Hc2, g2, _⟩ := Grow.narrow (K := X.K) q.gr.cor g
    have q2 : DS X.K Hc0 H0 σ' H1 env' := ⟨Hc2, q.grow g2⟩
    cases k with
    | true =>
      rw [if_pos rfl]
      refine ⟨fun σ2 H2 => ∃ e2, DS X.K Hc0 H0 σ2 H2 e2 ∧ ∃ m', m' < m ∧ W m' e2, fun σ2 H2 ⟨e2, d2, m', lt, w'⟩ => ⟨m', lt, e2, d2, w'⟩, ?_⟩
      exact h1 rfl Hc0 H0 σ' H1 q2
    | false =>
      rw [if_neg Bool.false_ne_true]
      exact ⟨env', q2, h2 rfl⟩⟩
/-! ### dicts made and written -/
theorem Grow.ownO {Hc H : Hp} {p : Addr} {o : HO} (c : Cor Hc H) (h : H p = none) (nt : ¬ TupO o) : Grow Hc H Hc (upd H p o) := by
  refine ⟨same_new h, Same.refl _, fun a h1 h2 => h2, ⟨c.sub.trans (same_new h), fun a u e t => ?_⟩⟩
  by_cases ea : a = p
  · rw [ea, upd_same] at e
    cases e
    exact absurd t nt
  · rw [upd_ne ea] at e
    exact c.tup a u e t
/-- name = {}, for keys that are texts -/
theorem sv_newS {i : Nat} {x : Str} {dp : Pos} (hN : X.N.Nodup) (hi : X.N[i]? = some x) (hx : Loc X.env.scope x) (h : Z.nx (env.set i (some (.own (mkS []))))) (hs : swapsWith (.Dict [] [] dp) (some (.Name x pos')) pos.line X.env = pure false := by rfl)
    (hf : X.fn x = true ∨ X.env.scope.names.lookup x = some .local := by first | exact .inl rfl | exact .inr rfl | assumption) : SV X (.Assign [.Name x pos'] (.Dict [] [] dp) pos) Z env := fun Hc0 H0 σ H ⟨Hc, q⟩ =>
  ws_of (ps_set hN hi hx pe_dnewK hs hf) fun p hn => by
    have g := Grow.ownO (o := .dK []) q.gr.cor hn id
    refine ⟨_, ⟨Hc, (q.grow g).setOwn i (q.gr.hh.free hn) (q.gr.cor.sub.free hn) upd_same (.dct .nil) fun j es e1 e2 => ?_⟩, h⟩
    obtain ⟨b, zs, h1, h2, h3, h4, h5⟩ := q.own j es e1
    rw [h1] at e2
    cases e2
    rw [hn] at h4
    cases h4
/-- d[k] = v, keys texts -/
theorem sv_putS {j : Nat} {y : Str} {skv : List (Str × D)} {py : Pos} (hu : X.A.units + 1 < cLine) (hj : env[j]? = some (some (.own (mkS skv)))) (hv : EVs X e env d) (hi : EVs X i env (.str x)) (hz : skv.length < sizeLine) (h : Z.nx (env.set j (some (.own (mkS (putS skv x d))))))
    (hs : swapsWith e (some (.Subscript (.Name y py) i pos')) pos.line X.env = pure false := by rfl) (hN : X.N[j]? = some y := by rfl) (hvi : Vis X.env.scope y := by first | exact Or.inl rfl | exact Or.inr (Or.inl rfl) | exact Or.inr (Or.inr rfl))
    (h1 : (y == ("__debug__" : Str)) = false := by decide) (h2 : (y == ("__classdict__" : Str)) = false := by decide) : SV X (.Assign [.Subscript (.Name y py) i pos'] e pos) Z env := fun Hc0 H0 σ H ⟨Hc, q⟩ =>
  ws_of (ps_dput hu (pe_var hN hvi h1 h2) pe_w pe_w hs) (hv Hc0 H0 Hc σ H q _ fun v Hc1 H1 g1 p1 => by
    have q1 := q.grow g1
    obtain ⟨l, o, e1, e2, e3, e4, e5⟩ := q1.own j _ hj
    refine ⟨_, e1, ?_⟩
    refine hi Hc0 H0 Hc1 σ H1 q1 _ fun u Hc2 H2 g2 p2 => ?_
    have q2 := q1.grow g2
    cases dp_str p2
    cases e5 with
    | dct e5 =>
      have e6 := e5.same g2.cc
      have ha := g2.hh _ _ e4
      have hc2 := g2.nw l (by rw [e4]; exact fun z => nomatch z) e3
      refine ⟨l, _, rfl, DPut.k (k := .inr x) (v := v) ha (by rw [e5.len]; exact hz), ?_⟩
      exact ⟨_, ⟨Hc2, q2.mut hj e1 e2 hc2 (.dct (e6.put x (p1.same g2.cc)))⟩, h⟩)
/-- d[k] = v, keys nested tuples -/
theorem sv_putN {j : Nat} {y : Str} {kvs : List (NK × D)} {ks : List NK} {py : Pos} (hu : X.A.units + 20 < cLine) (hj : env[j]? = some (some (.own (mkN X.w kvs)))) (hv : EVs X e env d) (hi : EVs X i env (NestedKey.data (.tup ks))) (ok : KOk kvs) (hd : (NestedKey.tup ks).depth ≤ 8) (hz : kvs.length < sizeLine) (h : Z.nx (env.set j (some (.own (mkN X.w (putN kvs (.tup ks) d))))))
    (hs : swapsWith e (some (.Subscript (.Name y py) i pos')) pos.line X.env = pure false := by rfl) (hN : X.N[j]? = some y := by rfl) (hvi : Vis X.env.scope y := by first | exact Or.inl rfl | exact Or.inr (Or.inl rfl) | exact Or.inr (Or.inr rfl))
    (h1 : (y == ("__debug__" : Str)) = false := by decide) (h2 : (y == ("__classdict__" : Str)) = false := by decide) : SV X (.Assign [.Subscript (.Name y py) i pos'] e pos) Z env := fun Hc0 H0 σ H ⟨Hc, q⟩ =>
  ws_of (ps_putR (pset_N hu) (pe_var hN hvi h1 h2) pe_w pe_w hs) (hv Hc0 H0 Hc σ H q _ fun v Hc1 H1 g1 p1 => by
    have q1 := q.grow g1
    obtain ⟨l, o, e1, e2, e3, e4, e5⟩ := q1.own j _ hj
    refine ⟨_, e1, ?_⟩
    refine hi Hc0 H0 Hc1 σ H1 q1 _ fun u Hc2 H2 g2 p2 => ?_
    have q2 := q1.grow g2
    obtain ⟨z, rfl⟩ := dp_tupR p2
    have nn : ∀ o, TopO X.K Hc1 l o (mkN X.w kvs) → ∃ ep es, o = nstO l ep es ∧ NAll X.K Hc1 es (payN X.w kvs) := fun o t => by
      cases t with
      | nst p => exact ⟨_, _, rfl, p⟩
    obtain ⟨ep, es, rfl, e7⟩ := nn o e5
    have e6 : NAll X.K Hc2 es (payN X.w kvs) := e7.same g2.cc
    have ha := g2.hh _ _ e4
    have c2 := g2.cor
    have p3 := p1.same g2.cc
    have hc2 := g2.nw l (by rw [e4]; exact fun z => nomatch z) e3
    refine ⟨l, ep, es, kvs, z, .tup ks, d, ⟨rfl, ha, e6.sub c2, ok.1, ok.2⟩, rfl, cs_same c2 p2, hd, cs_same c2 p3, hz, fun ep' => ?_⟩
    exact ⟨_, ⟨Hc2, q2.mut hj e1 e2 hc2 (.nst (e6.put p2 p3))⟩, h⟩)
theorem depth_look {kvs : List (NK × D)} {k : NK} (d : D) (hk : k.depth ≤ 8) (ok : KOk kvs) : KOk (putN kvs k d) := by
  have e : (putN kvs k d).map (·.1) = if (lookN kvs k).isSome then kvs.map (·.1) else kvs.map (·.1) ++ [k] := by
    unfold putN
    split
    · rw [List.map_map]
      refine List.map_congr_left fun p _ => ?_
      show (if p.1 = k then (p.1, d) else p).1 = p.1
      split <;> rfl
    · rw [List.map_append]
      rfl
  refine ⟨?_, fun p hp => ?_⟩
  · rw [e]
    split
    · exact ok.1
    · rename_i hn
      refine List.nodup_append.mpr ⟨ok.1, by simp, fun z hz y hy q => ?_⟩
      have hy : y = k := by simpa using hy
      subst hy q
      obtain ⟨p, hp, e⟩ := List.mem_map.mp hz
      apply hn
      unfold lookN
      rw [Option.isSome_map, ← any_find]
      exact List.any_eq_true.mpr ⟨p, hp, decide_eq_true e⟩
  · have : p.1 ∈ (putN kvs k d).map (·.1) := List.mem_map_of_mem hp
    rw [e] at this
    split at this
    · obtain ⟨q, hq, e⟩ := List.mem_map.mp this
      rw [← e]
      exact ok.2 q hq
    · rcases List.mem_append.mp this with h | h
      · obtain ⟨q, hq, e⟩ := List.mem_map.mp h
        rw [← e]
        exact ok.2 q hq
      · have : p.1 = k := by simpa using h
        rw [this]
        exact hk
end
end DL
set_option Elab.async false
set_option linter.all false
set_option maxRecDepth 100000
set_option maxHeartbeats 1000000
set_option autoImplicit false
/-! M2: traits below -/
namespace Tr
open PySem PySem.Spec PyProof.Rows L2 DL
def addL (ks : List Str) (x : Str) : List Str := if x ∈ ks then ks else ks ++ [x]
def sortL (ks : List Str) : List Str := ks.mergeSort fun a b => PySem.W.dataLe false id (.str a) (.str b)
def lookT (tab : List (Str × List Str)) (x : Str) : Option (List Str) := (tab.find? fun p => decide (p.1 = x)).map (·.2)
def metOne (tab : List (Str × List Str)) (ks : List Str) (one : Str) : List Str := ((lookT tab one).getD []).foldl addL (addL ks one)
def metOf (tab : List (Str × List Str)) (below : List Str) : List Str := below.foldl (metOne tab) []
def tabStep (tab : List (Str × List Str)) (t : Str × Str × List Str) : List (Str × List Str) := tab ++ [(t.1, sortL (metOf tab t.2.2))]
def tabW (ts : List (Str × Str × List Str)) : List (Str × List Str) := ts.foldl tabStep []
def allBelow (v : Wd) (t : Str) : List Str := (names v).filter fun x => decide (x ∈ (lookT (tabW v.ts) t).getD [])
def convM (ks : List Str) : List (Str × D) := ks.map fun k => (k, .bool true)
def convT (tab : List (Str × List Str)) : List (Str × D) := tab.map fun p => (p.1, .list (p.2.map .str))
theorem sortL_data (ks : List Str) : sortD (ks.map PyData.str) = (sortL ks).map PyData.str := by
  unfold sortD sortL
  rw [List.map_mergeSort]
  intro a _ b _
  rfl
theorem lookS_M (ks : List Str) (x : Str) : (lookS (convM ks) x).isSome = decide (x ∈ ks) := by
  unfold lookS
  rw [Option.isSome_map, ← any_find]
  unfold convM
  rw [List.any_map]
  by_cases h : x ∈ ks
  · rw [decide_eq_true h]
    exact List.any_eq_true.mpr ⟨x, h, decide_eq_true rfl⟩
  · rw [decide_eq_false h]
    refine List.any_eq_false.mpr fun y hy e => ?_
    have e : y = x := of_decide_eq_true e
    subst e
    exact h hy
theorem putS_M (ks : List Str) (x : Str) : putS (convM ks) x (.bool true) = convM (addL ks x) := by
  unfold putS addL
  rw [lookS_M]
  by_cases h : x ∈ ks
  · rw [decide_eq_true h, if_pos rfl, if_pos h]
    unfold convM
    rw [List.map_map]
    refine List.map_congr_left fun y _ => ?_
    show (if y = x then _ else _) = _
    split <;> rfl
  · rw [decide_eq_false h, if_neg Bool.false_ne_true, if_neg h]
    unfold convM
    rw [List.map_append]
    rfl
theorem lookS_T (tab : List (Str × List Str)) (x : Str) : lookS (convT tab) x = (lookT tab x).map fun l => .list (l.map .str) := by
  unfold lookS lookT convT
  rw [List.find?_map, Option.map_map, Option.map_map]
  rfl
theorem lookT_some {tab : List (Str × List Str)} {x : Str} (h : x ∈ tab.map (·.1)) : ∃ l, lookT tab x = some l := by
  obtain ⟨p, hp, e⟩ := List.mem_map.mp h
  unfold lookT
  have : (tab.find? fun p => decide (p.1 = x)).isSome = true := by
    rw [← any_find]
    exact List.any_eq_true.mpr ⟨p, hp, decide_eq_true e⟩
  obtain ⟨q, hq⟩ := Option.isSome_iff_exists.mp this
  exact ⟨q.2, by rw [hq]; rfl⟩
theorem lookT_none {tab : List (Str × List Str)} {x : Str} (h : x ∉ tab.map (·.1)) : lookT tab x = none := by
  unfold lookT
  have : tab.find? (fun p => decide (p.1 = x)) = none := by
    refine List.find?_eq_none.mpr fun p hp e => ?_
    have e : p.1 = x := of_decide_eq_true e
    exact h (List.mem_map.mpr ⟨p, hp, e⟩)
  rw [this]
  rfl
theorem putS_T {tab : List (Str × List Str)} {x : Str} (l : List Str) (h : x ∉ tab.map (·.1)) : putS (convT tab) x (.list (l.map .str)) = convT (tab ++ [(x, l)]) := by
  unfold putS
  rw [lookS_T, lookT_none h]
  unfold convT
  rw [List.map_append]
  rfl
theorem tab_keys (ts : List (Str × Str × List Str)) : (tabW ts).map (·.1) = ts.map (·.1) := by
  have : ∀ (ts : List (Str × Str × List Str)) (tab : List (Str × List Str)), (ts.foldl tabStep tab).map (·.1) = tab.map (·.1) ++ ts.map (·.1) := by
    intro ts
    induction ts with
    | nil => intro tab; simp
    | cons t r ih =>
      intro tab
      rw [List.foldl_cons, ih]
      unfold tabStep
      simp
  rw [tabW, this]
  simp
theorem addL_len (ks : List Str) (x : Str) : (addL ks x).length ≤ ks.length + 1 := by
  unfold addL
  split
  · omega
  · simp
theorem foldl_addL_len : ∀ (l ks : List Str), (l.foldl addL ks).length ≤ ks.length + l.length
  | [], ks => by simp
  | x :: l, ks => by
    rw [List.foldl_cons, List.length_cons]
    have h1 := foldl_addL_len l (addL ks x)
    have h2 := addL_len ks x
    omega
theorem metOne_len {tab : List (Str × List Str)} {B : Nat} (h : ∀ p ∈ tab, p.2.length ≤ B) (ks : List Str) (one : Str) : (metOne tab ks one).length ≤ ks.length + 1 + B := by
  unfold metOne
  have h1 := foldl_addL_len ((lookT tab one).getD []) (addL ks one)
  have h2 := addL_len ks one
  have h3 : ((lookT tab one).getD []).length ≤ B := by
    cases e : lookT tab one with
    | none => simp
    | some l =>
      unfold lookT at e
      obtain ⟨p, hp, rfl⟩ := Option.map_eq_some_iff.mp e
      exact h p (List.mem_of_find?_eq_some hp)
  omega
theorem met_len {tab : List (Str × List Str)} {B : Nat} (h : ∀ p ∈ tab, p.2.length ≤ B) : ∀ (below ks : List Str), (below.foldl (metOne tab) ks).length ≤ ks.length + below.length * (1 + B)
  | [], ks => by simp
  | x :: l, ks => by
    rw [List.foldl_cons, List.length_cons]
    have h1 := met_len h l (metOne tab ks x)
    have h2 := metOne_len h ks x
    rw [Nat.add_mul]
    omega
theorem tab_len {ts : List (Str × Str × List Str)} (hb : ∀ t ∈ ts, t.2.2.length ≤ 4) (n : Nat) : ∀ p ∈ tabW (ts.take n), p.2.length ≤ 9 ^ (n + 1) := by
  induction n with
  | zero => intro p hp; simp [tabW] at hp
  | succ n ih =>
    cases hn : ts[n]? with
    | none =>
      have : ts.take (n + 1) = ts.take n := by rw [List.take_succ, hn]; simp
      rw [this]
      intro p hp
      exact Nat.le_trans (ih p hp) (Nat.pow_le_pow_right (by decide) (Nat.le_succ _))
    | some t =>
      rw [take_at hn, tabW, List.foldl_append]
      show ∀ p ∈ tabStep (tabW (ts.take n)) t, _
      intro p hp
      unfold tabStep at hp
      rcases List.mem_append.mp hp with hp | hp
      · exact Nat.le_trans (ih p hp) (Nat.pow_le_pow_right (by decide) (Nat.le_succ _))
      · have : p = (t.1, sortL (metOf (tabW (ts.take n)) t.2.2)) := by simpa using hp
        subst this
        show (sortL _).length ≤ _
        unfold sortL
        rw [List.length_mergeSort]
        have h1 := met_len ih t.2.2 []
        have h2 := hb t (List.mem_of_getElem? hn)
        have h3 : t.2.2.length * (1 + 9 ^ (n + 1)) ≤ 4 * (1 + 9 ^ (n + 1)) := Nat.mul_le_mul_right _ h2
        have h4 : 1 ≤ 9 ^ (n + 1) := Nat.one_le_pow _ _ (by decide)
        have h5 : 9 ^ (n + 1 + 1) = 9 ^ (n + 1) * 9 := Nat.pow_succ ..
        unfold metOf
        simp only [List.length_nil, Nat.zero_add] at h1
        omega
end Tr
set_option Elab.async false
set_option linter.all false
set_option maxRecDepth 100000
set_option maxHeartbeats 1000000
set_option autoImplicit false
namespace Tr
open PySem PySem.Spec PyProof.Rows L2 DL
section
variable {P : Program} {w : World} {K : PySem.W.Frag} {mg : Str → Option Value} {base : Heap}
def spBelow (ds : List D) (r : D) : Prop := ∃ (v : Wd) (t : Str), OkW v ∧ t ∈ names v ∧ ds = [W v, .str t] ∧ r = .list ((allBelow v t).map .str)
theorem noLs_str (l : List Str) : noLs (l.map PyData.str) = true := by
  induction l with
  | nil => rfl
  | cons x l ih => rw [List.map_cons, noLs, ih]; rfl
abbrev N_all_below : List Str := ["world", "trait", "table", "name", "form", "below", "met", "one", "other"]
theorem sc_all_below : FnScope N_all_below ["world", "trait"] (defScope (top 37)) := ⟨rfl, rfl, rfl, by decide +kernel, rfl, by decide +kernel, by decide +kernel⟩
theorem ok_all_below (B : Blt mg) (D1 : DefD P w K mg base "trait_names" 1 ["world"] spNames) (F : Has K mg "all_below" (top 37)) : DefD P w K mg base "all_below" 2 ["world", "trait"] spBelow := by
  refine def_mk F (fun _ _ _ _ _ _ us hl => match us, hl with | [_, _], _ => rfl) fun f fd F => fn_D F sc_all_below (fun ds d h => ?_) fun cdv A outer s H E ds d h hr => ?_
  · obtain ⟨v, t, _, _, rfl, _⟩ := h
    rfl
  · obtain ⟨v, t, ok, ht, rfl, rfl⟩ := h
    have hz0 : ∀ n, n ≤ 4 → 9 ^ (n + 1) ≤ 59049 := fun n hn => Nat.le_trans (Nat.pow_le_pow_right (by decide) (Nat.succ_le_succ hn)) (by decide)
    refine sv_cons (sv_newS sc_all_below.nd (i := 2) rfl (by first | exact Or.inl rfl | exact Or.inr rfl) ?_)
    refine sv_cons (sv_for (xs := v.ts) (enc := encT) (t := .tup [3, 4, 5]) (fun n env' => (∃ a b c d e g, env' = [some (.dat (W v)), some (.dat (.str t)), some (.own (mkS (convT (tabW (v.ts.take n))))), a, b, c, d, e, g]) ∧ okT ((v.ts.take n).map (·.1)) (v.ts.drop n) = true) PassesOwn.never rfl
      (iv_tup (ev_W 0 rfl rfl)) ⟨⟨none, none, none, none, none, none, rfl⟩, ok.tt⟩ (fun p => tg_tup rfl (tgs_cons (fun _ => t_one 3 sc_all_below.nd) (tgs_cons (fun _ => t_one 4 sc_all_below.nd) (tgs_cons (fun _ => t_one 5 sc_all_below.nd) tgs_nil))) rfl rfl) ?_ ?_)
    · rintro n ⟨nm, fm, bl⟩ _ hn ⟨⟨a, b, c, d, e, g, rfl⟩, ih⟩
      obtain ⟨_, h2, _, h4, _, _, h7⟩ := okT_ear (drop_at hn) ih
      have hn4 : n < 4 := Nat.lt_of_lt_of_le (List.getElem?_eq_some_iff.mp hn).1 ok.t4
      have hbl : bl.length ≤ 4 := ok.b4 _ (List.mem_of_getElem? hn)
      have hB := tab_len ok.b4 n
      have h9 := hz0 n (by omega)
      have hkeys := tab_keys (v.ts.take n)
      generalize htab : tabW (v.ts.take n) = tab at hB hkeys
      refine sv_cons (sv_newS sc_all_below.nd (i := 6) rfl (by first | exact Or.inl rfl | exact Or.inr rfl) ?_)
      refine sv_cons (sv_for (xs := bl) (enc := PyData.str) (t := .one 7) (fun j env' => ∃ d e, env' = [some (.dat (W v)), some (.dat (.str t)), some (.own (mkS (convT tab))), some (.dat (.str nm)), some (.dat (.str fm)), some (.dat (.tuple (bl.map .str))), some (.own (mkS (convM (metOf tab (bl.take j))))), d, e]) PassesOwn.never rfl
        (iv_tup (ev_v 5 rfl)) ⟨e, g, rfl⟩ (fun _ => t_one 7 sc_all_below.nd) ?_ ?_)
      · rintro j one _ hj ⟨d, e, rfl⟩
        have hone : one ∈ bl := List.mem_of_getElem? hj
        obtain ⟨l, hl⟩ := lookT_some (tab := tab) (x := one) (by rw [hkeys]; exact h4 one hone)
        have hll : l.length ≤ 9 ^ (n + 1) := by
          unfold lookT at hl
          obtain ⟨p, hp, rfl⟩ := Option.map_eq_some_iff.mp hl
          exact hB p (List.mem_of_find?_eq_some hp)
        have hm : (metOf tab (bl.take j)).length ≤ 4 * (1 + 9 ^ (n + 1)) := by
          have h1 := met_len hB (bl.take j) []
          have h2 : (bl.take j).length ≤ 4 := by rw [List.length_take]; omega
          have h3 : (bl.take j).length * (1 + 9 ^ (n + 1)) ≤ 4 * (1 + 9 ^ (n + 1)) := Nat.mul_le_mul_right _ h2
          unfold metOf
          simp only [List.length_nil, Nat.zero_add] at h1
          omega
        have hs24 : sizeLine = 16777216 := by decide
        have hstep : metOf tab (bl.take (j + 1)) = l.foldl addL (addL (metOf tab (bl.take j)) one) := by
          unfold metOf
          rw [take_at hj, List.foldl_append]
          show metOne tab _ one = _
          unfold metOne
          rw [hl]
          rfl
        have hlen : ∀ ks : List Str, (convM ks).length = ks.length := fun ks => List.length_map _
        have ha1 := addL_len (metOf tab (bl.take j)) one
        refine sv_cons (sv_putS (j := 6) (hr.u 1) rfl (es_v ev_bl) (es_v (ev_v 7 rfl)) (by rw [hlen]; omega) ?_)
        refine sv_one (sv_forT (xs := l) (enc := PyData.str) (t := .one 8) (fun m env' => ∃ e, env' = [some (.dat (W v)), some (.dat (.str t)), some (.own (mkS (convT tab))), some (.dat (.str nm)), some (.dat (.str fm)), some (.dat (.tuple (bl.map .str))), some (.own (mkS (convM ((l.take m).foldl addL (addL (metOf tab (bl.take j)) one))))), some (.dat (.str one)), e]) PassesOwn.never rfl
          (ivs_list (es_getS (j := 2) (hr.u 1) rfl (es_v (ev_v 7 rfl)) (by rw [lookS_T, hl]; rfl))) ⟨e, ?_⟩ (fun _ => t_one 8 sc_all_below.nd) ?_ ?_)
        · rw [putS_M]
          rfl
        · rintro m other _ hm2 ⟨e, rfl⟩
          have h5 := foldl_addL_len (l.take m) (addL (metOf tab (bl.take j)) one)
          have h6 : (l.take m).length ≤ 9 ^ (n + 1) := by rw [List.length_take]; omega
          refine sv_one (sv_putS (j := 6) (hr.u 1) rfl (es_v ev_bl) (es_v (ev_v 8 rfl)) (by rw [hlen]; omega) ⟨some (.dat (.str other)), ?_⟩)
          rw [putS_M, take_at hm2, List.foldl_append]
          rfl
        · rintro _ ⟨e, rfl⟩
          refine ⟨some (.dat (.str one)), e, ?_⟩
          rw [hstep, List.take_length]
      · rintro _ ⟨d, e, rfl⟩
        rw [List.take_length]
        have hsort : sortD ((convM (metOf tab bl)).map fun p => .str p.1) = (sortL (metOf tab bl)).map .str := by
          rw [← sortL_data]
          congr 1
          unfold convM
          rw [List.map_map]
          exact (List.map_congr_left fun x _ => rfl)
        have hT : (convT tab).length = n := by
          have := congrArg List.length hkeys
          rw [List.length_map, List.length_map, List.length_take] at this
          have h8 := (List.getElem?_eq_some_iff.mp hn).1
          unfold convT
          rw [List.length_map]
          omega
        have hs24 : sizeLine = 16777216 := by decide
        refine sv_one (sv_putS (j := 2) (hr.u 1) rfl (es_n (en_sortedS rfl (ev_v 6 rfl) (hr.u 20) rfl B.sorted) (by rw [hsort]; exact noLs_str _)) (es_v (ev_v 3 rfl)) (by rw [hT]; omega) ⟨⟨some (.dat (.str nm)), some (.dat (.str fm)), some (.dat (.tuple (bl.map .str))), some (.own (mkS (convM (metOf tab bl)))), d, e, ?_⟩, ?_⟩)
        · rw [hsort, putS_T (tab := tab) (x := nm) _ (by rw [hkeys]; exact h2)]
          rw [show tabW (v.ts.take (n + 1)) = tab ++ [(nm, sortL (metOf tab bl))] by
            rw [take_at hn, tabW, List.foldl_append, ← htab]
            rfl]
          rfl
        · rw [take_at hn, List.map_append]
          exact h7
    · rintro _ ⟨⟨a, b, c, d, e, g, rfl⟩, ih⟩
      rw [List.take_length]
      obtain ⟨l, hl⟩ := lookT_some (tab := tabW v.ts) (x := t) (by rw [tab_keys]; exact ht)
      refine sv_one (sv_ret (EVn.toD (en_fil1 (xs := names v) (enc := PyData.str) (i := 3) (fun x => decide (x ∈ l)) PyData.str sc_all_below.nd (blkOk_by (N := N_all_below) (sc := defScope (top 37)) (by decide +kernel)) rfl (iv_list (ev_call D1 (hr.mono (by decide)) rfl (eq_cons (ev_v 0 rfl) eq_nil) ⟨_, ok.t4, rfl, rfl⟩)) (Nat.le_trans (by unfold names; rw [List.length_map]; exact ok.t4) (by decide)) (fun _ _ _ _ _ => g_one 3 sc_all_below.nd)
        (fun x _ _ _ _ _ _ => ?_) (fun x _ _ _ _ _ _ _ => ev_v 3 rfl) (fun _ => rfl))) ?_)
      · exact bT (et_c (ec_in (ev_v 3 rfl) (ev_getS (hr.u 1) (ev_v 2 rfl) (ev_v 1 rfl) (by rw [lookS_T, hl]; rfl)) rfl rfl (flat_names _))) (any_names _ _)
      · show PyData.list _ = _
        unfold allBelow
        rw [hl]
        rfl
end
end Tr
set_option Elab.async false
set_option linter.all false
set_option maxRecDepth 100000
set_option maxHeartbeats 1000000
set_option autoImplicit false
namespace PySem.AutoSeq1
open Sem (wp)
theorem ext_ll (l : Addr) (items : Array Value) (n : Nat) (b : Addr) (items2 : Array Value) (n2 : Nat) (sl : Array (Option Value)) (hc0 : ¬(!items.isEmpty && Builtin.List.listTooLong (items.size + items2.size)) = true) (hc1 : items.size ≤ sizeLine) (hs2 : items.size + items2.size ≤ sizeLine + 1 := by seq_fits) :
    Meets (Builtin.«list.extend» ⟨[.ref l, .ref b], []⟩) (fun _ R s => s.heap.get? l = some { cls := .type "list", dict := none, data := .seq items n, slots := #[] } ∧ s.heap.get? b = some { cls := .type "list", dict := none, data := .seq items2 n2, slots := sl } ∧ R (.ok (.ret Value.none)) { s with heap := s.heap.update l (Obj.mapSeq fun x => x ++ items2), toks := s.toks }) :=
  .of_wp fun prog w A R s h => by
    obtain ⟨hp, g, d, tk, os⟩ := s; obtain ⟨hl, hb, h⟩ := h; have f1 := idx_int; have f2 := sub_tuple_tuple; have f3 := sub_list_list; have f4 := sub_tuple_list; have f5 := sub_list_tuple;
    have hz' : (items ++ items2).size ≤ sizeLine + 1 := by rw [Array.size_append]; exact hs2
    wp_walk using (wpAny_updateSeq hl rfl (hz := hc1) (_hz' := hz')), wpAny_loadPart' hl, wpAny_loadPart' hb; exact ⟨_, rfl, h⟩
end PySem.AutoSeq1
namespace DL
open PySem PySem.Spec PyProof.Rows L2
section
variable {X : Cx} {e : Expr} {env : SEnv} {pos : Pos} {ds : List D} {Z : EndsD}
def rExtL (K : PySem.W.Frag) : V → List V → Hp → VK → Prop := fun x vs H Q => ∃ l b xs zs, x = .ref l ∧ vs = [.ref b] ∧ H l = some (.lst xs) ∧ SqL K H b zs ∧ xs.length + zs.length ≤ sizeLine ∧ Q .non (upd H l (.lst (xs ++ zs)))
theorem mt_extL : MtM X "list.extend" (rExtL X.K) := by
  intro pins s σ H x vs v us Q I rx rv h
  obtain ⟨l, b, xs, zs, rfl, rfl, hH, hB, hz, q⟩ := h
  cases rx
  obtain ⟨u, rfl, ru⟩ := rv.one
  cases ru
  obtain ⟨z, its, n, r, hl, e⟩ := I.lstM hH
  obtain ⟨its2, r2, p2, z2⟩ := I.list hB
  obtain ⟨o2, n2, e2, c2, d2, k2⟩ := p2
  obtain ⟨oc, od, odt, os⟩ := o2
  simp only at c2 d2 k2
  subst c2 d2 k2
  have hl2 := r2.length
  have hsz : its.toArray.size + its2.toArray.size ≤ sizeLine := by rw [List.size_toArray, List.size_toArray]; omega
  have hlong : ¬ (!its.toArray.isEmpty && Builtin.List.listTooLong (its.toArray.size + its2.toArray.size)) = true := by
    rw [notLongL hsz, Bool.and_false]
    exact Bool.false_ne_true
  refine call_meets F.slot_list_extend ⟨_, e, rfl⟩ F.entry_list_extend (F.args_list_extend_2 _ _)
    (AutoSeq1.ext_ll l its.toArray n b its2.toArray n2 os hlong (by rw [List.size_toArray]; omega) (by omega)) ⟨e, e2, ?_⟩
  refine ⟨.non, _, I.lset (its' := its ++ its2) hH e (by simp) (r.append r2) ?_, rfl, q⟩
  rw [List.length_append]
  omega
/-- xs.extend(e), e any list -/
theorem sv_extendS {i : Nat} {call : Expr} (pe : PE X call (tBM X.K "list" (rExtL X.K) (tVar i) (tCons (WX X e) tNil))) (hx : env[i]? = some (some (.own (.list ds)))) {es' : List D} (he : EVs X e env (.list es')) (hz : ds.length + es'.length ≤ sizeLine) (h : Z.nx (env.set i (some (.own (.list (ds ++ es'))))))
    (hs : swapsWith call none pos.line X.env = pure false := by rfl) : SV X (.Expr call pos) Z env := fun Hc0 H0 σ H ⟨Hc, q⟩ =>
  ws_of (ps_expr pe hs) (by
    obtain ⟨l, o, h1, h2, h3, h4, h5⟩ := q.own i _ hx
    cases h5 with
    | @lst xs _ h5 =>
    refine ⟨_, h1, .inl ⟨rfl, _, .inl (.inl h4)⟩, ?_⟩
    refine he Hc0 H0 Hc σ H q _ fun v Hc1 H1 g p => ?_
    obtain ⟨b, ys, rfl, k1, k2⟩ := dp_lstI p
    have q2 := q.grow g
    have c2 := g.nw l (by rw [h4]; exact fun z => nomatch z) h3
    have ha2 : H1 l = some (.lst xs) := g.hh l _ h4
    refine ⟨l, b, xs, ys, rfl, rfl, ha2, sql_sub g.cor k1, by rw [h5.len, k2.len]; exact hz, ?_⟩
    exact ⟨_, ⟨Hc1, q2.mut hx h1 h2 c2 (TopO.lst <| (h5.same g.cc).app k2)⟩, h⟩)
end
end DL
set_option Elab.async false
set_option linter.all false
set_option maxRecDepth 100000
set_option maxHeartbeats 1000000
set_option autoImplicit false
namespace Tr
open PySem PySem.Spec PyProof.Rows L2 DL
def coverM (v : Wd) (a b : Str × Nat) : Bool := decide (((a.2 : Nat) : Int) = b.2) && (decide (a.1 = b.1) || decide (b.1 ∈ allBelow v a.1))
def partM (v : Wd) (i : Inst) (k : Str × Nat) : Bool := i.asks.any fun a => coverM v a k
def okK (p : Option Str × Option Str) : Bool := match p.1 with
  | none => true
  | some l => decide (some l = p.2)
def headM (v : Wd) (i : Inst) (t : Str) (one : Inst) : Bool := (decide (one.tr = t) && decide (one.root = i.root)) && ((one.lims.zip i.lims).all okK && one.asks.all fun a => partM v i a)
def asksR : Rk → List (Str × Nat)
  | .tell t p => [(t, p)]
  | .plus a b => asksR a ++ asksR b
  | .times a b => asksR a ++ asksR b
  | _ => []
def asksIt : Rk ⊕ D → List (Str × Nat)
  | .inl a => asksR a
  | .inr _ => []
def asksB : Bd → List (Str × Nat)
  | .rk r => asksR r
  | .made _ ps => ps.zipIdx.map fun q => (q.1.1, q.2)
def Bd.dep : Bd → Nat
  | .rk r => r.depth
  | .made _ _ => 1
def Bd.small : Bd → Prop
  | .rk r => r.cnt ≤ 15
  | .made _ ps => ps.length ≤ 2
theorem asksR_len (r : Rk) : (asksR r).length ≤ r.cnt := by
  induction r with
  | plus a b iha ihb => simp [asksR, Rk.cnt]; omega
  | times a b iha ihb => simp [asksR, Rk.cnt]; omega
  | _ => simp [asksR, Rk.cnt]
theorem asks_items {r : Rk} (h : word r ≠ "tell") : asksR r = r.items.flatMap asksIt := by
  cases r with
  | tell t p => exact absurd rfl h
  | _ => simp [asksR, Rk.items, asksIt]
theorem cnt_item {r a : Rk} (h : .inl a ∈ r.items) : a.cnt ≤ r.cnt := by
  cases r with
  | plus x y => simp [Rk.items] at h; rcases h with rfl | rfl <;> simp [Rk.cnt] <;> omega
  | times x y => simp [Rk.items] at h; rcases h with rfl | rfl <;> simp [Rk.cnt] <;> omega
  | _ => simp [Rk.items] at h
theorem flat_take_len {α β : Type} (f : α → List β) : ∀ (l : List α) (n : Nat), ((l.take n).flatMap f).length ≤ (l.flatMap f).length
  | [], n => by simp
  | x :: l, 0 => by simp
  | x :: l, n + 1 => by
    have := flat_take_len f l n
    simp only [List.take_succ_cons, List.flatMap_cons, List.length_append]
    omega
theorem flat_take {α β : Type} (f : α → List β) {l : List α} {n : Nat} {x : α} (h : l[n]? = some x) : (l.take (n + 1)).flatMap f = (l.take n).flatMap f ++ f x := by
  rw [take_at h, List.flatMap_append]
  simp
theorem noLs_encA (l : List (Str × Nat)) : noLs (l.map encA) = true := by
  induction l with
  | nil => rfl
  | cons x l ih => rw [List.map_cons, noLs, ih]; rfl
theorem OkI.str {v : Wd} (ok : OkW v) {i : Inst} (h : OkI v i) {x : Str} (hx : some x ∈ i.lims) : PyData.strOk x = true := by
  have h1 := h.lm _ hx x rfl
  unfold arC at h1
  rw [Option.isSome_map] at h1
  obtain ⟨c, hc⟩ := Option.isSome_iff_exists.mp h1
  have h2 := List.find?_some hc
  have h3 : c.1 = x := of_decide_eq_true h2
  rw [← h3]
  exact ok.sc c (List.mem_of_find?_eq_some hc)
theorem lay_L {v : Wd} (ok : OkW v) {i : Inst} (h : OkI v i) {l : Option Str} (hl : l ∈ i.lims) : lay (encL l) = true := by
  cases l with
  | none => rfl
  | some x => exact lay_of (str_lay (h.str ok hl)) (by simp [encL, PyData.depth])
theorem eqv_L (x : Str) (l : Option Str) : PyData.eqv (.str x) (encL l) = decide (some x = l) := by
  cases l with
  | none => rfl
  | some y =>
    rw [show encL (some y) = .str y from rfl, eqv_str]
    by_cases e : x = y
    · rw [e, decide_eq_true rfl, decide_eq_true rfl]
    · rw [decide_eq_false e, decide_eq_false (fun z => e (Option.some.inj z))]
section
variable {X : Cx} {pos : Pos} {senv : SEnv} {Z : EndsD} {c : Expr} {α : Type} {xs : List α} {iter elt : Expr} {scope : Scope} {enc : α → D}
/-- y = [elt for a in iter if c] -/
theorem s_fil1 {i j : Nat} {px py spos : Pos} {x y : Str} (p : α → Bool) (g : α → D) (nd : X.N.Nodup) (hy : X.N[i]? = some y) (ok : BlkOk X.N X.env.scope scope [(x, j)]) (hc : X.calm = true)
    (hi : IV X (.Name x px) iter (vis senv) (xs.map enc)) (hz : xs.length ≤ sizeLine) (hg : Blk X scope fun Y => ∀ (d : D) (env : DEnv), GV Y (.Name x px) d env (env.set j (some d)) [j])
    (test : ∀ a, a ∈ xs → Blk X scope fun Y => EVt Y c ((wipeE (vis senv) [j]).set j (some (enc a))) (p a)) (turn : ∀ a, a ∈ xs → p a = true → Blk X scope fun Y => EVd Y elt ((wipeE (vis senv) [j]).set j (some (enc a))) (g a)) (hD : ∀ a, isD (g a) = true)
    (h : Z.nx (senv.set i (some (.dat (.list ((xs.filter p).map g)))))) (hyl : X.env.scope.names.lookup y = some .local := by rfl)
    (hsw : swapsWith (.ListComp elt [⟨.Name x px, iter, [c], 0⟩] scope pos) (some (.Name y py)) spos.line X.env = pure true := by rfl) (hf : ∀ x, foldedSetIterable iter X.env x = pure x := by intro _; rfl) :
    SV X (.Assign [.Name y py] (.ListComp elt [⟨.Name x px, iter, [c], 0⟩] scope pos) spos) Z senv := by
  refine sv_setLc (fun a => if p a = true then some (g a) else none) hc nd hy hyl hsw ok hi hz (fun a ha => ⟨(wipeE (vis senv) [j]).set j (some (enc a)), [j], fun j hj => hj, fun s H C cl fp => hg s H C cl fp _ _, fun s H C cl fp => ets_one (by
    have t := test a ha s H C cl fp
    cases q : p a with
    | true => rw [q] at t; simpa using t
    | false => rw [q] at t; simpa using t), fun y e s H C cl fp => by
      by_cases q : p a = true
      · rw [if_pos q] at e
        cases e
        exact ⟨turn a ha q s H C cl fp, hD a⟩
      · rw [if_neg q] at e
        cases e⟩) ?_ hf
  rw [fm_if]
  exact h
end
section
variable {P : Program} {w : World} {K : PySem.W.Frag} {mg : Str → Option Value} {base : Heap}
def spCover (ds : List D) (r : D) : Prop := ∃ (v : Wd) (a b : Str × Nat), OkW v ∧ a.1 ∈ names v ∧ ds = [W v, encA a, encA b] ∧ r = .bool (coverM v a b)
abbrev N_does_cover : List Str := ["world", "one", "other"]
theorem sc_does_cover : FnScope N_does_cover ["world", "one", "other"] (defScope (top 72)) := ⟨rfl, rfl, rfl, by decide +kernel, rfl, by decide +kernel, by decide +kernel⟩
theorem ok_does_cover (B : Blt mg) (D1 : DefD P w K mg base "all_below" 2 ["world", "trait"] spBelow) (F : Has K mg "does_cover" (top 72)) : DefD P w K mg base "does_cover" 3 ["world", "one", "other"] spCover := by
  refine def_mk F (fun _ _ _ _ _ _ us hl => match us, hl with | [_, _, _], _ => rfl) fun f fd F => fn_D F sc_does_cover (fun ds d h => ?_) fun cdv A outer s H E ds d h hr => ?_
  · obtain ⟨v, a, b, _, _, rfl, _⟩ := h
    rfl
  · obtain ⟨v, a, b, ok, ha, rfl, rfl⟩ := h
    refine sv_one (sv_ret (ev_and (ev_c (ec_eqI (ev_ixT (ev_v 1 rfl) ev_int rfl) (ev_ixT (ev_v 2 rfl) ev_int rfl))) fun _ => ev_one (ev_or (ev_c (ec_eqS (ev_ixT (ev_v 1 rfl) ev_int rfl) (ev_ixT (ev_v 2 rfl) ev_int rfl))) fun _ => ev_one (bV (ev_c (ec_in (ev_ixT (d := .str b.1) (ev_v 2 rfl) ev_int rfl) (ev_call D1 (hr.mono (by decide)) rfl (eq_cons (ev_v 0 rfl) (eq_cons (ev_ixT (ev_v 1 rfl) ev_int rfl) eq_nil)) ⟨v, a.1, ok, ha, rfl, rfl⟩) rfl rfl (flat_names _))) (any_names _ _)))) ?_)
    rfl
def spPart (ds : List D) (r : D) : Prop := ∃ (v : Wd) (i : Inst) (k : Str × Nat), OkW v ∧ OkI v i ∧ ds = [W v, encI i, encA k] ∧ r = .bool (partM v i k)
abbrev N_part_follows : List Str := ["world", "instance", "ask", "one"]
theorem sc_part_follows : FnScope N_part_follows ["world", "instance", "ask"] (defScope (top 76)) := ⟨rfl, rfl, rfl, by decide +kernel, rfl, by decide +kernel, by decide +kernel⟩
theorem ok_part_follows (B : Blt mg) (D1 : DefD P w K mg base "does_cover" 3 ["world", "one", "other"] spCover) (F : Has K mg "part_follows" (top 76)) : DefD P w K mg base "part_follows" 4 ["world", "instance", "ask"] spPart := by
  refine def_mk F (fun _ _ _ _ _ _ us hl => match us, hl with | [_, _, _], _ => rfl) fun f fd F => fn_D F sc_part_follows (fun ds d h => ?_) fun cdv A outer s H E ds d h hr => ?_
  · obtain ⟨v, i, k, _, _, rfl, _⟩ := h
    rfl
  · obtain ⟨v, i, k, ok, oi, rfl, rfl⟩ := h
    refine sv_one (sv_ret (ev_anyL B rfl (q := fun a : Str × Nat => coverM v a k) (en_map1 (xs := i.asks) (enc := encA) (i := 3) (fun a => .bool (coverM v a k)) sc_part_follows.nd (blkOk_by (N := N_part_follows) (sc := defScope (top 76)) (by decide +kernel)) rfl (iv_tup (ev_ixT (ev_v 1 rfl) ev_int rfl)) (Nat.le_trans oi.al (by decide)) (fun _ _ _ _ _ => g_one 3 sc_part_follows.nd)
      (fun a ha _ _ _ _ _ => ev_call D1 (hr.mono (by decide)) rfl (eq_cons (ev_v 0 rfl) (eq_cons (ev_v 3 rfl) (eq_cons (ev_v 2 rfl) eq_nil))) ⟨v, a, k, ok, (oi.aa a ha).2, rfl, rfl⟩) (fun _ => rfl))) rfl)
def spHead (ds : List D) (r : D) : Prop := ∃ (v : Wd) (is : List Inst) (i : Inst) (t : Str), OkW v ∧ (∀ i ∈ is, OkI v i) ∧ OkI v i ∧ ds = [W v, encIs is, encI i, .str t] ∧ r = .bool (is.any (headM v i t))
abbrev N_head_follows : List Str := ["world", "instances", "instance", "trait", "one", "fits_limits", "limit", "known", "ask"]
theorem sc_head_follows : FnScope N_head_follows ["world", "instances", "instance", "trait"] (defScope (top 75)) := ⟨rfl, rfl, rfl, by decide +kernel, rfl, by decide +kernel, by decide +kernel⟩
theorem ok_head_follows (B : Blt mg) (D1 : DefD P w K mg base "part_follows" 4 ["world", "instance", "ask"] spPart) (F : Has K mg "head_follows" (top 75)) : DefD P w K mg base "head_follows" 5 ["world", "instances", "instance", "trait"] spHead := by
  refine def_mk F (fun _ _ _ _ _ _ us hl => match us, hl with | [_, _, _, _], _ => rfl) fun f fd F => fn_D F sc_head_follows (fun ds d h => ?_) fun cdv A outer s H E ds d h hr => ?_
  · obtain ⟨v, is, i, t, _, _, _, rfl, _⟩ := h
    rfl
  · obtain ⟨v, is, i, t, ok, oa, oi, rfl, rfl⟩ := h
    refine sv_cons (sv_for (xs := is) (enc := encI) (t := .one 4) (fun n env' => (∃ a b, env' = [some (.dat (W v)), some (.dat (encIs is)), some (.dat (encI i)), some (.dat (.str t)), a, b, none, none, none]) ∧ (is.take n).all (fun o => !headM v i t o) = true) PassesOwn.never rfl
      (iv_tup (ev_v 1 rfl)) ⟨⟨none, none, rfl⟩, rfl⟩ (fun _ => t_one 4 sc_head_follows.nd) ?_ ?_)
    · rintro n one _ hn ⟨⟨a, b, rfl⟩, ih⟩
      have o1 := oa one (List.mem_of_getElem? hn)
      by_cases c1 : one.tr = t
      · by_cases c2 : one.root = i.root
        · have hM : headM v i t one = ((one.lims.zip i.lims).all okK && one.asks.all fun a => partM v i a) := by
            unfold headM
            rw [decide_eq_true c1, decide_eq_true c2]
            rfl
          refine sv_one (sv_then (tE (w_andT (c_eqTS (ev_ixT (ev_v 4 rfl) ev_int rfl) (ev_v 3 rfl) c1) (ew_and1 (c_eqTS (ev_ixT (ev_v 4 rfl) ev_int rfl) (ev_ixT (ev_v 2 rfl) ev_int rfl) c2)))) ?_)
          refine sv_cons (s_set 5 sc_head_follows.nd (ev_allL B rfl (q := okK) (en_mapT (xs := one.lims.zip i.lims) (is := [6, 7]) (own := [("limit", 6), ("known", 7)]) (encs := fun p => [encL p.1, encL p.2]) (fun p => .bool (okK p)) sc_head_follows.nd (blkOk_by (N := N_head_follows) (sc := defScope (top 75)) (by decide +kernel)) (by decide) rfl (w_zipT (xs := one.lims) (ys := i.lims) B (ev_ixT (ev_v 4 rfl) ev_int rfl) (ev_ixT (ev_v 2 rfl) ev_int rfl)) (Nat.le_trans (by rw [List.length_zip]; exact Nat.le_trans (Nat.min_le_left _ _) o1.n2) (by decide)) (fun _ => rfl) (fun _ _ _ _ _ => g_two rfl (g_one 6 sc_head_follows.nd) (g_one 7 sc_head_follows.nd))
            (fun p hp _ _ _ _ _ => ?_) (fun _ => rfl))) ?_)
          · obtain ⟨l, m⟩ := p
            have hm := List.of_mem_zip hp
            cases l with
            | none => exact v_orT (v_isNT (ev_v 6 rfl))
            | some l => exact v_orF (v_isNF (ev_v 6 rfl)) (ev_one (bV (ev_c (ec_eq (d1 := .str l) (d2 := encL m) (hr.u 64) (ev_v 6 rfl) (ev_v 7 rfl) (lay_L ok o1 hm.1) (lay_L ok oi hm.2))) (eqv_L l m)))
          · refine sv_one (sv_if (k := headM v i t one) (bT (tE (ew_and (tV (ev_v 5 rfl)) fun _ => ew_and1 (tV (ev_allL B rfl (q := fun a : Str × Nat => partM v i a) (en_map1 (xs := one.asks) (enc := encA) (i := 8) (fun a => .bool (partM v i a)) sc_head_follows.nd (blkOk_by (N := N_head_follows) (sc := defScope (top 75)) (by decide +kernel)) rfl (iv_tup (ev_ixT (ev_v 4 rfl) ev_int rfl)) (Nat.le_trans o1.al (by decide)) (fun _ _ _ _ _ => g_one 8 sc_head_follows.nd)
              (fun a ha _ _ _ _ _ => ?_) (fun _ => rfl)))))) hM.symm) (fun q => sv_one (sv_ret ev_bl ?_)) (fun q => sv_nil ⟨⟨_, _, rfl⟩, take_all hn ih (by rw [q]; rfl)⟩))
            · exact ev_call D1 (hr.mono (by decide)) rfl (eq_cons (ev_v 0 rfl) (eq_cons (ev_v 2 rfl) (eq_cons (ev_v 8 rfl) eq_nil))) ⟨v, i, a, ok, oi, rfl, rfl⟩
            · show PyData.bool true = _
              congr 1
              exact (List.any_eq_true.mpr ⟨one, List.mem_of_getElem? hn, q⟩).symm
        · exact sv_one (sv_skip (tE (w_andT (c_eqTS (ev_ixT (ev_v 4 rfl) ev_int rfl) (ev_v 3 rfl) c1) (ew_and1 (c_eqFS (ev_ixT (ev_v 4 rfl) ev_int rfl) (ev_ixT (ev_v 2 rfl) ev_int rfl) c2)))) ⟨⟨_, _, rfl⟩, take_all hn ih (by unfold headM; rw [decide_eq_false c2, Bool.and_false, Bool.false_and]; rfl)⟩)
      · exact sv_one (sv_skip (tE (w_andF (c_eqFS (ev_ixT (ev_v 4 rfl) ev_int rfl) (ev_v 3 rfl) c1))) ⟨⟨_, _, rfl⟩, take_all hn ih (by unfold headM; rw [decide_eq_false c1, Bool.false_and, Bool.false_and]; rfl)⟩)
    · rintro _ ⟨⟨a, b, rfl⟩, ih⟩
      rw [List.take_length] at ih
      refine sv_one (sv_ret ev_bl ?_)
      show PyData.bool false = _
      congr 1
      cases q : is.any (headM v i t) with
      | false => rfl
      | true =>
        obtain ⟨p, h1, h2⟩ := List.any_eq_true.mp q
        have h3 := List.all_eq_true.mp ih p h1
        rw [h2] at h3
        cases h3
end
end Tr
set_option Elab.async false
set_option linter.all false
set_option maxRecDepth 100000
set_option maxHeartbeats 1000000
set_option autoImplicit false
namespace Tr
open PySem PySem.Spec PyProof.Rows L2 DL
def bodyM (v : Wd) (i : Inst) (t : Str) : Bool := ((asksB i.body).filter fun a => decide (a.1 = t)).all fun a => partM v i a
def belF (v : Wd) (is : List Inst) (p : Inst × Nat) : List (Nat × Str × Str) := ((allBelow v p.1.tr).filter fun t => !is.any (headM v p.1 t)).map fun t => (p.2, "below", t)
def bodF (v : Wd) (p : Inst × Nat) : List (Nat × Str × Str) := ((names v).filter fun t => !bodyM v p.1 t).map fun t => (p.2, "body", t)
def oneF (v : Wd) (is : List Inst) (p : Inst × Nat) : List (Nat × Str × Str) := belF v is p ++ bodF v p
def rawF (v : Wd) (is : List Inst) : List (Nat × Str × Str) := is.zipIdx.flatMap (oneF v is)
def encF (f : Nat × Str × Str) : D := .tuple [.int (f.1 : Nat), .str f.2.1, .str f.2.2]
def faultsM (v : Wd) (is : List Inst) : List D := sortD ((rawF v is).map encF)
theorem noLs_encF (l : List (Nat × Str × Str)) : noLs (l.map encF) = true := by
  induction l with
  | nil => rfl
  | cons x l ih => rw [List.map_cons, noLs, ih]; rfl
theorem below_len (v : Wd) (t : Str) (h : v.ts.length ≤ 4) : (allBelow v t).length ≤ 4 := by
  unfold allBelow
  refine Nat.le_trans (List.length_filter_le _ _) ?_
  unfold names
  rw [List.length_map]
  exact h
theorem belF_len (v : Wd) (is : List Inst) (p : Inst × Nat) (h : v.ts.length ≤ 4) : (belF v is p).length ≤ 4 := by
  unfold belF
  rw [List.length_map]
  exact Nat.le_trans (List.length_filter_le _ _) (below_len v _ h)
theorem bodF_len (v : Wd) (p : Inst × Nat) (h : v.ts.length ≤ 4) : (bodF v p).length ≤ 4 := by
  unfold bodF
  rw [List.length_map]
  refine Nat.le_trans (List.length_filter_le _ _) ?_
  unfold names
  rw [List.length_map]
  exact h
theorem flat_len {α β : Type} (f : α → List β) (m : Nat) : ∀ l : List α, (∀ x ∈ l, (f x).length ≤ m) → (l.flatMap f).length ≤ m * l.length
  | [], _ => by simp
  | x :: l, h => by
    have h1 := h x List.mem_cons_self
    have h2 := flat_len f m l fun y hy => h y (List.mem_cons_of_mem _ hy)
    rw [List.flatMap_cons, List.length_append, List.length_cons, Nat.mul_succ]
    omega
theorem filt_take {α : Type} (p : α → Bool) {l : List α} {n : Nat} {x : α} (h : l[n]? = some x) : (l.take (n + 1)).filter p = (l.take n).filter p ++ (if p x = true then [x] else []) := by
  rw [take_at h, List.filter_append]
  congr 1
  by_cases q : p x = true
  · simp [q]
  · simp [q]
theorem upF (acc : List (Nat × Str × Str)) (g : Str → Nat × Str × Str) (xs : List Str) (t : Str) : (acc ++ (xs ++ [t]).map g).map encF = (acc ++ xs.map g).map encF ++ [encF (g t)] := by simp
section
variable {P : Program} {w : World} {K : PySem.W.Frag} {mg : Str → Option Value} {base : Heap}
def spBAsks (k : Nat) (ds : List D) (r : D) : Prop := ∃ b : Bd, b.dep ≤ k ∧ b.small ∧ ds = [encB b] ∧ r = .list ((asksB b).map encA)
abbrev N_body_asks : List Str := ["body", "found", "one", "part", "pair"]
theorem sc_body_asks : FnScope N_body_asks ["body"] (defScope (top 74)) := ⟨rfl, rfl, rfl, by decide +kernel, rfl, by decide +kernel, by decide +kernel⟩
theorem ok_body_asks (B : Blt mg) (F : Has K mg "body_asks" (top 74)) : ∀ k : Nat, DefD P w K mg base "body_asks" (k + 1) ["body"] (spBAsks k)
  | 0 => by
    refine def_mk F (fun _ _ _ _ _ _ us hl => match us, hl with | [_], _ => rfl) fun f fd F => fn_D F sc_body_asks (fun ds d h => ?_) fun cdv A outer s H E ds d h hr => ?_
    · obtain ⟨x, _, _, rfl, _⟩ := h
      rfl
    · obtain ⟨x, hd, _⟩ := h
      cases x with
      | rk r => have := r.depth_pos; simp only [Bd.dep] at hd; omega
      | made r ps => simp only [Bd.dep] at hd; omega
  | k + 1 => by
    have D1 := ok_body_asks B F k
    refine def_mk F (fun _ _ _ _ _ _ us hl => match us, hl with | [_], _ => rfl) fun f fd F => fn_D F sc_body_asks (fun ds d h => ?_) fun cdv A outer s H E ds d h hr => ?_
    · obtain ⟨x, _, _, rfl, _⟩ := h
      rfl
    · obtain ⟨x, hd, hs, rfl, rfl⟩ := h
      cases x with
      | made r ps =>
        have hs : ps.length ≤ 2 := hs
        have h0 : atI (encBL (.made r ps)) 0 = some (.str "made") := atI_nat (j := 0) rfl
        refine sv_cons (sv_skip (c_eqFS (ev_ixT (ev_v 0 rfl) ev_int h0) ev_str (by decide)) ?_)
        refine sv_cons (sv_then (c_eqTS (ev_ixT (ev_v 0 rfl) ev_int h0) ev_str rfl) (sv_one (sv_ret (EVn.toD (en_mapT (xs := ps.zipIdx) (is := [3, 4]) (own := [("part", 3), ("pair", 4)]) (encs := fun q => [.int (q.2 : Nat), encP q.1]) (fun q => encA (q.1.1, q.2)) sc_body_asks.nd (blkOk_by (N := N_body_asks) (sc := defScope (top 74)) (by decide +kernel)) (by decide) rfl (w_enumT (xs := ps) B (EVd.is (ev_slT (ev_v 0 rfl) (eo_some ev_int) eo_none) (by rw [encBL, cut_2]))) (Nat.le_trans (by rw [List.length_zipIdx]; exact hs) (by decide)) (fun _ => rfl) (fun _ _ _ _ _ => g_two rfl (g_one 3 sc_body_asks.nd) (g_one 4 sc_body_asks.nd))
          (fun q _ _ _ _ _ _ => ev_tup (ea_cons (ev_ixT (ev_v 4 rfl) ev_int rfl) (ea_cons (ev_v 3 rfl) ea_nil)) (Nat.le_of_ble_eq_true rfl)) (fun _ => rfl))) ?_)))
        show PyData.list _ = _
        unfold asksB
        rw [List.map_map]
        rfl
      | rk r =>
        have hs : r.cnt ≤ 15 := hs
        have hd : r.depth ≤ k + 1 := hd
        have h0 : atI (encRL r) 0 = some (.str (word r)) := atI_nat (j := 0) (by rw [encRL_eq]; rfl)
        by_cases hw : word r = "tell"
        · cases r with
          | tell t p => exact sv_cons (sv_then (c_eqTS (ev_ixT (d := .str "tell") (ev_v 0 rfl) ev_int rfl) ev_str rfl) (sv_one (sv_ret (EVn.toD (ev_lst (ea_cons (ev_tup (ea_cons (ev_ixT (ev_v 0 rfl) ev_int rfl) (ea_cons (ev_ixT (ev_v 0 rfl) ev_int rfl) ea_nil)) (Nat.le_of_ble_eq_true rfl)) ea_nil) (Nat.le_of_ble_eq_true rfl))) rfl)))
          | num n => exact absurd hw (show ¬ (("number" : Str) = "tell") by decide)
          | mark => exact absurd hw (show ¬ (("mark" : Str) = "tell") by decide)
          | plus a b => exact absurd hw (show ¬ (("plus" : Str) = "tell") by decide)
          | times a b => exact absurd hw (show ¬ (("times" : Str) = "tell") by decide)
        · have hm : ¬ word r = "made" := by
            cases r with
            | tell t p => exact (show ¬ (("tell" : Str) = "made") by decide)
            | num n => exact (show ¬ (("number" : Str) = "made") by decide)
            | mark => exact (show ¬ (("mark" : Str) = "made") by decide)
            | plus a b => exact (show ¬ (("plus" : Str) = "made") by decide)
            | times a b => exact (show ¬ (("times" : Str) = "made") by decide)
          have hall := asks_items hw
          have hlen := asksR_len r
          refine sv_cons (sv_skip (c_eqFS (ev_ixT (ds := encRL r) (ev_v 0 rfl) ev_int h0) ev_str hw) ?_)
          refine sv_cons (sv_skip (c_eqFS (ev_ixT (ds := encRL r) (ev_v 0 rfl) ev_int h0) ev_str hm) ?_)
          refine sv_cons (s_setN 1 sc_body_asks.nd (ev_lst ea_nil (Nat.zero_le _)) rfl ?_)
          refine sv_cons (sv_for (xs := r.items) (enc := encIt) (t := .one 2) (fun n env' => ∃ a, env' = [some (.dat (encB (.rk r))), some (.own (.list (((r.items.take n).flatMap asksIt).map encA))), a, none, none]) PassesOwn.never rfl
            (iv_tup (EVd.is (ev_slT (ds := encRL r) (ev_v 0 rfl) (eo_some ev_int) eo_none) (by rw [encRL_eq, cut_1]))) ⟨none, rfl⟩ (fun _ => t_one 2 sc_body_asks.nd) ?_ ?_)
          · rintro n it _ hn ⟨a, rfl⟩
            have hmem := List.mem_of_getElem? hn
            have hst := flat_take asksIt hn
            cases it with
            | inl y =>
              have hy : y.depth ≤ k := by have := Rk.depth_items hmem; omega
              have hc := cnt_item hmem
              have h15 := flat_take_len asksIt r.items n
              rw [← hall] at h15
              have hly := asksR_len y
              refine sv_one (sv_then (tV (ev_isT B (ev_v 2 rfl) kb_tt)) (sv_one (sv_extendS (es' := (asksR y).map encA) (pe_bm PySem.F.plainAttrs_list PySem.F.slot_list_extend PySem.F.type_list_extend mt_extL (pv 1) (pa_cons pe_w pa_nil)) rfl (es_v (ev_call D1 hr rfl (eq_cons (ev_v 2 rfl) eq_nil) ⟨.rk y, hy, (show y.cnt ≤ 15 by omega), rfl, rfl⟩)) ?_ ⟨some (.dat (encR y)), ?_⟩)))
              · show (((r.items.take n).flatMap asksIt).map encA).length + ((asksR y).map encA).length ≤ sizeLine
                rw [List.length_map, List.length_map]
                have : (30 : Nat) ≤ sizeLine := by decide
                omega
              · rw [hst, List.map_append]
                rfl
            | inr d =>
              refine sv_one (sv_skip (tV (ev_isT B (ev_v 2 rfl) (Rk.items_dat hmem).1 (Rk.items_dat hmem).2)) ⟨some (.dat d), ?_⟩)
              rw [hst]
              show _ = [_, some (Sl.own (.list ((_ ++ ([] : List (Str × Nat))).map encA))), _, _, _]
              rw [List.append_nil]
              rfl
          · rintro _ ⟨a, rfl⟩
            rw [List.take_length]
            refine sv_one (sv_ret (ev_v 1 rfl) ?_)
            show PyData.list _ = _
            rw [← hall]
            rfl
def spFound (ds : List D) (r : D) : Prop := ∃ (v : Wd) (is : List Inst), OkW v ∧ (∀ i ∈ is, OkI v i) ∧ is.length ≤ 8 ∧ ds = [W v, encIs is] ∧ r = .list (faultsM v is)
abbrev N_found_faults : List Str := ["world", "instances", "found", "number", "one", "trait", "some", "ask"]
theorem sc_found_faults : FnScope N_found_faults ["world", "instances"] (defScope (top 77)) := ⟨rfl, rfl, rfl, by decide +kernel, rfl, by decide +kernel, by decide +kernel⟩
theorem ok_found_faults (B : Blt mg) (D1 : DefD P w K mg base "all_below" 2 ["world", "trait"] spBelow) (D2 : DefD P w K mg base "head_follows" 5 ["world", "instances", "instance", "trait"] spHead) (D3 : DefD P w K mg base "trait_names" 1 ["world"] spNames) (D4 : DefD P w K mg base "body_asks" (16 + 1) ["body"] (spBAsks 16)) (D5 : DefD P w K mg base "part_follows" 4 ["world", "instance", "ask"] spPart) (F : Has K mg "found_faults" (top 77)) : DefD P w K mg base "found_faults" 20 ["world", "instances"] spFound := by
  refine def_mk F (fun _ _ _ _ _ _ us hl => match us, hl with | [_, _], _ => rfl) fun f fd F => fn_D F sc_found_faults (fun ds d h => ?_) fun cdv A outer s H E ds d h hr => ?_
  · obtain ⟨v, is, _, _, _, rfl, _⟩ := h
    rfl
  · obtain ⟨v, is, ok, oa, hl, rfl, rfl⟩ := h
    have hs24 : sizeLine = 16777216 := by decide
    refine sv_cons (s_setN 2 sc_found_faults.nd (ev_lst ea_nil (Nat.zero_le _)) rfl ?_)
    refine sv_cons (sv_for (xs := is.zipIdx) (enc := fun p => .tuple (encN p)) (t := .tup [3, 4]) (fun n env' => ∃ a b c d, env' = [some (.dat (W v)), some (.dat (encIs is)), some (.own (.list (((is.zipIdx.take n).flatMap (oneF v is)).map encF))), a, b, c, d, none]) PassesOwn.never rfl
      (w_enumT (xs := is) B (ev_v 1 rfl)) ⟨none, none, none, none, rfl⟩ (fun p => tg_tup rfl (tgs_cons (fun _ => t_one 3 sc_found_faults.nd) (tgs_cons (fun _ => t_one 4 sc_found_faults.nd) tgs_nil)) rfl rfl) ?_ ?_)
    · rintro n ⟨i, j⟩ _ hn ⟨a, b, c, d, rfl⟩
      have hi : i ∈ is := by
        have := List.mem_map_of_mem (f := (·.1)) (List.mem_of_getElem? hn)
        rw [List.zipIdx_map_fst] at this
        exact this
      have oi := oa i hi
      have hn8 : n < 8 := by
        have := (List.getElem?_eq_some_iff.mp hn).1
        rw [List.length_zipIdx] at this
        omega
      have hacc : ((is.zipIdx.take n).flatMap (oneF v is)).length ≤ 64 := by
        have h1 := flat_len (oneF v is) 8 (is.zipIdx.take n) fun p _ => by
          unfold oneF
          rw [List.length_append]
          have := belF_len v is p ok.t4
          have := bodF_len v p ok.t4
          omega
        rw [List.length_take] at h1
        omega
      generalize hA : (is.zipIdx.take n).flatMap (oneF v is) = acc at hacc
      have hbl := below_len v i.tr ok.t4
      refine sv_cons (sv_for (xs := allBelow v i.tr) (enc := PyData.str) (t := .one 5) (fun m env' => ∃ c d, env' = [some (.dat (W v)), some (.dat (encIs is)), some (.own (.list ((acc ++ (((allBelow v i.tr).take m).filter fun t => !is.any (headM v i t)).map fun t => (j, ("below" : Str), t)).map encF))), some (.dat (.int (j : Nat))), some (.dat (encI i)), c, d, none]) PassesOwn.never rfl
        (iv_list (ev_call D1 (hr.mono (by decide)) rfl (eq_cons (ev_v 0 rfl) (eq_cons (ev_ixT (ev_v 4 rfl) ev_int rfl) eq_nil)) ⟨v, i.tr, ok, oi.tr, rfl, rfl⟩)) ⟨c, d, by rw [List.take_zero, List.filter_nil, List.map_nil, List.append_nil]; rfl⟩ (fun _ => t_one 5 sc_found_faults.nd) ?_ ?_)
      · rintro m t _ hm ⟨c, d, rfl⟩
        have hft := filt_take (fun t => !is.any (headM v i t)) hm
        have hlen : (((allBelow v i.tr).take m).filter fun t => !is.any (headM v i t)).length ≤ 4 := Nat.le_trans (List.length_filter_le _ _) (Nat.le_trans (by rw [List.length_take]; exact Nat.min_le_right _ _) hbl)
        refine sv_one (sv_if (k := !is.any (headM v i t)) (et_not (tV (ev_call D2 (hr.mono (by decide)) rfl (eq_cons (ev_v 0 rfl) (eq_cons (ev_v 1 rfl) (eq_cons (ev_v 4 rfl) (eq_cons (ev_v 5 rfl) eq_nil)))) ⟨v, is, i, t, ok, oa, oi, rfl, rfl⟩))) (fun q => sv_one (sv_append (pe_bm PySem.F.plainAttrs_list PySem.F.slot_list_append PySem.F.type_list_append mt_append (pv 2) (pa_cons pe_w pa_nil)) rfl (ev_tup (ea_cons (ev_v 3 rfl) (ea_cons ev_str (ea_cons (ev_v 5 rfl) ea_nil))) (Nat.le_of_ble_eq_true rfl)) rfl ?_ ⟨some (.dat (.str t)), d, ?_⟩)) (fun q => sv_nil ⟨some (.dat (.str t)), d, ?_⟩))
        · rw [List.length_map, List.length_append, List.length_map]
          omega
        · rw [hft, if_pos q, upF]
          rfl
        · rw [hft, if_neg (by rw [q]; exact Bool.false_ne_true), List.append_nil]
          rfl
      · rintro _ ⟨c, d, rfl⟩
        rw [List.take_length]
        have hbel : (((allBelow v i.tr).filter fun t => !is.any (headM v i t)).map fun t => (j, ("below" : Str), t)) = belF v is (i, j) := rfl
        rw [hbel]
        have hbel4 := belF_len v is (i, j) ok.t4
        generalize belF v is (i, j) = bf at hbel hbel4
        have hnm : (names v).length ≤ 4 := by unfold names; rw [List.length_map]; exact ok.t4
        refine sv_one (sv_for (xs := names v) (enc := PyData.str) (t := .one 5) (fun m env' => ∃ c d, env' = [some (.dat (W v)), some (.dat (encIs is)), some (.own (.list (((acc ++ bf) ++ (((names v).take m).filter fun t => !bodyM v i t).map fun t => (j, ("body" : Str), t)).map encF))), some (.dat (.int (j : Nat))), some (.dat (encI i)), c, d, none]) PassesOwn.never rfl
          (iv_list (ev_call D3 (hr.mono (by decide)) rfl (eq_cons (ev_v 0 rfl) eq_nil) ⟨v, ok.t4, rfl, rfl⟩)) ⟨c, d, by rw [List.take_zero, List.filter_nil, List.map_nil, List.append_nil]⟩ (fun _ => t_one 5 sc_found_faults.nd) ?_ ?_)
        · rintro m t _ hm ⟨c, d, rfl⟩
          have hft := filt_take (fun t => !bodyM v i t) hm
          have hlen : (((names v).take m).filter fun t => !bodyM v i t).length ≤ 4 := Nat.le_trans (List.length_filter_le _ _) (Nat.le_trans (by rw [List.length_take]; exact Nat.min_le_right _ _) hnm)
          have hsm : i.body.dep ≤ 16 ∧ i.body.small ∧ (asksB i.body).length ≤ 15 := by
            obtain ⟨fo, _, hb⟩ := oi.bd
            cases hbd : i.body with
            | rk r =>
              rw [hbd] at hb
              simp only [okB, okSh, Bool.and_eq_true, decide_eq_true_eq] at hb
              have := r.depth_cnt
              have := asksR_len r
              exact ⟨(show r.depth ≤ 16 by omega), hb.2.2, (show (asksR r).length ≤ 15 by omega)⟩
            | made r ps =>
              rw [hbd] at hb
              simp only [okB, Bool.and_eq_true, decide_eq_true_eq] at hb
              have h2 := oi.n2
              have h3 := hb.1.1.2
              exact ⟨(show (1 : Nat) ≤ 16 by decide), (show ps.length ≤ 2 by omega), (show (ps.zipIdx.map _).length ≤ 15 by rw [List.length_map, List.length_zipIdx]; omega)⟩
          refine sv_cons (s_fil1 (xs := asksB i.body) (enc := encA) (i := 6) (j := 7) (fun a => decide (a.1 = t)) encA sc_found_faults.nd rfl (blkOk_by (N := N_found_faults) (sc := defScope (top 77)) (by decide +kernel)) rfl (iv_list (ev_call D4 (hr.mono (by decide)) rfl (eq_cons (ev_ixT (ev_v 4 rfl) ev_int rfl) eq_nil) ⟨i.body, hsm.1, hsm.2.1, rfl, rfl⟩)) (Nat.le_trans hsm.2.2 (by decide)) (fun _ _ _ _ _ => g_one 7 sc_found_faults.nd)
            (fun a _ _ _ _ _ _ => ?_) (fun a _ _ _ _ _ _ _ => ev_v 7 rfl) (fun _ => rfl) ?_)
          · exact et_c (ec_eqS (ev_ixT (ev_v 7 rfl) ev_int rfl) (ev_v 5 rfl))
          refine sv_one (sv_if (k := !bodyM v i t) (et_not (tV (ev_allL B rfl (q := fun a : Str × Nat => partM v i a) (en_map1 (xs := (asksB i.body).filter fun a => decide (a.1 = t)) (enc := encA) (i := 7) (fun a => .bool (partM v i a)) sc_found_faults.nd (blkOk_by (N := N_found_faults) (sc := defScope (top 77)) (by decide +kernel)) rfl (iv_list (ev_v 6 rfl)) (Nat.le_trans (List.length_filter_le _ _) (Nat.le_trans hsm.2.2 (by decide))) (fun _ _ _ _ _ => g_one 7 sc_found_faults.nd)
            (fun a ha _ _ _ _ _ => ?_) (fun _ => rfl))))) (fun q => sv_one (sv_append (pe_bm PySem.F.plainAttrs_list PySem.F.slot_list_append PySem.F.type_list_append mt_append (pv 2) (pa_cons pe_w pa_nil)) rfl (ev_tup (ea_cons (ev_v 3 rfl) (ea_cons ev_str (ea_cons (ev_v 5 rfl) ea_nil))) (Nat.le_of_ble_eq_true rfl)) rfl ?_ ⟨some (.dat (.str t)), some (.dat (.list (((asksB i.body).filter fun a => decide (a.1 = t)).map encA))), ?_⟩)) (fun q => sv_nil ⟨some (.dat (.str t)), some (.dat (.list (((asksB i.body).filter fun a => decide (a.1 = t)).map encA))), ?_⟩))
          · exact ev_call D5 (hr.mono (by decide)) rfl (eq_cons (ev_v 0 rfl) (eq_cons (ev_v 4 rfl) (eq_cons (ev_v 7 rfl) eq_nil))) ⟨v, i, a, ok, oi, rfl, rfl⟩
          · rw [List.length_map, List.length_append, List.length_append, List.length_map]
            omega
          · rw [hft, if_pos q, upF]
            rfl
          · rw [hft, if_neg (by rw [q]; exact Bool.false_ne_true), List.append_nil]
            rfl
        · rintro _ ⟨c, d, rfl⟩
          rw [List.take_length]
          refine ⟨some (.dat (.int (j : Nat))), some (.dat (encI i)), c, d, ?_⟩
          rw [flat_take (oneF v is) hn, hA]
          show _ = [_, _, some (Sl.own (.list ((acc ++ (belF v is (i, j) ++ bodF v (i, j))).map encF))), _, _, _, _, _]
          rw [← hbel, ← List.append_assoc]
          rfl
    · rintro _ ⟨a, b, c, d, rfl⟩
      rw [List.take_length]
      refine sv_one (sv_ret (EVn.toD (en_sorted (ds := (rawF v is).map encF) (ev_v 2 rfl) ?_ ?_ ?_ rfl B.sorted)) rfl)
      · intro x hx y hy
        obtain ⟨p, _, rfl⟩ := List.mem_map.mp hx
        obtain ⟨q, _, rfl⟩ := List.mem_map.mp hy
        simp [encF, PySem.W.alike, PySem.W.alikeAll]
      · refine .inl fun x hx => ?_
        obtain ⟨p, _, rfl⟩ := List.mem_map.mp hx
        exact ⟨_, _, rfl⟩
      · intro x hx
        obtain ⟨p, _, rfl⟩ := List.mem_map.mp hx
        have : (encF p).depth ≤ 2 := by simp [encF, PyData.depth, PyData.depthAll]
        have h2 := hr.u 100
        show (A.deeper _).units + 2 + (encF p).depth < cLine
        omega
def spFaults (ds : List D) (r : D) : Prop := ∃ (v : Wd) (is : List Inst), OkW v ∧ (∀ i ∈ is, OkI v i) ∧ is.length ≤ 8 ∧ ds = [W v, encIs is] ∧ r = .tuple (faultsM v is)
abbrev N_faults : List Str := ["world", "instances"]
theorem sc_faults : FnScope N_faults ["world", "instances"] (defScope (top 78)) := ⟨rfl, rfl, rfl, by decide +kernel, rfl, by decide +kernel, by decide +kernel⟩
theorem ok_faults (B : Blt mg) (D1 : DefD P w K mg base "check_set" 22 ["world", "instances"] spCheckSet) (D2 : DefD P w K mg base "found_faults" 20 ["world", "instances"] spFound) (F : Has K mg "faults" (top 78)) : DefD P w K mg base "faults" 23 ["world", "instances"] spFaults := by
  refine def_mk F (fun _ _ _ _ _ _ us hl => match us, hl with | [_, _], _ => rfl) fun f fd F => fn_D F sc_faults (fun ds d h => ?_) fun cdv A outer s H E ds d h hr => ?_
  · obtain ⟨v, is, _, _, _, rfl, _⟩ := h
    rfl
  · obtain ⟨v, is, ok, oa, hl, rfl, rfl⟩ := h
    refine sv_cons (sv_drop (ev_call D1 (hr.mono (by decide)) rfl (eq_cons (ev_v 0 rfl) (eq_cons (ev_v 1 rfl) eq_nil)) ⟨v, is, ok, oa, hl, rfl, rfl⟩) ?_)
    exact sv_one (sv_ret (ev_tuple (ev_call D2 (hr.mono (by decide)) rfl (eq_cons (ev_v 0 rfl) (eq_cons (ev_v 1 rfl) eq_nil)) ⟨v, is, ok, oa, hl, rfl, rfl⟩) rfl rfl B.tuple) rfl)
end
end Tr
set_option Elab.async false
set_option linter.all false
set_option maxRecDepth 100000
set_option maxHeartbeats 1000000
set_option autoImplicit false
/-! M3: all states, as plain lists -/
namespace Tr
open PySem PySem.Spec PyProof.Rows L2 DL
structure Stt where
  root : Str
  codes : List Nat
  deriving DecidableEq
def codD (l : List Nat) : List D := l.map fun c => .int (c : Nat)
def encStL (s : Stt) : List D := [.str s.root, .tuple [.tuple (codD s.codes)]]
abbrev encSt (s : Stt) : D := .tuple (encStL s)
def keyL (s : Stt) : List NK := [.text s.root, .tup [.tup (s.codes.map fun c => .num (c : Nat))]]
def keySt (s : Stt) : NK := .tup (keyL s)
def key2L (q : Str × List Stt) : List NK := [.text q.1, .tup (q.2.map keySt)]
def key2 (q : Str × List Stt) : NK := .tup (key2L q)
theorem datas_map {α : Type} (f : α → NK) : ∀ l : List α, NestedKey.datas (l.map f) = l.map fun a => (f a).data
  | [] => rfl
  | x :: l => by rw [List.map_cons, NestedKey.datas, datas_map f l]; rfl
theorem keySt_data (s : Stt) : (NestedKey.tup (keyL s)).data = encSt s := by
  unfold keyL
  simp only [NestedKey.data, NestedKey.datas, datas_map]
  rfl
theorem key2_data (q : Str × List Stt) : (NestedKey.tup (key2L q)).data = .tuple [.str q.1, .tuple (q.2.map encSt)] := by
  unfold key2L
  simp only [NestedKey.data, NestedKey.datas, datas_map]
  congr 3
  refine congrArg PyData.tuple ?_
  exact List.map_congr_left fun s _ => keySt_data s
theorem depth_map {α : Type} (f : α → NK) (n : Nat) : ∀ l : List α, (∀ x ∈ l, (f x).depth ≤ n) → NestedKey.depthAll (l.map f) ≤ n
  | [], _ => by simp [NestedKey.depthAll]
  | x :: l, h => by
    rw [List.map_cons, NestedKey.depthAll]
    have h1 := h x List.mem_cons_self
    have h2 := depth_map f n l fun y hy => h y (List.mem_cons_of_mem _ hy)
    omega
theorem keySt_depth (s : Stt) : (NestedKey.tup (keyL s)).depth ≤ 3 := by
  unfold keyL
  have h := depth_map (fun c : Nat => NestedKey.num (c : Nat)) 0 s.codes fun x _ => by simp [NestedKey.depth]
  simp only [NestedKey.depth, NestedKey.depthAll]
  omega
theorem key2_depth (q : Str × List Stt) : (NestedKey.tup (key2L q)).depth ≤ 5 := by
  unfold key2L
  have h := depth_map keySt 3 q.2 fun x _ => keySt_depth x
  simp only [NestedKey.depth, NestedKey.depthAll]
  omega
theorem keySt_inj {a b : Stt} (h : keySt a = keySt b) : a = b := by
  unfold keySt keyL at h
  injection h with h
  injection h with h1 h2
  injection h1 with h1
  injection h2 with h2 _
  injection h2 with h2
  injection h2 with h2 _
  injection h2 with h2
  have h3 : a.codes = b.codes := by
    refine List.map_inj_right (f := fun c : Nat => NestedKey.num (c : Nat)) (fun x y e => ?_) |>.mp h2
    injection e with e
    exact Int.ofNat.inj e
  cases a
  cases b
  simp only at h1 h3
  rw [h1, h3]
theorem key2_inj {a b : Str × List Stt} (h : key2 a = key2 b) : a = b := by
  unfold key2 key2L at h
  injection h with h
  injection h with h1 h2
  injection h1 with h1
  injection h2 with h2 _
  injection h2 with h2
  have h3 : a.2 = b.2 := List.map_inj_right (f := keySt) (fun x y e => keySt_inj e) |>.mp h2
  cases a
  cases b
  simp only at h1 h3
  rw [h1, h3]
/-! ### the state of a sort -/
def codeAt (nm : List Str) (sts : List Stt) (a : Str × Nat) : Nat := match sts[a.2]? with
  | some s => (s.codes[nm.idxOf a.1]?).getD 0
  | none => 0
def treesM (nm : List Str) (sts : List Stt) (asks : List (Str × Nat)) : Nat := asks.foldl (fun t a => min 2 (t * codeAt nm sts a)) 1
def codeStep (nm : List Str) (t root : Str) (sts : List Stt) (f : Nat) (one : Inst) : Nat := if (decide (one.tr = t) && fitR one root (sts.map Stt.root)) = true then min 2 (f + treesM nm sts one.asks) else f
def codeM (nm : List Str) (is : List Inst) (t root : Str) (sts : List Stt) : Nat := is.foldl (codeStep nm t root sts) 0
def stateM (v : Wd) (is : List Inst) (root : Str) (sts : List Stt) : Stt := ⟨root, (names v).map fun t => codeM (names v) is t root sts⟩
theorem codeM_le (nm : List Str) (t root : Str) (sts : List Stt) : ∀ (is : List Inst) (f : Nat), f ≤ 2 → is.foldl (codeStep nm t root sts) f ≤ 2
  | [], f, h => h
  | i :: is, f, h => by
    rw [List.foldl_cons]
    refine codeM_le nm t root sts is _ ?_
    unfold codeStep
    split
    · exact Nat.min_le_left _ _
    · exact h
theorem treesM_le (nm : List Str) (sts : List Stt) : ∀ (asks : List (Str × Nat)) (f : Nat), f ≤ 2 → asks.foldl (fun t a => min 2 (t * codeAt nm sts a)) f ≤ 2
  | [], f, h => h
  | i :: is, f, h => by
    rw [List.foldl_cons]
    exact treesM_le nm sts is _ (Nat.min_le_left _ _)
def stOf (v : Wd) (is : List Inst) : Srt → Stt
  | .n0 r => stateM v is r []
  | .n1 r a => stateM v is r [stOf v is a]
  | .n2 r a b => stateM v is r [stOf v is a, stOf v is b]
theorem stOf_eq (v : Wd) (is : List Inst) (x : Srt) : stOf v is x = stateM v is x.root (x.parts.map (stOf v is)) := by cases x <;> rfl
/-! ### found -/
abbrev Fnd := List (Stt × Srt)
def lookF (f : Fnd) (s : Stt) : Option Srt := (f.find? fun p => decide (p.1 = s)).map (·.2)
def putF (f : Fnd) (s : Stt) (x : Srt) : Fnd := if (lookF f s).isSome then f.map fun p => if p.1 = s then (p.1, x) else p else f ++ [(s, x)]
def mkSrt (root : Str) : List Srt → Srt
  | [] => .n0 root
  | [a] => .n1 root a
  | a :: b :: _ => .n2 root a b
def rankD (x : Srt) : D := .tuple [.int (x.size : Nat), encS x]
def rLt (a b : Srt) : Bool := PySem.W.dataLt (rankD a) (rankD b)
def better (f : Fnd) (s : Stt) (x : Srt) : Bool := match lookF f s with
  | none => true
  | some y => rLt x y
def newSrt (f : Fnd) (q : Str × List Stt) : Srt := mkSrt q.1 (q.2.map fun o => (lookF f o).getD (.n0 ""))
def stepF (v : Wd) (is : List Inst) (acc : Fnd × Bool) (q : Str × List Stt) : Fnd × Bool :=
  if better acc.1 (stateM v is q.1 q.2) (newSrt acc.1 q) = true then (putF acc.1 (stateM v is q.1 q.2) (newSrt acc.1 q), true) else acc
def sortSt (l : List Stt) : List Stt := l.mergeSort fun a b => PySem.W.dataLe false id (encSt a) (encSt b)
def rowsM (known : List Stt) (n : Nat) : List (List Stt) := if n = 0 then [[]] else if n = 1 then known.map fun a => [a] else known.flatMap fun a => known.map fun b => [a, b]
def qsM (v : Wd) (known : List Stt) : List (Str × List Stt) := v.cs.flatMap fun c => (rowsM known c.2).map fun s => (c.1, s)
def passM (v : Wd) (is : List Inst) (f : Fnd) : Fnd × Bool := (qsM v (sortSt (f.map (·.1)))).foldl (stepF v is) (f, false)
inductive Runs (v : Wd) (is : List Inst) : Nat → Fnd → Fnd → Prop
  | stop {f : Fnd} : (passM v is f).2 = false → Runs v is 0 f (passM v is f).1
  | more {m : Nat} {f g : Fnd} : (passM v is f).2 = true → Runs v is m (passM v is f).1 g → Runs v is (m + 1) f g
theorem Runs.same {v : Wd} {is : List Inst} {m : Nat} {f g : Fnd} (h : Runs v is m f g) : ∀ {m' : Nat} {g' : Fnd}, Runs v is m' f g' → g = g' := by
  induction h with
  | stop h1 =>
    intro m' g' h'
    cases h' with
    | stop _ => rfl
    | more h2 _ => rw [h1] at h2; cases h2
  | more h1 _ ih =>
    intro m' g' h'
    cases h' with
    | stop h2 => rw [h1] at h2; cases h2
    | more _ h3 => exact ih h3
/-! ### the order of sorts -/
abbrev ordD : KeyOrd := listOrd PyProof.Rows.itemOrd
theorem rLt_irrefl (a : Srt) : rLt a a = false := ordD.irrefl (PySem.W.keyToks (rankD a))
theorem rLt_trans {a b c : Srt} (h1 : rLt a b = true) (h2 : rLt b c = true) : rLt a c = true := ordD.trans (PySem.W.keyToks (rankD a)) (PySem.W.keyToks (rankD b)) (PySem.W.keyToks (rankD c)) h1 h2
theorem rLt_size {a b : Srt} (h : a.size < b.size) : rLt a b = true := by
  unfold rLt rankD
  rw [PySem.W.dataLt]
  simp only [PySem.W.keyToks, PySem.W.keyToksAll, List.cons_append, List.nil_append]
  have h1 : ∀ l m : List (Int ⊕ List Nat), lexLt PyProof.Rows.itemOrd (Sum.inl 1 :: l) (Sum.inl 1 :: m) = lexLt PyProof.Rows.itemOrd l m := fun l m => lex_self (O := PyProof.Rows.itemOrd) _ l m
  rw [h1, lex_diff (O := PyProof.Rows.itemOrd) (fun e => by
    injection e with e
    omega)]
  show decide (((a.size : Nat) : Int) < ((b.size : Nat) : Int)) = true
  exact decide_eq_true (by omega)
/-! ### what stays true of found -/
def subs : Srt → List Srt
  | .n0 r => [.n0 r]
  | .n1 r a => .n1 r a :: subs a
  | .n2 r a b => .n2 r a b :: (subs a ++ subs b)
def psubs (x : Srt) : List Srt := x.parts.flatMap subs
theorem subs_eq (x : Srt) : subs x = x :: psubs x := by cases x <;> simp [subs, psubs, Srt.parts]
theorem self_subs (x : Srt) : x ∈ subs x := by rw [subs_eq]; exact List.mem_cons_self
theorem size_subs : ∀ {x u : Srt}, u ∈ subs x → u.size ≤ x.size
  | .n0 r, u, h => by simp [subs] at h; rw [h]; exact Nat.le_refl _
  | .n1 r a, u, h => by
    simp only [subs, List.mem_cons] at h
    rcases h with rfl | h
    · exact Nat.le_refl _
    · have := size_subs h
      simp only [Srt.size]
      omega
  | .n2 r a b, u, h => by
    simp only [subs, List.mem_cons, List.mem_append] at h
    rcases h with rfl | h | h
    · exact Nat.le_refl _
    · have := size_subs h
      simp only [Srt.size]
      omega
    · have := size_subs h
      simp only [Srt.size]
      omega
theorem size_psubs {x u : Srt} (h : u ∈ psubs x) : u.size < x.size := by
  obtain ⟨p, hp, hu⟩ := List.mem_flatMap.mp h
  exact Nat.lt_of_le_of_lt (size_subs hu) (size_parts hp)
theorem subs_trans : ∀ {x u y : Srt}, u ∈ subs x → y ∈ subs u → y ∈ subs x
  | .n0 r, u, y, h, k => by simp [subs] at h; rw [h] at k; exact k
  | .n1 r a, u, y, h, k => by
    simp only [subs, List.mem_cons] at h
    rcases h with rfl | h
    · exact k
    · exact List.mem_cons_of_mem _ (subs_trans h k)
  | .n2 r a b, u, y, h, k => by
    simp only [subs, List.mem_cons, List.mem_append] at h
    rcases h with rfl | h | h
    · exact k
    · exact List.mem_cons_of_mem _ (List.mem_append_left _ (subs_trans h k))
    · exact List.mem_cons_of_mem _ (List.mem_append_right _ (subs_trans h k))
theorem psubs_sub {x u : Srt} (h : u ∈ psubs x) : u ∈ subs x := by rw [subs_eq]; exact List.mem_cons_of_mem _ h
theorem okS_subs {v : Wd} : ∀ {x u : Srt}, okS v x = true → u ∈ subs x → okS v u = true
  | .n0 r, u, h, k => by simp [subs] at k; rw [k]; exact h
  | .n1 r a, u, h, k => by
    simp only [subs, List.mem_cons] at k
    rcases k with rfl | k
    · exact h
    · exact okS_subs (okS_parts h (by simp [Srt.parts])) k
  | .n2 r a b, u, h, k => by
    simp only [subs, List.mem_cons, List.mem_append] at k
    rcases k with rfl | k | k
    · exact h
    · exact okS_subs (okS_parts h (by simp [Srt.parts])) k
    · exact okS_subs (okS_parts h (by simp [Srt.parts])) k
structure Good (v : Wd) (is : List Inst) (f : Fnd) : Prop where
  nd : (f.map (·.1)).Nodup
  st : ∀ p ∈ f, stOf v is p.2 = p.1 ∧ okS v p.2 = true
  sub : ∀ p ∈ f, ∀ u ∈ subs p.2, ∃ y, lookF f (stOf v is u) = some y ∧ rLt u y = false
  cha : ∀ p ∈ f, ∀ u ∈ subs p.2, ∀ u' ∈ psubs u, stOf v is u' ≠ stOf v is u
theorem lookF_mem {f : Fnd} {s : Stt} {x : Srt} (h : lookF f s = some x) : (s, x) ∈ f := by
  unfold lookF at h
  obtain ⟨p, hp, rfl⟩ := Option.map_eq_some_iff.mp h
  have h2 := List.find?_some hp
  have h2 : p.1 = s := of_decide_eq_true h2
  rw [← h2]
  exact List.mem_of_find?_eq_some hp
theorem lookF_key {f : Fnd} {s : Stt} (h : s ∈ f.map (·.1)) : ∃ x, lookF f s = some x := by
  obtain ⟨p, hp, e⟩ := List.mem_map.mp h
  have : (lookF f s).isSome = true := by
    unfold lookF
    rw [Option.isSome_map, ← any_find]
    exact List.any_eq_true.mpr ⟨p, hp, decide_eq_true e⟩
  exact Option.isSome_iff_exists.mp this
theorem lookF_of {f : Fnd} (nd : (f.map (·.1)).Nodup) {p : Stt × Srt} (h : p ∈ f) : lookF f p.1 = some p.2 := by
  induction f with
  | nil => simp at h
  | cons q f ih =>
    rw [List.map_cons, List.nodup_cons] at nd
    unfold lookF
    rcases List.mem_cons.mp h with rfl | h
    · rw [List.find?_cons_of_pos (by simp)]
      rfl
    · have : q.1 ≠ p.1 := fun e => nd.1 (by rw [e]; exact List.mem_map_of_mem h)
      rw [List.find?_cons_of_neg (by simp [this])]
      exact ih nd.2 h
theorem putF_keys (f : Fnd) (s : Stt) (x : Srt) : (putF f s x).map (·.1) = if (lookF f s).isSome then f.map (·.1) else f.map (·.1) ++ [s] := by
  unfold putF
  split
  · rw [List.map_map]
    refine List.map_congr_left fun p _ => ?_
    show (if p.1 = s then (p.1, x) else p).1 = p.1
    split <;> rfl
  · rw [List.map_append]
    rfl
theorem lookF_put (f : Fnd) (s s' : Stt) (x : Srt) : lookF (putF f s x) s' = if s' = s then some x else lookF f s' := by
  unfold putF
  cases e : lookF f s with
  | none =>
    rw [if_neg (by simp)]
    by_cases q : s' = s
    · subst q
      rw [if_pos rfl]
      unfold lookF at e ⊢
      rw [List.find?_append, Option.map_eq_none_iff.mp e]
      simp
    · rw [if_neg q]
      unfold lookF
      rw [List.find?_append]
      cases h : f.find? fun p => decide (p.1 = s') with
      | some y => rfl
      | none =>
        rw [List.find?_cons_of_neg (by simpa using fun z => q z.symm)]
        rfl
  | some y =>
    rw [if_pos (by simp)]
    have key : (f.map fun p => if p.1 = s then (p.1, x) else p).find? (fun p => decide (p.1 = s')) = (f.find? fun p => decide (p.1 = s')).map fun p => if p.1 = s then (p.1, x) else p := by
      rw [List.find?_map]
      congr 2
      funext p
      show decide ((if p.1 = s then (p.1, x) else p).1 = s') = _
      split <;> rfl
    show ((f.map fun p => if p.1 = s then (p.1, x) else p).find? fun p => decide (p.1 = s')).map (·.2) = _
    rw [key, Option.map_map]
    by_cases q : s' = s
    · rw [if_pos q, q]
      unfold lookF at e
      obtain ⟨p, hp, _⟩ := Option.map_eq_some_iff.mp e
      rw [hp]
      have h2 := List.find?_some hp
      have h2 : p.1 = s := of_decide_eq_true h2
      show some (if p.1 = s then (p.1, x) else p).2 = _
      rw [if_pos h2]
    · rw [if_neg q]
      unfold lookF
      cases hp : f.find? fun p => decide (p.1 = s') with
      | none => rfl
      | some p =>
        have h2 := List.find?_some hp
        have h2 : p.1 = s' := of_decide_eq_true h2
        show some (if p.1 = s then (p.1, x) else p).2 = some p.2
        rw [if_neg (fun z => q (h2.symm.trans z))]
/-! ### one step -/
theorem newSrt_root (f : Fnd) (q : Str × List Stt) (h : q.2.length ≤ 2) : (newSrt f q).root = q.1 ∧ (newSrt f q).parts = q.2.map fun o => (lookF f o).getD (.n0 "") := by
  unfold newSrt
  obtain ⟨r, l⟩ := q
  match l, h with
  | [], _ => exact ⟨rfl, rfl⟩
  | [a], _ => exact ⟨rfl, rfl⟩
  | [a, b], _ => exact ⟨rfl, rfl⟩
structure QOk (v : Wd) (f : Fnd) (q : Str × List Stt) : Prop where
  ar : arC v.cs q.1 = some q.2.length
  le : q.2.length ≤ 2
  key : ∀ o ∈ q.2, o ∈ f.map (·.1)
theorem getD_look {f : Fnd} {o : Stt} (h : o ∈ f.map (·.1)) : ∃ x, lookF f o = some x ∧ (lookF f o).getD (.n0 "") = x := by
  obtain ⟨x, hx⟩ := lookF_key h
  exact ⟨x, hx, by rw [hx]; rfl⟩
theorem okS_of {v : Wd} {x : Srt} (h1 : arC v.cs x.root = some x.parts.length) (h2 : ∀ p ∈ x.parts, okS v p = true) : okS v x = true := by
  cases x with
  | n0 r => simpa [okS, Srt.root, Srt.parts] using h1
  | n1 r a =>
    simp only [okS, Bool.and_eq_true, decide_eq_true_eq]
    exact ⟨by simpa [Srt.root, Srt.parts] using h1, h2 a (by simp [Srt.parts])⟩
  | n2 r a b =>
    simp only [okS, Bool.and_eq_true, decide_eq_true_eq]
    exact ⟨⟨by simpa [Srt.root, Srt.parts] using h1, h2 a (by simp [Srt.parts])⟩, h2 b (by simp [Srt.parts])⟩
theorem new_ok {v : Wd} {is : List Inst} {f : Fnd} {q : Str × List Stt} (g : Good v is f) (k : QOk v f q) : okS v (newSrt f q) = true ∧ stOf v is (newSrt f q) = stateM v is q.1 q.2 ∧ ∀ p ∈ (newSrt f q).parts, ∃ o ∈ q.2, (o, p) ∈ f := by
  obtain ⟨h1, h2⟩ := newSrt_root f q k.le
  have hp : ∀ p ∈ (newSrt f q).parts, ∃ o ∈ q.2, (o, p) ∈ f := fun p hp => by
    rw [h2] at hp
    obtain ⟨o, ho, rfl⟩ := List.mem_map.mp hp
    obtain ⟨x, e1, e2⟩ := getD_look (k.key o ho)
    exact ⟨o, ho, by rw [e2]; exact lookF_mem e1⟩
  refine ⟨okS_of (by rw [h1, h2, List.length_map]; exact k.ar) fun p hp' => ?_, ?_, hp⟩
  · obtain ⟨o, _, hm⟩ := hp p hp'
    exact (g.st _ hm).2
  · rw [stOf_eq, h1, h2, List.map_map]
    congr 1
    have : ∀ l : List Stt, (∀ o ∈ l, o ∈ f.map (·.1)) → l.map (stOf v is ∘ fun o => (lookF f o).getD (.n0 "")) = l := by
      intro l
      induction l with
      | nil => intro _; rfl
      | cons o l ih =>
        intro h
        rw [List.map_cons, ih fun o ho => h o (List.mem_cons_of_mem _ ho)]
        obtain ⟨x, e1, e2⟩ := getD_look (h o List.mem_cons_self)
        show stOf v is ((lookF f o).getD (.n0 "")) :: l = o :: l
        rw [e2, (g.st _ (lookF_mem e1)).1]
    exact this q.2 k.key
theorem better_lt {f : Fnd} {s : Stt} {x y : Srt} (h : better f s x = true) (e : lookF f s = some y) : rLt x y = true := by
  unfold better at h
  rw [e] at h
  exact h
theorem not_lt_of {a b c : Srt} (h1 : rLt a c = false) (h2 : rLt b c = true) : rLt a b = false := by
  cases q : rLt a b with
  | false => rfl
  | true => rw [rLt_trans q h2] at h1; cases h1
theorem put_mem {f : Fnd} {s : Stt} {x : Srt} {p : Stt × Srt} (h : p ∈ putF f s x) : p = (s, x) ∨ p ∈ f := by
  unfold putF at h
  split at h
  · obtain ⟨q, hq, rfl⟩ := List.mem_map.mp h
    by_cases e : q.1 = s
    · exact .inl (by rw [if_pos e, e])
    · exact .inr (by rw [if_neg e]; exact hq)
  · rcases List.mem_append.mp h with h | h
    · exact .inr h
    · exact .inl (by simpa using h)
theorem good_put {v : Wd} {is : List Inst} {f : Fnd} {q : Str × List Stt} (g : Good v is f) (k : QOk v f q) (b : better f (stateM v is q.1 q.2) (newSrt f q) = true) : Good v is (putF f (stateM v is q.1 q.2) (newSrt f q)) := by
  obtain ⟨n1, n2, n3⟩ := new_ok g k
  generalize stateM v is q.1 q.2 = s at b n2
  generalize newSrt f q = x at b n1 n2 n3
  have keep : ∀ u, (∃ y, lookF f (stOf v is u) = some y ∧ rLt u y = false) → ∃ y, lookF (putF f s x) (stOf v is u) = some y ∧ rLt u y = false := fun u ⟨y, h1, h2⟩ => by
    rw [lookF_put]
    by_cases e : stOf v is u = s
    · rw [if_pos e]
      rw [e] at h1
      exact ⟨x, rfl, not_lt_of h2 (better_lt b h1)⟩
    · rw [if_neg e]
      exact ⟨y, h1, h2⟩
  have psub : ∀ u ∈ psubs x, ∃ o p, (o, p) ∈ f ∧ u ∈ subs p := fun u hu => by
    obtain ⟨p, hp, hu⟩ := List.mem_flatMap.mp hu
    obtain ⟨o, _, hm⟩ := n3 p hp
    exact ⟨o, p, hm, hu⟩
  refine ⟨?_, fun p hp => ?_, fun p hp u hu => ?_, fun p hp u hu u' hu' => ?_⟩
  · rw [putF_keys]
    split
    · exact g.nd
    · rename_i hn
      refine List.nodup_append.mpr ⟨g.nd, by simp, fun a ha c hc e => ?_⟩
      have hc : c = s := by simpa using hc
      subst hc e
      obtain ⟨y, hy⟩ := lookF_key ha
      rw [hy] at hn
      exact hn rfl
  · rcases put_mem hp with rfl | hp
    · exact ⟨n2, n1⟩
    · exact g.st p hp
  · rcases put_mem hp with rfl | hp
    · rw [subs_eq] at hu
      rcases List.mem_cons.mp hu with rfl | hu
      · refine ⟨u, ?_, rLt_irrefl _⟩
        rw [lookF_put, if_pos n2]
      · obtain ⟨o, p, hm, hu⟩ := psub u hu
        exact keep u (g.sub _ hm u hu)
    · exact keep u (g.sub p hp u hu)
  · rcases put_mem hp with rfl | hp
    · rw [subs_eq] at hu
      rcases List.mem_cons.mp hu with rfl | hu
      · intro e
        obtain ⟨o, p, hm, hu2⟩ := psub u' hu'
        obtain ⟨y, h1, h2⟩ := g.sub _ hm u' hu2
        rw [e, n2] at h1
        have h3 := rLt_trans (rLt_size (size_psubs hu')) (better_lt b h1)
        rw [h2] at h3
        cases h3
      · obtain ⟨o, p, hm, hu2⟩ := psub u hu
        exact g.cha _ hm u hu2 u' hu'
    · exact g.cha p hp u hu u' hu'
theorem good_nil (v : Wd) (is : List Inst) : Good v is [] := ⟨List.nodup_nil, fun _ h => (nomatch h), fun _ h => (nomatch h), fun _ h => (nomatch h)⟩
theorem good_step {v : Wd} {is : List Inst} {acc : Fnd × Bool} {q : Str × List Stt} (g : Good v is acc.1) (k : QOk v acc.1 q) : Good v is (stepF v is acc q).1 := by
  unfold stepF
  split
  · rename_i b
    exact good_put g k b
  · exact g
theorem keys_step {v : Wd} {is : List Inst} {acc : Fnd × Bool} {q : Str × List Stt} {o : Stt} (h : o ∈ acc.1.map (·.1)) : o ∈ (stepF v is acc q).1.map (·.1) := by
  unfold stepF
  split
  · rw [putF_keys]
    split
    · exact h
    · exact List.mem_append_left _ h
  · exact h
end Tr
set_option Elab.async false
set_option linter.all false
set_option maxRecDepth 100000
set_option maxHeartbeats 1000000
set_option autoImplicit false
/-! M4: the states are few, the sorts found are not deep, all_states ends -/
namespace Tr
open PySem PySem.Spec PyProof.Rows L2 DL
theorem nodup_len {α : Type} [DecidableEq α] : ∀ {l L : List α}, l.Nodup → (∀ x ∈ l, x ∈ L) → l.length ≤ L.length
  | [], _, _, _ => Nat.zero_le _
  | a :: l, L, nd, h => by
    rw [List.nodup_cons] at nd
    have h1 := nodup_len (l := l) (L := L.erase a) nd.2 fun x hx => by
      have : x ≠ a := fun e => nd.1 (by rw [← e]; exact hx)
      exact (List.mem_erase_of_ne this).mpr (h x (List.mem_cons_of_mem _ hx))
    have h2 := List.length_erase_of_mem (h a List.mem_cons_self)
    have h3 : 0 < L.length := List.length_pos_of_mem (h a List.mem_cons_self)
    rw [List.length_cons]
    omega
def codeVecs : Nat → List (List Nat)
  | 0 => [[]]
  | n + 1 => (codeVecs n).flatMap fun l => [0 :: l, 1 :: l, 2 :: l]
theorem codeVecs_len : ∀ n, (codeVecs n).length = 3 ^ n
  | 0 => rfl
  | n + 1 => by
    have : ∀ l : List (List Nat), (l.flatMap fun l => [0 :: l, 1 :: l, 2 :: l]).length = 3 * l.length := fun l => by
      induction l with
      | nil => rfl
      | cons x l ih => rw [List.flatMap_cons, List.length_append, ih, List.length_cons]; simp; omega
    rw [codeVecs, this, codeVecs_len n, Nat.pow_succ]
    omega
theorem mem_codeVecs : ∀ {l : List Nat}, (∀ c ∈ l, c ≤ 2) → l ∈ codeVecs l.length
  | [], _ => by simp [codeVecs]
  | c :: l, h => by
    rw [List.length_cons, codeVecs]
    refine List.mem_flatMap.mpr ⟨l, mem_codeVecs fun d hd => h d (List.mem_cons_of_mem _ hd), ?_⟩
    have hc := h c List.mem_cons_self
    match c, hc with
    | 0, _ => simp
    | 1, _ => simp
    | 2, _ => simp
def allSt (v : Wd) : List Stt := (ctors v).flatMap fun r => (codeVecs (names v).length).map fun c => ⟨r, c⟩
theorem allSt_len (v : Wd) (hc : v.cs.length ≤ 4) (ht : v.ts.length ≤ 3) : (allSt v).length ≤ 108 := by
  unfold allSt
  have h1 := flat_len (fun r : Str => (codeVecs (names v).length).map fun c => (⟨r, c⟩ : Stt)) 27 (ctors v) fun r _ => by
    rw [List.length_map, codeVecs_len]
    have : (names v).length ≤ 3 := by unfold names; rw [List.length_map]; exact ht
    exact Nat.pow_le_pow_right (by decide) this
  have h2 : (ctors v).length ≤ 4 := by unfold ctors; rw [List.length_map]; exact hc
  omega
theorem arC_mem {cs : List (Str × Nat)} {r : Str} {n : Nat} (h : arC cs r = some n) : (r, n) ∈ cs := by
  unfold arC at h
  obtain ⟨c, hc, rfl⟩ := Option.map_eq_some_iff.mp h
  have h2 := List.find?_some hc
  have h2 : c.1 = r := of_decide_eq_true h2
  rw [← h2]
  exact List.mem_of_find?_eq_some hc
theorem stateM_mem {v : Wd} {is : List Inst} {r : Str} {sts : List Stt} (h : r ∈ ctors v) : stateM v is r sts ∈ allSt v := by
  unfold allSt
  refine List.mem_flatMap.mpr ⟨r, h, List.mem_map.mpr ⟨(names v).map fun t => codeM (names v) is t r sts, ?_, rfl⟩⟩
  have := mem_codeVecs (l := (names v).map fun t => codeM (names v) is t r sts) fun c hc => by
    obtain ⟨t, _, rfl⟩ := List.mem_map.mp hc
    exact codeM_le _ _ _ _ _ _ (by decide)
  rw [List.length_map] at this
  exact this
theorem root_ctor {v : Wd} {x : Srt} (h : okS v x = true) : x.root ∈ ctors v := List.mem_map.mpr ⟨_, arC_mem (okS_root h), rfl⟩
theorem stOf_mem {v : Wd} {is : List Inst} {x : Srt} (h : okS v x = true) : stOf v is x ∈ allSt v := by
  rw [stOf_eq]
  exact stateM_mem (root_ctor h)
def path (v : Wd) (is : List Inst) : Srt → List Stt
  | .n0 r => [stOf v is (.n0 r)]
  | .n1 r a => stOf v is (.n1 r a) :: path v is a
  | .n2 r a b => stOf v is (.n2 r a b) :: (if a.depth < b.depth then path v is b else path v is a)
theorem path_len (v : Wd) (is : List Inst) : ∀ x, (path v is x).length = x.depth
  | .n0 r => rfl
  | .n1 r a => by rw [path, List.length_cons, path_len v is a, Srt.depth]; omega
  | .n2 r a b => by
    rw [path, List.length_cons, Srt.depth]
    by_cases h : a.depth < b.depth
    · rw [if_pos h, path_len v is b]; omega
    · rw [if_neg h, path_len v is a]; omega
theorem path_mem (v : Wd) (is : List Inst) : ∀ (x : Srt) (s : Stt), s ∈ path v is x → ∃ u ∈ subs x, s = stOf v is u
  | .n0 r, s, h => ⟨_, self_subs _, by simpa [path] using h⟩
  | .n1 r a, s, h => by
    rw [path] at h
    rcases List.mem_cons.mp h with rfl | h
    · exact ⟨_, self_subs _, rfl⟩
    · obtain ⟨u, hu, e⟩ := path_mem v is a s h
      exact ⟨u, List.mem_cons_of_mem _ hu, e⟩
  | .n2 r a b, s, h => by
    rw [path] at h
    rcases List.mem_cons.mp h with rfl | h
    · exact ⟨_, self_subs _, rfl⟩
    · by_cases q : a.depth < b.depth
      · rw [if_pos q] at h
        obtain ⟨u, hu, e⟩ := path_mem v is b s h
        exact ⟨u, List.mem_cons_of_mem _ (List.mem_append_right _ hu), e⟩
      · rw [if_neg q] at h
        obtain ⟨u, hu, e⟩ := path_mem v is a s h
        exact ⟨u, List.mem_cons_of_mem _ (List.mem_append_left _ hu), e⟩
theorem path_nodup (v : Wd) (is : List Inst) : ∀ x : Srt, (∀ u ∈ subs x, ∀ u' ∈ psubs u, stOf v is u' ≠ stOf v is u) → (path v is x).Nodup
  | .n0 r, h => by simp [path]
  | .n1 r a, h => by
    rw [path, List.nodup_cons]
    refine ⟨fun hm => ?_, path_nodup v is a fun u hu => h u (List.mem_cons_of_mem _ hu)⟩
    obtain ⟨u, hu, e⟩ := path_mem v is a _ hm
    exact h _ (self_subs _) u (by simpa [psubs, Srt.parts] using hu) e.symm
  | .n2 r a b, h => by
    rw [path, List.nodup_cons]
    refine ⟨fun hm => ?_, ?_⟩
    · by_cases q : a.depth < b.depth
      · rw [if_pos q] at hm
        obtain ⟨u, hu, e⟩ := path_mem v is b _ hm
        exact h _ (self_subs _) u (by simp only [psubs, Srt.parts]; exact List.mem_flatMap.mpr ⟨b, by simp, hu⟩) e.symm
      · rw [if_neg q] at hm
        obtain ⟨u, hu, e⟩ := path_mem v is a _ hm
        exact h _ (self_subs _) u (by simp only [psubs, Srt.parts]; exact List.mem_flatMap.mpr ⟨a, by simp, hu⟩) e.symm
    · by_cases q : a.depth < b.depth
      · rw [if_pos q]
        exact path_nodup v is b fun u hu => h u (List.mem_cons_of_mem _ (List.mem_append_right _ hu))
      · rw [if_neg q]
        exact path_nodup v is a fun u hu => h u (List.mem_cons_of_mem _ (List.mem_append_left _ hu))
structure Small (v : Wd) : Prop where
  ok : OkW v
  t3 : v.ts.length ≤ 3
theorem good_depth {v : Wd} {is : List Inst} {f : Fnd} (sm : Small v) (g : Good v is f) {p : Stt × Srt} (h : p ∈ f) : p.2.depth ≤ 108 := by
  rw [← path_len v is p.2]
  refine Nat.le_trans (nodup_len (path_nodup v is p.2 (g.cha p h)) (L := allSt v) fun s hs => ?_) (allSt_len v sm.ok.c4 sm.t3)
  obtain ⟨u, hu, rfl⟩ := path_mem v is _ s hs
  exact stOf_mem (okS_subs (g.st p h).2 hu)
theorem good_len {v : Wd} {is : List Inst} {f : Fnd} (sm : Small v) (g : Good v is f) : f.length ≤ 108 := by
  have h := nodup_len g.nd (L := allSt v) fun s hs => by
    obtain ⟨p, hp, rfl⟩ := List.mem_map.mp hs
    rw [← (g.st p hp).1]
    exact stOf_mem (g.st p hp).2
  rw [List.length_map] at h
  exact Nat.le_trans h (allSt_len v sm.ok.c4 sm.t3)
/-! ### the measure -/
def sortsD (v : Wd) : Nat → List Srt
  | 0 => []
  | n + 1 => (ctors v).flatMap fun r => .n0 r :: ((sortsD v n).map (.n1 r) ++ (sortsD v n).flatMap fun a => (sortsD v n).map (.n2 r a))
theorem mem_sortsD {v : Wd} : ∀ {n : Nat} {x : Srt}, okS v x = true → x.depth ≤ n → x ∈ sortsD v n
  | 0, x, h, d => by have := depth_pos x; omega
  | n + 1, .n0 r, h, d => List.mem_flatMap.mpr ⟨r, root_ctor h, List.mem_cons_self⟩
  | n + 1, .n1 r a, h, d => by
    refine List.mem_flatMap.mpr ⟨r, root_ctor h, List.mem_cons_of_mem _ (List.mem_append_left _ (List.mem_map.mpr ⟨a, ?_, rfl⟩))⟩
    exact mem_sortsD (okS_parts h (by simp [Srt.parts])) (by simp only [Srt.depth] at d; omega)
  | n + 1, .n2 r a b, h, d => by
    refine List.mem_flatMap.mpr ⟨r, root_ctor h, List.mem_cons_of_mem _ (List.mem_append_right _ (List.mem_flatMap.mpr ⟨a, ?_, List.mem_map.mpr ⟨b, ?_, rfl⟩⟩))⟩
    · exact mem_sortsD (okS_parts h (by simp [Srt.parts])) (by simp only [Srt.depth] at d; omega)
    · exact mem_sortsD (okS_parts h (by simp [Srt.parts])) (by simp only [Srt.depth] at d; omega)
def idxS (L : List Srt) (x : Srt) : Nat := L.countP fun z => rLt z x
theorem idx_lt {L : List Srt} {x y : Srt} (h : rLt x y = true) (hx : x ∈ L) : idxS L x < idxS L y := by
  unfold idxS
  have : ∀ L : List Srt, L.countP (fun z => rLt z x) ≤ L.countP fun z => rLt z y := fun L => List.countP_mono_left fun z _ hz => rLt_trans hz h
  induction L with
  | nil => simp at hx
  | cons z L ih =>
    rw [List.countP_cons, List.countP_cons]
    rcases List.mem_cons.mp hx with rfl | hx
    · have := this L
      rw [rLt_irrefl, h]
      simp
      omega
    · have h1 := ih hx
      have h2 : (if rLt z x = true then 1 else 0) ≤ (if rLt z y = true then 1 else 0 : Nat) := by
        cases q : rLt z x with
        | true => rw [rLt_trans q h]; exact Nat.le_refl _
        | false => simp
      omega
def oneMs (L : List Srt) : Option Srt → Nat
  | none => L.length + 1
  | some x => idxS L x
def meas (v : Wd) (f : Fnd) : Nat := ((allSt v).map fun s => oneMs (sortsD v 108) (lookF f s)).sum
theorem sum_le {α : Type} (f g : α → Nat) : ∀ l : List α, (∀ x ∈ l, f x ≤ g x) → (l.map f).sum ≤ (l.map g).sum
  | [], _ => Nat.le_refl _
  | x :: l, h => by
    have h1 := h x List.mem_cons_self
    have h2 := sum_le f g l fun y hy => h y (List.mem_cons_of_mem _ hy)
    simp only [List.map_cons, List.sum_cons]
    omega
theorem sum_lt {α : Type} (f g : α → Nat) : ∀ l : List α, (∀ x ∈ l, f x ≤ g x) → (∃ x ∈ l, f x < g x) → (l.map f).sum < (l.map g).sum
  | [], _, ⟨x, hx, _⟩ => by simp at hx
  | x :: l, h, ⟨y, hy, hlt⟩ => by
    simp only [List.map_cons, List.sum_cons]
    rcases List.mem_cons.mp hy with rfl | hy
    · have h2 := sum_le f g l fun y hy => h y (List.mem_cons_of_mem _ hy)
      omega
    · have h1 := h x List.mem_cons_self
      have h2 := sum_lt f g l (fun y hy => h y (List.mem_cons_of_mem _ hy)) ⟨y, hy, hlt⟩
      omega
theorem meas_put {v : Wd} {is : List Inst} {f : Fnd} {q : Str × List Stt} (sm : Small v) (g : Good v is f) (k : QOk v f q) (b : better f (stateM v is q.1 q.2) (newSrt f q) = true) : meas v (putF f (stateM v is q.1 q.2) (newSrt f q)) < meas v f := by
  have g2 := good_put g k b
  obtain ⟨n1, n2, n3⟩ := new_ok g k
  have hd : (newSrt f q).depth ≤ 108 := by
    have : lookF (putF f (stateM v is q.1 q.2) (newSrt f q)) (stateM v is q.1 q.2) = some (newSrt f q) := by rw [lookF_put, if_pos rfl]
    exact good_depth sm g2 (lookF_mem this)
  have hs : stateM v is q.1 q.2 ∈ allSt v := by rw [← n2]; exact stOf_mem n1
  generalize stateM v is q.1 q.2 = s at b n2 hs
  generalize newSrt f q = x at b n1 n2 hd
  have hx := mem_sortsD n1 hd
  have main : oneMs (sortsD v 108) (lookF (putF f s x) s) < oneMs (sortsD v 108) (lookF f s) := by
    rw [lookF_put, if_pos rfl]
    cases e : lookF f s with
    | none =>
      show idxS _ x < _ + 1
      have : idxS (sortsD v 108) x ≤ (sortsD v 108).length := List.countP_le_length
      omega
    | some y => exact idx_lt (better_lt b e) hx
  refine sum_lt _ _ _ (fun s' _ => ?_) ⟨s, hs, main⟩
  by_cases e : s' = s
  · subst e
    exact Nat.le_of_lt main
  · rw [lookF_put, if_neg e]
    exact Nat.le_refl _
theorem meas_step {v : Wd} {is : List Inst} {acc : Fnd × Bool} {q : Str × List Stt} (sm : Small v) (g : Good v is acc.1) (k : QOk v acc.1 q) : (stepF v is acc q = acc) ∨ (meas v (stepF v is acc q).1 < meas v acc.1 ∧ (stepF v is acc q).2 = true) := by
  unfold stepF
  split
  · rename_i b
    exact .inr ⟨meas_put sm g k b, rfl⟩
  · exact .inl rfl
theorem QOk.step {v : Wd} {is : List Inst} {acc : Fnd × Bool} {q q' : Str × List Stt} (k : QOk v acc.1 q') : QOk v (stepF v is acc q).1 q' := ⟨k.ar, k.le, fun o ho => keys_step (k.key o ho)⟩
theorem fold_good {v : Wd} {is : List Inst} (sm : Small v) : ∀ {qs : List (Str × List Stt)} {acc : Fnd × Bool}, Good v is acc.1 → (∀ q ∈ qs, QOk v acc.1 q) →
    Good v is (qs.foldl (stepF v is) acc).1 ∧ ((qs.foldl (stepF v is) acc = acc) ∨ meas v (qs.foldl (stepF v is) acc).1 < meas v acc.1)
  | [], acc, g, _ => ⟨g, .inl rfl⟩
  | q :: qs, acc, g, k => by
    rw [List.foldl_cons]
    have kq := k q List.mem_cons_self
    obtain ⟨h1, h2⟩ := fold_good sm (qs := qs) (good_step g kq) fun q' hq' => (k q' (List.mem_cons_of_mem _ hq')).step
    refine ⟨h1, ?_⟩
    rcases meas_step sm g kq with e | ⟨e, _⟩
    · rw [e] at h2 ⊢
      exact h2
    · rcases h2 with h2 | h2
      · rw [h2]
        exact .inr e
      · exact .inr (Nat.lt_trans h2 e)
theorem rows_mem {known : List Stt} {n : Nat} (hn : n ≤ 2) {l : List Stt} (h : l ∈ rowsM known n) : l.length = n ∧ ∀ o ∈ l, o ∈ known := by
  unfold rowsM at h
  match n, hn with
  | 0, _ =>
    rw [if_pos rfl] at h
    have : l = [] := by simpa using h
    subst this
    exact ⟨rfl, fun o ho => (nomatch ho)⟩
  | 1, _ =>
    rw [if_neg (by decide), if_pos rfl] at h
    obtain ⟨a, ha, rfl⟩ := List.mem_map.mp h
    exact ⟨rfl, fun o ho => by rw [List.mem_singleton.mp ho]; exact ha⟩
  | 2, _ =>
    rw [if_neg (by decide), if_neg (by decide)] at h
    obtain ⟨a, ha, h⟩ := List.mem_flatMap.mp h
    obtain ⟨b, hb, rfl⟩ := List.mem_map.mp h
    refine ⟨rfl, fun o ho => ?_⟩
    rcases List.mem_cons.mp ho with rfl | ho
    · exact ha
    · rw [List.mem_singleton.mp ho]
      exact hb
theorem arC_ofL {c : Str × Nat} : ∀ {cs : List (Str × Nat)}, (cs.map (·.1)).Nodup → c ∈ cs → arC cs c.1 = some c.2
  | [], _, h => by simp at h
  | d :: cs, nd, h => by
    rw [List.map_cons, List.nodup_cons] at nd
    unfold arC
    rcases List.mem_cons.mp h with rfl | h
    · rw [List.find?_cons_of_pos (by simp)]
      rfl
    · have : d.1 ≠ c.1 := fun e => nd.1 (by rw [e]; exact List.mem_map_of_mem h)
      rw [List.find?_cons_of_neg (by simp [this])]
      exact arC_ofL nd.2 h
theorem arC_of {v : Wd} (ok : OkW v) {c : Str × Nat} (h : c ∈ v.cs) : arC v.cs c.1 = some c.2 := arC_ofL ok.nd h
theorem ar_le {v : Wd} (ok : OkW v) {c : Str × Nat} (h : c ∈ v.cs) : c.2 ≤ 2 := by
  have h1 : okC c = true := ok.cn c h
  unfold okC at h1
  simp only [Bool.and_eq_true, decide_eq_true_eq] at h1
  exact h1.1.1.2
theorem mem_sortSt {l : List Stt} {o : Stt} : o ∈ sortSt l ↔ o ∈ l := by
  unfold sortSt
  exact (List.mergeSort_perm _ _).mem_iff
theorem qs_ok {v : Wd} (ok : OkW v) {f : Fnd} {q : Str × List Stt} (h : q ∈ qsM v (sortSt (f.map (·.1)))) : QOk v f q := by
  unfold qsM at h
  obtain ⟨c, hc, h⟩ := List.mem_flatMap.mp h
  obtain ⟨l, hl, rfl⟩ := List.mem_map.mp h
  have h2 := ar_le ok hc
  obtain ⟨h3, h4⟩ := rows_mem h2 hl
  exact ⟨by rw [h3]; exact arC_of ok hc, by rw [h3]; exact h2, fun o ho => mem_sortSt.mp (h4 o ho)⟩
theorem pass_good {v : Wd} {is : List Inst} (sm : Small v) {f : Fnd} (g : Good v is f) : Good v is (passM v is f).1 ∧ ((passM v is f).2 = true → meas v (passM v is f).1 < meas v f) := by
  obtain ⟨h1, h2⟩ := fold_good sm (qs := qsM v (sortSt (f.map (·.1)))) (acc := (f, false)) g fun q hq => qs_ok sm.ok hq
  refine ⟨h1, fun hb => ?_⟩
  rcases h2 with h2 | h2
  · unfold passM at hb
    rw [h2] at hb
    cases hb
  · exact h2
theorem runs_ex {v : Wd} {is : List Inst} (sm : Small v) : ∀ (n : Nat) (f : Fnd), meas v f ≤ n → Good v is f → ∃ m g, Runs v is m f g
  | 0, f, hn, g => by
    obtain ⟨g1, h1⟩ := pass_good sm g
    cases hb : (passM v is f).2 with
    | false => exact ⟨0, _, .stop hb⟩
    | true =>
      have := h1 hb
      omega
  | n + 1, f, hn, g => by
    obtain ⟨g1, h1⟩ := pass_good sm g
    cases hb : (passM v is f).2 with
    | false => exact ⟨0, _, .stop hb⟩
    | true =>
      have := h1 hb
      obtain ⟨m, r, h⟩ := runs_ex sm n _ (by omega) g1
      exact ⟨m + 1, r, .more hb h⟩
theorem runs_good {v : Wd} {is : List Inst} (sm : Small v) {m : Nat} {f r : Fnd} (h : Runs v is m f r) : Good v is f → Good v is r := by
  induction h with
  | stop _ => exact fun g => (pass_good sm g).1
  | more _ _ ih => exact fun g => ih (pass_good sm g).1
end Tr
set_option Elab.async false
set_option linter.all false
set_option maxRecDepth 100000
set_option maxHeartbeats 1000000
set_option autoImplicit false
/-! DN5: comprehensions with two fors, xs.index, several names at once -/
namespace DL
open PySem PySem.Spec PyProof.Rows L2
theorem it_any {J : It} {n : Nat} {G : Hp → Prop} {Y : Nat → Hp → V → Hp → Prop} (w : Walk J n G Y) {B : V → Hp → (Hp → Prop) → Prop} {H0 : Hp} {Qd : Hp → Prop} (Pv : Nat → Hp → Prop) (h0 : Pv 0 H0) (hG : ∀ i H, i ≤ n → Pv i H → G H)
    (hs : ∀ i x H H', i < n → Pv i H → Y i H x H' → B x H' (Pv (i + 1))) (hd : ∀ H, Pv n H → Qd H) :
    ∃ W : Nat → Nat → Hp → Prop, (∃ m, W 0 m H0) ∧ ∀ i m H, W i m H → (J.stop i H ∧ Qd H) ∨ (J.go i H ∧ ∃ Nx : Hp → Prop, (∀ H', Nx H' → ∃ m', m' < m ∧ W (i + 1) m' H') ∧ ∀ x H', J.yld i H x H' → B x H' Nx) := by
  refine ⟨fun i m H => m = n - i ∧ i ≤ n ∧ Pv i H, ⟨n, by simp, Nat.zero_le _, h0⟩, ?_⟩
  rintro i m H ⟨rfl, hi, p⟩
  have q := hG i H hi p
  by_cases hlt : i < n
  · refine .inr ⟨w.goes i H hlt q, Pv (i + 1), fun H' p' => ⟨n - (i + 1), by omega, rfl, hlt, p'⟩, fun x H' y => hs i x H H' hlt p (w.yields i H x H' hlt q y)⟩
  · have e : i = n := by omega
    subst e
    exact .inl ⟨w.stops H q, hd H p⟩
theorem DSX.core {K : PySem.W.Frag} {Hc H Hc1 H1 : Hp} {σ : L2.St} {env : DEnv} (h : DSX K Hc σ H env) (c : Cor Hc1 H1) (s : Same Hc Hc1) : DSX K Hc1 σ H1 env :=
  ⟨c, h.len, fun i d e => by
    obtain ⟨v, a, b⟩ := h.at_ i d e
    exact ⟨v, a, b.same s⟩⟩
def wiB (X : Cx) (tg iter : Expr) (scope : Scope) : TI := fun σ H R => ∀ (s : Shared) (H' : Hp) (C : Addr) (cl : List (Str × Addr)) (fp : List Addr), WI (X.blk s H' scope (compEnvC scope cl C X.env) fp) tg iter σ H R
theorem pi_wiB {X : Cx} {tg iter : Expr} {scope : Scope} (s : Shared) (H' : Hp) (C : Addr) (cl : List (Str × Addr)) (fp : List Addr) : PI (X.blk s H' scope (compEnvC scope cl C X.env) fp) tg iter (wiB X tg iter scope) :=
  ⟨fun pins s1 σ H R I h => h s H' C cl fp pins s1 I⟩
section
variable {X : Cx} {env : DEnv} {pos px py : Pos} {iter iter1 elt : Expr} {scope : Scope} {α β : Type} {xs : List α} {ys : List β} {enc1 : α → D} {enc2 : β → D} {x y : Str} {i j : Nat}
theorem flat_take' {γ δ : Type} (f : γ → List δ) {l : List γ} {n : Nat} {x : γ} (h : l[n]? = some x) : (l.take (n + 1)).flatMap f = (l.take n).flatMap f ++ f x := by
  rw [List.take_succ, h, List.flatMap_append]
  simp
theorem en_lc2M (g : α → β → D) (hc : X.calm = true) (nd : X.N.Nodup) (ok : BlkOk X.N X.env.scope scope [(x, i), (y, j)]) (hi : IV X (.Name x px) iter env (xs.map enc1)) (hz : xs.length * ys.length ≤ sizeLine)
    (hg1 : Blk X scope fun Y => ∀ (d : D) (env : DEnv), GV Y (.Name x px) d env (env.set i (some d)) [i]) (hg2 : Blk X scope fun Y => ∀ (d : D) (env : DEnv), GV Y (.Name y py) d env (env.set j (some d)) [j])
    (hi1 : ∀ a, a ∈ xs → Blk X scope fun Y => IV Y (.Name y py) iter1 ((wipeE env [i, j]).set i (some (enc1 a))) (ys.map enc2))
    (turn : ∀ a, a ∈ xs → ∀ b, b ∈ ys → Blk X scope fun Y => EVd Y elt ((wipeE ((wipeE env [i, j]).set i (some (enc1 a))) [j]).set j (some (enc2 b))) (g a b)) (hD : ∀ a b, isD (g a b) = true)
    (hs : ∀ x, foldedSetIterable iter X.env x = pure x := by intro _; rfl) (hs1 : ∀ env x, foldedSetIterable iter1 env x = pure x := by intro _ _; rfl) :
    EVn X (.ListComp elt [⟨.Name x px, iter, [], 0⟩, ⟨.Name y py, iter1, [], 0⟩] scope pos) env (xs.flatMap fun a => ys.map (g a)) := fun Hc σ H hd Q q => by
  let row : α → List D := fun a => ys.map (g a)
  have rl : ∀ l : List α, (l.flatMap row).length = l.length * ys.length := fun l => by
    induction l with
    | nil => simp
    | cons a l ih => rw [List.flatMap_cons, List.length_append, ih, List.length_cons, Nat.succ_mul]; simp [row]; omega
  refine wx_of (pe_lc2 (wi := WI X (.Name x px) iter) (wi1 := wiB X (.Name y py) iter1 scope) (g := gB X (.Name x px) scope) (g1 := gB X (.Name y py) scope) (tt := tB' X [] scope) (tt1 := tB' X [] scope) (te := eB X elt scope) (own := [(x, i), (y, j)]) (vs1 := [j]) hc nd pi_w ok (fun k hk => by
    rw [List.mem_singleton.mp hk]
    simp) pg_gB pts_tB pi_wiB pg_gB pts_tB pe_eB hs hs1) ?_
  refine hi Hc σ H hd _ fun J Hc1 H1 g1 w => ?_
  intro p np
  have nc : Hc1 p = none := g1.cor.sub.free np
  have hE : ([(x, i), (y, j)].map (·.2)) = [i, j] := rfl
  rw [hE]
  refine it_any w (Pv := fun n H2 => ∃ Hc2 acc, Grow Hc1 H1 Hc2 H2 ∧ H2 p = some (.lst acc) ∧ Hc2 p = none ∧ DpAll X.K Hc2 acc ((xs.take n).flatMap row)) ?_ ?_ ?_ ?_
  · exact ⟨Hc1, [], Grow.own g1.cor np, upd_same, nc, by simp; exact .nil⟩
  · rintro n H2 _ ⟨Hc2, acc, g2, _⟩
    exact g2.cc.trans g2.cor.sub
  · rintro n x' H2 H3 hlt ⟨Hc2, acc, g2, hp, hn, ha⟩ yy
    obtain ⟨Hc3, d, g3, hd3, pxx⟩ := yy Hc2 g2.cor g2.cc
    rw [List.getElem?_map] at hd3
    obtain ⟨a, hda, rfl⟩ := Option.map_eq_some_iff.mp hd3
    rw [List.length_map] at hlt
    have hma := List.mem_of_getElem? hda
    have g13 := g2.trans g3
    have hs3 := ((hd.grow g1).grow g13).wipe [i, j]
    have hp3 : H3 p = some (.lst acc) := g3.hh _ _ hp
    have hn3 : Hc3 p = none := g3.nw p (by rw [hp]; exact fun z => nomatch z) hn
    intro s Hx C cl fp
    refine hg1 s Hx C cl fp _ _ Hc3 (wipe σ [i, j]) H3 hs3 x' pxx.q _ fun σ2 hs4 hl hk => ?_
    have hw : wipe σ2 [i, j] = wipe σ [i, j] := by
      rw [wipe_eq hl fun k hk' => hk k fun z => hk' (by rw [List.mem_singleton.mp z]; simp), wipe_idem]
    refine ⟨hw, fun s' Hx' C' cl' fp' => ?_⟩
    refine ets_nil (X := X.blk s' Hx' scope (compEnvC scope cl' C' X.env) fp') Hc3 σ2 H3 hs4 _ fun Hc4 H4 g4 => ?_
    rw [if_pos rfl]
    intro s2 Hx2 C2 cl2 fp2
    refine hi1 a hma s2 Hx2 C2 cl2 fp2 Hc4 σ2 H4 (hs4.grow g4) _ fun J1 Hc5 H5 g5 w1 => ?_
    have hs5 := (hs4.grow g4).grow g5
    have hp5 : H5 p = some (.lst acc) := g5.hh _ _ (g4.hh _ _ hp3)
    have hn4 : Hc4 p = none := g4.nw p (by rw [hp3]; exact fun z => nomatch z) hn3
    have hn5 : Hc5 p = none := g5.nw p (by rw [g4.hh _ _ hp3]; exact fun z => nomatch z) hn4
    have ha5 := ((ha.same g3.cc).same g4.cc).same g5.cc
    have g15 : Grow Hc1 H1 Hc5 H5 := (g13.trans g4).trans g5
    refine it_any w1 (Pv := fun m H6 => ∃ Hc6 acc, Grow Hc1 H1 Hc6 H6 ∧ Same Hc5 Hc6 ∧ H6 p = some (.lst acc) ∧ Hc6 p = none ∧ DpAll X.K Hc6 acc ((xs.take n).flatMap row ++ (ys.take m).map (g a))) ?_ ?_ ?_ ?_
    · exact ⟨Hc5, acc, g15, Same.refl _, hp5, hn5, by simpa using ha5⟩
    · rintro m H6 _ ⟨Hc6, acc6, g6, s6, _⟩
      exact s6.trans g6.cor.sub
    · rintro m x2 H6 H7 hlt2 ⟨Hc6, acc6, g6, s6, hp6, hn6, ha6⟩ yy2
      obtain ⟨Hc7, d2, g7, hd7, px2⟩ := yy2 Hc6 g6.cor s6
      rw [List.getElem?_map] at hd7
      obtain ⟨b, hdb, rfl⟩ := Option.map_eq_some_iff.mp hd7
      rw [List.length_map] at hlt2
      have hs7 := (hs5.core g7.cor (s6.trans g7.cc)).wipe [j]
      intro s3 Hx3 C3 cl3 fp3
      refine hg2 s3 Hx3 C3 cl3 fp3 _ _ Hc7 (wipe σ2 [j]) H7 hs7 x2 px2.q _ fun σ3 hs8 hl3 hk3 => ?_
      have hw3 : wipe σ3 [j] = wipe σ2 [j] := by rw [wipe_eq hl3 fun k hk' => hk3 k hk', wipe_idem]
      refine ⟨hw3, fun s' Hx' C' cl' fp' => ?_⟩
      refine ets_nil (X := X.blk s' Hx' scope (compEnvC scope cl' C' X.env) fp') Hc7 σ3 H7 hs8 _ fun Hc8 H8 g8 => ?_
      rw [if_pos rfl]
      intro s4 Hx4 C4 cl4 fp4
      refine turn a hma b (List.mem_of_getElem? hdb) s4 Hx4 C4 cl4 fp4 Hc8 σ3 H8 (hs8.grow g8) _ fun v9 Hc9 H9 g9 p9 => ?_
      have hp7 : H7 p = some (.lst acc6) := g7.hh _ _ hp6
      have hn7 : Hc7 p = none := g7.nw p (by rw [hp6]; exact fun z => nomatch z) hn6
      have hp8 : H8 p = some (.lst acc6) := g8.hh _ _ hp7
      have hn8 : Hc8 p = none := g8.nw p (by rw [hp7]; exact fun z => nomatch z) hn7
      have hp9 : H9 p = some (.lst acc6) := g9.hh _ _ hp8
      have hn9 : Hc9 p = none := g9.nw p (by rw [hp8]; exact fun z => nomatch z) hn8
      have ha9 := ((ha6.same g7.cc).same g8.cc).same g9.cc
      have hlen := ha9.len
      refine ⟨acc6, hp9, ?_, Hc9, acc6 ++ [v9], (((g6.trans g7).trans g8).trans g9).mut np hn9 hp9, ((s6.trans g7.cc).trans g8.cc).trans g9.cc, upd_same, hn9, ?_⟩
      · rw [List.length_append, rl, List.length_map, List.length_take, List.length_take] at hlen
        have h1 : (n + 1) * ys.length ≤ xs.length * ys.length := Nat.mul_le_mul_right _ hlt
        have h2 : min n xs.length * ys.length ≤ n * ys.length := Nat.mul_le_mul_right _ (Nat.min_le_left _ _)
        rw [Nat.succ_mul] at h1
        omega
      · have e : (ys.take (m + 1)).map (g a) = (ys.take m).map (g a) ++ [g a b] := by
          rw [List.take_succ, hdb, List.map_append]
          rfl
        rw [e, ← List.append_assoc]
        exact ha9.app (.cons (p9.p (hD a b)) .nil)
    · rintro H6 ⟨Hc6, acc6, g6, s6, hp6, hn6, ha6⟩
      rw [List.length_map, List.take_length] at ha6
      refine ⟨Hc6, acc6, g6, hp6, hn6, ?_⟩
      rw [flat_take' row hda]
      exact ha6
  · rintro H2 ⟨Hc2, acc, g2, hp, hn, ha⟩
    rw [List.length_map, List.take_length] at ha
    exact q p acc Hc2 H2 (g1.trans g2) (g1.hh.free np) hn hp ha
end
/-! ### xs.index(e) -/
section
variable {X : Cx} {o e : Expr} {env : DEnv} {apos cpos : Pos} {xs : List Str} {x : Str}
theorem eqv_s (x y : Str) : PyData.eqv (.str x) (.str y) = decide (x = y) := by
  show (x == y) = _
  by_cases h : x = y
  · rw [h]; simp
  · rw [decide_eq_false h]; exact beq_eq_false_iff_ne.mpr h
theorem ev_index (hu : X.A.units + 65 < cLine) (ho : EVd X o env (.list (xs.map .str))) (he : EVd X e env (.str x)) (hx : x ∈ xs) (l1 : lay (.list (xs.map PyData.str)) = true) (l2 : lay (.str x) = true)
    (hbase : attributeBase o "index" X.env (eval o X.env) = eval o X.env := by rfl)
    (hfew : ((backTo cpos (starEach (e :: []) X.env)).all (fun x => !x.1) && (backToKw cpos (keywordEach [] X.env)).all (fun x => x.1.isSome) && decide ((e :: []).length + ([] : List Keyword).length + (if ([] : List Keyword).isEmpty then 0 else 1) < 30)) = true := by rfl)
    (hline : (apos.endLine == cpos.line) = true := by rfl) (hs : starEach (e :: []) X.env = (false, eval e X.env) :: starEach [] X.env := by rfl) (hplain : (backTo cpos (starEach [] X.env)).any (·.1) = false := by rfl) :
    EVd X (.Call (.Attribute o "index" apos) [e] [] cpos) env (.int (xs.idxOf x : Nat)) := fun Hc σ H hd Q q =>
  wx_of (pe_bm PySem.F.plainAttrs_list PySem.F.slot_list_index PySem.F.type_list_index (mt_indexD hu) pe_w (pa_cons pe_w pa_nil hs) hbase hfew hline hs hplain) (ho Hc σ H hd _ fun v Hc1 H1 g1 p1 => by
    obtain ⟨a, vs, rfl, h1, h2⟩ := dp_lstI p1
    refine ⟨.inl ⟨rfl, _, sql_sub g1.cor h1⟩, ?_⟩
    refine he Hc1 σ H1 (hd.grow g1) _ fun u Hc2 H2 g2 p2 => ?_
    have hlt := List.idxOf_lt_length_of_mem hx
    have p3 : Dp X.K Hc2 (.ref a) (.list (xs.map .str)) := L2.Dp.same (show Dp X.K Hc1 (.ref a) _ from p1) g2.cc
    refine ⟨a, u, .str x, xs.map .str, xs.idxOf x, .str x, rfl, rfl, cs_same g2.cor p3, cs_same g2.cor p2, l1, l2, ?_, ?_, fun m z hm hz => ?_, q _ Hc2 H2 (g1.trans g2) (L2.Dp.int _)⟩
    · rw [List.getElem?_map, List.getElem?_eq_getElem hlt, List.getElem_idxOf hlt]
      rfl
    · rw [eqv_s]
      exact decide_eq_true rfl
    · rw [List.getElem?_map] at hz
      obtain ⟨y, hy, rfl⟩ := Option.map_eq_some_iff.mp hz
      rw [eqv_s]
      refine decide_eq_false fun e => ?_
      subst e
      obtain ⟨h3, h4⟩ := List.getElem?_eq_some_iff.mp hy
      have := List.not_of_lt_findIdx (p := (· == y)) (xs := xs) (i := m) hm
      rw [h4] at this
      simp at this)
end
end DL
set_option Elab.async false
set_option linter.all false
set_option maxRecDepth 100000
set_option maxHeartbeats 1000000
set_option autoImplicit false
/-! DN6: several names stored at once, own things among the values -/
namespace DL
open PySem PySem.Spec PyProof.Rows L2
section
variable {X : Cx} {env : SEnv} {Z : EndsD} {pos px py pz tp tp2 dp1 dp2 bp lp : Pos} {x y z : Str} {i j l k k2 jj : Nat} {e : Expr} {d : D}
theorem own_apart {K : PySem.W.Frag} {Hc0 H0 Hc H : Hp} {σ : L2.St} (q : DSc K Hc0 H0 Hc σ H env) {p : Addr} (hn : H p = none) (t : Nat) (es : D) (e1 : env[t]? = some (some (.own es))) (e2 : σ[t]? = some (some (.ref p))) : False := by
  obtain ⟨b, zs, h1, h2, h3, h4, h5⟩ := q.own t es e1
  rw [h1] at e2
  cases e2
  rw [hn] at h4
  cases h4
/-- x, y, z = {}, True, {} -/
theorem sv_par3N {bv : Bool} (hc : X.calm = true) (hN : X.N.Nodup) (hi : X.N[i]? = some x) (hj : X.N[j]? = some y) (hl : X.N[l]? = some z) (hx : Loc X.env.scope x) (hy : Loc X.env.scope y) (hz : Loc X.env.scope z) (hij : i ≠ j) (hil : i ≠ l) (hjl : j ≠ l)
    (h : Z.nx (((env.set i (some (.own (mkN X.w [])))).set j (some (.dat (.bool bv)))).set l (some (.own (mkN X.w [])))))
    (hs : swapsWithSole [.Tuple [.Name x px, .Name y py, .Name z pz] k tp] (.Tuple [.Dict [] [] dp1, .Constant (.bool bv) jj bp, .Dict [] [] dp2] k2 tp2) pos.line X.env = pure false := by rfl)
    (hw : swappedStores [.Tuple [.Name x px, .Name y py, .Name z pz] k tp] (.Tuple [.Dict [] [] dp1, .Constant (.bool bv) jj bp, .Dict [] [] dp2] k2 tp2) X.env = pure none := by rfl)
    (h1 : (assignEach [.Tuple [.Name x px, .Name y py, .Name z pz] k tp] X.env).map (·.2) = [assign (.Tuple [.Name x px, .Name y py, .Name z pz] k tp) X.env] := by rfl)
    (hn : (assignEach [.Name x px, .Name y py, .Name z pz] X.env).length = 3 := by rfl) (hst : (assignEach [.Name x px, .Name y py, .Name z pz] X.env).findIdx? (·.1) = none := by rfl)
    (s1 : (assignEach [.Name x px, .Name y py, .Name z pz] X.env).map (·.2) = assign (.Name x px) X.env :: (assignEach [.Name y py, .Name z pz] X.env).map (·.2) := by rfl)
    (s2 : (assignEach [.Name y py, .Name z pz] X.env).map (·.2) = assign (.Name y py) X.env :: (assignEach [.Name z pz] X.env).map (·.2) := by rfl)
    (s3 : (assignEach [.Name z pz] X.env).map (·.2) = assign (.Name z pz) X.env :: (assignEach [] X.env).map (·.2) := by rfl)
    (f1 : X.fn x = true ∨ X.env.scope.names.lookup x = some .local := by first | exact .inl rfl | exact .inr rfl) (f2 : X.fn y = true ∨ X.env.scope.names.lookup y = some .local := by first | exact .inl rfl | exact .inr rfl) (f3 : X.fn z = true ∨ X.env.scope.names.lookup z = some .local := by first | exact .inl rfl | exact .inr rfl) :
    SV X (.Assign [.Tuple [.Name x px, .Name y py, .Name z pz] k tp] (.Tuple [.Dict [] [] dp1, .Constant (.bool bv) jj bp, .Dict [] [] dp2] k2 tp2) pos) Z env := fun Hc0 H0 σ H ⟨Hc, q⟩ => by
  refine ws_of (ps_asg (pe_tup (pa_cons pe_dnewN (pa_cons pe_bl (pa_cons pe_dnewN pa_nil)))) (pg_tup hc (pgs_cons (pg_name hN hi hx f1) (pgs_cons (pg_name hN hj hy f2) (pgs_cons (pg_name hN hl hz f3) pgs_nil s3) s2) s1) hn hst) hs hw h1) ?_
  intro p1 n1 p2 n2
  refine ⟨by show 3 ≤ sizeLine; decide, fun T nT => ?_⟩
  refine ⟨T, _, rfl, .inl (.inl upd_same), rfl, _, _, rfl, _, _, rfl, _, _, rfl, rfl, ?_⟩
  have ne : p2 ≠ p1 := fun e => by rw [e, upd_same] at n2; cases n2
  have n2' : H p2 = none := by rw [upd_ne ne] at n2; exact n2
  have g1 := Grow.ownO (o := nstO p1 0 []) q.gr.cor n1 id
  have g2 := Grow.ownO (o := nstO p2 0 []) g1.cor n2 id
  have g3 := Grow.new (o := .tup [.ref p1, .bl bv, .ref p2]) g2.cor nT
  have neT1 : p1 ≠ T := fun e => by rw [← e, upd_ne (Ne.symm ne), upd_same] at nT; cases nT
  have neT2 : p2 ≠ T := fun e => by rw [← e, upd_same] at nT; cases nT
  have q3 := ((q.grow g1).grow g2).grow g3
  have hc1 : Hc p1 = none := q.gr.cor.sub.free n1
  have hc2 : Hc p2 = none := q.gr.cor.sub.free n2'
  have a1 := q3.setOwn i (a := p1) (o := nstO p1 0 []) (d := mkN X.w []) (q.gr.hh.free n1) (by rw [upd_ne neT1]; exact hc1) (by rw [upd_ne neT1, upd_ne (Ne.symm ne), upd_same]) (.nst .nil) fun t es e1 e2 => (own_apart q n1 t es e1 e2).elim
  have a2 := a1.setDat j (L2.Dp.bl bv).q
  have a3 := a2.setOwn l (a := p2) (o := nstO p2 0 []) (d := mkN X.w []) (q.gr.hh.free n2') (by rw [upd_ne neT2]; exact hc2) (by rw [upd_ne neT2, upd_same]) (.nst .nil) fun t es e1 e2 => by
    rcases set_at e1 with ⟨rfl, _, z⟩ | ⟨hne, e1⟩
    · cases z
    · rw [List.getElem?_set_ne (Ne.symm hne)] at e2
      rcases set_at e1 with ⟨rfl, hlt, z⟩ | ⟨hne2, e1⟩
      · have hl2 : t < σ.length := by have := q.len; omega
        rw [List.getElem?_set_self hl2] at e2
        cases e2
        exact (ne rfl).elim
      · rw [List.getElem?_set_ne (Ne.symm hne2)] at e2
        exact (own_apart q n2' t es e1 e2).elim
  exact ⟨_, ⟨_, a3⟩, h⟩
/-- x, y = e, [] -/
theorem sv_parDL (hc : X.calm = true) (hN : X.N.Nodup) (hi : X.N[i]? = some x) (hj : X.N[j]? = some y) (hx : Loc X.env.scope x) (hy : Loc X.env.scope y) (hij : i ≠ j) (he : EVd X e (vis env) d)
    (h : Z.nx ((env.set i (some (.dat d))).set j (some (.own (.list [])))))
    (hs : swapsWithSole [.Tuple [.Name x px, .Name y py] k tp] (.Tuple [e, .List [] lp] k2 tp2) pos.line X.env = pure false := by rfl)
    (hw : swappedStores [.Tuple [.Name x px, .Name y py] k tp] (.Tuple [e, .List [] lp] k2 tp2) X.env = pure none := by rfl)
    (h1 : (assignEach [.Tuple [.Name x px, .Name y py] k tp] X.env).map (·.2) = [assign (.Tuple [.Name x px, .Name y py] k tp) X.env] := by rfl)
    (hn : (assignEach [.Name x px, .Name y py] X.env).length = 2 := by rfl) (hst : (assignEach [.Name x px, .Name y py] X.env).findIdx? (·.1) = none := by rfl)
    (s1 : (assignEach [.Name x px, .Name y py] X.env).map (·.2) = assign (.Name x px) X.env :: (assignEach [.Name y py] X.env).map (·.2) := by rfl)
    (s2 : (assignEach [.Name y py] X.env).map (·.2) = assign (.Name y py) X.env :: (assignEach [] X.env).map (·.2) := by rfl)
    (t1 : starEach [e, .List [] lp] X.env = (false, eval e X.env) :: starEach [.List [] lp] X.env := by rfl)
    (f1 : X.fn x = true ∨ X.env.scope.names.lookup x = some .local := by first | exact .inl rfl | exact .inr rfl) (f2 : X.fn y = true ∨ X.env.scope.names.lookup y = some .local := by first | exact .inl rfl | exact .inr rfl) :
    SV X (.Assign [.Tuple [.Name x px, .Name y py] k tp] (.Tuple [e, .List [] lp] k2 tp2) pos) Z env := fun Hc0 H0 σ H ⟨Hc, q⟩ => by
  refine ws_of (ps_asg (pe_tup (pa_cons pe_w (pa_cons (pe_lst pa_nil) pa_nil) t1)) (pg_tup hc (pgs_cons (pg_name hN hi hx f1) (pgs_cons (pg_name hN hj hy f2) pgs_nil s2) s1) hn hst) hs hw h1) ?_
  refine he Hc σ H q.x _ fun v Hc1 H1 g p => ?_
  refine ⟨Nat.zero_le _, fun p2 n2 => ?_⟩
  refine ⟨by show 2 ≤ sizeLine; decide, fun T nT => ?_⟩
  refine ⟨T, _, rfl, .inl (.inl upd_same), rfl, _, _, rfl, _, _, rfl, rfl, ?_⟩
  have q1 := q.grow g
  have g2 := Grow.ownO (o := .lst []) q1.gr.cor n2 id
  have g3 := Grow.new (o := .tup [v, .ref p2]) g2.cor nT
  have neT2 : p2 ≠ T := fun e => by rw [← e, upd_same] at nT; cases nT
  have q3 := (q1.grow g2).grow g3
  have hc2 : Hc1 p2 = none := q1.gr.cor.sub.free n2
  have a1 := q3.setDat i (p.same g3.cc)
  have a3 := a1.setOwn j (a := p2) (o := .lst []) (d := .list []) (q1.gr.hh.free n2) (by rw [upd_ne neT2]; exact hc2) (by rw [upd_ne neT2, upd_same]) (.lst .nil) fun t es e1 e2 => by
    rcases set_at e1 with ⟨rfl, _, z⟩ | ⟨hne, e1⟩
    · cases z
    · rw [List.getElem?_set_ne (Ne.symm hne)] at e2
      exact (own_apart q1 n2 t es e1 e2).elim
  exact ⟨_, ⟨_, a3⟩, h⟩
end
end DL
set_option Elab.async false
set_option linter.all false
set_option maxRecDepth 100000
set_option maxHeartbeats 1000000
set_option autoImplicit false
/-! DN7: == and != of data of any depth beside a shallow one -/
namespace DL
open PySem PySem.Spec PyProof.Rows L2
section
variable {X : Cx} {env : DEnv} {a b : Expr} {d1 d2 : D}
theorem lay0_is {d : D} (h : d.canLay0 = true) : isD d = true := by
  cases d with
  | dict kvs => simp [PyData.canLay0] at h
  | _ => rfl
theorem op_neR : OpR X (compareOp .NotEq) (fun x y H Q => ∃ d e, Dp X.K H x d ∧ Dp X.K H y e ∧ d.canLay0 = true ∧ e.canLay0 = true ∧ X.A.units + min d.depth e.depth < cLine ∧ Q (.bl (!PyData.eqv d e)) H) := by
  intro pins s σ H x y v u Q I rx ry h
  obtain ⟨d, e, hd, he, sd, se, hu, q⟩ := h
  obtain ⟨as, r1⟩ := Dp.reads I d x v hd rx
  obtain ⟨bs, r2⟩ := Dp.reads I e y u he ry
  exact SeqAt.compareNe_reads r1 r2 sd se hu ⟨.bl _, H, I, rfl, q⟩
theorem op_eqR : OpR X (compareOp .Eq) (fun x y H Q => ∃ d e, Dp X.K H x d ∧ Dp X.K H y e ∧ d.canLay0 = true ∧ e.canLay0 = true ∧ X.A.units + min d.depth e.depth < cLine ∧ Q (.bl (PyData.eqv d e)) H) := by
  intro pins s σ H x y v u Q I rx ry h
  obtain ⟨d, e, hd, he, sd, se, hu, q⟩ := h
  obtain ⟨as, r1⟩ := Dp.reads I d x v hd rx
  obtain ⟨bs, r2⟩ := Dp.reads I e y u he ry
  exact SeqAt.compareEq_reads r1 r2 sd se hu ⟨.bl _, H, I, rfl, q⟩
theorem ec_neR (ha : EVd X a env d1) (hb : EVd X b env d2) (s1 : d1.canLay0 = true) (s2 : d2.canLay0 = true) (hu : X.A.units + min d1.depth d2.depth < cLine) : EVc X .NotEq a b env (!PyData.eqv d1 d2) :=
  ec_of op_neR ha hb nomk fun x y Hc H c p1 p2 Q q => ⟨d1, d2, cs_same c (p1.p (lay0_is s1)), cs_same c (p2.p (lay0_is s2)), s1, s2, hu, q⟩
theorem ec_eqR (ha : EVd X a env d1) (hb : EVd X b env d2) (s1 : d1.canLay0 = true) (s2 : d2.canLay0 = true) (hu : X.A.units + min d1.depth d2.depth < cLine) : EVc X .Eq a b env (PyData.eqv d1 d2) :=
  ec_of op_eqR ha hb nomk fun x y Hc H c p1 p2 Q q => ⟨d1, d2, cs_same c (p1.p (lay0_is s1)), cs_same c (p2.p (lay0_is s2)), s1, s2, hu, q⟩
end
end DL
set_option Elab.async false
set_option linter.all false
set_option maxRecDepth 100000
set_option maxHeartbeats 1000000
set_option autoImplicit false
namespace Tr
open PySem PySem.Spec PyProof.Rows L2 DL
section
variable {X : Cx} {pos : Pos} {senv : SEnv} {Z : EndsD} {α : Type} {xs : List α} {iter elt : Expr} {scope : Scope} {enc : α → D} {own : List (Str × Nat)}
/-- y = [elt for a in iter] -/
theorem s_map1 {i j : Nat} {px py spos : Pos} {x y : Str} (g : α → D) (nd : X.N.Nodup) (hy : X.N[i]? = some y) (ok : BlkOk X.N X.env.scope scope [(x, j)]) (hc : X.calm = true)
    (hi : IV X (.Name x px) iter (vis senv) (xs.map enc)) (hz : xs.length ≤ sizeLine) (hg : Blk X scope fun Y => ∀ (d : D) (env : DEnv), GV Y (.Name x px) d env (env.set j (some d)) [j])
    (turn : ∀ a, a ∈ xs → Blk X scope fun Y => EVd Y elt ((wipeE (vis senv) [j]).set j (some (enc a))) (g a)) (hD : ∀ a, isD (g a) = true)
    (h : Z.nx (senv.set i (some (.dat (.list (xs.map g)))))) (hyl : X.env.scope.names.lookup y = some .local := by rfl)
    (hsw : swapsWith (.ListComp elt [⟨.Name x px, iter, [], 0⟩] scope pos) (some (.Name y py)) spos.line X.env = pure true := by rfl) (hf : ∀ x, foldedSetIterable iter X.env x = pure x := by intro _; rfl) :
    SV X (.Assign [.Name y py] (.ListComp elt [⟨.Name x px, iter, [], 0⟩] scope pos) spos) Z senv := by
  refine sv_setLc (fun a => some (g a)) hc nd hy hyl hsw ok hi hz (fun a ha => ⟨(wipeE (vis senv) [j]).set j (some (enc a)), [j], fun j hj => hj, fun s H C cl fp => hg s H C cl fp _ _, fun s H C cl fp => ets_nil, fun y e s H C cl fp => by
      cases e
      exact ⟨turn a ha s H C cl fp, hD a⟩⟩) ?_ hf
  rw [List.filterMap_eq_map']
  exact h
theorem s_mapT {i : Nat} {is : List Nat} {elts : List Expr} {kk : Nat} {tp py spos : Pos} {y : Str} {encs : α → List D} (g : α → D) (nd : X.N.Nodup) (hy : X.N[i]? = some y) (ok : BlkOk X.N X.env.scope scope own) (hj : ∀ j ∈ is, j ∈ own.map (·.2)) (hc : X.calm = true)
    (hi : IV X (.Tuple elts kk tp) iter (vis senv) (xs.map fun a => .tuple (encs a))) (hz : xs.length ≤ sizeLine)
    (hl : ∀ a, (encs a).length = is.length) (hg : Blk X scope fun Y => ∀ (ds : List D) (env : DEnv), ds.length = is.length → GV Y (.Tuple elts kk tp) (.tuple ds) env (setE env is ds) is)
    (turn : ∀ a, a ∈ xs → Blk X scope fun Y => EVd Y elt (setE (wipeE (vis senv) (own.map (·.2))) is (encs a)) (g a)) (hD : ∀ a, isD (g a) = true)
    (h : Z.nx (senv.set i (some (.dat (.list (xs.map g)))))) (hyl : X.env.scope.names.lookup y = some .local := by rfl)
    (hsw : swapsWith (.ListComp elt [⟨.Tuple elts kk tp, iter, [], 0⟩] scope pos) (some (.Name y py)) spos.line X.env = pure true := by rfl) (hf : ∀ x, foldedSetIterable iter X.env x = pure x := by intro _; rfl) :
    SV X (.Assign [.Name y py] (.ListComp elt [⟨.Tuple elts kk tp, iter, [], 0⟩] scope pos) spos) Z senv := by
  refine sv_setLc (fun a => some (g a)) hc nd hy hyl hsw ok hi hz (fun a ha => ⟨setE (wipeE (vis senv) (own.map (·.2))) is (encs a), is, hj, fun s H C cl fp => hg s H C cl fp _ _ (hl a), fun s H C cl fp => ets_nil, fun y e s H C cl fp => by
      cases e
      exact ⟨turn a ha s H C cl fp, hD a⟩⟩) ?_ hf
  rw [List.filterMap_eq_map']
  exact h
end
def StOk (v : Wd) (s : Stt) : Prop := s.codes.length = (names v).length ∧ ∀ c ∈ s.codes, c ≤ 2
def planD (is : List Inst) : D := .tuple [.str "trees", encIs is, .int 0]
theorem noL_codD (l : List Nat) : noLs (codD l) = true := by
  induction l with
  | nil => rfl
  | cons x l ih => unfold codD at ih ⊢; rw [List.map_cons, noLs, ih]; rfl
theorem lay_names {v : Wd} (ok : OkW v) : lay (.list ((names v).map PyData.str)) = true := lay_listM (n := 0) (fun x hx => ⟨by
  unfold names at hx
  obtain ⟨t, ht, rfl⟩ := List.mem_map.mp hx
  exact str_lay (ok.st t ht).1, by simp [PyData.depth]⟩) (by decide)
theorem lay_name {v : Wd} (ok : OkW v) {x : Str} (hx : x ∈ names v) : lay (.str x) = true := by
  unfold names at hx
  obtain ⟨t, ht, rfl⟩ := List.mem_map.mp hx
  exact lay_of (str_lay (ok.st t ht).1) (by simp [PyData.depth])
theorem min_int (n : Nat) : (if ((n : Nat) : Int) < 2 then ((n : Nat) : Int) else 2) = ((min 2 n : Nat) : Int) := by
  split <;> omega
theorem codeAt_le {v : Wd} {sts : List Stt} (h : ∀ s ∈ sts, StOk v s) (nm : List Str) (a : Str × Nat) : codeAt nm sts a ≤ 2 := by
  unfold codeAt
  cases e : sts[a.2]? with
  | none => exact Nat.zero_le _
  | some s =>
    show (s.codes[nm.idxOf a.1]?).getD 0 ≤ 2
    cases e2 : s.codes[nm.idxOf a.1]? with
    | none => exact Nat.zero_le _
    | some c => exact (h s (List.mem_of_getElem? e)).2 c (List.mem_of_getElem? e2)
section
variable {P : Program} {w : World} {K : PySem.W.Frag} {mg : Str → Option Value} {base : Heap}
def spCode (ds : List D) (r : D) : Prop := ∃ (v : Wd) (is : List Inst) (t root : Str) (sts : List Stt), OkW v ∧ (∀ i ∈ is, OkI v i) ∧ is.length ≤ 8 ∧ arC v.cs root = some sts.length ∧ (∀ s ∈ sts, StOk v s) ∧ sts.length ≤ 2 ∧
  ds = [planD is, .int 0, .tuple [.list ((names v).map .str), .str t], .str root, .tuple (sts.map encSt)] ∧ r = .int (codeM (names v) is t root sts : Nat)
abbrev N_code_of : List Str := ["plan", "place", "trait", "root", "states", "how", "instances", "many", "roots", "number", "found", "one", "codes", "trees", "code", "state", "other", "part"]
theorem sc_code_of : FnScope N_code_of ["plan", "place", "trait", "root", "states"] (defScope (top 58)) := ⟨rfl, rfl, rfl, by decide +kernel, rfl, by decide +kernel, by decide +kernel⟩
theorem ok_code_of (B : Blt mg) (D1 : DefD P w K mg base "fits_roots" 1 ["instance", "root", "roots"] spFitR) (F : Has K mg "code_of" (top 58)) : DefD P w K mg base "code_of" 2 ["plan", "place", "trait", "root", "states"] spCode := by
  refine def_mk F (fun _ _ _ _ _ _ us hl => match us, hl with | [_, _, _, _, _], _ => rfl) fun f fd F => fn_D F sc_code_of (fun ds d h => ?_) fun cdv A outer s H E ds d h hr => ?_
  · obtain ⟨v, is, t, root, sts, _, _, _, _, _, _, rfl, _⟩ := h
    rfl
  · obtain ⟨v, is, t, root, sts, ok, oa, hl, har, hst, hs2, rfl, rfl⟩ := h
    refine sv_cons (sv_unpack rfl (tgs_cons (fun _ => t_one 5 sc_code_of.nd) (tgs_cons (fun _ => t_one 6 sc_code_of.nd) (tgs_cons (fun _ => t_one 7 sc_code_of.nd) tgs_nil))) (ev_v 0 rfl) rfl rfl ?_)
    refine sv_cons (s_map1 (xs := sts) (enc := encSt) (i := 8) (j := 15) (fun s => .str s.root) sc_code_of.nd rfl (blkOk_by (N := N_code_of) (sc := defScope (top 58)) (by decide +kernel)) rfl (iv_tup (ev_v 4 rfl)) (Nat.le_trans hs2 (by decide)) (fun _ _ _ _ _ => g_one 15 sc_code_of.nd) (fun s _ _ _ _ _ _ => ev_ixT (ev_v 15 rfl) ev_int rfl) (fun _ => rfl) ?_)
    refine sv_cons (sv_skip (c_eqFS (ev_v 5 rfl) ev_str (by decide)) ?_)
    refine sv_cons (s_set 10 sc_code_of.nd ev_int ?_)
    refine sv_cons (sv_for (xs := is.zipIdx) (enc := fun p => .tuple (encN p)) (t := .tup [9, 11]) (fun n env' => ∃ a b c d e, env' = [some (.dat (planD is)), some (.dat (.int 0)), some (.dat (.tuple [.list ((names v).map .str), .str t])), some (.dat (.str root)), some (.dat (.tuple (sts.map encSt))), some (.dat (.str "trees")), some (.dat (encIs is)), some (.dat (.int 0)), some (.dat (.list (sts.map fun s => .str s.root))), a, some (.dat (.int ((is.take n).foldl (codeStep (names v) t root sts) 0 : Nat))), b, c, d, e, none, none, none]) PassesOwn.never rfl
      (w_enumT (xs := is) B (ev_v 6 rfl)) ⟨none, none, none, none, none, rfl⟩ (fun p => tg_tup rfl (tgs_cons (fun _ => t_one 9 sc_code_of.nd) (tgs_cons (fun _ => t_one 11 sc_code_of.nd) tgs_nil)) rfl rfl) ?_ ?_)
    · rintro n ⟨i, jx⟩ _ hn ⟨a, b, c, d, e, rfl⟩
      have hni : is[n]? = some i := by
        rw [List.getElem?_zipIdx] at hn
        obtain ⟨z, hz, e⟩ := Option.map_eq_some_iff.mp hn
        cases e
        exact hz
      have oi := oa i (List.mem_of_getElem? hni)
      have hstep : (is.take (n + 1)).foldl (codeStep (names v) t root sts) 0 = codeStep (names v) t root sts ((is.take n).foldl (codeStep (names v) t root sts) 0) i := by
        rw [take_at hni, List.foldl_append]
        rfl
      have hacc := codeM_le (names v) t root sts (is.take n) 0 (by decide)
      generalize (is.take n).foldl (codeStep (names v) t root sts) 0 = acc at hstep hacc
      by_cases hc : (decide (i.tr = t) && fitR i root (sts.map Stt.root)) = true
      · have hct : i.tr = t := by rw [Bool.and_eq_true] at hc; exact of_decide_eq_true hc.1
        have hcf : fitR i root (sts.map Stt.root) = true := by rw [Bool.and_eq_true] at hc; exact hc.2
        have hroot : i.root = root := by unfold fitR at hcf; rw [Bool.and_eq_true] at hcf; exact of_decide_eq_true hcf.1
        have hlen : i.lims.length = sts.length := by
          have := oi.ar
          rw [hroot, har] at this
          exact (Option.some.inj this).symm
        have hst2 : codeStep (names v) t root sts acc i = min 2 (acc + treesM (names v) sts i.asks) := by unfold codeStep; rw [if_pos hc]
        refine sv_one (sv_then (tE (w_andT (c_eqTS (ev_ixT (ev_v 11 rfl) ev_int rfl) (ev_ixT (ev_v 2 rfl) ev_int rfl) hct) (ew_and1 (tV (bV (ev_call D1 (hr.mono (by decide)) rfl (eq_cons (ev_v 11 rfl) (eq_cons (ev_v 3 rfl) (eq_cons (ev_v 8 rfl) eq_nil))) ⟨i, root, sts.map Stt.root, oi.n2, by rw [List.map_map]; rfl, rfl⟩) hcf))))) ?_)
        refine sv_cons (s_mapT (xs := i.asks) (i := 12) (is := [16, 17]) (own := [("other", 16), ("part", 17)]) (encs := encAL) (fun a => .int (codeAt (names v) sts a : Nat)) sc_code_of.nd rfl (blkOk_by (N := N_code_of) (sc := defScope (top 58)) (by decide +kernel)) (by decide) rfl (iv_tup (ev_ixT (ev_v 11 rfl) ev_int rfl)) (Nat.le_trans oi.al (by decide)) (fun _ => rfl) (fun _ _ _ _ _ => g_two rfl (g_one 16 sc_code_of.nd) (g_one 17 sc_code_of.nd))
          (fun a ha _ _ _ _ _ => ?_) (fun _ => rfl) ?_)
        · obtain ⟨h1, h2⟩ := oi.aa a ha
          rw [hlen] at h1
          have e1 : sts[a.2]? = some sts[a.2] := List.getElem?_eq_getElem h1
          have h3 := List.idxOf_lt_length_of_mem h2
          have hso := hst _ (List.getElem_mem h1)
          rw [← hso.1] at h3
          have e2 : (sts[a.2]).codes[(names v).idxOf a.1]? = some (sts[a.2]).codes[(names v).idxOf a.1] := List.getElem?_eq_getElem h3
          have e3 : codeAt (names v) sts a = (sts[a.2]).codes[(names v).idxOf a.1] := by
            unfold codeAt
            rw [e1]
            show ((sts[a.2]).codes[(names v).idxOf a.1]?).getD 0 = _
            rw [e2]
            rfl
          rw [e3]
          exact ev_ixT (ev_ixT (ev_ixT (ev_ixT (d := encSt sts[a.2]) (ev_v 4 rfl) (ev_v 17 rfl) (atI_nat (j := a.2) (by rw [List.getElem?_map, e1]; rfl))) ev_int rfl) (ev_v 1 rfl) rfl) (ev_index (hr.u 65) (ev_ixT (ev_v 2 rfl) ev_int rfl) (ev_v 16 rfl) h2 (lay_names ok) (lay_name ok h2)) (atI_nat (j := (names v).idxOf a.1) (by unfold codD; rw [List.getElem?_map, e2]; rfl))
        refine sv_one (sv_then (c_eqTS (ev_v 5 rfl) ev_str rfl) ?_)
        refine sv_cons (s_set 13 sc_code_of.nd ev_int ?_)
        refine sv_cons (sv_for (xs := i.asks) (enc := fun a => .int (codeAt (names v) sts a : Nat)) (t := .one 14) (fun m env' => ∃ e, env' = [some (.dat (planD is)), some (.dat (.int 0)), some (.dat (.tuple [.list ((names v).map .str), .str t])), some (.dat (.str root)), some (.dat (.tuple (sts.map encSt))), some (.dat (.str "trees")), some (.dat (encIs is)), some (.dat (.int 0)), some (.dat (.list (sts.map fun s => .str s.root))), some (.dat (.int (jx : Nat))), some (.dat (.int (acc : Nat))), some (.dat (encI i)), some (.dat (.list (i.asks.map fun a => .int (codeAt (names v) sts a : Nat)))), some (.dat (.int (treesM (names v) sts (i.asks.take m) : Nat))), e, none, none, none]) PassesOwn.never rfl
          (iv_list (ev_v 12 rfl)) ⟨e, rfl⟩ (fun _ => t_one 14 sc_code_of.nd) ?_ ?_)
        · rintro m a2 _ hm ⟨e, rfl⟩
          have ht2 : treesM (names v) sts (i.asks.take (m + 1)) = min 2 (treesM (names v) sts (i.asks.take m) * codeAt (names v) sts a2) := by
            unfold treesM
            rw [take_at hm, List.foldl_append]
            rfl
          have hle := treesM_le (names v) sts (i.asks.take m) 1 (by decide)
          have hle : treesM (names v) sts (i.asks.take m) ≤ 2 := hle
          refine sv_one (s_set (d := .int (min 2 (treesM (names v) sts (i.asks.take m) * codeAt (names v) sts a2) : Nat)) 13 sc_code_of.nd (EVd.is (ev_min rfl ev_int (ev_mul (ev_v 13 rfl) (ev_v 14 rfl) (.inl ⟨by omega, by omega⟩)) rfl B.min) (congrArg PyData.int ?_)) ⟨some (.dat (.int (codeAt (names v) sts a2 : Nat))), ?_⟩)
          · rw [← Int.natCast_mul]
            exact min_int _
          · rw [ht2]
            rfl
        · rintro _ ⟨e, rfl⟩
          rw [List.take_length]
          refine sv_one (s_set (d := .int (min 2 (acc + treesM (names v) sts i.asks) : Nat)) 10 sc_code_of.nd (EVd.is (ev_min rfl ev_int (ev_add (ev_v 10 rfl) (ev_v 13 rfl)) rfl B.min) (congrArg PyData.int ?_)) ⟨some (.dat (.int (jx : Nat))), some (.dat (encI i)), some (.dat (.list (i.asks.map fun a => .int (codeAt (names v) sts a : Nat)))), some (.dat (.int (treesM (names v) sts i.asks : Nat))), e, ?_⟩)
          · rw [← Int.natCast_add]
            exact min_int _
          · rw [hstep, hst2]
            rfl
      · have hst2 : codeStep (names v) t root sts acc i = acc := by unfold codeStep; rw [if_neg hc]
        have fin : ∀ env', env' = [some (.dat (planD is)), some (.dat (.int 0)), some (.dat (.tuple [.list ((names v).map .str), .str t])), some (.dat (.str root)), some (.dat (.tuple (sts.map encSt))), some (.dat (.str "trees")), some (.dat (encIs is)), some (.dat (.int 0)), some (.dat (.list (sts.map fun s => .str s.root))), some (.dat (.int (jx : Nat))), some (.dat (.int (acc : Nat))), some (.dat (encI i)), c, d, e, none, none, none] → ∃ a b c d e, env' = [some (.dat (planD is)), some (.dat (.int 0)), some (.dat (.tuple [.list ((names v).map .str), .str t])), some (.dat (.str root)), some (.dat (.tuple (sts.map encSt))), some (.dat (.str "trees")), some (.dat (encIs is)), some (.dat (.int 0)), some (.dat (.list (sts.map fun s => .str s.root))), a, some (.dat (.int ((is.take (n + 1)).foldl (codeStep (names v) t root sts) 0 : Nat))), b, c, d, e, none, none, none] := fun env' e => by
          rw [hstep, hst2, e]
          exact ⟨_, _, _, _, _, rfl⟩
        by_cases hct : i.tr = t
        · have hcf : fitR i root (sts.map Stt.root) = false := by
            rw [decide_eq_true hct, Bool.true_and] at hc
            cases q : fitR i root (sts.map Stt.root) with
            | false => rfl
            | true => exact absurd q hc
          exact sv_one (sv_skip (tE (w_andT (c_eqTS (ev_ixT (ev_v 11 rfl) ev_int rfl) (ev_ixT (ev_v 2 rfl) ev_int rfl) hct) (ew_and1 (tV (bV (ev_call D1 (hr.mono (by decide)) rfl (eq_cons (ev_v 11 rfl) (eq_cons (ev_v 3 rfl) (eq_cons (ev_v 8 rfl) eq_nil))) ⟨i, root, sts.map Stt.root, oi.n2, by rw [List.map_map]; rfl, rfl⟩) hcf))))) (fin _ rfl))
        · exact sv_one (sv_skip (tE (w_andF (c_eqFS (ev_ixT (ev_v 11 rfl) ev_int rfl) (ev_ixT (ev_v 2 rfl) ev_int rfl) hct))) (fin _ rfl))
    · rintro _ ⟨a, b, c, d, e, rfl⟩
      rw [List.length_zipIdx, List.take_length]
      exact sv_one (sv_ret (ev_v 10 rfl) rfl)
def spAfter (ds : List D) (r : D) : Prop := ∃ (v : Wd) (is : List Inst) (root : Str) (sts : List Stt), OkW v ∧ (∀ i ∈ is, OkI v i) ∧ is.length ≤ 8 ∧ arC v.cs root = some sts.length ∧ (∀ s ∈ sts, StOk v s) ∧ sts.length ≤ 2 ∧
  ds = [W v, .list [planD is], .str root, .tuple (sts.map encSt)] ∧ r = encSt (stateM v is root sts)
abbrev N_state_after : List Str := ["world", "plans", "root", "states", "names", "rows", "place", "plan", "name"]
theorem sc_state_after : FnScope N_state_after ["world", "plans", "root", "states"] (defScope (top 59)) := ⟨rfl, rfl, rfl, by decide +kernel, rfl, by decide +kernel, by decide +kernel⟩
theorem ok_state_after (B : Blt mg) (D1 : DefD P w K mg base "code_of" 2 ["plan", "place", "trait", "root", "states"] spCode) (D2 : DefD P w K mg base "trait_names" 1 ["world"] spNames) (F : Has K mg "state_after" (top 59)) : DefD P w K mg base "state_after" 3 ["world", "plans", "root", "states"] spAfter := by
  refine def_mk F (fun _ _ _ _ _ _ us hl => match us, hl with | [_, _, _, _], _ => rfl) fun f fd F => fn_D F sc_state_after (fun ds d h => ?_) fun cdv A outer s H E ds d h hr => ?_
  · obtain ⟨v, is, root, sts, _, _, _, _, _, _, rfl, _⟩ := h
    rfl
  · obtain ⟨v, is, root, sts, ok, oa, hl, har, hst, hs2, rfl, rfl⟩ := h
    have hnm : (names v).length ≤ 4 := by unfold names; rw [List.length_map]; exact ok.t4
    refine sv_cons (s_set 4 sc_state_after.nd (ev_call D2 (hr.mono (by decide)) rfl (eq_cons (ev_v 0 rfl) eq_nil) ⟨_, ok.t4, rfl, rfl⟩) ?_)
    refine sv_cons (s_setN 5 sc_state_after.nd (ev_lst ea_nil (Nat.zero_le _)) rfl ?_)
    refine sv_cons (sv_for (xs := [planD is].zipIdx) (enc := fun p => .tuple [.int (p.2 : Nat), p.1]) (t := .tup [6, 7]) (fun n env' => ∃ a b, env' = [some (.dat (W v)), some (.dat (.list [planD is])), some (.dat (.str root)), some (.dat (.tuple (sts.map encSt))), some (.dat (.list ((names v).map .str))), some (.own (.list (List.replicate n (.tuple (codD (stateM v is root sts).codes))))), a, b, none]) PassesOwn.never rfl
      (w_enumL (xs := [planD is]) (f := fun d => d) B (ev_v 1 rfl)) ⟨none, none, rfl⟩ (fun p => tg_tup rfl (tgs_cons (fun _ => t_one 6 sc_state_after.nd) (tgs_cons (fun _ => t_one 7 sc_state_after.nd) tgs_nil)) rfl rfl) ?_ ?_)
    · rintro n ⟨pl, jx⟩ _ hn ⟨a, b, rfl⟩
      have hn0 : n = 0 ∧ pl = planD is ∧ jx = 0 := by
        cases n with
        | zero => simp at hn; exact ⟨rfl, hn.1.symm, hn.2.symm⟩
        | succ n => simp at hn
      obtain ⟨rfl, rfl, rfl⟩ := hn0
      refine sv_one (sv_append (pe_bm PySem.F.plainAttrs_list PySem.F.slot_list_append PySem.F.type_list_append mt_append (pv 5) (pa_cons pe_w pa_nil)) rfl (d := .tuple (codD (stateM v is root sts).codes)) (EVd.is (ev_tuple (EVn.toD (en_map1 (xs := names v) (enc := PyData.str) (i := 8) (fun t => .int (codeM (names v) is t root sts : Nat)) sc_state_after.nd (blkOk_by (N := N_state_after) (sc := defScope (top 59)) (by decide +kernel)) rfl (iv_list (ev_v 4 rfl)) (Nat.le_trans hnm (by decide)) (fun _ _ _ _ _ => g_one 8 sc_state_after.nd)
        (fun t _ _ _ _ _ _ => ?_) (fun _ => rfl))) rfl rfl B.tuple) ?_) (noL_codD _) (show 0 < sizeLine by decide) ⟨some (.dat (.int 0)), some (.dat (planD is)), rfl⟩)
      · exact ev_call D1 (hr.mono (by decide)) rfl (eq_cons (ev_v 7 rfl) (eq_cons (ev_v 6 rfl) (eq_cons (ev_tup (ea_cons (ev_v 4 rfl) (ea_cons (ev_v 8 rfl) ea_nil)) (Nat.le_of_ble_eq_true rfl)) (eq_cons (ev_v 2 rfl) (eq_cons (ev_v 3 rfl) eq_nil))))) ⟨v, is, t, root, sts, ok, oa, hl, har, hst, hs2, rfl, rfl⟩
      · congr 1
        unfold codD stateM
        rw [List.map_map]
        rfl
    · rintro _ ⟨a, b, rfl⟩
      exact sv_one (sv_ret (ev_tup (ea_cons (ev_v 2 rfl) (ea_cons (ev_tuple (ev_v 5 rfl) rfl rfl B.tuple) ea_nil)) (Nat.le_of_ble_eq_true rfl)) rfl)
def spRows (ds : List D) (r : D) : Prop := ∃ (known : List Stt) (n : Nat), n ≤ 2 ∧ known.length ≤ 108 ∧ ds = [.list (known.map encSt), .int (n : Nat)] ∧ r = .list ((rowsM known n).map fun l => .tuple (l.map encSt))
abbrev N_rows_of : List Str := ["known", "parts", "one", "other"]
theorem sc_rows_of : FnScope N_rows_of ["known", "parts"] (defScope (top 60)) := ⟨rfl, rfl, rfl, by decide +kernel, rfl, by decide +kernel, by decide +kernel⟩
theorem ok_rows_of (B : Blt mg)  (F : Has K mg "rows_of" (top 60)) : DefD P w K mg base "rows_of" 1 ["known", "parts"] spRows := by
  refine def_mk F (fun _ _ _ _ _ _ us hl => match us, hl with | [_, _], _ => rfl) fun f fd F => fn_D F sc_rows_of (fun ds d h => ?_) fun cdv A outer s H E ds d h hr => ?_
  · obtain ⟨known, n, _, _, rfl, _⟩ := h
    rfl
  · obtain ⟨known, n, hn, hk, rfl, rfl⟩ := h
    have hz : known.length ≤ sizeLine := Nat.le_trans hk (by decide)
    by_cases h0 : n = 0
    · subst h0
      exact sv_cons (sv_then (c_eqTI (ev_v 1 rfl) ev_int rfl) (sv_one (sv_ret (EVn.toD (ev_lst (ea_cons (ev_tup ea_nil (Nat.zero_le _)) ea_nil) (Nat.le_of_ble_eq_true rfl))) rfl)))
    · refine sv_cons (sv_skip (c_eqFI (ev_v 1 rfl) ev_int (by omega)) ?_)
      by_cases h1 : n = 1
      · subst h1
        refine sv_one (sv_ret (ev_if (c_eqTI (ev_v 1 rfl) ev_int rfl) (fun _ => EVn.toD (en_map1 (xs := known) (enc := encSt) (i := 2) (fun s => .tuple [encSt s]) sc_rows_of.nd (blkOk_by (N := N_rows_of) (sc := defScope (top 60)) (by decide +kernel)) rfl (iv_list (ev_v 0 rfl)) hz (fun _ _ _ _ _ => g_one 2 sc_rows_of.nd)
          (fun s _ _ _ _ _ _ => ?_) (fun _ => rfl))) (fun q => nomatch q)) ?_)
        · exact ev_tup (ea_cons (ev_v 2 rfl) ea_nil) (Nat.le_of_ble_eq_true rfl)
        · show PyData.list _ = _
          unfold rowsM
          rw [if_neg (by decide), if_pos rfl, List.map_map]
          rfl
      · have hz2 : known.length * known.length ≤ sizeLine := Nat.le_trans (Nat.mul_le_mul hk hk) (by decide)
        refine sv_one (sv_ret (ev_if (c_eqFI (ev_v 1 rfl) ev_int (by omega)) (fun q => nomatch q) (fun _ => EVn.toD (en_lc2M (xs := known) (ys := known) (enc1 := encSt) (enc2 := encSt) (i := 2) (j := 3) (fun a b => .tuple [encSt a, encSt b]) rfl sc_rows_of.nd (blkOk_by (N := N_rows_of) (sc := defScope (top 60)) (by decide +kernel)) (iv_list (ev_v 0 rfl)) hz2 (fun _ _ _ _ _ => g_one 2 sc_rows_of.nd) (fun _ _ _ _ _ => g_one 3 sc_rows_of.nd)
          (fun a _ _ _ _ _ _ => ?_) (fun a _ b _ _ _ _ _ _ => ?_) (fun _ _ => rfl)))) ?_)
        · exact iv_list (ev_v 0 rfl)
        · exact ev_tup (ea_cons (ev_v 2 rfl) (ea_cons (ev_v 3 rfl) ea_nil)) (Nat.le_of_ble_eq_true rfl)
        · show PyData.list _ = _
          unfold rowsM
          rw [if_neg h0, if_neg h1, List.map_flatMap]
          congr 2
          funext a
          rw [List.map_map]
          rfl
end
end Tr
set_option Elab.async false
set_option linter.all false
set_option maxRecDepth 100000
set_option maxHeartbeats 1000000
set_option autoImplicit false
/-! M5: found and after as dicts; asks in order -/
namespace Tr
open PySem PySem.Spec PyProof.Rows L2 DL
def convF (f : Fnd) : List (NK × D) := f.map fun p => (.tup (keyL p.1), encS p.2)
def convA (v : Wd) (is : List Inst) (aft : List (Str × List Stt)) : List (NK × D) := aft.map fun q => (.tup (key2L q), encSt (stateM v is q.1 q.2))
theorem keyL_inj {a b : Stt} : (NestedKey.tup (keyL a) = NestedKey.tup (keyL b)) ↔ a = b := ⟨fun h => keySt_inj h, fun h => by rw [h]⟩
theorem key2L_inj {a b : Str × List Stt} : (NestedKey.tup (key2L a) = NestedKey.tup (key2L b)) ↔ a = b := ⟨fun h => key2_inj h, fun h => by rw [h]⟩
theorem look_convF (f : Fnd) (s : Stt) : lookN (convF f) (.tup (keyL s)) = (lookF f s).map encS := by
  unfold lookN lookF convF
  rw [List.find?_map, Option.map_map, Option.map_map]
  have e : ((fun p : NK × D => decide (p.1 = NestedKey.tup (keyL s))) ∘ fun p : Stt × Srt => ((NestedKey.tup (keyL p.1), encS p.2) : NK × D)) = fun p => decide (p.1 = s) := by
    funext p
    show decide (NestedKey.tup (keyL p.1) = NestedKey.tup (keyL s)) = _
    by_cases h : p.1 = s
    · rw [decide_eq_true h, decide_eq_true (by rw [h])]
    · rw [decide_eq_false h, decide_eq_false fun z => h (keyL_inj.mp z)]
  rw [e]
  rfl
theorem put_convF (f : Fnd) (s : Stt) (x : Srt) : putN (convF f) (.tup (keyL s)) (encS x) = convF (putF f s x) := by
  unfold putN putF
  rw [look_convF, Option.isSome_map]
  split
  · unfold convF
    rw [List.map_map, List.map_map]
    refine List.map_congr_left fun p _ => ?_
    show (if NestedKey.tup (keyL p.1) = NestedKey.tup (keyL s) then _ else _) = (NestedKey.tup (keyL (if p.1 = s then (p.1, x) else p).1), encS (if p.1 = s then (p.1, x) else p).2)
    by_cases h : p.1 = s
    · rw [if_pos (by rw [h]), if_pos h]
    · rw [if_neg (fun z => h (keyL_inj.mp z)), if_neg h]
  · unfold convF
    rw [List.map_append]
    rfl
theorem kok_F {f : Fnd} (nd : (f.map (·.1)).Nodup) : KOk (convF f) := by
  refine ⟨?_, fun p hp => ?_⟩
  · have e : (convF f).map (·.1) = (f.map (·.1)).map fun s => NestedKey.tup (keyL s) := by
      unfold convF
      rw [List.map_map, List.map_map]
      rfl
    rw [e]
    exact List.Pairwise.map _ (fun a b hab q => hab (keyL_inj.mp q)) nd
  · unfold convF at hp
    obtain ⟨q, _, rfl⟩ := List.mem_map.mp hp
    exact Nat.le_trans (keySt_depth q.1) (by decide)
theorem keys_convF (f : Fnd) : ((convF f).map fun p => p.1.data) = (f.map (·.1)).map encSt := by
  unfold convF
  rw [List.map_map, List.map_map]
  exact List.map_congr_left fun p _ => keySt_data p.1
theorem look_convA (v : Wd) (is : List Inst) (aft : List (Str × List Stt)) (q : Str × List Stt) : lookN (convA v is aft) (.tup (key2L q)) = if q ∈ aft then some (encSt (stateM v is q.1 q.2)) else none := by
  unfold lookN convA
  rw [List.find?_map, Option.map_map]
  have e : ((fun p : NK × D => decide (p.1 = NestedKey.tup (key2L q))) ∘ fun q : Str × List Stt => ((NestedKey.tup (key2L q), encSt (stateM v is q.1 q.2)) : NK × D)) = fun p => decide (p = q) := by
    funext p
    show decide (NestedKey.tup (key2L p) = NestedKey.tup (key2L q)) = _
    by_cases h : p = q
    · rw [decide_eq_true h, decide_eq_true (by rw [h])]
    · rw [decide_eq_false h, decide_eq_false fun z => h (key2L_inj.mp z)]
  rw [e]
  by_cases h : q ∈ aft
  · rw [if_pos h]
    have : (aft.find? fun p => decide (p = q)).isSome = true := by
      rw [← any_find]
      exact List.any_eq_true.mpr ⟨q, h, decide_eq_true rfl⟩
    obtain ⟨z, hz⟩ := Option.isSome_iff_exists.mp this
    have h2 := List.find?_some hz
    have h2 : z = q := of_decide_eq_true h2
    rw [hz, h2]
    rfl
  · rw [if_neg h]
    have : aft.find? (fun p => decide (p = q)) = none := by
      refine List.find?_eq_none.mpr fun p hp e => ?_
      have e : p = q := of_decide_eq_true e
      exact h (e ▸ hp)
    rw [this]
    rfl
theorem put_convA {v : Wd} {is : List Inst} {aft : List (Str × List Stt)} {q : Str × List Stt} (h : q ∉ aft) : putN (convA v is aft) (.tup (key2L q)) (encSt (stateM v is q.1 q.2)) = convA v is (aft ++ [q]) := by
  unfold putN
  rw [look_convA, if_neg h]
  unfold convA
  rw [List.map_append]
  rfl
/-! the pairs asked -/
def allQ (v : Wd) : List (Str × List Stt) := (ctors v).flatMap fun r => ([] :: ((allSt v).map (fun a => [a]) ++ (allSt v).flatMap fun a => (allSt v).map fun b => [a, b])).map fun l => (r, l)
theorem allQ_len (v : Wd) (hc : v.cs.length ≤ 4) (ht : v.ts.length ≤ 3) : (allQ v).length ≤ 50000 := by
  unfold allQ
  have hs := allSt_len v hc ht
  have h0 := flat_len (fun a : Stt => (allSt v).map fun b => [a, b]) 108 (allSt v) fun a _ => by rw [List.length_map]; exact hs
  have h00 : 108 * (allSt v).length ≤ 108 * 108 := Nat.mul_le_mul_left _ hs
  have h1 := flat_len (fun r : Str => ([] :: ((allSt v).map (fun a => [a]) ++ (allSt v).flatMap fun a => (allSt v).map fun b => [a, b])).map fun l => (r, l)) 12000 (ctors v) fun r _ => by
    rw [List.length_map, List.length_cons, List.length_append, List.length_map]
    omega
  have h2 : (ctors v).length ≤ 4 := by unfold ctors; rw [List.length_map]; exact hc
  omega
structure AftOk (v : Wd) (aft : List (Str × List Stt)) : Prop where
  nd : aft.Nodup
  mem : ∀ q ∈ aft, q ∈ allQ v
theorem aft_len {v : Wd} (sm : Small v) {aft : List (Str × List Stt)} (h : AftOk v aft) : aft.length ≤ 50000 := Nat.le_trans (nodup_len h.nd h.mem) (allQ_len v sm.ok.c4 sm.t3)
theorem key_st {v : Wd} {is : List Inst} {f : Fnd} (g : Good v is f) {s : Stt} (h : s ∈ f.map (·.1)) : s ∈ allSt v ∧ StOk v s := by
  obtain ⟨p, hp, rfl⟩ := List.mem_map.mp h
  obtain ⟨h1, h2⟩ := g.st p hp
  rw [← h1]
  refine ⟨stOf_mem h2, ?_⟩
  rw [stOf_eq]
  refine ⟨by unfold stateM; rw [List.length_map], fun c hc => ?_⟩
  unfold stateM at hc
  obtain ⟨t, _, rfl⟩ := List.mem_map.mp hc
  exact codeM_le _ _ _ _ _ _ (by decide)
theorem q_mem {v : Wd} {is : List Inst} {f : Fnd} (g : Good v is f) {q : Str × List Stt} (k : QOk v f q) : q ∈ allQ v := by
  unfold allQ
  refine List.mem_flatMap.mpr ⟨q.1, List.mem_map.mpr ⟨_, arC_mem k.ar, rfl⟩, List.mem_map.mpr ⟨q.2, ?_, rfl⟩⟩
  obtain ⟨r, l⟩ := q
  have hk := k.key
  have hl := k.le
  match l, hl, hk with
  | [], _, _ => exact List.mem_cons_self
  | [a], _, hk => exact List.mem_cons_of_mem _ (List.mem_append_left _ (List.mem_map.mpr ⟨a, (key_st g (hk a (by simp))).1, rfl⟩))
  | [a, b], _, hk => exact List.mem_cons_of_mem _ (List.mem_append_right _ (List.mem_flatMap.mpr ⟨a, (key_st g (hk a (by simp))).1, List.mem_map.mpr ⟨b, (key_st g (hk b (by simp))).1, rfl⟩⟩))
theorem aft_put {v : Wd} {is : List Inst} {f : Fnd} (g : Good v is f) {q : Str × List Stt} (k : QOk v f q) {aft : List (Str × List Stt)} (h : AftOk v aft) (hn : q ∉ aft) : AftOk v (aft ++ [q]) := by
  refine ⟨List.nodup_append.mpr ⟨h.nd, by simp, fun a ha b hb e => ?_⟩, fun z hz => ?_⟩
  · have hb : b = q := by simpa using hb
    subst hb e
    exact hn ha
  · rcases List.mem_append.mp hz with hz | hz
    · exact h.mem z hz
    · have : z = q := by simpa using hz
      rw [this]
      exact q_mem g k
theorem kok_A (v : Wd) (is : List Inst) {aft : List (Str × List Stt)} (h : AftOk v aft) : KOk (convA v is aft) := by
  refine ⟨?_, fun p hp => ?_⟩
  · have e : (convA v is aft).map (·.1) = aft.map fun q => NestedKey.tup (key2L q) := by
      unfold convA
      rw [List.map_map]
      rfl
    rw [e]
    exact List.Pairwise.map _ (fun a b hab q => hab (key2L_inj.mp q)) h.nd
  · unfold convA at hp
    obtain ⟨q, _, rfl⟩ := List.mem_map.mp hp
    exact Nat.le_trans (key2_depth q) (by decide)
/-! alike data -/
theorem alike_cod : ∀ a b : List Nat, PySem.W.alikeAll (codD a) (codD b) = true
  | [], _ => by simp [codD, PySem.W.alikeAll]
  | _ :: _, [] => by simp [codD, PySem.W.alikeAll]
  | x :: a, y :: b => by
    have := alike_cod a b
    unfold codD at this ⊢
    rw [List.map_cons, List.map_cons, PySem.W.alikeAll, this]
    rfl
theorem alike_St (a b : Stt) : PySem.W.alike (encSt a) (encSt b) = true := by
  have := alike_cod a.codes b.codes
  simp [encSt, encStL, PySem.W.alike, PySem.W.alikeAll, this]
theorem alike_S : ∀ a b : Srt, PySem.W.alikeAll (encSL a) (encSL b) = true
  | .n0 r, .n0 r' => by simp [encSL, PySem.W.alikeAll, PySem.W.alike]
  | .n0 r, .n1 r' a' => by simp [encSL, PySem.W.alikeAll, PySem.W.alike]
  | .n0 r, .n2 r' a' b' => by simp [encSL, PySem.W.alikeAll, PySem.W.alike]
  | .n1 r a, .n0 r' => by simp [encSL, PySem.W.alikeAll, PySem.W.alike]
  | .n1 r a, .n1 r' a' => by simp [encSL, PySem.W.alikeAll, PySem.W.alike, alike_S a a']
  | .n1 r a, .n2 r' a' b' => by simp [encSL, PySem.W.alikeAll, PySem.W.alike, alike_S a a']
  | .n2 r a b, .n0 r' => by simp [encSL, PySem.W.alikeAll, PySem.W.alike]
  | .n2 r a b, .n1 r' a' => by simp [encSL, PySem.W.alikeAll, PySem.W.alike, alike_S a a']
  | .n2 r a b, .n2 r' a' b' => by simp [encSL, PySem.W.alikeAll, PySem.W.alike, alike_S a a', alike_S b b']
theorem alike_rank (a b : Srt) : PySem.W.alike (rankD a) (rankD b) = true := by simp [rankD, encS, PySem.W.alike, PySem.W.alikeAll, alike_S a b]
theorem depth_S : ∀ x : Srt, (encS x).depth ≤ x.depth
  | .n0 r => by simp [encS, encSL, PyData.depth, PyData.depthAll, Srt.depth]
  | .n1 r a => by
    have := depth_S a
    simp [encS, encSL, PyData.depth, PyData.depthAll, Srt.depth] at this ⊢
    omega
  | .n2 r a b => by
    have h1 := depth_S a
    have h2 := depth_S b
    simp [encS, encSL, PyData.depth, PyData.depthAll, Srt.depth] at h1 h2 ⊢
    omega
theorem depth_rank (x : Srt) : (rankD x).depth ≤ x.depth + 1 := by
  have := depth_S x
  simp only [rankD, PyData.depth, PyData.depthAll] at this ⊢
  omega
theorem noL_S : ∀ x : Srt, noLs (encSL x) = true
  | .n0 r => rfl
  | .n1 r a => by
    have := noL_S a
    simp [encSL, noLs, noL, this]
  | .n2 r a b => by
    have h1 := noL_S a
    have h2 := noL_S b
    simp [encSL, noLs, noL, h1, h2]
theorem noL_encS (x : Srt) : noL (encS x) = true := by
  have := noL_S x
  unfold noL
  exact this
theorem noL_St (s : Stt) : noL (encSt s) = true := by
  have := noL_codD s.codes
  simp [encSt, encStL, noL, noLs, this]
theorem noLs_St (l : List Stt) : noLs (l.map encSt) = true := by
  induction l with
  | nil => rfl
  | cons x l ih => rw [List.map_cons, noLs, ih, noL_St]; rfl
theorem depth_St (s : Stt) : (encSt s).depth ≤ 3 := by
  have h : PyData.depthAll (codD s.codes) ≤ 0 := by
    have := (lay_all (fun c : Nat => (PyData.int (c : Nat) : D)) 0 s.codes fun x _ => ⟨by simp [PyData.canLay0], by simp [PyData.depth]⟩).2
    exact this
  simp only [encSt, encStL, PyData.depth, PyData.depthAll]
  omega
theorem sortSt_data (l : List Stt) : sortD (l.map encSt) = (sortSt l).map encSt := by
  unfold sortD sortSt
  rw [List.map_mergeSort]
  intro a _ b _
  rfl
theorem sort_len (l : List Stt) : (sortSt l).length = l.length := by unfold sortSt; rw [List.length_mergeSort]
theorem lay_S {v : Wd} (ok : OkW v) : ∀ {x : Srt}, okS v x = true → PyData.canLayAll0 (encSL x) = true := by
  intro x
  have hr : ∀ {x : Srt}, okS v x = true → PyData.strOk x.root = true := fun {x} h => ok.sc _ (arC_mem (okS_root h))
  induction x with
  | n0 r =>
    intro h
    have h1 := hr h
    simp only [Srt.root] at h1
    simp [encSL, PyData.canLayAll0, PyData.canLay0, h1]
  | n1 r a ih =>
    intro h
    have h1 := hr h
    have h2 := ih (okS_parts h (by simp [Srt.parts]))
    simp only [Srt.root] at h1
    simp [encSL, PyData.canLayAll0, PyData.canLay0, h1, h2]
  | n2 r a b iha ihb =>
    intro h
    have h1 := hr h
    have h2 := iha (okS_parts h (by simp [Srt.parts]))
    have h3 := ihb (okS_parts h (by simp [Srt.parts]))
    simp only [Srt.root] at h1
    simp [encSL, PyData.canLayAll0, PyData.canLay0, h1, h2, h3]
/-! asks in order -/
def encAsk (p : Nat × Srt) : D := .tuple [.int (p.2.size : Nat), encS p.2, .int (p.1 : Nat)]
def sortA (rows : List (Nat × Srt)) : List (Nat × Srt) := rows.mergeSort fun a b => PySem.W.dataLe false id (encAsk a) (encAsk b)
theorem sortA_data (l : List (Nat × Srt)) : sortD (l.map encAsk) = (sortA l).map encAsk := by
  unfold sortD sortA
  rw [List.map_mergeSort]
  intro a _ b _
  rfl
theorem alike_Ask (a b : Nat × Srt) : PySem.W.alike (encAsk a) (encAsk b) = true := by simp [encAsk, encS, PySem.W.alike, PySem.W.alikeAll, alike_S a.2 b.2]
theorem depth_Ask (p : Nat × Srt) : (encAsk p).depth ≤ p.2.depth + 1 := by
  have := depth_S p.2
  simp only [encAsk, PyData.depth, PyData.depthAll] at this ⊢
  omega
theorem noLs_Ask (l : List (Nat × Srt)) : noLs (l.map encAsk) = true := by
  induction l with
  | nil => rfl
  | cons x l ih =>
    rw [List.map_cons, noLs, ih]
    have := noL_S x.2
    simp [encAsk, noL, noLs, this]
def ansD (rows : List (Nat × Srt)) : D := match sortA rows with
  | [] => .none
  | p :: _ => .tuple [.int (p.1 : Nat), encS p.2]
end Tr
set_option Elab.async false
set_option linter.all false
set_option maxRecDepth 100000
set_option maxHeartbeats 1000000
set_option autoImplicit false
namespace Tr
open PySem PySem.Spec PyProof.Rows L2 DL
/-- the body of the innermost loop of all_states -/
def asB : List Stmt := match defBody (top 61) with
  | [_, .While _ [_, _, .For _ _ [.For _ _ b _ _] _ _] _ _, _] => b
  | _ => []
abbrev asEnv (w : World) (v : Wd) (is : List Inst) (f : Fnd) (b : Bool) (aft : List (Str × List Stt)) (r : List (Option Sl)) : SEnv := some (.dat (W v)) :: some (.dat (.list [planD is])) :: some (.own (mkN w (convF f))) :: some (.dat (.bool b)) :: some (.own (mkN w (convA v is aft))) :: r
section
variable {P : Program} {w : World} {K : PySem.W.Frag} {mg : Str → Option Value} {base : Heap}
abbrev N_all_states : List Str := ["world", "plans", "found", "is_new", "after", "known", "root", "parts", "states", "state", "sort", "one"]
theorem sc_all_states : FnScope N_all_states ["world", "plans"] (defScope (top 61)) := ⟨rfl, rfl, rfl, by decide +kernel, rfl, by decide +kernel, by decide +kernel⟩
theorem as_rest {f : Addr} {cdv : Value} {A : Around} {outer : List Env} {s : Shared} {H : Hp} {E : XK} {Z : EndsD} {v : Wd} {is : List Inst} {fd : Fnd} {bb : Bool} {aft : List (Str × List Stt)} {q : Str × List Stt} {a5 a7 a9 a10 a11 : Option Sl}
    (B : Blt mg) (D1 : DefD P w K mg base "rank_of" (109 + 2) ["sort"] (spRank 109)) (hr : Room 111 (A.deeper (envOfC "all_states" (defScope (top 61)) s.heap.objs.size f cdv)))
    (sm : Small v) (g : Good v is fd) (k : QOk v fd q) (ao : AftOk v aft) (hq : q ∈ aft)
    (h : ∀ a9 a10 a11, Z.nx (asEnv w v is (stepF v is (fd, bb) q).1 (stepF v is (fd, bb) q).2 aft [a5, some (.dat (.str q.1)), a7, some (.dat (.tuple (q.2.map encSt))), a9, a10, a11])) :
    SVs (cxOf CX0 P w K mg base N_all_states "all_states" (defScope (top 61)) f cdv A outer s H E).nox (asB.drop 1) Z (asEnv w v is fd bb aft [a5, some (.dat (.str q.1)), a7, some (.dat (.tuple (q.2.map encSt))), a9, a10, a11]) := by
  have kF := kok_F g.nd
  have kA := kok_A v is ao
  obtain ⟨n1, n2, n3⟩ := new_ok g k
  obtain ⟨r1, r2⟩ := newSrt_root fd q k.le
  have dnew : (newSrt fd q).depth ≤ 109 := by
    have hp : ∀ p ∈ (newSrt fd q).parts, p.depth ≤ 108 := fun p hp => by
      obtain ⟨o, _, hm⟩ := n3 p hp
      exact good_depth sm g hm
    generalize newSrt fd q = x at hp
    cases x with
    | n0 r => simp [Srt.depth]
    | n1 r a => have := hp a (by simp [Srt.parts]); simp only [Srt.depth]; omega
    | n2 r a b =>
      have h1 := hp a (by simp [Srt.parts])
      have h2 := hp b (by simp [Srt.parts])
      simp only [Srt.depth]
      omega
  show SVs _ [_, _, _] Z _
  refine sv_cons (s_setA (d := encSt (stateM v is q.1 q.2)) 9 sc_all_states.nd (ev_getN (hr.u 20) (ev_v 4 rfl) (EVd.is (ev_tup (ea_cons (ev_v 6 rfl) (ea_cons (ev_v 8 rfl) ea_nil)) (Nat.le_of_ble_eq_true rfl)) (key2_data q).symm) kA (Nat.le_trans (key2_depth q) (by decide)) (by rw [look_convA, if_pos hq])) (noL_St _) ?_)
  have heq : PyData.tuple ([.str q.1] ++ q.2.map fun o => encS ((lookF fd o).getD (.n0 ""))) = encS (newSrt fd q) := by
    show _ = PyData.tuple (encSL (newSrt fd q))
    rw [encSL_eq, r1, r2, List.map_map]
    rfl
  refine sv_cons (s_setA (d := encS (newSrt fd q)) 10 sc_all_states.nd (EVd.is (ev_catT (ev_tup (ea_cons (ev_v 6 rfl) ea_nil) (Nat.le_of_ble_eq_true rfl)) (ev_tuple (EVn.toD (en_map1 (xs := q.2) (enc := encSt) (i := 11) (fun o => encS ((lookF fd o).getD (.n0 ""))) sc_all_states.nd (blkOk_by (N := N_all_states) (sc := defScope (top 61)) (by decide +kernel)) rfl (iv_tup (ev_v 8 rfl)) (Nat.le_trans k.le (by decide)) (fun _ _ _ _ _ => g_one 11 sc_all_states.nd)
    (fun o ho _ _ _ _ _ => ?_) (fun _ => rfl))) rfl rfl B.tuple) ?_) heq) (noL_encS _) ?_)
  · obtain ⟨x, e1, e2⟩ := getD_look (k.key o ho)
    exact ev_getN (hr.u 20) (ev_v 2 rfl) (EVd.is (ev_v 11 rfl) (keySt_data o).symm) kF (Nat.le_trans (keySt_depth o) (by decide)) (by rw [look_convF, e1]; rfl)
  · have := k.le
    rw [List.length_map]
    exact Nat.le_trans (show 1 + q.2.length ≤ 3 by omega) (by decide)
  have hsp : stepF v is (fd, bb) q = if better fd (stateM v is q.1 q.2) (newSrt fd q) = true then (putF fd (stateM v is q.1 q.2) (newSrt fd q), true) else (fd, bb) := rfl
  have hlen := good_len sm g
  have hzF : (convF fd).length < sizeLine := by
    unfold convF
    rw [List.length_map]
    exact Nat.lt_of_le_of_lt hlen (by decide)
  generalize stateM v is q.1 q.2 = st at hsp
  generalize newSrt fd q = x at hsp n1 dnew
  have key : NestedKey.data (.tup (keyL st)) = encSt st := keySt_data st
  have rankX : EVd (cxOf CX0 P w K mg base N_all_states "all_states" (defScope (top 61)) f cdv A outer s H E).nox (.Name "sort" default) [] .none → True := fun _ => trivial
  have thenB : better fd st x = true → Z.nx (asEnv w v is (putF fd st x) true aft [a5, some (.dat (.str q.1)), a7, some (.dat (.tuple (q.2.map encSt))), some (.dat (encSt st)), some (.dat (encS x)), a11]) := fun hb => by
    have := h (some (.dat (encSt st))) (some (.dat (encS x))) a11
    rw [hsp, if_pos hb] at this
    exact this
  have elseB : better fd st x = false → Z.nx (asEnv w v is fd bb aft [a5, some (.dat (.str q.1)), a7, some (.dat (.tuple (q.2.map encSt))), some (.dat (encSt st)), some (.dat (encS x)), a11]) := fun hb => by
    have := h (some (.dat (encSt st))) (some (.dat (encS x))) a11
    rw [hsp, if_neg (by rw [hb]; exact Bool.false_ne_true)] at this
    exact this
  refine sv_one (sv_if (k := better fd st x) ?_ (fun hb => sv_cons (sv_putN (j := 2) (ks := keyL st) (d := encS x) (hr.u 20) rfl (es_v (ev_v 10 rfl)) (es_v (EVd.is (ev_v 9 rfl) key.symm) (key_isD _)) kF (Nat.le_trans (keySt_depth st) (by decide)) hzF (sv_one (s_set 3 sc_all_states.nd ev_bl ?_)))) (fun hb => sv_nil (elseB hb)))
  · cases e : lookF fd st with
    | none =>
      have hb : better fd st x = true := by unfold better; rw [e]
      rw [hb]
      exact tE (w_orT (bT (et_c (ec_notinN (hr.u 20) (EVd.is (ev_v 9 rfl) key.symm) (ev_v 2 rfl) kF (Nat.le_trans (keySt_depth st) (by decide)))) (by rw [look_convF, e]; rfl)))
    | some y =>
      have hb : better fd st x = rLt x y := by unfold better; rw [e]
      rw [hb]
      have dy := good_depth sm g (lookF_mem e)
      have dy : y.depth ≤ 108 := dy
      refine tE (w_orF (bT (et_c (ec_notinN (hr.u 20) (EVd.is (ev_v 9 rfl) key.symm) (ev_v 2 rfl) kF (Nat.le_trans (keySt_depth st) (by decide)))) (by rw [look_convF, e]; rfl)) (ew_or1 (et_c (ec_ltD (d1 := rankD x) (d2 := rankD y) (fun n hn => hr.u n hn) (ev_call D1 hr rfl (eq_cons (ev_v 10 rfl) eq_nil) ⟨x, dnew, rfl, rfl⟩) (ev_call D1 hr rfl (eq_cons (ev_getN (d := encS y) (hr.u 20) (ev_v 2 rfl) (EVd.is (ev_v 9 rfl) key.symm) kF (Nat.le_trans (keySt_depth st) (by decide)) (by rw [look_convF, e]; rfl)) eq_nil) ⟨y, by omega, rfl, rfl⟩) (alike_rank x y) (fun q => nomatch q) ?_))))
      exact Nat.le_trans (Nat.min_le_right _ _) (Nat.le_trans (depth_rank y) (by omega))
  · rw [put_convF]
    exact thenB hb
def fLn (v : Wd) (known : List Stt) (n : Nat) : List (Str × List Stt) := (v.cs.take n).flatMap fun c => (rowsM known c.2).map fun s => (c.1, s)
def spAll (w : World) (ds : List D) (r : D) : Prop := ∃ (v : Wd) (is : List Inst) (m : Nat) (g : Fnd), Small v ∧ (∀ i ∈ is, OkI v i) ∧ is.length ≤ 8 ∧ Runs v is m [] g ∧ ds = [W v, .list [planD is]] ∧ r = mkN w (convF g)
theorem fold_key {v : Wd} {is : List Inst} : ∀ {qs : List (Str × List Stt)} {acc : Fnd × Bool} {q' : Str × List Stt}, QOk v acc.1 q' → QOk v (qs.foldl (stepF v is) acc).1 q'
  | [], _, _, k => k
  | q :: qs, acc, q', k => by
    rw [List.foldl_cons]
    exact fold_key (qs := qs) k.step
theorem ok_all_states (B : Blt mg) (D1 : DefD P w K mg base "rank_of" (109 + 2) ["sort"] (spRank 109)) (D2 : DefD P w K mg base "state_after" 3 ["world", "plans", "root", "states"] spAfter) (D3 : DefD P w K mg base "rows_of" 1 ["known", "parts"] spRows) (F : Has K mg "all_states" (top 61)) : DefD P w K mg base "all_states" 112 ["world", "plans"] (spAll w) := by
  refine def_mk F (fun _ _ _ _ _ _ us hl => match us, hl with | [_, _], _ => rfl) fun f fd F => fn_D F sc_all_states (fun ds d h => ?_) fun cdv A outer s H E ds d h hr => ?_
  · obtain ⟨v, is, _, _, _, _, _, _, rfl, _⟩ := h
    rfl
  · obtain ⟨v, is, m0, g, sm, oa, hl, hrun, rfl, rfl⟩ := h
    have ok := sm.ok
    refine sv_cons (sv_par3N (i := 2) (j := 3) (l := 4) rfl sc_all_states.nd rfl rfl rfl (by first | exact Or.inl rfl | exact Or.inr rfl) (by first | exact Or.inl rfl | exact Or.inr rfl) (by first | exact Or.inl rfl | exact Or.inr rfl) (by decide) (by decide) (by decide) ?_)
    refine sv_cons (sv_while (fun m env' => ∃ f0 b aft r0 r1 r2 r3 r4 r5 r6, env' = asEnv w v is f0 b aft [r0, r1, r2, r3, r4, r5, r6] ∧ Good v is f0 ∧ AftOk v aft ∧ (b = true → ∃ m', m = m' + 1 ∧ Runs v is m' f0 g) ∧ (b = false → f0 = g)) PassesOwn.never (m0 := m0 + 1) ⟨[], true, [], none, none, none, none, none, none, none, rfl, good_nil v is, ⟨List.nodup_nil, fun _ h => (nomatch h)⟩, fun _ => ⟨m0, rfl, hrun⟩, fun q => nomatch q⟩ ?_)
    rintro m _ ⟨f0, b, aft, r0, r1, r2, r3, r4, r5, r6, rfl, gd, ao, hb1, hb0⟩
    refine ⟨b, tV (ev_v 3 rfl), fun hb => ?_, fun hb => ?_⟩
    · subst hb
      obtain ⟨m', rfl, hrun'⟩ := hb1 rfl
      have nz := good_len sm gd
      refine sv_cons (s_set 3 sc_all_states.nd ev_bl ?_)
      have hks := keys_convF f0
      have hsd : sortD ((convF f0).map fun p => p.1.data) = (sortSt (f0.map (·.1))).map encSt := by rw [hks, sortSt_data]
      refine sv_cons (sv_setE (i := 5) (d := .list ((sortSt (f0.map (·.1))).map encSt)) sc_all_states.nd rfl (by first | exact Or.inl rfl | exact Or.inr rfl) ?_ ?_)
      · rw [← hsd]
        refine es_n (en_sortedN rfl (ev_v 2 rfl) (kok_F gd.nd) ?_ ?_ ?_ rfl B.sorted) (by rw [hsd]; exact noLs_St _)
        · rw [hks]
          intro x hx y hy
          obtain ⟨a, _, rfl⟩ := List.mem_map.mp hx
          obtain ⟨b, _, rfl⟩ := List.mem_map.mp hy
          exact alike_St a b
        · rw [hks]
          refine .inl fun x hx => ?_
          obtain ⟨a, _, rfl⟩ := List.mem_map.mp hx
          exact ⟨_, _, rfl⟩
        · rw [hks]
          intro x hx
          obtain ⟨a, _, rfl⟩ := List.mem_map.mp hx
          have h3 := depth_St a
          have h4 := hr.u 100
          show (A.deeper _).units + 2 + (encSt a).depth < cLine
          omega
      have hkn : (sortSt (f0.map (·.1))).length ≤ 108 := by rw [sort_len, List.length_map]; exact nz
      have hqs : ∀ q ∈ qsM v (sortSt (f0.map (·.1))), QOk v f0 q := fun q hq => qs_ok ok hq
      have hpass : passM v is f0 = (qsM v (sortSt (f0.map (·.1)))).foldl (stepF v is) (f0, false) := rfl
      generalize sortSt (f0.map (·.1)) = known at hkn hqs hpass
      refine sv_one (sv_for (xs := v.cs) (enc := encC) (t := .tup [6, 7]) (fun n env' => ∃ aft r1 r2 r3 r4 r5 r6, env' = asEnv w v is ((fLn v known n).foldl (stepF v is) (f0, false)).1 ((fLn v known n).foldl (stepF v is) (f0, false)).2 aft [some (.dat (.list (known.map encSt))), r1, r2, r3, r4, r5, r6] ∧ AftOk v aft) PassesOwn.never rfl
        (iv_tup (ev_W 0 rfl rfl)) ⟨aft, r1, r2, r3, r4, r5, r6, rfl, ao⟩ (fun c => tg_tup rfl (tgs_cons (fun _ => t_one 6 sc_all_states.nd) (tgs_cons (fun _ => t_one 7 sc_all_states.nd) tgs_nil)) rfl rfl) ?_ ?_)
      · rintro n c _ hn ⟨aft, r1, r2, r3, r4, r5, r6, rfl, ao⟩
        have hcm : c ∈ v.cs := List.mem_of_getElem? hn
        have hc2 := ar_le ok hcm
        have hrl : (rowsM known c.2).length ≤ sizeLine := by
          unfold rowsM
          split
          · exact Nat.le_trans (show 1 ≤ 1 from Nat.le_refl _) (by decide)
          · split
            · rw [List.length_map]; exact Nat.le_trans hkn (by decide)
            · have h1 := flat_len (fun a : Stt => known.map fun b => [a, b]) 108 known fun a _ => by rw [List.length_map]; exact hkn
              have h2 : 108 * known.length ≤ 108 * 108 := Nat.mul_le_mul_left _ hkn
              exact Nat.le_trans h1 (Nat.le_trans h2 (by decide))
        let L : Nat → List (Str × List Stt) := fun j => fLn v known n ++ ((rowsM known c.2).take j).map fun s => (c.1, s)
        have hL : ∀ j, ∀ q ∈ L j, QOk v f0 q := fun j q hq => by
          refine hqs q ?_
          unfold qsM
          rcases List.mem_append.mp hq with hq | hq
          · obtain ⟨c', hc', hq⟩ := List.mem_flatMap.mp hq
            exact List.mem_flatMap.mpr ⟨c', List.mem_of_mem_take hc', hq⟩
          · obtain ⟨l, hl, rfl⟩ := List.mem_map.mp hq
            exact List.mem_flatMap.mpr ⟨c, hcm, List.mem_map.mpr ⟨l, List.mem_of_mem_take hl, rfl⟩⟩
        have L0 : L 0 = fLn v known n := by show fLn v known n ++ _ = _; rw [List.take_zero, List.map_nil, List.append_nil]
        refine sv_one (sv_for (xs := rowsM known c.2) (enc := fun l => .tuple (l.map encSt)) (t := .one 8) (fun j env' => ∃ aft r3 r4 r5 r6, env' = asEnv w v is ((L j).foldl (stepF v is) (f0, false)).1 ((L j).foldl (stepF v is) (f0, false)).2 aft [some (.dat (.list (known.map encSt))), some (.dat (.str c.1)), some (.dat (.int (c.2 : Nat))), r3, r4, r5, r6] ∧ AftOk v aft) PassesOwn.never rfl
          (iv_list (ev_call D3 (hr.mono (by decide)) rfl (eq_cons (ev_v 5 rfl) (eq_cons (ev_v 7 rfl) eq_nil)) ⟨known, c.2, hc2, hkn, rfl, rfl⟩)) ⟨aft, r3, r4, r5, r6, by rw [L0]; rfl, ao⟩ (fun _ => t_one 8 sc_all_states.nd) ?_ ?_)
        · rintro j l _ hj ⟨aft, r3, r4, r5, r6, rfl, ao⟩
          obtain ⟨gj, _⟩ := fold_good sm (qs := L j) (acc := (f0, false)) gd (hL j)
          have hqk : QOk v f0 (c.1, l) := hL (j + 1) _ (by
            show _ ∈ fLn v known n ++ _
            rw [take_at hj, List.map_append]
            exact List.mem_append_right _ (List.mem_append_right _ (by simp)))
          have hqj : QOk v ((L j).foldl (stepF v is) (f0, false)).1 (c.1, l) := fold_key hqk
          have hstep : (L (j + 1)).foldl (stepF v is) (f0, false) = stepF v is ((L j).foldl (stepF v is) (f0, false)) (c.1, l) := by
            show (fLn v known n ++ _).foldl _ _ = stepF v is ((fLn v known n ++ _).foldl _ _) _
            rw [take_at hj, List.map_append, ← List.append_assoc, List.foldl_append (l := _ ++ _)]
            rfl
          generalize (L j).foldl (stepF v is) (f0, false) = acc at gj hqj hstep
          obtain ⟨fj, bj⟩ := acc
          have hpost : ∀ aft', AftOk v aft' → ∀ a9 a10 a11, ∃ aft r3 r4 r5 r6, asEnv w v is (stepF v is (fj, bj) (c.1, l)).1 (stepF v is (fj, bj) (c.1, l)).2 aft' [some (.dat (.list (known.map encSt))), some (.dat (.str c.1)), some (.dat (.int (c.2 : Nat))), some (.dat (.tuple (l.map encSt))), a9, a10, a11] = asEnv w v is ((L (j + 1)).foldl (stepF v is) (f0, false)).1 ((L (j + 1)).foldl (stepF v is) (f0, false)).2 aft [some (.dat (.list (known.map encSt))), some (.dat (.str c.1)), some (.dat (.int (c.2 : Nat))), r3, r4, r5, r6] ∧ AftOk v aft := fun aft' ao' a9 a10 a11 => by
            rw [hstep]
            exact ⟨aft', _, _, _, _, rfl, ao'⟩
          have kA := kok_A v is ao
          by_cases hin : (c.1, l) ∈ aft
          · refine sv_cons (sv_skip (bT (et_c (ec_notinN (ks := key2L (c.1, l)) (hr.u 20) (EVd.is (ev_tup (ea_cons (ev_v 6 rfl) (ea_cons (ev_v 8 rfl) ea_nil)) (Nat.le_of_ble_eq_true rfl)) (key2_data (c.1, l)).symm) (ev_v 4 rfl) kA (Nat.le_trans (key2_depth _) (by decide)))) (by rw [look_convA, if_pos hin]; rfl)) ?_)
            exact as_rest (q := (c.1, l)) B D1 hr sm gj hqj ao hin fun a9 a10 a11 => hpost aft ao a9 a10 a11
          · refine sv_cons (sv_then (bT (et_c (ec_notinN (ks := key2L (c.1, l)) (hr.u 20) (EVd.is (ev_tup (ea_cons (ev_v 6 rfl) (ea_cons (ev_v 8 rfl) ea_nil)) (Nat.le_of_ble_eq_true rfl)) (key2_data (c.1, l)).symm) (ev_v 4 rfl) kA (Nat.le_trans (key2_depth _) (by decide)))) (by rw [look_convA, if_neg hin]; rfl)) (sv_one (sv_putN (j := 4) (ks := key2L (c.1, l)) (d := encSt (stateM v is c.1 l)) (hr.u 20) rfl (es_v (ev_call D2 (hr.mono (by decide)) rfl (eq_cons (ev_v 0 rfl) (eq_cons (ev_v 1 rfl) (eq_cons (ev_v 6 rfl) (eq_cons (ev_v 8 rfl) eq_nil)))) ⟨v, is, c.1, l, ok, oa, hl, hqk.ar, fun s hs => (key_st gj (hqj.key s hs)).2, hqk.le, rfl, rfl⟩)) (es_v (EVd.is (ev_tup (ea_cons (ev_v 6 rfl) (ea_cons (ev_v 8 rfl) ea_nil)) (Nat.le_of_ble_eq_true rfl)) (key2_data (c.1, l)).symm) (key_isD _)) kA (Nat.le_trans (key2_depth _) (by decide)) ?_ ?_)))
            · unfold convA
              rw [List.length_map]
              exact Nat.lt_of_le_of_lt (aft_len sm ao) (by decide)
            · rw [put_convA hin]
              exact as_rest (q := (c.1, l)) B D1 hr sm gj hqj (aft_put gj hqj ao hin) (List.mem_append_right _ (by simp)) fun a9 a10 a11 => hpost _ (aft_put gj hqj ao hin) a9 a10 a11
        · rintro _ ⟨aft, r3, r4, r5, r6, rfl, ao⟩
          have hLn : L (rowsM known c.2).length = fLn v known (n + 1) := by
            show fLn v known n ++ _ = _
            rw [List.take_length]
            unfold fLn
            rw [take_at hn, List.flatMap_append]
            simp
          rw [hLn]
          exact ⟨aft, _, _, r3, r4, r5, r6, rfl, ao⟩
      · rintro _ ⟨aft, r1, r2, r3, r4, r5, r6, rfl, ao⟩
        have hfull : fLn v known v.cs.length = qsM v known := by
          unfold fLn
          rw [List.take_length]
          rfl
        rw [hfull, ← hpass]
        obtain ⟨g1, _⟩ := pass_good sm gd
        cases hrun' with
        | stop h2 => exact ⟨0, Nat.succ_pos _, _, _, aft, _, r1, r2, r3, r4, r5, r6, rfl, g1, ao, (fun q => by rw [h2] at q; cases q), fun _ => rfl⟩
        | @more m2 _ _ h2 h3 => exact ⟨m2 + 1, Nat.lt_succ_self _, _, _, aft, _, r1, r2, r3, r4, r5, r6, rfl, g1, ao, fun _ => ⟨m2, rfl, h3⟩, (fun q => by rw [h2] at q; cases q)⟩
    · subst hb
      have := hb0 rfl
      subst this
      exact sv_one (sv_ret (ev_v 2 rfl) rfl)
end
end Tr
set_option Elab.async false
set_option linter.all false
set_option maxRecDepth 100000
set_option maxHeartbeats 1000000
set_option autoImplicit false
namespace Tr
open PySem PySem.Spec PyProof.Rows L2 DL
def encRow (p : Nat × Srt) : List D := [.int (p.1 : Nat), encS p.2]
def twoOf (p : Stt × Srt) : List (Nat × Srt) := ((p.1.codes.zipIdx).filter fun c => decide (((c.1 : Nat) : Int) = 2)).map fun c => (c.2, p.2)
def rowsD (g : Fnd) : List (Nat × Srt) := g.flatMap twoOf
def doubleM (v : Wd) (g : Fnd) : D := match sortA (rowsD g) with
  | [] => .none
  | p :: _ => .tuple [.str (((names v)[p.1]?).getD ""), encS p.2]
theorem noLs_Row (l : List (Nat × Srt)) : noLs (l.map fun p => .tuple (encRow p)) = true := by
  induction l with
  | nil => rfl
  | cons x l ih =>
    rw [List.map_cons, noLs, ih]
    have := noL_S x.2
    simp [encRow, noL, noLs, this]
theorem two_len (p : Stt × Srt) : (twoOf p).length ≤ p.1.codes.length := by
  unfold twoOf
  rw [List.length_map]
  refine Nat.le_trans (List.length_filter_le _ _) ?_
  rw [List.length_zipIdx]
  exact Nat.le_refl _
theorem eqv_nil (ds : List D) : PyData.eqv (.list ds) (.list []) = decide (ds = []) := by
  cases ds with
  | nil => rfl
  | cons x xs => rfl
section
variable {P : Program} {w : World} {K : PySem.W.Frag} {mg : Str → Option Value} {base : Heap}
def spAsk (ds : List D) (r : D) : Prop := ∃ (v : Wd) (rows : List (Nat × Srt)), OkW v ∧ (∀ p ∈ rows, okS v p.2 = true ∧ p.2.depth ≤ 108) ∧ rows.length ≤ 1000 ∧ ds = [.list (rows.map fun p => .tuple (encRow p))] ∧ r = ansD rows
abbrev N_first_ask : List Str := ["rows", "some", "place", "sort"]
theorem sc_first_ask : FnScope N_first_ask ["rows"] (defScope (top 62)) := ⟨rfl, rfl, rfl, by decide +kernel, rfl, by decide +kernel, by decide +kernel⟩
theorem ok_first_ask (B : Blt mg) (D1 : DefD P w K mg base "size_in" (108 + 1) ["sort"] (spSize 108)) (F : Has K mg "first_ask" (top 62)) : DefD P w K mg base "first_ask" 112 ["rows"] spAsk := by
  refine def_mk F (fun _ _ _ _ _ _ us hl => match us, hl with | [_], _ => rfl) fun f fd F => fn_D F sc_first_ask (fun ds d h => ?_) fun cdv A outer s H E ds d h hr => ?_
  · obtain ⟨v, rows, _, _, _, rfl, _⟩ := h
    rfl
  · obtain ⟨v, rows, ok, hr2, hl, rfl, rfl⟩ := h
    refine sv_cons (sv_setE (i := 1) (d := .list ((sortA rows).map encAsk)) sc_first_ask.nd rfl (by first | exact Or.inl rfl | exact Or.inr rfl) ?_ ?_)
    · rw [← sortA_data]
      refine es_n (en_sorted (ds := rows.map encAsk) (EVn.toD (en_mapT (xs := rows) (is := [2, 3]) (own := [("place", 2), ("sort", 3)]) (encs := encRow) encAsk sc_first_ask.nd (blkOk_by (N := N_first_ask) (sc := defScope (top 62)) (by decide +kernel)) (by decide) rfl (iv_list (ev_v 0 rfl)) (Nat.le_trans hl (by decide)) (fun _ => rfl) (fun _ _ _ _ _ => g_two rfl (g_one 2 sc_first_ask.nd) (g_one 3 sc_first_ask.nd))
        (fun p hp _ _ _ _ _ => ?_) (fun _ => rfl))) ?_ ?_ ?_ rfl B.sorted) (by rw [sortA_data]; exact noLs_Ask _)
      · exact ev_tup (ea_cons (ev_call D1 (hr.mono (by decide)) rfl (eq_cons (ev_v 3 rfl) eq_nil) ⟨p.2, (hr2 p hp).2, rfl, rfl⟩) (ea_cons (ev_v 3 rfl) (ea_cons (ev_v 2 rfl) ea_nil))) (Nat.le_of_ble_eq_true rfl)
      · intro x hx y hy
        obtain ⟨a, _, rfl⟩ := List.mem_map.mp hx
        obtain ⟨b, _, rfl⟩ := List.mem_map.mp hy
        exact alike_Ask a b
      · refine .inl fun x hx => ?_
        obtain ⟨a, _, rfl⟩ := List.mem_map.mp hx
        exact ⟨_, _, rfl⟩
      · intro x hx
        obtain ⟨a, ha, rfl⟩ := List.mem_map.mp hx
        have h3 := depth_Ask a
        have h4 := hr.u 200
        have h5 := (hr2 a ha).2
        show (A.deeper _).units + 2 + (encAsk a).depth < cLine
        omega
    · have hmem : ∀ p ∈ sortA rows, p ∈ rows := fun p hp => by
        unfold sortA at hp
        exact (List.mergeSort_perm _ _).mem_iff.mp hp
      have hlay : PyData.canLay0 (.list ((sortA rows).map encAsk)) = true := by
        have := (lay_all encAsk 200 (sortA rows) fun p hp => ⟨by
          have := lay_S ok (hr2 p (hmem p hp)).1
          simp [encAsk, PyData.canLay0, PyData.canLayAll0, this], by
          have := depth_Ask p
          have := (hr2 p (hmem p hp)).2
          omega⟩).1
        simpa [PyData.canLay0] using this
      have hu := hr.u 10
      have test : ∀ k, decide (sortA rows = []) = k → EVt (cxOf CX0 P w K mg base N_first_ask "first_ask" (defScope (top 62)) f cdv A outer s H E).nox (.Compare (.Name "some" default) [.NotEq] [.List [] default] default) [] k → True := fun _ _ _ => trivial
      cases hsr : sortA rows with
      | nil =>
        rw [hsr] at hlay
        refine sv_one (sv_ret (ev_if (k := false) (bT (et_c (ec_neR (ev_v 1 rfl) (EVn.toD (ev_lst ea_nil (Nat.zero_le _))) hlay rfl ?_)) (by rw [eqv_nil]; rfl)) (fun q => nomatch q) (fun _ => ev_non)) ?_)
        · have : min (PyData.depth (.list (List.map encAsk []))) (PyData.depth (.list [])) ≤ 1 := Nat.le_trans (Nat.min_le_right _ _) (by simp [PyData.depth, PyData.depthAll])
          show (A.deeper _).units + _ < cLine
          omega
        · show PyData.none = ansD rows
          unfold ansD
          rw [hsr]
      | cons p rest =>
        rw [hsr] at hlay
        refine sv_one (sv_ret (ev_if (k := true) (bT (et_c (ec_neR (ev_v 1 rfl) (EVn.toD (ev_lst ea_nil (Nat.zero_le _))) hlay rfl ?_)) (by rw [eqv_nil]; rfl)) (fun _ => ev_tup (ea_cons (ev_ixT (ev_ixL (d := encAsk p) (ev_v 1 rfl) ev_int (atI_nat (j := 0) rfl)) ev_int rfl) (ea_cons (ev_ixT (ev_ixL (d := encAsk p) (ev_v 1 rfl) ev_int (atI_nat (j := 0) rfl)) ev_int rfl) ea_nil)) (Nat.le_of_ble_eq_true rfl)) (fun q => nomatch q)) ?_)
        · have : min (PyData.depth (.list (List.map encAsk (p :: rest)))) (PyData.depth (.list [])) ≤ 1 := Nat.le_trans (Nat.min_le_right _ _) (by simp [PyData.depth, PyData.depthAll])
          show (A.deeper _).units + _ < cLine
          omega
        · show PyData.tuple _ = ansD rows
          unfold ansD
          rw [hsr]
def spDouble (ds : List D) (r : D) : Prop := ∃ (v : Wd) (is : List Inst) (m : Nat) (g : Fnd), Small v ∧ (∀ i ∈ is, OkI v i) ∧ is.length ≤ 8 ∧ Runs v is m [] g ∧ ds = [W v, encIs is] ∧ r = doubleM v g
abbrev N_found_double : List Str := ["world", "instances", "table", "rows", "state", "found", "place", "code"]
theorem sc_found_double : FnScope N_found_double ["world", "instances"] (defScope (top 69)) := ⟨rfl, rfl, rfl, by decide +kernel, rfl, by decide +kernel, by decide +kernel⟩
theorem ok_found_double (B : Blt mg) (D1 : DefD P w K mg base "all_states" 112 ["world", "plans"] (spAll w)) (D2 : DefD P w K mg base "plan_of" 1 ["instances"] spPlan) (D3 : DefD P w K mg base "first_ask" 112 ["rows"] spAsk) (D4 : DefD P w K mg base "trait_names" 1 ["world"] spNames) (F : Has K mg "found_double" (top 69)) : DefD P w K mg base "found_double" 113 ["world", "instances"] spDouble := by
  refine def_mk F (fun _ _ _ _ _ _ us hl => match us, hl with | [_, _], _ => rfl) fun f fd F => fn_D F sc_found_double (fun ds d h => ?_) fun cdv A outer s H E ds d h hr => ?_
  · obtain ⟨v, is, _, _, _, _, _, _, rfl, _⟩ := h
    rfl
  · obtain ⟨v, is, m0, g, sm, oa, hl, hrun, rfl, rfl⟩ := h
    have ok := sm.ok
    have gd := runs_good sm hrun (good_nil v is)
    have gl := good_len sm gd
    have hst : ∀ p ∈ g, StOk v p.1 := fun p hp => (key_st gd (List.mem_map_of_mem hp)).2
    have hn3 : (names v).length ≤ 3 := by unfold names; rw [List.length_map]; exact sm.t3
    have hrl : ∀ n, ((g.take n).flatMap twoOf).length ≤ 324 := fun n => by
      have h1 := flat_len twoOf 3 (g.take n) fun p hp => by
        have := two_len p
        have := (hst p (List.mem_of_mem_take hp)).1
        omega
      rw [List.length_take] at h1
      omega
    refine sv_cons (sv_parDL (i := 2) (j := 3) (d := mkN w (convF g)) rfl sc_found_double.nd rfl rfl (by first | exact Or.inl rfl | exact Or.inr rfl) (by first | exact Or.inl rfl | exact Or.inr rfl) (by decide) (ev_call D1 (hr.mono (by decide)) rfl (eq_cons (ev_v 0 rfl) (eq_cons (EVn.toD (ev_lst (ea_cons (ev_call D2 (hr.mono (by decide)) rfl (eq_cons (ev_v 1 rfl) eq_nil) ⟨is, rfl, rfl⟩) ea_nil) (Nat.le_of_ble_eq_true rfl))) eq_nil)) ⟨v, is, m0, g, sm, oa, hl, hrun, rfl, rfl⟩) ?_)
    have kF := kok_F gd.nd
    have hks : ((convF g).map fun p => p.1.data) = g.map fun p => encSt p.1 := by rw [keys_convF, List.map_map]; rfl
    refine sv_cons (sv_for (xs := g) (enc := fun p => encSt p.1) (t := .one 4) (fun n env' => ∃ a, env' = [some (.dat (W v)), some (.dat (encIs is)), some (.dat (mkN w (convF g))), some (.own (.list (((g.take n).flatMap twoOf).map fun p => .tuple (encRow p)))), a, none, none, none]) PassesOwn.never rfl
      (by rw [← hks]; exact iv_N (ev_v 2 rfl)) ⟨none, rfl⟩ (fun _ => t_one 4 sc_found_double.nd) ?_ ?_)
    · rintro n ⟨st, x⟩ _ hn ⟨a, rfl⟩
      have hm := List.mem_of_getElem? hn
      have hlook : lookF g st = some x := lookF_of gd.nd hm
      have hcl := (hst _ hm).1
      have h324 := hrl n
      have htl := two_len (st, x)
      have hE : (((st.codes.zipIdx).filter fun c => decide (((c.1 : Nat) : Int) = 2)).map fun c => PyData.tuple (encRow (c.2, x))) = (twoOf (st, x)).map fun p => .tuple (encRow p) := by
        unfold twoOf
        rw [List.map_map]
        rfl
      refine sv_one (sv_extend (es' := ((st.codes.zipIdx).filter fun c => decide (((c.1 : Nat) : Int) = 2)).map fun c => .tuple (encRow (c.2, x))) (pe_bm PySem.F.plainAttrs_list PySem.F.slot_list_extend PySem.F.type_list_extend mt_extend (pv 3) (pa_cons pe_w pa_nil)) rfl
        (en_filT (xs := st.codes.zipIdx) (is := [6, 7]) (own := [("place", 6), ("code", 7)]) (encs := fun c => [.int (c.2 : Nat), .int (c.1 : Nat)]) (fun c => decide (((c.1 : Nat) : Int) = 2)) (fun c => .tuple (encRow (c.2, x))) sc_found_double.nd (blkOk_by (N := N_found_double) (sc := defScope (top 69)) (by decide +kernel)) (by decide) rfl (w_enumT (xs := st.codes) (f := fun c => .int (c : Nat)) B (ev_ixT (ev_ixT (d := .tuple [.tuple (codD st.codes)]) (ev_v 4 rfl) ev_int rfl) ev_int rfl)) ?_ (fun _ => rfl) (fun _ _ _ _ _ => g_two rfl (g_one 6 sc_found_double.nd) (g_one 7 sc_found_double.nd))
          (fun c _ _ _ _ _ _ => ?_) (fun c _ _ _ _ _ _ _ => ?_) (fun _ => rfl)) (by rw [hE]; exact noLs_Row _) ?_ ⟨some (.dat (encSt st)), ?_⟩)
      · rw [List.length_zipIdx]
        have hcl : st.codes.length = (names v).length := hcl
        exact Nat.le_trans (show st.codes.length ≤ 3 by omega) (by decide)
      · exact et_c (ec_eqI (ev_v 7 rfl) ev_int)
      · exact ev_tup (ea_cons (ev_v 6 rfl) (ea_cons (ev_getN (d := encS x) (hr.u 20) (ev_v 2 rfl) (EVd.is (ev_v 4 rfl) (keySt_data st).symm) kF (Nat.le_trans (keySt_depth st) (by decide)) (by rw [look_convF, hlook]; rfl)) ea_nil)) (Nat.le_of_ble_eq_true rfl)
      · rw [hE, List.length_map, List.length_map]
        have : (1000 : Nat) ≤ sizeLine := by decide
        have hcl : st.codes.length = (names v).length := hcl
        have htl : (twoOf (st, x)).length ≤ st.codes.length := htl
        omega
      · rw [hE, flat_take twoOf hn, List.map_append]
        rfl
    · rintro _ ⟨a, rfl⟩
      rw [List.take_length]
      have h324 := hrl g.length
      rw [List.take_length] at h324
      have hmem : ∀ p ∈ rowsD g, okS v p.2 = true ∧ p.2.depth ≤ 108 ∧ p.1 < (names v).length := fun p hp => by
        obtain ⟨q, hq, hp⟩ := List.mem_flatMap.mp hp
        unfold twoOf at hp
        obtain ⟨c, hc, rfl⟩ := List.mem_map.mp hp
        have h1 := (List.mem_filter.mp hc).1
        refine ⟨(gd.st q hq).2, good_depth sm gd hq, ?_⟩
        have h2 := List.mem_zipIdx h1
        have h3 := (hst q hq).1
        show c.2 < (names v).length
        omega
      refine sv_cons (s_setA (d := ansD (rowsD g)) 5 sc_found_double.nd (ev_call D3 (hr.mono (by decide)) rfl (eq_cons (ev_v 3 rfl) eq_nil) ⟨v, rowsD g, ok, fun p hp => ⟨(hmem p hp).1, (hmem p hp).2.1⟩, Nat.le_trans h324 (by decide), rfl, rfl⟩) ?_ ?_)
      · unfold ansD
        split
        · rfl
        · rename_i p _ _
          have := noL_S p.2
          simp [noL, noLs, this]
      · cases hsr : sortA (rowsD g) with
        | nil =>
          have ha : ansD (rowsD g) = .none := by unfold ansD; rw [hsr]
          rw [ha]
          refine sv_one (sv_ret (ev_if (k := false) (c_notNF (ev_v 5 rfl)) (fun q => nomatch q) fun _ => ev_non) ?_)
          show PyData.none = doubleM v g
          unfold doubleM
          rw [hsr]
        | cons p rest =>
          have ha : ansD (rowsD g) = .tuple [.int (p.1 : Nat), encS p.2] := by unfold ansD; rw [hsr]
          have hp : p ∈ rowsD g := by
            have : p ∈ sortA (rowsD g) := by rw [hsr]; exact List.mem_cons_self
            unfold sortA at this
            exact (List.mergeSort_perm _ _).mem_iff.mp this
          have hlt := (hmem p hp).2.2
          obtain ⟨nm, e1⟩ : ∃ nm, (names v)[p.1]? = some nm := ⟨_, List.getElem?_eq_getElem hlt⟩
          rw [ha]
          refine sv_one (sv_ret (ev_if (k := true) (c_notNT (ev_v 5 rfl)) (fun _ => ev_tup (ea_cons (ev_ixL (d := .str nm) (ev_call D4 (hr.mono (by decide)) rfl (eq_cons (ev_v 0 rfl) eq_nil) ⟨v, ok.t4, rfl, rfl⟩) (ev_ixT (d := .int (p.1 : Nat)) (ev_v 5 rfl) ev_int rfl) (atI_nat (j := p.1) (by rw [List.getElem?_map, e1]; rfl))) (ea_cons (ev_ixT (d := encS p.2) (ev_v 5 rfl) ev_int rfl) ea_nil)) (Nat.le_of_ble_eq_true rfl)) fun q => nomatch q) ?_)
          show PyData.tuple _ = doubleM v g
          unfold doubleM
          rw [hsr]
          show _ = PyData.tuple [PyData.str ((names v)[p.1]?.getD ""), encS p.2]
          rw [e1]
          rfl
def spClear (ds : List D) (r : D) : Prop := ∃ (v : Wd) (is : List Inst) (m : Nat) (g : Fnd), Small v ∧ (∀ i ∈ is, OkI v i) ∧ is.length ≤ 8 ∧ Runs v is m [] g ∧ ds = [W v, encIs is] ∧ r = .bool (isNon (doubleM v g))
abbrev N_is_clear : List Str := ["world", "others"]
theorem sc_is_clear : FnScope N_is_clear ["world", "others"] (defScope (top 70)) := ⟨rfl, rfl, rfl, by decide +kernel, rfl, by decide +kernel, by decide +kernel⟩
theorem ok_is_clear (B : Blt mg) (D1 : DefD P w K mg base "check_set" 22 ["world", "instances"] spCheckSet) (D2 : DefD P w K mg base "found_double" 113 ["world", "instances"] spDouble) (F : Has K mg "is_clear" (top 70)) : DefD P w K mg base "is_clear" 114 ["world", "others"] spClear := by
  refine def_mk F (fun _ _ _ _ _ _ us hl => match us, hl with | [_, _], _ => rfl) fun f fd F => fn_D F sc_is_clear (fun ds d h => ?_) fun cdv A outer s H E ds d h hr => ?_
  · obtain ⟨v, is, _, _, _, _, _, _, rfl, _⟩ := h
    rfl
  · obtain ⟨v, is, m0, g, sm, oa, hl, hrun, rfl, rfl⟩ := h
    refine sv_cons (sv_drop (ev_call D1 (hr.mono (by decide)) rfl (eq_cons (ev_v 0 rfl) (eq_cons (ev_v 1 rfl) eq_nil)) ⟨v, is, sm.ok, oa, hl, rfl, rfl⟩) ?_)
    exact sv_one (sv_ret (ev_isN (ev_call D2 (hr.mono (by decide)) rfl (eq_cons (ev_v 0 rfl) (eq_cons (ev_v 1 rfl) eq_nil)) ⟨v, is, m0, g, sm, oa, hl, hrun, rfl, rfl⟩)) rfl)
end
end Tr
set_option Elab.async false
set_option linter.all false
set_option maxRecDepth 100000
set_option maxHeartbeats 1000000
set_option autoImplicit false
/-! DT1: expressions that change one list at T (the town) and nothing else; what they give is told by P -/
namespace DL
open PySem PySem.Spec PyProof.Rows L2
def Twn (T : Addr) (L n : Nat) (H : Hp) : Prop := ∃ xs : List Int, H T = some (.lst (xs.map V.int)) ∧ xs.length = L + 1 ∧ ∃ f : Nat, xs[0]? = some (f : Int) ∧ f ≤ n
theorem Twn.le {T : Addr} {L n m : Nat} {H : Hp} (h : Twn T L n H) (k : n ≤ m) : Twn T L m H := by
  obtain ⟨xs, h1, h2, f, h3, h4⟩ := h
  exact ⟨xs, h1, h2, f, h3, Nat.le_trans h4 k⟩
theorem Twn.ne {T : Addr} {L n : Nat} {H : Hp} (h : Twn T L n H) : H T ≠ none := by
  obtain ⟨xs, h1, _⟩ := h
  rw [h1]
  exact fun z => nomatch z
theorem Twn.same {T : Addr} {L n : Nat} {H H1 : Hp} (h : Twn T L n H) (s : Same H H1) : Twn T L n H1 := by
  obtain ⟨xs, h1, h2⟩ := h
  exact ⟨xs, s _ _ h1, h2⟩
structure GrowT (T : Addr) (Hc H Hc1 H1 : Hp) : Prop where
  hh : ∀ a o, a ≠ T → H a = some o → H1 a = some o
  cc : Same Hc Hc1
  nw : ∀ a, H a ≠ none → Hc a = none → Hc1 a = none
  cor : Cor Hc1 H1
theorem Grow.tt {T : Addr} {Hc H Hc1 H1 : Hp} (g : Grow Hc H Hc1 H1) : GrowT T Hc H Hc1 H1 := ⟨fun a o _ e => g.hh a o e, g.cc, g.nw, g.cor⟩
theorem GrowT.trans {T : Addr} {Hc H Hc1 H1 Hc2 H2 : Hp} (a : GrowT T Hc H Hc1 H1) (b : GrowT T Hc1 H1 Hc2 H2) (h1 : H1 T ≠ none) : GrowT T Hc H Hc2 H2 :=
  ⟨fun p o n e => b.hh p o n (a.hh p o n e), a.cc.trans b.cc, fun p k1 k2 => b.nw p (by
    by_cases h : p = T
    · rw [h]; exact h1
    · intro z
      cases q : H p with
      | none => exact k1 q
      | some o => rw [a.hh p o h q] at z; cases z) (a.nw p k1 k2), b.cor⟩
def big60 : Nat := 2 ^ 60
abbrev twM (T : Addr) : D := .dict [(.int (T : Nat), .none)]
/-- e, drawing c times at most -/
def EVz (X : Cx) (T : Addr) (L c : Nat) (e : Expr) (env : DEnv) (P : D → Prop) : Prop := ∀ (n : Nat) (Hc : Hp) (σ : L2.St) (H : Hp), DSX X.K Hc σ H env → Twn T L n H → Hc T = none → n + c ≤ big60 → ∀ Q : VK,
  (∀ v d Hc1 H1, GrowT T Hc H Hc1 H1 → Twn T L (n + c) H1 → Dq X.K Hc1 v d → P d → Q v H1) → WX X e σ H Q
/-- .. a new list -/
def EVzn (X : Cx) (T : Addr) (L c : Nat) (e : Expr) (env : DEnv) (P : List D → Prop) : Prop := ∀ (n : Nat) (Hc : Hp) (σ : L2.St) (H : Hp), DSX X.K Hc σ H env → Twn T L n H → Hc T = none → n + c ≤ big60 → ∀ Q : VK,
  (∀ a vs ds Hc1 H1, GrowT T Hc H Hc1 H1 → Twn T L (n + c) H1 → H a = none → Hc1 a = none → H1 a = some (.lst vs) → DpAll X.K Hc1 vs ds → P ds → Q (.ref a) H1) → WX X e σ H Q
def EVzt (X : Cx) (T : Addr) (L c : Nat) (e : Expr) (env : DEnv) (P : Bool → Prop) : Prop := ∀ (n : Nat) (Hc : Hp) (σ : L2.St) (H : Hp), DSX X.K Hc σ H env → Twn T L n H → Hc T = none → n + c ≤ big60 → ∀ Q : Bool → Hp → Prop,
  (∀ b Hc1 H1, GrowT T Hc H Hc1 H1 → Twn T L (n + c) H1 → P b → Q b H1) → WT X e σ H Q
def EVzs (X : Cx) (T : Addr) (L c : Nat) (es : List Expr) (env : DEnv) (P : List D → Prop) : Prop := ∀ (n : Nat) (Hc : Hp) (σ : L2.St) (H : Hp), DSX X.K Hc σ H env → Twn T L n H → Hc T = none → n + c ≤ big60 → ∀ Q : List V → Hp → Prop,
  (∀ vs ds Hc1 H1, GrowT T Hc H Hc1 H1 → Twn T L (n + c) H1 → DqAll X.K Hc1 vs ds → P ds → Q vs H1) → WA X es σ H Q
section
variable {X : Cx} {T : Addr} {L c c1 c2 : Nat} {e a b o : Expr} {es : List Expr} {env : DEnv} {pos p : Pos} {d : D} {P P1 P2 : D → Prop} {Ps : List D → Prop}
theorem DSX.growT {K : PySem.W.Frag} {Hc H Hc1 H1 : Hp} {σ : L2.St} (h : DSX K Hc σ H env) (g : GrowT T Hc H Hc1 H1) : DSX K Hc1 σ H1 env :=
  ⟨g.cor, h.len, fun i d e => by
    obtain ⟨v, a, b⟩ := h.at_ i d e
    exact ⟨v, a, b.same g.cc⟩⟩
theorem ez_d (h : EVd X e env d) (hp : P d) : EVz X T L 0 e env P := fun n Hc σ H hs t ht hb Q q => h Hc σ H hs Q fun v Hc1 H1 g p => q v d Hc1 H1 g.tt (t.same g.hh) p hp
theorem ezn_n {ds : List D} (h : EVn X e env ds) (hp : Ps ds) : EVzn X T L 0 e env Ps := fun n Hc σ H hs t ht hb Q q => h Hc σ H hs Q fun a vs Hc1 H1 g n1 n2 p r => q a vs ds Hc1 H1 g.tt (t.same g.hh) n1 n2 p r hp
theorem ezt_t {k : Bool} {Pb : Bool → Prop} (h : EVt X e env k) (hp : Pb k) : EVzt X T L 0 e env Pb := fun n Hc σ H hs t ht hb Q q => h Hc σ H hs Q fun Hc1 H1 g => q k Hc1 H1 g.tt (t.same g.hh) hp
theorem EVz.weak (h : EVz X T L c e env P) (hc : c ≤ c1) (hp : ∀ d, P d → P1 d) : EVz X T L c1 e env P1 := fun n Hc σ H hs t ht hb Q q => h n Hc σ H hs t ht (by omega) Q fun v d Hc1 H1 g t1 r k => q v d Hc1 H1 g (t1.le (by omega)) r (hp d k)
theorem EVzn.weak {Ps1 : List D → Prop} (h : EVzn X T L c e env Ps) (hc : c ≤ c1) (hp : ∀ d, Ps d → Ps1 d) : EVzn X T L c1 e env Ps1 := fun n Hc σ H hs t ht hb Q q => h n Hc σ H hs t ht (by omega) Q fun a vs ds Hc1 H1 g t1 n1 n2 r1 r k => q a vs ds Hc1 H1 g (t1.le (by omega)) n1 n2 r1 r (hp ds k)
theorem EVzt.weak {Pb Pb1 : Bool → Prop} (h : EVzt X T L c e env Pb) (hc : c ≤ c1) (hp : ∀ d, Pb d → Pb1 d) : EVzt X T L c1 e env Pb1 := fun n Hc σ H hs t ht hb Q q => h n Hc σ H hs t ht (by omega) Q fun b Hc1 H1 g t1 k => q b Hc1 H1 g (t1.le (by omega)) (hp b k)
/-- the new list joins the core -/
theorem ez_n (h : EVzn X T L c e env Ps) (hp : ∀ ds, Ps ds → P (.list ds)) : EVz X T L c e env P := fun n Hc σ H hs t ht hb Q q => h n Hc σ H hs t ht hb Q fun a vs ds Hc1 H1 g t1 n1 n2 r1 r k => by
  obtain ⟨k1, k2⟩ := grow_list g.cor r1 n2
  have neT : a ≠ T := fun z => t.ne (by rw [← z]; exact n1)
  exact q _ _ _ H1 ⟨g.hh, g.cc.trans k2, fun z h1 h2 => by
    have ne : z ≠ a := fun q => h1 (by rw [q]; exact n1)
    rw [upd_ne ne]
    exact g.nw z h1 h2, k1⟩ t1 (show Dq X.K _ _ (.list ds) from L2.Dp.lst (.inl (.inl upd_same)) (r.same k2)) (hp ds k)
theorem ezs_nil (hp : Ps []) : EVzs X T L 0 [] env Ps := fun n Hc σ H hs t ht hb Q q => wa_of pa_nil (q [] [] Hc H (Grow.refl hs.cor).tt t .nil hp)
theorem ezs_cons (h : EVz X T L c1 e env P) (hr : ∀ d, P d → EVzs X T L c2 es env fun ds => Ps (d :: ds)) (hs : starEach (e :: es) X.env = (false, eval e X.env) :: starEach es X.env := by rfl) : EVzs X T L (c1 + c2) (e :: es) env Ps :=
  fun n Hc σ H hd t ht hb Q q => wa_of (pa_cons pe_w pa_w hs) (h n Hc σ H hd t ht (by omega) _ fun x d Hc1 H1 g1 t1 p1 k1 => hr d k1 (n + c1) Hc1 σ H1 (hd.growT g1) t1 (g1.nw T t.ne ht) (by omega) _ fun xs ds Hc2 H2 g2 t2 p2 k2 =>
    q _ _ Hc2 H2 (g1.trans g2 t1.ne) (by rw [← Nat.add_assoc]; exact t2) (.cons (p1.same g2.cc) p2) k2)
theorem ezs_d (h : EVd X e env d) (hr : EVzs X T L c es env fun ds => Ps (d :: ds)) (hs : starEach (e :: es) X.env = (false, eval e X.env) :: starEach es X.env := by rfl) : EVzs X T L c (e :: es) env Ps := by
  have := ezs_cons (Ps := Ps) (T := T) (L := L) (c1 := 0) (c2 := c) (P := fun z => z = d) (ez_d h rfl) (fun z hz => by rw [hz]; exact hr) hs
  rw [Nat.zero_add] at this
  exact this
theorem DqAll.dps {K : PySem.W.Frag} {Hc : Hp} : ∀ {vs : List V} {ds : List D}, DqAll K Hc vs ds → (∀ d ∈ ds, isD d = true) → DpAll K Hc vs ds
  | _, _, .nil, _ => .nil
  | _, _, .cons h t, k => .cons (h.p (k _ List.mem_cons_self)) (t.dps fun d hd => k d (List.mem_cons_of_mem _ hd))
theorem Grow.ttup {Hc H : Hp} {q : Addr} {xs : List V} (cr : Cor Hc H) (h : H q = none) : GrowT T Hc H (upd Hc q (.tup xs)) (upd H q (.tup xs)) := (Grow.new (o := .tup xs) cr h).tt
theorem ez_tup {k : Nat} (h : EVzs X T L c es env fun ds => (∀ d ∈ ds, isD d = true) ∧ ds.length ≤ sizeLine ∧ P (.tuple ds)) : EVz X T L c (.Tuple es k pos) env P := fun n Hc σ H hs t ht hb Q q =>
  wx_of (pe_tup pa_w) (h n Hc σ H hs t ht hb _ fun xs ds Hc1 H1 g1 t1 p1 k1 => ⟨by rw [p1.len]; exact k1.2.1, fun p np => by
    have g2 := Grow.new (o := .tup xs) g1.cor np
    exact q _ _ _ _ (g1.trans g2.tt t1.ne) (t1.same g2.hh) (show Dq X.K _ _ (.tuple ds) from L2.Dp.tup (.inl (.inl upd_same)) ((p1.dps k1.1).same g2.cc)) k1.2.2⟩)
theorem ez_lst (h : EVzs X T L c es env fun ds => (∀ d ∈ ds, isD d = true) ∧ ds.length ≤ sizeLine ∧ Ps ds) : EVzn X T L c (.List es pos) env Ps := fun n Hc σ H hs t ht hb Q q =>
  wx_of (pe_lst pa_w) (h n Hc σ H hs t ht hb _ fun xs ds Hc1 H1 g1 t1 p1 k1 => ⟨by rw [p1.len]; exact k1.2.1, fun p np => by
    have g2 := Grow.own (xs := xs) g1.cor np
    have neT : p ≠ T := fun z => t1.ne (by rw [← z]; exact np)
    have np0 : H p = none := by
      cases e : H p with
      | none => rfl
      | some o => rw [g1.hh p o neT e] at np; cases np
    exact q p xs ds Hc1 _ (g1.trans g2.tt t1.ne) (t1.same g2.hh) np0 (g1.cor.sub.free np) upd_same (p1.dps k1.1) k1.2.2⟩)
end
end DL
set_option Elab.async false
set_option linter.all false
set_option maxRecDepth 100000
set_option maxHeartbeats 1000000
set_option autoImplicit false
/-! DT2: operators, tests, calls, with draws -/
namespace DL
open PySem PySem.Spec PyProof.Rows L2
section
variable {X : Cx} {T : Addr} {L c c1 c2 : Nat} {e a b o t : Expr} {es rest : List Expr} {env : DEnv} {pos p : Pos} {d : D} {P P1 : D → Prop} {P2 : D → D → Prop} {Ps : List D → Prop} {Pa Pb : Bool → Prop}
theorem ez_bin {op : Operator} {r : R2} (ho : OpR X (binaryOp op) r) (ha : EVz X T L c1 a env P1) (hb : ∀ d1, P1 d1 → EVz X T L c2 b env (P2 d1))
    (hr : ∀ d1 d2, P1 d1 → P2 d1 d2 → ∀ x y Hc H, Cor Hc H → Dq X.K Hc x d1 → Dq X.K Hc y d2 → ∀ Q : VK, (∀ v d Hc1 H1, Grow Hc H Hc1 H1 → Dq X.K Hc1 v d → P d → Q v H1) → r x y H Q) : EVz X T L (c1 + c2) (.BinOp a op b pos) env P :=
  fun n Hc σ H hs t ht hb0 Q q => wx_of (pe_op ho pe_w pe_w) (ha n Hc σ H hs t ht (by omega) _ fun x d1 Hc1 H1 g1 t1 p1 k1 => hb d1 k1 (n + c1) Hc1 σ H1 (hs.growT g1) t1 (g1.nw T t.ne ht) (by omega) _ fun y d2 Hc2 H2 g2 t2 p2 k2 =>
    hr d1 d2 k1 k2 x y Hc2 H2 g2.cor (p1.same g2.cc) p2 Q fun v d Hc3 H3 g3 p3 k3 => q v d Hc3 H3 ((g1.trans g2 t1.ne).trans g3.tt t2.ne) (by rw [← Nat.add_assoc]; exact t2.same g3.hh) p3 k3)
def isI (d : D) : Prop := ∃ i : Int, d = .int i
/-- i + draw -/
theorem ez_add {i : Int} (ha : EVd X a env (.int i)) (hb : EVz X T L c b env fun d => ∃ j : Int, d = .int j ∧ P (.int (i + j))) : EVz X T L c (.BinOp a .Add b pos) env P := by
  have := ez_bin (P := P) (pos := pos) op_add (ez_d (T := T) (L := L) (P := fun d => d = .int i) ha rfl) (fun _ _ => hb) fun d1 d2 k1 k2 x y Hc H cr p1 p2 Q q => by
    subst k1
    obtain ⟨j, rfl, k⟩ := k2
    exact ⟨i, j, dp_int p1, dp_int p2, q _ (.int (i + j)) Hc H (Grow.refl cr) (L2.Dp.int _) k⟩
  rw [Nat.zero_add] at this
  exact this
/-- t + (a tuple with draws) -/
theorem ez_catT {ds : List D} (ha : EVd X a env (.tuple ds)) (hb : EVz X T L c b env fun d => ∃ es, d = .tuple es ∧ ds.length + es.length ≤ sizeLine ∧ P (.tuple (ds ++ es))) : EVz X T L c (.BinOp a .Add b pos) env P := by
  have := ez_bin (P := P) (pos := pos) op_catA (ez_d (T := T) (L := L) (P := fun d => d = .tuple ds) ha rfl) (fun _ _ => hb) fun d1 d2 k1 k2 x y Hc H cr p1 p2 Q q => by
    subst k1
    obtain ⟨es, rfl, hz, k⟩ := k2
    obtain ⟨p, xs, rfl, h1, h2⟩ := dp_tupI p1
    obtain ⟨p', ys, rfl, h3, h4⟩ := dp_tupI p2
    have hx := h2.app h4
    refine ⟨p, p', xs, ys, rfl, rfl, sqt_sub cr h1, sqt_sub cr h3, by rw [h2.len, h4.len]; exact hz, fun e1 => ?_, fun _ e2 => ?_, fun _ _ l nl => ?_⟩
    · subst e1
      cases h2
      exact q _ _ Hc H (Grow.refl cr) p2 k
    · subst e2
      cases h4
      exact q _ _ Hc H (Grow.refl cr) p1 (by rw [List.append_nil] at k; exact k)
    · have g4 := Grow.new (o := .tup (xs ++ ys)) cr nl
      exact q _ _ _ _ g4 (show Dq X.K _ _ (.tuple _) from L2.Dp.tup (.inl (.inl upd_same)) (hx.same g4.cc)) k
  rw [Nat.zero_add] at this
  exact this
/-- draw == k -/
theorem ezt_eqI {i : Int} (ha : EVz X T L c a env isI) (hb : EVd X b env (.int i)) : EVzt X T L c (.Compare a [.Eq] [b] pos) env fun _ => True := fun n Hc σ H hs t ht hb0 Q q =>
  wt_of (pt_cmpR op_eq pe_w pe_w nomk) (ha n Hc σ H hs t ht hb0 _ fun x d1 Hc1 H1 g1 t1 p1 k1 => hb Hc1 σ H1 (hs.growT g1) _ fun y Hc2 H2 g2 p2 => by
    obtain ⟨j, rfl⟩ := k1
    rw [dp_int (p1.same g2.cc), dp_int p2]
    exact ⟨rfl, _, rfl, q _ Hc2 H2 (g1.trans g2.tt t1.ne) (t1.same g2.hh) trivial⟩)
/-! and, or -/
def EVzw (X : Cx) (T : Addr) (L c : Nat) (e : Expr) (env : DEnv) (P : Bool → Prop) : Prop := ∀ (n : Nat) (Hc : Hp) (σ : L2.St) (H : Hp), DSX X.K Hc σ H env → Twn T L n H → Hc T = none → n + c ≤ big60 → ∀ Q : Bool → Hp → Prop,
  (∀ b Hc1 H1, GrowT T Hc H Hc1 H1 → Twn T L (n + c) H1 → P b → Q b H1) → ∀ whole pins s, Inv X pins σ H s → wpAny (model X.prog X.w) X.A (isTrue e X.env whole) (TP X pins σ Q) X.xe s
theorem EVzw.tst (h : EVzw X T L c e env Pb) : EVzt X T L c e env Pb := fun n Hc σ H hs t ht hb Q q pins s I => h n Hc σ H hs t ht hb Q q _ pins s I
theorem ezw_of {tt : TT} (pp : PW X e tt) (h : ∀ (n : Nat) (Hc : Hp) (σ : L2.St) (H : Hp), DSX X.K Hc σ H env → Twn T L n H → Hc T = none → n + c ≤ big60 → ∀ Q : Bool → Hp → Prop, (∀ b Hc1 H1, GrowT T Hc H Hc1 H1 → Twn T L (n + c) H1 → Pb b → Q b H1) → tt σ H Q) : EVzw X T L c e env Pb :=
  fun n Hc σ H hs t ht hb Q q whole pins s I => pp.run whole pins s σ H Q I (h n Hc σ H hs t ht hb Q q)
theorem ezw_and1 (h : EVzt X T L c a env Pb) : EVzw X T L c (.BoolOp .And [a] pos) env Pb := ezw_of (pw_and1 pt_w) fun n Hc σ H hs t ht hb Q q => h n Hc σ H hs t ht hb Q q
theorem ezw_or1 (h : EVzt X T L c a env Pb) : EVzw X T L c (.BoolOp .Or [a] pos) env Pb := ezw_of (pw_or1 pt_w) fun n Hc σ H hs t ht hb Q q => h n Hc σ H hs t ht hb Q q
theorem ezw_and (h : EVzt X T L c1 a env Pa) (h2 : Pa true → EVzw X T L c2 (.BoolOp .And (b :: rest) pos) env Pb) (h3 : Pa false → Pb false) : EVzw X T L (c1 + c2) (.BoolOp .And (a :: b :: rest) pos) env Pb :=
  ezw_of (pw_and pt_w pw_w) fun n Hc σ H hs t ht hb Q q => h n Hc σ H hs t ht (by omega) _ fun k Hc1 H1 g t1 pk => by
    cases k with
    | true => exact fun whole pins s I => h2 pk (n + c1) Hc1 σ H1 (hs.growT g) t1 (g.nw T t.ne ht) (by omega) Q (fun b Hc2 H2 g2 t2 pb => q b Hc2 H2 (g.trans g2 t1.ne) (by rw [← Nat.add_assoc]; exact t2) pb) whole pins s I
    | false => exact q false Hc1 H1 g (t1.le (by omega)) (h3 pk)
theorem ezw_or (h : EVzt X T L c1 a env Pa) (h2 : Pa false → EVzw X T L c2 (.BoolOp .Or (b :: rest) pos) env Pb) (h3 : Pa true → Pb true) : EVzw X T L (c1 + c2) (.BoolOp .Or (a :: b :: rest) pos) env Pb :=
  ezw_of (pw_or pt_w pw_w) fun n Hc σ H hs t ht hb Q q => h n Hc σ H hs t ht (by omega) _ fun k Hc1 H1 g t1 pk => by
    cases k with
    | false => exact fun whole pins s I => h2 pk (n + c1) Hc1 σ H1 (hs.growT g) t1 (g.nw T t.ne ht) (by omega) Q (fun b Hc2 H2 g2 t2 pb => q b Hc2 H2 (g.trans g2 t1.ne) (by rw [← Nat.add_assoc]; exact t2) pb) whole pins s I
    | true => exact q true Hc1 H1 g (t1.le (by omega)) (h3 pk)
theorem ez_if (h : EVzt X T L c1 t env Pb) (h1 : Pb true → EVz X T L c2 a env P) (h2 : Pb false → EVz X T L c2 b env P) : EVz X T L (c1 + c2) (.IfExp t a b pos) env P := fun n Hc σ H hs tt ht hb Q q =>
  wx_of (pe_ifExp pt_w pe_w pe_w) (h n Hc σ H hs tt ht (by omega) _ fun k Hc1 H1 g t1 pk => by
    cases k with
    | true => exact h1 pk (n + c1) Hc1 σ H1 (hs.growT g) t1 (g.nw T tt.ne ht) (by omega) Q fun v d Hc2 H2 g2 t2 p2 k2 => q v d Hc2 H2 (g.trans g2 t1.ne) (by rw [← Nat.add_assoc]; exact t2) p2 k2
    | false => exact h2 pk (n + c1) Hc1 σ H1 (hs.growT g) t1 (g.nw T tt.ne ht) (by omega) Q fun v d Hc2 H2 g2 t2 p2 k2 => q v d Hc2 H2 (g.trans g2 t1.ne) (by rw [← Nat.add_assoc]; exact t2) p2 k2)
/-! xs[draw] -/
theorem ez_ixL {ds : List D} (ha : EVd X a env (.list ds)) (hb : EVz X T L c b env fun d => ∃ (i : Nat) (y : D), d = .int (i : Nat) ∧ ds[i]? = some y ∧ P y) (hs : PlainIx b := by exact fun _ _ => rfl) : EVz X T L c (.Subscript a b pos) env P := fun n Hc σ H hd t ht hb0 Q q =>
  wx_of (pe_ix ix_list pe_w pe_w hs) (ha Hc σ H hd _ fun x Hc1 H1 g1 p1 => hb n Hc1 σ H1 (hd.grow g1) (t.same g1.hh) (g1.nw T t.ne ht) hb0 _ fun y d Hc2 H2 g2 t2 p2 k2 => by
    obtain ⟨i, z, rfl, hz, k⟩ := k2
    obtain ⟨p, xs, rfl, h1, h2⟩ := dp_lstI (p1.same g2.cc)
    obtain ⟨v, h3, h4⟩ := h2.get hz
    exact ⟨p, xs, (i : Nat), v, rfl, dp_int p2, sql_sub g2.cor h1, atI_nat h3, q v z Hc2 H2 (g1.tt.trans g2 (t.same g1.hh).ne) t2 h4.q k⟩)
/-! built-ins on values with draws -/
theorem ez_callTy {x : Str} {T' : String} {r : List V → Hp → VK → Prop} (hc : CallR X (.type T') r) (hg : Gl X x) (hm : X.mg x = none) (hv : bootBuiltins x = some (.type T')) (ha : EVzs X T L c (e :: es) env Ps)
    (hr : ∀ vs ds Hc H, Cor Hc H → DqAll X.K Hc vs ds → Ps ds → ∀ Q : VK, (∀ v d Hc1 H1, Grow Hc H Hc1 H1 → Dq X.K Hc1 v d → P d → Q v H1) → r vs H Q)
    (hn : x ≠ "__name__" := by decide) (hdb : (x == ("__debug__" : Str)) = false := by decide)
    (he : starEach (e :: es) X.env = (false, eval e X.env) :: starEach es X.env := by rfl) (hpl : (backTo pos (starEach es X.env)).any (·.1) = false := by rfl) : EVz X T L c (.Call (.Name x p) (e :: es) [] pos) env P := fun n Hc σ H hs t ht hb Q q =>
  wx_of (pe_callTy hc hg hm hv pa_w hn hdb he hpl) (ha n Hc σ H hs t ht hb _ fun vs ds Hc1 H1 g t1 p k => hr vs ds Hc1 H1 g.cor p k Q fun v d Hc2 H2 g2 p2 k2 => q v d Hc2 H2 (g.trans g2.tt t1.ne) (t1.same g2.hh) p2 k2)
/-- tuple(xs), xs a list made with draws -/
theorem ez_tuple (ha : EVz X T L c a env fun d => ∃ ds, d = .list ds ∧ P (.tuple ds)) (hg : Gl X "tuple") (hm : X.mg "tuple" = none) (he : starEach (a :: []) X.env = (false, eval a X.env) :: starEach [] X.env := by rfl) : EVz X T L c (.Call (.Name "tuple" p) [a] [] pos) env P := by
  have h1 := ezs_cons (Ps := fun ds => ∃ xs, ds = [.list xs] ∧ P (.tuple xs)) (c2 := 0) ha (fun d ⟨ds, e, k⟩ => ezs_nil ⟨ds, by rw [e], k⟩) he
  exact ez_callTy call_tuple_of hg hm (by decide +kernel) h1 (fun vs ds Hc H cr h k Q q => by
    obtain ⟨xs, rfl, k⟩ := k
    cases h with
    | cons h t =>
      cases t
      obtain ⟨p', us, rfl, h1, h2⟩ := dp_lstI (show Dp X.K Hc _ (.list xs) from h)
      refine ⟨_, _, rfl, .inl ⟨sql_sub cr h1, fun l nl => ?_⟩⟩
      have g := Grow.new (o := .tup us) cr nl
      exact q _ _ _ _ g (show Dq X.K _ _ (.tuple _) from L2.Dp.tup (.inl (.inl upd_same)) (h2.same g.cc)) k) (he := he) (hpl := by rfl)
end
/-! ### promises with draws -/
def spZ (K : PySem.W.Frag) (c : Nat) (pre : Addr → Nat → List D → Prop) (post : List D → D → Prop) : Sp := fun vs H Q _ => ∃ (T : Addr) (L n : Nat) (Hc : Hp) (ds : List D), Cor Hc H ∧ DqAll K Hc vs ds ∧ Twn T L n H ∧ Hc T = none ∧ n + c ≤ big60 ∧ pre T L ds ∧
  ∀ v d Hc1 H1, GrowT T Hc H Hc1 H1 → Twn T L (n + c) H1 → Dq K Hc1 v d → post ds d → Q v H1
abbrev DefZ (P : Program) (w : World) (K : PySem.W.Frag) (mg : Str → Option Value) (base : Heap) (x : Str) (k : Nat) (ps : List Str) (c : Nat) (pre : Addr → Nat → List D → Prop) (post : List D → D → Prop) : Prop := DefK P w K mg base x k ps (spZ K c pre post)
section
variable {X : Cx} {T : Addr} {L c c1 : Nat} {e : Expr} {es : List Expr} {env : DEnv} {pos p : Pos} {P : D → Prop} {x : Str} {k : Nat} {ps : List Str} {pre : Addr → Nat → List D → Prop} {post : List D → D → Prop}
theorem ez_call (F : DefZ X.prog X.w X.K X.mg X.base x k ps c pre post) (hr : Room k X.A) (hg : Gl X x) (ha : EVzs X T L c1 (e :: es) env fun ds => pre T L ds ∧ ∀ d, post ds d → P d) (hdb : (x == ("__debug__" : Str)) = false := by decide)
    (he : starEach (e :: es) X.env = (false, eval e X.env) :: starEach es X.env := by rfl) (hpl : (backTo pos (starEach es X.env)).any (·.1) = false := by rfl) : EVz X T L (c1 + c) (.Call (.Name x p) (e :: es) [] pos) env P := fun n Hc σ H hs t ht hb0 Q q => by
  obtain ⟨f, fd, hm, hk, hb, ok⟩ := F.ex
  exact wx_of (pe_call ok hr hg hm hk hb .nil pass0 pa_w hdb he hpl) (ha n Hc σ H hs t ht (by omega) _ fun vs ds Hc1 H1 g t1 pa pk => by
    rw [List.append_nil]
    exact ⟨T, L, n + c1, Hc1, ds, g.cor, pa, t1, g.nw T t.ne ht, by omega, pk.1, fun v d Hc2 H2 g2 t2 p2 k2 => q v d Hc2 H2 (g.trans g2 t1.ne) (by rw [← Nat.add_assoc]; exact t2) p2 (pk.2 d k2)⟩)
end
end DL
set_option Elab.async false
set_option linter.all false
set_option maxRecDepth 100000
set_option maxHeartbeats 1000000
set_option autoImplicit false
/-! DT3: statements with draws -/
namespace DL
open PySem PySem.Spec PyProof.Rows L2
structure DSz (K : PySem.W.Frag) (T : Addr) (L : Nat) (Hc0 H0 Hc : Hp) (σ : L2.St) (H : Hp) (env : SEnv) (n : Nat) : Prop where
  gr : GrowT T Hc0 H0 Hc H
  dom : ∀ a, H0 a ≠ none → H a ≠ none
  h0t : H0 T ≠ none
  hct : Hc T = none
  tw : Twn T L n H
  len : env.length = σ.length
  dat : ∀ (i : Nat) (d : D), env[i]? = some (some (.dat d)) → ∃ v, σ[i]? = some (some v) ∧ Dq K Hc v d
  own : ∀ (i : Nat) (d : D), env[i]? = some (some (.own d)) → ∃ a o, σ[i]? = some (some (.ref a)) ∧ H0 a = none ∧ Hc a = none ∧ H a = some o ∧ TopO K Hc a o d
  sep : ∀ (i j : Nat) (d e : D) (a : Addr), env[i]? = some (some (.own d)) → env[j]? = some (some (.own e)) → σ[i]? = some (some (.ref a)) → σ[j]? = some (some (.ref a)) → i = j
/-- the heap's part that stood at the entry -/
def bas (H0 H : Hp) : Hp := fun a => match H0 a with
  | some _ => H a
  | none => none
theorem bas_some {H0 H : Hp} {a : Addr} (h : H0 a ≠ none) : bas H0 H a = H a := by
  unfold bas
  cases e : H0 a with
  | none => exact absurd e h
  | some o => rfl
theorem bas_none {H0 H : Hp} {a : Addr} (h : H0 a = none) : bas H0 H a = none := by unfold bas; rw [h]
section
variable {K : PySem.W.Frag} {T : Addr} {L n : Nat} {Hc0 H0 Hc H Hc1 H1 : Hp} {σ σ' : L2.St} {env env' : SEnv}
theorem DSz.dsc (q : DSz K T L Hc0 H0 Hc σ H env n) : DSc K Hc (bas H0 H) Hc σ H env := by
  refine ⟨⟨fun a o e => ?_, Same.refl _, fun a h1 h2 => h2, q.gr.cor⟩, q.len, q.dat, fun i d e => ?_, q.sep⟩
  · by_cases h : H0 a = none
    · rw [bas_none h] at e; cases e
    · rw [bas_some h] at e; exact e
  · obtain ⟨a, o, h1, h2, h3, h4, h5⟩ := q.own i d e
    exact ⟨a, o, h1, bas_none h2, h3, h4, h5⟩
theorem DSz.growT_of (q : DSz K T L Hc0 H0 Hc σ H env n) (g : Grow Hc (bas H0 H) Hc1 H1) : GrowT T Hc0 H0 Hc1 H1 ∧ Twn T L n H1 ∧ Hc1 T = none ∧ ∀ a, H0 a ≠ none → H1 a ≠ none := by
  have ex : ∀ a o, H0 a ≠ none → H a = some o → H1 a = some o := fun a o h e => g.hh a o (by rw [bas_some h]; exact e)
  have dm : ∀ a, H0 a ≠ none → H1 a ≠ none := fun a h => by
    cases e : H a with
    | none => exact absurd e (q.dom a h)
    | some o => rw [ex a o h e]; exact fun z => nomatch z
  refine ⟨⟨fun a o ne e => ex a o (by rw [e]; exact fun z => nomatch z) (q.gr.hh a o ne e), q.gr.cc.trans g.cc, fun a h1 h2 => g.nw a (by rw [bas_some h1]; exact q.dom a h1) (q.gr.nw a h1 h2), g.cor⟩, ?_, g.nw T (by rw [bas_some q.h0t]; exact q.tw.ne) q.hct, dm⟩
  obtain ⟨xs, h1, h2⟩ := q.tw
  exact ⟨xs, ex T _ q.h0t h1, h2⟩
theorem DSz.back (q : DSz K T L Hc0 H0 Hc σ H env n) (r : DSc K Hc (bas H0 H) Hc1 σ' H1 env') : DSz K T L Hc0 H0 Hc1 σ' H1 env' n := by
  obtain ⟨g1, g2, g3, g4⟩ := q.growT_of r.gr
  refine ⟨g1, g4, q.h0t, g3, g2, r.len, r.dat, fun i d e => ?_, r.sep⟩
  obtain ⟨a, o, h1, h2, h3, h4, h5⟩ := r.own i d e
  refine ⟨a, o, h1, ?_, h3, h4, h5⟩
  cases e2 : H0 a with
  | none => rfl
  | some u =>
    have h6 : H0 a ≠ none := by rw [e2]; exact fun z => nomatch z
    rw [bas_some h6] at h2
    exact absurd h2 (q.dom a h6)
theorem DSz.x (q : DSz K T L Hc0 H0 Hc σ H env n) : DSX K Hc σ H (vis env) := q.dsc.x
/-- after growth with draws -/
theorem DSz.grow (q : DSz K T L Hc0 H0 Hc σ H env n) {m : Nat} (g : GrowT T Hc H Hc1 H1) (t : Twn T L m H1) : DSz K T L Hc0 H0 Hc1 σ H1 env m := by
  refine ⟨q.gr.trans g q.tw.ne, fun a h => ?_, q.h0t, g.nw T q.tw.ne q.hct, t, q.len, fun i d e => ?_, fun i d e => ?_, q.sep⟩
  · by_cases e : a = T
    · rw [e]; exact t.ne
    · cases e2 : H a with
      | none => exact absurd e2 (q.dom a h)
      | some o => rw [g.hh a o e e2]; exact fun z => nomatch z
  · obtain ⟨v, a, b⟩ := q.dat i d e
    exact ⟨v, a, b.same g.cc⟩
  · obtain ⟨a, o, h1, h2, h3, h4, h5⟩ := q.own i d e
    have ne : a ≠ T := fun z => q.h0t (by rw [← z]; exact h2)
    exact ⟨a, o, h1, h2, g.nw a (by rw [h4]; exact fun z => nomatch z) h3, g.hh a _ ne h4, h5.same g.cc⟩
/-- the wide core, with draws -/
theorem GrowT.narrow {K : PySem.W.Frag} (c : Cor Hc H) (ht : Hc T = none) (tw : Twn T L n H) {m : Nat} (g : GrowT T (frz H0 Hc H) H Hc1 H1) (tw1 : Twn T L m H1) : ∃ Hc2, GrowT T Hc H Hc2 H1 ∧ (∀ v d, noL d = true → Dq K Hc1 v d → Dp K Hc2 v d) := by
  let Hc2 : Hp := fun a => match H a with
    | some _ => Hc a
    | none => H1 a
  have old : ∀ {a : Addr} {o : HO}, H a = some o → Hc2 a = Hc a := fun {a o} e => by show (match H a with | some _ => Hc a | none => H1 a) = _; rw [e]
  have new : ∀ {a : Addr}, H a = none → Hc2 a = H1 a := fun {a} e => by show (match H a with | some _ => Hc a | none => H1 a) = _; rw [e]
  have cor : Cor Hc2 H1 := ⟨fun a o e => by
    cases q : H a with
    | some u =>
      rw [old q] at e
      exact g.hh a o (fun z => by rw [z, ht] at e; cases e) (c.sub a o e)
    | none => rw [new q] at e; exact e, fun a o e t => by
    cases q : H a with
    | some u =>
      rw [old q]
      by_cases ea : a = T
      · obtain ⟨xs, h1, _⟩ := tw1
        rw [ea, h1] at e
        cases e
        exact t.elim
      · have z := g.hh a u ea q
        rw [e] at z
        cases z
        exact c.tup a o q t
    | none => rw [new q]; exact e⟩
  have htp : ∀ a xs, SqT K Hc1 a xs → SqT K Hc2 a xs := fun a xs h => cor.seqT (sqt_sub g.cor h)
  exact ⟨Hc2, ⟨g.hh, fun a o e => by rw [old (c.sub a o e)]; exact e, fun a h1 h2 => by
    cases q : H a with
    | none => exact absurd q h1
    | some u => rw [old q]; exact h2, cor⟩, fun v d n p => dp_tup htp n (p.p (noL_is n))⟩
theorem DSz.frzT (q : DSz K T L Hc0 H0 Hc σ H env n) : frz H0 Hc H T = none := by
  cases e : H0 T with
  | none => exact absurd e q.h0t
  | some o => rw [frz_old e]; exact q.hct
theorem DSz.all (q : DSz K T L Hc0 H0 Hc σ H env n) : DSX K (frz H0 Hc H) σ H (allE env) := by
  have h := q.dsc.all
  have e : frz (bas H0 H) Hc H = frz H0 Hc H := by
    funext a
    unfold frz bas
    cases e1 : H0 a with
    | none => rfl
    | some o =>
      cases e2 : H a with
      | none => exact absurd e2 (q.dom a (by rw [e1]; exact fun z => nomatch z))
      | some u => rfl
  rw [e] at h
  exact h
end
def DSZ (K : PySem.W.Frag) (T : Addr) (L : Nat) (Hc0 H0 : Hp) (σ : L2.St) (H : Hp) (env : SEnv) (n : Nat) : Prop := ∃ Hc, DSz K T L Hc0 H0 Hc σ H env n
structure EndsZ where
  nx : SEnv → Nat → Prop
  rt : D → Nat → Prop
  bk : SEnv → Nat → Prop := fun _ _ => False
  ct : SEnv → Nat → Prop := fun _ _ => False
def RTz (K : PySem.W.Frag) (T : Addr) (L : Nat) (Hc0 H0 : Hp) (v : V) (H : Hp) (d : D) (n : Nat) : Prop := ∃ Hc, GrowT T Hc0 H0 Hc H ∧ Twn T L n H ∧ Dq K Hc v d
def liftZ (K : PySem.W.Frag) (T : Addr) (L : Nat) (Hc0 H0 : Hp) (Z : EndsZ) : Ends where
  nx := fun σ H => ∃ env n, DSZ K T L Hc0 H0 σ H env n ∧ Z.nx env n
  rt := fun v H => ∃ d n, RTz K T L Hc0 H0 v H d n ∧ Z.rt d n
  bk := fun σ H => ∃ env n, DSZ K T L Hc0 H0 σ H env n ∧ Z.bk env n
  ct := fun σ H => ∃ env n, DSZ K T L Hc0 H0 σ H env n ∧ Z.ct env n
def SVz (X : Cx) (T : Addr) (L : Nat) (st : Stmt) (Z : EndsZ) (env : SEnv) (n : Nat) : Prop := ∀ (Hc0 H0 : Hp) (σ : L2.St) (H : Hp), DSZ X.K T L Hc0 H0 σ H env n → WSt X st (liftZ X.K T L Hc0 H0 Z) σ H
def SVzs (X : Cx) (T : Addr) (L : Nat) (st : List Stmt) (Z : EndsZ) (env : SEnv) (n : Nat) : Prop := ∀ (Hc0 H0 : Hp) (σ : L2.St) (H : Hp), DSZ X.K T L Hc0 H0 σ H env n → WSs X st (liftZ X.K T L Hc0 H0 Z) σ H
theorem wst_mono {X : Cx} {st : Stmt} {σ : L2.St} {H : Hp} {Z Z' : Ends} (h : WSt X st Z σ H) (m1 : ∀ σ' H', Z.nx σ' H' → Z'.nx σ' H') (m2 : ∀ v H', Z.rt v H' → Z'.rt v H') (m3 : ∀ σ' H', Z.bk σ' H' → Z'.bk σ' H') (m4 : ∀ σ' H', Z.ct σ' H' → Z'.ct σ' H') : WSt X st Z' σ H := fun pins s I =>
  thn (h pins s I) fun f s1 q => by
    cases f with
    | next => obtain ⟨σ', H', I', q⟩ := q; exact ⟨σ', H', I', m1 _ _ q⟩
    | brk => obtain ⟨σ', H', I', q⟩ := q; exact ⟨σ', H', I', m3 _ _ q⟩
    | cont => obtain ⟨σ', H', I', q⟩ := q; exact ⟨σ', H', I', m4 _ _ q⟩
    | ret u => obtain ⟨v, σ', H', I', r, q⟩ := q; exact ⟨v, σ', H', I', r, m2 _ _ q⟩
section
variable {X : Cx} {T : Addr} {L c n : Nat} {e a b t tg it : Expr} {es : List Expr} {env env' : SEnv} {pos pos' : Pos} {d : D} {ds : List D} {st : Stmt} {sts A B : List Stmt} {Z : EndsZ} {P : D → Prop} {Pb : Bool → Prop}
/-- a statement without draws -/
theorem svz_of (h : SV X st { nx := fun e => Z.nx e n, rt := fun d => Z.rt d n, bk := fun e => Z.bk e n, ct := fun e => Z.ct e n } env) : SVz X T L st Z env n := fun Hc0 H0 σ H ⟨Hc, q⟩ => by
  refine wst_mono (h Hc (bas H0 H) σ H ⟨Hc, q.dsc⟩) (fun σ' H' z => ?_) (fun v H' z => ?_) (fun σ' H' z => ?_) (fun σ' H' z => ?_)
  · obtain ⟨e', ⟨Hc1, r⟩, k⟩ := z
    exact ⟨e', n, ⟨Hc1, q.back r⟩, k⟩
  · obtain ⟨d, ⟨Hc1, g, p⟩, k⟩ := z
    obtain ⟨g1, g2, _, _⟩ := q.growT_of g
    exact ⟨d, n, ⟨Hc1, g1, g2, p⟩, k⟩
  · obtain ⟨e', ⟨Hc1, r⟩, k⟩ := z
    exact ⟨e', n, ⟨Hc1, q.back r⟩, k⟩
  · obtain ⟨e', ⟨Hc1, r⟩, k⟩ := z
    exact ⟨e', n, ⟨Hc1, q.back r⟩, k⟩
theorem svz_nil (h : Z.nx env n) : SVzs X T L [] Z env n := fun Hc0 H0 σ H hs => wss_of pss_nil ⟨env, n, hs, h⟩
theorem svz_cons (h : SVz X T L st { Z with nx := fun env' n' => SVzs X T L sts Z env' n' } env n) : SVzs X T L (st :: sts) Z env n := fun Hc0 H0 σ H hs pins s I => by
  have h1 := h Hc0 H0 σ H hs
  refine wss_of (pss_cons (t := WSt X st) (u := WSs X sts) ps_w pss_w) ?_ pins s I
  show WSt X st { liftZ X.K T L Hc0 H0 Z with nx := WSs X sts (liftZ X.K T L Hc0 H0 Z) } σ H
  intro pins s I
  refine thn (h1 pins s I) fun f s1 q => ?_
  cases f with
  | next =>
    obtain ⟨σ', H', I', env', n', hd, k⟩ := q
    exact ⟨σ', H', I', k Hc0 H0 σ' H' hd⟩
  | brk => exact q
  | cont => exact q
  | ret u => exact q
theorem svz_one (h : SVz X T L st Z env n) : SVzs X T L [st] Z env n := fun Hc0 H0 σ H hs => wss_of (pss_one (t := WSt X st) ps_w) (h Hc0 H0 σ H hs)
/-- a statement without draws, then more -/
theorem svz_step (h : SV X st { nx := fun e => SVzs X T L sts Z e n, rt := fun d => Z.rt d n, bk := fun e => Z.bk e n, ct := fun e => Z.ct e n } env) : SVzs X T L (st :: sts) Z env n := svz_cons (svz_of h)
theorem svz_ret (he : EVz X T L c e (allE env) P) (hb : n + c ≤ big60) (h : ∀ d, P d → Z.rt d (n + c)) : SVz X T L (.Return (some e) pos) Z env n := fun Hc0 H0 σ H ⟨Hc, q⟩ =>
  ws_of (ps_ret pe_w) (he n _ σ H q.all q.tw q.frzT hb _ fun v d Hc1 H1 g t p k => by
    refine ⟨d, n + c, ⟨Hc1, ⟨fun a o ne e => g.hh a o ne (q.gr.hh a o ne e), (q.gr.cc.trans (frz_same q.gr.cor)).trans g.cc, fun a h1 h2 => ?_, g.cor⟩, t, p⟩, h d k⟩
    cases q0 : H0 a with
    | none => exact absurd q0 h1
    | some o => exact g.nw a (q.dom a h1) (by rw [frz_old q0]; exact q.gr.nw a h1 h2))
/-- name = e, with draws -/
theorem svz_set {i : Nat} {x : Str} (hN : X.N.Nodup) (hi : X.N[i]? = some x) (hx : Loc X.env.scope x) (he : EVz X T L c e (vis env) P) (hb : n + c ≤ big60) (h : ∀ d, P d → Z.nx (env.set i (some (.dat d))) (n + c)) (hs : swapsWith e (some (.Name x pos')) pos.line X.env = pure false := by rfl)
    (hf : X.fn x = true ∨ X.env.scope.names.lookup x = some .local := by first | exact .inl rfl | exact .inr rfl | assumption) : SVz X T L (.Assign [.Name x pos'] e pos) Z env n := fun Hc0 H0 σ H ⟨Hc, q⟩ =>
  ws_of (ps_set hN hi hx pe_w hs hf) (he n Hc σ H q.x q.tw q.hct hb _ fun v d Hc1 H1 g t p k => by
    have q1 := q.grow g t
    have r := q1.dsc.setDat i p
    exact ⟨_, n + c, ⟨Hc1, q1.back r⟩, h d k⟩)
theorem svz_setA {i : Nat} {x : Str} (hN : X.N.Nodup) (hi : X.N[i]? = some x) (hx : Loc X.env.scope x) (he : EVz X T L c e (allE env) P) (hn : ∀ d, P d → noL d = true) (hb : n + c ≤ big60) (h : ∀ d, P d → Z.nx (env.set i (some (.dat d))) (n + c)) (hs : swapsWith e (some (.Name x pos')) pos.line X.env = pure false := by rfl)
    (hf : X.fn x = true ∨ X.env.scope.names.lookup x = some .local := by first | exact .inl rfl | exact .inr rfl | assumption) : SVz X T L (.Assign [.Name x pos'] e pos) Z env n := fun Hc0 H0 σ H ⟨Hc, q⟩ =>
  ws_of (ps_set hN hi hx pe_w hs hf) (he n _ σ H q.all q.tw q.frzT hb _ fun v d Hc1 H1 g t p k => by
    obtain ⟨Hc2, g2, k1⟩ := GrowT.narrow (K := X.K) q.gr.cor q.hct q.tw g t
    have q1 := q.grow g2 t
    exact ⟨_, n + c, ⟨Hc2, q1.back (q1.dsc.setDat i (k1 v d (hn d k) p).q)⟩, h d k⟩)
theorem svz_if {k : Bool} (hc : EVt X t (allE env) k) (h1 : k = true → SVzs X T L A Z env n) (h2 : k = false → SVzs X T L B Z env n) : SVz X T L (.If t A B pos) Z env n := fun Hc0 H0 σ H ⟨Hc, q⟩ =>
  ws_of (ps_if (t := WSs X A) (u := WSs X B) pt_w pss_w pss_w) (hc _ σ H q.all _ fun Hc1 H1 g => by
    obtain ⟨Hc2, g2, _⟩ := GrowT.narrow (K := X.K) q.gr.cor q.hct q.tw g.tt (q.tw.same g.hh)
    have q2 : DSZ X.K T L Hc0 H0 σ H1 env n := ⟨Hc2, q.grow g2 (q.tw.same g.hh)⟩
    cases k with
    | true =>
      rw [if_pos rfl]
      exact h1 rfl Hc0 H0 σ H1 q2
    | false =>
      rw [if_neg Bool.false_ne_true]
      exact h2 rfl Hc0 H0 σ H1 q2)
theorem svz_ifz (hc : EVzt X T L c t (allE env) Pb) (hb : n + c ≤ big60) (h1 : Pb true → SVzs X T L A Z env (n + c)) (h2 : Pb false → SVzs X T L B Z env (n + c)) : SVz X T L (.If t A B pos) Z env n := fun Hc0 H0 σ H ⟨Hc, q⟩ =>
  ws_of (ps_if (t := WSs X A) (u := WSs X B) pt_w pss_w pss_w) (hc n _ σ H q.all q.tw q.frzT hb _ fun k Hc1 H1 g t1 pk => by
    obtain ⟨Hc2, g2, _⟩ := GrowT.narrow (K := X.K) q.gr.cor q.hct q.tw g t1
    have q2 : DSZ X.K T L Hc0 H0 σ H1 env (n + c) := ⟨Hc2, q.grow g2 t1⟩
    cases k with
    | true =>
      rw [if_pos rfl]
      exact h1 pk Hc0 H0 σ H1 q2
    | false =>
      rw [if_neg Bool.false_ne_true]
      exact h2 pk Hc0 H0 σ H1 q2)
/-- xs.append(e), with draws -/
theorem svz_append {i : Nat} {call : Expr} {ds : List D} (pe : PE X call (tBM X.K "list" rAppend (tVar i) (tCons (WX X e) tNil))) (hx : env[i]? = some (some (.own (.list ds)))) (he : EVz X T L c e (allE env) P) (hd : ∀ d, P d → noL d = true) (hb : n + c ≤ big60) (hz : ds.length < sizeLine) (h : ∀ d, P d → Z.nx (env.set i (some (.own (.list (ds ++ [d]))))) (n + c))
    (hs : swapsWith call none pos.line X.env = pure false := by rfl) : SVz X T L (.Expr call pos) Z env n := fun Hc0 H0 σ H ⟨Hc, q⟩ =>
  ws_of (ps_expr pe hs) (by
    obtain ⟨l, o, h1, h2, h3, h4, h5⟩ := q.own i _ hx
    cases h5 with
    | @lst xs _ h5 =>
    have ne : l ≠ T := fun z => q.h0t (by rw [← z]; exact h2)
    refine ⟨_, h1, .inl ⟨rfl, _, .inl (.inl h4)⟩, ?_⟩
    refine he n _ σ H q.all q.tw q.frzT hb _ fun v d Hc1 H1 g t p k => ?_
    obtain ⟨Hc2, g2, k1⟩ := GrowT.narrow (K := X.K) q.gr.cor q.hct q.tw g t
    have q2 := q.grow g2 t
    have c2 := g2.nw l (by rw [h4]; exact fun z => nomatch z) h3
    have ha2 : H1 l = some (.lst xs) := g.hh l _ ne h4
    refine ⟨l, xs, v, rfl, rfl, ha2, by rw [h5.len]; exact hz, ?_⟩
    exact ⟨_, n + c, ⟨Hc2, q2.back (q2.dsc.mut hx h1 (bas_none h2) c2 (TopO.lst <| (h5.same g2.cc).app (.cons (k1 v d (hd d k) p) .nil)))⟩, h d k⟩)
/-- a, b, .. = e, with draws -/
theorem svz_unpack {is : List Nat} {k m : Nat} {p2 : Pos} (hc : X.calm = true) (h : TgtsOk X es is) (he : EVz X T L c e (vis env) fun d => ∃ ds, d = .tuple ds ∧ ds.length = is.length ∧ P (.tuple ds)) (hl2 : is.length = m) (hb : n + c ≤ big60) (hz : ∀ ds, P (.tuple ds) → Z.nx (setAll env is ds) (n + c)) (hn : (assignEach es X.env).length = m := by rfl) (hst : (assignEach es X.env).findIdx? (·.1) = none := by rfl)
    (hs : swapsWithSole [.Tuple es k p2] e pos.line X.env = pure false := by rfl) (hw : swappedStores [.Tuple es k p2] e X.env = pure none := by rfl) (h1 : (assignEach [.Tuple es k p2] X.env).map (·.2) = [assign (.Tuple es k p2) X.env] := by rfl) : SVz X T L (.Assign [.Tuple es k p2] e pos) Z env n := fun Hc0 H0 σ H ⟨Hc, q⟩ =>
  ws_of (ps_asg pe_w pg_w hs hw h1) (he n Hc σ H q.x q.tw q.hct hb _ fun v d Hc1 H1 g t p kk => by
    obtain ⟨ds, rfl, hl, kk⟩ := kk
    have q1 := q.grow g t
    exact tg_tup hc h hl hl2 hn hst Hc1 (bas H0 H1) Hc1 σ H1 env q1.dsc v p _ fun σ' q' => ⟨_, n + c, ⟨Hc1, q1.back q'⟩, hz ds kk⟩)
end
end DL
set_option Elab.async false
set_option linter.all false
set_option maxRecDepth 100000
set_option maxHeartbeats 1000000
set_option autoImplicit false
/-! DT4: loops, comprehensions, defs with draws -/
namespace DL
open PySem PySem.Spec PyProof.Rows L2
def IVz (X : Cx) (T : Addr) (L c : Nat) (tg it : Expr) (env : DEnv) (Ps : List D → Prop) : Prop := ∀ (n : Nat) (Hc : Hp) (σ : L2.St) (H : Hp), DSX X.K Hc σ H env → Twn T L n H → Hc T = none → n + c ≤ big60 → ∀ R : It → Hp → Prop,
  (∀ J ds Hc1 H1, GrowT T Hc H Hc1 H1 → Twn T L (n + c) H1 → Ps ds → Walk J ds.length (fun H2 => Same Hc1 H2) (YC X.K Hc1 ds) → R J H1) → WI X tg it σ H R
section
variable {X : Cx} {T : Addr} {L c c1 c2 n : Nat} {e a b tg it elt iter : Expr} {es ifs : List Expr} {env0 : DEnv} {env env' : SEnv} {pos pos' : Pos} {d : D} {ds : List D} {Z : EndsZ} {P : D → Prop} {Ps : List D → Prop}
theorem ivz_v (h : IV X tg it env0 ds) (hp : Ps ds) : IVz X T L 0 tg it env0 Ps := fun n Hc σ H hs t ht hb R r => h Hc σ H hs R fun J Hc1 H1 g w => r J ds Hc1 H1 g.tt (t.same g.hh) hp w
theorem ivz_list (he : EVz X T L c e env0 fun d => ∃ ds, d = .list ds ∧ Ps ds) : IVz X T L c tg e env0 Ps := fun n Hc σ H hs t ht hb R r => wi_of (pi_list pe_w) (he n Hc σ H hs t ht hb _ fun v d Hc1 H1 g t1 p k => by
  obtain ⟨ds, rfl, k⟩ := k
  obtain ⟨a, xs, rfl, h1, h2⟩ := dp_lstI (show Dp X.K Hc1 v (.list ds) from p)
  refine ⟨a, rfl, ⟨xs, sql_sub g.cor h1⟩, r _ ds Hc1 H1 g t1 k ?_⟩
  rw [← h2.len]
  exact (walk_list (K := X.K) (a := a) (xs := xs)).mono (fun H2 s2 => s2.seq h1) fun i H2 x H3 _ _ y => yc_at h2 y)
theorem DSz.rebase {K : PySem.W.Frag} {Hc0 H0 Hb Hc H : Hp} {σ : L2.St} (h : DSz K T L Hb H0 Hc σ H env n) (cc : Same Hc0 Hb) (nw : ∀ a, H0 a ≠ none → Hc0 a = none → Hb a = none) : DSz K T L Hc0 H0 Hc σ H env n :=
  ⟨⟨h.gr.hh, cc.trans h.gr.cc, fun a h1 h2 => h.gr.nw a h1 (nw a h1 h2), h.gr.cor⟩, h.dom, h.h0t, h.hct, h.tw, h.len, h.dat, h.own, h.sep⟩
theorem svz_forz {t : Tgt} {body : List Stmt} (Pv : List D → Nat → SEnv → Nat → Prop) (hp : PassesOwn (model X.prog X.w) X.A X.env X.xe) (hc : X.calm = true) (hi : IVz X T L c tg it (vis env) Ps) (hb : n + c ≤ big60) (h0 : ∀ ds, Ps ds → Pv ds 0 env (n + c)) (htg : ∀ ds, Ps ds → ∀ d, d ∈ ds → TgtOk X tg t d)
    (turn : ∀ ds, Ps ds → ∀ (i : Nat) (d : D) (env' : SEnv) (m : Nat), ds[i]? = some d → Pv ds i env' m → SVzs X T L body { nx := Pv ds (i + 1), ct := Pv ds (i + 1), bk := Z.nx, rt := Z.rt } (t.put env' d) m) (hd : ∀ ds, Ps ds → ∀ env' m, Pv ds ds.length env' m → Z.nx env' m)
    (hs : ∀ x, foldedSetIterable it X.env x = pure x := by intro _; rfl) : SVz X T L (.For tg it body [] pos) Z env n := fun Hc0 H0 σ H ⟨Hc, q⟩ =>
  ws_of (ps_for (g := WG X tg) (tb := WSs X body) hp hc pi_w pg_w pss_w hs) (hi n Hc σ H q.x q.tw q.hct hb _ fun J ds Hc1 H1 g t1 k w => by
    have cc0 : Same Hc0 Hc1 := q.gr.cc.trans g.cc
    have q1 := q.grow g t1
    have nw0 : ∀ a, H0 a ≠ none → Hc0 a = none → Hc1 a = none := q1.gr.nw
    refine for_it w (fun i σ' H' => ∃ env' m, DSZ X.K T L Hc1 H0 σ' H' env' m ∧ Pv ds i env' m) ?_ ?_ ?_ ?_
    · exact ⟨env, n + c, ⟨Hc1, ⟨⟨q1.gr.hh, Same.refl _, fun a h1 h2 => h2, q1.gr.cor⟩, q1.dom, q1.h0t, q1.hct, q1.tw, q1.len, q1.dat, q1.own, q1.sep⟩⟩, h0 ds k⟩
    · rintro i σ' H' _ ⟨env', m, ⟨Hc2, q2⟩, _⟩
      exact q2.gr.cc.trans q2.gr.cor.sub
    · rintro i x σ' H' H'' hlt ⟨env', m, ⟨Hc2, q2⟩, pv'⟩ y
      obtain ⟨Hc3, d, g3, hd3, px⟩ := y Hc2 q2.gr.cor q2.gr.cc
      have q3 := q2.grow g3.tt (q2.tw.same g3.hh)
      refine htg ds k d (List.mem_of_getElem? hd3) Hc3 (bas H0 H'') Hc3 σ' H'' env' q3.dsc x px.q _ fun σ2 q4 => ?_
      have b := turn ds k i d env' m hd3 pv' Hc1 H0 σ2 H'' ⟨Hc3, q3.back q4⟩
      refine wss_mono b (fun _ _ z => z) (fun v H5 z => ?_) (fun σ5 H5 z => ?_) (fun _ _ z => z)
      · obtain ⟨r, m2, ⟨Hc5, g5, t5, p5⟩, k⟩ := z
        exact ⟨r, m2, ⟨Hc5, ⟨g5.hh, cc0.trans g5.cc, fun a h1 h2 => g5.nw a h1 (nw0 a h1 h2), g5.cor⟩, t5, p5⟩, k⟩
      · obtain ⟨e5, m2, ⟨Hc5, q5⟩, k⟩ := z
        exact ⟨e5, m2, ⟨Hc5, q5.rebase cc0 nw0⟩, k⟩
    · rintro σ' H' ⟨env', m, ⟨Hc2, q2⟩, pv'⟩
      exact ⟨env', m, ⟨Hc2, q2.rebase cc0 nw0⟩, hd ds k env' m pv'⟩)
theorem svz_for {α : Type} {xs : List α} {enc : α → D} {t : Tgt} {body : List Stmt} (Pv : Nat → SEnv → Nat → Prop) (hp : PassesOwn (model X.prog X.w) X.A X.env X.xe) (hc : X.calm = true) (hi : IV X tg it (vis env) (xs.map enc)) (hb : n ≤ big60) (h0 : Pv 0 env n) (htg : ∀ x, TgtOk X tg t (enc x))
    (turn : ∀ (i : Nat) (x : α) (env' : SEnv) (m : Nat), xs[i]? = some x → Pv i env' m → SVzs X T L body { nx := Pv (i + 1), ct := Pv (i + 1), bk := Z.nx, rt := Z.rt } (t.put env' (enc x)) m) (hd : ∀ env' m, Pv xs.length env' m → Z.nx env' m)
    (hs : ∀ x, foldedSetIterable it X.env x = pure x := by intro _; rfl) : SVz X T L (.For tg it body [] pos) Z env n :=
  svz_forz (c := 0) (Ps := fun ds => ds = xs.map enc) (fun _ i e m => Pv i e m) hp hc (ivz_v hi rfl) hb (fun _ _ => h0) (fun ds e d hd => by
    subst e
    obtain ⟨x, _, rfl⟩ := List.mem_map.mp hd
    exact htg x) (fun ds e i d env' m hd pv' => by
    subst e
    rw [List.getElem?_map] at hd
    obtain ⟨x, hx, rfl⟩ := Option.map_eq_some_iff.mp hd
    exact turn i x env' m hx pv') (fun ds e env' m h => by
    subst e
    exact hd env' m (by rw [List.length_map] at h; exact h)) hs
/-! ### comprehensions -/
def EVzts (X : Cx) (T : Addr) (L c : Nat) (ifs : List Expr) (env : DEnv) (P : Bool → Prop) : Prop := ∀ (n : Nat) (Hc : Hp) (σ : L2.St) (H : Hp), DSX X.K Hc σ H env → Twn T L n H → Hc T = none → n + c ≤ big60 → ∀ Q : Bool → Hp → Prop,
  (∀ b Hc1 H1, GrowT T Hc H Hc1 H1 → Twn T L (n + c) H1 → P b → Q b H1) → ∃ t, PTs X ifs t ∧ t σ H Q
theorem ezts_nil {Pb : Bool → Prop} (hp : Pb true) : EVzts X T L 0 [] env0 Pb := fun n Hc σ H hs t ht hb Q q => ⟨_, pts_nil, q true Hc H (Grow.refl hs.cor).tt t hp⟩
theorem ezts_one {Pb : Bool → Prop} (h : EVzt X T L c a env0 Pb) : EVzts X T L c [a] env0 Pb := fun n Hc σ H hs t ht hb Q q => ⟨_, pts_one pt_w, h n Hc σ H hs t ht hb Q q⟩
theorem GrowT.mut {Hc0 H0 Hc H : Hp} {p : Addr} {o' : HO} (g : GrowT T Hc0 H0 Hc H) (h0 : H0 p = none) (hc : Hc p = none) (nt : ¬ TupO o') : GrowT T Hc0 H0 Hc (upd H p o') := by
  refine ⟨fun a o ne e => ?_, g.cc, g.nw, ⟨fun a o e => ?_, fun a o e t => ?_⟩⟩
  · rw [upd_ne (ne_of_none e h0)]
    exact g.hh a o ne e
  · rw [upd_ne (ne_of_none e hc)]
    exact g.cor.sub a o e
  · by_cases ea : a = p
    · rw [ea, upd_same] at e
      cases e
      exact absurd t nt
    · rw [upd_ne ea] at e
      exact g.cor.tup a o e t
theorem Twn.upd {m : Nat} {H : Hp} {p : Addr} {o : HO} (h : Twn T L m H) (ne : p ≠ T) : Twn T L m (L2.upd H p o) := by
  obtain ⟨xs, h1, h2⟩ := h
  exact ⟨xs, by rw [upd_ne (Ne.symm ne)]; exact h1, h2⟩
theorem ezn_lc {α : Type} {xs : List α} {enc : α → D} {scope : Scope} {own : List (Str × Nat)} (R : Nat → List D → Prop) (hc : X.calm = true) (hN : X.N.Nodup) (ok : BlkOk X.N X.env.scope scope own) (hi : IV X tg iter env0 (xs.map enc)) (hz : xs.length ≤ sizeLine) (r0 : R 0 [])
    (turn : ∀ (i : Nat) (a : α), xs[i]? = some a → ∃ (env' : DEnv) (js : List Nat) (Pb : Bool → Prop) (Pe : D → Prop), (∀ j ∈ js, j ∈ own.map (·.2)) ∧ Blk X scope (fun Y => GV Y tg (enc a) (wipeE env0 (own.map (·.2))) env' js) ∧ Blk X scope (fun Y => EVzts Y T L c1 ifs env' Pb) ∧ (Pb true → Blk X scope fun Y => EVz Y T L c2 elt env' Pe) ∧
      (∀ acc, R i acc → Pb false → R (i + 1) acc) ∧ ∀ acc y, R i acc → Pb true → Pe y → isD y = true ∧ R (i + 1) (acc ++ [y]))
    (fin : ∀ ds, R xs.length ds → ds.length ≤ xs.length → Ps ds) (hf : ∀ x, foldedSetIterable iter X.env x = pure x := by intro _; rfl) : EVzn X T L (xs.length * (c1 + c2)) (.ListComp elt [⟨tg, iter, ifs, 0⟩] scope pos) env0 Ps := fun n Hc σ H hs tw ht hb Q q => by
  refine wx_of (pe_lc (wi := WI X tg iter) hc hN pi_w ok (pg_gB) (pts_tB) (pe_eB) hf) ?_
  refine hi Hc σ H hs _ fun J Hc1 H1 g1 w => ?_
  intro p np
  have nc : Hc1 p = none := g1.cor.sub.free np
  have tw1 := tw.same g1.hh
  have ht1 : Hc1 T = none := g1.nw T tw.ne ht
  have neT : p ≠ T := fun z => tw1.ne (by rw [← z]; exact np)
  refine it_any w (Pv := fun i H2 => ∃ Hc2 acc ds, GrowT T Hc1 H1 Hc2 H2 ∧ Twn T L (n + i * (c1 + c2)) H2 ∧ H2 p = some (.lst acc) ∧ Hc2 p = none ∧ DpAll X.K Hc2 acc ds ∧ R i ds ∧ ds.length ≤ i) ?_ ?_ ?_ ?_
  · exact ⟨Hc1, [], [], (Grow.own g1.cor np).tt, by rw [Nat.zero_mul]; exact tw1.upd neT, upd_same, nc, .nil, r0, Nat.le_refl _⟩
  · rintro i H2 _ ⟨Hc2, acc, ds, g2, _⟩
    exact g2.cc.trans g2.cor.sub
  · rintro i x H2 H3 hlt ⟨Hc2, acc, ds, g2, t2, hp, hn, ha, hR, hlen⟩ y
    obtain ⟨Hc3, d, g3, hd, px⟩ := y Hc2 g2.cor g2.cc
    rw [List.getElem?_map] at hd
    obtain ⟨a, hda, rfl⟩ := Option.map_eq_some_iff.mp hd
    rw [List.length_map] at hlt
    obtain ⟨env', js, Pb, Pe, hjs, hg, htst, he, rF, rT⟩ := turn i a hda
    have t3 := t2.same g3.hh
    have g13 := g2.trans g3.tt t2.ne
    have hs3 := ((hs.grow g1).growT g13).wipe (own.map (·.2))
    have hp3 : H3 p = some (.lst acc) := g3.hh _ _ hp
    have hn3 : Hc3 p = none := g3.nw p (by rw [hp]; exact fun z => nomatch z) hn
    have ht3 : Hc3 T = none := g13.nw T tw1.ne ht1
    have hmul : (i + 1) * (c1 + c2) ≤ xs.length * (c1 + c2) := Nat.mul_le_mul_right _ hlt
    rw [Nat.succ_mul] at hmul
    intro s Hx C cl fp
    refine hg s Hx C cl fp Hc3 _ H3 hs3 x px.q _ fun σ2 hs4 hl hk => ?_
    have hw : wipe σ2 (own.map (·.2)) = wipe σ (own.map (·.2)) := by
      rw [wipe_eq hl fun i hi => hk i fun z => hi (hjs i z), wipe_idem]
    refine ⟨hw, fun s' Hx' C' cl' fp' => ?_⟩
    refine htst s' Hx' C' cl' fp' (n + i * (c1 + c2)) Hc3 σ2 H3 hs4 t3 ht3 (by omega) _ fun k Hc4 H4 g4 t4 pk => ?_
    have hp4 : H4 p = some (.lst acc) := g4.hh _ _ neT hp3
    have hn4 : Hc4 p = none := g4.nw p (by rw [hp3]; exact fun z => nomatch z) hn3
    have ha4 := (ha.same g3.cc).same g4.cc
    cases k with
    | false =>
      rw [if_neg Bool.false_ne_true]
      refine ⟨Hc4, acc, ds, g13.trans g4 t3.ne, ?_, hp4, hn4, ha4, rF ds hR pk, by omega⟩
      rw [Nat.succ_mul]
      exact t4.le (by omega)
    | true =>
      rw [if_pos rfl]
      intro s2 Hx2 C2 cl2 fp2
      refine he pk s2 Hx2 C2 cl2 fp2 (n + i * (c1 + c2) + c1) Hc4 σ2 H4 (hs4.growT g4) t4 (g4.nw T t3.ne ht3) (by omega) _ fun v5 d5 Hc5 H5 g5 t5 p5 k5 => ?_
      obtain ⟨hD, hR2⟩ := rT ds d5 hR pk k5
      have hp5 : H5 p = some (.lst acc) := g5.hh _ _ neT hp4
      have hn5 : Hc5 p = none := g5.nw p (by rw [hp4]; exact fun z => nomatch z) hn4
      have ha5 := ha4.same g5.cc
      refine ⟨acc, hp5, by rw [ha5.len]; omega, Hc5, acc ++ [v5], ds ++ [d5], ((g13.trans g4 t3.ne).trans g5 t4.ne).mut np hn5 id, ?_, upd_same, hn5, ha5.app (.cons (p5.p hD) .nil), hR2, by rw [List.length_append, List.length_singleton]; omega⟩
      refine Twn.upd ?_ neT
      rw [Nat.succ_mul]
      exact t5.le (by omega)
  · rintro H2 ⟨Hc2, acc, ds, g2, t2, hp, hn, ha, hR, hlen⟩
    rw [List.length_map] at hR hlen t2
    exact q p acc ds Hc2 H2 (g1.tt.trans g2 tw1.ne) t2 (g1.hh.free np) hn hp ha (fin ds hR hlen)
end
/-! ### defs -/
theorem dz_start {K : PySem.W.Frag} {N : List Str} {vs : List V} {ds : List D} {Hc H : Hp} {T : Addr} {L n : Nat} (c : Cor Hc H) (h : DqAll K Hc vs ds) (t : Twn T L n H) (ht : Hc T = none) : DSZ K T L Hc H (L2.start N vs) H (startS N.length ds) n := by
  refine ⟨Hc, (Grow.refl c).tt, fun a h => h, t.ne, ht, t, ?_, fun i d e => ?_, fun i d e => ?_, fun i j d1 d2 a e => ?_⟩
  · unfold startS L2.start
    simp [h.len]
  · unfold startS at e
    by_cases hi : i < ds.length
    · rw [List.getElem?_append_left (by simpa using hi), List.getElem?_map] at e
      cases q2 : ds[i]? with
      | none => rw [q2] at e; cases e
      | some d2 =>
        rw [q2] at e
        cases e
        obtain ⟨v, h1, h2⟩ := h.get q2
        refine ⟨v, ?_, h2⟩
        unfold L2.start
        rw [List.getElem?_append_left (by simpa [h.len] using hi), List.getElem?_map, h1]
        rfl
    · exfalso
      rw [List.getElem?_append_right (by simpa using Nat.le_of_not_lt hi), List.getElem?_replicate] at e
      split at e
      · cases e
      · cases e
  · exfalso
    unfold startS at e
    rcases List.mem_append.mp (List.mem_of_getElem? e) with m | m
    · obtain ⟨d, _, z⟩ := List.mem_map.mp m
      cases z
    · have := List.eq_of_mem_replicate m
      cases this
  · exfalso
    unfold startS at e
    rcases List.mem_append.mp (List.mem_of_getElem? e) with m | m
    · obtain ⟨d, _, z⟩ := List.mem_map.mp m
      cases z
    · have := List.eq_of_mem_replicate m
      cases this
theorem fn_Z {P : Program} {w : World} {K : PySem.W.Frag} {mg : Str → Option Value} {base : Heap} {x qual : Str} {params : Arguments} {body : List Stmt} {scope : Scope} {f : Addr} {fd : FuncData} {N ps : List Str} {k c : Nat} {pre : Addr → Nat → List D → Prop} {post : List D → D → Prop}
    (F : FunD K x qual params body scope [] [] f fd) (S : FnScope N ps scope) (hl : ∀ T L ds, pre T L ds → ds.length = ps.length)
    (hb : ∀ (cdv : Value) (A : Around) (outer : List Env) (s : Shared) (H : Hp) (E : XK) (T : Addr) (L n : Nat) (ds : List D), pre T L ds → n + c ≤ big60 → Room k (A.deeper (envOfC qual scope s.heap.objs.size f cdv)) →
      SVzs (cxOf CX0 P w K mg base N qual scope f cdv A outer s H E).nox T L body { nx := fun _ m => m ≤ n + c ∧ post ds .none, rt := fun r m => m ≤ n + c ∧ post ds r } (startS N.length ds) n) : FnOk P w K mg base CX0 (k + 1) f fd ps (spZ K c pre post) := by
  refine F.ok S (fun vs H Q E h => ?_) (fun cdv A outer s H vs Q E hr h => ?_)
  · obtain ⟨T, L, n, Hc, ds, cr, pa, t, ht, hbg, hpre, _⟩ := h
    rw [pa.len]
    exact hl T L ds hpre
  · obtain ⟨T, L, n, Hc, ds, cr, pa, t, ht, hbg, hpre, q⟩ := h
    have b := hb cdv A outer s H E T L n ds hpre hbg hr Hc H (L2.start N vs) H (dz_start cr pa t ht)
    refine ⟨_, PSs.nox pss_w, wss_mono b (fun σ' H' z => ?_) (fun v H' z => ?_) (fun _ _ z => ?_) (fun _ _ z => ?_)⟩
    · obtain ⟨env, m, ⟨Hc1, q1⟩, hm, hp⟩ := z
      exact q .non .none Hc1 H' q1.gr (q1.tw.le hm) L2.Dp.non hp
    · obtain ⟨r, m, ⟨Hc1, g, t1, p⟩, hm, hp⟩ := z
      exact q v r Hc1 H' g (t1.le hm) p hp
    · obtain ⟨_, _, _, z⟩ := z
      exact z.elim
    · obtain ⟨_, _, _, z⟩ := z
      exact z.elim
end DL
set_option Elab.async false
set_option linter.all false
set_option maxRecDepth 100000
set_option maxHeartbeats 1000000
set_option autoImplicit false
/-! DT5: the town's items read and set -/
namespace DL
open PySem PySem.Spec PyProof.Rows L2
theorem tw_ref {K : PySem.W.Frag} {Hc : Hp} {x : V} {T : Addr} (h : Dq K Hc x (twM T)) : x = .ref T := by
  have h1 : x = .ref ((T : Nat) : Int).toNat := h
  rw [h1, Int.toNat_natCast]
theorem growT_set {T : Addr} {Hc H : Hp} {o : HO} (c : Cor Hc H) (h : Hc T = none) (nt : ¬ TupO o) : GrowT T Hc H Hc (upd H T o) := by
  refine ⟨fun a o1 ne e => ?_, Same.refl _, fun a h1 h2 => h2, ⟨fun a o1 e => ?_, fun a o1 e t => ?_⟩⟩
  · rw [upd_ne ne]; exact e
  · rw [upd_ne (fun z => by rw [z, h] at e; cases e)]; exact c.sub a o1 e
  · by_cases z : a = T
    · subst z
      rw [upd_same] at e
      cases e
      exact absurd t nt
    · rw [upd_ne z] at e
      exact c.tup a o1 e t
section
variable {X : Cx} {T : Addr} {L c n : Nat} {a b e i0 one : Expr} {env : DEnv} {pos p : Pos} {P : D → Prop}
theorem ez_town (ha : EVd X a env (twM T)) (hb : EVz X T L c b env fun d => ∃ i : Nat, d = .int (i : Nat) ∧ i ≤ L) (hp : ∀ j : Int, P (.int j)) (hs : PlainIx b := by exact fun _ _ => rfl) : EVz X T L c (.Subscript a b pos) env P := fun n Hc σ H hd t ht hb0 Q q =>
  wx_of (pe_ix ix_list pe_w pe_w hs) (ha Hc σ H hd _ fun x Hc1 H1 g1 p1 => hb n Hc1 σ H1 (hd.grow g1) (t.same g1.hh) (g1.nw T t.ne ht) hb0 _ fun y d Hc2 H2 g2 t2 p2 k2 => by
    obtain ⟨i, rfl, hi⟩ := k2
    have tq := t2
    obtain ⟨xs, h1, h2, h3⟩ := t2
    have hz : (xs.map V.int)[i]? = some (.int (xs[i]'(by omega))) := by
      rw [List.getElem?_map, List.getElem?_eq_getElem (by omega)]
      rfl
    exact ⟨T, xs.map V.int, (i : Nat), _, tw_ref p1, dp_int p2, .inl (.inl h1), atI_nat hz, q _ (.int _) Hc2 H2 (g1.tt.trans g2 (t.same g1.hh).ne) tq (L2.Dp.int _) (hp _)⟩)
/-- town[0] -/
theorem ez_town0 (ha : EVd X a env (twM T)) (hb : EVd X b env (.int 0)) (hp : ∀ f : Nat, f ≤ big60 → P (.int (f : Nat))) (hs : PlainIx b := by exact fun _ _ => rfl) : EVz X T L 0 (.Subscript a b pos) env P := fun n Hc σ H hd t ht hb0 Q q =>
  wx_of (pe_ix ix_list pe_w pe_w hs) (ha Hc σ H hd _ fun x Hc1 H1 g1 p1 => hb Hc1 σ H1 (hd.grow g1) _ fun y Hc2 H2 g2 p2 => by
    have tq := (t.same g1.hh).same g2.hh
    have tq2 := tq
    obtain ⟨xs, h1, h2, f, h3, h4⟩ := tq
    have hz : (xs.map V.int)[0]? = some (.int (f : Int)) := by
      rw [List.getElem?_map, h3]
      rfl
    exact ⟨T, xs.map V.int, ((0 : Nat) : Int), _, tw_ref p1, dp_int p2, .inl (.inl h1), atI_nat hz, q _ (.int _) Hc2 H2 (g1.tt.trans g2.tt (t.same g1.hh).ne) tq2 (L2.Dp.int _) (hp _ (by omega))⟩)
end
section
variable {X : Cx} {T : Addr} {L c n : Nat} {a a2 b e i0 one : Expr} {env : SEnv} {pos p p2 p3 : Pos} {P : D → Prop} {Z : EndsZ}
/-- town[i] = e, off the head -/
theorem svz_setT {j : Nat} (ho : EVd X a (vis env) (twM T)) (hi : EVd X b (vis env) (.int (j : Nat))) (he : EVz X T L c e (vis env) isI) (h1 : 1 ≤ j) (h2 : j ≤ L) (hb : n + c ≤ big60) (h : Z.nx env (n + c))
    (hs : swapsWithSole [.Subscript a b p] e pos.line X.env = pure false := by rfl) (hw : swappedStores [.Subscript a b p] e X.env = pure none := by rfl) (hz : (assignEach [.Subscript a b p] X.env).map (·.2) = [assign (.Subscript a b p) X.env] := by rfl)
    (hx : ∀ v, assign (.Subscript a b p) X.env v = (do
      let ov ← holding [v] (eval a X.env)
      let iv ← holding [v, ov] (eval b X.env)
      standAt p
      holding [v, ov, iv] (setItem ov iv v)
      release [v, ov, iv] []) := by intro _; rfl) : SVz X T L (.Assign [.Subscript a b p] e pos) Z env n := fun Hc0 H0 σ H ⟨Hc, q⟩ =>
  ws_of (ps_asg pe_w (pg_sub pe_w pe_w set_list hx) hs hw hz) (he n Hc σ H q.x q.tw q.hct hb _ fun v d Hc1 H1 g t pv kk => by
    have q1 := q.grow g t
    refine ho Hc1 σ H1 q1.x _ fun o Hc2 H2 g2 po => ?_
    refine hi Hc2 σ H2 (q1.x.grow g2) _ fun i Hc3 H3 g3 pi => ?_
    have t3 := (t.same g2.hh).same g3.hh
    have gg := g2.tt.trans g3.tt (T := T) (t.same g2.hh).ne
    have n3 : Hc3 T = none := gg.nw T t.ne q1.hct
    obtain ⟨y, rfl⟩ := kk
    obtain ⟨xs, k1, k2, f, k3, k4⟩ := t3
    refine ⟨T, xs.map V.int, (j : Nat), j, tw_ref po, dp_int pi, k1, ?_, ?_⟩
    · unfold ixN
      simp [k2]
      omega
    · have e1 : (xs.map V.int).set j v = (xs.set j y).map V.int := by rw [dp_int pv, List.map_set]
      rw [e1]
      have g4 := growT_set (o := .lst ((xs.set j y).map V.int)) gg.cor n3 id
      exact ⟨env, n + c, ⟨Hc3, q1.grow (gg.trans g4 (by rw [k1]; exact fun z => nomatch z)) ⟨xs.set j y, upd_same, by rw [List.length_set]; exact k2, f, by rw [List.getElem?_set_ne (by omega)]; exact k3, k4⟩⟩, h⟩)
/-- town[0] = town[0] + 1 -/
theorem svz_tick (ho : EVd X a (vis env) (twM T)) (hi : EVd X b (vis env) (.int 0)) (ho2 : EVd X a2 (vis env) (twM T)) (hi2 : EVd X i0 (vis env) (.int 0)) (h1 : EVd X one (vis env) (.int 1)) (hb : n + 1 ≤ big60) (h : Z.nx env (n + 1)) (hpl : PlainIx i0 := by exact fun _ _ => rfl)
    (hs : swapsWithSole [.Subscript a b p] (.BinOp (.Subscript a2 i0 p2) .Add one p3) pos.line X.env = pure false := by rfl) (hw : swappedStores [.Subscript a b p] (.BinOp (.Subscript a2 i0 p2) .Add one p3) X.env = pure none := by rfl) (hz : (assignEach [.Subscript a b p] X.env).map (·.2) = [assign (.Subscript a b p) X.env] := by rfl)
    (hx : ∀ v, assign (.Subscript a b p) X.env v = (do
      let ov ← holding [v] (eval a X.env)
      let iv ← holding [v, ov] (eval b X.env)
      standAt p
      holding [v, ov, iv] (setItem ov iv v)
      release [v, ov, iv] []) := by intro _; rfl) : SVz X T L (.Assign [.Subscript a b p] (.BinOp (.Subscript a2 i0 p2) .Add one p3) pos) Z env n := fun Hc0 H0 σ H ⟨Hc, q⟩ =>
  ws_of (ps_asg (pe_op op_add (pe_ix ix_list pe_w pe_w hpl) pe_w) (pg_sub pe_w pe_w set_list hx) hs hw hz) (ho2 Hc σ H q.x _ fun o Hc1 H1 g1 po => hi2 Hc1 σ H1 (q.x.grow g1) _ fun i Hc2 H2 g2 pi => by
    have t2 := (q.tw.same g1.hh).same g2.hh
    have gg := g1.tt.trans g2.tt (T := T) (q.tw.same g1.hh).ne
    have q2 := q.grow gg t2
    obtain ⟨xs, k1, k2, f, k3, k4⟩ := t2
    have hz2 : (xs.map V.int)[0]? = some (.int (f : Int)) := by
      rw [List.getElem?_map, k3]
      rfl
    refine ⟨T, xs.map V.int, ((0 : Nat) : Int), _, tw_ref po, dp_int pi, .inl (.inl k1), atI_nat hz2, ?_⟩
    refine h1 Hc2 σ H2 q2.x _ fun y Hc3 H3 g3 py => ⟨f, 1, rfl, dp_int py, ?_⟩
    refine ho Hc3 σ H3 (q2.x.grow g3) _ fun o4 Hc4 H4 g4 po4 => ?_
    refine hi Hc4 σ H4 ((q2.x.grow g3).grow g4) _ fun i5 Hc5 H5 g5 pi5 => ?_
    have k5 : H5 T = some (.lst (xs.map V.int)) := g5.hh _ _ (g4.hh _ _ (g3.hh _ _ k1))
    have ne : ∀ {Hq : Hp} {o : HO}, Hq T = some o → Hq T ≠ none := fun e => by rw [e]; exact fun z => nomatch z
    have g6 := (g3.tt.trans g4.tt (T := T) (ne (g3.hh _ _ k1))).trans g5.tt (ne (g4.hh _ _ (g3.hh _ _ k1)))
    have n5 : Hc5 T = none := g6.nw T (ne k1) q2.hct
    refine ⟨T, xs.map V.int, ((0 : Nat) : Int), 0, tw_ref po4, dp_int pi5, k5, ?_, ?_⟩
    · unfold ixN
      simp [k2]
    · have e1 : (xs.map V.int).set 0 (.int ((f : Int) + 1)) = (xs.set 0 ((f : Int) + 1)).map V.int := by rw [List.map_set]
      rw [e1]
      have g7 := growT_set (o := .lst ((xs.set 0 ((f : Int) + 1)).map V.int)) g6.cor n5 id
      exact ⟨env, n + 1, ⟨Hc5, q2.grow (g6.trans g7 (ne k5)) ⟨xs.set 0 ((f : Int) + 1), upd_same, by rw [List.length_set]; exact k2, f + 1, by rw [List.getElem?_set_self (by omega)]; rfl, by omega⟩⟩, h⟩)
end
end DL
set_option Elab.async false
set_option linter.all false
set_option maxRecDepth 100000
set_option maxHeartbeats 1000000
set_option autoImplicit false
namespace Tr
open PySem PySem.Spec PyProof.Rows L2 DL
theorem def_mkK {P : Program} {w : World} {K : PySem.W.Frag} {mg : Str → Option Value} {base : Heap} {x : Str} {st : Stmt} {k : Nat} {ps : List Str} {sp : Sp} (H : Has K mg x st)
    (h : ∀ (kV doc pm : Value) (an : Option Addr) (cdv ct : Value) (us : List Value), us.length = ps.length → bindArgs (PySem.W.fnOf x x (defArgs st) (defBody st) (defScope st) .none kV doc pm an cdv ct) ⟨us, []⟩ = pure (ps.zip us))
    (ok : ∀ f fd, FunD K x x (defArgs st) (defBody st) (defScope st) [] [] f fd → FnOk P w K mg base CX0 k f fd ps sp) : DefK P w K mg base x k ps sp := by
  obtain ⟨f, fd, F, hm⟩ := H
  exact ⟨f, fd, hm, F.kp, F.bindsN h, ok f fd F⟩
theorem lay_ints (xs : List Int) : PyData.canLayAll0 (xs.map PyData.int) = true := by
  induction xs with
  | nil => rfl
  | cons x l ih => simp [PyData.canLayAll0, PyData.canLay0, ih]
def scrD (xs : List Int) : D := .list (xs.map PyData.int)
/-- script, town, limit -/
def prDraw (T : Addr) (L : Nat) (ds : List D) : Prop := ∃ (xs : List Int) (l : Nat), xs.length ≤ 63 ∧ L = xs.length ∧ 0 < l ∧ l < 2 ^ 32 ∧ ds = [scrD xs, twM T, .int (l : Nat)]
def poDraw (ds : List D) (r : D) : Prop := ∀ (a b : D) (l : Nat), ds = [a, b, .int (l : Nat)] → ∃ j : Nat, j < l ∧ r = .int (j : Nat)
section
variable {X : Cx} {env : DEnv} {a b e : Expr} {pos : Pos}
theorem ev_mulW {i j : Int} (ha : EVd X a env (.int i)) (hb : EVd X b env (.int j)) (hc : CMulW i j) : EVd X (.BinOp a .Mult b pos) env (.int (i * j)) :=
  ev_op op_mulW ha hb fun x y Hc H c p1 p2 Q q => ⟨i, j, dp_int p1, dp_int p2, hc, q _ Hc H (Grow.refl c) (L2.Dp.int _)⟩
theorem ev_divW {i j : Int} (ha : EVd X a env (.int i)) (hb : EVd X b env (.int j)) (hc : CDivW i j) : EVd X (.BinOp a .FloorDiv b pos) env (.int (i / j)) :=
  ev_op op_fdivW ha hb fun x y Hc H c p1 p2 Q q => ⟨i, j, dp_int p1, dp_int p2, hc, q _ Hc H (Grow.refl c) (L2.Dp.int _)⟩
theorem ev_pow {i j : Int} (ha : EVd X a env (.int i)) (hb : EVd X b env (.int j)) (hc : CPow i j) : EVd X (.BinOp a .Pow b pos) env (.int (i ^ j.toNat)) :=
  ev_op op_pow ha hb fun x y Hc H c p1 p2 Q q => ⟨i, j, dp_int p1, dp_int p2, hc, q _ Hc H (Grow.refl c) (L2.Dp.int _)⟩
theorem modN {i : Int} {l : Nat} (h : 0 < l) : ∃ j : Nat, j < l ∧ i % (l : Int) = (j : Nat) :=
  ⟨(i % (l : Int)).toNat, by
    have h1 := Int.emod_nonneg i (b := (l : Int)) (by omega)
    have h2 := Int.emod_lt_of_pos i (b := (l : Int)) (by omega)
    omega, by
    have h1 := Int.emod_nonneg i (b := (l : Int)) (by omega)
    omega⟩
theorem cdivN {i : Int} {l : Nat} (h : 0 < l) (h2 : l < 2 ^ 32) : CDivW i (l : Nat) := wide_div (b := 32) (by omega) (by simpa using h2) (by decide) (by decide)
theorem cmulN {i j : Nat} (h : i < 2 ^ 100) (h2 : j < 2 ^ 100) : CMulW (i : Nat) (j : Nat) := wide_mul (a := 100) (b := 100) (by simpa using h) (by simpa using h2) (by decide) (by decide) (by decide)
/-- town[0] as it stands, used once more -/
theorem ez_town0P {T : Addr} {L : Nat} {p : Pos} (ha : EVd X a env (twM T)) (hb : EVd X b env (.int 0)) (hs : PlainIx b := by exact fun _ _ => rfl) : EVz X T L 0 (.Subscript a b p) env fun d => ∃ f : Nat, f ≤ big60 ∧ d = .int (f : Nat) :=
  ez_town0 ha hb (fun f h => ⟨f, h, rfl⟩) hs
end
section
variable {P : Program} {w : World} {K : PySem.W.Frag} {mg : Str → Option Value} {base : Heap}
abbrev N__law_draw : List Str := ["_law_script", "_law_town_here", "_law_limit", "_law_at", "_law_left", "_law_number"]
theorem sc__law_draw : FnScope N__law_draw ["_law_script", "_law_town_here", "_law_limit"] (defScope (top 83)) := ⟨rfl, rfl, rfl, by decide +kernel, rfl, by decide +kernel, by decide +kernel⟩
theorem ok__law_draw (B : Blt mg)  (F : Has K mg "_law_draw" (top 83)) : DefZ P w K mg base "_law_draw" 1 ["_law_script", "_law_town_here", "_law_limit"] 1 prDraw poDraw := by
  refine def_mkK F (fun _ _ _ _ _ _ us hl => match us, hl with | [_, _, _], _ => rfl) fun f fd F => fn_Z F sc__law_draw (fun T L ds h => ?_) fun cdv A outer s H E T L n ds h hbg hr => ?_
  · obtain ⟨xs, l, _, _, _, _, rfl⟩ := h
    rfl
  · obtain ⟨xs, l, hx, hL, hl0, hl, rfl⟩ := h
    have hu := hr.u 10
    have b60 : big60 = 2 ^ 60 := rfl
    have pst : ∀ j : Nat, j < l → poDraw [scrD xs, twM T, .int (l : Nat)] (.int (j : Nat)) := fun j hj a b l' e => by
      have : (l : Int) = (l' : Int) := by injection e with _ e; injection e with _ e; injection e with e; injection e
      have : l = l' := by omega
      exact ⟨j, this ▸ hj, rfl⟩
    have mods : ∀ i : Int, n + 1 ≤ n + 1 ∧ poDraw [scrD xs, twM T, .int (l : Nat)] (.int (i % (l : Int))) := fun i => by
      obtain ⟨j, h1, h2⟩ := modN (i := i) hl0
      rw [h2]
      exact ⟨Nat.le_refl _, pst j h1⟩
    refine svz_cons (svz_tick (ev_v 1 rfl) ev_int (ev_v 1 rfl) ev_int ev_int hbg ?_)
    refine svz_cons (svz_if (k := decide (xs = [])) (bT (et_c (ec_eqR (d1 := scrD xs) (d2 := .list []) (ev_v 0 rfl) (EVn.toD (ev_lst ea_nil (Nat.zero_le _))) (by simp only [scrD, PyData.canLay0]; exact lay_ints xs) rfl ?_)) ?_) (fun q => ?_) (fun q => svz_nil ?_))
    · have : min (PyData.depth (scrD xs)) (PyData.depth (.list [])) ≤ 1 := Nat.le_trans (Nat.min_le_right _ _) (by simp [PyData.depth, PyData.depthAll])
      show (A.deeper _).units + _ < cLine
      omega
    · cases xs with
      | nil => rfl
      | cons x l => rfl
    · refine svz_one (svz_ret (c := 0) (P := fun d => ∃ i : Int, d = .int (i % (l : Int))) (ez_bin (c1 := 0) (c2 := 0) (P1 := isI) (P2 := fun _ d => d = .int (l : Nat)) op_mod (ez_bin (c1 := 0) (c2 := 0) (P1 := isI) (P2 := fun _ d => d = .int 3) op_fdivW
        (ez_bin (c1 := 0) (c2 := 0) (P1 := fun d => ∃ m : Nat, m < 2 ^ 125 ∧ d = .int (m : Nat)) (P2 := fun _ d => d = .int 7) op_mulW
          (ez_bin (c1 := 0) (c2 := 0) (P1 := fun d => ∃ f : Nat, f ≤ big60 ∧ d = .int (f : Nat)) (P2 := fun _ d => ∃ f : Nat, f ≤ big60 ∧ d = .int (f : Nat)) op_mulW (ez_town0P (ev_v 1 rfl) ev_int) (fun _ _ => ez_town0P (ev_v 1 rfl) ev_int) ?_) (fun _ _ => ez_d ev_int rfl) ?_) (fun _ _ => ez_d ev_int rfl) ?_)
        (fun _ _ => ez_d (ev_v 2 rfl) rfl) ?_) (by omega) ?_)
      · intro d1 d2 k1 k2 x y Hc H cr p1 p2 Q q
        obtain ⟨f, hf, rfl⟩ := k1
        obtain ⟨g, hg, rfl⟩ := k2
        refine ⟨f, g, dp_int p1, dp_int p2, wide_mul (a := 61) (b := 61) (by simp; omega) (by simp; omega) (by decide) (by decide) (by decide), q _ (.int _) Hc H (Grow.refl cr) (L2.Dp.int _) ⟨f * g, ?_, by rw [Int.natCast_mul]⟩⟩
        exact Nat.lt_of_le_of_lt (Nat.mul_le_mul hf hg) (by decide)
      · intro d1 d2 k1 k2 x y Hc H cr p1 p2 Q q
        obtain ⟨m, hm, rfl⟩ := k1
        subst k2
        exact ⟨m, 7, dp_int p1, dp_int p2, wide_mul (a := 125) (b := 3) (by simpa using hm) (by decide) (by decide) (by decide) (by decide), q _ (.int _) Hc H (Grow.refl cr) (L2.Dp.int _) ⟨_, rfl⟩⟩
      · intro d1 d2 k1 k2 x y Hc H cr p1 p2 Q q
        obtain ⟨m, rfl⟩ := k1
        subst k2
        exact ⟨m, 3, dp_int p1, dp_int p2, wide_div (b := 2) (by decide) (by decide) (by decide) (by decide), q _ (.int _) Hc H (Grow.refl cr) (L2.Dp.int _) ⟨_, rfl⟩⟩
      · intro d1 d2 k1 k2 x y Hc H cr p1 p2 Q q
        obtain ⟨m, rfl⟩ := k1
        subst k2
        exact ⟨m, l, dp_int p1, dp_int p2, by omega, q _ (.int _) Hc H (Grow.refl cr) (L2.Dp.int _) ⟨_, rfl⟩⟩
      · intro d ⟨i, hi⟩
        rw [hi]
        exact mods i
    · have hne : 0 < xs.length := List.length_pos_iff.mpr (of_decide_eq_false q)
      refine svz_cons (svz_set (i := 3) (c := 0) (P := fun d => ∃ j : Nat, j < xs.length ∧ d = .int (j : Nat)) sc__law_draw.nd rfl (by first | exact Or.inl rfl | exact Or.inr rfl)
        (ez_bin (c1 := 0) (c2 := 0) (P1 := isI) (P2 := fun _ d => d = .int ((xs.map PyData.int).length : Nat)) op_mod ((ez_town0P (ev_v 1 rfl) ev_int).weak (Nat.le_refl _) fun d ⟨f, _, h⟩ => ⟨_, h⟩) (fun _ _ => ez_d (ev_lenL B (ev_v 0 rfl)) rfl) ?_) (by omega) fun d hd => ?_)
      · intro d1 d2 k1 k2 x y Hc H cr p1 p2 Q q
        obtain ⟨m, rfl⟩ := k1
        subst k2
        rw [List.length_map] at p2
        obtain ⟨j, h1, h2⟩ := modN (i := m) hne
        refine ⟨m, xs.length, dp_int p1, dp_int p2, by omega, ?_⟩
        show Q (.int (m % (xs.length : Int))) H
        rw [h2]
        exact q _ (.int _) Hc H (Grow.refl cr) (L2.Dp.int _) ⟨j, h1, rfl⟩
      obtain ⟨j, hj, rfl⟩ := hd
      have hat : atI (xs.map PyData.int) (j : Int) = some (.int (xs[j])) := atI_nat (by rw [List.getElem?_map, List.getElem?_eq_getElem hj]; rfl)
      refine svz_cons (svz_set (i := 4) (c := 0) (P := isI) sc__law_draw.nd rfl (by first | exact Or.inl rfl | exact Or.inr rfl)
        (ez_town (ev_v 1 rfl) (ez_d (ev_add ev_int (ev_v 3 rfl)) ⟨1 + j, by rw [Int.natCast_add]; rfl, ?_⟩) fun i => ⟨i, rfl⟩) (by omega) fun d hd => ?_)
      · omega
      obtain ⟨lf, rfl⟩ := hd
      refine svz_cons (svz_ifz (c := 0) (Pb := fun _ => True) (EVzw.tst (ezw_and (c1 := 0) (c2 := 0) (Pa := fun _ => True) (ezt_t (et_c (ec_ge (ev_ixL (ev_v 0 rfl) (ev_v 3 rfl) hat) (ev_pow ev_int ev_int ⟨by decide, by decide, by decide⟩))) trivial) (fun _ => ezw_and1 (ezt_t (et_c (ec_gt (ev_v 4 rfl) ev_int)) trivial)) (fun _ => trivial))) (by omega) (fun _ => ?_) (fun _ => svz_nil ?_))
      · refine svz_cons (svz_setT (j := 1 + j) (c := 0) (ev_v 1 rfl) (by rw [Int.natCast_add]; exact ev_add ev_int (ev_v 3 rfl)) (ez_d (ev_divW (ev_v 4 rfl) (ev_v 2 rfl) (cdivN hl0 hl)) ⟨_, rfl⟩) (by omega) ?_ (by omega) ?_)
        · omega
        · refine svz_one (svz_ret (c := 0) (P := fun d => d = .int (lf % (l : Int))) (ez_d (ev_mod (ev_v 4 rfl) (ev_v 2 rfl) (by omega)) rfl) (by omega) fun d hd => ?_)
          rw [hd]
          exact mods lf
      · refine svz_cons (svz_set (i := 5) (c := 0) (P := fun d => ∃ j : Nat, j < 4294967291 ∧ d = .int (j : Nat)) sc__law_draw.nd rfl (by first | exact Or.inl rfl | exact Or.inr rfl)
          (ez_bin (c1 := 0) (c2 := 0) (P1 := isI) (P2 := fun _ d => d = .int 4294967291) op_mod
            (ez_add (ev_ixL (ev_v 0 rfl) (ev_v 3 rfl) hat) (ez_bin (c1 := 0) (c2 := 0) (P1 := fun d => d = .int 104729) (P2 := fun _ d => ∃ f : Nat, f ≤ big60 ∧ d = .int (f : Nat)) op_mulW (ez_d ev_int rfl) (fun _ _ => ez_town0P (ev_v 1 rfl) ev_int) ?_)) (fun _ _ => ez_d ev_int rfl) ?_) (by omega) fun d hd => ?_)
        · intro d1 d2 k1 k2 x y Hc H cr p1 p2 Q q
          subst k1
          obtain ⟨f, hf, rfl⟩ := k2
          exact ⟨104729, f, dp_int p1, dp_int p2, wide_mul (a := 20) (b := 61) (by decide) (by simp; omega) (by decide) (by decide) (by decide), q _ (.int _) Hc H (Grow.refl cr) (L2.Dp.int _) ⟨_, rfl, ⟨_, rfl⟩⟩⟩
        · intro d1 d2 k1 k2 x y Hc H cr p1 p2 Q q
          obtain ⟨m, rfl⟩ := k1
          subst k2
          obtain ⟨j, h1, h2⟩ := modN (i := m) (l := 4294967291) (by decide)
          refine ⟨m, 4294967291, dp_int p1, dp_int p2, (by decide : (0 : Int) < 4294967291), ?_⟩
          have h3 : m % 4294967291 = (j : Int) := h2
          show Q (.int (m % 4294967291)) H
          rw [h3]
          exact q _ (.int _) Hc H (Grow.refl cr) (L2.Dp.int _) ⟨j, h1, rfl⟩
        obtain ⟨r, hr1, rfl⟩ := hd
        obtain ⟨r2, hr2, hr3⟩ := modN (i := (r : Int) ^ 5) (l := 4294967279) (by decide)
        refine svz_cons (svz_set (i := 5) (c := 0) (P := fun d => d = .int (r2 : Nat)) sc__law_draw.nd rfl (by first | exact Or.inl rfl | exact Or.inr rfl)
          (ez_d (d := .int (((r : Nat) : Int) ^ (5 : Int).toNat % 4294967279)) (ev_mod (ev_pow (ev_v 5 rfl) ev_int ⟨by decide, by decide, by simp; omega⟩) ev_int (by decide)) ?_) (by omega) fun d hd => ?_)
        · have h3 : ((r : Nat) : Int) ^ (5 : Int).toNat % 4294967279 = (r2 : Int) := hr3
          rw [h3]
        subst hd
        refine svz_one (svz_ret (c := 0) (P := fun d => ∃ i : Int, d = .int (i % (l : Int))) (ez_d (ev_mod (ev_divW (ev_mod (ev_add (ev_mulW (ev_divW (ev_v 5 rfl) ev_int (wide_div (b := 7) (by decide) (by decide) (by decide) (by decide))) ev_int ?_) (ev_v 5 rfl)) ev_int (by decide)) ev_int (wide_div (b := 4) (by decide) (by decide) (by decide) (by decide))) (ev_v 2 rfl) (by omega)) ⟨_, rfl⟩) (by omega) fun d hd => ?_)
        · exact wide_mul (a := 64) (b := 20) (by omega) (by decide) (by decide) (by decide) (by decide)
        · obtain ⟨i, hi⟩ := hd
          rw [hi]
          exact mods i
end
end Tr
set_option Elab.async false
set_option linter.all false
set_option maxRecDepth 100000
set_option maxHeartbeats 1000000
set_option autoImplicit false
namespace Tr
open PySem PySem.Spec PyProof.Rows L2 DL
def prPick (T : Addr) (L : Nat) (ds : List D) : Prop := ∃ (xs : List Int) (cs : List D), xs.length ≤ 63 ∧ L = xs.length ∧ 0 < cs.length ∧ cs.length < 2 ^ 32 ∧ ds = [scrD xs, twM T, .list cs]
def poPick (ds : List D) (r : D) : Prop := ∀ (a b : D) (cs : List D), ds = [a, b, .list cs] → r ∈ cs
section
variable {P : Program} {w : World} {K : PySem.W.Frag} {mg : Str → Option Value} {base : Heap}
abbrev N__law_pick : List Str := ["_law_script", "_law_town_here", "_law_choices"]
theorem sc__law_pick : FnScope N__law_pick ["_law_script", "_law_town_here", "_law_choices"] (defScope (top 84)) := ⟨rfl, rfl, rfl, by decide +kernel, rfl, by decide +kernel, by decide +kernel⟩
theorem ok__law_pick (B : Blt mg) (D1 : DefZ P w K mg base "_law_draw" 1 ["_law_script", "_law_town_here", "_law_limit"] 1 prDraw poDraw) (F : Has K mg "_law_pick" (top 84)) : DefZ P w K mg base "_law_pick" (1 + 1) ["_law_script", "_law_town_here", "_law_choices"] 1 prPick poPick := by
  refine def_mkK F (fun _ _ _ _ _ _ us hl => match us, hl with | [_, _, _], _ => rfl) fun f fd F => fn_Z F sc__law_pick (fun T L ds h => ?_) fun cdv A outer s H E T L n ds h hbg hr => ?_
  · obtain ⟨xs, cs, _, _, _, _, rfl⟩ := h
    rfl
  · obtain ⟨xs, cs, hx, hL, hl0, hl, rfl⟩ := h
    refine svz_one (svz_ret (c := 0 + 1) (P := fun d => d ∈ cs) (ez_ixL (ds := cs) (ev_v 2 rfl) (ez_call D1 (hr.mono (Nat.le_refl _)) rfl (ezs_d (ev_v 0 rfl) (ezs_d (ev_v 1 rfl) (ezs_d (d := .int (cs.length : Nat)) (ev_lenL B (ev_v 2 rfl)) (ezs_nil ⟨⟨xs, cs.length, hx, hL, hl0, hl, rfl⟩, fun d hd => ?_⟩)))))) hbg fun d hd => ⟨by omega, fun a b cs' e => ?_⟩)
    · obtain ⟨j, h1, h2⟩ := hd _ _ _ rfl
      exact ⟨j, cs[j], h2, List.getElem?_eq_getElem h1, List.getElem_mem h1⟩
    · injection e with _ e
      injection e with _ e
      injection e with e _
      injection e with e
      exact e ▸ hd
end
end Tr
set_option Elab.async false
set_option linter.all false
set_option maxRecDepth 100000
set_option maxHeartbeats 1000000
set_option autoImplicit false
namespace Tr
open PySem PySem.Spec PyProof.Rows L2 DL
section
variable {P : Program} {w : World} {K : PySem.W.Frag} {mg : Str → Option Value} {base : Heap}
abbrev N__law_traits : List Str := ["_law_world_here", "_law_row"]
theorem sc__law_traits : FnScope N__law_traits ["_law_world_here"] (defScope (top 89)) := ⟨rfl, rfl, rfl, by decide +kernel, rfl, by decide +kernel, by decide +kernel⟩
theorem ok__law_traits (B : Blt mg)  (F : Has K mg "_law_traits" (top 89)) : DefD P w K mg base "_law_traits" 1 ["_law_world_here"] spNames := by
  refine def_mk F (fun _ _ _ _ _ _ us hl => match us, hl with | [_], _ => rfl) fun f fd F => fn_D F sc__law_traits (fun ds d h => ?_) fun cdv A outer s H E ds d h hr => ?_
  · obtain ⟨v, _, rfl, _⟩ := h
    rfl
  · obtain ⟨v, hl, rfl, rfl⟩ := h
    refine sv_one (sv_ret (EVn.toD (en_map1 (xs := v.ts) (enc := encT) (i := 1) (fun t => .str t.1) sc__law_traits.nd (blkOk_by (N := N__law_traits) (sc := defScope (top 89)) (by decide +kernel)) rfl (iv_tup (ev_W 0 rfl rfl)) (Nat.le_trans hl (by decide)) (fun _ _ _ _ _ => g_one 1 sc__law_traits.nd)
      (fun t _ _ _ _ _ _ => ev_ixT (d := .str t.1) (ev_v 1 rfl) ev_int rfl) (fun _ => rfl))) ?_)
    show PyData.list _ = _
    unfold names
    rw [List.map_map]
    rfl
end
end Tr
set_option Elab.async false
set_option linter.all false
set_option maxRecDepth 100000
set_option maxHeartbeats 1000000
set_option autoImplicit false
namespace Tr
open PySem PySem.Spec PyProof.Rows L2 DL
def spLFits (ds : List D) (r : D) : Prop := ∃ (i : Inst) (x : Srt), i.lims.length ≤ 2 ∧ (i.root = x.root → i.lims.length ≤ x.parts.length) ∧ ds = [encI i, encS x] ∧ r = .bool (fitsM i x)
section
variable {P : Program} {w : World} {K : PySem.W.Frag} {mg : Str → Option Value} {base : Heap}
abbrev N__law_fits : List Str := ["_law_instance_here", "_law_sort_here", "_law_k"]
theorem sc__law_fits : FnScope N__law_fits ["_law_instance_here", "_law_sort_here"] (defScope (top 93)) := ⟨rfl, rfl, rfl, by decide +kernel, rfl, by decide +kernel, by decide +kernel⟩
theorem ok__law_fits (B : Blt mg)  (F : Has K mg "_law_fits" (top 93)) : DefD P w K mg base "_law_fits" 1 ["_law_instance_here", "_law_sort_here"] spLFits := by
  refine def_mk F (fun _ _ _ _ _ _ us hl => match us, hl with | [_, _], _ => rfl) fun f fd F => fn_D F sc__law_fits (fun ds d h => ?_) fun cdv A outer s H E ds d h hr => ?_
  · obtain ⟨i, x, _, _, rfl, _⟩ := h
    rfl
  · obtain ⟨i, x, hl2, hlen, rfl, rfl⟩ := h
    have h0 : atI (encSL x) 0 = some (.str x.root) := atI_nat (j := 0) (by rw [encSL_eq]; rfl)
    by_cases hroot : i.root = x.root
    · have hlen := hlen hroot
      have hfit : fitsM i x = (i.lims.zip x.parts).all okL := by
        unfold fitsM
        rw [decide_eq_true hroot, Bool.true_and]
      refine sv_cons (sv_skip (c_neFS (ev_ixT (ev_v 0 rfl) ev_int rfl) (ev_ixT (ev_v 1 rfl) ev_int h0) hroot) ?_)
      refine sv_cons (sv_for (xs := List.range (i.lims.map encL).length) (enc := fun (k : Nat) => .int (k : Nat)) (t := .one 2) (fun n env' => (∃ a, env' = [some (.dat (encI i)), some (.dat (encS x)), a]) ∧ ((i.lims.zip x.parts).take n).all okL = true) PassesOwn.never rfl
        (iv_range1 (ev_lenT B (ev_ixT (d := .tuple (i.lims.map encL)) (ev_v 0 rfl) ev_int rfl)) rfl B.range (by rw [List.length_map]; omega)) ⟨⟨none, rfl⟩, rfl⟩ (fun p => t_one 2 sc__law_fits.nd) ?_ ?_)
      · rintro n k _ hn ⟨⟨a, rfl⟩, ih⟩
        have hk : n < i.lims.length ∧ n = k := by
          obtain ⟨h1, h2⟩ := List.getElem?_eq_some_iff.mp hn
          rw [List.length_range, List.length_map] at h1
          rw [List.getElem_range] at h2
          exact ⟨h1, h2⟩
        obtain ⟨hk, rfl⟩ := hk
        have hk2 : n < x.parts.length := by omega
        have hz : (i.lims.zip x.parts)[n]? = some (i.lims[n], x.parts[n]) := by
          rw [List.getElem?_eq_getElem (by rw [List.length_zip]; omega), List.getElem_zip]
        have hlim : atI (i.lims.map encL) (n : Int) = some (encL (i.lims[n])) := atI_nat (by rw [List.getElem?_map, List.getElem?_eq_getElem hk]; rfl)
        have hpart : atI (encSL x) ((n : Int) + 1) = some (encS (x.parts[n])) := atI_nat (j := n + 1) (by rw [encSL_eq, List.getElem?_cons_succ, List.getElem?_map, List.getElem?_eq_getElem hk2]; rfl)
        have hp0 : atI (encSL (x.parts[n])) 0 = some (.str (x.parts[n]).root) := atI_nat (j := 0) (by rw [encSL_eq]; rfl)
        generalize x.parts[n] = p at *
        generalize i.lims[n] = l at *
        cases l with
        | none =>
          exact sv_one (sv_skip (tE (w_andF (c_notNF (ev_ixT (d := .none) (ev_ixT (ev_v 0 rfl) ev_int rfl) (ev_v 2 rfl) hlim)))) ⟨⟨_, rfl⟩, take_all hz ih rfl⟩)
        | some l =>
          by_cases hl : p.root = l
          · exact sv_one (sv_skip (tE (w_andT (c_notNT (ev_ixT (d := .str l) (ev_ixT (ev_v 0 rfl) ev_int rfl) (ev_v 2 rfl) hlim)) (ew_and1 (c_neFS (ev_ixT (ev_ixT (d := encS p) (ev_v 1 rfl) (ev_add (ev_v 2 rfl) ev_int) hpart) ev_int hp0) (ev_ixT (d := .str l) (ev_ixT (ev_v 0 rfl) ev_int rfl) (ev_v 2 rfl) hlim) hl)))) ⟨⟨_, rfl⟩, take_all hz ih (decide_eq_true hl)⟩)
          · refine sv_one (sv_then (tE (w_andT (c_notNT (ev_ixT (d := .str l) (ev_ixT (ev_v 0 rfl) ev_int rfl) (ev_v 2 rfl) hlim)) (ew_and1 (c_neTS (ev_ixT (ev_ixT (d := encS p) (ev_v 1 rfl) (ev_add (ev_v 2 rfl) ev_int) hpart) ev_int hp0) (ev_ixT (d := .str l) (ev_ixT (ev_v 0 rfl) ev_int rfl) (ev_v 2 rfl) hlim) hl)))) (sv_one (sv_ret ev_bl ?_)))
            show PyData.bool false = _
            rw [hfit, at_all hz (decide_eq_false hl)]
      · rintro _ ⟨⟨a, rfl⟩, ih⟩
        rw [List.length_range, List.length_map, List.take_of_length_le (by rw [List.length_zip]; omega)] at ih
        refine sv_one (sv_ret ev_bl ?_)
        show PyData.bool true = _
        rw [hfit, ih]
    · refine sv_cons (sv_then (c_neTS (ev_ixT (ev_v 0 rfl) ev_int rfl) (ev_ixT (ev_v 1 rfl) ev_int h0) hroot) (sv_one (sv_ret ev_bl ?_)))
      unfold fitsM
      rw [decide_eq_false hroot]
      rfl
end
end Tr
set_option Elab.async false
set_option linter.all false
set_option maxRecDepth 100000
set_option maxHeartbeats 1000000
set_option autoImplicit false
namespace Tr
open PySem PySem.Spec PyProof.Rows L2 DL
theorem standsM_any (is : List Inst) (x : Srt) (t : Str) : standsM is x t = is.any fun one => (decide (one.tr = t) && fitsM one x) && one.asks.all (askM is x) := by
  rw [standsM]
  congr 1
  funext p
  congr 1
  congr 1
  funext a
  unfold askM
  split <;> rename_i h
  · rw [h]
  · rw [h]
theorem lay_asks {v : Wd} (ok : OkW v) : ∀ l : List (Str × Nat), (∀ a ∈ l, a.1 ∈ names v) → PyData.canLayAll0 (l.map encA) = true
  | [], _ => rfl
  | a :: l, h => by
    have h1 := lay_asks ok l fun b hb => h b (List.mem_cons_of_mem _ hb)
    obtain ⟨t, ht, e⟩ := List.mem_map.mp (h a List.mem_cons_self)
    have h2 := (ok.st t ht).1
    rw [e] at h2
    simp [PyData.canLayAll0, PyData.canLay0, encAL, h1, h2]
theorem filt_nil {α : Type} (p : α → Bool) (l : List α) (f : α → D) : decide (((l.filter fun a => !p a).map f) = []) = l.all p := by
  cases q : l.all p with
  | true =>
    refine decide_eq_true ?_
    rw [List.map_eq_nil_iff, List.filter_eq_nil_iff]
    intro a ha
    rw [List.all_eq_true.mp q a ha]
    decide
  | false =>
    refine decide_eq_false fun e => ?_
    rw [List.map_eq_nil_iff, List.filter_eq_nil_iff] at e
    have : l.all p = true := List.all_eq_true.mpr fun a ha => by
      have := e a ha
      cases h : p a with
      | true => rfl
      | false => rw [h] at this; exact absurd rfl this
    rw [this] at q
    cases q
section
variable {P : Program} {w : World} {K : PySem.W.Frag} {mg : Str → Option Value} {base : Heap}
def spHolds (k : Nat) (ds : List D) (r : D) : Prop := ∃ (v : Wd) (is : List Inst) (t : Str) (x : Srt), OkW v ∧ is.length ≤ 8 ∧ (∀ i ∈ is, OkI v i) ∧ okS v x = true ∧ x.depth ≤ k ∧ ds = [encIs is, .str t, encS x] ∧ r = .bool (standsM is x t)
abbrev N__law_holds : List Str := ["_law_instances", "_law_trait", "_law_sort_here", "_law_one", "_law_ask"]
theorem sc__law_holds : FnScope N__law_holds ["_law_instances", "_law_trait", "_law_sort_here"] (defScope (top 94)) := ⟨rfl, rfl, rfl, by decide +kernel, rfl, by decide +kernel, by decide +kernel⟩
theorem ok__law_holds (B : Blt mg) (D1 : DefD P w K mg base "_law_fits" 1 ["_law_instance_here", "_law_sort_here"] spLFits) (F : Has K mg "_law_holds" (top 94)) : ∀ k : Nat, DefD P w K mg base "_law_holds" (k + 3) ["_law_instances", "_law_trait", "_law_sort_here"] (spHolds k)
  | 0 => by
    refine def_mk F (fun _ _ _ _ _ _ us hl => match us, hl with | [_, _, _], _ => rfl) fun f fd F => fn_D F sc__law_holds (fun ds d h => ?_) fun cdv A outer s H E ds d h hr => ?_
    · obtain ⟨v, is, t, x, _, _, _, _, _, rfl, _⟩ := h
      rfl
    · obtain ⟨v, is, t, x, _, _, _, _, hd, _⟩ := h
      have := depth_pos x
      omega
  | k + 1 => by
    have D2 := ok__law_holds B D1 F k
    refine def_mk F (fun _ _ _ _ _ _ us hl => match us, hl with | [_, _, _], _ => rfl) fun f fd F => fn_D F sc__law_holds (fun ds d h => ?_) fun cdv A outer s H E ds d h hr => ?_
    · obtain ⟨v, is, t, x, _, _, _, _, _, rfl, _⟩ := h
      rfl
    · obtain ⟨v, is, t, x, ok, hl, ha, ho, hd, rfl, rfl⟩ := h
      have hu := hr.u 10
      refine sv_cons (sv_for (xs := is) (enc := encI) (t := .one 3) (fun n env' => (∃ a, env' = [some (.dat (encIs is)), some (.dat (.str t)), some (.dat (encS x)), a, none]) ∧ (is.take n).all (fun p => !((decide (p.tr = t) && fitsM p x) && p.asks.all (askM is x))) = true) PassesOwn.never rfl
        (iv_tup (ev_v 0 rfl)) ⟨⟨none, rfl⟩, rfl⟩ (fun p => t_one 3 sc__law_holds.nd) ?_ ?_)
      · rintro n i _ hn ⟨⟨a, rfl⟩, ih⟩
        have hm1 : i ∈ is := List.mem_of_getElem? hn
        have hia := ha i hm1
        refine sv_one (sv_if (k := decide (i.tr = t) && fitsM i x) (tE (ew_and (et_c (ec_eqS (ev_ixT (d := .str i.tr) (ev_v 3 rfl) ev_int rfl) (ev_v 1 rfl))) fun _ => ew_and1 (tV (ev_call D1 (hr.mono (by omega)) rfl (eq_cons (ev_v 3 rfl) (eq_cons (ev_v 2 rfl) eq_nil)) ⟨i, x, hia.n2, fun hroot => ?_, rfl, rfl⟩)))) (fun q => ?_) (fun q => sv_nil ⟨⟨_, rfl⟩, take_all hn ih (by rw [q]; rfl)⟩))
        · have h1 := okS_root ho
          rw [← hroot, hia.ar] at h1
          exact Nat.le_of_eq (Option.some.inj h1)
        · have hfi : fitsM i x = true := by
            rw [Bool.and_eq_true] at q
            exact q.2
          have hlay : PyData.canLay0 (.list ((i.asks.filter fun a => !askM is x a).map encA)) = true := by
            simp only [PyData.canLay0]
            exact lay_asks ok _ fun a h => (hia.aa a (List.mem_filter.mp h).1).2
          refine sv_one (sv_if (k := i.asks.all (askM is x)) (bT (et_c (ec_eqR (d1 := .list ((i.asks.filter fun a => !askM is x a).map encA)) (d2 := .list []) (EVn.toD (en_fil1 (xs := i.asks) (enc := encA) (i := 4) (fun a => !askM is x a) encA sc__law_holds.nd (blkOk_by (N := N__law_holds) (sc := defScope (top 94)) (by decide +kernel)) rfl (iv_tup (ev_ixT (d := .tuple (i.asks.map encA)) (ev_v 3 rfl) ev_int rfl)) (Nat.le_trans hia.al (by decide)) (fun _ _ _ _ _ => g_one 4 sc__law_holds.nd)
            (fun a hma _ _ _ _ _ => ?_) (fun a _ _ _ _ _ _ _ => ev_v 4 rfl) (fun _ => rfl))) (EVn.toD (ev_lst ea_nil (Nat.zero_le _))) hlay rfl ?_)) (by rw [eqv_nil, filt_nil])) (fun q2 => sv_one (sv_ret ev_bl ?_)) (fun q2 => sv_nil ⟨⟨_, rfl⟩, take_all hn ih (by rw [q2, Bool.and_false]; rfl)⟩))
          · obtain ⟨h2, _⟩ := hia.aa a hma
            have h1 := hia.ar
            rw [fits_root hfi, okS_root ho] at h1
            have h1 := Option.some.inj h1
            obtain ⟨p, hp⟩ : ∃ p, x.sub a.2 = some p := ⟨_, List.getElem?_eq_getElem (by omega)⟩
            have e : askM is x a = standsM is p a.1 := by unfold askM; rw [hp]
            rw [e]
            refine et_not (tV (ev_call D2 hr rfl (eq_cons (ev_v 0 rfl) (eq_cons (ev_ixT (d := .str a.1) (ev_v 4 rfl) ev_int rfl) (eq_cons (ev_ixT (ev_v 2 rfl) (ev_add (ev_ixT (d := .int (a.2 : Nat)) (ev_v 4 rfl) ev_int rfl) ev_int) (atI_nat (j := a.2 + 1) ?_)) eq_nil))) ⟨v, is, a.1, p, ok, hl, ha, okS_parts ho (sub_mem hp), by have := depth_parts (sub_mem hp); omega, rfl, rfl⟩))
            rw [encSL_eq, List.getElem?_cons_succ, List.getElem?_map, show x.parts[a.2]? = some p from hp]
            rfl
          · have : min (PyData.depth (.list ((i.asks.filter fun a => !askM is x a).map encA))) (PyData.depth (.list [])) ≤ 1 := Nat.le_trans (Nat.min_le_right _ _) (by simp [PyData.depth, PyData.depthAll])
            show (A.deeper _).units + _ < cLine
            omega
          · show PyData.bool true = _
            rw [standsM_any]
            congr 1
            exact (List.any_eq_true.mpr ⟨i, hm1, by rw [q, q2]; rfl⟩).symm
      · rintro _ ⟨⟨a, rfl⟩, ih⟩
        rw [List.take_length] at ih
        refine sv_one (sv_ret ev_bl ?_)
        show PyData.bool false = _
        rw [standsM_any]
        congr 1
        cases q : is.any fun p => (decide (p.tr = t) && fitsM p x) && p.asks.all (askM is x) with
        | false => rfl
        | true =>
          obtain ⟨p, h1, h2⟩ := List.any_eq_true.mp q
          have h3 := List.all_eq_true.mp ih p h1
          rw [h2] at h3
          cases h3
end
end Tr
set_option Elab.async false
set_option linter.all false
set_option maxRecDepth 100000
set_option maxHeartbeats 1000000
set_option autoImplicit false
/-! DN8: x = xs + [..], xs made here -/
namespace DL
open PySem PySem.Spec PyProof.Rows L2
section
variable {X : Cx} {env : SEnv} {pos pos' p : Pos} {e : Expr} {ds es : List D} {Z : EndsD}
theorem sv_catO {i j : Nat} {x y : Str} {py : Pos} (hN : X.N.Nodup) (hi : X.N[i]? = some x) (hx : Loc X.env.scope x) (hj : env[j]? = some (some (.own (.list ds)))) (he : EVn X e (vis env) es) (hz : ds.length + es.length ≤ sizeLine) (h : Z.nx (env.set i (some (.own (.list (ds ++ es))))))
    (hs : swapsWith (.BinOp (.Name y py) .Add e p) (some (.Name x pos')) pos.line X.env = pure false := by rfl) (hf : X.fn x = true ∨ X.env.scope.names.lookup x = some .local := by first | exact .inl rfl | exact .inr rfl | assumption)
    (hNj : X.N[j]? = some y := by rfl) (hvi : Vis X.env.scope y := by first | exact Or.inl rfl | exact Or.inr (Or.inl rfl) | exact Or.inr (Or.inr rfl))
    (h1 : (y == ("__debug__" : Str)) = false := by decide) (h2 : (y == ("__classdict__" : Str)) = false := by decide) : SV X (.Assign [.Name x pos'] (.BinOp (.Name y py) .Add e p) pos) Z env := fun Hc0 H0 σ H ⟨Hc, q⟩ =>
  ws_of (ps_set hN hi hx (pe_op op_cat (pe_var hNj hvi h1 h2) pe_w) hs hf) (by
    obtain ⟨a, o, k1, k2, k3, k4, k5⟩ := q.own j _ hj
    cases k5 with
    | @lst xs _ k5 =>
    refine ⟨_, k1, ?_⟩
    refine he Hc σ H q.x _ fun b zs Hc1 H1 g np nc hp ha => ?_
    refine ⟨a, b, xs, zs, rfl, rfl, g.hh a _ k4, hp, by rw [k5.len, ha.len]; exact hz, fun r nr => ?_⟩
    have q1 := q.grow g
    have g2 := Grow.own (xs := xs ++ zs) g.cor nr
    have q2 := q1.grow g2
    refine ⟨_, ⟨Hc1, q2.setOwn i (q1.gr.hh.free nr) (g.cor.sub.free nr) upd_same (TopO.lst ((k5.same g.cc).app ha)) fun m fs e1 e2 => ?_⟩, h⟩
    obtain ⟨b2, u, m1, m2, m3, m4, m5⟩ := q1.own m fs e1
    rw [m1] at e2
    cases e2
    rw [nr] at m4
    cases m4)
end
end DL
set_option Elab.async false
set_option linter.all false
set_option maxRecDepth 100000
set_option maxHeartbeats 1000000
set_option autoImplicit false
namespace Tr
open PySem PySem.Spec PyProof.Rows L2 DL
def raA : List Str := ["world", "sort", "trait", "instance", "set", "number", "size", "granted"]
def raB : List Str := ["pairs", "stock", "wanted", "choice", "library", "module", "program", "arguments"]
def raC : List Str := ["text", "tangled", "unsound", "unclear", "unchecked", "notholding", "many", "undo"]
abbrev raAll : List Str := (raA ++ raB) ++ raC
def spRaises (ds : List D) (r : D) : Prop := ∃ x : Str, x ∈ raAll ∧ ds = [.str x] ∧ r = .tuple [.str "raised", .int (raAll.idxOf x : Nat)]
section
variable {P : Program} {w : World} {K : PySem.W.Frag} {mg : Str → Option Value} {base : Heap}
abbrev N__law_raises : List Str := ["_law_name_here", "_law_names"]
theorem sc__law_raises : FnScope N__law_raises ["_law_name_here"] (defScope (top 87)) := ⟨rfl, rfl, rfl, by decide +kernel, rfl, by decide +kernel, by decide +kernel⟩
theorem ok__law_raises (B : Blt mg)  (F : Has K mg "_law_raises" (top 87)) : DefD P w K mg base "_law_raises" 1 ["_law_name_here"] spRaises := by
  refine def_mk F (fun _ _ _ _ _ _ us hl => match us, hl with | [_], _ => rfl) fun f fd F => fn_D F sc__law_raises (fun ds d h => ?_) fun cdv A outer s H E ds d h hr => ?_
  · obtain ⟨x, _, rfl, _⟩ := h
    rfl
  · obtain ⟨x, hx, rfl, rfl⟩ := h
    have hu := hr.u 70
    refine sv_cons (sv_setN (i := 1) (ds := raA.map PyData.str) sc__law_raises.nd rfl (by first | exact Or.inl rfl | exact Or.inr rfl) (ev_lst (ea_cons ev_str (ea_cons ev_str (ea_cons ev_str (ea_cons ev_str (ea_cons ev_str (ea_cons ev_str (ea_cons ev_str (ea_cons ev_str ea_nil)))))))) (Nat.le_of_ble_eq_true rfl)) rfl ?_)
    refine sv_cons (sv_catO (i := 1) (j := 1) (ds := raA.map PyData.str) (es := raB.map PyData.str) sc__law_raises.nd rfl (by first | exact Or.inl rfl | exact Or.inr rfl) rfl (ev_lst (ea_cons ev_str (ea_cons ev_str (ea_cons ev_str (ea_cons ev_str (ea_cons ev_str (ea_cons ev_str (ea_cons ev_str (ea_cons ev_str ea_nil)))))))) (Nat.le_of_ble_eq_true rfl)) (by decide) ?_)
    refine sv_cons (sv_catO (i := 1) (j := 1) (ds := raA.map PyData.str ++ raB.map PyData.str) (es := raC.map PyData.str) sc__law_raises.nd rfl (by first | exact Or.inl rfl | exact Or.inr rfl) rfl (ev_lst (ea_cons ev_str (ea_cons ev_str (ea_cons ev_str (ea_cons ev_str (ea_cons ev_str (ea_cons ev_str (ea_cons ev_str (ea_cons ev_str ea_nil)))))))) (Nat.le_of_ble_eq_true rfl)) (by decide) ?_)
    refine sv_one (sv_ret (ev_tup (ea_cons ev_str (ea_cons (ev_index (xs := raAll) (by show (A.deeper _).units + 65 < cLine; omega) (ev_v 1 rfl) (ev_v 0 rfl) hx (by decide +kernel) ?_) ea_nil)) (Nat.le_of_ble_eq_true rfl)) rfl)
    have : ∀ y ∈ raAll, lay (PyData.str y) = true := by decide +kernel
    exact this x hx
end
end Tr
set_option Elab.async false
set_option linter.all false
set_option maxRecDepth 100000
set_option maxHeartbeats 1000000
set_option autoImplicit false
namespace Tr
open PySem PySem.Spec PyProof.Rows L2 DL
theorem blk_one {X : Cx} {scope : Scope} {x : Str} {px : Pos} {i : Nat} {d : D} {env : DEnv} (hg : Blk X scope fun Y => ∀ (d : D) (env : DEnv), GV Y (.Name x px) d env (env.set i (some d)) [i]) : Blk X scope fun Y => GV Y (.Name x px) d env (env.set i (some d)) [i] := fun s H C cl fp => hg s H C cl fp _ _
def srtOf (r : Str) : List Srt → Srt
  | [] => .n0 r
  | [a] => .n1 r a
  | a :: b :: _ => .n2 r a b
theorem srtOf_parts (r : Str) {l : List Srt} (h : l.length ≤ 2) : (srtOf r l).parts = l ∧ (srtOf r l).root = r := match l, h with
  | [], _ => ⟨rfl, rfl⟩
  | [_], _ => ⟨rfl, rfl⟩
  | [_, _], _ => ⟨rfl, rfl⟩
theorem srtOf_depth (r : Str) {l : List Srt} {k : Nat} (h : l.length ≤ 2) (hd : ∀ p ∈ l, p.depth ≤ k) : (srtOf r l).depth ≤ k + 1 := match l, h, hd with
  | [], _, _ => by simp [srtOf, Srt.depth]
  | [a], _, hd => by
    have := hd a (by simp)
    simp [srtOf, Srt.depth]
    omega
  | [a, b], _, hd => by
    have := hd a (by simp)
    have := hd b (by simp)
    simp [srtOf, Srt.depth]
    omega
def cSort : Nat → Nat
  | 0 => 1
  | k + 1 => 1 + 2 * cSort k
/-- depth k + 1 at most -/
def prSort (k : Nat) (v : Wd) (T : Addr) (L : Nat) (ds : List D) : Prop := ∃ (xs : List Int) (m : Nat), xs.length ≤ 63 ∧ L = xs.length ∧ OkW v ∧ m ≤ k ∧ ds = [scrD xs, twM T, W v, .int ((m + 1 : Nat) : Int)]
def poSort (v : Wd) (ds : List D) (r : D) : Prop := ∀ (a b e : D) (m : Nat), ds = [a, b, e, .int ((m + 1 : Nat) : Int)] → ∃ s : Srt, okS v s = true ∧ s.depth ≤ m + 1 ∧ r = encS s
section
variable {P : Program} {w : World} {K : PySem.W.Frag} {mg : Str → Option Value} {base : Heap}
abbrev N__law_sort : List Str := ["_law_script", "_law_town_here", "_law_world_here", "_law_depth", "_law_plain_ones", "_law_name_here", "_law_parts", "_law_row", "_law_k"]
theorem sc__law_sort : FnScope N__law_sort ["_law_script", "_law_town_here", "_law_world_here", "_law_depth"] (defScope (top 92)) := ⟨rfl, rfl, rfl, by decide +kernel, rfl, by decide +kernel, by decide +kernel⟩
theorem st__law_sort (B : Blt mg) (D1 : DefZ P w K mg base "_law_pick" (1 + 1) ["_law_script", "_law_town_here", "_law_choices"] 1 prPick poPick) (F : Has K mg "_law_sort" (top 92)) (v : Wd) (k : Nat) (D2 : ∀ j, k = j + 1 → DefZ P w K mg base "_law_sort" (j + 3) ["_law_script", "_law_town_here", "_law_world_here", "_law_depth"] (cSort j) (prSort j v) (poSort v)) : DefZ P w K mg base "_law_sort" (k + 3) ["_law_script", "_law_town_here", "_law_world_here", "_law_depth"] (cSort k) (prSort k v) (poSort v) := by
  refine def_mkK F (fun _ _ _ _ _ _ us hl => match us, hl with | [_, _, _, _], _ => rfl) fun f fd F => fn_Z F sc__law_sort (fun T L ds h => ?_) fun cdv A outer s H E T L n ds h hbg hr => ?_
  · obtain ⟨xs, m, _, _, _, _, rfl⟩ := h
    rfl
  · obtain ⟨xs, m, hx, hL, ok, hm, rfl⟩ := h
    have hz : v.cs.length ≤ sizeLine := Nat.le_trans ok.c4 (by decide)
    have hc1 : 1 ≤ cSort k := by cases k <;> simp [cSort] <;> omega
    refine svz_step (s_fil1 (xs := v.cs) (enc := encC) (i := 4) (j := 7) (fun c => decide (((c.2 : Nat) : Int) = 0)) encC sc__law_sort.nd rfl (blkOk_by (N := N__law_sort) (sc := defScope (top 92)) (by decide +kernel)) rfl (iv_tup (ev_W 2 rfl rfl)) hz (fun _ _ _ _ _ => g_one 7 sc__law_sort.nd)
      (fun c _ _ _ _ _ _ => et_c (ec_eqI (ev_ixT (d := .int (c.2 : Nat)) (ev_v 7 rfl) ev_int rfl) ev_int)) (fun c _ _ _ _ _ _ _ => ev_v 7 rfl) (fun _ => rfl) ?_)
    refine svz_cons (svz_unpack (P := fun d => ∃ c : Str × Nat, c ∈ v.cs ∧ (m = 0 → c.2 = 0) ∧ d = encC c) (c := 0 + 1) rfl (tgs_cons (fun _ => t_one 5 sc__law_sort.nd) (tgs_cons (fun _ => t_one 6 sc__law_sort.nd) tgs_nil)) (ez_call D1 (hr.mono (by omega)) rfl (ezs_d (ev_v 0 rfl) (ezs_d (ev_v 1 rfl) (ezs_d (d := .list ((if m = 0 then v.cs.filter (fun c => decide (((c.2 : Nat) : Int) = 0)) else v.cs).map encC)) ?_ (ezs_nil ⟨⟨xs, _, hx, hL, ?_, ?_, rfl⟩, fun d hd => ?_⟩))))) rfl (by omega) fun ds hds => ?_)
    · by_cases h : m = 0
      · rw [if_pos h]
        exact ev_if (k := false) (bT (et_c (ec_gt (ev_v 3 rfl) ev_int)) (decide_eq_false (by omega))) (fun q => nomatch q) (fun _ => ev_v 4 rfl)
      · rw [if_neg h]
        exact ev_if (k := true) (bT (et_c (ec_gt (ev_v 3 rfl) ev_int)) (decide_eq_true (by omega))) (fun _ => EVn.toD (en_list (ev_W 2 rfl rfl) rfl rfl B.list)) (fun q => nomatch q)
    · rw [List.length_map]
      by_cases h : m = 0
      · rw [if_pos h]
        obtain ⟨c, h1, h2⟩ := List.any_eq_true.mp ok.c0
        exact List.length_pos_of_mem (List.mem_filter.mpr ⟨h1, decide_eq_true (by have := of_decide_eq_true h2; omega)⟩)
      · rw [if_neg h]
        exact ok.c1
    · rw [List.length_map]
      refine Nat.lt_of_le_of_lt (?_ : _ ≤ 4) (by decide)
      by_cases h : m = 0
      · rw [if_pos h]
        exact Nat.le_trans (List.length_filter_le _ _) ok.c4
      · rw [if_neg h]
        exact ok.c4
    · have := hd _ _ _ rfl
      obtain ⟨c, h1, rfl⟩ := List.mem_map.mp this
      refine ⟨encCL c, rfl, rfl, c, ?_, fun h => ?_, rfl⟩
      · by_cases h : m = 0
        · rw [if_pos h] at h1
          exact (List.mem_filter.mp h1).1
        · rw [if_neg h] at h1
          exact h1
      · rw [if_pos h] at h1
        have := of_decide_eq_true (List.mem_filter.mp h1).2
        omega
    obtain ⟨⟨r, a⟩, hc, h0, he⟩ := hds
    cases he
    have ha2 : a ≤ 2 := by
      have h9 := ok.cn _ hc
      unfold okC at h9
      simp only [Bool.and_eq_true, decide_eq_true_eq] at h9
      exact h9.1.1.2
    have hk0 : 0 < a → ∃ j, k = j + 1 := fun h => by
      cases k with
      | zero =>
        have := h0 (by omega)
        simp at this
        omega
      | succ j => exact ⟨j, rfl⟩
    have hm0 : 0 < a → 1 ≤ m := fun h => by
      by_cases h1 : m = 0
      · have := h0 h1
        simp at this
        omega
      · omega
    refine svz_one (svz_ret (c := cSort k - 1) (P := fun d => ∃ ss : List Srt, ss.length = a ∧ (∀ p ∈ ss, okS v p = true ∧ p.depth ≤ m) ∧ d = .tuple (.str r :: ss.map encS)) (ez_catT (ds := [.str r]) (ev_tup (ea_cons (ev_v 5 rfl) ea_nil) (Nat.le_of_ble_eq_true rfl)) (ez_tuple (EVz.weak (ez_n (P := fun d => ∃ ss : List Srt, ss.length = a ∧ (∀ p ∈ ss, okS v p = true ∧ p.depth ≤ m) ∧ d = .list (ss.map encS)) (ezn_lc (xs := List.range a) (enc := fun (k : Nat) => .int (k : Nat)) (c1 := 0) (c2 := cSort (k - 1)) (own := [("_law_k", 8)]) (fun i acc => ∃ ss : List Srt, ss.length = i ∧ (∀ p ∈ ss, okS v p = true ∧ p.depth ≤ m) ∧ acc = ss.map encS) rfl sc__law_sort.nd (blkOk_by (N := N__law_sort) (sc := defScope (top 92)) (by decide +kernel))
      (iv_range1 (ev_v 6 rfl) rfl B.range (by omega)) (Nat.le_trans (by rw [List.length_range]; exact ha2) (by decide)) ⟨[], rfl, fun _ h => (nomatch h), rfl⟩ ?_ (fun ds hr _ => by rw [List.length_range] at hr; exact hr)) (fun ds h => ?_)) ?_ ?_) rfl B.tuple)) ?_ ?_)
    · intro i k' hi
      have hk : i < a ∧ i = k' := by
        obtain ⟨h1, h2⟩ := List.getElem?_eq_some_iff.mp hi
        rw [List.length_range] at h1
        rw [List.getElem_range] at h2
        exact ⟨h1, h2⟩
      obtain ⟨hk, rfl⟩ := hk
      obtain ⟨j, rfl⟩ := hk0 (by omega)
      have hm1 := hm0 (by omega)
      refine ⟨_, [8], fun b => b = true, fun d => ∃ s : Srt, okS v s = true ∧ s.depth ≤ m ∧ d = encS s, fun j hj => by simpa using hj, blk_one (fun _ _ _ _ _ => g_one 8 sc__law_sort.nd), fun _ _ _ _ _ => ezts_nil rfl, fun _ _ _ _ _ _ => ?_, fun _ _ h => (nomatch h), fun acc y ⟨ss, hl, hp, e⟩ _ ⟨s, h1, h2, e2⟩ => ⟨by rw [e2]; rfl, ss ++ [s], by rw [List.length_append, hl]; rfl, fun p hp2 => ?_, by rw [e, e2, List.map_append]; rfl⟩⟩
      · refine EVz.weak (ez_call (D2 j rfl) (hr.mono (by omega)) rfl (ezs_d (ev_v 0 rfl) (ezs_d (ev_v 1 rfl) (ezs_d (ev_v 2 rfl) (ezs_d (d := .int ((((max 1 (m - i)) - 1 + 1 : Nat)) : Int)) (EVd.is (ev_max rfl ev_int (ev_sub (ev_sub (ev_v 3 rfl) ev_int) (ev_v 8 rfl)) rfl B.max) (congrArg PyData.int (by omega))) (ezs_nil ⟨⟨xs, (max 1 (m - i)) - 1, hx, hL, ok, by omega, rfl⟩, fun d hd => ?_⟩)))))) (by show 0 + cSort j ≤ cSort (j + 1 - 1); simp) fun _ h => h
        obtain ⟨s, h1, h2, h3⟩ := hd _ _ _ _ rfl
        exact ⟨s, h1, by omega, h3⟩
      · rcases List.mem_append.mp hp2 with h | h
        · exact hp p h
        · rw [List.mem_singleton.mp h]
          exact ⟨h1, h2⟩
    · obtain ⟨ss, h1, h2, h3⟩ := h
      exact ⟨ss, h1, h2, by rw [h3]⟩
    · rw [List.length_range, Nat.zero_add]
      by_cases h : 0 < a
      · obtain ⟨j, rfl⟩ := hk0 h
        show a * cSort j ≤ 1 + 2 * cSort j - 1
        have := Nat.mul_le_mul_right (cSort j) ha2
        omega
      · have : a = 0 := by omega
        rw [this]
        omega
    · rintro d ⟨ss, h1, h2, rfl⟩
      refine ⟨_, rfl, _, rfl, ?_, ss, h1, h2, rfl⟩
      rw [List.length_map, h1]
      exact Nat.le_trans (by simp; omega : _ ≤ 3) (by decide)
    · omega
    · rintro d ⟨ss, h1, h2, rfl⟩
      refine ⟨by omega, fun a' b' e' m' e => ?_⟩
      have e1 : ((m + 1 : Nat) : Int) = ((m' + 1 : Nat) : Int) := by injection e with _ e; injection e with _ e; injection e with _ e; injection e with e; injection e
      have e2 : m = m' := by omega
      subst e2
      obtain ⟨q1, q2⟩ := srtOf_parts r (l := ss) (by omega)
      refine ⟨srtOf r ss, okS_of ?_ ?_, srtOf_depth r (by omega) fun p hp => (h2 p hp).2, ?_⟩
      · rw [q1, q2, h1]
        exact arC_of ok hc
      · rw [q1]
        exact fun p hp => (h2 p hp).1
      · rw [show encS (srtOf r ss) = .tuple (encSL (srtOf r ss)) from rfl, encSL_eq, q1, q2]
theorem ok__law_sort (B : Blt mg) (D1 : DefZ P w K mg base "_law_pick" (1 + 1) ["_law_script", "_law_town_here", "_law_choices"] 1 prPick poPick) (F : Has K mg "_law_sort" (top 92)) (v : Wd) : ∀ k : Nat, DefZ P w K mg base "_law_sort" (k + 3) ["_law_script", "_law_town_here", "_law_world_here", "_law_depth"] (cSort k) (prSort k v) (poSort v)
  | 0 => st__law_sort B D1 F v 0 fun _ e => nomatch e
  | k + 1 => st__law_sort B D1 F v (k + 1) fun j e => by
    cases e
    exact ok__law_sort B D1 F v k
end
end Tr
set_option Elab.async false
set_option linter.all false
set_option maxRecDepth 100000
set_option maxHeartbeats 1000000
set_option autoImplicit false
namespace Tr
open PySem PySem.Spec PyProof.Rows L2 DL
/-- the traits of a form -/
def ofForm (v : Wd) (f : Str) : List Str := (v.ts.filter fun x => decide (x.2.1 = f)).map (·.1)
theorem form_at {v : Wd} {t f : Str} (hf : formW v t = some f) : atI ((v.ts.filter fun x => decide (x.1 = t)).map fun x => PyData.str x.2.1) 0 = some (.str f) := atI_nat (j := 0) (by
  rw [List.getElem?_map, find_head]
  unfold formW at hf
  obtain ⟨x, h1, h2⟩ := Option.map_eq_some_iff.mp hf
  rw [h1]
  exact congrArg some (congrArg PyData.str h2))
theorem ofForm_has {v : Wd} {x f : Str} (h : x ∈ ofForm v f) : hasT v x f = true := by
  obtain ⟨t, h1, h2⟩ := List.mem_map.mp h
  obtain ⟨h3, h4⟩ := List.mem_filter.mp h1
  unfold hasT
  exact List.any_eq_true.mpr ⟨t, h3, by rw [Bool.and_eq_true]; exact ⟨decide_eq_true h2, h4⟩⟩
theorem ofForm_pos {v : Wd} {t f : Str} (hf : formW v t = some f) : 0 < (ofForm v f).length := by
  unfold formW at hf
  obtain ⟨x, h1, h2⟩ := Option.map_eq_some_iff.mp hf
  refine List.length_pos_of_mem (a := x.1) (List.mem_map.mpr ⟨x, List.mem_filter.mpr ⟨List.mem_of_find?_eq_some h1, decide_eq_true h2⟩, rfl⟩)
end Tr
set_option Elab.async false
set_option linter.all false
set_option maxRecDepth 100000
set_option maxHeartbeats 1000000
set_option autoImplicit false
namespace Tr
open PySem PySem.Spec PyProof.Rows L2 DL
section
variable {X : Cx} {env : DEnv} {pos p : Pos} {a b : Expr} {k : Nat} {j : Option Str}
theorem ev_mark {j} : EVd X (.Tuple [.Constant (.str "mark") j p] k pos) env (encR .mark) := ev_tup (ea_cons ev_str ea_nil) (Nat.le_of_ble_eq_true rfl)
theorem ev_numR {j} {n : Nat} (h : EVd X a env (.int (n : Nat))) (hs : starEach [a] X.env = (false, eval a X.env) :: starEach [] X.env := by rfl) : EVd X (.Tuple [.Constant (.str "number") j p, a] k pos) env (encR (.num n)) := ev_tup (ea_cons ev_str (ea_cons h ea_nil rfl hs)) (Nat.le_of_ble_eq_true rfl)
theorem ev_plusR {j} {x y : Rk} (h : EVd X a env (encR x)) (h2 : EVd X b env (encR y)) (hs : starEach [a, b] X.env = (false, eval a X.env) :: starEach [b] X.env := by rfl) (hs2 : starEach [b] X.env = (false, eval b X.env) :: starEach [] X.env := by rfl) : EVd X (.Tuple [.Constant (.str "plus") j p, a, b] k pos) env (encR (.plus x y)) := ev_tup (ea_cons ev_str (ea_cons h (ea_cons h2 ea_nil rfl hs2) rfl hs)) (Nat.le_of_ble_eq_true rfl)
theorem ev_timesR {j} {x y : Rk} (h : EVd X a env (encR x)) (h2 : EVd X b env (encR y)) (hs : starEach [a, b] X.env = (false, eval a X.env) :: starEach [b] X.env := by rfl) (hs2 : starEach [b] X.env = (false, eval b X.env) :: starEach [] X.env := by rfl) : EVd X (.Tuple [.Constant (.str "times") j p, a, b] k pos) env (encR (.times x y)) := ev_tup (ea_cons ev_str (ea_cons h (ea_cons h2 ea_nil rfl hs2) rfl hs)) (Nat.le_of_ble_eq_true rfl)
theorem ev_tellR {j} {t : Str} {n : Nat} (h : EVd X a env (.str t)) (h2 : EVd X b env (.int (n : Nat))) (hs : starEach [a, b] X.env = (false, eval a X.env) :: starEach [b] X.env := by rfl) (hs2 : starEach [b] X.env = (false, eval b X.env) :: starEach [] X.env := by rfl) : EVd X (.Tuple [.Constant (.str "tell") j p, a, b] k pos) env (encR (.tell t n)) := ev_tup (ea_cons ev_str (ea_cons h (ea_cons h2 ea_nil rfl hs2) rfl hs)) (Nat.le_of_ble_eq_true rfl)
end
theorem le1 {a : D} : [a].length ≤ sizeLine := Nat.le_of_ble_eq_true rfl
theorem le2 {a b : D} : [a, b].length ≤ sizeLine := Nat.le_of_ble_eq_true rfl
theorem le3 {a b c : D} : [a, b, c].length ≤ sizeLine := Nat.le_of_ble_eq_true rfl
def prBody (v : Wd) (t fm : Str) (q : Nat) (T : Addr) (L : Nat) (ds : List D) : Prop := ∃ (xs : List Int) (l : List (Str × Nat)), xs.length ≤ 63 ∧ L = xs.length ∧ OkW v ∧ formW v t = some fm ∧ (fm = "tell" ∨ fm = "make") ∧ q ≤ 2 ∧ l.length ≤ 3 ∧ (∀ a ∈ l, a.2 < q ∧ a.1 ∈ names v) ∧ ds = [scrD xs, twM T, W v, .str t, .int (q : Nat), .tuple (l.map encA)]
def poBody (v : Wd) (fm : Str) (q : Nat) (ds : List D) (r : D) : Prop := ∃ b : Bd, okB v fm q b = true ∧ r = encB b
theorem noL_encR (r : Rk) : noL (encR r) = true := by
  induction r with
  | num n => rfl
  | mark => rfl
  | plus a b iha ihb =>
    unfold noL at iha ihb ⊢
    unfold encRL noLs noLs noLs noLs
    unfold noL
    rw [iha, ihb]
    rfl
  | times a b iha ihb =>
    unfold noL at iha ihb ⊢
    unfold encRL noLs noLs noLs noLs
    unfold noL
    rw [iha, ihb]
    rfl
  | tell t p => rfl
section
variable {P : Program} {w : World} {K : PySem.W.Frag} {mg : Str → Option Value} {base : Heap}
abbrev N__law_body : List Str := ["_law_script", "_law_town_here", "_law_world_here", "_law_trait", "_law_parts", "_law_asks", "_law_form", "_law_tells", "_law_number", "_law_reckoning", "_law_makes", "_law_rows", "_law_other", "_law_part", "_law_loose", "_law_row", "_law_k"]
theorem sc__law_body : FnScope N__law_body ["_law_script", "_law_town_here", "_law_world_here", "_law_trait", "_law_parts", "_law_asks"] (defScope (top 90)) := ⟨rfl, rfl, rfl, by decide +kernel, rfl, by decide +kernel, by decide +kernel⟩
theorem ok__law_body (B : Blt mg) (v : Wd) (t fm : Str) (q : Nat) (D1 : DefZ P w K mg base "_law_pick" (1 + 1) ["_law_script", "_law_town_here", "_law_choices"] 1 prPick poPick) (D2 : DefZ P w K mg base "_law_draw" 1 ["_law_script", "_law_town_here", "_law_limit"] 1 prDraw poDraw) (F : Has K mg "_law_body" (top 90)) : DefZ P w K mg base "_law_body" (2 + 1) ["_law_script", "_law_town_here", "_law_world_here", "_law_trait", "_law_parts", "_law_asks"] 8 (prBody v t fm q) (poBody v fm q) := by
  refine def_mkK F (fun _ _ _ _ _ _ us hl => match us, hl with | [_, _, _, _, _, _], _ => rfl) fun f fd F => fn_Z F sc__law_body (fun T L ds h => ?_) fun cdv A outer s H E T L n ds h hbg hr => ?_
  · obtain ⟨xs, l, _, _, _, _, _, _, _, _, rfl⟩ := h
    rfl
  · obtain ⟨xs, l, hx, hL, ok, hf, hfm, hq, hl3, hl, rfl⟩ := h
    have hz : v.ts.length ≤ sizeLine := Nat.le_trans ok.t4 (by decide)
    refine svz_step (s_set 6 (d := .str fm) sc__law_body.nd (ev_ixL (EVn.toD (en_fil1 (xs := v.ts) (enc := encT) (i := 15) (fun x => decide (x.1 = t)) (fun x => .str x.2.1) sc__law_body.nd (blkOk_by (N := N__law_body) (sc := defScope (top 90)) (by decide +kernel)) rfl (iv_tup (ev_W 2 rfl rfl)) hz (fun _ _ _ _ _ => g_one 15 sc__law_body.nd)
      (fun x _ _ _ _ _ _ => et_c (ec_eqS (ev_ixT (d := .str x.1) (ev_v 15 rfl) ev_int rfl) (ev_v 3 rfl))) (fun x _ _ _ _ _ _ _ => ev_ixT (d := .str x.2.1) (ev_v 15 rfl) ev_int rfl) (fun _ => rfl))) ev_int (form_at hf)) ?_)
    refine svz_step (s_fil1 (xs := v.ts) (enc := encT) (i := 7) (j := 15) (fun x => decide (x.2.1 = "tell")) (fun x => .str x.1) sc__law_body.nd rfl (blkOk_by (N := N__law_body) (sc := defScope (top 90)) (by decide +kernel)) rfl (iv_tup (ev_W 2 rfl rfl)) hz (fun _ _ _ _ _ => g_one 15 sc__law_body.nd)
      (fun x _ _ _ _ _ _ => et_c (ec_eqS (ev_ixT (d := .str x.2.1) (ev_v 15 rfl) ev_int rfl) ev_str)) (fun x _ _ _ _ _ _ _ => ev_ixT (d := .str x.1) (ev_v 15 rfl) ev_int rfl) (fun _ => rfl) ?_)
    have etl : (v.ts.filter fun x => decide (x.2.1 = ("tell" : Str))).map (fun x => PyData.str x.1) = (ofForm v "tell").map PyData.str := by
      unfold ofForm
      rw [List.map_map]
      rfl
    rw [etl]
    refine svz_cons (svz_set (i := 8) (c := 0 + 1 + 0) (P := fun d => ∃ m : Nat, m ≤ 99 ∧ d = encR (.num m)) sc__law_body.nd rfl (by first | exact Or.inl rfl | exact Or.inr rfl)
      (ez_tup (ezs_d ev_str (ezs_cons (P := fun d => ∃ m : Nat, m ≤ 99 ∧ d = .int (m : Nat)) (ez_call D2 (hr.mono (by omega)) rfl (ezs_d (ev_v 0 rfl) (ezs_d (ev_v 1 rfl) (ezs_d (d := .int ((100 : Nat) : Int)) ev_int (ezs_nil ⟨⟨xs, 100, hx, hL, by decide, by decide, rfl⟩, fun d hd => ?_⟩))))) (fun d hd => ezs_nil ?_)))) (by omega) fun d hd => ?_)
    · obtain ⟨j, h1, h2⟩ := hd _ _ _ rfl
      exact ⟨j, by omega, h2⟩
    · obtain ⟨m, h1, rfl⟩ := hd
      refine ⟨fun d h => ?_, Nat.le_of_ble_eq_true rfl, m, h1, rfl⟩
      rcases List.mem_cons.mp h with rfl | h
      · rfl
      · rw [List.mem_singleton.mp h]
        rfl
    obtain ⟨m, hm, rfl⟩ := hd
    refine svz_cons (svz_if (k := decide (fm = "make")) (et_c (ec_eqS (ev_v 6 rfl) ev_str)) (fun hmk => ?_) (fun hmk => svz_nil ?_))
    · have hmk := of_decide_eq_true hmk
      refine svz_cons (svz_set (i := 9) (c := 0 + 1) (P := fun d => ∃ r : Rk, okSh v (-1) r = true ∧ d = encR r) sc__law_body.nd rfl (by first | exact Or.inl rfl | exact Or.inr rfl)
        (ez_call D1 (hr.mono (by omega)) rfl (ezs_d (ev_v 0 rfl) (ezs_d (ev_v 1 rfl) (ezs_d (d := .list [encR .mark, encR (.plus .mark (.num 1)), encR (.num m)]) ?_ ?_)))) (by omega) fun d hd => ?_)
      · refine EVn.toD ?_
        refine ev_lst ?_ ?_
        · refine ea_cons ?_ ?_
          · exact ev_mark
          · refine ea_cons ?_ ?_
            · refine ev_plusR ?_ ?_
              · exact ev_mark
              · exact ev_numR ev_int
            · refine ea_cons ?_ ?_
              · exact ev_v 8 rfl
              · exact ea_nil
        · exact le3
      · refine ezs_nil ⟨⟨xs, _, hx, hL, ?_, ?_, rfl⟩, fun d hd => ?_⟩
        · exact (by decide : 0 < 3)
        · exact (by decide : 3 < 2 ^ 32)
        · have h1 := hd _ _ _ rfl
          simp only [List.mem_cons, List.not_mem_nil, or_false] at h1
          rcases h1 with rfl | rfl | rfl
          · exact ⟨.mark, rfl, rfl⟩
          · exact ⟨.plus .mark (.num 1), rfl, rfl⟩
          · exact ⟨.num m, by simp [okSh, okRk, Rk.cnt]; omega, rfl⟩
      obtain ⟨r, hrk, rfl⟩ := hd
      refine svz_step (s_set 10 (d := .list ((v.ts.filter fun x => decide (x.2.1 = ("make" : Str))).map (fun x => PyData.str x.1))) sc__law_body.nd (EVn.toD (en_fil1 (xs := v.ts) (enc := encT) (i := 15) (fun x => decide (x.2.1 = ("make" : Str))) (fun x => .str x.1) sc__law_body.nd (blkOk_by (N := N__law_body) (sc := defScope (top 90)) (by decide +kernel)) rfl (iv_tup (ev_W 2 rfl rfl)) hz (fun _ _ _ _ _ => g_one 15 sc__law_body.nd)
        (fun x _ _ _ _ _ _ => et_c (ec_eqS (ev_ixT (d := .str x.2.1) (ev_v 15 rfl) ev_int rfl) ev_str)) (fun x _ _ _ _ _ _ _ => ev_ixT (d := .str x.1) (ev_v 15 rfl) ev_int rfl) (fun _ => rfl))) ?_)
      have emk : (v.ts.filter fun x => decide (x.2.1 = ("make" : Str))).map (fun x => PyData.str x.1) = (ofForm v "make").map PyData.str := by
        unfold ofForm
        rw [List.map_map]
        rfl
      rw [emk]
      have hpos : 0 < (ofForm v "make").length := ofForm_pos (hmk ▸ hf)
      have hmx : (ofForm v "make").length ≤ 4 := by
        unfold ofForm
        rw [List.length_map]
        exact Nat.le_trans (List.length_filter_le _ _) ok.t4
      refine svz_one (svz_ret (c := 2) (P := fun d => ∃ ps : List (Str × Rk), ps.length = q ∧ (∀ p ∈ ps, okSh v (-1) p.2 = true ∧ hasT v p.1 "make" = true) ∧ d = .tuple (.str "made" :: encR r :: ps.map encP)) (ez_catT (ds := [.str "made", encR r]) ?_ (ez_tuple (EVz.weak (ez_n (P := fun d => ∃ ps : List (Str × Rk), ps.length = q ∧ (∀ p ∈ ps, okSh v (-1) p.2 = true ∧ hasT v p.1 "make" = true) ∧ d = .list (ps.map encP)) (ezn_lc (xs := List.range q) (enc := fun (k : Nat) => .int (k : Nat)) (c1 := 0) (c2 := 1) (own := [("_law_k", 16)]) (fun i acc => ∃ ps : List (Str × Rk), ps.length = i ∧ (∀ p ∈ ps, okSh v (-1) p.2 = true ∧ hasT v p.1 "make" = true) ∧ acc = ps.map encP) rfl sc__law_body.nd (blkOk_by (N := N__law_body) (sc := defScope (top 90)) (by decide +kernel))
        (iv_range1 (ev_v 4 rfl) rfl B.range (by omega)) (Nat.le_trans (by rw [List.length_range]; exact hq) (by decide)) ⟨[], rfl, fun _ h => (nomatch h), rfl⟩ ?_ (fun ds hr _ => by rw [List.length_range] at hr; exact hr)) (fun ds h => ?_)) ?_ ?_) rfl B.tuple)) ?_ ?_)
      · refine ev_tup ?_ le2
        refine ea_cons ?_ ?_
        · exact ev_str
        · refine ea_cons ?_ ?_
          · exact ev_v 9 rfl
          · exact ea_nil
      · intro i k' hi
        refine ⟨_, [16], fun b => b = true, fun d => ∃ p : Str × Rk, okSh v (-1) p.2 = true ∧ hasT v p.1 "make" = true ∧ d = encP p, fun j hj => by simpa using hj, blk_one (fun _ _ _ _ _ => g_one 16 sc__law_body.nd), fun _ _ _ _ _ => ezts_nil rfl, fun _ _ _ _ _ _ => ?_, fun _ _ h => (nomatch h), fun acc y ⟨ss, hl, hp, e⟩ _ ⟨s, h1, h2, e2⟩ => ⟨by rw [e2]; rfl, ss ++ [s], by rw [List.length_append, hl]; rfl, fun p hp2 => ?_, by rw [e, e2, List.map_append]; rfl⟩⟩
        · refine EVz.weak (c := 0 + 1 + 0) (P := fun d => ∃ p : Str × Rk, okSh v (-1) p.2 = true ∧ hasT v p.1 "make" = true ∧ d = encP p) (ez_tup (ezs_cons (P := fun d => ∃ t : Str, hasT v t "make" = true ∧ d = .str t) (ez_call D1 (hr.mono (by omega)) rfl (ezs_d (ev_v 0 rfl) (ezs_d (ev_v 1 rfl) (ezs_d (d := .list ((ofForm v "make").map PyData.str)) (ev_v 10 rfl) (ezs_nil ⟨⟨xs, _, hx, hL, ?_, ?_, rfl⟩, fun d hd => ?_⟩))))) (fun d hd => ezs_d (d := encR .mark) ev_mark (ezs_nil ?_)))) (by omega) fun _ h => h
          · rw [List.length_map]; exact hpos
          · rw [List.length_map]; exact Nat.lt_of_le_of_lt hmx (by decide)
          · obtain ⟨t2, h1, rfl⟩ := List.mem_map.mp (hd _ _ _ rfl)
            exact ⟨t2, ofForm_has h1, rfl⟩
          · obtain ⟨t2, h1, rfl⟩ := hd
            refine ⟨fun d h => ?_, le2, (t2, .mark), rfl, h1, rfl⟩
            rcases List.mem_cons.mp h with rfl | h
            · rfl
            · rw [List.mem_singleton.mp h]
              rfl
        · rcases List.mem_append.mp hp2 with h | h
          · exact hp p h
          · rw [List.mem_singleton.mp h]
            exact ⟨h1, h2⟩
      · obtain ⟨ss, h1, h2, h3⟩ := h
        exact ⟨ss, h1, h2, by rw [h3]⟩
      · rw [List.length_range]
        omega
      · rintro d ⟨ss, h1, h2, rfl⟩
        refine ⟨_, rfl, _, rfl, ?_, ss, h1, h2, rfl⟩
        rw [List.length_map, h1]
        exact Nat.le_trans (by simp; omega : _ ≤ 4) (by decide)
      · omega
      · rintro d ⟨ss, h1, h2, rfl⟩
        refine ⟨by omega, .made r ss, ?_, rfl⟩
        have hne : ¬ fm = "tell" := by
          rw [hmk]
          decide
        simp only [okB, Bool.and_eq_true, Bool.not_eq_true', decide_eq_false_iff_not, decide_eq_true_eq, List.all_eq_true]
        exact ⟨⟨⟨hne, h1⟩, hrk⟩, fun p hp => ⟨(h2 p hp).1, (h2 p hp).2⟩⟩
    · have hft : fm = "tell" := hfm.resolve_right (of_decide_eq_false hmk)
      have hpos : 0 < (ofForm v "tell").length := ofForm_pos (hft ▸ hf)
      have hmx : (ofForm v "tell").length ≤ 4 := by
        unfold ofForm
        rw [List.length_map]
        exact Nat.le_trans (List.length_filter_le _ _) ok.t4
      refine svz_step (s_setN 11 (ds := [encR .mark, encR (.num m), encR (.times .mark (.num 3))]) sc__law_body.nd ?_ ?_ ?_)
      · refine ev_lst ?_ le3
        refine ea_cons ?_ ?_
        · exact ev_mark
        · refine ea_cons ?_ ?_
          · exact ev_v 8 rfl
          · refine ea_cons ?_ ea_nil
            refine ev_timesR ?_ ?_
            · exact ev_mark
            · exact ev_numR ev_int
      · rfl
      refine svz_step (sv_for (xs := l) (enc := encA) (t := .tup [12, 13]) (fun i env' => ∃ (rs : List Rk) (a b : Option Sl), (∀ r ∈ rs, okSh v q r = true) ∧ 0 < rs.length ∧ rs.length ≤ 3 + 3 * i ∧
        env' = [some (.dat (scrD xs)), some (.dat (twM T)), some (.dat (W v)), some (.dat (.str t)), some (.dat (.int (q : Nat))), some (.dat (.tuple (l.map encA))), some (.dat (.str fm)), some (.dat (.list ((ofForm v "tell").map PyData.str))), some (.dat (encR (.num m))), none, none, some (.own (.list (rs.map encR))), a, b, none, none, none]) PassesOwn.never rfl
        (iv_tup (ev_v 5 rfl)) ⟨[.mark, .num m, .times .mark (.num 3)], none, none, ?_, (by simp), (by simp), rfl⟩ (fun p => tg_tup rfl (tgs_cons (fun _ => t_one 12 sc__law_body.nd) (tgs_cons (fun _ => t_one 13 sc__law_body.nd) tgs_nil)) rfl rfl) ?_ ?_)
      · intro r hr1
        simp only [List.mem_cons, List.not_mem_nil, or_false] at hr1
        rcases hr1 with rfl | rfl | rfl
        · rfl
        · simp [okSh, okRk, Rk.cnt]; omega
        · rfl
      · rintro i x _ hx2 ⟨rs, a, b, h1, h2, h3, rfl⟩
        obtain ⟨hx3, hx4⟩ := hl x (List.mem_of_getElem? hx2)
        have hil : i < l.length := (List.getElem?_eq_some_iff.mp hx2).1
        refine sv_one (sv_if (k := (ofForm v "tell").any fun a => decide (a = x.1)) (bT (et_c (ec_in (ds := (ofForm v "tell").map PyData.str) (ev_v 12 rfl) (ev_v 7 rfl) rfl rfl (flat_strs (fun a => a) _))) (any_strs (fun a => a) x.1 _)) (fun q1 => ?_) (fun q1 => sv_nil ⟨rs, _, _, h1, h2, by omega, rfl⟩))
        have htl : okSh v q (.tell x.1 x.2) = true := by
          obtain ⟨y, hy1, hy2⟩ := List.any_eq_true.mp q1
          have hy3 := ofForm_has (v := v) (f := "tell") hy1
          rw [of_decide_eq_true hy2] at hy3
          simp [okSh, okRk, Rk.cnt, hy3]
          omega
        have htl2 : okRk v q (.tell x.1 x.2) = true := by
          unfold okSh at htl
          rw [Bool.and_eq_true] at htl
          exact htl.1
        refine sv_cons (sv_catO (i := 11) (j := 11) (ds := rs.map encR) (es := [encR (.tell x.1 x.2), encR (.plus .mark (.tell x.1 x.2))]) sc__law_body.nd rfl (by first | exact Or.inl rfl | exact Or.inr rfl) rfl ?_ ?_ ?_)
        · refine ev_lst ?_ le2
          refine ea_cons ?_ ?_
          · exact ev_tellR (ev_v 12 rfl) (ev_v 13 rfl)
          · refine ea_cons ?_ ea_nil
            refine ev_plusR ?_ ?_
            · exact ev_mark
            · exact ev_tellR (ev_v 12 rfl) (ev_v 13 rfl)
        · rw [List.length_map]
          exact Nat.le_trans (by simp; omega : _ ≤ 20) (by decide)
        refine sv_one (sv_append (pe_bm PySem.F.plainAttrs_list PySem.F.slot_list_append PySem.F.type_list_append mt_append (pv 11) (pa_cons pe_w pa_nil)) rfl (d := encR (.plus (.tell x.1 x.2) (.times (.num 2) (.tell x.1 x.2)))) ?_ (noL_encR _) ?_ ?_)
        · refine ev_plusR ?_ ?_
          · exact ev_tellR (ev_v 12 rfl) (ev_v 13 rfl)
          · refine ev_timesR ?_ ?_
            · exact ev_numR ev_int
            · exact ev_tellR (ev_v 12 rfl) (ev_v 13 rfl)
        · rw [List.length_append, List.length_map]
          exact Nat.lt_of_lt_of_le (by simp; omega : _ < 20) (by decide)
        · refine ⟨rs ++ [.tell x.1 x.2, .plus .mark (.tell x.1 x.2), .plus (.tell x.1 x.2) (.times (.num 2) (.tell x.1 x.2))], some (.dat (.str x.1)), some (.dat (.int (x.2 : Nat))), ?_, by simp, by simp; omega, ?_⟩
          · intro r hr1
            rcases List.mem_append.mp hr1 with hr1 | hr1
            · exact h1 r hr1
            · simp only [List.mem_cons, List.not_mem_nil, or_false] at hr1
              rcases hr1 with rfl | rfl | rfl
              · exact htl
              · simp [okSh, okRk, Rk.cnt] at htl2 ⊢
                exact htl2
              · simp [okSh, okRk, Rk.cnt] at htl2 ⊢
                exact htl2
          · have e2 : (rs ++ [Rk.tell x.1 x.2, .plus .mark (.tell x.1 x.2), .plus (.tell x.1 x.2) (.times (.num 2) (.tell x.1 x.2))]).map encR = (rs.map encR ++ [encR (.tell x.1 x.2), encR (.plus .mark (.tell x.1 x.2))]) ++ [encR (.plus (.tell x.1 x.2) (.times (.num 2) (.tell x.1 x.2)))] := by
              rw [List.map_append, List.append_assoc]
              rfl
            rw [e2]
            rfl
      · rintro _ ⟨rs, a, b, h1, h2, h3, rfl⟩
        refine svz_cons (svz_ifz (c := 0 + (0 + 1)) (Pb := fun b => b = true → 0 < q) (EVzw.tst (ezw_and (c1 := 0) (c2 := 0 + 1) (Pa := fun b => b = true → 0 < q) (ezt_t (et_c (ec_gt (ev_v 4 rfl) ev_int)) fun h => ?_) (fun hq1 => ezw_and1 (EVzt.weak (ezt_eqI (ez_call D2 (hr.mono (by omega)) rfl (ezs_d (ev_v 0 rfl) (ezs_d (ev_v 1 rfl) (ezs_d (d := .int ((8 : Nat) : Int)) ev_int (ezs_nil ⟨⟨xs, 8, hx, hL, by decide, by decide, rfl⟩, fun d hd => ?_⟩))))) ev_int) (Nat.le_refl _) fun _ _ _ => hq1 rfl)) (fun _ h => nomatch h))) (by omega) (fun hq1 => ?_) (fun _ => svz_nil ?_))
        · have := of_decide_eq_true h
          omega
        · obtain ⟨j, _, h5⟩ := hd _ _ _ rfl
          exact ⟨_, h5⟩
        · have hq1 := hq1 rfl
          refine svz_cons (svz_set (i := 14) (c := 0 + 1 + (0 + 1 + 0)) (P := fun d => ∃ (t2 : Str) (j : Nat), hasT v t2 "tell" = true ∧ j < q ∧ d = encR (.tell t2 j)) sc__law_body.nd rfl (by first | exact Or.inl rfl | exact Or.inr rfl)
            (ez_tup (ezs_d ev_str (ezs_cons (P := fun d => ∃ t2 : Str, hasT v t2 "tell" = true ∧ d = .str t2) (ez_call D1 (hr.mono (by omega)) rfl (ezs_d (ev_v 0 rfl) (ezs_d (ev_v 1 rfl) (ezs_d (d := .list ((ofForm v "tell").map PyData.str)) (ev_v 7 rfl) (ezs_nil ⟨⟨xs, _, hx, hL, ?_, ?_, rfl⟩, fun d hd => ?_⟩)))))
              (fun d hd => ezs_cons (P := fun d => ∃ j : Nat, j < q ∧ d = .int (j : Nat)) (ez_call D2 (hr.mono (by omega)) rfl (ezs_d (ev_v 0 rfl) (ezs_d (ev_v 1 rfl) (ezs_d (d := .int (q : Nat)) (ev_v 4 rfl) (ezs_nil ⟨⟨xs, q, hx, hL, hq1, ?_, rfl⟩, fun d hd => ?_⟩))))) (fun d2 hd2 => ezs_nil ?_))))) (by omega) fun d hd => ?_)
          · rw [List.length_map]; exact hpos
          · rw [List.length_map]; exact Nat.lt_of_le_of_lt hmx (by decide)
          · obtain ⟨t2, h5, rfl⟩ := List.mem_map.mp (hd _ _ _ rfl)
            exact ⟨t2, ofForm_has h5, rfl⟩
          · omega
          · exact hd _ _ _ rfl
          · obtain ⟨t2, h5, rfl⟩ := hd
            obtain ⟨j, h6, rfl⟩ := hd2
            refine ⟨fun d h => ?_, le3, t2, j, h5, h6, rfl⟩
            simp only [List.mem_cons, List.not_mem_nil, or_false] at h
            rcases h with rfl | rfl | rfl <;> rfl
          obtain ⟨t2, j, h5, h6, rfl⟩ := hd
          have hlo : okRk v q (.tell t2 j) = true := by
            simp [okRk, h5]
            omega
          refine svz_step (sv_catO (i := 11) (j := 11) (ds := rs.map encR) (es := [encR (.tell t2 j), encR (.plus .mark (.tell t2 j)), encR (.times (.tell t2 j) (.num 2))]) sc__law_body.nd rfl (by first | exact Or.inl rfl | exact Or.inr rfl) rfl ?_ ?_ (svz_nil ?_))
          · refine ev_lst ?_ le3
            refine ea_cons ?_ ?_
            · exact ev_v 14 rfl
            · refine ea_cons ?_ ?_
              · refine ev_plusR ?_ ?_
                · exact ev_mark
                · exact ev_v 14 rfl
              · refine ea_cons ?_ ea_nil
                refine ev_timesR ?_ ?_
                · exact ev_v 14 rfl
                · exact ev_numR ev_int
          · rw [List.length_map]
            exact Nat.le_trans (by simp; omega : _ ≤ 20) (by decide)
          have e2 : rs.map encR ++ [encR (.tell t2 j), encR (.plus .mark (.tell t2 j)), encR (.times (.tell t2 j) (.num 2))] = (rs ++ [Rk.tell t2 j, .plus .mark (.tell t2 j), .times (.tell t2 j) (.num 2)]).map encR := by
            rw [List.map_append]
            rfl
          have hall : ∀ r ∈ rs ++ [Rk.tell t2 j, .plus .mark (.tell t2 j), .times (.tell t2 j) (.num 2)], okSh v q r = true := by
            intro r hr1
            rcases List.mem_append.mp hr1 with hr1 | hr1
            · exact h1 r hr1
            · simp only [List.mem_cons, List.not_mem_nil, or_false] at hr1
              rcases hr1 with rfl | rfl | rfl
              · simp [okSh, okRk, Rk.cnt] at hlo ⊢
                exact hlo
              · simp [okSh, okRk, Rk.cnt] at hlo ⊢
                exact hlo
              · simp [okSh, okRk, Rk.cnt] at hlo ⊢
                exact hlo
          rw [e2]
          refine svz_one (svz_ret (c := 0 + 1) (P := fun d => ∃ r : Rk, okSh v q r = true ∧ d = encR r) (ez_call D1 (hr.mono (by omega)) rfl (ezs_d (ev_v 0 rfl) (ezs_d (ev_v 1 rfl) (ezs_d (d := .list ((rs ++ [Rk.tell t2 j, .plus .mark (.tell t2 j), .times (.tell t2 j) (.num 2)]).map encR)) (ev_v 11 rfl) (ezs_nil ⟨⟨xs, _, hx, hL, ?_, ?_, rfl⟩, fun d hd => ?_⟩))))) ?_ ?_)
          · rw [List.length_map]
            simp
          · rw [List.length_map]
            refine Nat.lt_of_le_of_lt (?_ : _ ≤ 20) (by decide)
            simp; omega
          · obtain ⟨r, h4, rfl⟩ := List.mem_map.mp (hd _ _ _ rfl)
            exact ⟨r, hall r h4, rfl⟩
          · omega
          · rintro d ⟨r, h4, rfl⟩
            refine ⟨by omega, .rk r, ?_, rfl⟩
            simp only [okB, Bool.and_eq_true, decide_eq_true_eq]
            exact ⟨hft, h4⟩
        · refine svz_one (svz_ret (c := 0 + 1) (P := fun d => ∃ r : Rk, okSh v q r = true ∧ d = encR r) (ez_call D1 (hr.mono (by omega)) rfl (ezs_d (ev_v 0 rfl) (ezs_d (ev_v 1 rfl) (ezs_d (d := .list (rs.map encR)) (ev_v 11 rfl) (ezs_nil ⟨⟨xs, _, hx, hL, ?_, ?_, rfl⟩, fun d hd => ?_⟩))))) ?_ ?_)
          · rw [List.length_map]
            exact h2
          · rw [List.length_map]
            refine Nat.lt_of_le_of_lt (?_ : _ ≤ 20) (by decide)
            omega
          · obtain ⟨r, h4, rfl⟩ := List.mem_map.mp (hd _ _ _ rfl)
            exact ⟨r, h1 r h4, rfl⟩
          · omega
          · rintro d ⟨r, h4, rfl⟩
            refine ⟨by omega, .rk r, ?_, rfl⟩
            simp only [okB, Bool.and_eq_true, decide_eq_true_eq]
            exact ⟨hft, h4⟩
end
end Tr
set_option Elab.async false
set_option linter.all false
set_option maxRecDepth 100000
set_option maxHeartbeats 1000000
set_option autoImplicit false
/-! M6: asks in order -/
namespace Tr
open PySem PySem.Spec PyProof.Rows L2 DL
def leA (a b : Str × Nat) : Bool := PySem.W.dataLe false id (encA a) (encA b)
def sortK (l : List (Str × Nat)) : List (Str × Nat) := l.mergeSort leA
theorem sortK_data (l : List (Str × Nat)) : sortD (l.map encA) = (sortK l).map encA := by
  unfold sortD sortK
  rw [List.map_mergeSort]
  intro a _ b _
  rfl
theorem toksA (a : Str × Nat) : PySem.W.keyToks (encA a) = [.inl 1, .inr a.1.cps.toList, .inl 1, .inl (a.2 : Int), .inl 0] := by
  simp [encA, encAL, PySem.W.keyToks, PySem.W.keyToksAll]
theorem toksA_inj {a b : Str × Nat} (h : PySem.W.keyToks (encA a) = PySem.W.keyToks (encA b)) : a = b := by
  rw [toksA, toksA] at h
  obtain ⟨x, n⟩ := a
  obtain ⟨y, m⟩ := b
  simp only [List.cons.injEq, Sum.inr.injEq, Sum.inl.injEq] at h
  obtain ⟨_, h1, _, h2, _⟩ := h
  have e1 : x = y := by
    cases x
    cases y
    simpa using h1
  have e2 : n = m := by
    have h3 : (n : Int) = (m : Int) := h2
    omega
  rw [e1, e2]
theorem leA_total : PySem.W.TotalLe leA := by
  have h := PySem.W.sortLe_total (PyProof.Rows.listOrd PyProof.Rows.itemOrd) false (fun b : Str × Nat => PySem.W.keyToks (encA b))
  exact h
theorem sortK_mem {l : List (Str × Nat)} {a : Str × Nat} : a ∈ sortK l ↔ a ∈ l := (List.mergeSort_perm l leA).mem_iff
theorem sortK_len (l : List (Str × Nat)) : (sortK l).length = l.length := List.length_mergeSort l
theorem sortK_asc : ∀ {l : List (Str × Nat)}, l.Nodup → l.Pairwise (fun a b => leA a b = true) → ascA l = true
  | [], _, _ => rfl
  | [_], _, _ => rfl
  | a :: b :: r, nd, pw => by
    obtain ⟨n1, n2⟩ := List.nodup_cons.mp nd
    obtain ⟨p1, p2⟩ := List.pairwise_cons.mp pw
    have ih := sortK_asc (l := b :: r) n2 p2
    have hne : a ≠ b := fun e => n1 (by rw [e]; exact List.mem_cons_self)
    have h1 : leA a b = true := p1 b List.mem_cons_self
    have h2 : (!PyProof.Rows.lexLt PyProof.Rows.itemOrd (PySem.W.keyToks (encA b)) (PySem.W.keyToks (encA a))) = true := h1
    have h3 : PyProof.Rows.lexLt PyProof.Rows.itemOrd (PySem.W.keyToks (encA b)) (PySem.W.keyToks (encA a)) = false := by simpa using h2
    have h4 : PySem.W.dataLt (encA a) (encA b) = true := by
      cases q : PySem.W.dataLt (encA a) (encA b) with
      | true => rfl
      | false => exact absurd (toksA_inj (PyProof.Rows.lex_total (O := PyProof.Rows.itemOrd) _ _ q h3)) hne
    show (PySem.W.dataLt (encA a) (encA b) && ascA (b :: r)) = true
    rw [h4, ih]
    rfl
theorem sortK_ok {l : List (Str × Nat)} (nd : l.Nodup) : ascA (sortK l) = true :=
  sortK_asc ((List.mergeSort_perm l leA).nodup_iff.mpr nd) (List.pairwise_mergeSort (fun a b c => leA_total.trans a b c) (fun a b => by
    rcases leA_total.total a b with h | h <;> simp [h]) l)
end Tr
set_option Elab.async false
set_option linter.all false
set_option maxRecDepth 100000
set_option maxHeartbeats 1000000
set_option autoImplicit false
/-! DT6: x, y = [..], [..] -/
namespace DL
open PySem PySem.Spec PyProof.Rows L2
theorem sv_par2N {X : Cx} {env : SEnv} {pos px py pt : Pos} {kt k2 : Nat} {pt2 : Pos} {a b : Expr} {ds es : List D} {Z : EndsD} {i j : Nat} {x y : Str} (hc : X.calm = true) (hN : X.N.Nodup) (hi : X.N[i]? = some x) (hj : X.N[j]? = some y) (hij : i ≠ j)
    (ha : EVn X a (vis env) ds) (hb : EVn X b (vis env) es) (h : Z.nx ((env.set i (some (.own (.list ds)))).set j (some (.own (.list es)))))
    (hx : X.env.scope.names.lookup x = some .local := by rfl) (hy : X.env.scope.names.lookup y = some .local := by rfl)
    (hw : swappedStores [.Tuple [.Name x px, .Name y py] kt pt] (.Tuple [a, b] k2 pt2) X.env = pure (some [x, y]) := by rfl)
    (hs : swapsWithSole [.Tuple [.Name x px, .Name y py] kt pt] (.Tuple [a, b] k2 pt2) pos.line X.env = pure false := by rfl)
    (s1 : starEach [a, b] X.env = (false, eval a X.env) :: starEach [b] X.env := by rfl) (s2 : starEach [b] X.env = (false, eval b X.env) :: starEach [] X.env := by rfl) : SV X (.Assign [.Tuple [.Name x px, .Name y py] kt pt] (.Tuple [a, b] k2 pt2) pos) Z env := fun Hc0 H0 σ H ⟨Hc, q⟩ =>
  ws_of (ps_par hc hN hi hj hij hx hy (pa_cons pe_w (pa_cons pe_w pa_nil s2) s1) hw hs) (ha Hc σ H q.x _ fun p1 xs Hc1 H1 g1 np1 nc1 hp1 hd1 => by
    have q1 := q.grow g1
    refine hb Hc1 σ H1 q1.x _ fun p2 ys Hc2 H2 g2 np2 nc2 hp2 hd2 => ?_
    have q2 := q1.grow g2
    refine ⟨_, _, rfl, _, ⟨Hc2, ?_⟩, h⟩
    have ne : p2 ≠ p1 := fun z => by rw [z, hp1] at np2; cases np2
    have n1 : H2 p1 = some (.lst xs) := g2.hh _ _ hp1
    have r1 : DSc X.K Hc0 H0 Hc2 (σ.set i (some (.ref p1))) H2 (env.set i (some (.own (.list ds)))) := q2.setOwn i (q.gr.hh.free np1) (g2.nw p1 (by rw [hp1]; exact fun z => nomatch z) nc1) n1 (TopO.lst (hd1.same g2.cc)) fun m fs e1 e2 => by
      obtain ⟨b2, u, m1, m2, m3, m4, m5⟩ := q.own m fs e1
      rw [m1] at e2
      cases e2
      rw [np1] at m4
      cases m4
    refine r1.setOwn j (q1.gr.hh.free np2) nc2 hp2 (TopO.lst hd2) fun m fs e1 e2 => ?_
    rcases set_at e1 with ⟨rfl, hl, e'⟩ | ⟨hn, e'⟩
    · rw [List.getElem?_set_self (by have := q.len; omega)] at e2
      cases e2
      exact absurd rfl ne
    · rw [List.getElem?_set_ne (Ne.symm hn)] at e2
      obtain ⟨b2, u, m1, m2, m3, m4, m5⟩ := q1.own m fs e'
      rw [m1] at e2
      cases e2
      rw [np2] at m4
      cases m4)
end DL
set_option Elab.async false
set_option linter.all false
set_option maxRecDepth 100000
set_option maxHeartbeats 1000000
set_option autoImplicit false
namespace Tr
open PySem PySem.Spec PyProof.Rows L2 DL
theorem eqv_encA (x y : Str × Nat) : PyData.eqv (encA x) (encA y) = decide (x = y) := by
  obtain ⟨a, n⟩ := x
  obtain ⟨b, m⟩ := y
  have h1 : PyData.eqv (encA (a, n)) (encA (b, m)) = (PyData.eqv (.str a) (.str b) && (PyData.eqv (.int (n : Nat)) (.int (m : Nat)) && true)) := by
    simp [encA, encAL, PyData.eqv, PyData.eqvAll]
  have h2 : PyData.eqv (.int (n : Nat)) (.int (m : Nat)) = decide (n = m) := by
    by_cases h : n = m
    · subst h; simp [PyData.eqv]
    · have : (n : Int) ≠ (m : Int) := by omega
      simpa [PyData.eqv, h] using this
  rw [h1, h2, eqv_str, Bool.and_true]
  by_cases h : a = b
  · by_cases h3 : n = m
    · simp [h, h3]
    · simp [h, h3]
  · simp [h]
theorem any_encA (x : Str × Nat) : ∀ l : List (Str × Nat), ((l.map encA).any fun z => PyData.eqv z (encA x)) = decide (x ∈ l)
  | [] => rfl
  | y :: l => by
    rw [List.map_cons, List.any_cons, any_encA x l, eqv_encA]
    by_cases h : y = x
    · subst h; simp
    · have : x ≠ y := fun z => h z.symm
      simp [h, this]
theorem lay_A {v : Wd} (ok : OkW v) {a : Str × Nat} (h : a.1 ∈ names v) : (encA a).canLay0 = true ∧ (encA a).depth ≤ 2 := by
  obtain ⟨t, ht, e⟩ := List.mem_map.mp h
  have h2 := (ok.st t ht).1
  rw [e] at h2
  exact ⟨by simp [PyData.canLay0, PyData.canLayAll0, encAL, h2], depthA a⟩
theorem noLs_A (l : List (Str × Nat)) : noLs (l.map encA) = true := by
  induction l with
  | nil => rfl
  | cons x l ih => rw [List.map_cons, noLs, ih]; rfl
theorem noL_L (x : Option Str) : noL (encL x) = true := by cases x <;> rfl
theorem form_ex {v : Wd} (ok : OkW v) {t : Str} (h : t ∈ names v) : ∃ f, formW v t = some f ∧ (f = "tell" ∨ f = "make") := by
  obtain ⟨x, hx, rfl⟩ := List.mem_map.mp h
  unfold formW
  cases q : v.ts.find? (fun y => decide (y.1 = x.1)) with
  | none =>
    have := List.find?_eq_none.mp q x hx
    simp at this
  | some y =>
    refine ⟨y.2.1, rfl, ?_⟩
    have hy : y ∈ v.ts := List.mem_of_find?_eq_some q
    have key : ∀ (l : List (Str × Str × List Str)) (ear : List Str), okT ear l = true → ∀ z ∈ l, (z.2.1 = "tell" ∨ z.2.1 = "make") := by
      intro l
      induction l with
      | nil => intro _ _ _ h; cases h
      | cons a r ih =>
        intro ear ho z hz
        obtain ⟨_, _, h3, _, _, _, h7⟩ := okT_ear rfl ho
        rcases List.mem_cons.mp hz with rfl | hz
        · exact h3
        · exact ih _ h7 z hz
    exact key _ _ ok.tt y hy
def prInst (v : Wd) (T : Addr) (L : Nat) (ds : List D) : Prop := ∃ xs : List Int, xs.length ≤ 63 ∧ L = xs.length ∧ OkW v ∧ ds = [scrD xs, twM T, W v]
def poInst (v : Wd) (ds : List D) (r : D) : Prop := ∃ i : Inst, OkI v i ∧ r = encI i
section
variable {P : Program} {w : World} {K : PySem.W.Frag} {mg : Str → Option Value} {base : Heap}
abbrev N__law_instance : List Str := ["_law_script", "_law_town_here", "_law_world_here", "_law_trait", "_law_root", "_law_parts", "_law_limits", "_law_asks", "_law_part", "_law_limit", "_law_name_here", "_law_row"]
theorem sc__law_instance : FnScope N__law_instance ["_law_script", "_law_town_here", "_law_world_here"] (defScope (top 91)) := ⟨rfl, rfl, rfl, by decide +kernel, rfl, by decide +kernel, by decide +kernel⟩
theorem ok__law_instance (B : Blt mg) (v : Wd) (D1 : DefZ P w K mg base "_law_pick" (1 + 1) ["_law_script", "_law_town_here", "_law_choices"] 1 prPick poPick) (D2 : DefZ P w K mg base "_law_draw" 1 ["_law_script", "_law_town_here", "_law_limit"] 1 prDraw poDraw) (D3 : DefD P w K mg base "_law_traits" 1 ["_law_world_here"] spNames) (D4 : ∀ (t fm : Str) (q : Nat), DefZ P w K mg base "_law_body" (2 + 1) ["_law_script", "_law_town_here", "_law_world_here", "_law_trait", "_law_parts", "_law_asks"] 8 (prBody v t fm q) (poBody v fm q)) (F : Has K mg "_law_instance" (top 91)) : DefZ P w K mg base "_law_instance" (3 + 1) ["_law_script", "_law_town_here", "_law_world_here"] 20 (prInst v) (poInst v) := by
  refine def_mkK F (fun _ _ _ _ _ _ us hl => match us, hl with | [_, _, _], _ => rfl) fun f fd F => fn_Z F sc__law_instance (fun T L ds h => ?_) fun cdv A outer s H E T L n ds h hbg hr => ?_
  · obtain ⟨xs, _, _, _, rfl⟩ := h
    rfl
  · obtain ⟨xs, hx, hL, ok, rfl⟩ := h
    have hz : v.cs.length ≤ sizeLine := Nat.le_trans ok.c4 (by decide)
    have hn1 : 0 < (names v).length := by unfold names; rw [List.length_map]; exact ok.t1
    have hn4 : (names v).length ≤ 4 := by unfold names; rw [List.length_map]; exact ok.t4
    refine svz_cons (svz_set (i := 3) (c := 0 + 1) (P := fun d => ∃ t : Str, t ∈ names v ∧ d = .str t) sc__law_instance.nd rfl (by first | exact Or.inl rfl | exact Or.inr rfl)
      (ez_call D1 (hr.mono (by omega)) rfl (ezs_d (ev_v 0 rfl) (ezs_d (ev_v 1 rfl) (ezs_d (d := .list ((names v).map PyData.str)) (ev_call D3 (hr.mono (by omega)) rfl (eq_cons (ev_v 2 rfl) eq_nil) ⟨v, ok.t4, rfl, rfl⟩) (ezs_nil ⟨⟨xs, _, hx, hL, ?_, ?_, rfl⟩, fun d hd => ?_⟩))))) (by omega) fun d hd => ?_)
    · rw [List.length_map]; exact hn1
    · rw [List.length_map]; exact Nat.lt_of_le_of_lt hn4 (by decide)
    · obtain ⟨t, h1, rfl⟩ := List.mem_map.mp (hd _ _ _ rfl)
      exact ⟨t, h1, rfl⟩
    obtain ⟨t, ht, rfl⟩ := hd
    obtain ⟨fm, hfm, hfm2⟩ := form_ex ok ht
    refine svz_cons (svz_unpack (P := fun d => ∃ c : Str × Nat, c ∈ v.cs ∧ d = encC c) (c := 0 + 1) rfl (tgs_cons (fun _ => t_one 4 sc__law_instance.nd) (tgs_cons (fun _ => t_one 5 sc__law_instance.nd) tgs_nil)) (ez_call D1 (hr.mono (by omega)) rfl (ezs_d (ev_v 0 rfl) (ezs_d (ev_v 1 rfl) (ezs_d (d := .list (v.cs.map encC)) (EVn.toD (en_list (ev_W 2 rfl rfl) rfl rfl B.list)) (ezs_nil ⟨⟨xs, _, hx, hL, ?_, ?_, rfl⟩, fun d hd => ?_⟩))))) rfl (by omega) fun ds hds => ?_)
    · rw [List.length_map]; exact ok.c1
    · rw [List.length_map]; exact Nat.lt_of_le_of_lt ok.c4 (by decide)
    · obtain ⟨c, h1, rfl⟩ := List.mem_map.mp (hd _ _ _ rfl)
      exact ⟨encCL c, rfl, rfl, c, h1, rfl⟩
    obtain ⟨⟨r, q⟩, hc, he⟩ := hds
    cases he
    have hq : q ≤ 2 := by
      have h9 := ok.cn _ hc
      unfold okC at h9
      simp only [Bool.and_eq_true, decide_eq_true_eq] at h9
      exact h9.1.1.2
    refine svz_step (sv_par2N (i := 6) (j := 7) (ds := []) (es := []) rfl sc__law_instance.nd rfl rfl (by decide) (ev_lst ea_nil (Nat.zero_le _)) (ev_lst ea_nil (Nat.zero_le _)) ?_)
    refine svz_cons (svz_for (xs := List.range q) (enc := fun (k : Nat) => .int (k : Nat)) (t := .one 8) (fun i env' m => ∃ (lims : List (Option Str)) (l : List (Str × Nat)) (a b c : Option Sl), lims.length = i ∧ (∀ x ∈ lims, ∀ y, x = some y → (arC v.cs y).isSome = true) ∧ l.Nodup ∧ l.length ≤ 3 ∧ (∀ z ∈ l, z.2 < q ∧ z.1 ∈ names v) ∧ m ≤ n + 2 + 5 * i ∧
      env' = [some (.dat (scrD xs)), some (.dat (twM T)), some (.dat (W v)), some (.dat (.str t)), some (.dat (.str r)), some (.dat (.int (q : Nat))), some (.own (.list (lims.map encL))), some (.own (.list (l.map encA))), a, b, c, none]) PassesOwn.never rfl
      (iv_range1 (ev_v 5 rfl) rfl B.range (by omega)) (by omega) ⟨[], [], none, none, none, rfl, (fun _ h => nomatch h), List.nodup_nil, Nat.zero_le _, (fun _ h => nomatch h), by omega, rfl⟩ (fun p => t_one 8 sc__law_instance.nd) ?_ ?_)
    · rintro i k _ m hi ⟨lims, l, a, b, c, h1, h2, h3, h4, h5, h6, rfl⟩
      have hk : i < q ∧ i = k := by
        obtain ⟨k1, k2⟩ := List.getElem?_eq_some_iff.mp hi
        rw [List.length_range] at k1
        rw [List.getElem_range] at k2
        exact ⟨k1, k2⟩
      obtain ⟨hk, rfl⟩ := hk
      refine svz_cons (svz_set (i := 9) (c := 0 + 1) (P := fun d => ∃ y : Str, (arC v.cs y).isSome = true ∧ d = .str y) sc__law_instance.nd rfl (by first | exact Or.inl rfl | exact Or.inr rfl)
        (ez_call D1 (hr.mono (by omega)) rfl (ezs_d (ev_v 0 rfl) (ezs_d (ev_v 1 rfl) (ezs_d (d := .list (v.cs.map fun c => PyData.str c.1)) ?_ (ezs_nil ⟨⟨xs, _, hx, hL, ?_, ?_, rfl⟩, fun d hd => ?_⟩))))) (by omega) fun d hd => ?_)
      · exact EVn.toD (en_map1 (xs := v.cs) (enc := encC) (i := 11) (fun c => .str c.1) sc__law_instance.nd (blkOk_by (N := N__law_instance) (sc := defScope (top 91)) (by decide +kernel)) rfl (iv_tup (ev_W 2 rfl rfl)) hz (fun _ _ _ _ _ => g_one 11 sc__law_instance.nd)
          (fun c _ _ _ _ _ _ => ev_ixT (d := .str c.1) (ev_v 11 rfl) ev_int rfl) (fun _ => rfl))
      · rw [List.length_map]; exact ok.c1
      · rw [List.length_map]; exact Nat.lt_of_le_of_lt ok.c4 (by decide)
      · obtain ⟨c, k1, rfl⟩ := List.mem_map.mp (hd _ _ _ rfl)
        exact ⟨c.1, by rw [arC_of ok k1]; rfl, rfl⟩
      obtain ⟨y, hy, rfl⟩ := hd
      refine svz_cons (svz_append (c := 0 + 1 + 0) (P := fun d => ∃ x : Option Str, (∀ z, x = some z → (arC v.cs z).isSome = true) ∧ d = encL x) (pe_bm PySem.F.plainAttrs_list PySem.F.slot_list_append PySem.F.type_list_append mt_append (pv 6) (pa_cons pe_w pa_nil)) rfl
        (ez_if (Pb := fun _ => True) (ezt_eqI (ez_call D2 (hr.mono (by omega)) rfl (ezs_d (ev_v 0 rfl) (ezs_d (ev_v 1 rfl) (ezs_d (d := .int ((4 : Nat) : Int)) ev_int (ezs_nil ⟨⟨xs, 4, hx, hL, by decide, by decide, rfl⟩, fun d hd => ?_⟩))))) ev_int)
          (fun _ => ez_d (ev_v 9 rfl) ⟨some y, fun z e => by cases e; exact hy, rfl⟩) (fun _ => ez_d ev_non ⟨none, (fun z e => nomatch e), rfl⟩)) (fun d hd => ?_) (by omega) ?_ fun d hd => ?_)
      · obtain ⟨j, _, k5⟩ := hd _ _ _ rfl
        exact ⟨_, k5⟩
      · obtain ⟨x, _, rfl⟩ := hd
        exact noL_L x
      · rw [List.length_map]
        exact Nat.lt_of_lt_of_le (by omega : _ < 20) (by decide)
      obtain ⟨x, hx1, rfl⟩ := hd
      have e2 : lims.map encL ++ [encL x] = (lims ++ [x]).map encL := by
        rw [List.map_append]
        rfl
      rw [e2]
      refine svz_one (svz_forz (c := 0 + 1 + 0) (Ps := fun ds => ∃ t2 : Str, t2 ∈ names v ∧ ds = [.str t, .str t2]) (t := .one 10) (fun ds j env' m' => ∃ (l : List (Str × Nat)) (c : Option Sl), l.Nodup ∧ l.length ≤ 3 ∧ (∀ z ∈ l, z.2 < q ∧ z.1 ∈ names v) ∧ m' ≤ n + 2 + 5 * i + 3 + j ∧
        env' = [some (.dat (scrD xs)), some (.dat (twM T)), some (.dat (W v)), some (.dat (.str t)), some (.dat (.str r)), some (.dat (.int (q : Nat))), some (.own (.list ((lims ++ [x]).map encL))), some (.own (.list (l.map encA))), some (.dat (.int (i : Nat))), some (.dat (.str y)), c, none]) PassesOwn.never rfl
        (ivz_list (ez_n (ez_lst (ezs_d (ev_v 3 rfl) (ezs_cons (P := fun d => ∃ t2 : Str, t2 ∈ names v ∧ d = .str t2) (ez_call D1 (hr.mono (by omega)) rfl (ezs_d (ev_v 0 rfl) (ezs_d (ev_v 1 rfl) (ezs_d (d := .list ((names v).map PyData.str)) (ev_call D3 (hr.mono (by omega)) rfl (eq_cons (ev_v 2 rfl) eq_nil) ⟨v, ok.t4, rfl, rfl⟩) (ezs_nil ⟨⟨xs, _, hx, hL, ?_, ?_, rfl⟩, fun d hd => ?_⟩))))) (fun d hd => ezs_nil ?_)))) (fun ds h => ⟨ds, rfl, h⟩))) (by omega) (fun ds hds => ⟨l, c, h3, h4, h5, by omega, rfl⟩) (fun ds hds d hd => t_one 10 sc__law_instance.nd) ?_ ?_)
      · rw [List.length_map]; exact hn1
      · rw [List.length_map]; exact Nat.lt_of_le_of_lt hn4 (by decide)
      · obtain ⟨t2, k1, rfl⟩ := List.mem_map.mp (hd _ _ _ rfl)
        exact ⟨t2, k1, rfl⟩
      · obtain ⟨t2, k1, rfl⟩ := hd
        refine ⟨fun d h => ?_, le2, t2, k1, rfl⟩
        rcases List.mem_cons.mp h with rfl | h
        · rfl
        · rw [List.mem_singleton.mp h]
          rfl
      · rintro _ ⟨t2, ht2, rfl⟩ j d _ m' hj ⟨l, c, g1, g2, g3, g4, rfl⟩
        have hj2 : j < 2 := (List.getElem?_eq_some_iff.mp hj).1
        obtain ⟨u, hu, rfl⟩ : ∃ u : Str, u ∈ names v ∧ d = .str u := by
          have := List.mem_of_getElem? hj
          simp only [List.mem_cons, List.not_mem_nil, or_false] at this
          rcases this with rfl | rfl
          · exact ⟨t, ht, rfl⟩
          · exact ⟨t2, ht2, rfl⟩
        refine svz_one (svz_ifz (c := 0 + 1 + (0 + 0)) (Pb := fun b => b = true → (u, i) ∉ l ∧ l.length < 3) (EVzw.tst (ezw_and (Pa := fun _ => True) (ezt_eqI (ez_call D2 (hr.mono (by omega)) rfl (ezs_d (ev_v 0 rfl) (ezs_d (ev_v 1 rfl) (ezs_d (d := .int ((2 : Nat) : Int)) ev_int (ezs_nil ⟨⟨xs, 2, hx, hL, by decide, by decide, rfl⟩, fun d hd => ?_⟩))))) ev_int)
          (fun _ => ezw_and (Pa := fun b => b = true → (u, i) ∉ l) (ezt_t (et_c (ec_notinD (d1 := encA (u, i)) (ds := l.map encA) ?_ ?_ (ev_v 7 rfl) ?_ ?_)) ?_) (fun hb1 => ezw_and1 (ezt_t (et_c (ec_lt (ev_lenL B (ds := l.map encA) (ev_v 7 rfl)) ev_int)) ?_)) (fun _ h => nomatch h)) (fun _ h => nomatch h))) (by omega) (fun hb => ?_) (fun _ => svz_nil ⟨l, _, g1, g2, g3, by omega, rfl⟩))
        · obtain ⟨j, _, k5⟩ := hd _ _ _ rfl
          exact ⟨_, k5⟩
        · have h7 := hr.u 70
          show (A.deeper _).units + 65 < cLine
          omega
        · refine ev_tup ?_ le2
          refine ea_cons ?_ ?_
          · exact ev_v 10 rfl
          · refine ea_cons ?_ ea_nil
            exact ev_v 8 rfl
        · exact lay_of (lay_A ok hu).1 (Nat.le_trans (lay_A (a := (u, i)) ok hu).2 (by decide))
        · exact lay_listM (n := 2) (fun x hx => lay_A ok (g3 x hx).2) (by decide)
        · intro hb
          rw [any_encA] at hb
          simpa using hb
        · intro hb
          have := of_decide_eq_true hb
          rw [List.length_map] at this
          exact ⟨hb1 rfl, by omega⟩
        · obtain ⟨k1, k2⟩ := hb rfl
          refine svz_one (svz_of (sv_append (pe_bm PySem.F.plainAttrs_list PySem.F.slot_list_append PySem.F.type_list_append mt_append (pv 7) (pa_cons pe_w pa_nil)) rfl (d := encA (u, i)) ?_ rfl ?_ ?_))
          · refine ev_tup ?_ le2
            refine ea_cons ?_ ?_
            · exact ev_v 10 rfl
            · refine ea_cons ?_ ea_nil
              exact ev_v 8 rfl
          · rw [List.length_map]
            exact Nat.lt_of_lt_of_le (by omega : _ < 20) (by decide)
          · refine ⟨l ++ [(u, i)], some (.dat (.str u)), ?_, by rw [List.length_append, List.length_singleton]; omega, fun z hz => ?_, by omega, ?_⟩
            · exact List.nodup_append.mpr ⟨g1, (by simp), fun a ha b hb e => k1 (by rw [List.mem_singleton.mp hb] at e; rw [← e]; exact ha)⟩
            · rcases List.mem_append.mp hz with hz | hz
              · exact g3 z hz
              · rw [List.mem_singleton.mp hz]
                exact ⟨hk, hu⟩
            · rw [show (l ++ [(u, i)]).map encA = l.map encA ++ [encA (u, i)] from by rw [List.map_append]; rfl]
              rfl
      · rintro _ ⟨t2, ht2, rfl⟩ _ m' ⟨l, c, g1, g2, g3, g4, rfl⟩
        have g4 : m' ≤ n + 2 + 5 * i + 3 + 2 := g4
        refine ⟨lims ++ [x], l, _, _, _, by rw [List.length_append, h1]; rfl, fun z hz => ?_, g1, g2, g3, by omega, rfl⟩
        rcases List.mem_append.mp hz with hz | hz
        · exact h2 z hz
        · rw [List.mem_singleton.mp hz]
          exact hx1
    · rintro _ m ⟨lims, l, a, b, c, h1, h2, h3, h4, h5, h6, rfl⟩
      rw [List.length_range] at h1 h6
      refine svz_step (s_setA 7 (d := .tuple ((sortK l).map encA)) sc__law_instance.nd ?_ ?_ ?_)
      · rw [← sortK_data]
        refine ev_tuple (EVn.toD (en_sorted (ds := l.map encA) (ev_v 7 rfl) ?_ ?_ ?_ rfl B.sorted)) rfl rfl B.tuple
        · intro x hx y hy
          obtain ⟨p, _, rfl⟩ := List.mem_map.mp hx
          obtain ⟨q, _, rfl⟩ := List.mem_map.mp hy
          exact alikeA p q
        · refine .inl fun x hx => ?_
          obtain ⟨p, _, rfl⟩ := List.mem_map.mp hx
          exact ⟨_, _, rfl⟩
        · intro x hx
          obtain ⟨p, _, rfl⟩ := List.mem_map.mp hx
          have := depthA p
          have h7 := hr.u 100
          show (A.deeper _).units + 2 + (encA p).depth < cLine
          omega
      · show noL (.tuple _) = true
        rw [noL]
        exact noLs_A _
      refine svz_one (svz_ret (c := 0 + 8 + 0) (P := fun d => ∃ i : Inst, OkI v i ∧ d = encI i) (ez_tup (ezs_d (d := .str t) (ev_v 3 rfl) (ezs_d (d := .str r) (ev_v 4 rfl) (ezs_d (d := .tuple (lims.map encL)) (ev_tuple (ev_v 6 rfl) rfl rfl B.tuple) (ezs_d (d := .tuple ((sortK l).map encA)) (ev_v 7 rfl)
        (ezs_cons (P := fun d => ∃ bd : Bd, okB v fm q bd = true ∧ d = encB bd) (ez_call (D4 t fm q) (hr.mono (by omega)) rfl (ezs_d (ev_v 0 rfl) (ezs_d (ev_v 1 rfl) (ezs_d (ev_v 2 rfl) (ezs_d (d := .str t) (ev_v 3 rfl) (ezs_d (d := .int (q : Nat)) (ev_v 5 rfl) (ezs_d (d := .tuple ((sortK l).map encA)) (ev_v 7 rfl) (ezs_nil ⟨⟨xs, sortK l, hx, hL, ok, hfm, hfm2, hq, ?_, ?_, rfl⟩, fun d hd => hd⟩)))))))) (fun d hd => ezs_nil ?_))))))) (by omega) ?_)
      · rw [sortK_len]; exact h4
      · exact fun a ha => h5 a (sortK_mem.mp ha)
      · obtain ⟨bd, k1, rfl⟩ := hd
        refine ⟨fun d h => ?_, Nat.le_of_ble_eq_true rfl, ⟨t, r, lims, sortK l, bd⟩, ⟨ht, by rw [arC_of ok hc, h1], by rw [h1]; exact hq, h2, by rw [sortK_len]; exact h4, fun a ha => by rw [h1]; exact h5 a (sortK_mem.mp ha), sortK_ok h3, fm, hfm, by rw [h1]; exact k1⟩, rfl⟩
        simp only [List.mem_cons, List.not_mem_nil, or_false] at h
        rcases h with rfl | rfl | rfl | rfl | rfl <;> rfl
      · rintro d ⟨i, k1, rfl⟩
        exact ⟨by omega, i, k1, rfl⟩
end
end Tr
set_option Elab.async false
set_option linter.all false
set_option maxRecDepth 100000
set_option maxHeartbeats 1000000
set_option autoImplicit false
/-! M7: the worlds that the law draws -/
namespace Tr
open PySem PySem.Spec PyProof.Rows L2 DL
theorem sortL_asc : ∀ {l : List Str}, l.Nodup → l.Pairwise (fun a b => PySem.W.dataLe false id (PyData.str a) (PyData.str b) = true) → asc l = true
  | [], _, _ => rfl
  | [_], _, _ => rfl
  | a :: b :: r, nd, pw => by
    obtain ⟨n1, n2⟩ := List.nodup_cons.mp nd
    obtain ⟨p1, p2⟩ := List.pairwise_cons.mp pw
    have ih := sortL_asc (l := b :: r) n2 p2
    have hne : a ≠ b := fun e => n1 (by rw [e]; exact List.mem_cons_self)
    have h2 : (!PyProof.Rows.lexLt PyProof.Rows.itemOrd (PySem.W.keyToks (.str b)) (PySem.W.keyToks (.str a))) = true := p1 b List.mem_cons_self
    have h3 : PyProof.Rows.lexLt PyProof.Rows.itemOrd (PySem.W.keyToks (.str b)) (PySem.W.keyToks (.str a)) = false := by simpa using h2
    have h4 : sLt a b = true := by
      have e : PySem.W.dataLt (.str a) (.str b) = sLt a b := PySem.W.dataLt_str a b
      rw [← e]
      cases q : PySem.W.dataLt (.str a) (.str b) with
      | true => rfl
      | false =>
        have h5 := PyProof.Rows.lex_total (O := PyProof.Rows.itemOrd) _ _ q h3
        simp only [PySem.W.keyToks, List.cons.injEq, Sum.inr.injEq] at h5
        refine absurd ?_ hne
        cases a
        cases b
        simpa using h5
    show (sLt a b && asc (b :: r)) = true
    rw [h4, ih]
    rfl
theorem sortL_ok {l : List Str} (nd : l.Nodup) : asc (sortL l) = true := by
  have tot : PySem.W.TotalLe (fun a b : Str => PySem.W.dataLe false id (PyData.str a) (PyData.str b)) := PySem.W.sortLe_total (PyProof.Rows.listOrd PyProof.Rows.itemOrd) false (fun b : Str => PySem.W.keyToks (PyData.str b))
  exact sortL_asc ((List.mergeSort_perm l _).nodup_iff.mpr nd) (List.pairwise_mergeSort (fun a b c => tot.trans a b c) (fun a b => by
    rcases tot.total a b with h | h <;> simp [h]) l)
theorem sortL_mem {l : List Str} {a : Str} : a ∈ sortL l ↔ a ∈ l := (List.mergeSort_perm l _).mem_iff
theorem sortL_len (l : List Str) : (sortL l).length = l.length := List.length_mergeSort l
theorem okT_snoc : ∀ (l : List (Str × Str × List Str)) (ear : List Str) (t : Str × Str × List Str), okT ear l = true → areSmall t.1 1 6 = true → t.1 ∉ ear ++ l.map (·.1) → (t.2.1 = "tell" ∨ t.2.1 = "make") → (∀ b ∈ t.2.2, b ∈ ear ++ l.map (·.1)) → asc t.2.2 = true → t.1.length ≤ sizeLine → okT ear (l ++ [t]) = true
  | [], ear, t, _, h1, h2, h3, h4, h5, h6 => by
    rw [List.map_nil, List.append_nil] at h2 h4
    simp only [List.nil_append, okT, Bool.and_eq_true, Bool.or_eq_true, decide_eq_true_eq, Bool.not_eq_true', List.all_eq_true, List.any_eq_true, Bool.and_true]
    refine ⟨⟨⟨⟨⟨h1, ?_⟩, h3⟩, fun b hb => ⟨b, h4 b hb, rfl⟩⟩, h5⟩, h6⟩
    refine List.any_eq_false.mpr fun z hz => ?_
    simpa using fun e => h2 (by rw [← e]; exact hz)
  | x :: l, ear, t, h, h1, h2, h3, h4, h5, h6 => by
    rw [List.cons_append, okT] at *
    rw [Bool.and_eq_true] at h ⊢
    refine ⟨h.1, okT_snoc l (ear ++ [x.1]) t h.2 h1 ?_ h3 ?_ h5 h6⟩
    · rw [List.append_assoc]
      exact h2
    · intro b hb
      rw [List.append_assoc]
      exact h4 b hb
def cssA : List (List (Str × Nat)) := [[("List", 1), ("Num", 0), ("Pair", 2)], [("List", 1), ("Num", 0)], [("Num", 0), ("Pair", 2)]]
def cssB : List (List (Str × Nat)) := [[("List", 1), ("Num", 0), ("Unit", 0)], [("Num", 0)], [("Box", 1), ("List", 1), ("Num", 0)]]
def cssC : List (List (Str × Nat)) := [[("List", 1), ("Num", 0), ("Pair", 2), ("Unit", 0)], [("List", 1), ("Num", 0), ("Pair", 2)]]
def okCs (cs : List (Str × Nat)) : Bool := decide (1 ≤ cs.length) && decide (cs.length ≤ 4) && cs.all okC && asc (cs.map (·.1)) && (cs.any fun c => decide (c.2 = 0)) && cs.all fun c => PyData.strOk c.1
theorem css_ok : ((cssA ++ cssB) ++ cssC).all okCs = true := by decide +kernel
def nm3 : List Str := ["count", "show", "fresh"]
theorem nm3_ok : nm3.all (fun x => areSmall x 1 6 && PyData.strOk x && decide (x.length ≤ sizeLine)) = true := by decide +kernel
theorem nm3_nd : nm3.Nodup := by decide +kernel
theorem tm_ok : PyData.strOk "tell" = true ∧ PyData.strOk "make" = true := by decide +kernel
/-- the traits so far -/
structure GoodTs (i : Nat) (ts : List (Str × Str × List Str)) : Prop where
  nm : ts.map (·.1) = nm3.take i
  tt : okT [] ts = true
  b4 : ∀ t ∈ ts, t.2.2.length ≤ 4
  fm : ∀ t ∈ ts, t.2.1 = "tell" ∨ t.2.1 = "make"
theorem GoodTs.nil : GoodTs 0 [] := ⟨rfl, rfl, (fun _ h => nomatch h), (fun _ h => nomatch h)⟩
theorem GoodTs.snoc {i : Nat} {ts : List (Str × Str × List Str)} (g : GoodTs i ts) {x f : Str} {l : List Str} (hx : nm3[i]? = some x) (hf : f = "tell" ∨ f = "make") (hl : l.Sublist (nm3.take i)) : GoodTs (i + 1) (ts ++ [(x, f, sortL l)]) := by
  have hi : i < nm3.length := (List.getElem?_eq_some_iff.mp hx).1
  have hi3 : i < 3 := hi
  have hxm : x ∈ nm3 := List.mem_of_getElem? hx
  have hok := List.all_eq_true.mp nm3_ok x hxm
  simp only [Bool.and_eq_true, decide_eq_true_eq] at hok
  have hnd : (nm3.take i).Nodup := List.Nodup.sublist (List.take_sublist i nm3) nm3_nd
  have hle : l.length ≤ 3 := by
    have := hl.length_le
    rw [List.length_take] at this
    omega
  refine ⟨?_, okT_snoc ts [] (x, f, sortL l) g.tt hok.1.1 ?_ hf ?_ (sortL_ok (hnd.sublist hl)) hok.2, ?_, ?_⟩
  · rw [List.map_append, g.nm, List.take_succ, hx]
    rfl
  · rw [List.nil_append, g.nm]
    intro hm
    have h1 : nm3.take (i + 1) = nm3.take i ++ [x] := by
      rw [List.take_succ, hx]
      rfl
    have h2 : (nm3.take (i + 1)).Nodup := List.Nodup.sublist (List.take_sublist _ nm3) nm3_nd
    rw [h1, List.nodup_append] at h2
    exact h2.2.2 x hm x (by simp) rfl
  · intro b hb
    rw [List.nil_append, g.nm]
    exact hl.subset (sortL_mem.mp hb)
  · intro t ht
    rcases List.mem_append.mp ht with ht | ht
    · exact g.b4 t ht
    · rw [List.mem_singleton.mp ht]
      show (sortL l).length ≤ 4
      rw [sortL_len]
      omega
  · intro t ht
    rcases List.mem_append.mp ht with ht | ht
    · exact g.fm t ht
    · rw [List.mem_singleton.mp ht]
      exact hf
theorem small_of {i : Nat} {ts : List (Str × Str × List Str)} {cs : List (Str × Nat)} (g : GoodTs i ts) (h1 : 1 ≤ i) (h3 : i ≤ 3) (hc : cs ∈ (cssA ++ cssB) ++ cssC) : Small ⟨cs, ts⟩ := by
  have hok := List.all_eq_true.mp css_ok cs hc
  simp only [okCs, Bool.and_eq_true, decide_eq_true_eq] at hok
  obtain ⟨⟨⟨⟨⟨k1, k2⟩, k3⟩, k4⟩, k5⟩, k6⟩ := hok
  have hlen : ts.length = i := by
    have := congrArg List.length g.nm
    rw [List.length_map, List.length_take] at this
    have e3 : nm3.length = 3 := rfl
    omega
  refine ⟨⟨k1, k2, List.all_eq_true.mp k3, k4, k5, by show 1 ≤ ts.length; omega, by show ts.length ≤ 4; omega, g.tt, g.b4, fun t ht => ⟨?_, ?_⟩, List.all_eq_true.mp k6⟩, by show ts.length ≤ 3; omega⟩
  · have hm : t.1 ∈ nm3 := by
      have : t.1 ∈ ts.map (·.1) := List.mem_map_of_mem ht
      rw [g.nm] at this
      exact List.mem_of_mem_take this
    have hok := List.all_eq_true.mp nm3_ok _ hm
    simp only [Bool.and_eq_true] at hok
    exact hok.1.2
  · rcases g.fm t ht with h | h
    · rw [h]; exact tm_ok.1
    · rw [h]; exact tm_ok.2
end Tr
set_option Elab.async false
set_option linter.all false
set_option maxRecDepth 100000
set_option maxHeartbeats 1000000
set_option autoImplicit false
/-! DH1: bodies over the abstract heap with a core: what changes is told by a list of addresses -/
namespace DL
open PySem PySem.Spec PyProof.Rows L2
/-- only what stands at S has changed -/
structure GS (S : List Addr) (Hc H Hc1 H1 : Hp) : Prop where
  hh : ∀ a o, a ∉ S → H a = some o → H1 a = some o
  cc : Same Hc Hc1
  nw : ∀ a, H a ≠ none → Hc a = none → Hc1 a = none
  dm : ∀ a, H a ≠ none → H1 a ≠ none
  cor : Cor Hc1 H1
theorem some_ne {α : Type} {x : Option α} {y : α} (h : x = some y) : x ≠ none := by
  rw [h]
  exact fun z => nomatch z
section
variable {S S' : List Addr} {Hc H Hc1 H1 Hc2 H2 : Hp} {T a : Addr} {o : HO}
theorem GS.refl (c : Cor Hc H) : GS S Hc H Hc H := ⟨fun _ _ _ e => e, Same.refl _, fun _ _ e => e, fun _ e => e, c⟩
theorem GS.trans (x : GS S Hc H Hc1 H1) (y : GS S Hc1 H1 Hc2 H2) : GS S Hc H Hc2 H2 :=
  ⟨fun a o n e => y.hh a o n (x.hh a o n e), x.cc.trans y.cc, fun a h1 h2 => y.nw a (x.dm a h1) (x.nw a h1 h2), fun a h => y.dm a (x.dm a h), y.cor⟩
theorem GS.mono (x : GS S Hc H Hc1 H1) (h : ∀ a ∈ S, a ∈ S') : GS S' Hc H Hc1 H1 := ⟨fun a o n e => x.hh a o (fun z => n (h a z)) e, x.cc, x.nw, x.dm, x.cor⟩
theorem Grow.gs (g : Grow Hc H Hc1 H1) : GS S Hc H Hc1 H1 := ⟨fun a o _ e => g.hh a o e, g.cc, g.nw, fun a h => by
  cases e : H a with
  | none => exact absurd e h
  | some o => exact some_ne (g.hh a o e), g.cor⟩
theorem GrowT.gs (g : GrowT T Hc H Hc1 H1) (h : H1 T ≠ none) : GS [T] Hc H Hc1 H1 := ⟨fun a o n e => g.hh a o (fun z => n (by rw [z]; exact List.mem_singleton_self _)) e, g.cc, g.nw, fun a h2 => by
  by_cases z : a = T
  · rw [z]; exact h
  · cases e : H a with
    | none => exact absurd e h2
    | some o => exact some_ne (g.hh a o z e), g.cor⟩
/-- without changes it is growth -/
theorem GS.grow (g : GS [] Hc H Hc1 H1) : Grow Hc H Hc1 H1 := ⟨fun a o e => g.hh a o (fun z => nomatch z) e, g.cc, g.nw, g.cor⟩
theorem Cor.setO (c : Cor Hc H) (hc : Hc a = none) (nt : ¬ TupO o) : Cor Hc (upd H a o) := ⟨fun b u e => by
  rw [upd_ne (ne_of_none e hc)]
  exact c.sub b u e, fun b u e t => by
  by_cases z : b = a
  · rw [z, upd_same] at e
    cases e
    exact absurd t nt
  · rw [upd_ne z] at e
    exact c.tup b u e t⟩
theorem GS.set (c : Cor Hc H) (hc : Hc a = none) (nt : ¬ TupO o) (ha : a ∈ S) : GS S Hc H Hc (upd H a o) :=
  ⟨fun b u n e => by
    rw [upd_ne (fun z => n (by rw [z]; exact ha))]
    exact e, Same.refl _, fun _ _ h => h, fun b h => by
    by_cases z : b = a
    · rw [z, upd_same]
      exact fun z => nomatch z
    · rw [upd_ne z]
      exact h, c.setO hc nt⟩
theorem GS.newO (c : Cor Hc H) (hn : H a = none) (nt : ¬ TupO o) : GS S Hc H Hc (upd H a o) :=
  ⟨fun b u n e => by
    rw [upd_ne (ne_of_none e hn)]
    exact e, Same.refl _, fun _ _ h => h, fun b h => by
    by_cases z : b = a
    · rw [z, upd_same]
      exact fun z => nomatch z
    · rw [upd_ne z]
      exact h, c.setO (c.sub.free hn) nt⟩
theorem DSX.gs {K : PySem.W.Frag} {σ : L2.St} {env : DEnv} (h : DSX K Hc σ H env) (g : GS S Hc H Hc1 H1) : DSX K Hc1 σ H1 env :=
  ⟨g.cor, h.len, fun i d e => by
    obtain ⟨v, a, b⟩ := h.at_ i d e
    exact ⟨v, a, b.same g.cc⟩⟩
end
/-! ### steps: readings as structures (an elaborator looks no further than at these) -/
structure HX (X : Cx) (e : Expr) (σ : L2.St) (H : Hp) (Q : VK) : Prop where
  r : WX X e σ H Q
structure HT (X : Cx) (e : Expr) (σ : L2.St) (H : Hp) (Q : Bool → Hp → Prop) : Prop where
  r : WT X e σ H Q
structure HA (X : Cx) (es : List Expr) (σ : L2.St) (H : Hp) (Q : List V → Hp → Prop) : Prop where
  r : WA X es σ H Q
structure HS (X : Cx) (st : Stmt) (Z : Ends) (σ : L2.St) (H : Hp) : Prop where
  r : WSt X st Z σ H
structure HSs (X : Cx) (sts : List Stmt) (Z : Ends) (σ : L2.St) (H : Hp) : Prop where
  r : WSs X sts Z σ H
section
variable {X : Cx} {e a b c tg it : Expr} {es : List Expr} {env : DEnv} {pos pos' : Pos} {st : Stmt} {sts A B : List Stmt} {Z : Ends} {σ : L2.St} {H : Hp} {Hc : Hp} {d : D}
theorem pe_h : PE X e (fun σ H Q => HX X e σ H Q) := ⟨fun pins s σ H Q I h => h.r pins s I⟩
theorem pt_h : PT X e (fun σ H Q => HT X e σ H Q) := ⟨fun pins s σ H Q I h => h.r pins s I⟩
theorem pa_h : PA X es (fun σ H Q => HA X es σ H Q) := ⟨fun pos pins s σ H Q I h => h.r pos pins s I⟩
theorem pss_h : PSs X sts (fun Z σ H => HSs X sts Z σ H) := ⟨fun pins s σ H Q I h => h.r pins s I⟩
theorem hx_of {t : TE} {Q : VK} (p : PE X e t) (h : t σ H Q) : HX X e σ H Q := ⟨wx_of p h⟩
theorem ht_of {t : TT} {Q : Bool → Hp → Prop} (p : PT X e t) (h : t σ H Q) : HT X e σ H Q := ⟨wt_of p h⟩
theorem ha_of {t : TA} {Q : List V → Hp → Prop} (p : PA X es t) (h : t σ H Q) : HA X es σ H Q := ⟨wa_of p h⟩
theorem hs_of {t : TS} (p : PS X st t) (h : t Z σ H) : HS X st Z σ H := ⟨ws_of p h⟩
theorem h_cons (h : HS X st { Z with nx := fun σ' H' => HSs X sts Z σ' H' } σ H) : HSs X (st :: sts) Z σ H := ⟨wss_of (pss_cons (t := WSt X st) (u := fun Z σ H => HSs X sts Z σ H) ps_w pss_h) h.r⟩
theorem h_nil (h : Z.nx σ H) : HSs X [] Z σ H := ⟨wss_of pss_nil h⟩
theorem h_one (h : HS X st Z σ H) : HSs X [st] Z σ H := ⟨wss_of (pss_one (t := WSt X st) ps_w) h.r⟩
theorem h_set (i : Nat) {x : Str} (nd : X.N.Nodup) (h : HX X e σ H fun v H1 => Z.nx (σ.set i (some v)) H1) (hi : X.N[i]? = some x := by rfl) (hx : Loc X.env.scope x := by first | exact Or.inl rfl | exact Or.inr rfl) (hs : swapsWith e (some (.Name x pos')) pos.line X.env = pure false := by rfl)
    (hf : X.fn x = true ∨ X.env.scope.names.lookup x = some .local := by first | exact .inl rfl | exact .inr rfl | assumption) : HS X (.Assign [.Name x pos'] e pos) Z σ H := ⟨ws_of (ps_set nd hi hx pe_w hs hf) h.r⟩
theorem h_ret (h : HX X e σ H Z.rt) : HS X (.Return (some e) pos) Z σ H := ⟨ws_of (ps_ret pe_w) h.r⟩
theorem h_if (h : HT X c σ H fun k H1 => if k = true then HSs X A Z σ H1 else HSs X B Z σ H1) : HS X (.If c A B pos) Z σ H := ⟨ws_of (ps_if (t := fun Z σ H => HSs X A Z σ H) (u := fun Z σ H => HSs X B Z σ H) pt_w pss_h pss_h) h.r⟩
theorem h_expr (h : HX X e σ H fun _ H1 => Z.nx σ H1) (hs : swapsWith e none pos.line X.env = pure false := by rfl) : HS X (.Expr e pos) Z σ H := ⟨ws_of (ps_expr pe_w hs) h.r⟩
theorem hs_mono {Z' : Ends} (h : HS X st Z σ H) (m1 : ∀ σ' H', Z.nx σ' H' → Z'.nx σ' H') (m2 : ∀ v H', Z.rt v H' → Z'.rt v H') (m3 : ∀ σ' H', Z.bk σ' H' → Z'.bk σ' H') (m4 : ∀ σ' H', Z.ct σ' H' → Z'.ct σ' H') : HS X st Z' σ H := ⟨fun pins s I =>
  thn (h.r pins s I) fun f s1 q => by
    cases f with
    | next => obtain ⟨σ', H', I', q⟩ := q; exact ⟨σ', H', I', m1 _ _ q⟩
    | brk => obtain ⟨σ', H', I', q⟩ := q; exact ⟨σ', H', I', m3 _ _ q⟩
    | cont => obtain ⟨σ', H', I', q⟩ := q; exact ⟨σ', H', I', m4 _ _ q⟩
    | ret u => obtain ⟨v, σ', H', I', r, q⟩ := q; exact ⟨v, σ', H', I', r, m2 _ _ q⟩⟩
theorem ha_nil {Q : List V → Hp → Prop} (q : Q [] H) : HA X [] σ H Q := ⟨wa_of pa_nil q⟩
theorem ha_cons {Q : List V → Hp → Prop} (h : HX X e σ H fun v H1 => HA X es σ H1 fun vs H2 => Q (v :: vs) H2) (hs : starEach (e :: es) X.env = (false, eval e X.env) :: starEach es X.env := by rfl) : HA X (e :: es) σ H Q := ⟨wa_of (pa_cons pe_w pa_h hs) h.r⟩
/-- a datum's expression -/
theorem EVd.at {Q : VK} (h : EVd X e env d) (hs : DSX X.K Hc σ H env) (q : ∀ v Hc1 H1, Grow Hc H Hc1 H1 → Dq X.K Hc1 v d → Q v H1) : HX X e σ H Q := ⟨h Hc σ H hs Q q⟩
theorem EVt.at {k : Bool} {Q : Bool → Hp → Prop} (h : EVt X e env k) (hs : DSX X.K Hc σ H env) (q : ∀ Hc1 H1, Grow Hc H Hc1 H1 → Q k H1) : HT X e σ H Q := ⟨h Hc σ H hs Q q⟩
theorem EVq.at {ds : List D} {Q : List V → Hp → Prop} (h : EVq X es env ds) (hs : DSX X.K Hc σ H env) (q : ∀ vs Hc1 H1, Grow Hc H Hc1 H1 → DqAll X.K Hc1 vs ds → Q vs H1) : HA X es σ H Q := ⟨h Hc σ H hs Q q⟩
theorem EVa.at {ds : List D} {Q : List V → Hp → Prop} (h : EVa X es env ds) (hs : DSX X.K Hc σ H env) (q : ∀ vs Hc1 H1, Grow Hc H Hc1 H1 → DpAll X.K Hc1 vs ds → Q vs H1) : HA X es σ H Q := ⟨h Hc σ H hs Q q⟩
theorem EVz.at {T : Addr} {L c n : Nat} {P : D → Prop} {Q : VK} (h : EVz X T L c e env P) (hs : DSX X.K Hc σ H env) (t : Twn T L n H) (ht : Hc T = none) (hb : n + c ≤ big60) (q : ∀ v d Hc1 H1, GrowT T Hc H Hc1 H1 → Twn T L (n + c) H1 → Dq X.K Hc1 v d → P d → Q v H1) : HX X e σ H Q := ⟨h n Hc σ H hs t ht hb Q q⟩
/-- the object at a, named in slot i -/
theorem pe_at (i : Nat) {x : Str} {v : V} {Q : VK} (hv : σ[i]? = some (some v)) (q : Q v H) (hN : X.N[i]? = some x := by rfl) (hvs : Vis X.env.scope x := by first | exact Or.inl rfl | exact Or.inr (Or.inl rfl) | exact Or.inr (Or.inr rfl)) (hd : (x == ("__debug__" : Str)) = false := by decide) (hcd : (x == ("__classdict__" : Str)) = false := by decide) : HX X (.Name x pos) σ H Q :=
  ⟨wx_of (pe_var hN hvs hd hcd) ⟨v, hv, q⟩⟩
/-- an address as a datum -/
abbrev adM (T : Addr) : D := .dict [(.int (T : Nat), .none)]
theorem ad_ref {K : PySem.W.Frag} {x : V} {T : Addr} (h : Dq K Hc x (adM T)) : x = .ref T := tw_ref h
theorem ad_of {K : PySem.W.Frag} (T : Addr) : Dq K Hc (.ref T) (adM T) := by
  show V.ref T = .ref ((T : Nat) : Int).toNat
  rw [Int.toNat_natCast]
end
/-- the slots at a body's start -/
theorem dsx_start {K : PySem.W.Frag} {N : List Str} {vs : List V} {Hc H : Hp} {ds : List D} (c : Cor Hc H) (h : DqAll K Hc vs ds) : DSX K Hc (L2.start N vs) H (ds.map some ++ List.replicate (N.length - ds.length) none) := by
  refine ⟨c, by unfold L2.start; simp [h.len], fun i d e => ?_⟩
  by_cases hi : i < ds.length
  · rw [List.getElem?_append_left (by simpa using hi), List.getElem?_map] at e
    cases q : ds[i]? with
    | none => rw [q] at e; cases e
    | some d2 =>
      rw [q] at e
      cases e
      obtain ⟨v, h1, h2⟩ := h.get q
      refine ⟨v, ?_, h2⟩
      unfold L2.start
      rw [List.getElem?_append_left (by simpa [h.len] using hi), List.getElem?_map, h1]
      rfl
  · rw [List.getElem?_append_right (by simpa using Nat.le_of_not_lt hi), List.getElem?_replicate] at e
    split at e <;> cases e
/-! ### promises -/
theorem DqAll.one {K : PySem.W.Frag} {H : Hp} {v : V} {d : D} (h : Dq K H v d) : DqAll K H [v] [d] := .cons h .nil
/-- a def called: its promise over data, here -/
theorem h_call0 {X : Cx} {x : Str} {k : Nat} {ps : List Str} {spec : List D → D → Prop} {p pos : Pos} {e : Expr} {es : List Expr} {env : DEnv} {ds : List D} {d : D} {Hc H : Hp} {σ : L2.St} {Q : VK} (F : DefD X.prog X.w X.K X.mg X.base x k ps spec) (hr : Room k X.A) (hg : Gl X x) (hs : DSX X.K Hc σ H env) (ha : EVq X (e :: es) env ds) (hsp : spec ds d)
    (q : ∀ v Hc1 H1, Grow Hc H Hc1 H1 → Dq X.K Hc1 v d → Q v H1) (hdb : (x == ("__debug__" : Str)) = false := by decide)
    (he : starEach (e :: es) X.env = (false, eval e X.env) :: starEach es X.env := by rfl) (hpl : (backTo pos (starEach es X.env)).any (·.1) = false := by rfl) : HX X (.Call (.Name x p) (e :: es) [] pos) σ H Q :=
  ⟨ev_call F hr hg ha hsp hdb he hpl Hc σ H hs Q q⟩
end DL
set_option Elab.async false
set_option linter.all false
set_option maxRecDepth 100000
set_option maxHeartbeats 1000000
set_option autoImplicit false
/-! DT7: sorted and slices with draws; plain tuples; a body with draws from here on -/
namespace DL
open PySem PySem.Spec PyProof.Rows L2
section
variable {X : Cx} {T : Addr} {L c n : Nat} {e a b : Expr} {es : List Expr} {env : DEnv} {pos p : Pos} {P : D → Prop} {Ps : List D → Prop}
/-- sorted(xs), xs a list made with draws -/
theorem ezn_sorted (ha : EVz X T L c a env fun d => ∃ ds, d = .list ds ∧ PySem.W.AllAlike ds ∧ PySem.W.Sortable ds ∧ (∀ d, d ∈ ds → X.A.units + 2 + d.depth < cLine) ∧ Ps (sortD ds)) (hg : Gl X "sorted") (hm : X.mg "sorted" = none)
    (he : starEach (a :: []) X.env = (false, eval a X.env) :: starEach [] X.env := by rfl) (hpl : (backTo pos (starEach [] X.env)).any (·.1) = false := by rfl) : EVzn X T L c (.Call (.Name "sorted" p) [a] [] pos) env Ps := fun n Hc σ H hs t ht hb Q q =>
  wx_of (pe_callB cr_sortedD hg hm (by decide +kernel) (pa_cons pe_w pa_nil he) (he := he) (hpl := hpl)) (ha n Hc σ H hs t ht hb _ fun v d Hc1 H1 g t1 pv k => by
    obtain ⟨ds, rfl, hal, hk, hu, k⟩ := k
    obtain ⟨r, xs, rfl, h1, h2⟩ := dp_lstI (show Dp X.K Hc1 v (.list ds) from pv)
    refine ⟨r, xs, ds, rfl, sql_sub g.cor h1, h2.same g.cor.sub, hal, hk, hu, fun l ys nl pr => ?_⟩
    have neT : l ≠ T := fun z => t1.ne (by rw [← z]; exact nl)
    have hl0 : H l = none := by
      cases e : H l with
      | none => rfl
      | some o => rw [g.hh l o neT e] at nl; cases nl
    refine q l ys (sortD ds) Hc1 _ (g.trans (Grow.own (xs := ys) g.cor nl).tt t1.ne) (t1.same (same_new nl)) hl0 (g.cor.sub.free nl) upd_same (dps_paired (pr _ fun i v d h3 h4 => ?_)) k
    obtain ⟨v', h5, h6⟩ := h2.get h4
    rw [h3] at h5
    cases h5
    exact h6)
/-- xs[:e], e with draws, walked -/
theorem ivz_take {tg : Expr} {p2 : Pos} {ds : List D} (ha : EVd X a env (.list ds)) (hb : EVz X T L c b env fun d => ∃ j : Nat, d = .int (j : Nat) ∧ Ps (cutD ds none (some (j : Nat)))) : IVz X T L c tg (.Subscript a (.Slice none (some b) none p2) pos) env Ps :=
  ivz_list fun n Hc σ H hs t ht hb0 Q q => wx_of (pe_slice sl_list pe_w po_none (po_some pe_w)) (ha Hc σ H hs _ fun x Hc1 H1 g1 p1 => hb n Hc1 σ H1 (hs.grow g1) (t.same g1.hh) (g1.nw T t.ne ht) hb0 _ fun y d Hc2 H2 g2 t2 p2 k => by
    obtain ⟨j, rfl, k⟩ := k
    obtain ⟨r, xs, rfl, h1, h2⟩ := dp_lstI (p1.same g2.cc)
    refine ⟨(j : Nat), dp_int p2, r, xs, rfl, sql_sub g2.cor h1, fun l nl => ?_⟩
    have g3 := Grow.own (xs := cutV xs none (some (j : Nat))) g2.cor nl
    obtain ⟨c2, s2⟩ := grow_list (vs := cutV xs none (some (j : Nat))) g3.cor upd_same (g2.cor.sub.free nl)
    have g12 := g1.tt.trans g2 (t.same g1.hh).ne
    refine q (.ref l) (.list (cutD ds none (some (j : Nat)))) _ _ (g12.trans (⟨fun a o _ e => g3.hh a o e, s2, fun z h1 h2 => ?_, c2⟩ : GrowT T Hc2 H2 _ _) t2.ne) (t2.same g3.hh) (show Dq X.K _ _ (.list _) from L2.Dp.lst (.inl (.inl upd_same)) ((cut_dp h2).same s2)) ⟨_, rfl, k⟩
    have ne : z ≠ l := fun q => h1 (by rw [q]; exact nl)
    rw [upd_ne ne]
    exact h2)
/-- a tuple's display, the object known -/
theorem pe_tupF {t : TA} {k : Nat} (h : PA X es t) : PE X (.Tuple es k pos) (fun σ H Q => t σ H fun xs H1 => xs.length ≤ sizeLine ∧ ∀ r (o : Obj), H1 r = none → o.dict = none → Q (.ref r) (upd H1 r (.frz o (.tup xs)))) := by
  constructor
  intro pins s σ H Q I hq
  refine wpAny_Tuple_spliced (thn (h.run pos pins s σ H _ I hq) fun us s1 hu => ?_)
  obtain ⟨xs, H1, I1, r, z, q⟩ := hu
  refine ⟨by rw [← r.length]; exact z, ?_⟩
  have hg : (s1.heap.push { cls := .type "tuple", data := .seq us.toArray }).get? s1.heap.objs.size = some { cls := .type "tuple", data := .seq us.toArray } := Heap.get?_push_size _ rfl
  let ob : Obj := { cls := .type "tuple", data := .seq us.toArray }
  have hok : ObjOk X.prog X.w (upd H1 s1.heap.objs.size (.frz ob (.tup xs))) (s1.heap.push ob) s1.heap.objs.size (.frz ob (.tup xs)) := ⟨hg, z, us, r, ⟨_, hg, rfl, _, rfl⟩⟩
  exact ⟨.ref s1.heap.objs.size, _, I1.laid (t' := s1.toks) (fun b u e => Heap.get?_push_of_some _ e) (Nat.le_refl _) hok, rfl, q _ ob (I1.hok.fresh (Nat.le_refl _)) rfl⟩
end
/-- a tuple without a dict of its own -/
def PlT (K : PySem.W.Frag) (H : Hp) (v : V) (ds : List D) : Prop := ∃ (b : Addr) (o : Obj) (ys : List V), v = .ref b ∧ H b = some (.frz o (.tup ys)) ∧ o.dict = none ∧ DpAll K H ys ds
theorem PlT.same {K : PySem.W.Frag} {H H' : Hp} {v : V} {ds : List D} (h : PlT K H v ds) (e : Same H H') : PlT K H' v ds := by
  obtain ⟨b, o, ys, h1, h2, h3, h4⟩ := h
  exact ⟨b, o, ys, h1, e _ _ h2, h3, h4.same e⟩
inductive PlAll (K : PySem.W.Frag) (H : Hp) : List V → List (List D) → Prop
  | nil : PlAll K H [] []
  | cons {v : V} {vs : List V} {d : List D} {ds : List (List D)} : PlT K H v d → PlAll K H vs ds → PlAll K H (v :: vs) (d :: ds)
theorem PlAll.same {K : PySem.W.Frag} {H H' : Hp} : ∀ {vs : List V} {ds : List (List D)}, PlAll K H vs ds → Same H H' → PlAll K H' vs ds
  | _, _, .nil, _ => .nil
  | _, _, .cons h t, e => .cons (h.same e) (PlAll.same t e)
theorem PlAll.app {K : PySem.W.Frag} {H : Hp} : ∀ {vs ws : List V} {ds es : List (List D)}, PlAll K H vs ds → PlAll K H ws es → PlAll K H (vs ++ ws) (ds ++ es)
  | _, _, _, _, .nil, t => t
  | _, _, _, _, .cons h r, t => .cons h (PlAll.app r t)
theorem PlAll.len {K : PySem.W.Frag} {H : Hp} : ∀ {vs : List V} {ds : List (List D)}, PlAll K H vs ds → vs.length = ds.length
  | _, _, .nil => rfl
  | _, _, .cons _ t => by rw [List.length_cons, List.length_cons, PlAll.len t]
theorem PlAll.mem {K : PySem.W.Frag} {H : Hp} {v : V} : ∀ {vs : List V} {ds : List (List D)}, PlAll K H vs ds → v ∈ vs → ∃ d ∈ ds, PlT K H v d
  | _, _, .nil, h => nomatch h
  | _, _, .cons p t, h => by
    rcases List.mem_cons.mp h with rfl | h
    · exact ⟨_, List.mem_cons_self, p⟩
    · obtain ⟨d, h1, h2⟩ := PlAll.mem t h
      exact ⟨d, List.mem_cons_of_mem _ h1, h2⟩
section
variable {X : Cx} {e a b : Expr} {es : List Expr} {env : DEnv} {pos : Pos} {ds : List D} {dss : List (List D)}
structure EVP (X : Cx) (e : Expr) (env : DEnv) (ds : List D) : Prop where
  r : ∀ (Hc : Hp) (σ : L2.St) (H : Hp), DSX X.K Hc σ H env → ∀ Q : VK, (∀ v Hc1 H1, Grow Hc H Hc1 H1 → PlT X.K Hc1 v ds → Q v H1) → HX X e σ H Q
structure EVPs (X : Cx) (es : List Expr) (env : DEnv) (dss : List (List D)) : Prop where
  r : ∀ (Hc : Hp) (σ : L2.St) (H : Hp), DSX X.K Hc σ H env → ∀ Q : List V → Hp → Prop, (∀ vs Hc1 H1, Grow Hc H Hc1 H1 → PlAll X.K Hc1 vs dss → Q vs H1) → HA X es σ H Q
theorem ep_tup {k : Nat} (h : EVa X es env ds) (hl : ds.length ≤ sizeLine) : EVP X (.Tuple es k pos) env ds := ⟨fun Hc σ H hs Q q =>
  hx_of (pe_tupF pa_w) (h Hc σ H hs _ fun xs Hc1 H1 g1 p1 => ⟨by rw [p1.len]; exact hl, fun r o nr ho => by
    have g2 := Grow.new (o := .frz o (.tup xs)) g1.cor nr
    exact q _ _ _ (g1.trans g2) ⟨r, o, xs, rfl, upd_same, ho, p1.same g2.cc⟩⟩)⟩
theorem EVPs.at {Hc H : Hp} {σ : L2.St} {Q : List V → Hp → Prop} (h : EVPs X es env dss) (hs : DSX X.K Hc σ H env) (q : ∀ vs Hc1 H1, Grow Hc H Hc1 H1 → PlAll X.K Hc1 vs dss → Q vs H1) : HA X es σ H Q := h.r Hc σ H hs Q q
theorem eps_nil : EVPs X [] env [] := ⟨fun Hc σ H hs Q q => ha_nil (q [] Hc H (Grow.refl hs.cor) .nil)⟩
theorem eps_cons (ha : EVP X e env ds) (hr : EVPs X es env dss) (hs : starEach (e :: es) X.env = (false, eval e X.env) :: starEach es X.env := by rfl) : EVPs X (e :: es) env (ds :: dss) := ⟨fun Hc σ H hd Q q =>
  ha_cons (ha.r Hc σ H hd _ fun x Hc1 H1 g1 p1 => hr.r Hc1 σ H1 (hd.grow g1) _ fun xs Hc2 H2 g2 p2 => q _ Hc2 H2 (g1.trans g2) (.cons (p1.same g2.cc) p2)) hs⟩
end
theorem SVz.at {X : Cx} {T : Addr} {L n : Nat} {st : Stmt} {Z : EndsZ} {env : SEnv} {Hc0 H0 H : Hp} {σ : L2.St} (h : SVz X T L st Z env n) (q : DSZ X.K T L Hc0 H0 σ H env n) : HS X st (liftZ X.K T L Hc0 H0 Z) σ H := ⟨h Hc0 H0 σ H q⟩
/-- from here on as a body with draws -/
theorem dz_base {K : PySem.W.Frag} {T : Addr} {L n : Nat} {Hc H : Hp} {σ : L2.St} {env : DEnv} (h : DSX K Hc σ H env) (t : Twn T L n H) (ht : Hc T = none) : DSz K T L Hc H Hc σ H (env.map fun o => o.map Sl.dat) n := by
  refine ⟨(Grow.refl h.cor).tt, fun a h => h, t.ne, ht, t, by rw [List.length_map]; exact h.len, fun i d e => ?_, fun i d e => ?_, fun i j d1 d2 a e => ?_⟩
  · rw [List.getElem?_map] at e
    cases q : env[i]? with
    | none => rw [q] at e; cases e
    | some o =>
      rw [q] at e
      cases o with
      | none => cases e
      | some d2 =>
        cases e
        exact h.at_ i d q
  · exfalso
    rw [List.getElem?_map] at e
    cases q : env[i]? with
    | none => rw [q] at e; cases e
    | some o =>
      rw [q] at e
      cases o <;> cases e
  · exfalso
    rw [List.getElem?_map] at e
    cases q : env[i]? with
    | none => rw [q] at e; cases e
    | some o =>
      rw [q] at e
      cases o <;> cases e
end DL
set_option Elab.async false
set_option linter.all false
set_option maxRecDepth 100000
set_option maxHeartbeats 1000000
set_option autoImplicit false
namespace Tr
open PySem PySem.Spec PyProof.Rows L2 DL
/-- _law_pick from a list at p, by values -/
def spPickV (K : PySem.W.Frag) : Sp := fun vs H Q _ => ∃ (T p : Addr) (n : Nat) (Hc : Hp) (xs : List Int) (sv : V) (us : List V), vs = [sv, .ref T, .ref p] ∧ Cor Hc H ∧ Dq K Hc sv (scrD xs) ∧ xs.length ≤ 63 ∧ Twn T xs.length n H ∧ Hc T = none ∧ n + 1 ≤ big60 ∧ H p = some (.lst us) ∧ 0 < us.length ∧ us.length < 2 ^ 32 ∧ p ≠ T ∧
  ∀ v Hc1 H1, GrowT T Hc H Hc1 H1 → Twn T xs.length (n + 1) H1 → v ∈ us → Q v H1
/-- _law_world: any world that is drawn -/
def prWorld (T : Addr) (L : Nat) (ds : List D) : Prop := ∃ xs : List Int, xs.length ≤ 63 ∧ L = xs.length ∧ ds = [scrD xs, twM T]
def poWorld (ds : List D) (r : D) : Prop := ∃ v : Wd, Small v ∧ r = W v
section
variable {P : Program} {w : World} {K : PySem.W.Frag} {mg : Str → Option Value} {base : Heap}
theorem okV__law_pick (B : Blt mg) (D1 : DefZ P w K mg base "_law_draw" 1 ["_law_script", "_law_town_here", "_law_limit"] 1 prDraw poDraw) (F : Has K mg "_law_pick" (top 84)) : DefK P w K mg base "_law_pick" (1 + 1) ["_law_script", "_law_town_here", "_law_choices"] (spPickV K) := by
  refine def_mkK F (fun _ _ _ _ _ _ us hl => match us, hl with | [_, _, _], _ => rfl) fun f fd F => ?_
  refine F.ok sc__law_pick (fun vs H Q E h => ?_) (fun cdv A outer s H vs Q E hr h => ?_)
  · obtain ⟨T, p, n, Hc, xs, sv, us, rfl, _⟩ := h
    rfl
  · obtain ⟨T, p, n, Hc, xs, sv, us, rfl, c, hsv, hx, tw, ht, hb, hp, hu0, hu, hne, q⟩ := h
    refine ⟨_, PSs.nox pss_h, ?_⟩
    obtain ⟨f2, fd2, hm, hk, hbd, ok2⟩ := D1.ex
    refine h_one (h_ret (hx_of (pe_ix ix_list pe_h pe_h (fun _ _ => rfl)) ?_))
    refine pe_at 2 rfl ?_
    refine hx_of (pe_call ok2 (hr.mono (by omega)) rfl hm hk hbd .nil pass0 pa_h) ?_
    refine ha_cons (pe_at 0 rfl (ha_cons (pe_at 1 rfl (ha_cons ?_))))
    refine hx_of (pe_callB call_len rfl B.len PySem.boot_len (pa_cons pe_h pa_nil)) ?_
    refine pe_at 2 rfl ⟨_, us.length, rfl, .inl ⟨us, SqL.of hp, rfl⟩, ha_nil ?_⟩
    refine ⟨T, xs.length, n, Hc, [scrD xs, twM T, .int (us.length : Nat)], c, .cons hsv (.cons (ad_of T) (.cons (L2.Dp.int _) .nil)), tw, ht, hb, ⟨xs, us.length, hx, rfl, hu0, hu, rfl⟩, fun v d Hc1 H1 g t1 pv k => ?_⟩
    obtain ⟨j, h1, rfl⟩ := k _ _ _ rfl
    have hv := dp_int (show Dp K Hc1 v (.int (j : Nat)) from pv)
    subst hv
    exact ⟨p, us, (j : Nat), us[j], rfl, rfl, SqL.of (g.hh p _ hne hp), atI_nat (List.getElem?_eq_getElem h1), q _ Hc1 H1 g t1 (List.getElem_mem h1)⟩
end
end Tr
set_option Elab.async false
set_option linter.all false
set_option maxRecDepth 100000
set_option maxHeartbeats 1000000
set_option autoImplicit false
namespace Tr
open PySem PySem.Spec PyProof.Rows L2 DL
section
variable {X : Cx} {env : DEnv} {pos p p2 : Pos} {k : Nat}
theorem ev_C {x : Str} {n : Nat} {j j2} : EVd X (.Tuple [.Constant (.str x) j p, .Constant (.int (n : Nat)) j2 p2] k pos) env (encC (x, n)) := ev_tup (ea_cons ev_str (ea_cons ev_int ea_nil)) le2
end
theorem sub_snoc {α : Type} {l m : List α} {a : α} {i : Nat} (h : l.Sublist (m.take i)) (ha : m[i]? = some a) : l.Sublist (m.take (i + 1)) ∧ (l ++ [a]).Sublist (m.take (i + 1)) := by
  rw [List.take_succ, ha]
  exact ⟨h.trans (List.sublist_append_left _ _), List.Sublist.append_right h [a]⟩
theorem noLs_strs (l : List Str) : noLs (l.map PyData.str) = true := by
  induction l with
  | nil => rfl
  | cons x l ih => rw [List.map_cons, noLs, ih]; rfl
section
variable {P : Program} {w : World} {K : PySem.W.Frag} {mg : Str → Option Value} {base : Heap}
abbrev N__law_world : List Str := ["_law_script", "_law_town_here", "_law_rows", "_law_traits_here", "_law_earlier", "_law_name_here", "_law_below", "_law_form", "_law_one"]
theorem sc__law_world : FnScope N__law_world ["_law_script", "_law_town_here"] (defScope (top 88)) := ⟨rfl, rfl, rfl, by decide +kernel, rfl, by decide +kernel, by decide +kernel⟩
theorem ok__law_world (B : Blt mg) (D1 : DefZ P w K mg base "_law_draw" 1 ["_law_script", "_law_town_here", "_law_limit"] 1 prDraw poDraw) (D2 : DefK P w K mg base "_law_pick" (1 + 1) ["_law_script", "_law_town_here", "_law_choices"] (spPickV K)) (F : Has K mg "_law_world" (top 88)) :
    DefZ P w K mg base "_law_world" (2 + 1) ["_law_script", "_law_town_here"] 14 prWorld poWorld := by
  refine def_mkK F (fun _ _ _ _ _ _ us hl => match us, hl with | [_, _], _ => rfl) fun f fd F => ?_
  refine F.ok sc__law_world (fun vs H Q E h => ?_) (fun cdv A outer s H vs Q E hr h => ?_)
  · obtain ⟨T, L, n, Hc, ds, cr, pa, t, ht, hbg, ⟨xs, _, _, rfl⟩, _⟩ := h
    rw [pa.len]
    rfl
  · obtain ⟨T, L, n, Hc, ds, cr, pa, tw, ht, hbg, ⟨xs, hx, hL, rfl⟩, q⟩ := h
    subst hL
    obtain ⟨sv, tv, rfl⟩ : ∃ sv tv, vs = [sv, tv] := by
      cases pa with
      | cons _ pa =>
        cases pa with
        | cons _ pa =>
          cases pa
          exact ⟨_, _, rfl⟩
    have hs := dsx_start (N := N__law_world) cr pa
    refine ⟨_, PSs.nox pss_h, ?_⟩
    have hs0 : DSX K Hc (L2.start N__law_world [sv, tv]) H [some (scrD xs), some (twM T), none, none, none, none, none, none, none] := hs
    -- the rows
    refine h_cons (h_set 2 sc__law_world.nd ?_)
    refine hx_of (pe_lst pa_h) ?_
    refine EVPs.at (dss := cssA.map fun c => c.map encC) ?eA hs0 fun us1 Hc1 H1 g1 pl1 => ?_
    case eA =>
      refine eps_cons (ds := [encC ("List", 1), encC ("Num", 0), encC ("Pair", 2)]) (ep_tup ?_ le3) ?_
      · refine ea_cons (d := encC ("List", 1)) ev_C ?_
        refine ea_cons (d := encC ("Num", 0)) ev_C ?_
        refine ea_cons (d := encC ("Pair", 2)) ev_C ?_
        exact ea_nil
      refine eps_cons (ds := [encC ("List", 1), encC ("Num", 0)]) (ep_tup ?_ le2) ?_
      · refine ea_cons (d := encC ("List", 1)) ev_C ?_
        refine ea_cons (d := encC ("Num", 0)) ev_C ?_
        exact ea_nil
      refine eps_cons (ds := [encC ("Num", 0), encC ("Pair", 2)]) (ep_tup ?_ le2) ?_
      · refine ea_cons (d := encC ("Num", 0)) ev_C ?_
        refine ea_cons (d := encC ("Pair", 2)) ev_C ?_
        exact ea_nil
      exact eps_nil
    refine ⟨by rw [pl1.len]; exact (by decide : 3 ≤ sizeLine), fun p1 np1 => ?_⟩
    have n1 : Hc1 p1 = none := g1.cor.sub.free np1
    have G1 : GS [] Hc H Hc1 (upd H1 p1 (.lst us1)) := g1.gs.trans (GS.newO g1.cor np1 id)
    have hs1 := (hs0.gs G1).set 2 (ad_of p1)
    refine h_cons (h_set 2 sc__law_world.nd ?_)
    refine hx_of (pe_op op_cat pe_h pe_h) ?_
    refine pe_at 2 rfl ?_
    refine hx_of (pe_lst pa_h) ?_
    refine EVPs.at (dss := cssB.map fun c => c.map encC) ?eB hs1 fun us2 Hc2 H2 g2 pl2 => ?_
    case eB =>
      refine eps_cons (ds := [encC ("List", 1), encC ("Num", 0), encC ("Unit", 0)]) (ep_tup ?_ le3) ?_
      · refine ea_cons (d := encC ("List", 1)) ev_C ?_
        refine ea_cons (d := encC ("Num", 0)) ev_C ?_
        refine ea_cons (d := encC ("Unit", 0)) ev_C ?_
        exact ea_nil
      refine eps_cons (ds := [encC ("Num", 0)]) (ep_tup ?_ le1) ?_
      · refine ea_cons (d := encC ("Num", 0)) ev_C ?_
        exact ea_nil
      refine eps_cons (ds := [encC ("Box", 1), encC ("List", 1), encC ("Num", 0)]) (ep_tup ?_ le3) ?_
      · refine ea_cons (d := encC ("Box", 1)) ev_C ?_
        refine ea_cons (d := encC ("List", 1)) ev_C ?_
        refine ea_cons (d := encC ("Num", 0)) ev_C ?_
        exact ea_nil
      exact eps_nil
    refine ⟨by rw [pl2.len]; exact (by decide : 3 ≤ sizeLine), fun p2 np2 => ?_⟩
    have k1 : H2 p1 = some (.lst us1) := g2.hh _ _ upd_same
    refine ⟨p1, p2, us1, us2, rfl, rfl, by rw [upd_ne (fun z => by rw [z, np2] at k1; cases k1)]; exact k1, upd_same, by rw [pl1.len, pl2.len]; exact (by decide : 6 ≤ sizeLine), fun r1 nr1 => ?_⟩
    have G2 : GS [] Hc H Hc2 (upd (upd H2 p2 (.lst us2)) r1 (.lst (us1 ++ us2))) := (G1.trans g2.gs).trans ((GS.newO g2.cor np2 id).trans (GS.newO (GS.newO (S := []) g2.cor np2 (o := .lst us2) id).cor nr1 id))
    have hs2 := (hs1.gs ((g2.gs (S := [])).trans ((GS.newO g2.cor np2 id).trans (GS.newO (GS.newO (S := []) g2.cor np2 (o := .lst us2) id).cor nr1 (o := .lst (us1 ++ us2)) id)))).set 2 (ad_of r1)
    refine h_cons (h_set 2 sc__law_world.nd ?_)
    refine hx_of (pe_op op_cat pe_h pe_h) ?_
    refine pe_at 2 rfl ?_
    refine hx_of (pe_lst pa_h) ?_
    refine EVPs.at (dss := cssC.map fun c => c.map encC) ?eC hs2 fun us3 Hc3 H3 g3 pl3 => ?_
    case eC =>
      refine eps_cons (ds := [encC ("List", 1), encC ("Num", 0), encC ("Pair", 2), encC ("Unit", 0)]) (ep_tup ?_ (Nat.le_of_ble_eq_true rfl)) ?_
      · refine ea_cons (d := encC ("List", 1)) ev_C ?_
        refine ea_cons (d := encC ("Num", 0)) ev_C ?_
        refine ea_cons (d := encC ("Pair", 2)) ev_C ?_
        refine ea_cons (d := encC ("Unit", 0)) ev_C ?_
        exact ea_nil
      refine eps_cons (ds := [encC ("List", 1), encC ("Num", 0), encC ("Pair", 2)]) (ep_tup ?_ le3) ?_
      · refine ea_cons (d := encC ("List", 1)) ev_C ?_
        refine ea_cons (d := encC ("Num", 0)) ev_C ?_
        refine ea_cons (d := encC ("Pair", 2)) ev_C ?_
        exact ea_nil
      exact eps_nil
    refine ⟨by rw [pl3.len]; exact (by decide : 2 ≤ sizeLine), fun p3 np3 => ?_⟩
    have k2 : H3 r1 = some (.lst (us1 ++ us2)) := g3.hh _ _ upd_same
    refine ⟨r1, p3, us1 ++ us2, us3, rfl, rfl, by rw [upd_ne (fun z => by rw [z, np3] at k2; cases k2)]; exact k2, upd_same, by rw [List.length_append, pl1.len, pl2.len, pl3.len]; exact (by decide : 8 ≤ sizeLine), fun R nR => ?_⟩
    have G3 : GS [] Hc H Hc3 (upd (upd H3 p3 (.lst us3)) R (.lst (us1 ++ us2 ++ us3))) := (G2.trans g3.gs).trans ((GS.newO g3.cor np3 id).trans (GS.newO (GS.newO (S := []) g3.cor np3 (o := .lst us3) id).cor nR id))
    have hs3 := (hs2.gs ((g3.gs (S := [])).trans ((GS.newO g3.cor np3 id).trans (GS.newO (GS.newO (S := []) g3.cor np3 (o := .lst us3) id).cor nR (o := .lst (us1 ++ us2 ++ us3)) id)))).set 2 (ad_of R)
    have nHR : Hc3 R = none := (GS.newO (S := []) g3.cor np3 (o := .lst us3) id).cor.sub.free nR
    have pl : PlAll K Hc3 (us1 ++ us2 ++ us3) (((cssA ++ cssB) ++ cssC).map fun c => c.map encC) := by
      rw [List.map_append, List.map_append]
      exact (((pl1.same g2.cc).same g3.cc).app (pl2.same g3.cc)).app pl3
    have hR3 : (upd (upd H3 p3 (.lst us3)) R (.lst (us1 ++ us2 ++ us3))) R = some (.lst (us1 ++ us2 ++ us3)) := upd_same
    have tw3 : Twn T xs.length n (upd (upd H3 p3 (.lst us3)) R (.lst (us1 ++ us2 ++ us3))) := tw.same G3.grow.hh
    have ht3 : Hc3 T = none := G3.nw T tw.ne ht
    have neRT : R ≠ T := fun z => by
      obtain ⟨ys, h1, _⟩ := tw.same ((GS.trans G2 g3.gs).trans (GS.newO (S := []) g3.cor np3 (o := .lst us3) id)).grow.hh
      rw [z, h1] at nR
      cases nR
    generalize (upd (upd H3 p3 (.lst us3)) R (.lst (us1 ++ us2 ++ us3))) = H4 at *
    generalize hus : us1 ++ us2 ++ us3 = us at *
    have hlen : us.length = 8 := by
      rw [pl.len]
      rfl
    -- the traits
    have D4 := dz_base hs3 tw3 ht3
    refine h_cons (hs_mono (SVz.at (Z := { nx := fun e m => m = n ∧ e = [some (.dat (scrD xs)), some (.dat (twM T)), some (.dat (adM R)), some (.own (.list [])), some (.own (.list [])), none, none, none, none], rt := fun _ _ => False }) (n := n) ?z4 ⟨Hc3, D4⟩) (fun σ' H' hz => ?_) (fun v H' hz => ?_) (fun σ' H' hz => ?_) (fun σ' H' hz => ?_))
    case z4 => exact svz_of (sv_par2N (i := 3) (j := 4) (ds := []) (es := []) rfl sc__law_world.nd rfl rfl (by decide) (ev_lst ea_nil (Nat.zero_le _)) (ev_lst ea_nil (Nat.zero_le _)) ⟨rfl, rfl⟩)
    · obtain ⟨e, n4, ⟨Hc4, q4⟩, rfl, rfl⟩ := hz
      refine h_cons (hs_mono (SVz.at (Z := { nx := fun e m => ∃ (i : Nat) (ts : List (Str × Str × List Str)) (ear : D) (a b c d : Option Sl), 1 ≤ i ∧ i ≤ 3 ∧ GoodTs i ts ∧ m ≤ n4 + 12 ∧ e = [some (.dat (scrD xs)), some (.dat (twM T)), some (.dat (adM R)), some (.own (.list (ts.map encT))), some (.own ear), a, b, c, d], rt := fun _ _ => False }) (n := n4) ?z5 ⟨Hc4, q4⟩) (fun σ5 H5 hz => ?_) (fun v H' hz => ?_) (fun σ' H' hz => ?_) (fun σ' H' hz => ?_))
      case z5 =>
        refine svz_forz (c := 0 + 1) (Ps := fun ds => ∃ j : Nat, 1 ≤ j ∧ j ≤ 3 ∧ ds = (nm3.take j).map PyData.str) (t := .one 5) (fun ds i env' m' => ∃ (ts : List (Str × Str × List Str)) (a b c d : Option Sl), GoodTs i ts ∧ i ≤ 3 ∧ m' ≤ n4 + 1 + 3 * i ∧ env' = [some (.dat (scrD xs)), some (.dat (twM T)), some (.dat (adM R)), some (.own (.list (ts.map encT))), some (.own (.list ((nm3.take i).map PyData.str))), a, b, c, d]) PassesOwn.never rfl ?_ (by omega) (fun ds hds => ⟨[], none, none, none, none, GoodTs.nil, by omega, by omega, rfl⟩) (fun ds hds d hd => t_one 5 sc__law_world.nd) ?_ ?_
        · refine ivz_take (ds := nm3.map PyData.str) ?_ ?_
          · refine EVn.toD ?_
            refine ev_lst ?_ le3
            exact ea_cons ev_str (ea_cons ev_str (ea_cons ev_str ea_nil))
          · refine ez_add (i := 1) ev_int ?_
            refine ez_call D1 (hr.mono (by omega)) rfl (ezs_d (ev_v 0 rfl) (ezs_d (ev_v 1 rfl) (ezs_d (d := .int ((3 : Nat) : Int)) ev_int (ezs_nil ⟨⟨xs, 3, hx, rfl, by decide, by decide, rfl⟩, fun d hd => ?_⟩))))
            obtain ⟨j, h1, h2⟩ := hd _ _ _ rfl
            refine ⟨(j : Int), h2, j + 1, by rw [Int.natCast_add]; exact congrArg PyData.int (Int.add_comm _ _), j + 1, by omega, by omega, ?_⟩
            match j, h1 with
            | 0, _ => rfl
            | 1, _ => rfl
            | 2, _ => rfl
        · rintro ds ⟨j, hj1, hj3, rfl⟩ i d _ m' hi ⟨ts, a, b, c, dd, g, h3, h4, rfl⟩
          rw [List.getElem?_map] at hi
          obtain ⟨x, hx0, rfl⟩ := Option.map_eq_some_iff.mp hi
          have hij : i < j := by
            have := (List.getElem?_eq_some_iff.mp hx0).1
            rw [List.length_take] at this
            omega
          have hx1 : nm3[i]? = some x := by
            rw [List.getElem?_take] at hx0
            rw [if_pos hij] at hx0
            exact hx0
          have hle : (nm3.take i).length ≤ 2 := by
            rw [List.length_take]
            omega
          refine svz_cons (svz_setA (i := 6) (c := (nm3.take i).length * (0 + 1 + 0)) (P := fun d => ∃ l : List Str, l.Sublist (nm3.take i) ∧ d = .tuple ((sortL l).map PyData.str)) sc__law_world.nd rfl (by first | exact Or.inl rfl | exact Or.inr rfl) ?_ ?_ (by omega) fun d hd => ?_)
          · refine ez_tuple (ez_n (Ps := fun ds => ∃ l : List Str, l.Sublist (nm3.take i) ∧ ds = (sortL l).map PyData.str) ?_ ?_) rfl B.tuple
            · refine ezn_sorted (ez_n (Ps := fun ds => ∃ l : List Str, l.Sublist (nm3.take i) ∧ ds = l.map PyData.str) ?_ ?_) rfl B.sorted
              · refine ezn_lc (xs := nm3.take i) (enc := PyData.str) (c1 := 0 + 1) (c2 := 0) (own := [("_law_one", 8)]) (fun i' acc => ∃ l : List Str, l.Sublist ((nm3.take i).take i') ∧ acc = l.map PyData.str) rfl sc__law_world.nd (blkOk_by (N := N__law_world) (sc := defScope (top 88)) (by decide +kernel)) (iv_list (ev_v 4 rfl)) (Nat.le_trans hle (by decide)) ⟨[], List.nil_sublist _, rfl⟩ ?_ ?_
                · intro i' y hy
                  refine ⟨_, [8], fun _ => True, fun d => d = .str y, fun j hj => by simpa using hj, blk_one (fun _ _ _ _ _ => g_one 8 sc__law_world.nd), fun _ _ _ _ _ => ?_, fun _ _ _ _ _ _ => ez_d (ev_v 8 rfl) rfl, fun acc ⟨l, k1, k2⟩ _ => ⟨l, (sub_snoc k1 hy).1, k2⟩, fun acc z ⟨l, k1, k2⟩ _ hz => ⟨by rw [hz]; rfl, l ++ [y], (sub_snoc k1 hy).2, by rw [k2, hz, List.map_append]; rfl⟩⟩
                  refine ezts_one (ezt_eqI (ez_call D1 (hr.mono (by omega)) rfl (ezs_d (ev_v 0 rfl) (ezs_d (ev_v 1 rfl) (ezs_d (d := .int ((3 : Nat) : Int)) ev_int (ezs_nil ⟨⟨xs, 3, hx, rfl, by decide, by decide, rfl⟩, fun d hd => ?_⟩))))) ev_int)
                  obtain ⟨k, _, h9⟩ := hd _ _ _ rfl
                  exact ⟨_, h9⟩
                · intro ds hds _
                  rw [List.take_length] at hds
                  exact hds
              · rintro ds ⟨l, k1, rfl⟩
                refine ⟨_, rfl, ?_, ?_, ?_, l, k1, sortL_data l⟩
                · intro a ha b hb
                  obtain ⟨u, _, rfl⟩ := List.mem_map.mp ha
                  obtain ⟨v, _, rfl⟩ := List.mem_map.mp hb
                  rfl
                · refine .inr fun a ha => ?_
                  obtain ⟨u, _, rfl⟩ := List.mem_map.mp ha
                  exact ⟨(fun z => nomatch z), (fun _ z => nomatch z)⟩
                · intro a ha
                  obtain ⟨u, _, rfl⟩ := List.mem_map.mp ha
                  have h7 := hr.u 100
                  show (A.deeper _).units + 2 + (PyData.str u).depth < cLine
                  simp only [PyData.depth]
                  omega
            · rintro ds ⟨l, k1, rfl⟩
              exact ⟨_, rfl, l, k1, rfl⟩
          · rintro d ⟨l, _, rfl⟩
            show noL (.tuple _) = true
            rw [noL]
            exact noLs_strs _
          obtain ⟨l, hl, rfl⟩ := hd
          refine svz_cons (svz_set (i := 7) (c := 0 + (0 + 1) + 0) (P := fun d => ∃ fo : Str, (fo = "tell" ∨ fo = "make") ∧ d = .str fo) sc__law_world.nd rfl (by first | exact Or.inl rfl | exact Or.inr rfl) ?_ (by omega) fun d hd => ?_)
          · refine ez_if (Pb := fun _ => True) (EVzw.tst (ezw_or (c1 := 0) (c2 := 0 + 1) (Pa := fun _ => True) (ezt_t (et_c (ec_eqS (ev_v 5 rfl) ev_str)) trivial) (fun _ => ezw_or1 (ezt_eqI (ez_call D1 (hr.mono (by omega)) rfl (ezs_d (ev_v 0 rfl) (ezs_d (ev_v 1 rfl) (ezs_d (d := .int ((6 : Nat) : Int)) ev_int (ezs_nil ⟨⟨xs, 6, hx, rfl, by decide, by decide, rfl⟩, fun d hd => ?_⟩))))) ev_int)) (fun _ => trivial))) (fun _ => ez_d ev_str ⟨_, .inr rfl, rfl⟩) (fun _ => ez_d ev_str ⟨_, .inl rfl, rfl⟩)
            obtain ⟨k, _, h9⟩ := hd _ _ _ rfl
            exact ⟨_, h9⟩
          obtain ⟨fo, hfo, rfl⟩ := hd
          have hts : ts.length ≤ 3 := by
            have := congrArg List.length g.nm
            rw [List.length_map, List.length_take] at this
            omega
          refine svz_step (sv_append (pe_bm PySem.F.plainAttrs_list PySem.F.slot_list_append PySem.F.type_list_append mt_append (pv 3) (pa_cons pe_w pa_nil)) rfl (d := encT (x, fo, sortL l)) ?_ ?_ ?_ ?_)
          · refine ev_tup ?_ le3
            refine ea_cons (d := .str x) (ev_v 5 rfl) ?_
            refine ea_cons (d := .str fo) (ev_v 7 rfl) ?_
            refine ea_cons (d := .tuple ((sortL l).map PyData.str)) (ev_v 6 rfl) ea_nil
          · show noL (.tuple [.str x, .str fo, .tuple ((sortL l).map PyData.str)]) = true
            simp [noL, noLs, noLs_strs]
          · rw [List.length_map]
            exact Nat.lt_of_le_of_lt hts (by decide)
          refine svz_one (svz_of (sv_append (pe_bm PySem.F.plainAttrs_list PySem.F.slot_list_append PySem.F.type_list_append mt_append (pv 4) (pa_cons pe_w pa_nil)) rfl (d := .str x) (ev_v 5 rfl) rfl ?_ ?_))
          · rw [List.length_map]
            exact Nat.lt_of_le_of_lt hle (by decide)
          · refine ⟨ts ++ [(x, fo, sortL l)], some (.dat (.str x)), some (.dat (.tuple ((sortL l).map PyData.str))), some (.dat (.str fo)), dd, g.snoc hx1 hfo hl, by omega, by omega, ?_⟩
            have e1 : (ts ++ [(x, fo, sortL l)]).map encT = ts.map encT ++ [encT (x, fo, sortL l)] := by rw [List.map_append]; rfl
            have e2 : (nm3.take (i + 1)).map PyData.str = (nm3.take i).map PyData.str ++ [.str x] := by
              rw [List.take_succ, hx1, List.map_append]
              rfl
            rw [e1, e2]
            rfl
        · rintro ds ⟨j, h1, h2, rfl⟩ env' m' ⟨ts, a, b, c, d, g, h3, h4, rfl⟩
          have e1 : ((nm3.take j).map PyData.str).length = j := by
            rw [List.length_map, List.length_take]
            have : nm3.length = 3 := rfl
            omega
          rw [e1] at g h4
          exact ⟨j, ts, _, a, b, c, d, h1, h2, g, by omega, rfl⟩
      · obtain ⟨e, m5, ⟨Hc5, q5⟩, i, ts, ear, a, b, c, d, hi1, hi3, g, hm, rfl⟩ := hz
        obtain ⟨v0, hs0, p0⟩ := q5.dat 0 _ rfl
        obtain ⟨v1, hs1, p1⟩ := q5.dat 1 _ rfl
        obtain ⟨v2, hs2, p2⟩ := q5.dat 2 _ rfl
        obtain ⟨At, o, hs3, hA0, hAc, hA, hTO⟩ := q5.own 3 _ rfl
        have e1 := ad_ref p1
        have e2 := ad_ref p2
        subst e1 e2
        cases hTO with
        | @lst ys _ hts =>
        have hR5 : H5 R = some (.lst us) := q5.gr.hh R _ neRT hR3
        have neAT : At ≠ T := fun z => q5.h0t (by rw [← z]; exact hA0)
        obtain ⟨fp, fdp, hmp, hkp, hbp, okp⟩ := D2.ex
        refine h_one (h_ret (hx_of (pe_tup pa_h) ?_))
        refine ha_cons (hx_of (pe_call okp (hr.mono (by omega)) rfl hmp hkp hbp .nil pass0 pa_h) ?_)
        refine ha_cons (pe_at 0 hs0 (ha_cons (pe_at 1 hs1 (ha_cons (pe_at 2 hs2 (ha_nil ?_))))))
        refine ⟨T, R, m5, Hc5, xs, v0, us, rfl, q5.gr.cor, p0, hx, q5.tw, q5.hct, by omega, hR5, by omega, by rw [hlen]; decide, neRT, fun v Hc6 H6 g6 t6 hv => ?_⟩
        obtain ⟨cs, hcs, hpl⟩ := (pl.same (q5.gr.cc.trans g6.cc)).mem hv
        obtain ⟨c0, hc0, rfl⟩ := List.mem_map.mp hcs
        refine ha_cons (hx_of (pe_callTy call_tuple_of rfl B.tuple (by decide +kernel) (pa_cons pe_h pa_nil)) ?_)
        refine pe_at 3 hs3 ⟨At, ys, rfl, .inl ⟨SqL.of (g6.hh At _ neAT hA), fun l nl => ha_nil ⟨(by decide : 2 ≤ sizeLine), fun p np => ?_⟩⟩⟩
        obtain ⟨bb, ob, yb, rfl, hb1, hb2, hb3⟩ := hpl
        have g7 := Grow.new (o := .tup ys) g6.cor nl
        have g8 := Grow.new (o := .tup [.ref bb, .ref l]) g7.cor np
        have G := (((G3.grow.tt (T := T)).trans q5.gr tw3.ne).trans g6 q5.tw.ne).trans ((g7.trans g8).tt (T := T)) t6.ne
        have hts' := (((hts.same g6.cc).same g7.cc).same g8.cc)
        exact q (.ref p) (W ⟨c0, ts⟩) _ _ G (((t6.same g7.hh).same g8.hh).le (by omega)) ⟨p, bb, .ref l, yb, ob, c0.map encC, .tuple (ts.map encT), rfl, .inl (.inl upd_same), g8.cc _ _ (g7.cc _ _ hb1), hb2, ((hb3.same g7.cc).same g8.cc), L2.Dp.tup (.inl (.inl (g8.cc _ _ upd_same))) hts', rfl⟩ ⟨_, small_of g hi1 hi3 hc0, rfl⟩
      · obtain ⟨_, _, _, z⟩ := hz
        exact z.elim
      · obtain ⟨_, _, _, z⟩ := hz
        exact z.elim
      · obtain ⟨_, _, _, z⟩ := hz
        exact z.elim
    · obtain ⟨_, _, _, z⟩ := hz
      exact z.elim
    · obtain ⟨_, _, _, z⟩ := hz
      exact z.elim
    · obtain ⟨_, _, _, z⟩ := hz
      exact z.elim
end
end Tr
set_option Elab.async false
set_option linter.all false
set_option maxRecDepth 100000
set_option maxHeartbeats 1000000
set_option autoImplicit false
/-! DH2: a bench on the heap -/
namespace Tr
open PySem PySem.Spec PyProof.Rows L2 DL
inductive Op where
  | add (i : Inst)
  | drop (n : Nat)
def Op.nm : Op → Str
  | .add _ => "add"
  | .drop _ => "drop"
def encOp : Op → D
  | .add i => .tuple [.str "add", encI i]
  | .drop n => .tuple [.str "drop", .int (n : Nat)]
def encU (p : Op × List Inst) : D := .tuple [encOp p.1, encIs p.2]
structure BSt where
  old : List (List Inst)
  cur : List Inst
  ops : List Op
  und : List (Op × List Inst)
def okOp (v : Wd) : Op → Prop
  | .add i => OkI v i
  | .drop _ => True
def okSet (v : Wd) (is : List Inst) : Prop := is.length ≤ 8 ∧ ∀ i ∈ is, OkI v i
structure BOk (v : Wd) (s : BSt) : Prop where
  sm : Small v
  c : okSet v s.cur
  o : ∀ is ∈ s.old, okSet v is
  u : ∀ p ∈ s.und, okSet v p.2
  p : ∀ op ∈ s.ops, okOp v op
  q : ∀ p ∈ s.und, okOp v p.1
  len : s.old.length = s.ops.length
  z : s.old.length + s.und.length ≤ 1000
def nw : BSt := ⟨[], [], [], []⟩
theorem nw_ok {v : Wd} (sm : Small v) : BOk v nw := ⟨sm, ⟨Nat.zero_le _, fun _ h => nomatch h⟩, (fun _ h => nomatch h), (fun _ h => nomatch h), (fun _ h => nomatch h), (fun _ h => nomatch h), rfl, by show 0 + 0 ≤ 1000; omega⟩
/-- the bench at b: its fields, what they hold -/
structure BnA (K : PySem.W.Frag) (C : Addr) (Hc H : Hp) (b dx bs bd bu : Addr) (v : Wd) (s : BSt) : Prop where
  ok : BOk v s
  ins : ∃ wv, H b = some (.ins C dx [("world", wv), ("states", .ref bs), ("done", .ref bd), ("undone", .ref bu)]) ∧ Dq K Hc wv (W v)
  ls : ∃ xs, H bs = some (.lst xs) ∧ DpAll K Hc xs ((s.old ++ [s.cur]).map encIs)
  ld : ∃ xs, H bd = some (.lst xs) ∧ DpAll K Hc xs (s.ops.map encOp)
  lu : ∃ xs, H bu = some (.lst xs) ∧ DpAll K Hc xs (s.und.map encU)
  cb : Hc b = none
  cs : Hc bs = none
  cd : Hc bd = none
  cu : Hc bu = none
  sd : bs ≠ bd
  su : bs ≠ bu
  du : bd ≠ bu
section
variable {K : PySem.W.Frag} {C b dx bs bd bu : Addr} {Hc H Hc1 H1 : Hp} {v : Wd} {s : BSt} {S : List Addr}
theorem BnA.gs (h : BnA K C Hc H b dx bs bd bu v s) (g : GS S Hc H Hc1 H1) (n1 : b ∉ S) (n2 : bs ∉ S) (n3 : bd ∉ S) (n4 : bu ∉ S) : BnA K C Hc1 H1 b dx bs bd bu v s := by
  obtain ⟨wv, i1, i2⟩ := h.ins
  obtain ⟨xs, s1, s2⟩ := h.ls
  obtain ⟨ys, d1, d2⟩ := h.ld
  obtain ⟨zs, u1, u2⟩ := h.lu
  exact ⟨h.ok, ⟨wv, g.hh _ _ n1 i1, i2.same g.cc⟩, ⟨xs, g.hh _ _ n2 s1, s2.same g.cc⟩, ⟨ys, g.hh _ _ n3 d1, d2.same g.cc⟩, ⟨zs, g.hh _ _ n4 u1, u2.same g.cc⟩, g.nw _ (some_ne i1) h.cb, g.nw _ (some_ne s1) h.cs, g.nw _ (some_ne d1) h.cd, g.nw _ (some_ne u1) h.cu, h.sd, h.su, h.du⟩
theorem BnA.grow (h : BnA K C Hc H b dx bs bd bu v s) (g : Grow Hc H Hc1 H1) : BnA K C Hc1 H1 b dx bs bd bu v s := h.gs (g.gs (S := [])) (fun z => nomatch z) (fun z => nomatch z) (fun z => nomatch z) (fun z => nomatch z)
theorem BnA.bne (h : BnA K C Hc H b dx bs bd bu v s) : b ≠ bs ∧ b ≠ bd ∧ b ≠ bu := by
  obtain ⟨wv, i1, i2⟩ := h.ins
  obtain ⟨xs, s1, s2⟩ := h.ls
  obtain ⟨ys, d1, d2⟩ := h.ld
  obtain ⟨zs, u1, u2⟩ := h.lu
  refine ⟨fun z => ?_, fun z => ?_, fun z => ?_⟩
  · rw [z, s1] at i1; cases i1
  · rw [z, d1] at i1; cases i1
  · rw [z, u1] at i1; cases i1
end
/-- the class's facts -/
structure BC (K : PySem.W.Frag) (mg : Str → Option Value) (C : Addr) : Prop where
  mgC : mg "Bench" = some (.ref C)
  cl : Cls K C
  nW : NoAttr K C "world"
  nS : NoAttr K C "states"
  nD : NoAttr K C "done"
  nU : NoAttr K C "undone"
/-- a method that stands in the class -/
def HasM (K : PySem.W.Frag) (C : Addr) (m qual : Str) (st : Stmt) : Prop := ∃ f fd, FunD K m qual (defArgs st) (defBody st) (defScope st) [] [] f fd ∧ Meth K C m f
structure MthK (P : Program) (w : World) (K : PySem.W.Frag) (mg : Str → Option Value) (base : Heap) (CX : CXT) (C : Addr) (m : Str) (k : Nat) (ps : List Str) (sp : Sp) : Prop where
  ex : ∃ f fd, Meth K C m f ∧ PySem.W.keepIn K (.ref f) = true ∧ Binds K fd ps [] ∧ FnOk P w K mg base CX k f fd ps sp
theorem mth_mk {P : Program} {w : World} {K : PySem.W.Frag} {mg : Str → Option Value} {base : Heap} {CX : CXT} {C : Addr} {m qual : Str} {st : Stmt} {k : Nat} {ps : List Str} {sp : Sp} (H : HasM K C m qual st)
    (h : ∀ (kV doc pm : Value) (an : Option Addr) (cdv ct : Value) (us : List Value), us.length = ps.length → bindArgs (PySem.W.fnOf m qual (defArgs st) (defBody st) (defScope st) .none kV doc pm an cdv ct) ⟨us, []⟩ = pure (ps.zip us))
    (ok : ∀ f fd, FunD K m qual (defArgs st) (defBody st) (defScope st) [] [] f fd → FnOk P w K mg base CX k f fd ps sp) : MthK P w K mg base CX C m k ps sp := by
  obtain ⟨f, fd, F, hm⟩ := H
  exact ⟨f, fd, hm, F.kp, F.bindsN h, ok f fd F⟩
section
variable {X : Cx} {C : Addr} {e o : Expr} {es : List Expr} {pos p p1 p2 p3 p4 p5 apos : Pos} {σ : L2.St} {H : Hp} {Q : VK} {Hc : Hp} {b dx bs bd bu : Addr} {v : Wd} {s : BSt} {j : Option Str}
/-- a field of the bench in slot i -/
theorem h_fld (i : Nat) {x f : Str} {y : V} {fs : List (Str × V)} (hv : σ[i]? = some (some (.ref b))) (hb : H b = some (.ins C dx fs)) (cl : Cls X.K C) (n : NoAttr X.K C f) (hl : fs.lookup f = some y) (q : Q y H) (hN : X.N[i]? = some x := by rfl)
    (ha : attributeBase (.Name x p) f X.env (eval (.Name x p) X.env) = eval (.Name x p) X.env := by rfl) (hvs : Vis X.env.scope x := by first | exact Or.inl rfl | exact Or.inr (Or.inl rfl) | exact Or.inr (Or.inr rfl)) (hd : (x == ("__debug__" : Str)) = false := by decide) (hcd : (x == ("__classdict__" : Str)) = false := by decide) : HX X (.Attribute (.Name x p) f pos) σ H Q :=
  hx_of (pe_fld pe_h ha) (pe_at i hv ⟨b, C, dx, fs, y, rfl, hb, cl, n, hl, q⟩ hN hvs hd hcd)
theorem h_world (i : Nat) {x : Str} (hv : σ[i]? = some (some (.ref b))) (B : BC X.K X.mg C) (h : BnA X.K C Hc H b dx bs bd bu v s) (q : ∀ wv, Dq X.K Hc wv (W v) → Q wv H) (hN : X.N[i]? = some x := by rfl)
    (ha : attributeBase (.Name x p) "world" X.env (eval (.Name x p) X.env) = eval (.Name x p) X.env := by rfl) (hvs : Vis X.env.scope x := by first | exact Or.inl rfl | exact Or.inr (Or.inl rfl) | exact Or.inr (Or.inr rfl)) (hd : (x == ("__debug__" : Str)) = false := by decide) (hcd : (x == ("__classdict__" : Str)) = false := by decide) : HX X (.Attribute (.Name x p) "world" pos) σ H Q := by
  obtain ⟨wv, h1, h2⟩ := h.ins
  exact h_fld i hv h1 B.cl B.nW rfl (q wv h2) hN ha hvs hd hcd
theorem h_states (i : Nat) {x : Str} (hv : σ[i]? = some (some (.ref b))) (B : BC X.K X.mg C) (h : BnA X.K C Hc H b dx bs bd bu v s) (q : Q (.ref bs) H) (hN : X.N[i]? = some x := by rfl)
    (ha : attributeBase (.Name x p) "states" X.env (eval (.Name x p) X.env) = eval (.Name x p) X.env := by rfl) (hvs : Vis X.env.scope x := by first | exact Or.inl rfl | exact Or.inr (Or.inl rfl) | exact Or.inr (Or.inr rfl)) (hd : (x == ("__debug__" : Str)) = false := by decide) (hcd : (x == ("__classdict__" : Str)) = false := by decide) : HX X (.Attribute (.Name x p) "states" pos) σ H Q := by
  obtain ⟨wv, h1, h2⟩ := h.ins
  exact h_fld i hv h1 B.cl B.nS rfl q hN ha hvs hd hcd
theorem h_done (i : Nat) {x : Str} (hv : σ[i]? = some (some (.ref b))) (B : BC X.K X.mg C) (h : BnA X.K C Hc H b dx bs bd bu v s) (q : Q (.ref bd) H) (hN : X.N[i]? = some x := by rfl)
    (ha : attributeBase (.Name x p) "done" X.env (eval (.Name x p) X.env) = eval (.Name x p) X.env := by rfl) (hvs : Vis X.env.scope x := by first | exact Or.inl rfl | exact Or.inr (Or.inl rfl) | exact Or.inr (Or.inr rfl)) (hd : (x == ("__debug__" : Str)) = false := by decide) (hcd : (x == ("__classdict__" : Str)) = false := by decide) : HX X (.Attribute (.Name x p) "done" pos) σ H Q := by
  obtain ⟨wv, h1, h2⟩ := h.ins
  exact h_fld i hv h1 B.cl B.nD rfl q hN ha hvs hd hcd
theorem h_undone (i : Nat) {x : Str} (hv : σ[i]? = some (some (.ref b))) (B : BC X.K X.mg C) (h : BnA X.K C Hc H b dx bs bd bu v s) (q : Q (.ref bu) H) (hN : X.N[i]? = some x := by rfl)
    (ha : attributeBase (.Name x p) "undone" X.env (eval (.Name x p) X.env) = eval (.Name x p) X.env := by rfl) (hvs : Vis X.env.scope x := by first | exact Or.inl rfl | exact Or.inr (Or.inl rfl) | exact Or.inr (Or.inr rfl)) (hd : (x == ("__debug__" : Str)) = false := by decide) (hcd : (x == ("__classdict__" : Str)) = false := by decide) : HX X (.Attribute (.Name x p) "undone" pos) σ H Q := by
  obtain ⟨wv, h1, h2⟩ := h.ins
  exact h_fld i hv h1 B.cl B.nU rfl q hN ha hvs hd hcd
/-- the last item of a list -/
theorem last_dp {K : PySem.W.Frag} {xs : List V} {l : List D} {d : D} (h : DpAll K Hc xs (l ++ [d])) : ∃ y, atI xs (-1) = some y ∧ Dp K Hc y d := atI_dp h (atI_last l d)
theorem h_ixm1 {o : Expr} (h : HX X o σ H fun x H1 => ∃ (p : Addr) (xs : List V) (y : V), x = .ref p ∧ H1 p = some (.lst xs) ∧ atI xs (-1) = some y ∧ Q y H1) {k} : HX X (.Subscript o (.UnaryOp .USub (.Constant (.int 1) k p3) p4) p5) σ H Q :=
  ⟨wx_of (pe_ix ix_list pe_w (pe_un un_neg pe_int) (fun _ _ => rfl)) (wx_mono h.r fun x H1 hx => by
    obtain ⟨p, xs, y, rfl, h1, h2, q⟩ := hx
    exact ⟨1, rfl, p, xs, -1, y, rfl, rfl, SqL.of h1, h2, q⟩)⟩
/-- b.states[-1] -/
theorem h_cur (i : Nat) {x : Str} (hv : σ[i]? = some (some (.ref b))) (B : BC X.K X.mg C) (h : BnA X.K C Hc H b dx bs bd bu v s) (q : ∀ y, Dp X.K Hc y (encIs s.cur) → Q y H) {k} (hN : X.N[i]? = some x := by rfl)
    (ha : attributeBase (.Name x p) "states" X.env (eval (.Name x p) X.env) = eval (.Name x p) X.env := by rfl) (hvs : Vis X.env.scope x := by first | exact Or.inl rfl | exact Or.inr (Or.inl rfl) | exact Or.inr (Or.inr rfl)) (hd : (x == ("__debug__" : Str)) = false := by decide) (hcd : (x == ("__classdict__" : Str)) = false := by decide) :
    HX X (.Subscript (.Attribute (.Name x p) "states" p2) (.UnaryOp .USub (.Constant (.int 1) k p3) p4) p5) σ H Q := by
  refine h_ixm1 (h_states i hv B h ?_ hN ha hvs hd hcd)
  obtain ⟨xs, h1, h2⟩ := h.ls
  rw [List.map_append] at h2
  obtain ⟨y, h3, h4⟩ := last_dp h2
  exact ⟨bs, xs, y, rfl, h1, h3, q y h4⟩
/-- a def over data called, its arguments by hand -/
theorem h_callD {x : Str} {k : Nat} {ps : List Str} {spec : List D → D → Prop} (F : DefD X.prog X.w X.K X.mg X.base x k ps spec) (hr : Room k X.A) (hg : Gl X x) (ha : HA X (e :: es) σ H fun vs H1 => ∃ Hc1 ds d, Cor Hc1 H1 ∧ DqAll X.K Hc1 vs ds ∧ spec ds d ∧ ∀ v Hc2 H2, Grow Hc1 H1 Hc2 H2 → Dq X.K Hc2 v d → Q v H2)
    (hdb : (x == ("__debug__" : Str)) = false := by decide) (he : starEach (e :: es) X.env = (false, eval e X.env) :: starEach es X.env := by rfl) (hpl : (backTo pos (starEach es X.env)).any (·.1) = false := by rfl) : HX X (.Call (.Name x p) (e :: es) [] pos) σ H Q := by
  obtain ⟨f, fd, hm, hk, hb, ok⟩ := F.ex
  refine hx_of (pe_call ok hr hg hm hk hb .nil pass0 pa_w hdb he hpl) ?_
  intro pos' pins s I
  refine thn (ha.r pos' pins s I) fun us s1 ⟨vs, H1, I1, r, Hc1, ds, d, c, hd, hs, q⟩ => ⟨vs, H1, I1, r, ?_⟩
  show spD X.K spec (vs ++ []) H1 Q E0
  rw [List.append_nil]
  exact ⟨Hc1, ds, d, c, hd, hs, q⟩
end
end Tr
set_option Elab.async false
set_option linter.all false
set_option maxRecDepth 100000
set_option maxHeartbeats 1000000
set_option autoImplicit false
/-! W25: the bench's methods that only tell -/
namespace Tr
open PySem PySem.Spec PyProof.Rows L2 DL
/-- a method that changes nothing; the caller names the answer -/
def spBR (K : PySem.W.Frag) (C : Addr) (spec : Wd → BSt → List D → D → Prop) : Sp := fun vs H Q _ => ∃ (Hc : Hp) (b dx bs bd bu : Addr) (v : Wd) (s : BSt) (us : List V) (ds : List D) (d : D), vs = .ref b :: us ∧ Cor Hc H ∧ BnA K C Hc H b dx bs bd bu v s ∧ DqAll K Hc us ds ∧ spec v s ds d ∧
  ∀ r Hc1 H1, Grow Hc H Hc1 H1 → Dq K Hc1 r d → Q r H1
section
variable {P : Program} {w : World} {K : PySem.W.Frag} {mg : Str → Option Value} {base : Heap} {C : Addr}
theorem fn_BR {x qual : Str} {params : Arguments} {body : List Stmt} {scope : Scope} {f : Addr} {fd : FuncData} {N ps : List Str} {k : Nat} {spec : Wd → BSt → List D → D → Prop}
    (F : FunD K x qual params body scope [] [] f fd) (S : FnScope N ps scope) (hl : ∀ v s ds d, spec v s ds d → ds.length + 1 = ps.length)
    (hb : ∀ (cdv : Value) (A : Around) (outer : List Env) (s0 : Shared) (H : Hp) (E : XK) (Hc : Hp) (b dx bs bd bu : Addr) (v : Wd) (s : BSt) (us : List V) (ds : List D) (d : D) (Q : VK), Cor Hc H → BnA K C Hc H b dx bs bd bu v s → DqAll K Hc us ds → spec v s ds d → Room k (A.deeper (envOfC qual scope s0.heap.objs.size f cdv)) →
      DSX K Hc (L2.start N (.ref b :: us)) H ((adM b :: ds).map some ++ List.replicate (N.length - (adM b :: ds).length) none) → (∀ r Hc1 H1, Grow Hc H Hc1 H1 → Dq K Hc1 r d → Q r H1) →
      HSs (cxOf CX0 P w K mg base N qual scope f cdv A outer s0 H E).nox body { nx := fun _ H' => Q .non H', rt := Q } (L2.start N (.ref b :: us)) H) : FnOk P w K mg base CX0 (k + 1) f fd ps (spBR K C spec) := by
  refine F.ok S (fun vs H Q E h => ?_) (fun cdv A outer s0 H vs Q E hr h => ?_)
  · obtain ⟨Hc, b, dx, bs, bd, bu, v, s, us, ds, d, rfl, c, hB, pa, hsp, _⟩ := h
    rw [List.length_cons, pa.len]
    exact hl _ _ _ _ hsp
  · obtain ⟨Hc, b, dx, bs, bd, bu, v, s, us, ds, d, rfl, c, hB, pa, hsp, q⟩ := h
    exact ⟨_, PSs.nox pss_h, hb cdv A outer s0 H E Hc b dx bs bd bu v s us ds d Q c hB pa hsp hr (dsx_start c (.cons (ad_of b) pa)) q⟩
abbrev bM (j : Nat) : Stmt := inClass (top 80) j
/-! instances -/
abbrev N_Bi : List Str := ["self"]
theorem sc_Bi : FnScope N_Bi ["self"] (defScope (bM 7)) := ⟨rfl, rfl, rfl, by decide +kernel, rfl, by decide +kernel, by decide +kernel⟩
def spIns (v : Wd) (s : BSt) (ds : List D) (d : D) : Prop := ds = [] ∧ d = encIs s.cur
theorem ok_Bi (C1 : BC K mg C) (F : HasM K C "instances" "Bench.instances" (bM 7)) : MthK P w K mg base CX0 C "instances" 1 ["self"] (spBR K C spIns) := by
  refine mth_mk F (fun _ _ _ _ _ _ us hl => match us, hl with | [_], _ => rfl) fun f fd F => fn_BR F sc_Bi (fun v s ds d h => ?_) fun cdv A outer s0 H E Hc b dx bs bd bu v s us ds d Q c hB pa h hr hs q => ?_
  · obtain ⟨rfl, _⟩ := h
    rfl
  · obtain ⟨rfl, rfl⟩ := h
    exact h_one (h_ret (h_cur 0 rfl C1 hB fun y hy => q y Hc H (Grow.refl c) hy.q))
/-! __len__ -/
abbrev N_Bl : List Str := ["self"]
theorem sc_Bl : FnScope N_Bl ["self"] (defScope (bM 1)) := ⟨rfl, rfl, rfl, by decide +kernel, rfl, by decide +kernel, by decide +kernel⟩
def spLen (v : Wd) (s : BSt) (ds : List D) (d : D) : Prop := ds = [] ∧ d = .int (s.ops.length : Nat)
theorem ok_Bl (B : Blt mg) (C1 : BC K mg C) (F : HasM K C "__len__" "Bench.__len__" (bM 1)) : MthK P w K mg base CX0 C "__len__" 1 ["self"] (spBR K C spLen) := by
  refine mth_mk F (fun _ _ _ _ _ _ us hl => match us, hl with | [_], _ => rfl) fun f fd F => fn_BR F sc_Bl (fun v s ds d h => ?_) fun cdv A outer s0 H E Hc b dx bs bd bu v s us ds d Q c hB pa h hr hs q => ?_
  · obtain ⟨rfl, _⟩ := h
    rfl
  · obtain ⟨rfl, rfl⟩ := h
    refine h_one (h_ret (hx_of (pe_callB call_len rfl B.len PySem.boot_len (pa_cons pe_h pa_nil)) ?_))
    obtain ⟨xs, h1, h2⟩ := hB.ld
    refine h_done 0 rfl C1 hB ⟨_, s.ops.length, rfl, .inl ⟨xs, SqL.of h1, ?_⟩, q _ Hc H (Grow.refl c) (L2.Dp.int _)⟩
    rw [h2.len, List.length_map]
/-! __str__ -/
abbrev N_Bs : List Str := ["self"]
theorem sc_Bs : FnScope N_Bs ["self"] (defScope (bM 3)) := ⟨rfl, rfl, rfl, by decide +kernel, rfl, by decide +kernel, by decide +kernel⟩
def strB (n : Nat) : Str := (Str.empty ++ (toString ((n : Nat) : Int) : Str)) ++ (" instances" : Str)
theorem strB_len : ∀ n < 9, (Str.empty ++ (toString ((n : Nat) : Int) : Str)).length ≤ sizeLine ∧ (strB n).length ≤ sizeLine := by decide +kernel
theorem log9 : ∀ n < 9, ((n : Nat) : Int).natAbs.log2 < 1920 := by decide +kernel
def spStr (v : Wd) (s : BSt) (ds : List D) (d : D) : Prop := ds = [] ∧ d = .str (strB s.cur.length)
theorem ok_Bs (B : Blt mg) (C1 : BC K mg C) (F : HasM K C "__str__" "Bench.__str__" (bM 3)) : MthK P w K mg base CX0 C "__str__" 1 ["self"] (spBR K C spStr) := by
  refine mth_mk F (fun _ _ _ _ _ _ us hl => match us, hl with | [_], _ => rfl) fun f fd F => fn_BR F sc_Bs (fun v s ds d h => ?_) fun cdv A outer s0 H E Hc b dx bs bd bu v s us ds d Q c hB pa h hr hs q => ?_
  · obtain ⟨rfl, _⟩ := h
    rfl
  · obtain ⟨rfl, rfl⟩ := h
    have h8 : s.cur.length < 9 := by
      have := hB.ok.c.1
      omega
    refine h_one (h_ret (hx_of (pe_joined (.cons (pe_fmt pe_h) (.cons pe_str .nil))) ?_))
    refine hx_of (pe_callB call_len rfl B.len PySem.boot_len (pa_cons pe_h pa_nil)) ?_
    refine h_cur 0 rfl C1 hB fun y hy => ?_
    obtain ⟨a, xs, rfl, h1, h2⟩ := dp_tupI hy
    refine ⟨_, s.cur.length, rfl, .inr ⟨xs, sqt_sub c h1, by rw [h2.len, List.length_map]⟩, .inr ⟨_, rfl, log9 _ h8, _, rfl, (strB_len _ h8).1, _, rfl, (strB_len _ h8).2, q _ Hc H (Grow.refl c) (L2.Dp.str _)⟩⟩
/-! holds -/
theorem size_le (s : Srt) : s.size + 1 ≤ 2 ^ s.depth := by
  induction s with
  | n0 r => simp [Srt.size, Srt.depth]
  | n1 r a ih =>
    simp only [Srt.size, Srt.depth, Nat.pow_add] at *
    omega
  | n2 r a b iha ihb =>
    simp only [Srt.size, Srt.depth, Nat.pow_add] at *
    have h1 : 2 ^ a.depth ≤ 2 ^ max a.depth b.depth := Nat.pow_le_pow_right (by decide) (Nat.le_max_left _ _)
    have h2 : 2 ^ b.depth ≤ 2 ^ max a.depth b.depth := Nat.pow_le_pow_right (by decide) (Nat.le_max_right _ _)
    omega
theorem size12 {x : Srt} (h : x.depth ≤ 3) : x.size ≤ 12 := by
  have h1 := size_le x
  have h2 : 2 ^ x.depth ≤ 2 ^ 3 := Nat.pow_le_pow_right (by decide) h
  omega
abbrev N_Bh : List Str := ["self", "trait", "sort"]
theorem sc_Bh : FnScope N_Bh ["self", "trait", "sort"] (defScope (bM 8)) := ⟨rfl, rfl, rfl, by decide +kernel, rfl, by decide +kernel, by decide +kernel⟩
def spBHolds (v : Wd) (s : BSt) (ds : List D) (d : D) : Prop := ∃ (t : Str) (x : Srt), t ∈ names v ∧ okS v x = true ∧ x.depth ≤ 3 ∧ ds = [.str t, encS x] ∧ d = .bool (standsM s.cur x t)
theorem ok_Bh (C1 : BC K mg C) (D1 : DefD P w K mg base "check_trait" 2 ["world", "trait"] spTrait) (D2 : DefD P w K mg base "check_sort" (3 + 2) ["world", "sort", "names"] (spCheckSort 3)) (D3 : DefD P w K mg base "stands" (3 + 3) ["instances", "trait", "sort"] (spStands 3)) (F : HasM K C "holds" "Bench.holds" (bM 8)) :
    MthK P w K mg base CX0 C "holds" (6 + 1) ["self", "trait", "sort"] (spBR K C spBHolds) := by
  refine mth_mk F (fun _ _ _ _ _ _ us hl => match us, hl with | [_, _, _], _ => rfl) fun f fd F => fn_BR F sc_Bh (fun v s ds d h => ?_) fun cdv A outer s0 H E Hc b dx bs bd bu v s us ds d Q c hB pa h hr hs q => ?_
  · obtain ⟨t, x, _, _, _, rfl, _⟩ := h
    rfl
  · obtain ⟨t, x, ht, hx, h3, rfl, rfl⟩ := h
    cases pa with
    | @cons tv _ _ _ p1 pa =>
    cases pa with
    | @cons xv _ _ _ p2 pa =>
    cases pa
    have ok := hB.ok.sm.ok
    refine h_cons (h_expr (h_callD D1 (hr.mono (by decide)) rfl (ha_cons (h_world 0 rfl C1 hB fun wv hw => ha_cons (pe_at 1 rfl (ha_nil ⟨Hc, [W v, .str t], .none, c, .cons hw (.cons p1 .nil), ⟨v, t, ok.t4, ht, rfl, rfl⟩, fun _ Hc1 H1 g1 _ => ?_⟩))))))
    have hB1 := hB.grow g1
    refine h_cons (h_expr (h_callD D2 (hr.mono (by decide)) rfl (ha_cons (h_world 0 rfl C1 hB1 fun wv hw => ha_cons (pe_at 2 rfl (ha_cons (hx_of pe_str (ha_nil ⟨Hc1, [W v, encS x, .str ""], .none, g1.cor, .cons hw (.cons (p2.same g1.cc) (.cons (L2.Dp.str _) .nil)), ⟨v, x, ok.nd, hx, h3, size12 h3, rfl, rfl⟩, fun _ Hc2 H2 g2 _ => ?_⟩))))))))
    have hB2 := hB1.grow g2
    refine h_one (h_ret (h_callD D3 hr rfl (ha_cons (h_cur 0 rfl C1 hB2 fun y hy => ha_cons (pe_at 1 rfl (ha_cons (pe_at 2 rfl (ha_nil ⟨Hc2, [encIs s.cur, .str t, encS x], .bool (standsM s.cur x t), g2.cor, .cons hy.q (.cons ((p1.same g1.cc).same g2.cc) (.cons ((p2.same g1.cc).same g2.cc) .nil)), ⟨v, s.cur, t, x, hB.ok.c.1, fun i hi => (hB.ok.c.2 i hi).okA, hx, h3, rfl, rfl⟩, fun r Hc3 H3 g3 p3 => q r Hc3 H3 ((g1.trans g2).trans g3) p3⟩))))))))
/-! is_clear -/
abbrev N_Bc : List Str := ["self"]
theorem sc_Bc : FnScope N_Bc ["self"] (defScope (bM 9)) := ⟨rfl, rfl, rfl, by decide +kernel, rfl, by decide +kernel, by decide +kernel⟩
def spBClear (v : Wd) (s : BSt) (ds : List D) (d : D) : Prop := ∃ (m : Nat) (g : Fnd), Runs v s.cur m [] g ∧ ds = [] ∧ d = .bool (isNon (doubleM v g))
theorem ok_Bc (C1 : BC K mg C) (D1 : DefD P w K mg base "found_double" 113 ["world", "instances"] spDouble) (F : HasM K C "is_clear" "Bench.is_clear" (bM 9)) : MthK P w K mg base CX0 C "is_clear" (113 + 1) ["self"] (spBR K C spBClear) := by
  refine mth_mk F (fun _ _ _ _ _ _ us hl => match us, hl with | [_], _ => rfl) fun f fd F => fn_BR F sc_Bc (fun v s ds d h => ?_) fun cdv A outer s0 H E Hc b dx bs bd bu v s us ds d Q c hB pa h hr hs q => ?_
  · obtain ⟨m, g, _, rfl, _⟩ := h
    rfl
  · obtain ⟨m, g, hrun, rfl, rfl⟩ := h
    refine h_one (h_ret (hx_of (pe_cmp (pc_isN pe_h) rfl) ?_))
    refine h_callD D1 hr rfl (ha_cons (h_world 0 rfl C1 hB fun wv hw => ha_cons (h_cur 0 rfl C1 hB fun y hy => ha_nil ⟨Hc, [W v, encIs s.cur], doubleM v g, c, .cons hw (.cons hy.q .nil), ⟨v, s.cur, m, g, hB.ok.sm, hB.ok.c.2, hB.ok.c.1, hrun, rfl, rfl⟩, fun r Hc1 H1 g1 p1 => ?_⟩)))
    refine q _ Hc1 H1 g1 ?_
    rw [dq_isNon p1]
    exact L2.Dp.bl _
/-! faults -/
abbrev N_Bf : List Str := ["self"]
theorem sc_Bf : FnScope N_Bf ["self"] (defScope (bM 10)) := ⟨rfl, rfl, rfl, by decide +kernel, rfl, by decide +kernel, by decide +kernel⟩
def spBFaults (v : Wd) (s : BSt) (ds : List D) (d : D) : Prop := ds = [] ∧ d = .tuple (faultsM v s.cur)
theorem ok_Bf (B : Blt mg) (C1 : BC K mg C) (D1 : DefD P w K mg base "found_faults" 20 ["world", "instances"] spFound) (F : HasM K C "faults" "Bench.faults" (bM 10)) : MthK P w K mg base CX0 C "faults" (20 + 1) ["self"] (spBR K C spBFaults) := by
  refine mth_mk F (fun _ _ _ _ _ _ us hl => match us, hl with | [_], _ => rfl) fun f fd F => fn_BR F sc_Bf (fun v s ds d h => ?_) fun cdv A outer s0 H E Hc b dx bs bd bu v s us ds d Q c hB pa h hr hs q => ?_
  · obtain ⟨rfl, _⟩ := h
    rfl
  · obtain ⟨rfl, rfl⟩ := h
    refine h_one (h_ret (hx_of (pe_callTy call_tuple_of rfl B.tuple (by decide +kernel) (pa_cons pe_h pa_nil)) ?_))
    refine h_callD D1 hr rfl (ha_cons (h_world 0 rfl C1 hB fun wv hw => ha_cons (h_cur 0 rfl C1 hB fun y hy => ha_nil ⟨Hc, [W v, encIs s.cur], .list (faultsM v s.cur), c, .cons hw (.cons hy.q .nil), ⟨v, s.cur, hB.ok.sm.ok, hB.ok.c.2, hB.ok.c.1, rfl, rfl⟩, fun r Hc1 H1 g1 p1 => ?_⟩)))
    obtain ⟨a, xs, rfl, h1, h2⟩ := dp_lstI (show Dp K Hc1 r (.list (faultsM v s.cur)) from p1)
    refine ⟨a, xs, rfl, .inl ⟨sql_sub g1.cor h1, fun l nl => ?_⟩⟩
    have g2 := Grow.new (o := .tup xs) g1.cor nl
    exact q _ _ _ (g1.trans g2) (show Dp K _ _ (.tuple _) from L2.Dp.tup (.inl (.inl upd_same)) (h2.same g2.cc)).q
end
end Tr
set_option Elab.async false
set_option linter.all false
set_option maxRecDepth 100000
set_option maxHeartbeats 1000000
set_option autoImplicit false
/-! DH3: instances laid; what a bench's steps keep -/
namespace Tr
open PySem PySem.Spec PyProof.Rows L2 DL
theorem words_ok : PyData.strOk "number" = true ∧ PyData.strOk "mark" = true ∧ PyData.strOk "plus" = true ∧ PyData.strOk "times" = true ∧ PyData.strOk "tell" = true ∧ PyData.strOk "made" = true ∧ PyData.strOk "add" = true ∧ PyData.strOk "drop" = true ∧ PyData.strOk "returned" = true ∧ PyData.strOk "raised" = true := by decide +kernel
theorem lay_R {v : Wd} (ok : OkW v) {n : Int} : ∀ {r : Rk}, okRk v n r = true → PyData.canLayAll0 (encRL r) = true
  | .num m, _ => by simp [encRL, PyData.canLayAll0, PyData.canLay0, words_ok.1]
  | .mark, _ => by simp [encRL, PyData.canLayAll0, PyData.canLay0, words_ok.2.1]
  | .plus a b, h => by
    simp only [okRk, Bool.and_eq_true] at h
    have h1 := lay_R ok h.1
    have h2 := lay_R ok h.2
    simp [encRL, PyData.canLayAll0, PyData.canLay0, words_ok.2.2.1, h1, h2]
  | .times a b, h => by
    simp only [okRk, Bool.and_eq_true] at h
    have h1 := lay_R ok h.1
    have h2 := lay_R ok h.2
    simp [encRL, PyData.canLayAll0, PyData.canLay0, words_ok.2.2.2.1, h1, h2]
  | .tell t p, h => by
    simp only [okRk, Bool.and_eq_true] at h
    have h1 := hasT_ok ok h.2
    simp [encRL, PyData.canLayAll0, PyData.canLay0, words_ok.2.2.2.2.1, h1]
theorem depth_R : ∀ r : Rk, PyData.depthAll (encRL r) ≤ r.depth
  | .num m => by simp [encRL, PyData.depthAll, PyData.depth]
  | .mark => by simp [encRL, PyData.depthAll, PyData.depth]
  | .plus a b => by
    have h1 := depth_R a
    have h2 := depth_R b
    simp only [encRL, PyData.depthAll, PyData.depth, Rk.depth]
    omega
  | .times a b => by
    have h1 := depth_R a
    have h2 := depth_R b
    simp only [encRL, PyData.depthAll, PyData.depth, Rk.depth]
    omega
  | .tell t p => by simp [encRL, PyData.depthAll, PyData.depth]
theorem layL2 {α : Type} (f : α → D) : ∀ l : List α, (∀ x ∈ l, (f x).canLay0 = true) → PyData.canLayAll0 (l.map f) = true
  | [], _ => rfl
  | x :: l, h => by
    rw [List.map_cons, PyData.canLayAll0, h x List.mem_cons_self, layL2 f l fun y hy => h y (List.mem_cons_of_mem _ hy)]
    rfl
theorem dep_L {α : Type} (f : α → D) (n : Nat) : ∀ l : List α, (∀ x ∈ l, (f x).depth ≤ n) → PyData.depthAll (l.map f) ≤ n
  | [], _ => by simp [PyData.depthAll]
  | x :: l, h => by
    have h1 := h x List.mem_cons_self
    have h2 := dep_L f n l fun y hy => h y (List.mem_cons_of_mem _ hy)
    simp only [List.map_cons, PyData.depthAll]
    omega
theorem name_ok {v : Wd} (ok : OkW v) {t : Str} (h : t ∈ names v) : PyData.strOk t = true := by
  obtain ⟨x, hx, rfl⟩ := List.mem_map.mp h
  exact (ok.st x hx).1
theorem root_ok {v : Wd} (ok : OkW v) {r : Str} {n : Nat} (h : arC v.cs r = some n) : PyData.strOk r = true := ok.sc _ (arC_mem h)
theorem lay_B {v : Wd} (ok : OkW v) {f : Str} {n : Nat} {b : Bd} (h : okB v f n b = true) : (encB b).canLay0 = true ∧ (encB b).depth ≤ 20 := by
  cases b with
  | rk r =>
    simp only [okB, okSh, Bool.and_eq_true, decide_eq_true_eq] at h
    have h1 := lay_R ok h.2.1
    have h2 := depth_R r
    have h3 := r.depth_cnt
    refine ⟨by simpa [encBL, PyData.canLay0] using h1, ?_⟩
    simp only [encBL, PyData.depth]
    omega
  | made r ps =>
    simp only [okB, okSh, Bool.and_eq_true, decide_eq_true_eq, List.all_eq_true] at h
    obtain ⟨⟨⟨_, _⟩, hr, hr2⟩, hp⟩ := h
    have h1 := lay_R ok hr
    have h2 := depth_R r
    have h3 := r.depth_cnt
    have h4 : PyData.canLayAll0 (ps.map encP) = true := layL2 encP ps fun p hp1 => by
      have h5 := lay_R ok (hp p hp1).1.1
      have h6 := hasT_ok ok (hp p hp1).2
      simp [encPL, PyData.canLay0, PyData.canLayAll0, h5, h6]
    have h5 : PyData.depthAll (ps.map encP) ≤ 18 := dep_L encP 18 ps fun p hp1 => by
      have h6 := depth_R p.2
      have h7 := p.2.depth_cnt
      have h8 := (hp p hp1).1.2
      simp only [encPL, PyData.depth, PyData.depthAll]
      omega
    refine ⟨by simp [encBL, PyData.canLay0, PyData.canLayAll0, words_ok.2.2.2.2.2.1, h1, h4], ?_⟩
    simp only [encBL, PyData.depth, PyData.depthAll]
    omega
theorem lay_I {v : Wd} (ok : OkW v) {i : Inst} (h : OkI v i) : (encI i).canLay0 = true ∧ (encI i).depth ≤ 24 := by
  obtain ⟨f, _, hb⟩ := h.bd
  obtain ⟨b1, b2⟩ := lay_B ok hb
  have h1 := name_ok ok h.tr
  have h2 := root_ok ok h.ar
  have h3 : PyData.canLayAll0 (i.lims.map encL) = true := layL2 encL i.lims fun x hx => by
    cases x with
    | none => simp [encL, PyData.canLay0]
    | some y =>
      have := h.lm _ hx y rfl
      obtain ⟨n, hn⟩ := Option.isSome_iff_exists.mp this
      simp [encL, PyData.canLay0, root_ok ok hn]
  have h4 : PyData.canLayAll0 (i.asks.map encA) = true := layL2 encA i.asks fun a ha => (lay_A ok (h.aa a ha).2).1
  have h5 : PyData.depthAll (i.lims.map encL) ≤ 1 := dep_L encL 1 i.lims fun x hx => by cases x <;> simp [encL, PyData.depth]
  have h6 : PyData.depthAll (i.asks.map encA) ≤ 2 := dep_L encA 2 i.asks fun a ha => depthA a
  constructor
  · simp only [encIL, PyData.canLay0, PyData.canLayAll0] at *
    simp [h1, h2, h3, h4, b1]
  · simp only [encIL, PyData.depth, PyData.depthAll] at *
    omega
theorem lay_Is {v : Wd} (ok : OkW v) {is : List Inst} (h : ∀ i ∈ is, OkI v i) : (encIs is).canLay0 = true ∧ (encIs is).depth ≤ 25 := by
  have h1 := layL2 encI is fun i hi => (lay_I ok (h i hi)).1
  have h2 := dep_L encI 24 is fun i hi => (lay_I ok (h i hi)).2
  constructor
  · rw [PyData.canLay0]
    exact h1
  · rw [PyData.depth]
    omega
theorem lay_Op {v : Wd} (ok : OkW v) {o : Op} (h : okOp v o) : (encOp o).canLay0 = true ∧ (encOp o).depth ≤ 26 := by
  cases o with
  | add i =>
    obtain ⟨h1, h2⟩ := lay_I ok (show OkI v i from h)
    constructor
    · simp only [encOp, PyData.canLay0, PyData.canLayAll0] at *
      simp [words_ok, h1]
    · simp only [encOp, PyData.depth, PyData.depthAll] at *
      omega
  | drop n =>
    constructor
    · simp [encOp, PyData.canLay0, PyData.canLayAll0, words_ok]
    · simp [encOp, PyData.depth, PyData.depthAll]
theorem lay_U {v : Wd} (ok : OkW v) {p : Op × List Inst} (h : okOp v p.1) (h2 : okSet v p.2) : (encU p).canLay0 = true ∧ (encU p).depth ≤ 27 := by
  obtain ⟨a1, a2⟩ := lay_Op ok h
  obtain ⟨b1, b2⟩ := lay_Is ok h2.2
  constructor
  · simp only [encU, PyData.canLay0, PyData.canLayAll0] at *
    simp [a1, b1]
  · simp only [encU, PyData.depth, PyData.depthAll] at *
    omega
/-! ### steps -/
def BSt.push (s : BSt) (o : Op) (is : List Inst) : BSt := ⟨s.old ++ [s.cur], is, s.ops ++ [o], []⟩
theorem BOk.push {v : Wd} {s : BSt} {o : Op} {is : List Inst} (h : BOk v s) (ho : okOp v o) (hi : okSet v is) (hz : s.old.length < 900) : BOk v (s.push o is) := by
  refine ⟨h.sm, hi, fun x hx => ?_, (fun _ z => nomatch z), fun x hx => ?_, (fun _ z => nomatch z), ?_, ?_⟩
  · rcases List.mem_append.mp hx with hx | hx
    · exact h.o x hx
    · rw [List.mem_singleton.mp hx]
      exact h.c
  · rcases List.mem_append.mp hx with hx | hx
    · exact h.p x hx
    · rw [List.mem_singleton.mp hx]
      exact ho
  · show (s.old ++ [s.cur]).length = (s.ops ++ [o]).length
    rw [List.length_append, List.length_append, h.len]
    rfl
  · show (s.old ++ [s.cur]).length + 0 ≤ 1000
    rw [List.length_append]
    simp
    omega
/-- a step back -/
theorem BOk.back {v : Wd} {old : List (List Inst)} {o cur : List Inst} {ops : List Op} {op : Op} {und : List (Op × List Inst)} (h : BOk v ⟨old ++ [o], cur, ops ++ [op], und⟩) : BOk v ⟨old, o, ops, und ++ [(op, cur)]⟩ := by
  refine ⟨h.sm, h.o o (by simp), fun x hx => h.o x (by simp [hx]), fun p hp => ?_, fun x hx => h.p x (by simp [hx]), fun p hp => ?_, ?_, ?_⟩
  · rcases List.mem_append.mp hp with hp | hp
    · exact h.u p hp
    · rw [List.mem_singleton.mp hp]
      exact h.c
  · rcases List.mem_append.mp hp with hp | hp
    · exact h.q p hp
    · rw [List.mem_singleton.mp hp]
      exact h.p op (by simp)
  · have := h.len
    simp at this
    exact this
  · have := h.z
    simp at this ⊢
    omega
/-- a step on -/
theorem BOk.forth {v : Wd} {old : List (List Inst)} {cur st : List Inst} {ops : List Op} {op : Op} {und : List (Op × List Inst)} (h : BOk v ⟨old, cur, ops, und ++ [(op, st)]⟩) : BOk v ⟨old ++ [cur], st, ops ++ [op], und⟩ := by
  refine ⟨h.sm, h.u (op, st) (by simp), fun x hx => ?_, fun p hp => h.u p (by simp [hp]), fun x hx => ?_, fun p hp => h.q p (by simp [hp]), ?_, ?_⟩
  · rcases List.mem_append.mp hx with hx | hx
    · exact h.o x hx
    · rw [List.mem_singleton.mp hx]
      exact h.c
  · rcases List.mem_append.mp hx with hx | hx
    · exact h.p x hx
    · rw [List.mem_singleton.mp hx]
      exact h.q (op, st) (by simp)
  · have := h.len
    simp at this ⊢
    exact this
  · have := h.z
    simp at this ⊢
    omega
theorem cut_lo (ds : List D) (n : Nat) (h : n ≤ ds.length) : DL.cutD ds none (some (n : Int)) = ds.take n := by
  unfold DL.cutD
  rw [HT.sIx_none, HT.sIx_nat, List.drop_zero, Nat.sub_zero, Nat.min_eq_left h]
theorem cut_hi (ds : List D) (n : Nat) (h : n ≤ ds.length) : DL.cutD ds (some (n : Int)) none = ds.drop n := by
  unfold DL.cutD
  rw [HT.sIx_none, HT.sIx_nat, Nat.min_eq_left h]
  exact List.take_of_length_le (by rw [List.length_drop]; exact Nat.le_refl _)
/-- without the instance number n -/
def without (is : List Inst) (n : Nat) : List Inst := is.take n ++ is.drop (n + 1)
theorem without_ok {v : Wd} {is : List Inst} {n : Nat} (h : okSet v is) : okSet v (without is n) := by
  unfold without
  refine ⟨?_, fun i hi => ?_⟩
  · have := h.1
    rw [List.length_append, List.length_take, List.length_drop]
    omega
  · rcases List.mem_append.mp hi with hi | hi
    · exact h.2 i (List.mem_of_mem_take hi)
    · exact h.2 i (List.mem_of_mem_drop hi)
theorem map_take_I (is : List Inst) (n : Nat) : (is.map encI).take n = (is.take n).map encI := List.map_take.symm
theorem map_drop_I (is : List Inst) (n : Nat) : (is.map encI).drop n = (is.drop n).map encI := List.map_drop.symm
end Tr
set_option Elab.async false
set_option linter.all false
set_option maxRecDepth 100000
set_option maxHeartbeats 1000000
set_option autoImplicit false
/-! W26: __init__, perform, add -/
namespace Tr
open PySem PySem.Spec PyProof.Rows L2 DL
section
variable {X : Cx} {o value e : Expr} {es : List Expr} {f : Str} {pos pos' apos cpos : Pos} {σ : L2.St} {H : Hp} {Z : Ends} {Q : VK}
/-- o.f = value -/
theorem h_sfld (h : HX X value σ H fun y H1 => HX X o σ H1 fun x H2 => ∃ a C dx fs, x = .ref a ∧ H2 a = some (.ins C dx fs) ∧ Cls X.K C ∧ NoAttr X.K C f ∧ fs.length < 1000 ∧ Z.nx σ (upd H2 a (.ins C dx (L2.putF f y fs)))) (hs : swapsWith value (some (.Attribute o f pos')) pos.line X.env = pure false := by rfl) : HS X (.Assign [.Attribute o f pos'] value pos) Z σ H := hs_of (ps_fld pe_h pe_h hs) h
/-- xs.append(e) -/
theorem h_append (h : HX X o σ H fun x H1 => ∃ l xs, x = .ref l ∧ H1 l = some (.lst xs) ∧ HX X e σ H1 fun y H2 => ∃ ys, H2 l = some (.lst ys) ∧ ys.length < sizeLine ∧ Z.nx σ (upd H2 l (.lst (ys ++ [y]))))
    (hb : attributeBase o "append" X.env (eval o X.env) = eval o X.env := by rfl)
    (hfew : ((backTo cpos (starEach (e :: []) X.env)).all (fun x => !x.1) && (backToKw cpos (keywordEach [] X.env)).all (fun x => x.1.isSome)
      && decide ((e :: []).length + ([] : List Keyword).length + (if ([] : List Keyword).isEmpty then 0 else 1) < 30)) = true := by rfl)
    (hline : (apos.endLine == cpos.line) = true := by rfl) (hs : starEach (e :: []) X.env = (false, eval e X.env) :: starEach [] X.env := by rfl) (hplain : (backTo cpos (starEach [] X.env)).any (·.1) = false := by rfl)
    (hsw : swapsWith (.Call (.Attribute o "append" apos) [e] [] cpos) none pos.line X.env = pure false := by rfl) : HS X (.Expr (.Call (.Attribute o "append" apos) [e] [] cpos) pos) Z σ H := by
  refine hs_of (ps_expr (pe_bm PySem.F.plainAttrs_list PySem.F.slot_list_append PySem.F.type_list_append mt_append pe_w (pa_cons pe_w pa_nil hs) hb hfew hline hs hplain) hsw) ?_
  refine wx_mono h.r fun x H1 hx => ?_
  obtain ⟨l, xs, rfl, h1, h2⟩ := hx
  refine ⟨.inl ⟨rfl, xs, SqL.of h1⟩, ?_⟩
  refine wx_mono h2.r fun y H2 hy => ?_
  obtain ⟨ys, h3, h4, q⟩ := hy
  exact ⟨l, ys, y, rfl, rfl, h3, h4, q⟩
/-- xs.pop() -/
theorem h_pop (h : HX X o σ H fun x H1 => ∃ l xs y, x = .ref l ∧ H1 l = some (.lst (xs ++ [y])) ∧ Q y (upd H1 l (.lst xs))) (hb : attributeBase o "pop" X.env (eval o X.env) = eval o X.env := by rfl) (hline : (apos.endLine == cpos.line) = true := by rfl) : HX X (.Call (.Attribute o "pop" apos) [] [] cpos) σ H Q := by
  refine hx_of (pe_bm0 PySem.F.plainAttrs_list PySem.F.slot_list_pop PySem.F.type_list_pop mt_pop pe_w hb hline) ?_
  refine wx_mono h.r fun x H1 hx => ?_
  obtain ⟨l, xs, y, rfl, h1, q⟩ := hx
  refine ⟨.inl ⟨rfl, _, SqL.of h1⟩, l, xs ++ [y], y, rfl, rfl, h1, ?_, ?_⟩
  · simp
  · rw [List.dropLast_concat]
    exact q
/-- [] -/
theorem h_nilL (q : ∀ p, H p = none → Q (.ref p) (upd H p (.lst []))) : HX X (.List [] pos) σ H Q := hx_of (pe_lst pa_nil) ⟨Nat.zero_le _, q⟩
end
/-- self.perform(operation, state) -/
def spPf (K : PySem.W.Frag) (C : Addr) : Sp := fun vs H Q _ => ∃ (Hc : Hp) (b dx bs bd bu : Addr) (v : Wd) (s : BSt) (ov sv : V) (op : Op) (is : List Inst), vs = [.ref b, ov, sv] ∧ Cor Hc H ∧ BnA K C Hc H b dx bs bd bu v s ∧ Dp K Hc ov (encOp op) ∧ Dp K Hc sv (encIs is) ∧ okOp v op ∧ okSet v is ∧ s.old.length < 900 ∧
  ∀ bu' H1, GS [b, bs, bd] Hc H Hc H1 → H bu' = none → BnA K C Hc H1 b dx bs bd bu' v (s.push op is) → Q .non H1
section
variable {P : Program} {w : World} {K : PySem.W.Frag} {mg : Str → Option Value} {base : Heap} {C : Addr}
abbrev N_Bp : List Str := ["self", "operation", "state"]
theorem sc_Bp : FnScope N_Bp ["self", "operation", "state"] (defScope (bM 4)) := ⟨rfl, rfl, rfl, by decide +kernel, rfl, by decide +kernel, by decide +kernel⟩
theorem ok_Bp (C1 : BC K mg C) (F : HasM K C "perform" "Bench.perform" (bM 4)) : MthK P w K mg base CX0 C "perform" (0 + 1) ["self", "operation", "state"] (spPf K C) := by
  refine mth_mk F (fun _ _ _ _ _ _ us hl => match us, hl with | [_, _, _], _ => rfl) fun f fd F => F.ok sc_Bp (fun vs H Q E h => ?_) fun cdv A outer s0 H vs Q E hr h => ⟨_, PSs.nox pss_h, ?_⟩
  · obtain ⟨Hc, b, dx, bs, bd, bu, v, s, ov, sv, op, is, rfl, _⟩ := h
    rfl
  · obtain ⟨Hc, b, dx, bs, bd, bu, v, s, ov, sv, op, is, rfl, c, hB, po, pi, oo, oi, hz, q⟩ := h
    obtain ⟨wv, i1, i2⟩ := hB.ins
    obtain ⟨xs, s1, s2⟩ := hB.ls
    obtain ⟨ys, d1, d2⟩ := hB.ld
    obtain ⟨zs, u1, u2⟩ := hB.lu
    obtain ⟨n1, n2, n3⟩ := hB.bne
    have hxl : xs.length < sizeLine := by
      rw [s2.len, List.length_map, List.length_append]
      exact Nat.lt_of_lt_of_le (by simp; omega : _ < 1000) (by decide)
    have hyl : ys.length < sizeLine := by
      rw [d2.len, List.length_map, ← hB.ok.len]
      exact Nat.lt_of_lt_of_le (by omega : _ < 1000) (by decide)
    refine h_cons (h_append (h_states 0 rfl C1 hB ⟨bs, xs, rfl, s1, pe_at 2 rfl ⟨xs, s1, hxl, ?_⟩⟩))
    have G1 : GS [b, bs, bd] Hc H Hc (upd H bs (.lst (xs ++ [sv]))) := GS.set c hB.cs id (by simp)
    have j1 : (upd H bs (.lst (xs ++ [sv]))) b = some (.ins C dx [("world", wv), ("states", .ref bs), ("done", .ref bd), ("undone", .ref bu)]) := by rw [upd_ne n1]; exact i1
    have j2 : (upd H bs (.lst (xs ++ [sv]))) bd = some (.lst ys) := by rw [upd_ne (Ne.symm hB.sd)]; exact d1
    refine h_cons (h_append (h_fld 0 rfl j1 C1.cl C1.nD rfl ⟨bd, ys, rfl, j2, pe_at 1 rfl ⟨ys, j2, hyl, ?_⟩⟩))
    have G2 : GS [b, bs, bd] Hc H Hc (upd (upd H bs (.lst (xs ++ [sv]))) bd (.lst (ys ++ [ov]))) := G1.trans (GS.set G1.cor hB.cd id (by simp))
    have k1 : (upd (upd H bs (.lst (xs ++ [sv]))) bd (.lst (ys ++ [ov]))) b = some (.ins C dx [("world", wv), ("states", .ref bs), ("done", .ref bd), ("undone", .ref bu)]) := by rw [upd_ne n2]; exact j1
    refine h_one (h_sfld (h_nilL fun bu' nb => pe_at 0 rfl ⟨b, C, dx, _, rfl, by rw [upd_ne (ne_of_none k1 nb)]; exact k1, C1.cl, C1.nU, by simp, ?_⟩))
    have e1 : L2.putF "undone" (.ref bu') [(("world" : Str), wv), ("states", .ref bs), ("done", .ref bd), ("undone", .ref bu)] = [(("world" : Str), wv), ("states", .ref bs), ("done", .ref bd), ("undone", .ref bu')] := rfl
    rw [e1]
    have G3 := G2.trans (GS.newO G2.cor nb (o := .lst []) id)
    have G4 := G3.trans (GS.set (S := [b, bs, bd]) G3.cor hB.cb (o := .ins C dx [("world", wv), ("states", .ref bs), ("done", .ref bd), ("undone", .ref bu')]) id (by simp))
    have hb0 : H bu' = none := by
      cases e : H bu' with
      | none => rfl
      | some o => exact absurd nb (G2.dm _ (some_ne e))
    have m1 : bu' ≠ b := fun z => by rw [z, k1] at nb; cases nb
    have m2 : bu' ≠ bs := fun z => by rw [z, upd_ne hB.sd, upd_same] at nb; cases nb
    have m3 : bu' ≠ bd := fun z => by rw [z, upd_same] at nb; cases nb
    refine q bu' _ G4 hb0 ⟨hB.ok.push oo oi hz, ⟨wv, upd_same, i2⟩, ⟨xs ++ [sv], ?_, ?_⟩, ⟨ys ++ [ov], ?_, ?_⟩, ⟨[], ?_, .nil⟩, hB.cb, hB.cs, hB.cd, c.sub.free hb0, hB.sd, Ne.symm m2, Ne.symm m3⟩
    · rw [upd_ne (Ne.symm n1), upd_ne (Ne.symm m2), upd_ne hB.sd, upd_same]
    · show DpAll K Hc _ (((s.old ++ [s.cur]) ++ [is]).map encIs)
      rw [List.map_append]
      exact s2.app (.cons pi .nil)
    · rw [upd_ne (Ne.symm n2), upd_ne (Ne.symm m3), upd_same]
    · show DpAll K Hc _ ((s.ops ++ [op]).map encOp)
      rw [List.map_append]
      exact d2.app (.cons po .nil)
    · rw [upd_ne m1, upd_same]
/-! add -/
def spAdd (K : PySem.W.Frag) (C : Addr) : Sp := fun vs H Q _ => ∃ (Hc : Hp) (b dx bs bd bu : Addr) (v : Wd) (s : BSt) (iv : V) (i : Inst), vs = [.ref b, iv] ∧ Cor Hc H ∧ BnA K C Hc H b dx bs bd bu v s ∧ Dp K Hc iv (encI i) ∧ OkI v i ∧ s.cur.length < 8 ∧ s.old.length < 900 ∧
  ∀ bu' Hc1 H1, GS [b, bs, bd] Hc H Hc1 H1 → H bu' = none → BnA K C Hc1 H1 b dx bs bd bu' v (s.push (.add i) (s.cur ++ [i])) → Q (.int (s.cur.length : Nat)) H1
abbrev N_Ba : List Str := ["self", "instance", "state"]
theorem sc_Ba : FnScope N_Ba ["self", "instance"] (defScope (bM 5)) := ⟨rfl, rfl, rfl, by decide +kernel, rfl, by decide +kernel, by decide +kernel⟩
theorem h_meth {X : Cx} {CX : CXT} {m : Str} {k : Nat} {ps : List Str} {sp : Sp} {o e : Expr} {es : List Expr} {apos pos : Pos} {σ : L2.St} {H : Hp} {Q : VK} {E : XK} {pl : Sem Bool} (cl : Cls X.K C) (F : MthK X.prog X.w X.K X.mg X.base CX C m k ps sp) (hr : Room k X.A) (hx : Passes CX X E)
    (h : HX X o σ H fun x H1 => ∃ a dx fs, x = .ref a ∧ H1 a = some (.ins C dx fs) ∧ fs.lookup m = none ∧ HA X (e :: es) σ H1 fun vs H2 => sp (.ref a :: vs) H2 Q E)
    (hst : starEach (e :: es) X.env = (false, eval e X.env) :: starEach es X.env := by rfl) (hpl : (backTo pos (starEach es X.env)).any (·.1) = false := by rfl)
    (ht : eval (.Call (.Attribute o m apos) (e :: es) [] pos) X.env = (do
      let ov ← eval o X.env
      standAt apos.atName
      let (f, first) ← holding [ov] (getMethod ov m pl)
      callWith pos f first (backTo pos (starEach (e :: es) X.env)) (backToKw pos (keywordEach [] X.env))) := by rfl) : HX X (.Call (.Attribute o m apos) (e :: es) [] pos) σ H Q := by
  obtain ⟨f, fd, hm, hk, hb, ok⟩ := F.ex
  refine hx_of (pe_meth pe_w cl hm ok hr hb .nil hx pa_h hst hpl ht) (wx_mono h.r fun x H1 hx => ?_)
  obtain ⟨a, dx, fs, rfl, h1, h2, h3⟩ := hx
  refine ⟨a, dx, fs, rfl, h1, h2, ⟨?_⟩⟩
  intro pos' pins s I
  refine thn (h3.r pos' pins s I) fun us s1 ⟨vs, H2, I2, r, q⟩ => ⟨vs, H2, I2, r, ?_⟩
  show sp (.ref a :: (vs ++ [])) H2 Q E
  rw [List.append_nil]
  exact q
theorem h_meth0 {X : Cx} {CX : CXT} {m : Str} {k : Nat} {ps : List Str} {sp : Sp} {o : Expr} {apos pos : Pos} {σ : L2.St} {H : Hp} {Q : VK} {E : XK} {pl : Sem Bool} (cl : Cls X.K C) (F : MthK X.prog X.w X.K X.mg X.base CX C m k ps sp) (hr : Room k X.A) (hx : Passes CX X E)
    (h : HX X o σ H fun x H1 => ∃ a dx fs, x = .ref a ∧ H1 a = some (.ins C dx fs) ∧ fs.lookup m = none ∧ sp [.ref a] H1 Q E)
    (ht : eval (.Call (.Attribute o m apos) [] [] pos) X.env = (do
      let ov ← eval o X.env
      standAt apos.atName
      let (f, first) ← holding [ov] (getMethod ov m pl)
      callWith pos f first (backTo pos (starEach [] X.env)) (backToKw pos (keywordEach [] X.env))) := by rfl) : HX X (.Call (.Attribute o m apos) [] [] pos) σ H Q := by
  obtain ⟨f, fd, hm, hk, hb, ok⟩ := F.ex
  exact hx_of (pe_meth0 pe_w cl hm ok hr hb .nil hx ht) (wx_mono h.r fun x H1 hx => by
    obtain ⟨a, dx, fs, rfl, h1, h2, h3⟩ := hx
    exact ⟨a, dx, fs, rfl, h1, h2, h3⟩)
theorem ok_Ba (B : Blt mg) (C1 : BC K mg C) (D1 : DefD P w K mg base "check_instance" 21 ["world", "instance"] spCheckI) (D2 : MthK P w K mg base CX0 C "perform" (0 + 1) ["self", "operation", "state"] (spPf K C)) (F : HasM K C "add" "Bench.add" (bM 5)) : MthK P w K mg base CX0 C "add" (21 + 1) ["self", "instance"] (spAdd K C) := by
  refine mth_mk F (fun _ _ _ _ _ _ us hl => match us, hl with | [_, _], _ => rfl) fun f fd F => F.ok sc_Ba (fun vs H Q E h => ?_) fun cdv A outer s0 H vs Q E hr h => ⟨_, PSs.nox pss_h, ?_⟩
  · obtain ⟨Hc, b, dx, bs, bd, bu, v, s, iv, i, rfl, _⟩ := h
    rfl
  · obtain ⟨Hc, b, dx, bs, bd, bu, v, s, iv, i, rfl, c, hB, pi, oi, h8, hz, q⟩ := h
    refine h_cons (h_expr (h_callD D1 hr rfl (ha_cons (h_world 0 rfl C1 hB fun wv hw => ha_cons (pe_at 1 rfl (ha_nil ⟨Hc, [W v, encI i], .none, c, .cons hw (.cons pi.q .nil), ⟨v, i, hB.ok.sm.ok, oi, rfl, rfl⟩, fun _ Hc1 H1 g1 _ => ?_⟩))))))
    have hB1 := hB.grow g1
    refine h_cons (h_set 2 sc_Ba.nd (h_cur 0 rfl C1 hB1 fun y hy => ?_))
    have hs : DSX K Hc1 (List.set (L2.start N_Ba [.ref b, iv]) 2 (some y)) H1 [some (adM b), some (encI i), some (encIs s.cur)] := (dsx_start (N := N_Ba) g1.cor (.cons (ad_of b) (.cons (pi.same g1.cc).q .nil))).set 2 hy.q
    refine h_cons (h_if (EVt.at (k := false) (c_eqFI (ev_lenT B (ds := s.cur.map encI) (ev_v 2 rfl)) ev_int ?_) hs fun Hc2 H2 g2 => ?_))
    · rw [List.length_map]
      omega
    rw [if_neg Bool.false_ne_true]
    refine h_nil ?_
    have hB2 := hB1.grow g2
    have hs2 := hs.grow g2
    obtain ⟨wv, i1, i2⟩ := hB2.ins
    refine h_cons (h_expr (h_meth C1.cl D2 (hr.mono (by decide)) pass0 (pe_at 0 rfl ⟨b, dx, _, rfl, i1, rfl, ha_cons (EVd.at (d := encOp (.add i)) (ev_tup (ea_cons ev_str (ea_cons (d := encI i) (ev_v 1 rfl) ea_nil)) le2) hs2 fun v1 Hc3 H3 g3 p3 => ?_)⟩)))
    have hs3 := hs2.grow g3
    refine ha_cons (EVd.at (d := encIs (s.cur ++ [i])) (EVd.is (ev_catT (ds := s.cur.map encI) (es1 := [encI i]) (ev_v 2 rfl) (ev_tup (ea_cons (d := encI i) (ev_v 1 rfl) ea_nil) le1) ?_) ?_) hs3 fun v2 Hc4 H4 g4 p4 => ha_nil ?_)
    · rw [List.length_map]
      exact Nat.le_trans (by simp; omega : _ ≤ 100) (by decide)
    · show PyData.tuple _ = PyData.tuple _
      rw [List.map_append]
      rfl
    have hs4 := hs3.grow g4
    have okn : okSet v (s.cur ++ [i]) := ⟨by rw [List.length_append]; simp; omega, fun x hx => by
      rcases List.mem_append.mp hx with hx | hx
      · exact hB.ok.c.2 x hx
      · rw [List.mem_singleton.mp hx]; exact oi⟩
    refine ⟨Hc4, b, dx, bs, bd, bu, v, s, v1, v2, .add i, s.cur ++ [i], rfl, g4.cor, (hB2.grow g3).grow g4, ((show Dp K Hc3 v1 (encOp (.add i)) from p3).same g4.cc), p4, oi, okn, hz, fun bu' H5 G hb' hB5 => ?_⟩
    have G5 : GS [b, bs, bd] Hc H Hc4 H5 := ((((g1.gs).trans g2.gs).trans g3.gs).trans g4.gs).trans G
    have hb0 : H bu' = none := by
      cases e : H bu' with
      | none => rfl
      | some o => exact absurd hb' ((((g1.gs (S := [])).trans g2.gs).trans g3.gs).trans g4.gs |>.dm _ (some_ne e))
    refine h_one (h_ret (EVd.at (ev_lenT B (ds := s.cur.map encI) (ev_v 2 rfl)) (hs4.gs G) fun r Hc6 H6 g6 p6 => ?_))
    have e6 := dp_int p6
    subst e6
    rw [List.length_map]
    exact q bu' Hc6 H6 (G5.trans g6.gs) hb0 (hB5.grow g6)
/-! __init__ -/
def spInit (K : PySem.W.Frag) (C : Addr) : Sp := fun vs H Q _ => ∃ (Hc : Hp) (b dx : Addr) (v : Wd) (wv : V), vs = [.ref b, wv] ∧ Cor Hc H ∧ H b = some (.ins C dx []) ∧ Hc b = none ∧ Dq K Hc wv (W v) ∧ Small v ∧
  ∀ bs bd bu Hc1 H1, GS [b] Hc H Hc1 H1 → H bs = none → H bd = none → H bu = none → BnA K C Hc1 H1 b dx bs bd bu v nw → Q .non H1
abbrev N_B0 : List Str := ["self", "world"]
theorem sc_B0 : FnScope N_B0 ["self", "world"] (defScope (bM 0)) := ⟨rfl, rfl, rfl, by decide +kernel, rfl, by decide +kernel, by decide +kernel⟩
theorem ok_B0 (C1 : BC K mg C) (D1 : DefD P w K mg base "check_world" 4 ["value"] spCheckW) (F : HasM K C "__init__" "Bench.__init__" (bM 0)) : MthK P w K mg base CX0 C "__init__" (4 + 1) ["self", "world"] (spInit K C) := by
  refine mth_mk F (fun _ _ _ _ _ _ us hl => match us, hl with | [_, _], _ => rfl) fun f fd F => F.ok sc_B0 (fun vs H Q E h => ?_) fun cdv A outer s0 H vs Q E hr h => ⟨_, PSs.nox pss_h, ?_⟩
  · obtain ⟨Hc, b, dx, v, wv, rfl, _⟩ := h
    rfl
  · obtain ⟨Hc, b, dx, v, wv, rfl, c, hb, hcb, hw, sm, q⟩ := h
    refine h_cons (h_expr (h_callD D1 hr rfl (ha_cons (pe_at 1 rfl (ha_nil ⟨Hc, [W v], .none, c, .cons hw .nil, ⟨v, sm.ok, rfl, rfl⟩, fun _ Hc1 H1 g1 _ => ?_⟩)))))
    have hb1 := g1.hh _ _ hb
    have cb1 := g1.nw _ (some_ne hb) hcb
    refine h_cons (h_sfld (pe_at 1 rfl (pe_at 0 rfl ⟨b, C, dx, [], rfl, hb1, C1.cl, C1.nW, by simp, ?_⟩)))
    have G1 : GS [b] Hc H Hc1 (upd H1 b (.ins C dx (L2.putF "world" wv []))) := (g1.gs).trans (GS.set g1.cor cb1 id (by simp))
    have e1 : L2.putF "world" wv [] = [(("world" : Str), wv)] := rfl
    rw [e1] at G1 ⊢
    refine h_cons (h_sfld (hx_of (pe_lst (pa_cons pe_h pa_nil)) (hx_of (pe_tup pa_nil) ⟨Nat.zero_le _, fun t nt => ⟨Nat.le_of_ble_eq_true rfl, fun bs ns => ?_⟩⟩)))
    have g2 := Grow.new (o := .tup []) G1.cor nt
    have G3 := (G1.trans g2.gs).trans (GS.newO g2.cor ns (o := .lst [.ref t]) id)
    have hb3 : (upd (upd (upd H1 b (.ins C dx [("world", wv)])) t (.tup [])) bs (.lst [.ref t])) b = some (.ins C dx [("world", wv)]) := by
      have h1 : (upd (upd H1 b (.ins C dx [("world", wv)])) t (.tup [])) b = some (.ins C dx [("world", wv)]) := by rw [upd_ne (ne_of_none upd_same nt), upd_same]
      rw [upd_ne (ne_of_none h1 ns)]
      exact h1
    have cb3 : (upd Hc1 t (.tup [])) b = none := G3.nw _ (some_ne hb) hcb
    refine pe_at 0 rfl ⟨b, C, dx, _, rfl, hb3, C1.cl, C1.nS, by simp, ?_⟩
    have e2 : L2.putF "states" (.ref bs) [(("world" : Str), wv)] = [(("world" : Str), wv), ("states", .ref bs)] := rfl
    rw [e2]
    have G4 := G3.trans (GS.set (S := [b]) G3.cor cb3 (o := .ins C dx [("world", wv), ("states", .ref bs)]) id (by simp))
    generalize hH4 : (upd (upd (upd (upd H1 b (.ins C dx [("world", wv)])) t (.tup [])) bs (.lst [.ref t])) b (.ins C dx [("world", wv), ("states", .ref bs)])) = H4 at G4 ⊢
    have hb4 : H4 b = some (.ins C dx [("world", wv), ("states", .ref bs)]) := by rw [← hH4, upd_same]
    have nbs : bs ≠ b := fun z => by rw [z] at ns; rw [upd_ne (ne_of_none upd_same nt), upd_same] at ns; cases ns
    have hs4 : H4 bs = some (.lst [.ref t]) := by rw [← hH4, upd_ne nbs, upd_same]
    have ct : (upd Hc1 t (.tup [])) t = some (.tup []) := upd_same
    have cbs : (upd Hc1 t (.tup [])) bs = none := g2.cor.sub.free ns
    have cw : Same Hc1 (upd Hc1 t (.tup [])) := g2.cc
    generalize hHc : (upd Hc1 t (.tup [])) = Hc4 at *
    refine h_cons (h_sfld (h_nilL fun bd nd => pe_at 0 rfl ⟨b, C, dx, _, rfl, by rw [upd_ne (ne_of_none hb4 nd)]; exact hb4, C1.cl, C1.nD, by simp, ?_⟩))
    have e3 : L2.putF "done" (.ref bd) [(("world" : Str), wv), ("states", .ref bs)] = [(("world" : Str), wv), ("states", .ref bs), ("done", .ref bd)] := rfl
    rw [e3]
    have G5 := G4.trans (GS.newO G4.cor nd (o := .lst []) id)
    have G6 := G5.trans (GS.set (S := [b]) G5.cor cb3 (o := .ins C dx [("world", wv), ("states", .ref bs), ("done", .ref bd)]) id (by simp))
    have nbd : bd ≠ b := fun z => by rw [z, hb4] at nd; cases nd
    have nsd : bs ≠ bd := fun z => by rw [← z, hs4] at nd; cases nd
    generalize hH6 : (upd (upd H4 bd (.lst [])) b (.ins C dx [("world", wv), ("states", .ref bs), ("done", .ref bd)])) = H6 at G6 ⊢
    have hb6 : H6 b = some (.ins C dx [("world", wv), ("states", .ref bs), ("done", .ref bd)]) := by rw [← hH6, upd_same]
    have hs6 : H6 bs = some (.lst [.ref t]) := by rw [← hH6, upd_ne nbs, upd_ne nsd, hs4]
    have hd6 : H6 bd = some (.lst []) := by rw [← hH6, upd_ne nbd, upd_same]
    refine h_one (h_sfld (h_nilL fun bu nu => pe_at 0 rfl ⟨b, C, dx, _, rfl, by rw [upd_ne (ne_of_none hb6 nu)]; exact hb6, C1.cl, C1.nU, by simp, ?_⟩))
    have e4 : L2.putF "undone" (.ref bu) [(("world" : Str), wv), ("states", .ref bs), ("done", .ref bd)] = [(("world" : Str), wv), ("states", .ref bs), ("done", .ref bd), ("undone", .ref bu)] := rfl
    rw [e4]
    have G7 := G6.trans (GS.newO G6.cor nu (o := .lst []) id)
    have G8 := G7.trans (GS.set (S := [b]) G7.cor cb3 (o := .ins C dx [("world", wv), ("states", .ref bs), ("done", .ref bd), ("undone", .ref bu)]) id (by simp))
    have nbu : bu ≠ b := fun z => by rw [z, hb6] at nu; cases nu
    have nsu : bs ≠ bu := fun z => by rw [← z, hs6] at nu; cases nu
    have ndu : bd ≠ bu := fun z => by rw [← z, hd6] at nu; cases nu
    have old : ∀ {a : Addr} {Hx : Hp}, (∀ a, H a ≠ none → Hx a ≠ none) → Hx a = none → H a = none := fun {a Hx} dm e => by
      cases e2 : H a with
      | none => rfl
      | some o => exact absurd e (dm a (some_ne e2))
    have os : H bs = none := old (fun a h => (G1.trans g2.gs).dm a h) ns
    have od : H bd = none := old (fun a h => G4.dm a h) nd
    have ou : H bu = none := old (fun a h => G6.dm a h) nu
    refine q bs bd bu Hc4 _ G8 os od ou ⟨nw_ok sm, ⟨wv, upd_same, (hw.same g1.cc).same cw⟩, ⟨[.ref t], ?_, .cons (L2.Dp.tup (.inl (.inl ct)) .nil) .nil⟩, ⟨[], ?_, .nil⟩, ⟨[], ?_, .nil⟩, cb3, cbs, G4.cor.sub.free nd, G6.cor.sub.free nu, nsd, nsu, ndu⟩
    · rw [upd_ne nbs, upd_ne nsu, hs6]
    · rw [upd_ne nbd, upd_ne ndu, hd6]
    · rw [upd_ne nbu, upd_same]
end
end Tr
set_option Elab.async false
set_option linter.all false
set_option maxRecDepth 100000
set_option maxHeartbeats 1000000
set_option autoImplicit false
/-! W27: check_number, drop, undo, redo: they may raise -/
namespace Tr
open PySem PySem.Spec PyProof.Rows L2 DL
/-- an exception's class that stands in the text -/
structure XC (K : PySem.W.Frag) (mg : Str → Option Value) (x : Str) (C : Addr) : Prop where
  g : mg x = some (.ref C)
  x : PySem.W.excIn K C [.type "ValueError", .type "Exception", .type "BaseException", .type "object"] "ValueError.__new__" = true
  k : PySem.W.keepIn K (.ref C) = true
  b : PySem.W.subIn K (.ref C) (.type "BaseException") = some true
  t : PySem.W.typeIn K (.ref C) = some (.type "type")
theorem h_raise {X : Cx} {x m : Str} {C : Addr} {j : Nat} {p p2 pos pos2 : Pos} {W : L2.WX} {Z : Ends} {σ : L2.St} {H : Hp} (h : XC X.K X.mg x C) (tk : Takes X W) (hW : W (.ref C) none σ H) (hg : Gl X x := by rfl) (hc : X.calm = true := by rfl) (hdb : (x == ("__debug__" : Str)) = false := by decide) :
    HS X (.Raise (some (.Call (.Name x p) [.Constant (.str m) j p2] [] pos)) none pos2) Z σ H := hs_of (ps_raise hc tk (pmk_own PySem.F.excBase_ValueError h.x h.g h.k (raises_own h.b h.t) hg hdb)) hW
structure DefKX (P : Program) (w : World) (K : PySem.W.Frag) (mg : Str → Option Value) (base : Heap) (x : Str) (k : Nat) (ps : List Str) (sp : Sp) : Prop where
  ex : ∃ f fd, mg x = some (.ref f) ∧ PySem.W.keepIn K (.ref f) = true ∧ Binds K fd ps [] ∧ FnOk P w K mg base (L2.CX P w) k f fd ps sp
theorem def_mkX {P : Program} {w : World} {K : PySem.W.Frag} {mg : Str → Option Value} {base : Heap} {x : Str} {st : Stmt} {k : Nat} {ps : List Str} {sp : Sp} (H : Has K mg x st)
    (h : ∀ (kV doc pm : Value) (an : Option Addr) (cdv ct : Value) (us : List Value), us.length = ps.length → bindArgs (PySem.W.fnOf x x (defArgs st) (defBody st) (defScope st) .none kV doc pm an cdv ct) ⟨us, []⟩ = pure (ps.zip us))
    (ok : ∀ f fd, FunD K x x (defArgs st) (defBody st) (defScope st) [] [] f fd → FnOk P w K mg base (L2.CX P w) k f fd ps sp) : DefKX P w K mg base x k ps sp := by
  obtain ⟨f, fd, F, hm⟩ := H
  exact ⟨f, fd, hm, F.kp, F.bindsN h, ok f fd F⟩
/-- a def that may raise, called where what it raises goes on -/
theorem h_callX {X : Cx} {x : Str} {k : Nat} {ps : List Str} {sp : Sp} {e : Expr} {es : List Expr} {p pos : Pos} {σ : L2.St} {H : Hp} {Q : VK} {W : L2.WX} (F : DefKX X.prog X.w X.K X.mg X.base x k ps sp) (hr : Room k X.A) (hg : Gl X x) (tk : Takes X W) (h : HA X (e :: es) σ H fun vs H1 => sp vs H1 Q (WE W σ))
    (hdb : (x == ("__debug__" : Str)) = false := by decide) (he : starEach (e :: es) X.env = (false, eval e X.env) :: starEach es X.env := by rfl) (hpl : (backTo pos (starEach es X.env)).any (·.1) = false := by rfl) : HX X (.Call (.Name x p) (e :: es) [] pos) σ H Q := by
  obtain ⟨f, fd, hm, hk, hb, ok⟩ := F.ex
  exact hx_of (pe_callS ok hr hg hm hk hb (fun σ => passAt tk σ) pa_h hdb he hpl) h
section
variable {P : Program} {w : World} {K : PySem.W.Frag} {mg : Str → Option Value} {base : Heap} {C CN CU : Addr}
/-! check_number -/
def spCkN (K : PySem.W.Frag) (CN : Addr) : Sp := fun vs H Q E => ∃ (Hc : Hp) (is : List Inst) (n : Nat), Cor Hc H ∧ DqAll K Hc vs [encIs is, .int (n : Nat)] ∧ (n < is.length → ∀ Hc1 H1, Grow Hc H Hc1 H1 → Q .non H1) ∧ (¬ n < is.length → ∀ Hc1 H1, Grow Hc H Hc1 H1 → E (.ref CN) none H1)
abbrev N_ck : List Str := ["instances", "number"]
theorem sc_ck : FnScope N_ck ["instances", "number"] (defScope (top 51)) := ⟨rfl, rfl, rfl, by decide +kernel, rfl, by decide +kernel, by decide +kernel⟩
theorem ok_check_number (B : Blt mg) (XN : XC K mg "InvalidNumber" CN) (D1 : DefD P w K mg base "is_between" 1 ["value", "low", "high"] spBetween) (F : Has K mg "check_number" (top 51)) : DefKX P w K mg base "check_number" (1 + 1) ["instances", "number"] (spCkN K CN) := by
  refine def_mkX F (fun _ _ _ _ _ _ us hl => match us, hl with | [_, _], _ => rfl) fun f fd F => F.ok sc_ck (fun vs H Q E h => ?_) fun cdv A outer s0 H vs Q E hr h => ⟨_, pss_h, ?_⟩
  · obtain ⟨Hc, is, n, c, pa, _⟩ := h
    rw [pa.len]
    rfl
  · obtain ⟨Hc, is, n, c, pa, q1, q2⟩ := h
    have hs : DSX K Hc (L2.start N_ck vs) H [some (encIs is), some (.int (n : Nat))] := dsx_start (N := N_ck) c pa
    have tk := takes_of (X := cxOf (L2.CX P w) P w K mg base N_ck "check_number" (defScope (top 51)) f cdv A outer s0 H E) (E := E) rfl rfl rfl rfl
    refine h_one (h_if (EVt.at (k := !decide (n < is.length)) (bT (et_not (tV (ev_call D1 hr rfl (eq_cons (ev_v 1 rfl) (eq_cons ev_int (eq_cons (ev_sub (ev_lenT B (ds := is.map encI) (ev_v 0 rfl)) ev_int) eq_nil))) ⟨_, _, _, rfl, rfl⟩))) ?_) hs fun Hc1 H1 g => ?_))
    · rw [List.length_map]
      congr 1
      rw [Bool.eq_iff_iff]
      simp only [Bool.and_eq_true, decide_eq_true_eq]
      omega
    · by_cases hn : n < is.length
      · rw [decide_eq_true hn]
        exact h_nil (q1 hn Hc1 H1 g)
      · rw [decide_eq_false hn]
        exact h_one (h_raise XN tk (q2 hn Hc1 H1 g))
/-! drop -/
def spDrop (K : PySem.W.Frag) (C CN : Addr) : Sp := fun vs H Q E => ∃ (Hc : Hp) (b dx bs bd bu : Addr) (v : Wd) (s : BSt) (n : Nat), vs = [.ref b, .int (n : Nat)] ∧ Cor Hc H ∧ BnA K C Hc H b dx bs bd bu v s ∧ s.old.length < 900 ∧
  (∀ (h : n < s.cur.length) bu' r Hc1 H1, GS [b, bs, bd] Hc H Hc1 H1 → H bu' = none → BnA K C Hc1 H1 b dx bs bd bu' v (s.push (.drop n) (without s.cur n)) → Dq K Hc1 r (encI s.cur[n]) → Q r H1) ∧
  (¬ n < s.cur.length → ∀ Hc1 H1, Grow Hc H Hc1 H1 → E (.ref CN) none H1)
abbrev N_Bd : List Str := ["self", "number", "state"]
theorem sc_Bd : FnScope N_Bd ["self", "number"] (defScope (bM 6)) := ⟨rfl, rfl, rfl, by decide +kernel, rfl, by decide +kernel, by decide +kernel⟩
theorem ok_Bd (B : Blt mg) (C1 : BC K mg C) (D1 : DefKX P w K mg base "check_number" (1 + 1) ["instances", "number"] (spCkN K CN)) (D2 : MthK P w K mg base CX0 C "perform" (0 + 1) ["self", "operation", "state"] (spPf K C)) (F : HasM K C "drop" "Bench.drop" (bM 6)) : MthK P w K mg base (L2.CX P w) C "drop" (2 + 1) ["self", "number"] (spDrop K C CN) := by
  refine mth_mk F (fun _ _ _ _ _ _ us hl => match us, hl with | [_, _], _ => rfl) fun f fd F => F.ok sc_Bd (fun vs H Q E h => ?_) fun cdv A outer s0 H vs Q E hr h => ⟨_, pss_h, ?_⟩
  · obtain ⟨Hc, b, dx, bs, bd, bu, v, s, n, rfl, _⟩ := h
    rfl
  · obtain ⟨Hc, b, dx, bs, bd, bu, v, s, n, rfl, c, hB, hz, q1, q2⟩ := h
    have tk := takes_of (X := cxOf (L2.CX P w) P w K mg base N_Bd "Bench.drop" (defScope (bM 6)) f cdv A outer s0 H E) (E := E) rfl rfl rfl rfl
    refine h_cons (h_set 2 sc_Bd.nd (h_cur 0 rfl C1 hB fun y hy => ?_))
    have hs : DSX K Hc (List.set (L2.start N_Bd [.ref b, .int (n : Nat)]) 2 (some y)) H [some (adM b), some (.int (n : Nat)), some (encIs s.cur)] := (dsx_start (N := N_Bd) c (.cons (ad_of b) (.cons (show Dq K Hc (.int (n : Nat)) (.int (n : Nat)) from L2.Dp.int _) .nil))).set 2 hy.q
    refine h_cons (h_expr (h_callX D1 hr rfl tk (ha_cons (pe_at 2 rfl (ha_cons (pe_at 1 rfl (ha_nil ⟨Hc, s.cur, n, c, .cons hy.q (.cons (L2.Dp.int _) .nil), fun hn Hc1 H1 g1 => ?_, fun hn Hc1 H1 g1 => q2 hn Hc1 H1 g1⟩)))))))
    have hB1 := hB.grow g1
    have hs1 := hs.grow g1
    obtain ⟨wv, i1, i2⟩ := hB1.ins
    refine h_cons (h_expr (h_meth C1.cl D2 (hr.mono (by decide)) pass0 (pe_at 0 rfl ⟨b, dx, _, rfl, i1, rfl, ha_cons (EVd.at (d := encOp (.drop n)) (ev_tup (ea_cons ev_str (ea_cons (d := .int (n : Nat)) (ev_v 1 rfl) ea_nil)) le2) hs1 fun v1 Hc3 H3 g3 p3 => ?_)⟩)))
    have hs3 := hs1.grow g3
    have h8 := hB.ok.c.1
    refine ha_cons (EVd.at (d := encIs (without s.cur n)) (EVd.is (ev_catT (ds := DL.cutD (s.cur.map encI) none (some (n : Int))) (es1 := DL.cutD (s.cur.map encI) (some ((n : Int) + 1)) none) (ev_slT (ev_v 2 rfl) eo_none (eo_some (ev_v 1 rfl))) (ev_slT (ev_v 2 rfl) (eo_some (ev_add (ev_v 1 rfl) ev_int)) eo_none) ?_) ?_) hs3 fun v2 Hc4 H4 g4 p4 => ha_nil ?_)
    · have e1 : ((n : Int) + 1) = ((n + 1 : Nat) : Int) := by omega
      rw [e1, cut_lo _ _ (by rw [List.length_map]; omega), cut_hi _ _ (by rw [List.length_map]; omega), List.length_take, List.length_drop, List.length_map]
      exact Nat.le_trans (by omega : _ ≤ 100) (by decide)
    · have e1 : ((n : Int) + 1) = ((n + 1 : Nat) : Int) := by omega
      rw [e1, cut_lo _ _ (by rw [List.length_map]; omega), cut_hi _ _ (by rw [List.length_map]; omega), map_take_I, map_drop_I, ← List.map_append]
      rfl
    have hs4 := hs3.grow g4
    refine ⟨Hc4, b, dx, bs, bd, bu, v, s, v1, v2, .drop n, without s.cur n, rfl, g4.cor, (hB1.grow g3).grow g4, ((show Dp K Hc3 v1 (encOp (.drop n)) from p3).same g4.cc), p4, trivial, without_ok hB.ok.c, hz, fun bu' H5 G hb' hB5 => ?_⟩
    have G5 : GS [b, bs, bd] Hc H Hc4 H5 := (((g1.gs).trans g3.gs).trans g4.gs).trans G
    have hb0 : H bu' = none := by
      cases e : H bu' with
      | none => rfl
      | some o => exact absurd hb' (((g1.gs (S := [])).trans g3.gs).trans g4.gs |>.dm _ (some_ne e))
    refine h_one (h_ret (EVd.at (ev_ixT (ds := s.cur.map encI) (d := encI s.cur[n]) (ev_v 2 rfl) (ev_v 1 rfl) (atI_nat ?_)) (hs4.gs G) fun r Hc6 H6 g6 p6 => ?_))
    · rw [List.getElem?_map, List.getElem?_eq_getElem hn]
      rfl
    exact q1 hn bu' r Hc6 H6 (G5.trans g6.gs) hb0 (hB5.grow g6) p6
/-! undo -/
def spUndo (K : PySem.W.Frag) (C CU : Addr) : Sp := fun vs H Q E => ∃ (Hc : Hp) (b dx bs bd bu : Addr) (v : Wd) (s : BSt), vs = [.ref b] ∧ Cor Hc H ∧ BnA K C Hc H b dx bs bd bu v s ∧
  (∀ old o cur ops op und, s = ⟨old ++ [o], cur, ops ++ [op], und⟩ → ∀ r Hc1 H1, GS [b, bs, bd, bu] Hc H Hc1 H1 → BnA K C Hc1 H1 b dx bs bd bu v ⟨old, o, ops, und ++ [(op, cur)]⟩ → Dq K Hc1 r (.str op.nm) → Q r H1) ∧
  (s.ops = [] → ∀ Hc1 H1, Grow Hc H Hc1 H1 → E (.ref CU) none H1)
abbrev N_Bu : List Str := ["self", "operation"]
theorem sc_Bu : FnScope N_Bu ["self"] (defScope (bM 11)) := ⟨rfl, rfl, rfl, by decide +kernel, rfl, by decide +kernel, by decide +kernel⟩
/-- xs == [] for a tracked list -/
theorem h_isNil {X : Cx} {o : Expr} {pos p2 : Pos} {σ : L2.St} {H Hc : Hp} {Q : Bool → Hp → Prop} {a : Addr} {xs : List V} {ds : List D} (cor : Cor Hc H) (h : ∀ Q : VK, Q (.ref a) H → HX X o σ H Q) (ha : H a = some (.lst xs)) (hd : DpAll X.K Hc xs ds) (hl : PyData.canLayAll0 ds = true) (hu : X.A.units + 1 < cLine) (q : ∀ p, H p = none → Q (decide (ds = [])) (upd H p (.lst []))) :
    HT X (.Compare o [.Eq] [.List [] p2] pos) σ H Q := by
  refine ht_of (pt_cmpR op_eqR pe_h pe_h nomk) (h _ (h_nilL fun p np => ?_))
  have hne : a ≠ p := fun z => by rw [z, np] at ha; cases ha
  have hs : Same H (upd H p (.lst [])) := same_new np
  refine ⟨.list ds, .list [], L2.Dp.lst (.inl (.inl (by rw [upd_ne hne]; exact ha))) (hd.same (cor.sub.trans hs)), L2.Dp.lst (.inl (.inl upd_same)) .nil, ?_, rfl, ?_, _, rfl, ?_⟩
  · rw [PyData.canLay0]
    exact hl
  · have : min (PyData.depth (.list ds)) (PyData.depth (.list [])) ≤ 1 := Nat.le_trans (Nat.min_le_right _ _) (by simp [PyData.depth, PyData.depthAll])
    omega
  · have e : PyData.eqv (.list ds) (.list []) = decide (ds = []) := by cases ds <;> rfl
    rw [e]
    exact q p np
theorem snoc_of {α : Type} {l : List α} (h : l ≠ []) : ∃ m x, l = m ++ [x] := ⟨l.dropLast, l.getLast h, (List.dropLast_concat_getLast h).symm⟩
theorem dps_snoc {K : PySem.W.Frag} {Hc : Hp} {xs : List V} {l : List D} {d : D} (h : DpAll K Hc xs (l ++ [d])) : ∃ ys y, xs = ys ++ [y] ∧ DpAll K Hc ys l ∧ Dp K Hc y d := by
  have hl := h.len
  rw [List.length_append, List.length_singleton] at hl
  have hne : xs ≠ [] := fun z => by rw [z] at hl; simp at hl
  obtain ⟨ys, y, rfl⟩ := snoc_of hne
  have hl2 : ys.length = l.length := by simpa using hl
  refine ⟨ys, y, rfl, ?_, ?_⟩
  · have := h.take l.length
    rw [List.take_left, ← hl2, List.take_left] at this
    exact this
  · obtain ⟨u, h1, h2⟩ := h.get (i := l.length) (d := d) (by simp)
    rw [← hl2] at h1
    simp at h1
    rw [h1]
    exact h2
def opD : Op → D
  | .add i => encI i
  | .drop n => .int (n : Nat)
theorem encOp_eq (o : Op) : encOp o = .tuple [.str o.nm, opD o] := by cases o <;> rfl
theorem BnA.eb {Hc H : Hp} {b dx bs bd bu : Addr} {v : Wd} {s : BSt} (h : BnA K C Hc H b dx bs bd bu v s) : H b ≠ none := by
  obtain ⟨_, h1, _⟩ := h.ins
  exact some_ne h1
theorem BnA.es {Hc H : Hp} {b dx bs bd bu : Addr} {v : Wd} {s : BSt} (h : BnA K C Hc H b dx bs bd bu v s) : H bs ≠ none := by
  obtain ⟨_, h1, _⟩ := h.ls
  exact some_ne h1
theorem BnA.ed {Hc H : Hp} {b dx bs bd bu : Addr} {v : Wd} {s : BSt} (h : BnA K C Hc H b dx bs bd bu v s) : H bd ≠ none := by
  obtain ⟨_, h1, _⟩ := h.ld
  exact some_ne h1
theorem BnA.eu {Hc H : Hp} {b dx bs bd bu : Addr} {v : Wd} {s : BSt} (h : BnA K C Hc H b dx bs bd bu v s) : H bu ≠ none := by
  obtain ⟨_, h1, _⟩ := h.lu
  exact some_ne h1
theorem ok_Bu (C1 : BC K mg C) (XU : XC K mg "NothingToUndo" CU) (F : HasM K C "undo" "Bench.undo" (bM 11)) : MthK P w K mg base (L2.CX P w) C "undo" (0 + 1) ["self"] (spUndo K C CU) := by
  refine mth_mk F (fun _ _ _ _ _ _ us hl => match us, hl with | [_], _ => rfl) fun f fd F => F.ok sc_Bu (fun vs H Q E h => ?_) fun cdv A outer s0 H vs Q E hr h => ⟨_, pss_h, ?_⟩
  · obtain ⟨Hc, b, dx, bs, bd, bu, v, s, rfl, _⟩ := h
    rfl
  · obtain ⟨Hc, b, dx, bs, bd, bu, v, s, rfl, c, hB, q1, q2⟩ := h
    have tk := takes_of (X := cxOf (L2.CX P w) P w K mg base N_Bu "Bench.undo" (defScope (bM 11)) f cdv A outer s0 H E) (E := E) rfl rfl rfl rfl
    obtain ⟨ys, d1, d2⟩ := hB.ld
    have hl0 : PyData.canLayAll0 (s.ops.map encOp) = true := layL2 encOp s.ops fun o ho => (lay_Op hB.ok.sm.ok (hB.ok.p o ho)).1
    have hu1 := hr.u 1
    refine h_cons (h_if (h_isNil c (fun Q q => h_done 0 rfl C1 hB q) d1 d2 hl0 (by show (A.deeper _).units + 1 < cLine; omega) fun p np => ?_))
    have G1 : GS [b, bs, bd, bu] Hc H Hc (upd H p (.lst [])) := GS.newO c np id
    have g1 : Grow Hc H Hc (upd H p (.lst [])) := (GS.newO (S := []) c np id).grow
    by_cases he : s.ops = []
    · rw [he]
      exact h_one (h_raise XU tk (q2 he Hc _ g1))
    · rw [decide_eq_false (fun z => he (List.map_eq_nil_iff.mp z))]
      refine h_nil ?_
      have hB1 := hB.grow g1
      obtain ⟨old, cur, ops, und⟩ := s
      obtain ⟨ops, op, rfl⟩ := snoc_of he
      have hlen : old.length = ops.length + 1 := by
        have := hB.ok.len
        simpa using this
      obtain ⟨old, o, rfl⟩ := snoc_of (l := old) (fun z => by rw [z] at hlen; simp at hlen)
      generalize (upd H p (.lst [])) = H1 at *
      obtain ⟨wv, i1, i2⟩ := hB1.ins
      obtain ⟨xs, s1, s2⟩ := hB1.ls
      obtain ⟨ys, d1, d2⟩ := hB1.ld
      obtain ⟨zs, u1, u2⟩ := hB1.lu
      obtain ⟨n1, n2, n3⟩ := hB1.bne
      rw [List.map_append] at s2 d2
      obtain ⟨xs, xl, rfl, s2, s3⟩ := dps_snoc s2
      obtain ⟨ys, yl, rfl, d2, d3⟩ := dps_snoc d2
      refine h_cons (h_set 1 sc_Bu.nd (h_pop (h_done 0 rfl C1 hB1 ⟨bd, ys, yl, rfl, d1, ?_⟩)))
      have G2 := G1.trans (GS.set (S := [b, bs, bd, bu]) G1.cor hB1.cd (o := .lst ys) id (by simp))
      have j1 : (upd H1 bd (.lst ys)) b = some (.ins C dx [("world", wv), ("states", .ref bs), ("done", .ref bd), ("undone", .ref bu)]) := by rw [upd_ne n2]; exact i1
      have j2 : (upd H1 bd (.lst ys)) bu = some (.lst zs) := by rw [upd_ne (Ne.symm hB1.du)]; exact u1
      have j3 : (upd H1 bd (.lst ys)) bs = some (.lst (xs ++ [xl])) := by rw [upd_ne hB1.sd]; exact s1
      refine h_cons (h_append (h_fld 0 rfl j1 C1.cl C1.nU rfl ⟨bu, zs, rfl, j2, hx_of (pe_tup pa_h) (ha_cons (pe_at 1 rfl (ha_cons (h_pop (h_fld 0 rfl j1 C1.cl C1.nS rfl ⟨bs, xs, xl, rfl, j3, ha_nil ⟨Nat.le_of_ble_eq_true rfl, fun t nt => ?_⟩⟩)))))⟩))
      have G3 := G2.trans (GS.set (S := [b, bs, bd, bu]) G2.cor hB1.cs (o := .lst xs) id (by simp))
      have g4 := Grow.new (o := .tup [yl, xl]) G3.cor nt
      have G4 := G3.trans g4.gs
      have k1 : (upd (upd (upd H1 bd (.lst ys)) bs (.lst xs)) t (.tup [yl, xl])) bu = some (.lst zs) := g4.hh _ _ (by rw [upd_ne (Ne.symm hB1.su)]; exact j2)
      have k2 : (upd (upd (upd H1 bd (.lst ys)) bs (.lst xs)) t (.tup [yl, xl])) b = some (.ins C dx [("world", wv), ("states", .ref bs), ("done", .ref bd), ("undone", .ref bu)]) := g4.hh _ _ (by rw [upd_ne n1]; exact j1)
      have k3 : (upd (upd (upd H1 bd (.lst ys)) bs (.lst xs)) t (.tup [yl, xl])) bs = some (.lst xs) := g4.hh _ _ upd_same
      have k4 : (upd (upd (upd H1 bd (.lst ys)) bs (.lst xs)) t (.tup [yl, xl])) bd = some (.lst ys) := g4.hh _ _ (by rw [upd_ne (Ne.symm hB1.sd), upd_same])
      have ct : (upd Hc t (.tup [yl, xl])) t = some (.tup [yl, xl]) := upd_same
      have cc := g4.cc
      have cu4 : (upd Hc t (.tup [yl, xl])) bu = none := G4.nw _ hB.eu hB.cu
      have cb4 : (upd Hc t (.tup [yl, xl])) b = none := G4.nw _ hB.eb hB.cb
      have cs4 : (upd Hc t (.tup [yl, xl])) bs = none := G4.nw _ hB.es hB.cs
      have cd4 : (upd Hc t (.tup [yl, xl])) bd = none := G4.nw _ hB.ed hB.cd
      generalize (upd (upd (upd H1 bd (.lst ys)) bs (.lst xs)) t (.tup [yl, xl])) = H4 at *
      generalize (upd Hc t (.tup [yl, xl])) = Hc4 at *
      have hzl : zs.length < sizeLine := by
        rw [u2.len, List.length_map]
        have := hB.ok.z
        simp at this
        exact Nat.lt_of_le_of_lt (by show _ ≤ 1000; simp; omega) (by decide : 1000 < sizeLine)
      refine ⟨zs, k1, hzl, ?_⟩
      have G5 := G4.trans (GS.set (S := [b, bs, bd, bu]) G4.cor cu4 (o := .lst (zs ++ [.ref t])) id (by simp))
      have pd : Dp K Hc4 yl (encOp op) := d3.same cc
      have hs : DSX K Hc4 (List.set (L2.start N_Bu [.ref b]) 1 (some yl)) (upd H4 bu (.lst (zs ++ [.ref t]))) [some (adM b), some (encOp op)] := (dsx_start (N := N_Bu) G5.cor (DqAll.one (ad_of b))).set 1 pd.q
      have hB5 : BnA K C Hc4 (upd H4 bu (.lst (zs ++ [.ref t]))) b dx bs bd bu v ⟨old, o, ops, und ++ [(op, cur)]⟩ := by
        refine ⟨hB.ok.back, ⟨wv, by rw [upd_ne n3]; exact k2, i2.same cc⟩, ⟨xs, by rw [upd_ne hB1.su]; exact k3, ?_⟩, ⟨ys, by rw [upd_ne hB1.du]; exact k4, d2.same cc⟩, ⟨zs ++ [.ref t], upd_same, ?_⟩, cb4, cs4, cd4, cu4, hB1.sd, hB1.su, hB1.du⟩
        · exact s2.same cc
        · rw [List.map_append]
          exact (u2.same cc).app (.cons (L2.Dp.tup (.inl (.inl ct)) (.cons pd (.cons (s3.same cc) .nil))) .nil)
      refine h_one (h_ret (EVd.at (d := .str op.nm) (ev_ixT (ds := [.str op.nm, opD op]) (EVd.is (ev_v 1 rfl) (encOp_eq op)) ev_int rfl) hs fun r Hc6 H6 g6 p6 => ?_))
      exact q1 old o cur ops op und rfl r Hc6 H6 (G5.trans g6.gs) (hB5.grow g6) p6
end
end Tr
set_option Elab.async false
set_option linter.all false
set_option maxRecDepth 100000
set_option maxHeartbeats 1000000
set_option autoImplicit false
/-! W28: redo; the law's own town and steps on plain lists -/
namespace Tr
open PySem PySem.Spec PyProof.Rows L2 DL
theorem h_unpack {X : Cx} {es : List Expr} {k : Nat} {p2 pos : Pos} {e : Expr} {Z : Ends} {σ : L2.St} {H : Hp} (h : HX X e σ H fun v H1 => ∃ Hc1 env env' d js, DSX X.K Hc1 σ H1 env ∧ Dq X.K Hc1 v d ∧ GV X (.Tuple es k p2) d env env' js ∧ ∀ σ', DSX X.K Hc1 σ' H1 env' → Z.nx σ' H1)
    (hs : swapsWithSole [.Tuple es k p2] e pos.line X.env = pure false := by rfl) (hw : swappedStores [.Tuple es k p2] e X.env = pure none := by rfl) (h1 : (assignEach [.Tuple es k p2] X.env).map (·.2) = [assign (.Tuple es k p2) X.env] := by rfl) : HS X (.Assign [.Tuple es k p2] e pos) Z σ H :=
  hs_of (ps_asg pe_w pg_w hs hw h1) (wx_mono h.r fun v H1 hx => by
    obtain ⟨Hc1, env, env', d, js, h1, h2, h3, h4⟩ := hx
    exact h3 Hc1 σ H1 h1 v h2 _ fun σ' hs' _ _ => h4 σ' hs')
theorem DSX.ad {K : PySem.W.Frag} {Hc H : Hp} {σ : L2.St} {env : DEnv} {i : Nat} {b : Addr} (h : DSX K Hc σ H env) (e : env[i]? = some (some (adM b))) : σ[i]? = some (some (.ref b)) := by
  obtain ⟨v, h1, h2⟩ := h.at_ i _ e
  rw [h1, ad_ref h2]
section
variable {P : Program} {w : World} {K : PySem.W.Frag} {mg : Str → Option Value} {base : Heap} {C CN CU : Addr}
def spRedo (K : PySem.W.Frag) (C CU : Addr) : Sp := fun vs H Q E => ∃ (Hc : Hp) (b dx bs bd bu : Addr) (v : Wd) (s : BSt), vs = [.ref b] ∧ Cor Hc H ∧ BnA K C Hc H b dx bs bd bu v s ∧
  (∀ old cur ops und op st, s = ⟨old, cur, ops, und ++ [(op, st)]⟩ → ∀ r Hc1 H1, GS [b, bs, bd, bu] Hc H Hc1 H1 → BnA K C Hc1 H1 b dx bs bd bu v ⟨old ++ [cur], st, ops ++ [op], und⟩ → Dq K Hc1 r (.str op.nm) → Q r H1) ∧
  (s.und = [] → ∀ Hc1 H1, Grow Hc H Hc1 H1 → E (.ref CU) none H1)
abbrev N_Br : List Str := ["self", "operation", "state"]
theorem sc_Br : FnScope N_Br ["self"] (defScope (bM 12)) := ⟨rfl, rfl, rfl, by decide +kernel, rfl, by decide +kernel, by decide +kernel⟩
theorem ok_Br (C1 : BC K mg C) (XU : XC K mg "NothingToUndo" CU) (F : HasM K C "redo" "Bench.redo" (bM 12)) : MthK P w K mg base (L2.CX P w) C "redo" (0 + 1) ["self"] (spRedo K C CU) := by
  refine mth_mk F (fun _ _ _ _ _ _ us hl => match us, hl with | [_], _ => rfl) fun f fd F => F.ok sc_Br (fun vs H Q E h => ?_) fun cdv A outer s0 H vs Q E hr h => ⟨_, pss_h, ?_⟩
  · obtain ⟨Hc, b, dx, bs, bd, bu, v, s, rfl, _⟩ := h
    rfl
  · obtain ⟨Hc, b, dx, bs, bd, bu, v, s, rfl, c, hB, q1, q2⟩ := h
    have tk := takes_of (X := cxOf (L2.CX P w) P w K mg base N_Br "Bench.redo" (defScope (bM 12)) f cdv A outer s0 H E) (E := E) rfl rfl rfl rfl
    obtain ⟨zs, u1, u2⟩ := hB.lu
    have hl0 : PyData.canLayAll0 (s.und.map encU) = true := layL2 encU s.und fun p hp => (lay_U hB.ok.sm.ok (hB.ok.q p hp) (hB.ok.u p hp)).1
    have hu1 := hr.u 1
    refine h_cons (h_if (h_isNil c (fun Q q => h_undone 0 rfl C1 hB q) u1 u2 hl0 (by show (A.deeper _).units + 1 < cLine; omega) fun p np => ?_))
    have G1 : GS [b, bs, bd, bu] Hc H Hc (upd H p (.lst [])) := GS.newO c np id
    have g1 : Grow Hc H Hc (upd H p (.lst [])) := (GS.newO (S := []) c np id).grow
    by_cases he : s.und = []
    · rw [he]
      exact h_one (h_raise XU tk (q2 he Hc _ g1))
    · rw [decide_eq_false (fun z => he (List.map_eq_nil_iff.mp z))]
      refine h_nil ?_
      have hB1 := hB.grow g1
      obtain ⟨old, cur, ops, und⟩ := s
      obtain ⟨und, ⟨op, st⟩, rfl⟩ := snoc_of he
      generalize (upd H p (.lst [])) = H1 at *
      obtain ⟨wv, i1, i2⟩ := hB1.ins
      obtain ⟨xs, s1, s2⟩ := hB1.ls
      obtain ⟨ys, d1, d2⟩ := hB1.ld
      obtain ⟨zs, u1, u2⟩ := hB1.lu
      obtain ⟨n1, n2, n3⟩ := hB1.bne
      rw [List.map_append] at u2
      obtain ⟨zs, zl, rfl, u2, u3⟩ := dps_snoc u2
      refine h_cons (h_unpack (h_pop (h_undone 0 rfl C1 hB1 ⟨bu, zs, zl, rfl, u1, ?_⟩)))
      have G2 := G1.trans (GS.set (S := [b, bs, bd, bu]) G1.cor hB1.cu (o := .lst zs) id (by simp))
      have j1 : (upd H1 bu (.lst zs)) b = some (.ins C dx [("world", wv), ("states", .ref bs), ("done", .ref bd), ("undone", .ref bu)]) := by rw [upd_ne n3]; exact i1
      have j2 : (upd H1 bu (.lst zs)) bs = some (.lst xs) := by rw [upd_ne hB1.su]; exact s1
      have j3 : (upd H1 bu (.lst zs)) bd = some (.lst ys) := by rw [upd_ne hB1.du]; exact d1
      have j4 : (upd H1 bu (.lst zs)) bu = some (.lst zs) := upd_same
      have hs0 : DSX K Hc (L2.start N_Br [.ref b]) (upd H1 bu (.lst zs)) [some (adM b), none, none] := dsx_start (N := N_Br) G2.cor (DqAll.one (ad_of b))
      have cb1 := hB1.cb
      have cs1 := hB1.cs
      have cd1 := hB1.cd
      have cu1 := hB1.cu
      generalize (upd H1 bu (.lst zs)) = H2 at *
      refine ⟨Hc, _, [some (adM b), some (encOp op), some (encIs st)], encU (op, st), _, hs0, u3.q, gv_tup rfl (gvs_cons (gv_name sc_Br.nd (i := 1) rfl (.inl rfl)) (gvs_cons (gv_name sc_Br.nd (i := 2) rfl (.inl rfl)) gvs_nil)) rfl, fun σ3 hs3 => ?_⟩
      have v0 := DSX.ad hs3 (i := 0) rfl
      obtain ⟨ov, v1, po⟩ := hs3.at_ 1 _ rfl
      obtain ⟨sv, v2, ps⟩ := hs3.at_ 2 _ rfl
      have po : Dp K Hc ov (encOp op) := po.p (by rw [encOp_eq]; rfl)
      have ps : Dp K Hc sv (encIs st) := ps
      have hz := hB.ok.z
      have hxl : xs.length < sizeLine := by
        rw [s2.len, List.length_map, List.length_append]
        exact Nat.lt_of_le_of_lt (by simp at hz ⊢; omega : _ ≤ 1001) (by decide)
      have hyl : ys.length < sizeLine := by
        rw [d2.len, List.length_map]
        have := hB.ok.len
        simp at hz this ⊢
        exact Nat.lt_of_le_of_lt (by omega : _ ≤ 1000) (by decide)
      refine h_cons (h_append (h_fld 0 v0 j1 C1.cl C1.nS rfl ⟨bs, xs, rfl, j2, pe_at 2 v2 ⟨xs, j2, hxl, ?_⟩⟩))
      have G3 := G2.trans (GS.set (S := [b, bs, bd, bu]) G2.cor cs1 (o := .lst (xs ++ [sv])) id (by simp))
      have k1 : (upd H2 bs (.lst (xs ++ [sv]))) b = some (.ins C dx [("world", wv), ("states", .ref bs), ("done", .ref bd), ("undone", .ref bu)]) := by rw [upd_ne n1]; exact j1
      have k2 : (upd H2 bs (.lst (xs ++ [sv]))) bd = some (.lst ys) := by rw [upd_ne (Ne.symm hB1.sd)]; exact j3
      refine h_cons (h_append (h_fld 0 v0 k1 C1.cl C1.nD rfl ⟨bd, ys, rfl, k2, pe_at 1 v1 ⟨ys, k2, hyl, ?_⟩⟩))
      have G4 := G3.trans (GS.set (S := [b, bs, bd, bu]) G3.cor cd1 (o := .lst (ys ++ [ov])) id (by simp))
      have hs5 := (hs3.gs (S := [b, bs, bd, bu]) (GS.set hs3.cor cs1 (o := .lst (xs ++ [sv])) id (by simp))).gs (S := [b, bs, bd, bu]) (GS.set G3.cor cd1 (o := .lst (ys ++ [ov])) id (by simp))
      have hB5 : BnA K C Hc (upd (upd H2 bs (.lst (xs ++ [sv]))) bd (.lst (ys ++ [ov]))) b dx bs bd bu v ⟨old ++ [cur], st, ops ++ [op], und⟩ := by
        refine ⟨hB.ok.forth, ⟨wv, by rw [upd_ne n2]; exact k1, i2⟩, ⟨xs ++ [sv], by rw [upd_ne hB1.sd, upd_same], ?_⟩, ⟨ys ++ [ov], upd_same, ?_⟩, ⟨zs, by rw [upd_ne (Ne.symm hB1.du), upd_ne (Ne.symm hB1.su)]; exact j4, u2⟩, cb1, cs1, cd1, cu1, hB1.sd, hB1.su, hB1.du⟩
        · rw [List.map_append]
          exact s2.app (.cons ps .nil)
        · rw [List.map_append]
          exact d2.app (.cons po .nil)
      refine h_one (h_ret (EVd.at (d := .str op.nm) (ev_ixT (ds := [.str op.nm, opD op]) (EVd.is (ev_v 1 rfl) (encOp_eq op)) ev_int rfl) hs5 fun r Hc6 H6 g6 p6 => ?_))
      exact q1 old cur ops und op st rfl r Hc6 H6 (G4.trans g6.gs) (hB5.grow g6) p6
end
end Tr
set_option Elab.async false
set_option linter.all false
set_option maxRecDepth 100000
set_option maxHeartbeats 1000000
set_option autoImplicit false
/-! DH4: ==, !=, len, str of an instance with methods of its own -/
namespace Tr
open PySem PySem.Spec PyProof.Rows L2 DL
section
variable {X : Cx} {C f : Addr} {fd : FuncData} {ps : List Str} {k : Nat} {sp : Sp} {pins : List (Addr × Obj)} {σ : L2.St} {H : Hp} {s : Shared}
/-- a def run somewhere below, with room -/
theorem run_low {A : Around} {us : List Value} {vs : List V} {Q : VK} (F : FnOk X.prog X.w X.K X.mg X.base CX0 k f fd ps sp) (hr : Room k A) (hf : A.frames = X.A.frames) (hb : Binds X.K fd ps []) (I : L2.Inv X pins σ H s) (r : Vals vs us) (h : sp vs H Q E0) :
    wpAny (model X.prog X.w) A (call (.ref f) us) (EP X pins σ Q) X.xe s := by
  have e := I.env0
  have e0 : Env0 X.prog X.w X.K X.mg X.base A X.stack s H := ⟨by rw [hf]; exact e.frames, e.mod, e.bs, e.bsz, e.funs, e.frf, e.hok, e.bare⟩
  have hl : us.length = ps.length := by rw [← r.length]; exact F.len _ _ _ _ h
  have bb := hb s us I.kIn (by rw [List.append_nil]; exact hl)
  rw [List.append_nil] at bb
  refine wpAny_call (codeAny_mono (F.run A X.stack s H ⟨us, []⟩ us vs Q E0 hr e0 bb r h) fun res s' hq => ?_)
  cases res with
  | error er => exact pass0 (X := X) pins σ H s er s' I hq
  | ok fl =>
    cases fl with
    | ret u => exact I.after hq
    | next => exact False.elim hq
    | brk => exact False.elim hq
    | cont => exact False.elim hq
/-- what is asked of an instance that is on the left -/
def rOwn (K : PySem.W.Frag) (C : Addr) (sp : Sp) (g : Bool → Bool) : R2 := fun x y H Q => ∃ a dx fs t, x = .ref a ∧ H a = some (.ins C dx fs) ∧ TyX K H y t ∧ PySem.W.notFirst K C t = true ∧ sp [x, y] H (fun r H' => ∃ b, r = .bl b ∧ Q (.bl (g b)) H') E0
theorem op_own (F : FnOk X.prog X.w X.K X.mg X.base CX0 k f fd ps sp) (hs : PySem.W.findIn X.K (.ref C) "__eq__" = some (some (.ref f))) (hf : PySem.W.isFn X.K (.ref f) = true) (hb : Binds X.K fd ps []) (hr : Room k X.A) : OpR X (compareOp .Eq) (rOwn X.K C sp id) := by
  intro pins s σ H x y v u Q I rx ry hq
  obtain ⟨a, dx, fs, t, rfl, ha, ty, hn, h⟩ := hq
  cases rx
  obtain ⟨mA, J, _⟩ := ins_get I.hok ha
  obtain ⟨od, J, _⟩ := J.look
  obtain ⟨m, hF⟩ := I.fr
  obtain ⟨Pz, Z, pz, _⟩ := kit_of I ry ty
  show wpAny _ _ (richCompare .Eq (.ref a) u) _ _ _
  refine PySem.W.cmp_K (op := .Eq) (tb := t) hr.units0 hF I.ok.mod.kin J (Z.ty _ _ I.kIn pz) hn hs hf ?_
  refine thn (run_low F hr rfl hb I (.cons (show L2.RelV (.ref a) (.ref a) from rfl) (.cons ry .nil)) h) fun w s' hw => ?_
  obtain ⟨z, H', I', rz, b, rfl, q⟩ := hw
  cases rz
  exact ⟨.bl b, H', I', rfl, q⟩
/-- != by way of the own == -/
theorem if_ne {M : Model} {A : Around} {E : Value → Shared → Prop} {x : Addr} {ox : Obj} {od : Option Obj} {args : List Value} {Q : Option Value → Shared → Prop} {K : PySem.W.Frag} (Y : K.In s.heap) (I : PySem.W.InstAt s.heap x ox C od) (hs : PySem.W.findIn K (.ref C) "__ne__" = some (some (.builtin "object.__ne__")))
    (h : wpAny M A (call (.builtin "object.__ne__") (.ref x :: args)) (fun v => Q (some v)) E s) : wpAny M A (callSpecialIfBound? (.ref x) "__ne__" args) Q E s := by
  simp only [callSpecialIfBound?, bindSpecialIfBound?]
  have fin : wpAny M A (call (.builtin "object.__ne__") ([.ref x] ++ args) >>= fun v => pure (some v)) Q E s := wpAny_bind (wpAny_mono h (fun v s' h' => wpAny_pure h') fun _ _ h' => h')
  refine wpAny_holding (wpAny_bind (wpAny_bind (wpAny_bind (I.type.here ((PySem.W.looks_findIn Y hs).here ?_)))))
  refine wpAny_bind (wpAny_askSetting (wpAny_ite ?_))
  split
  · exact wpAny_bind (wpAny_of_eq (PySem.F.slot_object_ne.bind _) (wpAny_pure (by exact fin)))
  · exact wpAny_tryCatch (wpAny_bind (wpAny_of_eq (PySem.F.slot_object_ne.bind _) (wpAny_pure (by exact fin))))
theorem op_neOwn (F : FnOk X.prog X.w X.K X.mg X.base CX0 k f fd ps sp) (hs : PySem.W.findIn X.K (.ref C) "__eq__" = some (some (.ref f))) (hne : PySem.W.findIn X.K (.ref C) "__ne__" = some (some (.builtin "object.__ne__"))) (hm : PySem.W.mroIn X.K C (.type "object") = some true)
    (hf : PySem.W.isFn X.K (.ref f) = true) (hb : Binds X.K fd ps []) (hr : Room (k + 1) X.A) : OpR X (compareOp .NotEq) (rOwn X.K C sp not) := by
  intro pins s σ H x y v u Q I rx ry hq
  obtain ⟨a, dx, fs, t, rfl, ha, ty, hn, h⟩ := hq
  cases rx
  obtain ⟨mA, J, _⟩ := ins_get I.hok ha
  obtain ⟨od, J, _⟩ := J.look
  obtain ⟨Pz, Z, pz, _⟩ := kit_of I ry ty
  have one : wpAny (model X.prog X.w) X.A (tryCompare (.ref a) "__ne__" u) (fun r s' => ∃ v, r = some v ∧ EP X pins σ Q v s') X.xe s := by
    unfold tryCompare
    refine wpAny_bind (if_ne I.kIn J hne ?_)
    refine wpAny_call (codeAny_call_builtin PySem.F.slot_object_ne.plain PySem.F.entry_object_ne (PySem.W.check_slot (i := "object.__ne__") (owner := "object") (n := "__ne__") (by decide +kernel) (by decide +kernel) (J.type.andThen (PySem.W.looks_mroIn I.kIn hm)) (PySem.F.args_object_ne_2 _ _) ?_))
    unfold Builtin.«object.__ne__»
    refine wpAny_bind (m := slotArgs "__ne__" 1 _) (wpAny_pure ?_)
    refine wpAny_bind (m := cRoomFor _ _) (wpAny_cRoomFor hr.in1.units0 ?_)
    refine wpAny_bind (m := callSpecialIfBound? (.ref a) (Str.ofString "__eq__") _) (PySem.W.ifBound_K I.kIn J hs hf ?_)
    refine thn (run_low (A := X.A.in1) F hr.in1 rfl hb I (.cons (show L2.RelV (.ref a) (.ref a) from rfl) (.cons ry .nil)) h) fun w s' hw => ?_
    obtain ⟨z, H', I', rz, b, rfl, q⟩ := hw
    cases rz
    refine wpAny_bind (wpAny_truthy_bool ?_)
    exact wpAny_pure (wpAny_pure ⟨_, rfl, .bl (!b), H', I', rfl, q⟩)
  show wpAny _ _ (richCompare .NotEq (.ref a) u) _ _ _
  unfold richCompare
  simp only [oneThing_ref]
  refine wpAny_holding (wpAny_bind (wpAny_cRoomFor hr.units0 ?_))
  rw [cmpInfo_NotEq]
  dsimp only
  refine wpAny_bind (J.type.here (wpAny_bind ((Z.ty _ _ I.kIn pz).here ?_)))
  split
  · rename_i hq
    have e : PySem.W.subIn X.K t (.ref C) = some false := by
      rcases Bool.or_eq_true_iff.mp hn with e | e
      · rw [beq_iff_eq.mp e] at hq
        simp at hq
      · exact beq_iff_eq.mp e
    refine wpAny_bind ((PySem.W.looks_subIn I.kIn e).here ?_)
    simp only [Bool.false_eq_true, if_false]
    refine wpAny_bind (wpAny_mono one (fun r s' z => ?_) fun _ _ e => e)
    obtain ⟨v, rfl, hq⟩ := z
    exact wpAny_pure hq
  · refine wpAny_bind (wpAny_pure ?_)
    simp only [Bool.false_eq_true, if_false]
    refine wpAny_bind (wpAny_mono one (fun r s' z => ?_) fun _ _ e => e)
    obtain ⟨v, rfl, hq⟩ := z
    exact wpAny_pure hq
/-- len(b), str(b) -/
def rOwn1 (C : Addr) (sp : Sp) (good : V → Prop) : List V → Hp → VK → Prop := fun xs H Q => ∃ a dx fs, xs = [.ref a] ∧ H a = some (.ins C dx fs) ∧ sp [.ref a] H (fun r H' => good r ∧ Q r H') E0
theorem call_lenOwn (F : FnOk X.prog X.w X.K X.mg X.base CX0 k f fd ps sp) (hs : PySem.W.findIn X.K (.ref C) "__len__" = some (some (.ref f))) (hf : PySem.W.isFn X.K (.ref f) = true) (hb : Binds X.K fd ps []) (hr : Room (k + 1) X.A) : CallR X (.builtin "len") (rOwn1 C sp fun r => ∃ n : Int, r = .int n ∧ 0 ≤ n ∧ n < 2 ^ 63) := by
  intro pins s σ H xs us Q I r h
  obtain ⟨a, dx, fs, rfl, ha, h⟩ := h
  obtain ⟨u, rfl, ru⟩ := vals1 r
  obtain rfl : u = Value.ref a := ru
  obtain ⟨mA, J, _⟩ := ins_get I.hok ha
  obtain ⟨od, J, _⟩ := J.look
  obtain ⟨m, hF⟩ := I.fr
  refine PySem.W.len_K hF I.ok.mod.kin J hs hf ?_
  refine thn (run_low (A := X.A.in1) F hr.in1 rfl hb I (.cons (show L2.RelV (.ref a) (.ref a) from rfl) .nil) h) fun w s' hw => ?_
  obtain ⟨z, H', I', rz, ⟨n, rfl, h0, h1⟩, q⟩ := hw
  obtain ⟨t, rfl⟩ := rz
  exact ⟨⟨h0, h1⟩, .int n, H', I'.tok _, ⟨_, rfl⟩, q⟩
theorem call_strOwn (F : FnOk X.prog X.w X.K X.mg X.base CX0 k f fd ps sp) (hs : PySem.W.findIn X.K (.ref C) "__str__" = some (some (.ref f))) (hf : PySem.W.isFn X.K (.ref f) = true) (hb : Binds X.K fd ps []) (hr : Room (k + 2) X.A) : CallR X (.type "str") (rOwn1 C sp fun r => ∃ n : Str, r = .str n) := by
  intro pins s σ H xs us Q I r h
  obtain ⟨a, dx, fs, rfl, ha, h⟩ := h
  obtain ⟨u, rfl, ru⟩ := vals1 r
  obtain rfl : u = Value.ref a := ru
  obtain ⟨mA, J, _⟩ := ins_get I.hok ha
  obtain ⟨od, J, _⟩ := J.look
  refine PySem.W.kso_call hr.in1.in1.units0 I.kIn J hs hf ?_
  refine thn (run_low (A := X.A.in1.in1) F hr.in1.in1 rfl hb I (.cons (show L2.RelV (.ref a) (.ref a) from rfl) .nil) h) fun w s' hw => ?_
  obtain ⟨z, H', I', rz, ⟨n, rfl⟩, q⟩ := hw
  obtain ⟨t, rfl⟩ := rz
  exact ⟨.str n, H', I', ⟨_, rfl⟩, q⟩
end
end Tr
set_option Elab.async false
set_option linter.all false
set_option maxRecDepth 100000
set_option maxHeartbeats 1000000
set_option autoImplicit false
/-! W29: __eq__ -/
namespace Tr
open PySem PySem.Spec PyProof.Rows L2 DL
theorem below_ok : ∀ (l : List (Str × Str × List Str)) (ear : List Str), okT ear l = true → (∀ x ∈ ear, PyData.strOk x = true) → (∀ t ∈ l, PyData.strOk t.1 = true) → ∀ t ∈ l, ∀ b ∈ t.2.2, PyData.strOk b = true
  | [], _, _, _, _, t, ht, _, _ => nomatch ht
  | a :: r, ear, ho, he, hl, t, ht, b, hb => by
    obtain ⟨_, _, _, h4, _, _, h7⟩ := okT_ear rfl ho
    rcases List.mem_cons.mp ht with rfl | ht
    · exact he b (h4 b hb)
    · refine below_ok r (ear ++ [a.1]) h7 (fun x hx => ?_) (fun y hy => hl y (List.mem_cons_of_mem _ hy)) t ht b hb
      rcases List.mem_append.mp hx with hx | hx
      · exact he x hx
      · rw [List.mem_singleton.mp hx]
        exact hl a List.mem_cons_self
theorem lay_W {v : Wd} (ok : OkW v) : (encW v).canLay0 = true ∧ (encW v).depth ≤ 5 := by
  have hb := below_ok v.ts [] ok.tt (fun _ h => nomatch h) (fun t ht => (ok.st t ht).1)
  have h1 : PyData.canLayAll0 (v.cs.map encC) = true := layL2 encC v.cs fun c hc => by
    have := ok.sc c hc
    simp [encCL, PyData.canLay0, PyData.canLayAll0, this]
  have h2 : PyData.canLayAll0 (v.ts.map encT) = true := layL2 encT v.ts fun t ht => by
    have h3 := ok.st t ht
    have h4 : PyData.canLayAll0 (t.2.2.map PyData.str) = true := layL2 PyData.str t.2.2 fun b hb1 => by
      simpa [PyData.canLay0] using hb t ht b hb1
    simp [encTL, PyData.canLay0, PyData.canLayAll0, h3.1, h3.2, h4]
  have d1 : PyData.depthAll (v.cs.map encC) ≤ 2 := dep_L encC 2 v.cs fun c hc => by simp [encCL, PyData.depth, PyData.depthAll]
  have d2 : PyData.depthAll (v.ts.map encT) ≤ 3 := dep_L encT 3 v.ts fun t ht => by
    have := dep_L PyData.str 1 t.2.2 fun b hb1 => by simp [PyData.depth]
    simp only [encTL, PyData.depth, PyData.depthAll]
    omega
  constructor
  · simp [encW, PyData.canLay0, PyData.canLayAll0, h1, h2]
  · simp only [encW, PyData.depth, PyData.depthAll]
    omega
/-- what isinstance and the comparisons ask of the class -/
structure BK (K : PySem.W.Frag) (C : Addr) : Prop where
  ne : PySem.W.findIn K (.ref C) "__ne__" = some (some (.builtin "object.__ne__"))
  cls : PySem.W.findIn K (.ref C) "__class__" = some (some (.builtin "object.__class__"))
  gt : PySem.W.specialIn K (.builtin "object.__class__") "__get__" = some (some (.builtin "getset_descriptor.__get__"))
  tk : PySem.W.takesIn K (.builtin "object.__class__") = some true
  mr : PySem.W.mroIn K C (.type "object") = some true
  kT : PySem.W.kitOne K (.type "tuple") (.ref C) = some false
  kS : PySem.W.kitOne K (.type "str") (.ref C) = some false
  nT : PySem.W.subIn K (.type "tuple") (.ref C) = some false
  nS : PySem.W.subIn K (.type "str") (.ref C) = some false
def spEqB (K : PySem.W.Frag) (C : Addr) : Sp := fun vs H Q _ => ∃ (Hc : Hp) (b dx bs bd bu : Addr) (v : Wd) (s : BSt), Cor Hc H ∧ BnA K C Hc H b dx bs bd bu v s ∧
  ((∃ (b2 dx2 bs2 bd2 bu2 : Addr) (s2 : BSt), vs = [.ref b, .ref b2] ∧ BnA K C Hc H b2 dx2 bs2 bd2 bu2 v s2 ∧ ∀ Hc1 H1, Grow Hc H Hc1 H1 → Q (.bl (PyData.eqv (encIs s.cur) (encIs s2.cur))) H1) ∨
    (∃ (x : V) (d : D), vs = [.ref b, x] ∧ Dp K Hc x d ∧ (tyOf d = "tuple" ∨ tyOf d = "str") ∧ ∀ Hc1 H1, Grow Hc H Hc1 H1 → Q (.bl false) H1))
section
variable {P : Program} {w : World} {K : PySem.W.Frag} {mg : Str → Option Value} {base : Heap} {C : Addr}
theorem BnA.ty {Hc H : Hp} {b dx bs bd bu : Addr} {v : Wd} {s : BSt} (h : BnA K C Hc H b dx bs bd bu v s) (cl : Cls K C) (k : BK K C) : TyX K H (.ref b) (.ref C) := by
  obtain ⟨wv, i1, _⟩ := h.ins
  exact .base (.ins i1 cl k.cls k.gt k.tk k.mr)
abbrev N_Be : List Str := ["self", "other"]
theorem sc_Be : FnScope N_Be ["self", "other"] (defScope (bM 2)) := ⟨rfl, rfl, rfl, by decide +kernel, rfl, by decide +kernel, by decide +kernel⟩
theorem ok_Be (B : Blt mg) (C1 : BC K mg C) (kk : BK K C) (F : HasM K C "__eq__" "Bench.__eq__" (bM 2)) : MthK P w K mg base CX0 C "__eq__" (0 + 1) ["self", "other"] (spEqB K C) := by
  refine mth_mk F (fun _ _ _ _ _ _ us hl => match us, hl with | [_, _], _ => rfl) fun f fd F => F.ok sc_Be (fun vs H Q E h => ?_) fun cdv A outer s0 H vs Q E hr h => ⟨_, PSs.nox pss_h, ?_⟩
  · obtain ⟨Hc, b, dx, bs, bd, bu, v, s, c, hB, h | h⟩ := h
    · obtain ⟨b2, dx2, bs2, bd2, bu2, s2, rfl, _⟩ := h
      rfl
    · obtain ⟨x, d, rfl, _⟩ := h
      rfl
  · obtain ⟨Hc, b, dx, bs, bd, bu, v, s, c, hB, h | h⟩ := h
    · obtain ⟨b2, dx2, bs2, bd2, bu2, s2, rfl, hB2, q⟩ := h
      refine h_one (h_ret (hx_of (pe_and pe_h pe_h) ?_))
      refine hx_of (pe_callB call_isi rfl B.isinstance (by decide +kernel) (pa_cons pe_h (pa_cons (pe_glob (v := .ref C) rfl C1.mgC rfl) pa_nil))) ?_
      refine pe_at 1 rfl ⟨.ref b2, .ref C, .ref C, .ref C, true, rfl, .own C, hB2.ty C1.cl kk, by unfold PySem.W.kitOne; simp, true, rfl, ?_⟩
      have ok := hB.ok.sm.ok
      obtain ⟨lw, dw⟩ := lay_W ok
      have hu := hr.u 100
      refine hx_of (pe_and pe_h pe_h) (hx_of (pe_cmpR op_eqR pe_h pe_h (nomark _)) ?_)
      refine h_world 0 rfl C1 hB fun wv hw => h_world 1 rfl C1 hB2 fun wv2 hw2 => ⟨encW v, encW v, (dq_W hw).same c.sub, (dq_W hw2).same c.sub, lw, lw, ?_, ?_⟩
      · show (A.deeper _).units + _ < cLine
        omega
      rw [SeqAt.eqv_refl _ lw]
      refine ⟨true, rfl, ?_⟩
      refine hx_of (pe_one pe_h) (hx_of (pe_cmpR op_eqR pe_h pe_h (nomark _)) ?_)
      obtain ⟨l1, e1⟩ := lay_Is ok hB.ok.c.2
      obtain ⟨l2, e2⟩ := lay_Is ok hB2.ok.c.2
      refine h_cur 0 rfl C1 hB fun y hy => h_cur 1 rfl C1 hB2 fun y2 hy2 => ⟨encIs s.cur, encIs s2.cur, hy.same c.sub, hy2.same c.sub, l1, l2, ?_, q Hc H (Grow.refl c)⟩
      show (A.deeper _).units + _ < cLine
      omega
    · obtain ⟨x, d, rfl, hx, ht, q⟩ := h
      refine h_one (h_ret (hx_of (pe_and pe_h pe_h) ?_))
      refine hx_of (pe_callB call_isi rfl B.isinstance (by decide +kernel) (pa_cons pe_h (pa_cons (pe_glob (v := .ref C) rfl C1.mgC rfl) pa_nil))) ?_
      have ty := dp_ty (hx.same c.sub)
      refine pe_at 1 rfl ⟨x, .ref C, .type (tyOf d), .ref C, false, rfl, .own C, ty, ?_, false, rfl, q Hc H (Grow.refl c)⟩
      rcases ht with ht | ht
      · rw [ht]
        exact kk.kT
      · rw [ht]
        exact kk.kS
end
end Tr
set_option Elab.async false
set_option linter.all false
set_option maxRecDepth 100000
set_option maxHeartbeats 1000000
set_option autoImplicit false
/-! DH5: a caught exception that is kept: tracked behind its suite; isinstance of it; list.count of bools -/
namespace L2
open PySem PySem.Spec PyProof.Rows
/-- an exception object, wherever it has been -/
def ExT (cls : Value) (a : Addr) : HO := .ext fun h => ∃ (oe : Obj) (vs : Array Value), h.get? a = some oe ∧ Zc cls none oe ∧ oe.data = .fields vs
theorem exT_ok {P : Program} {w : World} {H : Hp} {h : Heap} {a : Addr} {cls : Value} {oe : Obj} {vs : Array Value} (e : h.get? a = some oe) (z : Zc cls none oe) (d : oe.data = .fields vs) : ObjOk P w H h a (ExT cls a) :=
  ⟨⟨oe, vs, e, z, d⟩, ⟨oe, e⟩, fun _ _ ⟨o, v, q, r⟩ k => ⟨o, v, k o q, r⟩⟩
section
variable {X : Cx} {pins : List (Addr × Obj)} {σ : St} {H : Hp} {s : Shared}
theorem Inv.track {a : Addr} {oe : Obj} {vs : Array Value} {o : HO} (I : Inv X pins σ H s) (hn : H a = none) (he : s.heap.get? a = some oe) (hd : oe.data = .fields vs) (n0 : X.s_0.heap.get? a = none) (nL : a ≠ X.env.locals) (np : ∀ p ∈ X.pn ++ pins, p.1 ≠ a)
    (new : ObjOk X.prog X.w (upd H a o) s.heap a o) : Inv X pins σ (upd H a o) s := by
  have b := I.base
  refine ⟨I.ok, I.os, I.bare, ⟨b.keep, b.slot, fun c oc e n hx => ?_, b.there, fun c xs e => ?_, fun c o1 u e => ?_, fun c ps e => ?_⟩, I.loc, I.cell, ?_, fun x c e => ?_, fun p hp => ?_, I.hok.laidN (fun _ _ q => q) hn new, I.len⟩
  · rw [upd_ne (fun z => by rw [z, n0] at e; cases e)]
    exact b.free c oc e n hx
  · have q := b.tups c xs e
    rw [upd_ne (ne_of_none q hn)]
    exact q
  · have q := b.frzs c o1 u e
    rw [upd_ne (ne_of_none q hn)]
    exact q
  · obtain ⟨m, q⟩ := b.tbls c ps e
    exact ⟨m, by rw [upd_ne (ne_of_none q hn)]; exact q⟩
  · rw [upd_ne (Ne.symm nL)]
    exact I.free
  · have hc : c ≠ a := fun z => by
      obtain ⟨v, o1, ho, hdc⟩ := I.cell x c e
      rw [z, he] at ho
      cases ho
      rw [hd] at hdc
      cases hdc
    rw [upd_ne hc]
    exact I.freeC x c e
  · obtain ⟨e, n, r⟩ := I.pin p hp
    exact ⟨e, by rw [upd_ne (np p hp)]; exact n, r⟩
/-- 'except x as n' for exceptions of the kind c alone: behind the suite the exception is a tracked thing -/
def wAsK (K : PySem.W.Frag) (c : Value) (i : Nat) (ts : Addr → TS) (D : Ends) : WX := fun cls d σ H =>
  d = none ∧ PySem.W.exmOne K cls c = some true ∧ ∀ a, H a = none → ts a { nx := fun σ' H' => H' a = none → D.nx (σ'.set i none) (upd H' a (ExT cls a)), rt := fun v H' => H' a = none → D.rt v (upd H' a (ExT cls a)), bk := fun σ' H' => H' a = none → D.bk (σ'.set i none) (upd H' a (ExT cls a)), ct := fun σ' H' => H' a = none → D.ct (σ'.set i none) (upd H' a (ExT cls a)) } (σ.set i (some (.ref a))) H
variable {x n : Str} {c : Value} {i : Nat} {body suite : List Stmt} {b₀ : Stmt} {np pos pos' : Pos} {tb : WX → TS} {ts : Addr → TS}
theorem ps_try_keep (hs : X.stack = X.env :: X.outer) (hf : X.env.frame = some X.env.locals) (hex : X.ex = []) (hN : X.N.Nodup) (hi : X.N[i]? = some n) (hln : X.env.kindOf n = some .local) (hc : Names X x c)
    (hb : ∀ (W : WX) (pn : List (Addr × Obj)) (xe : Value → Shared → Prop), Takes (X.tr pn xe) W → PassesOwn (model X.prog X.w) X.A X.env xe → PSs (X.tr pn xe) body (tb W))
    (hsu : ∀ (a : Addr) (oe : Obj) (cls : Value) (pn : List (Addr × Obj)), Zc cls none oe → (∃ vs, oe.data = .fields vs) → PSs (X.suite a ((a, oe) :: pn)) (b₀ :: suite) (ts a)) :
    PS X (.Try body [.ExceptHandler (some (.Name x np)) (some n) (b₀ :: suite) pos'] [] [] pos) (fun D σ H => tb (wAsK X.K c i ts D) D σ H) := by
  refine ⟨fun pins s σ H D I h => ?_⟩
  have ok := I.ok
  have hfr : X.A.frames = some (X.env :: X.outer) := by rw [ok.frames, hs]
  have hloc : Loc X.env.scope n := .inl hln
  refine wpAny_Try_except ?_
  refine wpAny_mono ((hb (wAsK X.K c i ts D) (X.pn ++ pins) (fun e s₁ => wpAny (model X.prog X.w) X.A (noteFrame e X.env) (fun _ s₂ => wpAny (model X.prog X.w) X.A (setFlight e none) (fun _ s₃ =>
    wpAny (model X.prog X.w) X.A (handleBy e X.env [.ExceptHandler (some (.Name x np)) (some n) (b₀ :: suite) pos']) (SP X pins D) X.xe s₃) X.xe s₂) X.xe s₁) (fun u s' xx => ?_) PassesOwn.looking).run [] s σ H D (I.toTry _) h) (fun f s1 hsp => ?_) (fun e s1 he => he)
  · obtain ⟨a, B, sI, pins', σ', H', cls, d, rfl, J', nb, up, sky, na, os, ag, hdn, hb1, hyes⟩ := xx
    subst hdn
    have J : Inv X pins σ' H' sI := J'.ofTry ok
    have sky' : Sky B (X.env :: X.outer) a (Zc cls none) X.env.locals s'.heap := by rw [← hs]; exact sky
    show wpAny (model X.prog X.w) X.A (noteFrame (.ref a) X.env) _ _ _
    refine Sky.land Zc.steady hfr hf sky' fun h3 fl3 up3 => ?_
    have J3 : Inv X pins σ' H' { s' with heap := h3 } := J.landed nb fl3.1 (up.trans up3) os ag
    obtain ⟨oe3, vs3, he3, hz3, hd3⟩ := fl3.there
    have notFr : ∀ {h : Heap} {o : Obj} {vs : Array Value}, h.FunFrames B (X.env :: X.outer) → h.get? a = some o → o.data = .fields vs → a ∉ frs (X.env :: X.outer) := fun {h o vs} ff e dd hm => by
      obtain ⟨_, o', e', hnf⟩ := ff.mem hm
      rw [e] at e'; cases e'
      exact hnf _ dd
    have nfr := notFr fl3.2.2.1 he3 hd3
    have nI : sI.heap.get? a = none := by
      cases q : sI.heap.get? a with
      | none => rfl
      | some o =>
        have z := nb a o q (by rw [hs]; exact nfr)
        rw [fl3.2.1] at z
        cases z
    have n0 : X.s_0.heap.get? a = none := by
      cases q : X.s_0.heap.get? a with
      | none => rfl
      | some o =>
        obtain ⟨o', z⟩ := J.base.there a o q (by rw [hex]; exact fun z => nomatch z)
        rw [nI] at z
        cases z
    have npin : ∀ p ∈ X.pn ++ pins, p.1 ≠ a := fun p hp z => by
      obtain ⟨e, _⟩ := J.pin p hp
      rw [z, nI] at e
      cases e
    have nL : a ≠ X.env.locals := fun z => nfr (List.mem_filterMap.mpr ⟨X.env, List.mem_cons_self, by rw [hf, z]⟩)
    have nF : a ∉ X.fs := fun hm => by
      obtain ⟨e, he, q⟩ := List.mem_filterMap.mp hm
      exact nfr (List.mem_filterMap.mpr ⟨e, List.mem_cons_of_mem _ he, q⟩)
    have S3 := J3.suite he3 hd3 na nL nF
    refine wpAny_handleBy_cons (codeAny_handlers_test ?_) (by intro q; cases q)
    have LT : PySem.W.Looks (model X.prog X.w) h3 (typeOf (.ref a)) cls := fun A Q E s k q => wpAny_typeOf_ref (k _ _ he3) (by rw [hz3.1]; exact q)
    have LM := PySem.W.exm_one (M := model X.prog X.w) (J3.kIn) LT hb1
    have test : ∀ {Q : Value → Shared → Prop} {E : Value → Shared → Prop}, Q c { s' with heap := h3 } → wpAny (model X.prog X.w) (X.A.mark (some (.ref a))) (eval (.Name x np) X.env) Q E { s' with heap := h3 } := fun {Q E} q => by
      obtain ⟨hg, hdbg, hm | ⟨hm, hv, hnn⟩⟩ := hc
      · exact ld_glob (X := X.suite a ((a, oe3) :: (X.pn ++ pins))) S3 hg hm q hdbg
      · exact ld_blt (X := X.suite a ((a, oe3) :: (X.pn ++ pins))) S3 hg hm hv q hnn hdbg
    refine test (LM.here ?_)
    refine codeAny_handlers_suite_as ?_
    refine HandSPX.lands_againZ fl3 fun h4 fl4 up4 => ?_
    have J4 : Inv X pins σ' H' { s' with heap := h4 } := J.landed nb fl4.1 ((up.trans up3).trans up4) os ag
    obtain ⟨oe4, vs4, he4, hz4, hd4⟩ := fl4.there
    have S4 := J4.suite he4 hd4 na nL nF
    refine store_ok (X := X.suite a ((a, oe4) :: (X.pn ++ pins))) (v := .ref a) S4 hN hi hloc rfl (fun s5 S5 => ?_) (.inr hln)
    refine wpAny_mono ((hsu a oe4 cls (X.pn ++ pins) hz4 ⟨_, hd4⟩).run [] s5 _ H' _ S5 (hyes a na)) (fun f s6 hsp => ?_) (fun _ _ z => False.elim z)
    have end_ : ∀ {σ6 : St} {H6 : Hp} {Q : Shared → Prop}, Inv (X.suite a ((a, oe4) :: (X.pn ++ pins))) [] σ6 H6 s6 → (H6 a = none → ∀ s7, Inv X pins (σ6.set i none) (upd H6 a (ExT cls a)) s7 → Q s7) →
        wpAny (model X.prog X.w) X.A (do bindName X.env n .none; unbindBehindTheSuite X.env n pos') (fun _ s7 => Q s7) X.xe s6 := fun {σ6 H6 Q} S6 hq => by
      obtain ⟨e6, n6, _⟩ := S6.pin (a, oe4) (List.mem_append_left _ (List.mem_cons_self))
      exact gone_ok ((S6.unsuite ok).track n6 e6 hd4 n0 nL npin (exT_ok e6 hz4 hd4)) hN hi hln (hq n6)
    cases f with
    | next =>
      obtain ⟨σ6, H6, S6, q6⟩ := hsp
      exact end_ S6 fun n6 s7 J7 => ⟨_, _, J7, q6 n6⟩
    | brk =>
      obtain ⟨σ6, H6, S6, q6⟩ := hsp
      exact end_ S6 fun n6 s7 J7 => ⟨_, _, J7, q6 n6⟩
    | cont =>
      obtain ⟨σ6, H6, S6, q6⟩ := hsp
      exact end_ S6 fun n6 s7 J7 => ⟨_, _, J7, q6 n6⟩
    | ret u =>
      obtain ⟨v6, σ6, H6, S6, r6, q6⟩ := hsp
      exact end_ S6 fun n6 s7 J7 => ⟨_, _, _, J7, r6, q6 n6⟩
  · cases f with
    | next =>
      obtain ⟨σ', H', J', q⟩ := hsp
      exact wpAny_execs_nil ⟨σ', H', J'.ofTry ok, q⟩
    | brk =>
      obtain ⟨σ', H', J', q⟩ := hsp
      exact ⟨σ', H', J'.ofTry ok, q⟩
    | cont =>
      obtain ⟨σ', H', J', q⟩ := hsp
      exact ⟨σ', H', J'.ofTry ok, q⟩
    | ret u =>
      obtain ⟨v, σ', H', J', r, q⟩ := hsp
      exact ⟨v, σ', H', J'.ofTry ok, r, q⟩
/-- isinstance(e, c), e tracked -/
def rIsT (K : PySem.W.Frag) : List V → Hp → VK → Prop := fun xs H Q => ∃ (a D : Addr) (c : V) (cv : Value) (b : Bool), xs = [.ref a, c] ∧ H a = some (ExT (.ref D) a) ∧ ExcC K D ∧ (∀ u, RelV c u → u = cv) ∧ PySem.W.kitOne K (.ref D) cv = some b ∧ Q (.bl b) H
theorem call_isT : CallR X (.builtin "isinstance") (rIsT X.K) := by
  intro pins s σ H xs us Q I r h
  obtain ⟨a, D, c, cv, b, rfl, ha, C, hcv, e, q⟩ := h
  cases r with
  | cons rx rr =>
    cases rr with
    | cons rt rr =>
      cases rr
      cases rx
      have ec := hcv _ rt
      subst ec
      obtain ⟨⟨oe, vs, hget, hz, hv⟩, _, _⟩ := I.hok a _ ha
      have J : PySem.W.InstAt s.heap a oe D none := by
        obtain ⟨oc, od, oda, osl⟩ := oe
        obtain ⟨h1, h2⟩ := hz
        dsimp only at h1 h2 hv
        subst h1 h2 hv
        exact ⟨hget, rfl, rfl, trivial⟩
      exact PySem.W.kia_one (PySem.W.handS_kitx_exc C.hg C.hk C.hs C.hd C.ha C.hn C.ht C.hm) I.kIn J e (fun z => nomatch z) fun tk => ⟨.bl b, H, I.kept (t' := tk) fun _ _ z => z, rfl, q⟩
/-- xs.count(k), bools -/
theorem bools_gives (k : Bool) : ∀ {us : List Value} {ns : List Bool}, Vals (ns.map V.bl) us → ∀ y ∈ us, ∀ (A : Around) (s : Shared), SeqAt.EqAt A s y (.bool k) (isBoolOf k y)
  | _, [], r, y, hy, _, _ => by cases r; cases hy
  | _, n :: ns, r, y, hy, A, s => by
    cases r with
    | cons r1 r2 =>
      cases r1
      rcases List.mem_cons.mp hy with e | e
      · rw [e]
        exact SeqAt.EqAt.bool_bool n k
      · exact bools_gives k r2 y e A s
theorem bools_count (k : Bool) : ∀ {us : List Value} {ns : List Bool}, Vals (ns.map V.bl) us → us.countP (isBoolOf k) = ns.count k
  | _, [], r => by cases r; rfl
  | _, n :: ns, r => by
    cases r with
    | cons r1 r2 =>
      cases r1
      have ih := bools_count k r2
      rw [List.countP_cons, List.count_cons, ih] <;> rfl
def rCntB (K : PySem.W.Frag) : V → List V → Hp → VK → Prop := fun x xs H Q => ∃ (p : Addr) (ns : List Bool) (k : Bool), x = .ref p ∧ xs = [.bl k] ∧ SqL K H p (ns.map V.bl) ∧ Q (.int (ns.count k : Nat)) H
theorem mt_countB : MtR X "list.count" (rCntB X.K) := by
  intro pins s σ H x xs v us Q I rx rxs h
  obtain ⟨p, ns, k, rfl, rfl, hs, q⟩ := h
  cases rx
  obtain ⟨u, rfl, ru⟩ := rxs.one
  obtain rfl : u = .bool k := ru
  obtain ⟨its, rv, ⟨⟨cls, dd, data, sl⟩, n, ho, hc, hdn, hd⟩, hlen⟩ := I.list hs
  simp only at hc hd
  subst hc hd
  refine call_meets PySem.F.slot_list_count ⟨_, ho, rfl⟩ PySem.F.entry_list_count (PySem.F.args_list_count_2 _ _)
    (SeqAt.list_countAt p its.toArray n dd sl (.bool k) (isBoolOf k)) ⟨ho, fun y hy => bools_gives k rv y (by simpa using hy) _ _, ?_⟩
  have ec : its.toArray.toList.countP (isBoolOf k) = ns.count k := bools_count k rv
  refine ⟨.int (ns.count k : Nat), H, I.tok _, ⟨s.toks, ?_⟩, q⟩
  show Value.int ((its.toArray.toList.countP (isBoolOf k) : Nat) : Int) s.toks = Value.int ((ns.count k : Nat) : Int) s.toks
  rw [ec]
end
end L2
set_option Elab.async false
set_option linter.all false
set_option maxRecDepth 100000
set_option maxHeartbeats 1000000
set_option autoImplicit false
/-! W30: _law_name -/
namespace Tr
open PySem PySem.Spec PyProof.Rows L2 DL
def nmAll : List Str := ["InvalidWorld", "InvalidSort", "InvalidTrait", "InvalidInstance", "InvalidSet", "InvalidNumber", "InvalidSize", "InvalidGranted", "InvalidPairs", "InvalidStock", "InvalidWanted", "InvalidChoice", "InvalidLibrary", "InvalidModule", "InvalidProgram", "InvalidArguments", "InvalidText", "Tangled", "Unsound", "Unclear", "Unchecked", "NotHolding", "TooMany", "NothingToUndo"]
/-- what the classes say of instances of D, the j-th of them -/
structure NmK (K : PySem.W.Frag) (mg : Str → Option Value) (D : Addr) (j : Nat) : Prop where
  ex : ExcC K D
  ve : PySem.W.kitOne K (.ref D) (.type "ValueError") = some true
  all : ∀ i x, nmAll[i]? = some x → ∃ C, mg x = some (.ref C) ∧ PySem.W.kitOne K (.ref D) (.ref C) = some (decide (i = j))
def spName (K : PySem.W.Frag) (mg : Str → Option Value) : Sp := fun vs H Q _ => ∃ (Hc : Hp) (a D : Addr) (j : Nat), vs = [.ref a] ∧ Cor Hc H ∧ H a = some (ExT (.ref D) a) ∧ NmK K mg D j ∧ j < 24 ∧ ∀ Hc1 H1, Grow Hc H Hc1 H1 → Q (.int (j : Nat)) H1
abbrev N__law_name : List Str := ["_law_caught", "_law_found"]
theorem sc__law_name : FnScope N__law_name ["_law_caught"] (defScope (top 86)) := ⟨rfl, rfl, rfl, by decide +kernel, rfl, by decide +kernel, by decide +kernel⟩
section
variable {X : Cx} {a D r : Addr} {j : Nat} {p p1 p2 p3 p4 p5 p6 pos : Pos} {σ : L2.St} {H Hc : Hp} {Q : VK}
theorem h_isX (i : Nat) {x : Str} (B : Blt X.mg) (hσ : σ[0]? = some (some (.ref a))) (ha : H a = some (ExT (.ref D) a)) (N : NmK X.K X.mg D j) (hi : nmAll[i]? = some x) (q : Q (.bl (decide (i = j))) H) (hN : X.N[0]? = some ("_law_caught" : Str) := by rfl) (hg : Gl X x := by rfl) (hgi : Gl X "isinstance" := by rfl)
    (hvs : Vis X.env.scope "_law_caught" := by first | exact Or.inl rfl | exact Or.inr (Or.inl rfl) | exact Or.inr (Or.inr rfl)) (hdb : (x == ("__debug__" : Str)) = false := by decide)
    (hs : starEach [.Name x p3] X.env = (false, eval (.Name x p3) X.env) :: starEach [] X.env := by rfl)
    (he : starEach (.Name "_law_caught" p2 :: [.Name x p3]) X.env = (false, eval (.Name "_law_caught" p2) X.env) :: starEach [.Name x p3] X.env := by rfl) (hpl : (backTo pos (starEach [.Name x p3] X.env)).any (·.1) = false := by rfl) :
    HX X (.Call (.Name "isinstance" p) [.Name "_law_caught" p2, .Name x p3] [] pos) σ H Q := by
  obtain ⟨C, hm, hk⟩ := N.all i x hi
  exact hx_of (pe_callB call_isT hgi B.isinstance (by decide +kernel) (pa_cons pe_h (pa_cons (pe_glob (v := .ref C) hg hm rfl hdb) pa_nil hs) he) (he := he) (hpl := hpl)) (pe_at 0 hσ ⟨a, D, .ref C, .ref C, _, rfl, ha, N.ex, fun u r => r, hk, q⟩ hN hvs)
/-- the found ones so far -/
structure FS (D : Addr) (Hc0 H0 : Hp) (a r : Addr) (bs : List Bool) (σ : L2.St) (Hc H : Hp) : Prop where
  s0 : σ[0]? = some (some (.ref a))
  s1 : σ[1]? = some (some (.ref r))
  ha : H a = some (ExT (.ref D) a)
  hr : H r = some (.lst (bs.map V.bl))
  g : Grow Hc0 H0 Hc H
  ln : σ.length = 2
theorem h_found {Z : Ends} (i : Nat) {x y : Str} {Hc0 H0 : Hp} {bs : List Bool} {py : Pos} (B : Blt X.mg) (N : NmK X.K X.mg D j) (F : FS D Hc0 H0 a r bs σ Hc H) (hnd : X.N.Nodup) (hi : nmAll[i]? = some x) (hi2 : nmAll[i + 1]? = some y) (hl : bs.length ≤ 30)
    (q : ∀ r' σ' H', FS D Hc0 H0 a r' (bs ++ [decide (i = j), decide (i + 1 = j)]) σ' Hc H' → Z.nx σ' H') {q1 q2 q3 q4 q5 q6 q7 q8 q9 : Pos} (hN : X.N[0]? = some ("_law_caught" : Str) := by rfl) (hN1 : X.N[1]? = some ("_law_found" : Str) := by rfl) (hg : Gl X x := by rfl) (hg2 : Gl X y := by rfl) (hgi : Gl X "isinstance" := by rfl)
    (hvs : Vis X.env.scope "_law_caught" := by first | exact Or.inl rfl | exact Or.inr (Or.inl rfl) | exact Or.inr (Or.inr rfl)) (hvs1 : Vis X.env.scope "_law_found" := by first | exact Or.inl rfl | exact Or.inr (Or.inl rfl) | exact Or.inr (Or.inr rfl)) (hlc : Loc X.env.scope "_law_found" := by first | exact Or.inl rfl | exact Or.inr rfl) (hdb : (x == ("__debug__" : Str)) = false := by decide) (hdb2 : (y == ("__debug__" : Str)) = false := by decide)
    (hs : starEach [.Name x q3] X.env = (false, eval (.Name x q3) X.env) :: starEach [] X.env := by rfl)
    (he : starEach (.Name "_law_caught" q2 :: [.Name x q3]) X.env = (false, eval (.Name "_law_caught" q2) X.env) :: starEach [.Name x q3] X.env := by rfl) (hpl : (backTo q4 (starEach [.Name x q3] X.env)).any (·.1) = false := by rfl)
    (hs2 : starEach [.Name y q7] X.env = (false, eval (.Name y q7) X.env) :: starEach [] X.env := by rfl)
    (he2 : starEach (.Name "_law_caught" q6 :: [.Name y q7]) X.env = (false, eval (.Name "_law_caught" q6) X.env) :: starEach [.Name y q7] X.env := by rfl) (hpl2 : (backTo q8 (starEach [.Name y q7] X.env)).any (·.1) = false := by rfl)
    (hst1 : starEach [.Call (.Name "isinstance" q1) [.Name "_law_caught" q2, .Name x q3] [] q4, .Call (.Name "isinstance" q5) [.Name "_law_caught" q6, .Name y q7] [] q8] X.env = (false, eval (.Call (.Name "isinstance" q1) [.Name "_law_caught" q2, .Name x q3] [] q4) X.env) :: starEach [.Call (.Name "isinstance" q5) [.Name "_law_caught" q6, .Name y q7] [] q8] X.env := by rfl)
    (hst2 : starEach [.Call (.Name "isinstance" q5) [.Name "_law_caught" q6, .Name y q7] [] q8] X.env = (false, eval (.Call (.Name "isinstance" q5) [.Name "_law_caught" q6, .Name y q7] [] q8) X.env) :: starEach [] X.env := by rfl)
    (hsw : swapsWith (.BinOp (.Name "_law_found" py) .Add (.List [.Call (.Name "isinstance" q1) [.Name "_law_caught" q2, .Name x q3] [] q4, .Call (.Name "isinstance" q5) [.Name "_law_caught" q6, .Name y q7] [] q8] q9) p) (some (.Name "_law_found" p5)) pos.line X.env = pure false := by rfl)
    (hf : X.fn "_law_found" = true ∨ X.env.scope.names.lookup ("_law_found" : Str) = some .local := by first | exact .inl rfl | exact .inr rfl | assumption) :
    HS X (.Assign [.Name "_law_found" p5] (.BinOp (.Name "_law_found" py) .Add (.List [.Call (.Name "isinstance" q1) [.Name "_law_caught" q2, .Name x q3] [] q4, .Call (.Name "isinstance" q5) [.Name "_law_caught" q6, .Name y q7] [] q8] q9) p) pos) Z σ H := by
  refine h_set 1 hnd (hx_of (pe_op op_cat pe_h pe_h) (pe_at 1 F.s1 (hx_of (pe_lst pa_h) (ha_cons (h_isX i B F.s0 F.ha N hi (ha_cons (h_isX (i + 1) B F.s0 F.ha N hi2 (ha_nil ⟨Nat.le_of_ble_eq_true rfl, fun t nt => ?_⟩) hN hg2 hgi hvs hdb2 hs2 he2 hpl2) hst2) hN hg hgi hvs hdb hs he hpl) hst1)) hN1 hvs1)) hN1 hlc hsw hf
  have g1 : Grow Hc H Hc (upd H t (.lst [.bl (decide (i = j)), .bl (decide (i + 1 = j))])) := (GS.newO (S := []) F.g.cor nt id).grow
  refine ⟨r, t, bs.map V.bl, _, rfl, rfl, g1.hh _ _ F.hr, upd_same, ?_, fun u nu => ?_⟩
  · rw [List.length_map]
    exact Nat.le_trans (by show _ + 2 ≤ 100; omega) (by decide : 100 ≤ sizeLine)
  have g2 := g1.trans (GS.newO (S := []) (o := .lst (bs.map V.bl ++ [.bl (decide (i = j)), .bl (decide (i + 1 = j))])) g1.cor nu id).grow
  refine q u _ _ ⟨?_, ?_, g2.hh _ _ F.ha, ?_, F.g.trans g2, by rw [List.length_set]; exact F.ln⟩
  · rw [List.getElem?_set_ne (by decide)]
    exact F.s0
  · rw [List.getElem?_set_self (by rw [F.ln]; decide)]
  · rw [List.map_append]
    exact upd_same
end
def bsAt (j : Nat) : List Bool := (List.range 24).map fun i => decide (i = j)
theorem bs_count : ∀ j < 24, (bsAt j).count true = 1 := by decide +kernel
theorem bs_at : ∀ j < 24, (bsAt j)[j]? = some true := by decide +kernel
theorem bs_no : ∀ j < 24, ∀ m < j, (bsAt j)[m]? = some false := by decide +kernel
theorem bs_all : ∀ j < 24, bsAt j = [decide (0 = j), decide (0 + 1 = j)] ++ [decide (2 = j), decide (2 + 1 = j)] ++ [decide (4 = j), decide (4 + 1 = j)] ++ [decide (6 = j), decide (6 + 1 = j)] ++ [decide (8 = j), decide (8 + 1 = j)] ++ [decide (10 = j), decide (10 + 1 = j)] ++ [decide (12 = j), decide (12 + 1 = j)] ++ [decide (14 = j), decide (14 + 1 = j)] ++ [decide (16 = j), decide (16 + 1 = j)] ++ [decide (18 = j), decide (18 + 1 = j)] ++ [decide (20 = j), decide (20 + 1 = j)] ++ [decide (22 = j), decide (22 + 1 = j)] := by decide +kernel
section
variable {P : Program} {w : World} {K : PySem.W.Frag} {mg : Str → Option Value} {base : Heap}
theorem ok__law_name (B : Blt mg) (hve : mg "ValueError" = none) (F : Has K mg "_law_name" (top 86)) : DefK P w K mg base "_law_name" 1 ["_law_caught"] (spName K mg) := by
  refine def_mkK F (fun _ _ _ _ _ _ us hl => match us, hl with | [_], _ => rfl) fun f fd F => ?_
  refine F.ok sc__law_name (fun vs H Q E h => ?_) (fun cdv A outer s H vs Q E hr h => ?_)
  · obtain ⟨Hc, a, D, j, rfl, _⟩ := h
    rfl
  · obtain ⟨Hc, a, D, j, rfl, c, ha, N, hj, q⟩ := h
    refine ⟨_, PSs.nox pss_h, ?_⟩
    refine h_cons (h_if (ht_of (pt_not (pt_val pe_h)) ?_))
    refine hx_of (pe_callB call_isT rfl B.isinstance (by decide +kernel) (pa_cons pe_h (pa_cons (pe_bltn (v := .ty "ValueError") rfl hve (by decide +kernel) rfl (by decide) (by decide)) pa_nil))) ?_
    refine pe_at 0 rfl ⟨a, D, .ty "ValueError", .type "ValueError", true, rfl, ha, N.ex, fun u r => r, N.ve, true, rfl, ?_⟩
    refine h_nil ?_
    refine h_cons (h_set 1 sc__law_name.nd (hx_of (pe_lst pa_h) (ha_cons (h_isX 0 B rfl ha N rfl (ha_cons (h_isX 1 B rfl ha N rfl (ha_nil ⟨Nat.le_of_ble_eq_true rfl, fun t nt => ?_⟩)))))))
    have F0 : FS D Hc H a t [decide (0 = j), decide (0 + 1 = j)] (List.set (L2.start N__law_name [.ref a]) 1 (some (.ref t))) Hc (upd H t (.lst [.bl (decide (0 = j)), .bl (decide (1 = j))])) :=
      ⟨rfl, rfl, (Grow.own (xs := [.bl (decide (0 = j)), .bl (decide (1 = j))]) c nt).hh _ _ ha, upd_same, (GS.newO (S := []) c nt id).grow, rfl⟩
    refine h_cons (h_found 2 B N F0 sc__law_name.nd rfl rfl (Nat.le_of_ble_eq_true rfl) fun r1 σ1 H1 F1 => ?_)
    refine h_cons (h_found 4 B N F1 sc__law_name.nd rfl rfl (Nat.le_of_ble_eq_true rfl) fun r2 σ2 H2 F2 => ?_)
    refine h_cons (h_found 6 B N F2 sc__law_name.nd rfl rfl (Nat.le_of_ble_eq_true rfl) fun r3 σ3 H3 F3 => ?_)
    refine h_cons (h_found 8 B N F3 sc__law_name.nd rfl rfl (Nat.le_of_ble_eq_true rfl) fun r4 σ4 H4 F4 => ?_)
    refine h_cons (h_found 10 B N F4 sc__law_name.nd rfl rfl (Nat.le_of_ble_eq_true rfl) fun r5 σ5 H5 F5 => ?_)
    refine h_cons (h_found 12 B N F5 sc__law_name.nd rfl rfl (Nat.le_of_ble_eq_true rfl) fun r6 σ6 H6 F6 => ?_)
    refine h_cons (h_found 14 B N F6 sc__law_name.nd rfl rfl (Nat.le_of_ble_eq_true rfl) fun r7 σ7 H7 F7 => ?_)
    refine h_cons (h_found 16 B N F7 sc__law_name.nd rfl rfl (Nat.le_of_ble_eq_true rfl) fun r8 σ8 H8 F8 => ?_)
    refine h_cons (h_found 18 B N F8 sc__law_name.nd rfl rfl (Nat.le_of_ble_eq_true rfl) fun r9 σ9 H9 F9 => ?_)
    refine h_cons (h_found 20 B N F9 sc__law_name.nd rfl rfl (Nat.le_of_ble_eq_true rfl) fun r10 σ10 H10 F10 => ?_)
    refine h_cons (h_found 22 B N F10 sc__law_name.nd rfl rfl (Nat.le_of_ble_eq_true rfl) fun r11 σ11 H11 F11 => ?_)
    rw [← bs_all j hj] at F11
    refine h_one (h_ret (hx_of (pe_ifExp (ta := fun σ H Q => HX _ _ σ H Q) (tb := fun σ H Q => HX _ _ σ H Q) (pt_cmpR op_eq (pe_bm PySem.F.plainAttrs_list PySem.F.slot_list_count PySem.F.type_list_count mt_countB pe_h (pa_cons (pe_bl) pa_nil)) pe_int nomk) pe_h pe_h) ?_))
    refine pe_at 1 F11.s1 ⟨.inl ⟨rfl, _, SqL.of F11.hr⟩, r11, bsAt j, true, rfl, rfl, SqL.of F11.hr, ?_⟩
    rw [bs_count j hj]
    refine ⟨rfl, _, rfl, ?_⟩
    refine hx_of (pe_bm PySem.F.plainAttrs_list PySem.F.slot_list_index PySem.F.type_list_index mt_index pe_h (pa_cons (pe_bl) pa_nil)) ?_
    refine pe_at 1 F11.s1 ⟨.inl ⟨rfl, _, SqL.of F11.hr⟩, r11, (bsAt j).map V.bl, .bl true, j, .bl true, rfl, rfl, SqL.of F11.hr, rfl, ?_, ?_, rfl, fun m z' hm hz => ?_, q Hc H11 F11.g⟩
    · rw [List.all_map]
      exact List.all_eq_true.mpr fun _ _ => rfl
    · rw [List.getElem?_map, bs_at j hj]
      rfl
    · rw [List.getElem?_map, bs_no j hj m hm] at hz
      cases hz
      rfl
end
end Tr
set_option Elab.async false
set_option linter.all false
set_option maxRecDepth 100000
set_option maxHeartbeats 1000000
set_option autoImplicit false
/-! W31: _law_call, _law_outcome -/
namespace Tr
open PySem PySem.Spec PyProof.Rows L2 DL
/-- a step of the bench that returns; one that raises -/
inductive Stp : Int → Nat → BSt → D → BSt → Prop
  | drop {n : Nat} {s : BSt} (h : n < s.cur.length) : Stp 2 n s (encI s.cur[n]) (s.push (.drop n) (without s.cur n))
  | undo {n : Nat} {old : List (List Inst)} {o cur : List Inst} {ops : List Op} {op : Op} {und : List (Op × List Inst)} : Stp 0 n ⟨old ++ [o], cur, ops ++ [op], und⟩ (.str op.nm) ⟨old, o, ops, und ++ [(op, cur)]⟩
  | redo {n : Nat} {old : List (List Inst)} {cur st : List Inst} {ops : List Op} {op : Op} {und : List (Op × List Inst)} : Stp 1 n ⟨old, cur, ops, und ++ [(op, st)]⟩ (.str op.nm) ⟨old ++ [cur], st, ops ++ [op], und⟩
inductive StE : Int → Nat → BSt → Nat → Prop
  | drop {n : Nat} {s : BSt} (h : ¬ n < s.cur.length) : StE 2 n s 5
  | undo {n : Nat} {s : BSt} (h : s.ops = []) : StE 0 n s 23
  | redo {n : Nat} {s : BSt} (h : s.und = []) : StE 1 n s 23
def excC (CN CU : Addr) (j : Nat) : Addr := if j = 5 then CN else CU
def spCall (K : PySem.W.Frag) (C CN CU : Addr) : Sp := fun vs H Q E => ∃ (Hc : Hp) (b dx bs bd bu : Addr) (v : Wd) (s : BSt) (way : Int) (n : Nat) (t : Addr), vs = [.int way, .ref t] ∧ SqT K H t [.ref b, .int (n : Nat)] ∧ Cor Hc H ∧ BnA K C Hc H b dx bs bd bu v s ∧ s.old.length < 900 ∧ (way = 0 ∨ way = 1 ∨ way = 2) ∧
  (∀ r d s' bu' Hc1 H1, Stp way n s d s' → GS [b, bs, bd, bu] Hc H Hc1 H1 → (bu' = bu ∨ H bu' = none) → BnA K C Hc1 H1 b dx bs bd bu' v s' → Dq K Hc1 r d → Q r H1) ∧
  (∀ j, StE way n s j → ∀ Hc1 H1, Grow Hc H Hc1 H1 → E (.ref (excC CN CU j)) none H1)
abbrev N__law_call : List Str := ["_law_way", "_law_arguments", "_law_bench", "_law_number"]
theorem sc__law_call : FnScope N__law_call ["_law_way", "_law_arguments"] (defScope (top 95)) := ⟨rfl, rfl, rfl, by decide +kernel, rfl, by decide +kernel, by decide +kernel⟩
theorem h_wayIs {X : Cx} (i : Nat) {x : Str} {way k : Int} {p pos p2 : Pos} {kk} {σ : L2.St} {H : Hp} {Q : Bool → Hp → Prop} (hσ : σ[i]? = some (some (.int way))) (q : Q (decide (way = k)) H) (hN : X.N[i]? = some x := by rfl) (hvs : Vis X.env.scope x := by first | exact Or.inl rfl | exact Or.inr (Or.inl rfl) | exact Or.inr (Or.inr rfl))
    (hd : (x == ("__debug__" : Str)) = false := by decide) (hcd : (x == ("__classdict__" : Str)) = false := by decide) : HT X (.Compare (.Name x p) [.Eq] [.Constant (.int k) kk p2] pos) σ H Q :=
  ht_of (pt_cmpR op_eq pe_h pe_int nomk) (pe_at i hσ ⟨rfl, _, rfl, by
    have e : decide (V.int way = V.int k) = decide (way = k) := by rw [dec_int]; rfl
    rw [e]; exact q⟩ hN hvs hd hcd)
section
variable {P : Program} {w : World} {K : PySem.W.Frag} {mg : Str → Option Value} {base : Heap} {C CN CU : Addr}
theorem ok__law_call (C1 : BC K mg C) (D1 : MthK P w K mg base (L2.CX P w) C "drop" (2 + 1) ["self", "number"] (spDrop K C CN)) (D2 : MthK P w K mg base (L2.CX P w) C "undo" (0 + 1) ["self"] (spUndo K C CU)) (D3 : MthK P w K mg base (L2.CX P w) C "redo" (0 + 1) ["self"] (spRedo K C CU)) (F : Has K mg "_law_call" (top 95)) :
    DefKX P w K mg base "_law_call" (3 + 1) ["_law_way", "_law_arguments"] (spCall K C CN CU) := by
  refine def_mkX F (fun _ _ _ _ _ _ us hl => match us, hl with | [_, _], _ => rfl) fun f fd F => F.ok sc__law_call (fun vs H Q E h => ?_) fun cdv A outer s0 H vs Q E hr h => ⟨_, pss_h, ?_⟩
  · obtain ⟨Hc, b, dx, bs, bd, bu, v, s, way, n, t, rfl, _⟩ := h
    rfl
  · obtain ⟨Hc, b, dx, bs, bd, bu, v, s, way, n, t, rfl, ht, c, hB, hz, hw, q1, q2⟩ := h
    have tk := takes_of (X := cxOf (L2.CX P w) P w K mg base N__law_call "_law_call" (defScope (top 95)) f cdv A outer s0 H E) (E := E) rfl rfl rfl rfl
    refine h_cons (hs_of (ps_asg pe_h (pg_tup rfl (pgs_cons (pg_name (i := 2) sc__law_call.nd rfl (by first | exact Or.inl rfl | exact Or.inr rfl)) (pgs_cons (pg_name (i := 3) sc__law_call.nd rfl (by first | exact Or.inl rfl | exact Or.inr rfl)) pgs_nil))))
      (pe_at 1 rfl ⟨t, _, rfl, ht, rfl, .ref b, _, rfl, .int (n : Nat), _, rfl, rfl, ?_⟩))
    obtain ⟨wv, i1, i2⟩ := hB.ins
    refine h_cons (h_if (h_wayIs 0 rfl ?_))
    rcases hw with rfl | rfl | rfl
    · refine h_nil (h_one (h_ret (hx_of (pe_ifExp (ta := fun σ H Q => HX _ _ σ H Q) (tb := fun σ H Q => HX _ _ σ H Q) (tA := fun σ H Q => HT _ _ σ H Q) pt_h pe_h pe_h) (h_wayIs 0 rfl ?_))))
      refine h_meth0 C1.cl D2 (hr.mono (by omega)) (passes_call tk (fun _ _ _ _ h => h)) (pe_at 2 rfl ⟨b, dx, _, rfl, i1, rfl, Hc, b, dx, bs, bd, bu, v, s, rfl, c, hB, fun old o cur ops op und e r Hc1 H1 g hB1 hd => ?_, fun he Hc1 H1 g => q2 23 (.undo he) Hc1 H1 g⟩)
      subst e
      exact q1 r _ _ bu Hc1 H1 .undo g (.inl rfl) hB1 hd
    · refine h_nil (h_one (h_ret (hx_of (pe_ifExp (ta := fun σ H Q => HX _ _ σ H Q) (tb := fun σ H Q => HX _ _ σ H Q) (tA := fun σ H Q => HT _ _ σ H Q) pt_h pe_h pe_h) (h_wayIs 0 rfl ?_))))
      refine h_meth0 C1.cl D3 (hr.mono (by omega)) (passes_call tk (fun _ _ _ _ h => h)) (pe_at 2 rfl ⟨b, dx, _, rfl, i1, rfl, Hc, b, dx, bs, bd, bu, v, s, rfl, c, hB, fun old cur ops und op st e r Hc1 H1 g hB1 hd => ?_, fun he Hc1 H1 g => q2 23 (.redo he) Hc1 H1 g⟩)
      subst e
      exact q1 r _ _ bu Hc1 H1 .redo g (.inl rfl) hB1 hd
    · refine h_one (h_ret (h_meth C1.cl D1 (hr.mono (by omega)) (passes_call tk (fun _ _ _ _ h => h)) (pe_at 2 rfl ⟨b, dx, _, rfl, i1, rfl, ha_cons (pe_at 3 rfl (ha_nil ⟨Hc, b, dx, bs, bd, bu, v, s, n, rfl, c, hB, hz, fun hn bu' r Hc1 H1 g hb hB1 hd => ?_, fun hn Hc1 H1 g => q2 5 (.drop hn) Hc1 H1 g⟩))⟩)))
      exact q1 r _ _ bu' Hc1 H1 (.drop hn) (g.mono fun a ha => by
        simp only [List.mem_cons, List.not_mem_nil, or_false] at ha ⊢
        rcases ha with h | h | h <;> simp [h]) (.inr hb) hB1 hd
end
end Tr
set_option Elab.async false
set_option linter.all false
set_option maxRecDepth 100000
set_option maxHeartbeats 1000000
set_option autoImplicit false
/-! W32: _law_outcome -/
namespace Tr
open PySem PySem.Spec PyProof.Rows L2 DL
/-- try: body / except x as n: suite, all that the body raises is caught here -/
theorem h_try {X : Cx} {x n : Str} {c : Value} (i : Nat) {body suite : List Stmt} {b₀ : Stmt} {np pos pos' : Pos} {Z : Ends} {σ : L2.St} {H : Hp} (hN : X.N.Nodup) (hc : Names X x c)
    (h : ∀ pn xe, Takes (X.tr pn xe) (wAsK X.K c i (fun a Z σ H => ∀ oe pn, HSs (X.suite a ((a, oe) :: pn)) (b₀ :: suite) Z σ H) Z) → HSs (X.tr pn xe) body Z σ H)
    (hi : X.N[i]? = some n := by rfl) (hln : X.env.kindOf n = some .local := by rfl) (hs : X.stack = X.env :: X.outer := by rfl) (hf : X.env.frame = some X.env.locals := by rfl) (hex : X.ex = [] := by rfl) :
    HS X (.Try body [.ExceptHandler (some (.Name x np)) (some n) (b₀ :: suite) pos'] [] [] pos) Z σ H :=
  hs_of (ps_try_keep (tb := fun W Z σ H => ∀ pn xe, Takes (X.tr pn xe) W → HSs (X.tr pn xe) body Z σ H) (ts := fun a Z σ H => ∀ oe pn, HSs (X.suite a ((a, oe) :: pn)) (b₀ :: suite) Z σ H) hs hf hex hN hi hln hc
    (fun W pn xe tk _ => ⟨fun pins s σ H Q I h => (h pn xe tk).r pins s I⟩) (fun a oe cls pn _ _ => ⟨fun pins s σ H Q I h => (h oe pn).r pins s I⟩)) h
theorem h_callK {X : Cx} {x : Str} {k : Nat} {ps : List Str} {sp : Sp} {e : Expr} {es : List Expr} {p pos : Pos} {σ : L2.St} {H : Hp} {Q : VK} (F : DefK X.prog X.w X.K X.mg X.base x k ps sp) (hr : Room k X.A) (hg : Gl X x) (ha : HA X (e :: es) σ H fun vs H1 => sp vs H1 Q E0)
    (hdb : (x == ("__debug__" : Str)) = false := by decide) (he : starEach (e :: es) X.env = (false, eval e X.env) :: starEach es X.env := by rfl) (hpl : (backTo pos (starEach es X.env)).any (·.1) = false := by rfl) : HX X (.Call (.Name x p) (e :: es) [] pos) σ H Q := by
  obtain ⟨f, fd, hm, hk, hb, ok⟩ := F.ex
  refine hx_of (pe_call ok hr hg hm hk hb .nil pass0 pa_w hdb he hpl) ?_
  intro pos' pins s I
  refine thn (ha.r pos' pins s I) fun us s1 ⟨vs, H1, I1, r, q⟩ => ⟨vs, H1, I1, r, ?_⟩
  show sp (vs ++ []) H1 Q E0
  rw [List.append_nil]
  exact q
theorem h_isN {X : Cx} (i : Nat) {x : Str} {v : V} {p pos p2 : Pos} {kk} {σ : L2.St} {H : Hp} {Q : Bool → Hp → Prop} (hσ : σ[i]? = some (some v)) (q : Q (decide (v = .non)) H) (hN : X.N[i]? = some x := by rfl) (hvs : Vis X.env.scope x := by first | exact Or.inl rfl | exact Or.inr (Or.inl rfl) | exact Or.inr (Or.inr rfl))
    (hd : (x == ("__debug__" : Str)) = false := by decide) (hcd : (x == ("__classdict__" : Str)) = false := by decide) : HT X (.Compare (.Name x p) [.Is] [.Constant .none kk p2] pos) σ H Q :=
  ht_of (pt_cmp (pc_isN pe_h) rfl) (pe_at i hσ ⟨_, rfl, q⟩ hN hvs hd hcd)
theorem h_str {X : Cx} {m : Str} {kk} {pos : Pos} {σ : L2.St} {H : Hp} {Q : VK} (q : Q (.str m) H) : HX X (.Constant (.str m) kk pos) σ H Q := hx_of pe_str q
theorem h_none {X : Cx} {kk} {pos : Pos} {σ : L2.St} {H : Hp} {Q : VK} (q : Q .non H) : HX X (.Constant .none kk pos) σ H Q := hx_of pe_non q
def spOut (K : PySem.W.Frag) (C : Addr) : Sp := fun vs H Q _ => ∃ (Hc : Hp) (b dx bs bd bu : Addr) (v : Wd) (s : BSt) (way : Int) (n : Nat) (t : Addr), vs = [.int way, .ref t] ∧ SqT K H t [.ref b, .int (n : Nat)] ∧ Cor Hc H ∧ BnA K C Hc H b dx bs bd bu v s ∧ s.old.length < 900 ∧ (way = 0 ∨ way = 1 ∨ way = 2) ∧
  (∀ r d s' bu' Hc1 H1, Stp way n s d s' → GS [b, bs, bd, bu] Hc H Hc1 H1 → (bu' = bu ∨ H bu' = none) → BnA K C Hc1 H1 b dx bs bd bu' v s' → Dp K Hc1 r (.tuple [.str "returned", d]) → Q r H1) ∧
  (∀ j, StE way n s j → ∀ r Hc1 H1, Grow Hc H Hc1 H1 → Dp K Hc1 r (.tuple [.str "raised", .int (j : Nat)]) → Q r H1)
theorem Stp.isD {way : Int} {n : Nat} {s s' : BSt} {d : D} (h : Stp way n s d s') : DL.isD d = true := by cases h <;> rfl
theorem StE.j {way : Int} {n : Nat} {s : BSt} {j : Nat} (h : StE way n s j) : j = 5 ∨ j = 23 := by cases h <;> simp
abbrev N__law_outcome : List Str := ["_law_way", "_law_arguments", "_law_caught", "_law_result", "error"]
theorem sc__law_outcome : FnScope N__law_outcome ["_law_way", "_law_arguments"] (defScope (top 85)) := ⟨rfl, rfl, rfl, by decide +kernel, rfl, by decide +kernel, by decide +kernel⟩
/-- what the law's head gives of the two kinds of exception -/
structure EXC (K : PySem.W.Frag) (mg : Str → Option Value) (T CN CU : Addr) : Prop where
  gT : mg "TraitError" = some (.ref T)
  nN : NmK K mg CN 5
  nU : NmK K mg CU 23
  eN : PySem.W.exmOne K (.ref CN) (.ref T) = some true
  eU : PySem.W.exmOne K (.ref CU) (.ref T) = some true
section
variable {P : Program} {w : World} {K : PySem.W.Frag} {mg : Str → Option Value} {base : Heap} {C CN CU T : Addr}
theorem ok__law_outcome (EX : EXC K mg T CN CU) (D1 : DefKX P w K mg base "_law_call" (3 + 1) ["_law_way", "_law_arguments"] (spCall K C CN CU)) (D2 : DefK P w K mg base "_law_name" 1 ["_law_caught"] (spName K mg)) (F : Has K mg "_law_outcome" (top 85)) :
    DefK P w K mg base "_law_outcome" (4 + 1) ["_law_way", "_law_arguments"] (spOut K C) := by
  refine def_mkK F (fun _ _ _ _ _ _ us hl => match us, hl with | [_, _], _ => rfl) fun f fd F => ?_
  refine F.ok sc__law_outcome (fun vs H Q E h => ?_) (fun cdv A outer s H vs Q E hr h => ?_)
  · obtain ⟨Hc, b, dx, bs, bd, bu, v, s, way, n, t, rfl, _⟩ := h
    rfl
  · obtain ⟨Hc, b, dx, bs, bd, bu, v, s, way, n, t, rfl, ht, c, hB, hz, hw, q1, q2⟩ := h
    refine ⟨_, PSs.nox pss_h, ?_⟩
    refine h_cons (h_set 2 sc__law_outcome.nd (h_none ?_))
    refine h_cons (h_set 3 sc__law_outcome.nd (h_none ?_))
    refine h_cons (h_try 4 sc__law_outcome.nd (c := .ref T) ⟨rfl, by decide, .inl EX.gT⟩ fun pn xe tk => ?_)
    refine h_one (h_set 3 sc__law_outcome.nd (h_callX D1 (hr.mono (by omega)) rfl tk (ha_cons (pe_at 0 rfl (ha_cons (pe_at 1 rfl (ha_nil ⟨Hc, b, dx, bs, bd, bu, v, s, way, n, t, rfl, ht, c, hB, hz, hw, fun r d s' bu' Hc1 H1 st g hb hB1 hd => ?_, fun j st Hc1 H1 g => ?_⟩)))))))
    · refine h_cons (h_if (h_isN 2 rfl ?_))
      refine h_one (h_ret (hx_of (pe_tup pa_h) (ha_cons (h_str (ha_cons (pe_at 3 rfl (ha_nil ⟨Nat.le_of_ble_eq_true rfl, fun u nu => ?_⟩)))))))
      have g2 := Grow.new (o := .tup [.str "returned", r]) g.cor nu
      have pd := (hd.p st.isD).same g2.cc
      exact q1 _ d s' bu' _ _ st (g.trans g2.gs) hb (hB1.grow g2) (L2.Dp.tup (.inl (.inl upd_same)) (.cons (L2.Dp.str _) (.cons pd .nil)))
    · have exm : PySem.W.exmOne K (.ref (excC CN CU j)) (.ref T) = some true := by
        rcases st.j with rfl | rfl
        · exact EX.eN
        · exact EX.eU
      have nm : NmK K mg (excC CN CU j) j := by
        rcases st.j with rfl | rfl
        · exact EX.nN
        · exact EX.nU
      have hj : j < 24 := by rcases st.j with rfl | rfl <;> decide
      refine ⟨rfl, exm, fun a na oe pn => h_one (h_set 2 sc__law_outcome.nd (pe_at 4 rfl fun na2 => ?_))⟩
      refine h_cons (h_if (h_isN 2 rfl (h_nil ?_)))
      have gx : Grow Hc H Hc1 (upd H1 a (ExT (.ref (excC CN CU j)) a)) := g.trans (GS.newO (S := []) (o := ExT (.ref (excC CN CU j)) a) g.cor na2 id).grow
      refine h_one (h_ret (hx_of (pe_tup pa_h) (ha_cons (h_str (ha_cons (h_callK D2 (hr.mono (by omega)) rfl (ha_cons (pe_at 2 rfl (ha_nil ⟨Hc1, a, excC CN CU j, j, rfl, gx.cor, upd_same, nm, hj, fun Hc2 H2 g2 => ha_nil ⟨Nat.le_of_ble_eq_true rfl, fun u nu => ?_⟩⟩)))))))))
      have g3 := Grow.new (o := .tup [.str "raised", .int (j : Nat)]) g2.cor nu
      exact q2 j st _ _ _ ((gx.trans g2).trans g3) (L2.Dp.tup (.inl (.inl upd_same)) (.cons (L2.Dp.str _) (.cons (L2.Dp.int _) .nil)))
end
end Tr
set_option Elab.async false
set_option linter.all false
set_option maxRecDepth 100000
set_option maxHeartbeats 1000000
set_option autoImplicit false
/-! W33: the law's own lists; _law_back -/
namespace Tr
open PySem PySem.Spec PyProof.Rows L2 DL
def encM (p : Op × List Inst) : D := .tuple [.str p.1.nm, encIs p.2]
def encOn (o : Op) : D := .str o.nm
/-- the law's lists: states, done, undone -/
structure Mir (K : PySem.W.Frag) (Hc H : Hp) (S Dn Un : Addr) (s : BSt) : Prop where
  ls : ∃ xs, H S = some (.lst xs) ∧ DpAll K Hc xs ((s.old ++ [s.cur]).map encIs)
  ld : ∃ xs, H Dn = some (.lst xs) ∧ DpAll K Hc xs (s.ops.map encOn)
  lu : ∃ xs, H Un = some (.lst xs) ∧ DpAll K Hc xs (s.und.map encM)
  cs : Hc S = none
  cd : Hc Dn = none
  cu : Hc Un = none
  sd : S ≠ Dn
  su : S ≠ Un
  du : Dn ≠ Un
section
variable {K : PySem.W.Frag} {S Dn Un : Addr} {Hc H Hc1 H1 : Hp} {s : BSt} {G : List Addr}
theorem Mir.gs (h : Mir K Hc H S Dn Un s) (g : GS G Hc H Hc1 H1) (n1 : S ∉ G) (n2 : Dn ∉ G) (n3 : Un ∉ G) : Mir K Hc1 H1 S Dn Un s := by
  obtain ⟨xs, s1, s2⟩ := h.ls
  obtain ⟨ys, d1, d2⟩ := h.ld
  obtain ⟨zs, u1, u2⟩ := h.lu
  exact ⟨⟨xs, g.hh _ _ n1 s1, s2.same g.cc⟩, ⟨ys, g.hh _ _ n2 d1, d2.same g.cc⟩, ⟨zs, g.hh _ _ n3 u1, u2.same g.cc⟩, g.nw _ (some_ne s1) h.cs, g.nw _ (some_ne d1) h.cd, g.nw _ (some_ne u1) h.cu, h.sd, h.su, h.du⟩
theorem Mir.grow (h : Mir K Hc H S Dn Un s) (g : Grow Hc H Hc1 H1) : Mir K Hc1 H1 S Dn Un s := h.gs (g.gs (S := [])) (fun z => nomatch z) (fun z => nomatch z) (fun z => nomatch z)
theorem Mir.es (h : Mir K Hc H S Dn Un s) : H S ≠ none := by
  obtain ⟨_, h1, _⟩ := h.ls
  exact some_ne h1
theorem Mir.ed (h : Mir K Hc H S Dn Un s) : H Dn ≠ none := by
  obtain ⟨_, h1, _⟩ := h.ld
  exact some_ne h1
theorem Mir.eu (h : Mir K Hc H S Dn Un s) : H Un ≠ none := by
  obtain ⟨_, h1, _⟩ := h.lu
  exact some_ne h1
end
def spBack (K : PySem.W.Frag) : Sp := fun vs H Q _ => ∃ (Hc : Hp) (S Dn Un : Addr) (v : Wd) (s : BSt) (way : Int) (n : Nat), vs = [.int way, .ref S, .ref Dn, .ref Un] ∧ Cor Hc H ∧ Mir K Hc H S Dn Un s ∧ BOk v s ∧ (way = 0 ∨ way = 1) ∧
  ((∃ d s', Stp way n s d s' ∧ ∀ r Hc1 H1, GS [S, Dn, Un] Hc H Hc1 H1 → Mir K Hc1 H1 S Dn Un s' → Dp K Hc1 r (.tuple [.str "returned", d]) → Q r H1) ∨
    (∃ j, StE way n s j ∧ ∀ r Hc1 H1, Grow Hc H Hc1 H1 → Dp K Hc1 r (.tuple [.str "raised", .int (j : Nat)]) → Q r H1))
abbrev N__law_back : List Str := ["_law_way", "_law_states", "_law_done", "_law_undone", "_law_name_here", "_law_state"]
theorem sc__law_back : FnScope N__law_back ["_law_way", "_law_states", "_law_done", "_law_undone"] (defScope (top 96)) := ⟨rfl, rfl, rfl, by decide +kernel, rfl, by decide +kernel, by decide +kernel⟩
theorem lay_N (o : Op) : (encOn o).canLay0 = true := by
  cases o with
  | add i => exact (by decide +kernel : PyData.canLay0 (.str "add") = true)
  | drop n => exact (by decide +kernel : PyData.canLay0 (.str "drop") = true)
theorem lay_M {v : Wd} (ok : OkW v) {p : Op × List Inst} (h2 : okSet v p.2) : (encM p).canLay0 = true := by
  obtain ⟨b1, _⟩ := lay_Is ok h2.2
  have := lay_N p.1
  simp only [encM, encOn, PyData.canLay0, PyData.canLayAll0] at *
  simp [b1, this]
theorem idx_undo : raAll.idxOf ("undo" : Str) = 23 := by decide +kernel
theorem idx_number : raAll.idxOf ("number" : Str) = 5 := by decide +kernel
/-- _law_raises('..') -/
theorem h_raises {X : Cx} {m : Str} {kk} {p p2 pos : Pos} {σ : L2.St} {H Hc : Hp} {Q : VK} (D1 : DefD X.prog X.w X.K X.mg X.base "_law_raises" 1 ["_law_name_here"] spRaises) (hr : Room 1 X.A) (hm : m ∈ raAll) (c : Cor Hc H)
    (q : ∀ r Hc1 H1, Grow Hc H Hc1 H1 → Dp X.K Hc1 r (.tuple [.str "raised", .int (raAll.idxOf m : Nat)]) → Q r H1) (hg : Gl X "_law_raises" := by rfl) (he : starEach (.Constant (.str m) kk p2 :: []) X.env = (false, eval (.Constant (.str m) kk p2) X.env) :: starEach [] X.env := by rfl) (hpl : (backTo pos (starEach [] X.env)).any (·.1) = false := by rfl) :
    HX X (.Call (.Name "_law_raises" p) [.Constant (.str m) kk p2] [] pos) σ H Q :=
  h_callD D1 hr hg (ha_cons (h_str (ha_nil ⟨Hc, [.str m], _, c, .cons (L2.Dp.str _) .nil, ⟨m, hm, rfl, rfl⟩, fun r Hc1 H1 g p => q r Hc1 H1 g p⟩)) he) (by decide) he hpl
section
variable {P : Program} {w : World} {K : PySem.W.Frag} {mg : Str → Option Value} {base : Heap}
theorem ok__law_back (D1 : DefD P w K mg base "_law_raises" 1 ["_law_name_here"] spRaises) (F : Has K mg "_law_back" (top 96)) :
    DefK P w K mg base "_law_back" (1 + 1) ["_law_way", "_law_states", "_law_done", "_law_undone"] (spBack K) := by
  refine def_mkK F (fun _ _ _ _ _ _ us hl => match us, hl with | [_, _, _, _], _ => rfl) fun f fd F => ?_
  refine F.ok sc__law_back (fun vs H Q E h => ?_) (fun cdv A outer s0 H vs Q E hr h => ?_)
  · obtain ⟨Hc, S, Dn, Un, v, s, way, n, rfl, _⟩ := h
    rfl
  · obtain ⟨Hc, S, Dn, Un, v, s, way, n, rfl, c, M, ok, hw, h⟩ := h
    refine ⟨_, PSs.nox pss_h, ?_⟩
    have hu1 := hr.u 1
    have hlD : PyData.canLayAll0 (s.ops.map encOn) = true := layL2 encOn s.ops fun o _ => lay_N o
    have hlU : PyData.canLayAll0 (s.und.map encM) = true := layL2 encM s.und fun p hp => lay_M ok.sm.ok (ok.u p hp)
    obtain ⟨xs, s1, s2⟩ := M.ls
    obtain ⟨ys, d1, d2⟩ := M.ld
    obtain ⟨zs, u1, u2⟩ := M.lu
    have hz := ok.z
    have hlen := ok.len
    rcases hw with rfl | rfl
    · refine h_cons (h_if (h_isNil (a := Dn) c (fun Q q => hx_of (pe_ifExp (ta := fun σ H Q => HX _ _ σ H Q) (tb := fun σ H Q => HX _ _ σ H Q) (tA := fun σ H Q => HT _ _ σ H Q) pt_h pe_h pe_h) (h_wayIs 0 rfl (pe_at 2 rfl q))) d1 d2 hlD (by show (A.deeper _).units + 1 < cLine; omega) fun p np => ?_))
      have g1 : Grow Hc H Hc (upd H p (.lst [])) := (GS.newO (S := []) c np id).grow
      rcases h with ⟨d, s', st, q⟩ | ⟨j, st, q⟩
      · cases st
        rename_i old o cur ops op und
        rw [decide_eq_false (fun z => by simp at z)]
        refine h_nil (h_cons (h_if (h_wayIs 0 rfl ?_)))
        generalize (upd H p (.lst [])) = H1 at *
        rw [List.map_append] at s2 d2
        obtain ⟨xs, xl, rfl, s4, s3⟩ := dps_snoc s2
        obtain ⟨ys, yl, rfl, d4, d3⟩ := dps_snoc d2
        have e1 := dp_str (show Dp K Hc yl (.str op.nm) from d3)
        subst e1
        refine h_cons (h_append (pe_at 3 rfl ⟨Un, zs, rfl, g1.hh _ _ u1, hx_of (pe_tup pa_h) (ha_cons (h_pop (pe_at 2 rfl ⟨Dn, ys, _, rfl, g1.hh _ _ d1, ha_cons (h_pop (pe_at 1 rfl ⟨S, xs, xl, rfl, by rw [upd_ne M.sd]; exact g1.hh _ _ s1, ha_nil ⟨Nat.le_of_ble_eq_true rfl, fun t nt => ?_⟩⟩))⟩)))⟩))
        have G1 : GS [S, Dn, Un] Hc H Hc H1 := g1.gs
        have G2 := G1.trans (GS.set (S := [S, Dn, Un]) G1.cor M.cd (o := .lst ys) id (by simp))
        have G3 := G2.trans (GS.set (S := [S, Dn, Un]) G2.cor M.cs (o := .lst xs) id (by simp))
        have g4 := Grow.new (o := .tup [.str op.nm, xl]) G3.cor nt
        have G4 := G3.trans g4.gs
        have k1 := g4.hh Un _ (by rw [upd_ne (Ne.symm M.su), upd_ne (Ne.symm M.du)]; exact g1.hh _ _ u1)
        have k2 := g4.hh S _ (by rw [upd_same])
        have k3 := g4.hh Dn _ (by rw [upd_ne (Ne.symm M.sd), upd_same])
        have ct : (upd Hc t (.tup [.str op.nm, xl])) t = some (.tup [.str op.nm, xl]) := upd_same
        have cc := g4.cc
        have cs4 : (upd Hc t (.tup [.str op.nm, xl])) S = none := G4.nw _ M.es M.cs
        have cd4 : (upd Hc t (.tup [.str op.nm, xl])) Dn = none := G4.nw _ M.ed M.cd
        have cu4 : (upd Hc t (.tup [.str op.nm, xl])) Un = none := G4.nw _ M.eu M.cu
        generalize (upd (upd (upd H1 Dn (.lst ys)) S (.lst xs)) t (.tup [.str op.nm, xl])) = H4 at *
        generalize (upd Hc t (.tup [.str op.nm, xl])) = Hc4 at *
        have hzl : zs.length < sizeLine := by
          rw [u2.len, List.length_map]
          simp at hz
          exact Nat.lt_of_le_of_lt (by show _ ≤ 1000; simp; omega) (by decide : 1000 < sizeLine)
        refine ⟨zs, k1, hzl, ?_⟩
        have G5 := G4.trans (GS.set (S := [S, Dn, Un]) G4.cor cu4 (o := .lst (zs ++ [.ref t])) id (by simp))
        have M5 : Mir K Hc4 (upd H4 Un (.lst (zs ++ [.ref t]))) S Dn Un ⟨old, o, ops, und ++ [(op, cur)]⟩ := by
          refine ⟨⟨xs, by rw [upd_ne M.su]; exact k2, s4.same cc⟩, ⟨ys, by rw [upd_ne M.du]; exact k3, d4.same cc⟩, ⟨zs ++ [.ref t], upd_same, ?_⟩, cs4, cd4, cu4, M.sd, M.su, M.du⟩
          rw [List.map_append]
          exact (u2.same cc).app (.cons (L2.Dp.tup (.inl (.inl ct)) (.cons (L2.Dp.str _) (.cons (s3.same cc) .nil))) .nil)
        refine h_one (h_ret (hx_of (pe_tup pa_h) (ha_cons (h_str (ha_cons (hx_of (pe_ix ix_tup pe_h pe_int (fun _ _ => rfl)) (h_ixm1 (pe_at 3 rfl ⟨Un, _, .ref t, rfl, upd_same, atI_last zs _, t, [.str op.nm, xl], 0, .str op.nm, rfl, rfl, sqt_sub G5.cor (.inl (.inl ct)), rfl, ha_nil ⟨Nat.le_of_ble_eq_true rfl, fun u nu => ?_⟩⟩))))))))
        have g6 := Grow.new (o := .tup [.str "returned", .str op.nm]) G5.cor nu
        exact q _ _ _ (G5.trans g6.gs) (M5.grow g6) (L2.Dp.tup (.inl (.inl upd_same)) (.cons (L2.Dp.str _) (.cons (L2.Dp.str _) .nil)))
      · cases st with
        | undo he =>
          rw [he]
          refine h_one (h_ret (h_raises D1 (hr.mono (by omega)) (by decide) g1.cor fun r Hc1 H1 g2 pd => ?_))
          rw [idx_undo] at pd
          exact q r Hc1 H1 (g1.trans g2) pd
    · refine h_cons (h_if (h_isNil (a := Un) c (fun Q q => hx_of (pe_ifExp (ta := fun σ H Q => HX _ _ σ H Q) (tb := fun σ H Q => HX _ _ σ H Q) (tA := fun σ H Q => HT _ _ σ H Q) pt_h pe_h pe_h) (h_wayIs 0 rfl (pe_at 3 rfl q))) u1 u2 hlU (by show (A.deeper _).units + 1 < cLine; omega) fun p np => ?_))
      have g1 : Grow Hc H Hc (upd H p (.lst [])) := (GS.newO (S := []) c np id).grow
      rcases h with ⟨d, s', st, q⟩ | ⟨j, st, q⟩
      · cases st
        rename_i old cur st ops op und
        rw [decide_eq_false (fun z => by simp at z)]
        refine h_nil (h_cons (h_if (h_wayIs 0 rfl (h_nil ?_))))
        generalize (upd H p (.lst [])) = H1 at *
        rw [List.map_append] at u2
        obtain ⟨zs, zl, rfl, u4, u3⟩ := dps_snoc u2
        obtain ⟨ta, ts, rfl, t1, t2⟩ := dp_tupI (show Dp K Hc zl (.tuple [.str op.nm, encIs st]) from u3)
        cases t2 with
        | cons t2 t3 =>
        rename_i nv ts
        cases t3 with
        | cons t3 t4 =>
        rename_i sv ts
        cases t4
        have e1 := dp_str t2
        subst e1
        have G1 : GS [S, Dn, Un] Hc H Hc H1 := g1.gs
        have G2 := G1.trans (GS.set (S := [S, Dn, Un]) G1.cor M.cu (o := .lst zs) id (by simp))
        refine h_cons (hs_of (ps_asg pe_h (pg_tup rfl (pgs_cons (pg_name (i := 4) sc__law_back.nd rfl (by first | exact Or.inl rfl | exact Or.inr rfl)) (pgs_cons (pg_name (i := 5) sc__law_back.nd rfl (by first | exact Or.inl rfl | exact Or.inr rfl)) pgs_nil))))
          (h_pop (pe_at 3 rfl ⟨Un, zs, _, rfl, g1.hh _ _ u1, ta, _, rfl, sqt_sub G2.cor t1, rfl, _, _, rfl, _, _, rfl, rfl, ?_⟩)))
        have hyl : ys.length < sizeLine := by
          rw [d2.len, List.length_map]
          simp at hz hlen ⊢
          exact Nat.lt_of_le_of_lt (by omega : _ ≤ 1000) (by decide)
        have hxl : xs.length < sizeLine := by
          rw [s2.len, List.length_map, List.length_append]
          exact Nat.lt_of_le_of_lt (by simp at hz ⊢; omega : _ ≤ 1001) (by decide)
        have j1 : (upd H1 Un (.lst zs)) Dn = some (.lst ys) := by rw [upd_ne M.du]; exact g1.hh _ _ d1
        have j2 : (upd H1 Un (.lst zs)) S = some (.lst xs) := by rw [upd_ne M.su]; exact g1.hh _ _ s1
        have j3 : (upd H1 Un (.lst zs)) Un = some (.lst zs) := upd_same
        generalize (upd H1 Un (.lst zs)) = H2 at *
        refine h_cons (h_append (pe_at 2 rfl ⟨Dn, ys, rfl, j1, pe_at 4 rfl ⟨ys, j1, hyl, ?_⟩⟩))
        have G3 := G2.trans (GS.set (S := [S, Dn, Un]) G2.cor M.cd (o := .lst (ys ++ [.str op.nm])) id (by simp))
        have k1 : (upd H2 Dn (.lst (ys ++ [.str op.nm]))) S = some (.lst xs) := by rw [upd_ne M.sd]; exact j2
        refine h_cons (h_append (pe_at 1 rfl ⟨S, xs, rfl, k1, pe_at 5 rfl ⟨xs, k1, hxl, ?_⟩⟩))
        have G4 := G3.trans (GS.set (S := [S, Dn, Un]) G3.cor M.cs (o := .lst (xs ++ [sv])) id (by simp))
        have M5 : Mir K Hc (upd (upd H2 Dn (.lst (ys ++ [.str op.nm]))) S (.lst (xs ++ [sv]))) S Dn Un ⟨old ++ [cur], st, ops ++ [op], und⟩ := by
          refine ⟨⟨xs ++ [sv], upd_same, ?_⟩, ⟨ys ++ [.str op.nm], by rw [upd_ne (Ne.symm M.sd), upd_same], ?_⟩, ⟨zs, by rw [upd_ne (Ne.symm M.su), upd_ne (Ne.symm M.du)]; exact j3, u4⟩, M.cs, M.cd, M.cu, M.sd, M.su, M.du⟩
          · rw [List.map_append]
            exact s2.app (.cons t3 .nil)
          · rw [List.map_append]
            exact d2.app (.cons (L2.Dp.str _) .nil)
        refine h_one (h_ret (hx_of (pe_tup pa_h) (ha_cons (h_str (ha_cons (pe_at 4 rfl (ha_nil ⟨Nat.le_of_ble_eq_true rfl, fun u nu => ?_⟩)))))))
        have g6 := Grow.new (o := .tup [.str "returned", .str op.nm]) G4.cor nu
        exact q _ _ _ (G4.trans g6.gs) (M5.grow g6) (L2.Dp.tup (.inl (.inl upd_same)) (.cons (L2.Dp.str _) (.cons (L2.Dp.str _) .nil)))
      · cases st with
        | redo he =>
          rw [he]
          refine h_one (h_ret (h_raises D1 (hr.mono (by omega)) (by decide) g1.cor fun r Hc1 H1 g2 pd => ?_))
          rw [idx_undo] at pd
          exact q r Hc1 H1 (g1.trans g2) pd
end
end Tr
set_option Elab.async false
set_option linter.all false
set_option maxRecDepth 100000
set_option maxHeartbeats 1000000
set_option autoImplicit false
/-! W34: _law_town; loops by hand; what holds at a turn of the law -/
namespace Tr
open PySem PySem.Spec PyProof.Rows L2 DL
theorem EVn.at {X : Cx} {e : Expr} {env : DEnv} {ds : List D} {Hc H : Hp} {σ : L2.St} {Q : VK} (h : EVn X e env ds) (hs : DSX X.K Hc σ H env) (q : ∀ a vs Hc1 H1, Grow Hc H Hc1 H1 → H a = none → Hc1 a = none → H1 a = some (.lst vs) → DpAll X.K Hc1 vs ds → Q (.ref a) H1) : HX X e σ H Q := ⟨h Hc σ H hs Q q⟩
theorem dp_ints {K : PySem.W.Frag} {H : Hp} : ∀ {vs : List V} {xs : List Int}, DpAll K H vs (xs.map PyData.int) → vs = xs.map V.int
  | _, [], h => by
    cases h
    rfl
  | _, x :: xs, h => by
    cases h with
    | cons h1 h2 =>
      rw [dp_int h1, dp_ints h2]
      rfl
def spTown (K : PySem.W.Frag) : Sp := fun vs H Q _ => ∃ (Hc : Hp) (sv : V) (xs : List Int), vs = [sv] ∧ Cor Hc H ∧ Dq K Hc sv (scrD xs) ∧ xs.length ≤ 63 ∧ ∀ T Hc1 H1, Grow Hc H Hc1 H1 → H T = none → Hc1 T = none → Twn T xs.length 0 H1 → Q (.ref T) H1
abbrev N__law_town : List Str := ["_law_script"]
theorem sc__law_town : FnScope N__law_town ["_law_script"] (defScope (top 82)) := ⟨rfl, rfl, rfl, by decide +kernel, rfl, by decide +kernel, by decide +kernel⟩
section
variable {P : Program} {w : World} {K : PySem.W.Frag} {mg : Str → Option Value} {base : Heap}
theorem ok__law_town (B : Blt mg) (F : Has K mg "_law_town" (top 82)) : DefK P w K mg base "_law_town" 1 ["_law_script"] (spTown K) := by
  refine def_mkK F (fun _ _ _ _ _ _ us hl => match us, hl with | [_], _ => rfl) fun f fd F => ?_
  refine F.ok sc__law_town (fun vs H Q E h => ?_) (fun cdv A outer s0 H vs Q E hr h => ?_)
  · obtain ⟨Hc, sv, xs, rfl, _⟩ := h
    rfl
  · obtain ⟨Hc, sv, xs, rfl, c, hsv, hx, q⟩ := h
    refine ⟨_, PSs.nox pss_h, ?_⟩
    have hs : DSX K Hc (L2.start N__law_town [sv]) H [some (scrD xs)] := dsx_start (N := N__law_town) c (DqAll.one hsv)
    refine h_one (h_ret (hx_of (pe_op op_cat pe_h pe_h) (hx_of (pe_lst pa_h) (ha_cons (hx_of pe_int (ha_nil ⟨Nat.le_of_ble_eq_true rfl, fun t nt => ?_⟩))))))
    have g1 := (GS.newO (S := []) c nt (o := .lst [.int 0]) id).grow
    refine EVn.at (en_list (ds := xs.map PyData.int) (ev_v 0 rfl) rfl rfl B.list) (hs.grow g1) fun a zs Hc2 H2 g2 na nc ha hd => ?_
    have e := dp_ints hd
    subst e
    refine ⟨t, a, [.int 0], xs.map V.int, rfl, rfl, g2.hh _ _ upd_same, ha, ?_, fun T nT => ?_⟩
    · rw [List.length_map]
      exact Nat.le_trans (by show 1 + _ ≤ 100; omega) (by decide : 100 ≤ sizeLine)
    have g3 := (GS.newO (S := []) g2.cor nT (o := .lst ([.int 0] ++ xs.map V.int)) id).grow
    exact q T _ _ ((g1.trans g2).trans g3) ((g1.trans g2).hh.free nT) (g2.cor.sub.free nT) ⟨0 :: xs, upd_same, by simp, 0, rfl, Nat.le_refl _⟩
end
/-! loops -/
structure HI (X : Cx) (tg it : Expr) (σ : L2.St) (H : Hp) (R : It → Hp → Prop) : Prop where
  r : WI X tg it σ H R
theorem pi_h {X : Cx} {tg it : Expr} : PI X tg it (fun σ H R => HI X tg it σ H R) := ⟨fun pins s σ H R I h => h.r pins s I⟩
/-- for x in it: body, x a plain name -/
theorem h_for {X : Cx} (k : Nat) {x : Str} {it : Expr} {body : List Stmt} {px pos : Pos} {Z : Ends} {σ : L2.St} {H : Hp} (hN : X.N.Nodup)
    (hi : HI X (.Name x px) it σ H fun J H1 => ∃ (Hc1 : Hp) (ds : List D) (St : Hp → Prop) (Y : Nat → Hp → V → Hp → Prop) (Inv : Nat → Hp → L2.St → Hp → Prop), Walk J ds.length St Y ∧ (∀ i Hc' σ' H', Inv i Hc' σ' H' → Cor Hc' H' ∧ St H' ∧ ∀ H2 y, i < ds.length → Y i H' y H2 → ∃ Hc3 d, Grow Hc' H' Hc3 H2 ∧ ds[i]? = some d ∧ Dp X.K Hc3 y d) ∧ Inv 0 Hc1 σ H1 ∧
      (∀ i d Hc' σ' H', ds[i]? = some d → Inv i Hc' σ' H' → ∀ v Hc2 H2, Grow Hc' H' Hc2 H2 → Dp X.K Hc2 v d → HSs X body { nx := fun σ3 H3 => ∃ Hc3, Inv (i + 1) Hc3 σ3 H3, ct := fun σ3 H3 => ∃ Hc3, Inv (i + 1) Hc3 σ3 H3, bk := Z.nx, rt := Z.rt } (σ'.set k (some v)) H2) ∧
      (∀ Hc' σ' H', Inv ds.length Hc' σ' H' → Z.nx σ' H'))
    (hk : X.N[k]? = some x := by rfl) (hx : Loc X.env.scope x := by first | exact Or.inl rfl | exact Or.inr rfl) (hf : X.fn x = true ∨ X.env.scope.names.lookup x = some .local := by first | exact .inl rfl | exact .inr rfl) (hp : PassesOwn (model X.prog X.w) X.A X.env X.xe := by exact PassesOwn.never) (hc : X.calm = true := by rfl)
    (hs : ∀ x, foldedSetIterable it X.env x = pure x := by intro _; rfl) : HS X (.For (.Name x px) it body [] pos) Z σ H := by
  refine hs_of (ps_for hp hc pi_h (pg_name hN hk hx hf) pss_h hs) ⟨?_⟩
  intro pins s I
  refine thn (hi.r pins s I) fun v s1 h1 => thn h1 fun itv s2 h2 => ?_
  obtain ⟨it', fp, tn, J, H2, e, I2, T, st2, f2, Hc1, ds, St, Y, Inv, w, ic, i0, turn, done⟩ := h2
  refine ⟨it', fp, tn, J, H2, e, I2, T, st2, f2, ?_⟩
  refine for_it w (fun i σ' H' => ∃ Hc', Inv i Hc' σ' H') ⟨Hc1, i0⟩ ?_ ?_ ?_
  · rintro i σ' H' _ ⟨Hc', q⟩
    exact (ic i Hc' σ' H' q).2.1
  · rintro i x σ' H' H'' hlt ⟨Hc', q⟩ y
    obtain ⟨c, s, yy⟩ := ic i Hc' σ' H' q
    obtain ⟨Hc3, d, g3, hd3, px⟩ := yy H'' x hlt y
    exact turn i d Hc' σ' H' hd3 q x Hc3 H'' g3 px
  · rintro σ' H' ⟨Hc', q⟩
    exact done Hc' σ' H' q
/-- range(e), e by hand -/
def YR (n : Nat) : Nat → Hp → V → Hp → Prop := fun i H2 v H3 => v = .int (i : Nat) ∧ H3 = H2
theorem h_range {X : Cx} {tg e : Expr} {p pos : Pos} {σ : L2.St} {H : Hp} {R : It → Hp → Prop} (B : Blt X.mg) (h : HX X e σ H fun v H1 => ∃ n : Nat, v = .int (n : Nat) ∧ n ≤ 1000000 ∧ ∀ J, Walk J (rangeD n).length (fun _ => True) (YR n) → R J H1)
    (hg : Gl X "range" := by rfl) (hs : starEach [e] X.env = [(false, eval e X.env)] := by rfl) (he : starEach (e :: []) X.env = (false, eval e X.env) :: starEach [] X.env := by rfl) : HI X tg (.Call (.Name "range" p) [e] [] pos) σ H R := by
  refine ⟨wi_of (pi_range1 hg B.range pa_h hs) (ha_cons (hx_of pe_h ⟨wx_mono h.r fun v H1 hv => ?_⟩) he)⟩
  obtain ⟨n, rfl, hn, r⟩ := hv
  have h62 : (1000000 : Int) < 2 ^ 62 := by decide
  refine ha_nil ⟨(n : Int), rfl, by omega, by omega, r _ ?_⟩
  rw [rangeD_len, Int.toNat_natCast]
  refine (walk_range (lo := 0) (n := n)).mono (fun _ _ => trivial) fun i H2 x H3 hi _ y => ?_
  obtain ⟨rfl, rfl⟩ := y
  have e0 : (0 : Int) + ((i : Nat) : Int) = ((i : Nat) : Int) := Int.zero_add _
  exact ⟨by show V.int (0 + ((i : Nat) : Int)) = _; rw [e0], rfl⟩
theorem yr_at {K : PySem.W.Frag} {n i : Nat} {Hc H H2 : Hp} {y : V} (h : i < n) (c : Cor Hc H) (yy : YR n i H y H2) : ∃ Hc3 d, Grow Hc H Hc3 H2 ∧ (rangeD n)[i]? = some d ∧ Dp K Hc3 y d := by
  obtain ⟨rfl, rfl⟩ := yy
  exact ⟨Hc, .int (i : Nat), Grow.refl c, by simp [rangeD, h], L2.Dp.int _⟩
/-- what a def of the law reads, slot by slot -/
abbrev envL (xs : List Int) (T : Addr) (v : Wd) (b S Dn Un : Addr) (es : DEnv) : DEnv := some (scrD xs) :: some (adM T) :: some (W v) :: some (adM b) :: some (adM S) :: some (adM Dn) :: some (adM Un) :: es
structure LI (K : PySem.W.Frag) (C : Addr) (xs : List Int) (v : Wd) (T b dx bs bd bu S Dn Un : Addr) (n : Nat) (s s2 : BSt) (es : DEnv) (Hc : Hp) (σ : L2.St) (H : Hp) : Prop where
  hs : DSX K Hc σ H (envL xs T v b S Dn Un es)
  tw : Twn T xs.length n H
  ht : Hc T = none
  B : BnA K C Hc H b dx bs bd bu v s
  M : Mir K Hc H S Dn Un s2
  nd : [T, b, bs, bd, bu, S, Dn, Un].Nodup
  hx : xs.length ≤ 63
section
variable {K : PySem.W.Frag} {C : Addr} {xs : List Int} {v : Wd} {T b dx bs bd bu S Dn Un : Addr} {n m : Nat} {s s2 s' : BSt} {bu' : Addr} {es es' : DEnv} {Hc H Hc1 H1 : Hp} {σ : L2.St}
theorem nd8 (h : [T, b, bs, bd, bu, S, Dn, Un].Nodup) : (T ≠ b ∧ T ≠ bs ∧ T ≠ bd ∧ T ≠ bu ∧ T ≠ S ∧ T ≠ Dn ∧ T ≠ Un) ∧ (b ≠ bs ∧ b ≠ bd ∧ b ≠ bu ∧ b ≠ S ∧ b ≠ Dn ∧ b ≠ Un) ∧ (bs ≠ bd ∧ bs ≠ bu ∧ bs ≠ S ∧ bs ≠ Dn ∧ bs ≠ Un) ∧ (bd ≠ bu ∧ bd ≠ S ∧ bd ≠ Dn ∧ bd ≠ Un) ∧ (bu ≠ S ∧ bu ≠ Dn ∧ bu ≠ Un) ∧ (S ≠ Dn ∧ S ≠ Un) ∧ Dn ≠ Un := by
  simpa [List.nodup_cons, and_assoc] using h
theorem LI.cor (h : LI K C xs v T b dx bs bd bu S Dn Un n s s2 es Hc σ H) : Cor Hc H := h.hs.cor
theorem LI.grow (h : LI K C xs v T b dx bs bd bu S Dn Un n s s2 es Hc σ H) (g : Grow Hc H Hc1 H1) : LI K C xs v T b dx bs bd bu S Dn Un n s s2 es Hc1 σ H1 :=
  ⟨h.hs.grow g, h.tw.same g.hh, g.nw _ h.tw.ne h.ht, h.B.grow g, h.M.grow g, h.nd, h.hx⟩
theorem LI.growT (h : LI K C xs v T b dx bs bd bu S Dn Un n s s2 es Hc σ H) (g : GrowT T Hc H Hc1 H1) (t : Twn T xs.length m H1) : LI K C xs v T b dx bs bd bu S Dn Un m s s2 es Hc1 σ H1 := by
  obtain ⟨⟨a1, a2, a3, a4, a5, a6, a7⟩, _⟩ := nd8 h.nd
  have G : GS [T] Hc H Hc1 H1 := g.gs t.ne
  have ne : ∀ a, T ≠ a → a ∉ [T] := fun a z w => z (List.mem_singleton.mp w).symm
  exact ⟨h.hs.gs G, t, g.nw _ h.tw.ne h.ht, h.B.gs G (ne _ a1) (ne _ a2) (ne _ a3) (ne _ a4), h.M.gs G (ne _ a5) (ne _ a6) (ne _ a7), h.nd, h.hx⟩
theorem LI.le (h : LI K C xs v T b dx bs bd bu S Dn Un n s s2 es Hc σ H) (k : n ≤ m) : LI K C xs v T b dx bs bd bu S Dn Un m s s2 es Hc σ H := ⟨h.hs, h.tw.le k, h.ht, h.B, h.M, h.nd, h.hx⟩
/-- slot 7 + i set -/
theorem LI.set (h : LI K C xs v T b dx bs bd bu S Dn Un n s s2 es Hc σ H) (i : Nat) {y : V} {d : D} (p : Dq K Hc y d) : LI K C xs v T b dx bs bd bu S Dn Un n s s2 (es.set i (some d)) Hc (σ.set (7 + i) (some y)) H := by
  refine ⟨?_, h.tw, h.ht, h.B, h.M, h.nd, h.hx⟩
  have e := h.hs.set (7 + i) p
  have e2 : (envL xs T v b S Dn Un es).set (7 + i) (some d) = envL xs T v b S Dn Un (es.set i (some d)) := by
    have : 7 + i = i + 1 + 1 + 1 + 1 + 1 + 1 + 1 := by omega
    rw [this]
    rfl
  rw [e2] at e
  exact e
/-- less is read -/
theorem LI.less (h : LI K C xs v T b dx bs bd bu S Dn Un n s s2 es Hc σ H) (hl : es'.length = es.length) (q : ∀ (i : Nat) (d : D), es'[i]? = some (some d) → es[i]? = some (some d)) : LI K C xs v T b dx bs bd bu S Dn Un n s s2 es' Hc σ H := by
  refine ⟨⟨h.hs.cor, ?_, fun i d e => h.hs.at_ i d ?_⟩, h.tw, h.ht, h.B, h.M, h.nd, h.hx⟩
  · have := h.hs.len
    simp only [envL, List.length_cons] at this ⊢
    omega
  · match i, e with
    | 0, e => exact e
    | 1, e => exact e
    | 2, e => exact e
    | 3, e => exact e
    | 4, e => exact e
    | 5, e => exact e
    | 6, e => exact e
    | i + 7, e => exact q i d e
theorem LI.s1 (h : LI K C xs v T b dx bs bd bu S Dn Un n s s2 es Hc σ H) : σ[1]? = some (some (.ref T)) := DSX.ad h.hs (i := 1) rfl
theorem LI.s3 (h : LI K C xs v T b dx bs bd bu S Dn Un n s s2 es Hc σ H) : σ[3]? = some (some (.ref b)) := DSX.ad h.hs (i := 3) rfl
theorem LI.s4 (h : LI K C xs v T b dx bs bd bu S Dn Un n s s2 es Hc σ H) : σ[4]? = some (some (.ref S)) := DSX.ad h.hs (i := 4) rfl
theorem LI.s5 (h : LI K C xs v T b dx bs bd bu S Dn Un n s s2 es Hc σ H) : σ[5]? = some (some (.ref Dn)) := DSX.ad h.hs (i := 5) rfl
theorem LI.s6 (h : LI K C xs v T b dx bs bd bu S Dn Un n s s2 es Hc σ H) : σ[6]? = some (some (.ref Un)) := DSX.ad h.hs (i := 6) rfl
theorem twn_gs {G : List Addr} (h : Twn T xs.length n H) (g : GS G Hc H Hc1 H1) (hn : T ∉ G) : Twn T xs.length n H1 := by
  obtain ⟨ys, h1, h2⟩ := h
  exact ⟨ys, g.hh _ _ hn h1, h2⟩
theorem LI.ne (h : LI K C xs v T b dx bs bd bu S Dn Un n s s2 es Hc σ H) : H T ≠ none ∧ H b ≠ none ∧ H bs ≠ none ∧ H bd ≠ none ∧ H bu ≠ none ∧ H S ≠ none ∧ H Dn ≠ none ∧ H Un ≠ none := ⟨h.tw.ne, h.B.eb, h.B.es, h.B.ed, h.B.eu, h.M.es, h.M.ed, h.M.eu⟩
/-- the bench has done something -/
theorem LI.bench (h : LI K C xs v T b dx bs bd bu S Dn Un n s s2 es Hc σ H) (g : GS [b, bs, bd, bu] Hc H Hc1 H1) (hb : bu' = bu ∨ H bu' = none) (hB : BnA K C Hc1 H1 b dx bs bd bu' v s') : LI K C xs v T b dx bs bd bu' S Dn Un n s' s2 es Hc1 σ H1 := by
  obtain ⟨⟨a1, a2, a3, a4, a5, a6, a7⟩, ⟨b1, b2, b3, b4, b5, b6⟩, ⟨c1, c2, c3, c4, c5⟩, ⟨d1, d2, d3, d4⟩, ⟨e1, e2, e3⟩, ⟨f1, f2⟩, g1⟩ := nd8 h.nd
  obtain ⟨h1, h2, h3, h4, h5, h6, h7, h8⟩ := h.ne
  have nt : T ∉ [b, bs, bd, bu] := by simp [a1, a2, a3, a4]
  refine ⟨h.hs.gs g, twn_gs h.tw g nt, g.nw _ h1 h.ht, hB, h.M.gs g ?_ ?_ ?_, ?_, h.hx⟩
  · simp [Ne.symm b4, Ne.symm c3, Ne.symm d2, Ne.symm e1]
  · simp [Ne.symm b5, Ne.symm c4, Ne.symm d3, Ne.symm e2]
  · simp [Ne.symm b6, Ne.symm c5, Ne.symm d4, Ne.symm e3]
  · rcases hb with rfl | hb
    · exact h.nd
    · have k : ∀ a, H a ≠ none → a ≠ bu' := fun a ha z => ha (by rw [z]; exact hb)
      have k1 := k _ h1
      have k2 := k _ h2
      have k3 := k _ h3
      have k4 := k _ h4
      have k6 := Ne.symm (k _ h6)
      have k7 := Ne.symm (k _ h7)
      have k8 := Ne.symm (k _ h8)
      simp [List.nodup_cons, a1, a2, a3, k1, a5, a6, a7, b1, b2, k2, b4, b5, b6, c1, k3, c3, c4, c5, k4, d2, d3, d4, k6, k7, k8, f1, f2, g1]
/-- the law's lists have changed in place -/
theorem LI.mir (h : LI K C xs v T b dx bs bd bu S Dn Un n s s2 es Hc σ H) (g : GS [S, Dn, Un] Hc H Hc1 H1) (hM : Mir K Hc1 H1 S Dn Un s') : LI K C xs v T b dx bs bd bu S Dn Un n s s' es Hc1 σ H1 := by
  obtain ⟨⟨a1, a2, a3, a4, a5, a6, a7⟩, ⟨b1, b2, b3, b4, b5, b6⟩, ⟨c1, c2, c3, c4, c5⟩, ⟨d1, d2, d3, d4⟩, ⟨e1, e2, e3⟩, ⟨f1, f2⟩, g1⟩ := nd8 h.nd
  obtain ⟨h1, h2, h3, h4, h5, h6, h7, h8⟩ := h.ne
  exact ⟨h.hs.gs g, twn_gs h.tw g (by simp [a5, a6, a7]), g.nw _ h1 h.ht, h.B.gs g (by simp [b4, b5, b6]) (by simp [c3, c4, c5]) (by simp [d2, d3, d4]) (by simp [e1, e2, e3]), hM, h.nd, h.hx⟩
end
end Tr
set_option Elab.async false
set_option linter.all false
set_option maxRecDepth 100000
set_option maxHeartbeats 1000000
set_option autoImplicit false
/-! W35: the law's turn: undo and redo -/
namespace Tr
open PySem PySem.Spec PyProof.Rows L2 DL
abbrev N_law : List Str := ["_law_script", "_law_town_here", "_law_world_here", "_law_bench", "_law_states", "_law_done", "_law_undone", "_law_k", "_law_way", "_law_now", "_law_number", "_law_due", "_law_one", "_law_trait", "_law_sort_here", "_law_other"]
theorem sc_law : FnScope N_law ["_law_script"] (defScope (top 97)) := ⟨rfl, rfl, rfl, by decide +kernel, rfl, by decide +kernel, by decide +kernel⟩
abbrev pas : Stmt := .Pass ⟨0, 0, 0, 0⟩
def forB : Stmt → List Stmt
  | .For _ _ b _ _ => b
  | _ => []
def ifA : Stmt → List Stmt
  | .If _ a _ _ => a
  | _ => []
def ifB : Stmt → List Stmt
  | .If _ _ b _ => b
  | _ => []
/-- the law's statements, those of its turn -/
abbrev lwS (j : Nat) : Stmt := (defBody (top 97)).getD j pas
abbrev tuS (j : Nat) : Stmt := (forB (lwS 3)).getD j pas
abbrev XL (P : Program) (w : World) (K : PySem.W.Frag) (mg : Str → Option Value) (base : Heap) (f : Addr) (cdv : Value) (A : Around) (outer : List Env) (s0 : Shared) (H0 : Hp) (E : XK) : Cx := (cxOf CX0 P w K mg base N_law "law" (defScope (top 97)) f cdv A outer s0 H0 E).nox
theorem Stp.sum {way : Int} {n : Nat} {s s' : BSt} {d : D} (h : Stp way n s d s') (hw : way = 0 ∨ way = 1) : s'.old.length + s'.und.length = s.old.length + s.und.length := by
  cases h with
  | drop h => simp at hw
  | undo => simp; omega
  | redo => simp; omega
theorem lay_ret {v : Wd} {s s' : BSt} {way : Int} {n : Nat} {d : D} (ok : BOk v s) (h : Stp way n s d s') : (PyData.tuple [.str "returned", d]).canLay0 = true ∧ (PyData.tuple [.str "returned", d]).depth ≤ 30 := by
  have hr : (PyData.str "returned").canLay0 = true := by decide +kernel
  have hd : d.canLay0 = true ∧ d.depth ≤ 25 := by
    cases h with
    | drop h =>
      obtain ⟨h1, h2⟩ := lay_I ok.sm.ok (ok.c.2 _ (List.getElem_mem h))
      exact ⟨h1, by omega⟩
    | undo => exact ⟨lay_N _, by simp [PyData.depth]⟩
    | redo => exact ⟨lay_N _, by simp [PyData.depth]⟩
  constructor
  · simp only [PyData.canLay0, PyData.canLayAll0] at *
    simp [hr, hd.1]
  · simp only [PyData.depth, PyData.depthAll] at *
    omega
theorem lay_rai (j : Nat) (h : j < 100) : (PyData.tuple [.str "raised", .int (j : Nat)]).canLay0 = true ∧ (PyData.tuple [.str "raised", .int (j : Nat)]).depth ≤ 30 := by
  have hr : (PyData.str "raised").canLay0 = true := by decide +kernel
  constructor
  · simp only [PyData.canLay0, PyData.canLayAll0] at *
    simp [hr]
  · simp only [PyData.depth, PyData.depthAll] at *
    omega
section
variable {P : Program} {w : World} {K : PySem.W.Frag} {mg : Str → Option Value} {base : Heap} {C f : Addr} {cdv : Value} {A : Around} {outer : List Env} {s0 : Shared} {H0 : Hp} {E : XK}
  {xs : List Int} {v : Wd} {T b dx bs bd bu S Dn Un : Addr} {n : Nat} {s : BSt} {e0 e2 e3 e4 e5 e6 e7 e8 : Option D} {way : Int} {Hc H : Hp} {σ : L2.St} {Z : Ends}
/-- the arguments' pair, the call, what it gives -/
theorem h_out {X : Cx} {we e1 e2' : Expr} {es : DEnv} {kt : Nat} {pt p pos : Pos} {n : Nat} {k : Nat} {Q : VK} (D1 : DefK X.prog X.w X.K X.mg X.base "_law_outcome" (4 + 1) ["_law_way", "_law_arguments"] (spOut X.K C)) (hr : Room (4 + 1) X.A) (I : LI X.K C xs v T b dx bs bd bu S Dn Un n s s es Hc σ H) (hz : s.old.length < 900) (hw : way = 0 ∨ way = 1 ∨ way = 2)
    (h0 : ∀ Q : VK, Q (.int way) H → HX X we σ H Q) (h1 : ∀ Q : VK, Q (.ref b) H → HX X e1 σ H Q) (h2 : ∀ Q : VK, Q (.int (k : Nat)) H → HX X e2' σ H Q)
    (q1 : ∀ r d s' bu' Hc1 H1, Stp way k s d s' → LI X.K C xs v T b dx bs bd bu' S Dn Un n s' s es Hc1 σ H1 → Dp X.K Hc1 r (.tuple [.str "returned", d]) → Q r H1)
    (q2 : ∀ j, StE way k s j → ∀ r Hc1 H1, LI X.K C xs v T b dx bs bd bu S Dn Un n s s es Hc1 σ H1 → Dp X.K Hc1 r (.tuple [.str "raised", .int (j : Nat)]) → Q r H1)
    (hg : Gl X "_law_outcome" := by rfl) (he : starEach (we :: [.Tuple [e1, e2'] kt pt]) X.env = (false, eval we X.env) :: starEach [.Tuple [e1, e2'] kt pt] X.env := by rfl) (he2 : starEach (.Tuple [e1, e2'] kt pt :: []) X.env = (false, eval (.Tuple [e1, e2'] kt pt) X.env) :: starEach [] X.env := by rfl)
    (he3 : starEach (e1 :: [e2']) X.env = (false, eval e1 X.env) :: starEach [e2'] X.env := by rfl) (he4 : starEach (e2' :: []) X.env = (false, eval e2' X.env) :: starEach [] X.env := by rfl)
    (hpl : (backTo pos (starEach [.Tuple [e1, e2'] kt pt] X.env)).any (·.1) = false := by rfl) : HX X (.Call (.Name "_law_outcome" p) [we, .Tuple [e1, e2'] kt pt] [] pos) σ H Q := by
  refine h_callK D1 hr hg (ha_cons (h0 _ (ha_cons (hx_of (pe_tup pa_h) (ha_cons (h1 _ (ha_cons (h2 _ (ha_nil ⟨Nat.le_of_ble_eq_true rfl, fun t nt => ?_⟩)) he4)) he3)) he2)) he) (by decide) he hpl
  have g1 := Grow.new (o := .tup [.ref b, .int (k : Nat)]) I.cor nt
  have I1 := I.grow g1
  refine ha_nil ⟨_, b, dx, bs, bd, bu, v, s, way, k, t, rfl, .inl (.inl upd_same), I1.cor, I1.B, hz, hw, fun r d s' bu' Hc1 H1 st g hb hB hd => ?_, fun j st r Hc1 H1 g hd => ?_⟩
  · exact q1 r d s' bu' Hc1 H1 st (I1.bench g hb hB) hd
  · exact q2 j st r Hc1 H1 (I1.grow g) hd
theorem t_back (D1 : DefK P w K mg base "_law_outcome" (4 + 1) ["_law_way", "_law_arguments"] (spOut K C)) (D2 : DefK P w K mg base "_law_back" (1 + 1) ["_law_way", "_law_states", "_law_done", "_law_undone"] (spBack K)) (hr : Room 120 (XL P w K mg base f cdv A outer s0 H0 E).A)
    (I : LI K C xs v T b dx bs bd bu S Dn Un n s s [e0, some (.int way), e2, e3, e4, e5, e6, e7, e8] Hc σ H) (hw : way = 0 ∨ way = 1) (hz : s.old.length + s.und.length ≤ 100)
    (q : ∀ s' bu' Hc1 H1, LI K C xs v T b dx bs bd bu' S Dn Un n s' s' [e0, some (.int way), e2, e3, e4, e5, e6, e7, e8] Hc1 σ H1 → s'.old.length + s'.und.length = s.old.length + s.und.length → Z.nx σ H1) :
    HSs (XL P w K mg base f cdv A outer s0 H0 E) (ifA (tuS 1)) Z σ H := by
  obtain ⟨wv, w1, w2⟩ := I.hs.at_ 8 _ rfl
  have e := dp_int (show Dp K Hc wv (.int way) from w2)
  subst e
  have hw3 : way = 0 ∨ way = 1 ∨ way = 2 := by
    rcases hw with h | h
    · exact .inl h
    · exact .inr (.inl h)
  have hu : (A.deeper (envOfC "law" (defScope (top 97)) s0.heap.objs.size f cdv)).units + 100 < cLine := hr.u 100
  refine h_one (h_if (ht_of (pt_cmpR op_neR pe_h pe_h nomk) ?_))
  refine h_out (k := 0) D1 (hr.mono (by omega)) I (by omega) hw3 (fun Q q => pe_at 8 w1 q) (fun Q q => pe_at 3 I.s3 q) (fun Q q => hx_of pe_int q) (fun r d s' bu' Hc1 H1 st I1 hd => ?_) (fun j st r Hc1 H1 I1 hd => ?_)
  · refine h_callK D2 (hr.mono (by omega)) rfl (ha_cons (pe_at 8 w1 (ha_cons (pe_at 4 I.s4 (ha_cons (pe_at 5 I.s5 (ha_cons (pe_at 6 I.s6 (ha_nil ⟨Hc1, S, Dn, Un, v, s, way, 0, rfl, I1.cor, I1.M, I.B.ok, hw, .inl ⟨d, s', st, fun r2 Hc2 H2 g M2 hd2 => ?_⟩⟩)))))))))
    obtain ⟨l1, l2⟩ := lay_ret I.B.ok st
    have I2 := I1.mir g M2
    refine ⟨_, _, (hd.same g.cc).same I2.cor.sub, hd2.same I2.cor.sub, l1, l1, ?_, _, rfl, ?_⟩
    · show (A.deeper _).units + _ < cLine
      omega
    rw [SeqAt.eqv_refl _ l1]
    exact h_nil (q s' bu' Hc2 H2 I2 (st.sum hw))
  · refine h_callK D2 (hr.mono (by omega)) rfl (ha_cons (pe_at 8 w1 (ha_cons (pe_at 4 I.s4 (ha_cons (pe_at 5 I.s5 (ha_cons (pe_at 6 I.s6 (ha_nil ⟨Hc1, S, Dn, Un, v, s, way, 0, rfl, I1.cor, I1.M, I.B.ok, hw, .inr ⟨j, st, fun r2 Hc2 H2 g hd2 => ?_⟩⟩)))))))))
    obtain ⟨l1, l2⟩ := lay_rai j (by rcases st.j with rfl | rfl <;> decide)
    have I2 := I1.grow g
    refine ⟨_, _, (hd.same g.cc).same I2.cor.sub, hd2.same I2.cor.sub, l1, l1, ?_, _, rfl, ?_⟩
    · show (A.deeper _).units + _ < cLine
      omega
    rw [SeqAt.eqv_refl _ l1]
    exact h_nil (q s bu Hc2 H2 I2 rfl)
end
end Tr
set_option Elab.async false
set_option linter.all false
set_option maxRecDepth 100000
set_option maxHeartbeats 1000000
set_option autoImplicit false
/-! W36: the law's turn: drop and add -/
namespace Tr
open PySem PySem.Spec PyProof.Rows L2 DL
theorem hx_mono {X : Cx} {e : Expr} {σ : L2.St} {H : Hp} {Q Q' : VK} (h : HX X e σ H Q) (m : ∀ v H', Q v H' → Q' v H') : HX X e σ H Q' := ⟨wx_mono h.r m⟩
theorem h_par {X : Cx} (i j : Nat) {x y : Str} {a b : Expr} {px py pt : Pos} {kt k2 pt2} {pos : Pos} {Z : Ends} {σ : L2.St} {H : Hp} (hN : X.N.Nodup) (hij : i ≠ j) (h : HX X a σ H fun v H1 => HX X b σ H1 fun w H2 => Z.nx ((σ.set i (some v)).set j (some w)) H2)
    (hi : X.N[i]? = some x := by rfl) (hj : X.N[j]? = some y := by rfl) (hc : X.calm = true := by rfl) (hx : X.env.scope.names.lookup x = some .local := by rfl) (hy : X.env.scope.names.lookup y = some .local := by rfl)
    (hw : swappedStores [.Tuple [.Name x px, .Name y py] kt pt] (.Tuple [a, b] k2 pt2) X.env = pure (some [x, y]) := by rfl)
    (hs : swapsWithSole [.Tuple [.Name x px, .Name y py] kt pt] (.Tuple [a, b] k2 pt2) pos.line X.env = pure false := by rfl)
    (s1 : starEach (a :: [b]) X.env = (false, eval a X.env) :: starEach [b] X.env := by rfl) (s2 : starEach (b :: []) X.env = (false, eval b X.env) :: starEach [] X.env := by rfl) :
    HS X (.Assign [.Tuple [.Name x px, .Name y py] kt pt] (.Tuple [a, b] k2 pt2) pos) Z σ H :=
  hs_of (ps_par hc hN hi hj hij hx hy pa_h hw hs) (ha_cons (hx_mono h fun v H1 h1 => ha_cons (hx_mono h1 fun w H2 h2 => ha_nil ⟨v, w, rfl, h2⟩) s2) s1)
section
variable {K : PySem.W.Frag} {C : Addr} {xs : List Int} {v : Wd} {T b dx bs bd bu S Dn Un : Addr} {n m : Nat} {s s2 s' : BSt} {bu' : Addr} {es es' : DEnv} {Hc H Hc1 H1 : Hp} {σ : L2.St}
theorem LI.push (I : LI K C xs v T b dx bs bd bu S Dn Un n s' s es Hc σ H) {op : Op} {is : List Inst} {ss ys : List V} (h1 : H S = some (.lst ss)) (h1' : DpAll K Hc ss ((s.old ++ [s.cur]).map encIs)) (h2 : H Dn = some (.lst ys)) (h2' : DpAll K Hc ys (s.ops.map encOn)) {y : V} (py : Dp K Hc y (encIs is)) {t u p : Addr}
    (nt : (upd H S (.lst (ss ++ [y]))) t = none) (nu : (upd (upd H S (.lst (ss ++ [y]))) t (.lst [.str op.nm])) u = none) (np : (upd (upd (upd H S (.lst (ss ++ [y]))) t (.lst [.str op.nm])) u (.lst (ys ++ [.str op.nm]))) p = none) :
    LI K C xs v T b dx bs bd bu S u p n s' (s.push op is) es Hc ((σ.set 5 (some (.ref u))).set 6 (some (.ref p))) (upd (upd (upd (upd H S (.lst (ss ++ [y]))) t (.lst [.str op.nm])) u (.lst (ys ++ [.str op.nm]))) p (.lst [])) := by
  obtain ⟨⟨a1, a2, a3, a4, a5, a6, a7⟩, ⟨b1, b2, b3, b4, b5, b6⟩, ⟨c1, c2, c3, c4, c5⟩, ⟨d1, d2, d3, d4⟩, ⟨e1, e2, e3⟩, ⟨f1, f2⟩, g1⟩ := nd8 I.nd
  obtain ⟨k1, k2, k3, k4, k5, k6, k7, k8⟩ := I.ne
  have c := I.cor
  have G1 : GS [S] Hc H Hc (upd H S (.lst (ss ++ [y]))) := GS.set c I.M.cs id (by simp)
  have G2 := G1.trans (GS.newO (S := [S]) G1.cor nt (o := .lst [.str op.nm]) id)
  have G3 := G2.trans (GS.newO (S := [S]) G2.cor nu (o := .lst (ys ++ [.str op.nm])) id)
  have G4 := G3.trans (GS.newO (S := [S]) G3.cor np (o := .lst []) id)
  have nHu : H u = none := by
    cases z : H u with
    | none => rfl
    | some o => exact absurd nu (G2.dm _ (some_ne z))
  have nHp : H p = none := by
    cases z : H p with
    | none => rfl
    | some o => exact absurd np (G3.dm _ (some_ne z))
  have pu : p ≠ u := fun z => by
    rw [z, upd_same] at np
    cases np
  have kS1 : (upd (upd H S (.lst (ss ++ [y]))) t (.lst [.str op.nm])) S = some (.lst (ss ++ [y])) := by
    rw [upd_ne (fun z => by rw [← z, upd_same] at nt; cases nt), upd_same]
  have kS2 := (GS.newO (S := []) G2.cor nu (o := .lst (ys ++ [.str op.nm])) id).grow.hh _ _ kS1
  have kS3 := (GS.newO (S := []) G3.cor np (o := .lst []) id).grow.hh _ _ kS2
  have ne : ∀ a, S ≠ a → a ∉ [S] := fun a z w => z (List.mem_singleton.mp w).symm
  refine ⟨?_, twn_gs I.tw G4 (by simp [a5]), I.ht, I.B.gs G4 (ne _ (Ne.symm b4)) (ne _ (Ne.symm c3)) (ne _ (Ne.symm d2)) (ne _ (Ne.symm e1)), ⟨⟨ss ++ [y], kS3, ?_⟩, ⟨ys ++ [.str op.nm], by rw [upd_ne (Ne.symm pu), upd_same], ?_⟩, ⟨[], upd_same, .nil⟩, I.M.cs, c.sub.free nHu, c.sub.free nHp, ?_, ?_, Ne.symm pu⟩, ?_, I.hx⟩
  · exact ((I.hs.gs G4).set 5 (ad_of u)).set 6 (ad_of p)
  · have e : (s.push op is).old ++ [(s.push op is).cur] = (s.old ++ [s.cur]) ++ [is] := rfl
    rw [e, List.map_append]
    exact h1'.app (.cons py .nil)
  · have e : (s.push op is).ops = s.ops ++ [op] := rfl
    rw [e, List.map_append]
    exact h2'.app (.cons (L2.Dp.str _) .nil)
  · exact fun z => k6 (by rw [z]; exact nHu)
  · exact fun z => k6 (by rw [z]; exact nHp)
  · have qu : ∀ a, H a ≠ none → a ≠ u := fun a ha z => ha (by rw [z]; exact nHu)
    have qp : ∀ a, H a ≠ none → a ≠ p := fun a ha z => ha (by rw [z]; exact nHp)
    simp [List.nodup_cons, a1, a2, a3, a4, a5, b1, b2, b3, b4, c1, c2, c3, d1, d2, e1, qu _ k1, qu _ k2, qu _ k3, qu _ k4, qu _ k5, qu _ k6, qp _ k1, qp _ k2, qp _ k3, qp _ k4, qp _ k5, qp _ k6, Ne.symm pu]
end
section
variable {P : Program} {w : World} {K : PySem.W.Frag} {mg : Str → Option Value} {base : Heap} {C f : Addr} {cdv : Value} {A : Around} {outer : List Env} {s0 : Shared} {H0 : Hp} {E : XK}
  {xs : List Int} {v : Wd} {T b dx bs bd bu S Dn Un : Addr} {n : Nat} {s : BSt} {e0 e2 e3 e4 e5 e6 e7 e8 : Option D} {way : Int} {Hc H : Hp} {σ : L2.St} {Z : Ends}
abbrev sDrop : Stmt := (ifB (tuS 1)).getD 0 pas
abbrev sAdd : Stmt := (ifB sDrop).getD 0 pas
theorem t_drop (B : Blt mg) (D0 : DefZ P w K mg base "_law_draw" 1 ["_law_script", "_law_town_here", "_law_limit"] 1 prDraw poDraw) (D1 : DefK P w K mg base "_law_outcome" (4 + 1) ["_law_way", "_law_arguments"] (spOut K C)) (D2 : DefD P w K mg base "_law_raises" 1 ["_law_name_here"] spRaises) (hr : Room 120 (XL P w K mg base f cdv A outer s0 H0 E).A)
    (I : LI K C xs v T b dx bs bd bu S Dn Un n s s [e0, some (.int 2), some (encIs s.cur), e3, e4, e5, e6, e7, e8] Hc σ H) (hz : s.old.length + s.und.length ≤ 100) (hb : n + 1 ≤ big60)
    (q : ∀ s' bu' Dn' Un' es' m Hc1 σ1 H1, LI K C xs v T b dx bs bd bu' S Dn' Un' m s' s' es' Hc1 σ1 H1 → es'.length = 9 → m ≤ n + 30 → s'.old.length + s'.und.length ≤ s.old.length + s.und.length + 1 → Z.nx σ1 H1) :
    HSs (XL P w K mg base f cdv A outer s0 H0 E) (ifA sDrop) Z σ H := by
  have hu : (A.deeper (envOfC "law" (defScope (top 97)) s0.heap.objs.size f cdv)).units + 100 < cLine := hr.u 100
  have ok := I.B.ok
  have h8 := ok.c.1
  refine h_cons (h_set 10 sc_law.nd (EVz.at (T := T) (L := xs.length) (n := n) (P := fun d => ∃ j : Nat, j ≤ s.cur.length ∧ d = .int (j : Nat)) (ez_call D0 (hr.mono (by omega)) rfl (ezs_d (ev_v 0 rfl) (ezs_d (ev_v 1 rfl) (ezs_d (d := .int ((s.cur.length + 1 : Nat) : Int)) (EVd.is (ev_add (ev_lenT B (ds := s.cur.map encI) (ev_v 9 rfl)) ev_int) ?_) (ezs_nil ⟨⟨xs, s.cur.length + 1, I.hx, rfl, by omega, by omega, rfl⟩, fun d hd => ?_⟩))))) I.hs I.tw I.ht hb fun nv d Hc1 H1 g1 t1 p1 hd => ?_))
  · rw [List.length_map]
    simp
  · obtain ⟨j, h1, rfl⟩ := hd _ _ _ rfl
    exact ⟨j, by omega, rfl⟩
  obtain ⟨j, hj, rfl⟩ := hd
  have I1 := (I.growT g1 t1).set 3 p1
  have hlen : ((s.cur.map encI).length : Int) = (s.cur.length : Nat) := by rw [List.length_map]
  refine h_cons (h_set 11 sc_law.nd (hx_of (pe_ifExp (ta := fun σ H Q => HX _ _ σ H Q) (tb := fun σ H Q => HX _ _ σ H Q) (tA := fun σ H Q => HT _ _ σ H Q) pt_h pe_h pe_h) (EVt.at (k := decide (j < s.cur.length)) (bT (et_c (ec_lt (ev_v 10 rfl) (ev_lenT B (ds := s.cur.map encI) (ev_v 9 rfl)))) (by rw [hlen]; exact decide_eq_decide.mpr (by omega))) I1.hs fun Hc2 H2 g2 => ?_)))
  have I2 := I1.grow g2
  by_cases hlt : j < s.cur.length
  · rw [decide_eq_true hlt]
    refine EVd.at (d := .tuple [.str "returned", encI s.cur[j]]) (ev_tup (ea_cons ev_str (ea_cons (ev_ixT (ds := s.cur.map encI) (ev_v 9 rfl) (ev_v 10 rfl) (atI_nat (by rw [List.getElem?_map, List.getElem?_eq_getElem hlt]; rfl))) ea_nil)) le2) I2.hs fun rv Hc3 H3 g3 p3 => ?_
    have I3 := (I2.grow g3).set 4 p3
    obtain ⟨rv', r1, r2⟩ := I3.hs.at_ 11 _ rfl
    obtain ⟨nv', m1, m2⟩ := I3.hs.at_ 10 _ rfl
    have e := dp_int (show Dp K Hc3 nv' (.int (j : Nat)) from m2)
    subst e
    refine h_cons (h_if (ht_of (pt_cmpR op_neR pe_h pe_h nomk) ?_))
    refine h_out (k := j) (way := 2) D1 (hr.mono (by omega)) I3 (by omega) (.inr (.inr rfl)) (fun Q q => hx_of pe_int q) (fun Q q => pe_at 3 I3.s3 q) (fun Q q => pe_at 10 m1 q) (fun r d s' bu' Hc4 H4 st I4 hd => ?_) (fun jj st r Hc4 H4 I4 hd => ?_)
    · obtain ⟨l1, l2⟩ := lay_ret ok st
      cases st with
      | drop hlt' =>
      obtain ⟨rv2, r3, r4⟩ := I4.hs.at_ 11 _ rfl
      refine pe_at 11 r3 ⟨_, _, hd.same I4.cor.sub, (show Dp K Hc4 rv2 (.tuple [.str "returned", encI s.cur[j]]) from r4).same I4.cor.sub, l1, l1, ?_, _, rfl, ?_⟩
      · show (A.deeper _).units + _ < cLine
        omega
      rw [SeqAt.eqv_refl _ l1]
      refine h_nil (h_one (h_if (EVt.at (k := true) (bT (et_c (ec_lt (ev_v 10 rfl) (ev_lenT B (ds := s.cur.map encI) (ev_v 9 rfl)))) (by rw [hlen]; exact decide_eq_true (by omega))) I4.hs fun Hc5 H5 g5 => ?_)))
      have I5 := I4.grow g5
      obtain ⟨ss, a1, a2⟩ := I5.M.ls
      obtain ⟨ys, b1, b2⟩ := I5.M.ld
      have hss : ss.length < sizeLine := by
        rw [a2.len, List.length_map, List.length_append]
        exact Nat.lt_of_le_of_lt (by simp; omega : _ ≤ 1001) (by decide)
      have hys : ys.length + 1 ≤ sizeLine := by
        rw [b2.len, List.length_map, ← ok.len]
        exact Nat.le_trans (by omega : _ ≤ 1000) (by decide)
      refine h_cons (h_append (pe_at 4 I5.s4 ⟨S, ss, rfl, a1, EVd.at (d := encIs (without s.cur j)) (EVd.is (ev_catT (ds := DL.cutD (s.cur.map encI) none (some (j : Int))) (es1 := DL.cutD (s.cur.map encI) (some ((j : Int) + 1)) none) (ev_slT (ev_v 9 rfl) eo_none (eo_some (ev_v 10 rfl))) (ev_slT (ev_v 9 rfl) (eo_some (ev_add (ev_v 10 rfl) ev_int)) eo_none) ?_) ?_) I5.hs fun yv Hc6 H6 g6 p6 => ⟨ss, g6.hh _ _ a1, hss, ?_⟩⟩))
      · have e1 : ((j : Int) + 1) = ((j + 1 : Nat) : Int) := by omega
        rw [e1, cut_lo _ _ (by rw [List.length_map]; omega), cut_hi _ _ (by rw [List.length_map]; omega), List.length_take, List.length_drop, List.length_map]
        exact Nat.le_trans (by omega : _ ≤ 100) (by decide)
      · have e1 : ((j : Int) + 1) = ((j + 1 : Nat) : Int) := by omega
        rw [e1, cut_lo _ _ (by rw [List.length_map]; omega), cut_hi _ _ (by rw [List.length_map]; omega), map_take_I, map_drop_I, ← List.map_append]
        rfl
      have I6 := I5.grow g6
      have neS : Dn ≠ S := Ne.symm I6.M.sd
      refine h_one (h_par 5 6 sc_law.nd (by decide) (hx_of (pe_op op_cat pe_h pe_h) (pe_at 5 I6.s5 (hx_of (pe_lst pa_h) (ha_cons (h_str (ha_nil ⟨Nat.le_of_ble_eq_true rfl, fun t nt => ⟨Dn, t, ys, [.str "drop"], rfl, rfl, ?_, upd_same, hys, fun u nu => h_nilL fun p np => ?_⟩⟩)))))))
      · have kd : (upd H6 S (.lst (ss ++ [yv]))) Dn = some (.lst ys) := by
          rw [upd_ne neS]
          exact g6.hh _ _ b1
        rw [upd_ne (fun z => by rw [← z, kd] at nt; cases nt)]
        exact kd
      · refine q _ bu' u p _ _ Hc6 _ _ (I6.push (op := .drop j) (g6.hh _ _ a1) (a2.same g6.cc) (g6.hh _ _ b1) (b2.same g6.cc) p6 nt nu np) rfl (by omega) ?_
        simp [BSt.push]
    · cases st with
      | drop hn => exact absurd hlt hn
  · rw [decide_eq_false hlt]
    refine h_raises D2 (hr.mono (by omega)) (by decide) I2.cor fun rv Hc3 H3 g3 p3 => ?_
    rw [idx_number] at p3
    have I3 := (I2.grow g3).set 4 p3.q
    obtain ⟨nv', m1, m2⟩ := I3.hs.at_ 10 _ rfl
    have e := dp_int (show Dp K Hc3 nv' (.int (j : Nat)) from m2)
    subst e
    refine h_cons (h_if (ht_of (pt_cmpR op_neR pe_h pe_h nomk) ?_))
    refine h_out (k := j) (way := 2) D1 (hr.mono (by omega)) I3 (by omega) (.inr (.inr rfl)) (fun Q q => hx_of pe_int q) (fun Q q => pe_at 3 I3.s3 q) (fun Q q => pe_at 10 m1 q) (fun r d s' bu' Hc4 H4 st I4 hd => ?_) (fun jj st r Hc4 H4 I4 hd => ?_)
    · cases st with
      | drop hn => exact absurd hn hlt
    · cases st with
      | drop hn =>
      obtain ⟨l1, l2⟩ := lay_rai 5 (by decide)
      obtain ⟨rv2, r3, r4⟩ := I4.hs.at_ 11 _ rfl
      refine pe_at 11 r3 ⟨_, _, hd.same I4.cor.sub, (show Dp K Hc4 rv2 (.tuple [.str "raised", .int (5 : Nat)]) from r4).same I4.cor.sub, l1, l1, ?_, _, rfl, ?_⟩
      · show (A.deeper _).units + _ < cLine
        omega
      rw [SeqAt.eqv_refl _ l1]
      refine h_nil (h_one (h_if (EVt.at (k := false) (bT (et_c (ec_lt (ev_v 10 rfl) (ev_lenT B (ds := s.cur.map encI) (ev_v 9 rfl)))) (by rw [hlen]; exact decide_eq_false (by omega))) I4.hs fun Hc5 H5 g5 => ?_)))
      exact h_nil (q _ bu Dn Un _ _ Hc5 _ _ (I4.grow g5) rfl (by omega) (by omega))
theorem t_add (B : Blt mg) (C1 : BC K mg C) (D0 : DefZ P w K mg base "_law_instance" (3 + 1) ["_law_script", "_law_town_here", "_law_world_here"] 20 (prInst v) (poInst v)) (D1 : MthK P w K mg base CX0 C "add" (21 + 1) ["self", "instance"] (spAdd K C)) (hr : Room 120 (XL P w K mg base f cdv A outer s0 H0 E).A)
    (I : LI K C xs v T b dx bs bd bu S Dn Un n s s [e0, some (.int way), some (encIs s.cur), e3, e4, e5, e6, e7, e8] Hc σ H) (hz : s.old.length + s.und.length ≤ 100) (hb : n + 20 ≤ big60)
    (q : ∀ s' bu' Dn' Un' es' m Hc1 σ1 H1, LI K C xs v T b dx bs bd bu' S Dn' Un' m s' s' es' Hc1 σ1 H1 → es'.length = 9 → m ≤ n + 30 → s'.old.length + s'.und.length ≤ s.old.length + s.und.length + 1 → Z.nx σ1 H1) :
    HSs (XL P w K mg base f cdv A outer s0 H0 E) (ifB sDrop) Z σ H := by
  have hu : (A.deeper (envOfC "law" (defScope (top 97)) s0.heap.objs.size f cdv)).units + 100 < cLine := hr.u 100
  have ok := I.B.ok
  have h8 := ok.c.1
  have hlen : ((s.cur.map encI).length : Int) = (s.cur.length : Nat) := by rw [List.length_map]
  refine h_one (h_if (EVt.at (k := decide (s.cur.length < 8)) (bT (et_c (ec_lt (ev_lenT B (ds := s.cur.map encI) (ev_v 9 rfl)) ev_int)) (by rw [hlen]; exact decide_eq_decide.mpr (by omega))) I.hs fun Hc0 H00 g0 => ?_))
  have I0 := I.grow g0
  by_cases hlt : s.cur.length < 8
  · rw [decide_eq_true hlt]
    refine h_cons (h_set 12 sc_law.nd (EVz.at (T := T) (L := xs.length) (n := n) (P := fun d => ∃ i : Inst, OkI v i ∧ d = encI i) (ez_call D0 (hr.mono (by omega)) rfl (ezs_d (ev_v 0 rfl) (ezs_d (ev_v 1 rfl) (ezs_d (d := W v) (ev_v 2 rfl) (ezs_nil ⟨⟨xs, I.hx, rfl, ok.sm.ok, rfl⟩, fun d hd => ?_⟩))))) I0.hs I0.tw I0.ht hb fun iv d Hc1 H1 g1 t1 p1 hd => ?_))
    · obtain ⟨i, h1, h2⟩ := hd
      exact ⟨i, h1, h2⟩
    obtain ⟨i, hi, rfl⟩ := hd
    have I1 := (I0.growT g1 t1).set 5 p1
    obtain ⟨iv', m1, m2⟩ := I1.hs.at_ 12 _ rfl
    obtain ⟨wv, i1, i2⟩ := I1.B.ins
    refine h_cons (h_if (ht_of (pt_cmpR op_ne pe_h pe_h nomk) ?_))
    refine h_meth C1.cl D1 (hr.mono (by omega)) pass0 (pe_at 3 I1.s3 ⟨b, dx, _, rfl, i1, rfl, ha_cons (pe_at 12 m1 (ha_nil ⟨_, b, dx, bs, bd, bu, v, s, iv', i, rfl, I1.cor, I1.B, (show Dp K Hc1 iv' (encI i) from m2), hi, hlt, by omega, fun bu' Hc2 H2 g2 hb2 hB2 => ?_⟩))⟩)
    have I2 := I1.bench (g2.mono fun a ha => by
      simp only [List.mem_cons, List.not_mem_nil, or_false] at ha ⊢
      rcases ha with h | h | h <;> simp [h]) (.inr hb2) hB2
    refine EVd.at (ev_lenT B (ds := s.cur.map encI) (ev_v 9 rfl)) I2.hs fun lv Hc3 H3 g3 p3 => ?_
    have e := dp_int (show Dp K Hc3 lv (.int ((s.cur.map encI).length : Nat)) from p3)
    rw [List.length_map] at e
    subst e
    refine ⟨rfl, _, rfl, ?_⟩
    rw [decide_eq_true (rfl : V.int (s.cur.length : Nat) = V.int (s.cur.length : Nat))]
    refine h_nil ?_
    have I3 := I2.grow g3
    obtain ⟨ss, a1, a2⟩ := I3.M.ls
    obtain ⟨ys, b1, b2⟩ := I3.M.ld
    have hss : ss.length < sizeLine := by
      rw [a2.len, List.length_map, List.length_append]
      exact Nat.lt_of_le_of_lt (by simp; omega : _ ≤ 1001) (by decide)
    have hys : ys.length + 1 ≤ sizeLine := by
      rw [b2.len, List.length_map, ← ok.len]
      exact Nat.le_trans (by omega : _ ≤ 1000) (by decide)
    refine h_cons (h_append (pe_at 4 I3.s4 ⟨S, ss, rfl, a1, EVd.at (d := encIs (s.cur ++ [i])) (EVd.is (ev_catT (ds := s.cur.map encI) (es1 := [encI i]) (ev_v 9 rfl) (ev_tup (ea_cons (d := encI i) (ev_v 12 rfl) ea_nil) le1) ?_) ?_) I3.hs fun yv Hc6 H6 g6 p6 => ⟨ss, g6.hh _ _ a1, hss, ?_⟩⟩))
    · rw [List.length_map]
      exact Nat.le_trans (by show _ + 1 ≤ 100; omega) (by decide : 100 ≤ sizeLine)
    · show PyData.tuple _ = PyData.tuple _
      rw [List.map_append]
      rfl
    have I6 := I3.grow g6
    have neS : Dn ≠ S := Ne.symm I6.M.sd
    refine h_one (h_par 5 6 sc_law.nd (by decide) (hx_of (pe_op op_cat pe_h pe_h) (pe_at 5 I6.s5 (hx_of (pe_lst pa_h) (ha_cons (h_str (ha_nil ⟨Nat.le_of_ble_eq_true rfl, fun t nt => ⟨Dn, t, ys, [.str "add"], rfl, rfl, ?_, upd_same, hys, fun u nu => h_nilL fun p np => ?_⟩⟩)))))))
    · have kd : (upd H6 S (.lst (ss ++ [yv]))) Dn = some (.lst ys) := by
        rw [upd_ne neS]
        exact g6.hh _ _ b1
      rw [upd_ne (fun z => by rw [← z, kd] at nt; cases nt)]
      exact kd
    · refine q _ bu' u p _ _ Hc6 _ _ (I6.push (op := .add i) (g6.hh _ _ a1) (a2.same g6.cc) (g6.hh _ _ b1) (b2.same g6.cc) p6 nt nu np) rfl (by omega) ?_
      simp [BSt.push]
  · rw [decide_eq_false hlt]
    exact h_nil (q s bu Dn Un _ _ Hc0 _ _ I0 rfl (by omega) (by omega))
end
end Tr
set_option Elab.async false
set_option linter.all false
set_option maxRecDepth 100000
set_option maxHeartbeats 1000000
set_option autoImplicit false
/-! W37: the law's turn: what is asked behind the step -/
namespace Tr
open PySem PySem.Spec PyProof.Rows L2 DL
theorem ht_mono {X : Cx} {e : Expr} {σ : L2.St} {H : Hp} {Q Q' : Bool → Hp → Prop} (h : HT X e σ H Q) (m : ∀ k H', Q k H' → Q' k H') : HT X e σ H Q' := ⟨fun pins s I => thn (h.r pins s I) fun k s1 ⟨H1, I1, q⟩ => ⟨H1, I1, m _ _ q⟩⟩
theorem h_or2 {X : Cx} {a b : Expr} {pos : Pos} {σ : L2.St} {H : Hp} {Q : Bool → Hp → Prop} (h : HT X a σ H fun k H1 => k = false ∧ HT X b σ H1 Q) : HT X (.BoolOp .Or [a, b] pos) σ H Q :=
  ht_of (t := tOr (fun σ H Q => HT X a σ H Q) (fun σ H Q => HT X b σ H Q)) (PW.pt (pw_or pt_h (pw_or1 pt_h))) (ht_mono h fun k H1 hk => by
    obtain ⟨rfl, h1⟩ := hk
    exact h1)
theorem h_or3 {X : Cx} {a b c : Expr} {pos : Pos} {σ : L2.St} {H : Hp} {Q : Bool → Hp → Prop} (h : HT X a σ H fun k H1 => k = false ∧ HT X b σ H1 fun k H2 => k = false ∧ HT X c σ H2 Q) : HT X (.BoolOp .Or [a, b, c] pos) σ H Q :=
  ht_of (t := tOr (fun σ H Q => HT X a σ H Q) (tOr (fun σ H Q => HT X b σ H Q) (fun σ H Q => HT X c σ H Q))) (PW.pt (pw_or pt_h (pw_or pt_h (pw_or1 pt_h)))) (ht_mono h fun k H1 hk => by
    obtain ⟨rfl, h1⟩ := hk
    exact ht_mono h1 fun k H2 hk => by
      obtain ⟨rfl, h2⟩ := hk
      exact h2)
/-- a != b of equal data -/
theorem h_neSame {X : Cx} {a b : Expr} {pos : Pos} {σ : L2.St} {H : Hp} {Q : Bool → Hp → Prop} (h : HX X a σ H fun x H1 => HX X b σ H1 fun y H2 => ∃ d, Dp X.K H2 x d ∧ Dp X.K H2 y d ∧ d.canLay0 = true ∧ X.A.units + d.depth < cLine ∧ Q false H2) (hm : behindInMarks .NotEq b = false := by first | exact nomk | rfl) : HT X (.Compare a [.NotEq] [b] pos) σ H Q :=
  ht_of (pt_cmpR op_neR pe_h pe_h hm) (hx_mono h fun x H1 h1 => hx_mono h1 fun y H2 h2 => by
    obtain ⟨d, p1, p2, l, u, q⟩ := h2
    refine ⟨d, d, p1, p2, l, l, by omega, _, rfl, ?_⟩
    rw [SeqAt.eqv_refl _ l]
    exact q)
section
variable {P : Program} {w : World} {K : PySem.W.Frag} {mg : Str → Option Value} {base : Heap} {C f : Addr} {cdv : Value} {A : Around} {outer : List Env} {s0 : Shared} {H0 : Hp} {E : XK}
  {xs : List Int} {v : Wd} {T b dx bs bd bu S Dn Un : Addr} {n : Nat} {s : BSt} {e0 e1 e2 e3 e4 e5 e6 e7 e8 : Option D} {Hc H : Hp} {σ : L2.St} {Z : Ends}
/-- _law_now = _law_states[-1] -/
theorem t_now (I : LI K C xs v T b dx bs bd bu S Dn Un n s s [e0, e1, e2, e3, e4, e5, e6, e7, e8] Hc σ H) (q : ∀ σ', LI K C xs v T b dx bs bd bu S Dn Un n s s [e0, e1, some (encIs s.cur), e3, e4, e5, e6, e7, e8] Hc σ' H → Z.nx σ' H) : HS (XL P w K mg base f cdv A outer s0 H0 E) (tuS 2) Z σ H := by
  obtain ⟨ss, a1, a2⟩ := I.M.ls
  rw [List.map_append] at a2
  obtain ⟨y, h3, h4⟩ := last_dp a2
  exact h_set 9 sc_law.nd (h_ixm1 (pe_at 4 I.s4 ⟨S, ss, y, rfl, a1, h3, q _ (I.set 2 h4.q)⟩))
theorem t_pick (D1 : DefZ P w K mg base "_law_pick" (1 + 1) ["_law_script", "_law_town_here", "_law_choices"] 1 prPick poPick) (D2 : DefD P w K mg base "_law_traits" 1 ["_law_world_here"] spNames) (D3 : DefZ P w K mg base "_law_sort" (2 + 3) ["_law_script", "_law_town_here", "_law_world_here", "_law_depth"] (cSort 2) (prSort 2 v) (poSort v)) (hr : Room 120 (XL P w K mg base f cdv A outer s0 H0 E).A)
    (I : LI K C xs v T b dx bs bd bu S Dn Un n s s [e0, e1, e2, e3, e4, e5, e6, e7, e8] Hc σ H) (hb : n + 8 ≤ big60)
    (q : ∀ t x Hc1 σ' H1, t ∈ names v → okS v x = true → x.depth ≤ 3 → LI K C xs v T b dx bs bd bu S Dn Un (n + 8) s s [e0, e1, e2, e3, e4, e5, some (.str t), some (encS x), e8] Hc1 σ' H1 → Z.nx σ' H1) : HS (XL P w K mg base f cdv A outer s0 H0 E) (tuS 3) Z σ H := by
  have ok := I.B.ok.sm.ok
  have hn1 : 0 < (names v).length := by unfold names; rw [List.length_map]; exact ok.t1
  have hn4 : (names v).length ≤ 4 := by unfold names; rw [List.length_map]; exact ok.t4
  have c7 : cSort 2 = 7 := rfl
  refine h_par 13 14 sc_law.nd (by decide) (EVz.at (T := T) (L := xs.length) (n := n) (P := fun d => ∃ t : Str, t ∈ names v ∧ d = .str t) (ez_call D1 (hr.mono (by omega)) rfl (ezs_d (ev_v 0 rfl) (ezs_d (ev_v 1 rfl) (ezs_d (d := .list ((names v).map PyData.str)) (ev_call D2 (hr.mono (by omega)) rfl (eq_cons (ev_v 2 rfl) eq_nil) ⟨v, ok.t4, rfl, rfl⟩) (ezs_nil ⟨⟨xs, _, I.hx, rfl, ?_, ?_, rfl⟩, fun d hd => ?_⟩))))) I.hs I.tw I.ht (by omega) fun tv d Hc1 H1 g1 t1 p1 hd => ?_)
  · rw [List.length_map]; exact hn1
  · rw [List.length_map]; exact Nat.lt_of_le_of_lt hn4 (by decide)
  · obtain ⟨t, h1, rfl⟩ := List.mem_map.mp (hd _ _ _ rfl)
    exact ⟨t, h1, rfl⟩
  obtain ⟨t, ht, rfl⟩ := hd
  have I1 := I.growT g1 t1
  refine EVz.at (T := T) (L := xs.length) (n := n + (0 + 1)) (P := fun d => ∃ x : Srt, okS v x = true ∧ x.depth ≤ 3 ∧ d = encS x) (ez_call D3 (hr.mono (by omega)) rfl (ezs_d (ev_v 0 rfl) (ezs_d (ev_v 1 rfl) (ezs_d (d := W v) (ev_v 2 rfl) (ezs_d (d := .int ((2 + 1 : Nat) : Int)) ev_int (ezs_nil ⟨⟨xs, 2, I.hx, rfl, ok, Nat.le_refl _, rfl⟩, fun d hd => ?_⟩)))))) I1.hs I1.tw I1.ht (by omega) fun xv d Hc2 H2 g2 t2 p2 hd => ?_
  · obtain ⟨x, h1, h2, h3⟩ := hd _ _ _ 2 rfl
    exact ⟨x, h1, h2, h3⟩
  obtain ⟨x, hx1, hx2, rfl⟩ := hd
  have p1' : Dq K Hc2 tv (.str t) := p1.same g2.cc
  exact q t x Hc2 _ H2 ht hx1 hx2 ((((I1.growT g2 t2).le (by omega)).set 6 p1').set 7 p2)
theorem t_ask (B : Blt mg) (C1 : BC K mg C) (D1 : MthK P w K mg base CX0 C "instances" 1 ["self"] (spBR K C spIns)) (D2 : MthK P w K mg base CX0 C "__len__" 1 ["self"] (spBR K C spLen)) (D3 : MthK P w K mg base CX0 C "__str__" 1 ["self"] (spBR K C spStr)) (hr : Room 120 (XL P w K mg base f cdv A outer s0 H0 E).A)
    (I : LI K C xs v T b dx bs bd bu S Dn Un n s s [e0, e1, some (encIs s.cur), e3, e4, e5, e6, e7, e8] Hc σ H)
    (q : ∀ Hc1 H1, LI K C xs v T b dx bs bd bu S Dn Un n s s [e0, e1, some (encIs s.cur), e3, e4, e5, e6, e7, e8] Hc1 σ H1 → Z.nx σ H1) : HS (XL P w K mg base f cdv A outer s0 H0 E) (tuS 4) Z σ H := by
  have hu : (A.deeper (envOfC "law" (defScope (top 97)) s0.heap.objs.size f cdv)).units + 100 < cLine := hr.u 100
  have ok := I.B.ok
  have h8 := ok.c.1
  obtain ⟨l1, l2⟩ := lay_Is ok.sm.ok ok.c.2
  obtain ⟨wv, i1, i2⟩ := I.B.ins
  refine h_if (h_or3 (h_neSame (h_meth0 C1.cl D1 (hr.mono (by omega)) pass0 (pe_at 3 I.s3 ⟨b, dx, _, rfl, i1, rfl, Hc, b, dx, bs, bd, bu, v, s, [], [], _, rfl, I.cor, I.B, .nil, ⟨rfl, rfl⟩, fun r Hc1 H1 g1 p1 => ?_⟩))))
  have I1 := I.grow g1
  obtain ⟨nv, n1, n2⟩ := I1.hs.at_ 9 _ rfl
  refine pe_at 9 n1 ⟨encIs s.cur, (show Dp K Hc1 r (encIs s.cur) from p1).same I1.cor.sub, (show Dp K Hc1 nv (encIs s.cur) from n2).same I1.cor.sub, l1, ?_, rfl, ?_⟩
  · show (A.deeper _).units + _ < cLine
    omega
  -- len
  obtain ⟨f2, fd2, hm2, _, hb2, ok2⟩ := D2.ex
  obtain ⟨wv1, i3, i4⟩ := I1.B.ins
  obtain ⟨ys, b1, b2⟩ := I1.M.ld
  have hops : s.ops.length ≤ 1000 := by
    rw [← ok.len]
    have := ok.z
    omega
  refine ht_of (pt_cmpR op_ne pe_h pe_h nomk) (hx_of (pe_callB (call_lenOwn ok2 hm2.at_ hm2.fn hb2 (hr.mono (by omega))) rfl B.len PySem.boot_len (pa_cons pe_h pa_nil)) (pe_at 3 I1.s3 ⟨b, dx, _, rfl, i3, Hc1, b, dx, bs, bd, bu, v, s, [], [], _, rfl, I1.cor, I1.B, .nil, ⟨rfl, rfl⟩, fun r2 Hc2 H2 g2 p2 => ?_⟩))
  have e := dp_int (show Dp K Hc2 r2 (.int (s.ops.length : Nat)) from p2)
  subst e
  have h63 : (1000 : Int) < 2 ^ 63 := by decide
  refine ⟨⟨_, rfl, by omega, by omega⟩, ?_⟩
  have I2 := I1.grow g2
  refine hx_of (pe_callB call_len rfl B.len PySem.boot_len (pa_cons pe_h pa_nil)) (pe_at 5 I2.s5 ⟨_, ys.length, rfl, .inl ⟨ys, SqL.of (g2.hh _ _ b1), rfl⟩, rfl, _, rfl, ?_, ?_⟩)
  · have hl : ys.length = s.ops.length := by rw [b2.len, List.length_map]
    rw [hl]
    simp
  -- str
  obtain ⟨f3, fd3, hm3, _, hb3, ok3⟩ := D3.ex
  obtain ⟨wv2, i5, i6⟩ := I2.B.ins
  refine ht_of (pt_cmpR op_ne pe_h pe_h nomk) (hx_of (pe_callTy (call_strOwn ok3 hm3.at_ hm3.fn hb3 (hr.mono (by omega))) rfl B.str (by decide +kernel) (pa_cons pe_h pa_nil)) (pe_at 3 I2.s3 ⟨b, dx, _, rfl, i5, Hc2, b, dx, bs, bd, bu, v, s, [], [], _, rfl, I2.cor, I2.B, .nil, ⟨rfl, rfl⟩, fun r3 Hc3 H3 g3 p3 => ?_⟩))
  have e := dp_str (show Dp K Hc3 r3 (.str (strB s.cur.length)) from p3)
  subst e
  refine ⟨⟨_, rfl⟩, ?_⟩
  have I3 := I2.grow g3
  obtain ⟨nv3, n3, n4⟩ := I3.hs.at_ 9 _ rfl
  obtain ⟨a, zs, rfl, h1, h2⟩ := dp_tupI (show Dp K Hc3 nv3 (encIs s.cur) from n4)
  have h9 : s.cur.length < 9 := by omega
  refine hx_of (pe_joined (.cons (pe_fmt pe_h) (.cons pe_str .nil))) (hx_of (pe_callB call_len rfl B.len PySem.boot_len (pa_cons pe_h pa_nil)) (pe_at 9 n3 ⟨_, s.cur.length, rfl, .inr ⟨zs, sqt_sub I3.cor h1, by rw [h2.len, List.length_map]⟩, .inr ⟨_, rfl, log9 _ h9, _, rfl, (strB_len _ h9).1, _, rfl, (strB_len _ h9).2, rfl, _, rfl, ?_⟩⟩))
  have e9 : (!decide (V.str (strB s.cur.length) = V.str ((Str.empty ++ (toString ((s.cur.length : Nat) : Int) : Str)) ++ (" instances" : Str)))) = false := by
    rw [decide_eq_true (show V.str (strB s.cur.length) = V.str ((Str.empty ++ (toString ((s.cur.length : Nat) : Int) : Str)) ++ (" instances" : Str)) from rfl)]
    rfl
  rw [e9]
  exact h_nil (q Hc3 H3 I3)
theorem t_holds (C1 : BC K mg C) (D1 : MthK P w K mg base CX0 C "holds" (6 + 1) ["self", "trait", "sort"] (spBR K C spBHolds)) (D2 : DefD P w K mg base "_law_holds" (3 + 3) ["_law_instances", "_law_trait", "_law_sort_here"] (spHolds 3)) (hr : Room 120 (XL P w K mg base f cdv A outer s0 H0 E).A)
    {t : Str} {x : Srt} (ht : t ∈ names v) (hx1 : okS v x = true) (hx2 : x.depth ≤ 3)
    (I : LI K C xs v T b dx bs bd bu S Dn Un n s s [e0, e1, some (encIs s.cur), e3, e4, e5, some (.str t), some (encS x), e8] Hc σ H)
    (q : ∀ Hc1 H1, LI K C xs v T b dx bs bd bu S Dn Un n s s [e0, e1, some (encIs s.cur), e3, e4, e5, some (.str t), some (encS x), e8] Hc1 σ H1 → Z.nx σ H1) : HS (XL P w K mg base f cdv A outer s0 H0 E) (tuS 5) Z σ H := by
  have ok := I.B.ok
  obtain ⟨wv, i1, i2⟩ := I.B.ins
  obtain ⟨tv, t1, t2⟩ := I.hs.at_ 13 _ rfl
  obtain ⟨xv, x1, x2⟩ := I.hs.at_ 14 _ rfl
  refine h_if (ht_of (pt_cmpR op_ne pe_h pe_h nomk) (h_meth C1.cl D1 (hr.mono (by omega)) pass0 (pe_at 3 I.s3 ⟨b, dx, _, rfl, i1, rfl, ha_cons (pe_at 13 t1 (ha_cons (pe_at 14 x1 (ha_nil ⟨Hc, b, dx, bs, bd, bu, v, s, [tv, xv], [.str t, encS x], _, rfl, I.cor, I.B, .cons t2 (.cons x2 .nil), ⟨t, x, ht, hx1, hx2, rfl, rfl⟩, fun r Hc1 H1 g1 p1 => ?_⟩))))⟩)))
  have I1 := I.grow g1
  refine h_call0 D2 (hr.mono (by omega)) rfl I1.hs (eq_cons (ev_v 9 rfl) (eq_cons (ev_v 13 rfl) (eq_cons (ev_v 14 rfl) eq_nil))) ⟨v, s.cur, t, x, ok.sm.ok, ok.c.1, ok.c.2, hx1, hx2, rfl, rfl⟩ fun r2 Hc2 H2 g2 p2 => ?_
  have I2 := I1.grow g2
  have ea := dp_bl (show Dp K Hc1 r (.bool (standsM s.cur x t)) from p1)
  have eb := dp_bl (show Dp K Hc2 r2 (.bool (standsM s.cur x t)) from p2)
  subst ea eb
  refine ⟨rfl, _, rfl, ?_⟩
  rw [decide_eq_true (rfl : V.bl (standsM s.cur x t) = V.bl (standsM s.cur x t))]
  exact h_nil (q Hc2 H2 I2)
end
end Tr
set_option Elab.async false
set_option linter.all false
set_option maxRecDepth 100000
set_option maxHeartbeats 1000000
set_option autoImplicit false
/-! W38: one turn of the law -/
namespace Tr
open PySem PySem.Spec PyProof.Rows L2 DL
/-- the promises that the law rests upon -/
structure LawH (P : Program) (w : World) (K : PySem.W.Frag) (mg : Str → Option Value) (base : Heap) (C : Addr) : Prop where
  B : Blt mg
  C1 : BC K mg C
  kk : BK K C
  town : DefK P w K mg base "_law_town" 1 ["_law_script"] (spTown K)
  world : DefZ P w K mg base "_law_world" (2 + 1) ["_law_script", "_law_town_here"] 14 prWorld poWorld
  draw : DefZ P w K mg base "_law_draw" 1 ["_law_script", "_law_town_here", "_law_limit"] 1 prDraw poDraw
  outcome : DefK P w K mg base "_law_outcome" (4 + 1) ["_law_way", "_law_arguments"] (spOut K C)
  back : DefK P w K mg base "_law_back" (1 + 1) ["_law_way", "_law_states", "_law_done", "_law_undone"] (spBack K)
  raises : DefD P w K mg base "_law_raises" 1 ["_law_name_here"] spRaises
  inst : ∀ v, DefZ P w K mg base "_law_instance" (3 + 1) ["_law_script", "_law_town_here", "_law_world_here"] 20 (prInst v) (poInst v)
  pick : DefZ P w K mg base "_law_pick" (1 + 1) ["_law_script", "_law_town_here", "_law_choices"] 1 prPick poPick
  traits : DefD P w K mg base "_law_traits" 1 ["_law_world_here"] spNames
  sort : ∀ v, DefZ P w K mg base "_law_sort" (2 + 3) ["_law_script", "_law_town_here", "_law_world_here", "_law_depth"] (cSort 2) (prSort 2 v) (poSort v)
  lholds : DefD P w K mg base "_law_holds" (3 + 3) ["_law_instances", "_law_trait", "_law_sort_here"] (spHolds 3)
  clear : DefD P w K mg base "is_clear" 114 ["world", "others"] spClear
  faults : DefD P w K mg base "faults" 23 ["world", "instances"] spFaults
  mkC : ∃ f fd, Mk K C f ∧ Binds K fd ["self", "world"] [] ∧ FnOk P w K mg base CX0 (4 + 1) f fd ["self", "world"] (spInit K C)
  bIns : MthK P w K mg base CX0 C "instances" 1 ["self"] (spBR K C spIns)
  bLen : MthK P w K mg base CX0 C "__len__" 1 ["self"] (spBR K C spLen)
  bStr : MthK P w K mg base CX0 C "__str__" 1 ["self"] (spBR K C spStr)
  bEq : MthK P w K mg base CX0 C "__eq__" (0 + 1) ["self", "other"] (spEqB K C)
  bHolds : MthK P w K mg base CX0 C "holds" (6 + 1) ["self", "trait", "sort"] (spBR K C spBHolds)
  bAdd : MthK P w K mg base CX0 C "add" (21 + 1) ["self", "instance"] (spAdd K C)
  bClear : MthK P w K mg base CX0 C "is_clear" (113 + 1) ["self"] (spBR K C spBClear)
  bFaults : MthK P w K mg base CX0 C "faults" (20 + 1) ["self"] (spBR K C spBFaults)
section
variable {P : Program} {w : World} {K : PySem.W.Frag} {mg : Str → Option Value} {base : Heap} {C f : Addr} {cdv : Value} {A : Around} {outer : List Env} {s0 : Shared} {H0 : Hp} {E : XK}
  {xs : List Int} {v : Wd} {T b dx bs bd bu S Dn Un : Addr} {n : Nat} {s : BSt} {e0 e1 e2 e3 e4 e5 e6 e7 e8 : Option D} {es : DEnv} {Hc H : Hp} {σ : L2.St} {Z : Ends}
theorem es9 : ∀ (es : DEnv), es.length = 9 → ∃ a b c d e f g h i, es = [a, b, c, d, e, f, g, h, i]
  | [a, b, c, d, e, f, g, h, i], _ => ⟨a, b, c, d, e, f, g, h, i, rfl⟩
theorem t_tail (L : LawH P w K mg base C) (hr : Room 120 (XL P w K mg base f cdv A outer s0 H0 E).A) (I : LI K C xs v T b dx bs bd bu S Dn Un n s s es Hc σ H) (hl : es.length = 9) (hb : n + 8 ≤ big60)
    (q : ∀ es' Hc1 σ' H1, LI K C xs v T b dx bs bd bu S Dn Un (n + 8) s s es' Hc1 σ' H1 → es'.length = 9 → es'[2]? = some (some (encIs s.cur)) → Z.nx σ' H1) : HSs (XL P w K mg base f cdv A outer s0 H0 E) [tuS 2, tuS 3, tuS 4, tuS 5] Z σ H := by
  obtain ⟨a, b, c, d, e, f, g, h, i, rfl⟩ := es9 es hl
  refine h_cons (t_now I fun σ1 I1 => ?_)
  refine h_cons (t_pick L.pick L.traits (L.sort v) hr I1 hb fun t x Hc2 σ2 H2 ht hx1 hx2 I2 => ?_)
  refine h_cons (t_ask L.B L.C1 L.bIns L.bLen L.bStr hr I2 fun Hc3 H3 I3 => ?_)
  exact h_one (t_holds L.C1 L.bHolds L.lholds hr ht hx1 hx2 I3 fun Hc4 H4 I4 => q _ Hc4 _ H4 I4 rfl rfl)
theorem t_turn (L : LawH P w K mg base C) (hr : Room 120 (XL P w K mg base f cdv A outer s0 H0 E).A) (I : LI K C xs v T b dx bs bd bu S Dn Un n s s es Hc σ H) (hl : es.length = 9) (hz : s.old.length + s.und.length ≤ 100) (hb : n + 60 ≤ big60)
    (q : ∀ s' bu' Dn' Un' es' m Hc1 σ' H1, LI K C xs v T b dx bs bd bu' S Dn' Un' m s' s' es' Hc1 σ' H1 → es'.length = 9 → es'[2]? = some (some (encIs s'.cur)) → m ≤ n + 60 → s'.old.length + s'.und.length ≤ s.old.length + s.und.length + 1 → Z.nx σ' H1) :
    HSs (XL P w K mg base f cdv A outer s0 H0 E) [tuS 0, tuS 1, tuS 2, tuS 3, tuS 4, tuS 5] Z σ H := by
  obtain ⟨e0, e1, e2, e3, e4, e5, e6, e7, e8, rfl⟩ := es9 es hl
  refine h_cons (show HS _ (tuS 0) _ σ H from h_par 8 9 sc_law.nd (by decide) (EVz.at (T := T) (L := xs.length) (n := n) (P := fun d => ∃ j : Nat, j < 7 ∧ d = .int (j : Nat)) (ez_call L.draw (hr.mono (by omega)) rfl (ezs_d (ev_v 0 rfl) (ezs_d (ev_v 1 rfl) (ezs_d (d := .int ((7 : Nat) : Int)) ev_int (ezs_nil ⟨⟨xs, 7, I.hx, rfl, by decide, by decide, rfl⟩, fun d hd => ?_⟩))))) I.hs I.tw I.ht (by omega) fun wv d Hc1 H1 g1 t1 p1 hd => ?_))
  · obtain ⟨j, h1, rfl⟩ := hd _ _ _ rfl
    exact ⟨j, h1, rfl⟩
  obtain ⟨j, hj, rfl⟩ := hd
  have I1 := I.growT g1 t1
  obtain ⟨ss, a1, a2⟩ := I1.M.ls
  rw [List.map_append] at a2
  obtain ⟨y, h3, h4⟩ := last_dp a2
  refine h_ixm1 (pe_at 4 I1.s4 ⟨S, ss, y, rfl, a1, h3, ?_⟩)
  have I2 := (I1.set 1 p1).set 2 h4.q
  obtain ⟨wv', w1, w2⟩ := I2.hs.at_ 8 _ rfl
  have ew := dp_int (show Dp K Hc1 wv' (.int (j : Nat)) from w2)
  subst ew
  have fin : ∀ s' bu' Dn' Un' es' m Hc1 σ' H1, LI K C xs v T b dx bs bd bu' S Dn' Un' m s' s' es' Hc1 σ' H1 → es'.length = 9 → m ≤ n + 31 → s'.old.length + s'.und.length ≤ s.old.length + s.und.length + 1 → HSs (XL P w K mg base f cdv A outer s0 H0 E) [tuS 2, tuS 3, tuS 4, tuS 5] Z σ' H1 := fun s' bu' Dn' Un' es' m Hc1 σ' H1 I' hl' hm hs' =>
    t_tail L hr I' hl' (by omega) fun es2 Hc2 σ2 H2 I2 hl2 hn2 => q s' bu' Dn' Un' es2 (m + 8) Hc2 σ2 H2 I2 hl2 hn2 (by omega) hs'
  refine h_cons (show HS _ (tuS 1) _ _ _ from h_if (A := ifA (tuS 1)) (B := [sDrop]) (EVt.at (k := decide (j < 2)) (bT (et_c (ec_lt (ev_v 8 rfl) ev_int)) (decide_eq_decide.mpr (by omega))) I2.hs fun Hc3 H3 g3 => ?_))
  have I3 := I2.grow g3
  by_cases hw : j < 2
  · rw [decide_eq_true hw]
    refine t_back L.outcome L.back hr I3 (by omega) hz fun s' bu' Hc4 H4 I4 hs4 => ?_
    exact fin s' bu' Dn Un _ _ Hc4 _ H4 I4 rfl (by omega) (by omega)
  · rw [decide_eq_false hw]
    refine h_one (show HS _ sDrop _ _ _ from h_if (A := ifA sDrop) (B := ifB sDrop) (h_wayIs 8 w1 ?_))
    by_cases hw2 : j = 2
    · subst hw2
      exact t_drop L.B L.draw L.outcome L.raises hr I3 hz (by omega) fun s' bu' Dn' Un' es' m Hc4 σ4 H4 I4 hl4 hm hs4 => fin s' bu' Dn' Un' es' m Hc4 σ4 H4 I4 hl4 (by omega) hs4
    · rw [decide_eq_false (show ¬ ((j : Nat) : Int) = 2 from by omega)]
      exact t_add L.B L.C1 (L.inst v) L.bAdd hr I3 hz (by omega) fun s' bu' Dn' Un' es' m Hc4 σ4 H4 I4 hl4 hm hs4 => fin s' bu' Dn' Un' es' m Hc4 σ4 H4 I4 hl4 (by omega) hs4
end
end Tr
set_option Elab.async false
set_option linter.all false
set_option maxRecDepth 100000
set_option maxHeartbeats 1000000
set_option autoImplicit false
/-! W39: the law behind its loop -/
namespace Tr
open PySem PySem.Spec PyProof.Rows L2 DL
theorem rawF_mem {v : Wd} {is : List Inst} {x : Nat × Str × Str} (h : x ∈ rawF v is) : (x.2.1 = "below" ∨ x.2.1 = "body") ∧ x.2.2 ∈ names v := by
  unfold rawF at h
  obtain ⟨p, _, h⟩ := List.mem_flatMap.mp h
  rcases List.mem_append.mp h with h | h
  · obtain ⟨t, ht, rfl⟩ := List.mem_map.mp h
    have := (List.mem_filter.mp ht).1
    unfold allBelow at this
    exact ⟨.inl rfl, (List.mem_filter.mp this).1⟩
  · obtain ⟨t, ht, rfl⟩ := List.mem_map.mp h
    exact ⟨.inr rfl, (List.mem_filter.mp ht).1⟩
theorem lay_allC : ∀ l : List D, (∀ d ∈ l, d.canLay0 = true) → PyData.canLayAll0 l = true
  | [], _ => rfl
  | d :: l, h => by rw [PyData.canLayAll0, h d List.mem_cons_self, lay_allC l fun y hy => h y (List.mem_cons_of_mem _ hy)]; rfl
theorem dep_allC (k : Nat) : ∀ l : List D, (∀ d ∈ l, d.depth ≤ k) → PyData.depthAll l ≤ k
  | [], _ => Nat.zero_le _
  | d :: l, h => by
    have h1 := h d List.mem_cons_self
    have h2 := dep_allC k l fun y hy => h y (List.mem_cons_of_mem _ hy)
    rw [PyData.depthAll]
    omega
theorem lay_F {v : Wd} (ok : OkW v) (is : List Inst) : (PyData.tuple (faultsM v is)).canLay0 = true ∧ (PyData.tuple (faultsM v is)).depth ≤ 5 := by
  have key : ∀ d ∈ faultsM v is, d.canLay0 = true ∧ d.depth ≤ 3 := fun d hd => by
    unfold faultsM sortD at hd
    have hd := (List.mergeSort_perm _ _).mem_iff.mp hd
    obtain ⟨x, hx, rfl⟩ := List.mem_map.mp hd
    obtain ⟨h1, h2⟩ := rawF_mem hx
    have e2 : (PyData.str x.2.2).canLay0 = true := by
      unfold names at h2
      obtain ⟨t, ht, e⟩ := List.mem_map.mp h2
      rw [← e]
      exact str_lay (ok.st t ht).1
    have e1 : (PyData.str x.2.1).canLay0 = true := by
      rcases h1 with h1 | h1
      · rw [h1]
        decide +kernel
      · rw [h1]
        decide +kernel
    constructor
    · simp only [encF, PyData.canLay0, PyData.canLayAll0] at *
      simp [e1, e2]
    · simp [encF, PyData.depth, PyData.depthAll]
  have a := lay_allC _ fun d hd => (key d hd).1
  have b := dep_allC 3 _ fun d hd => (key d hd).2
  constructor
  · rw [PyData.canLay0]
    exact a
  · rw [PyData.depth]
    omega
theorem eqvAll_len : ∀ {xs ys : List D}, xs.length ≠ ys.length → PyData.eqvAll xs ys = false
  | [], [], h => absurd rfl h
  | [], _ :: _, _ => rfl
  | _ :: _, [], _ => rfl
  | x :: xs, y :: ys, h => by
    have := eqvAll_len (xs := xs) (ys := ys) (fun e => h (by simp [e]))
    rw [PyData.eqvAll, this, Bool.and_false]
theorem eqv_lenI {xs ys : List Inst} (h : xs.length ≠ ys.length) : PyData.eqv (encIs xs) (encIs ys) = false := eqvAll_len (by rw [List.length_map, List.length_map]; exact h)
/-- what stands at the law's end: two benches -/
structure FI (K : PySem.W.Frag) (C : Addr) (xs : List Int) (v : Wd) (T b dx bs bd bu S Dn Un b2 dx2 bs2 bd2 bu2 : Addr) (s s2 : BSt) (es : DEnv) (Hc : Hp) (σ : L2.St) (H : Hp) : Prop where
  hs : DSX K Hc σ H (envL xs T v b S Dn Un es)
  B : BnA K C Hc H b dx bs bd bu v s
  B2 : BnA K C Hc H b2 dx2 bs2 bd2 bu2 v s2
  ne : ∀ a ∈ [b, bs, bd, bu], a ∉ [b2, bs2, bd2, bu2]
section
variable {P : Program} {w : World} {K : PySem.W.Frag} {mg : Str → Option Value} {base : Heap} {C f : Addr} {cdv : Value} {A : Around} {outer : List Env} {s0 : Shared} {H0 : Hp} {E : XK}
  {xs : List Int} {v : Wd} {T b dx bs bd bu S Dn Un b2 dx2 bs2 bd2 bu2 : Addr} {n : Nat} {s s2 : BSt} {es : DEnv} {Hc H Hc1 H1 : Hp} {σ : L2.St} {Z : Ends}
theorem FI.cor (h : FI K C xs v T b dx bs bd bu S Dn Un b2 dx2 bs2 bd2 bu2 s s2 es Hc σ H) : Cor Hc H := h.hs.cor
theorem FI.grow (h : FI K C xs v T b dx bs bd bu S Dn Un b2 dx2 bs2 bd2 bu2 s s2 es Hc σ H) (g : Grow Hc H Hc1 H1) : FI K C xs v T b dx bs bd bu S Dn Un b2 dx2 bs2 bd2 bu2 s s2 es Hc1 σ H1 := ⟨h.hs.grow g, h.B.grow g, h.B2.grow g, h.ne⟩
theorem FI.set (h : FI K C xs v T b dx bs bd bu S Dn Un b2 dx2 bs2 bd2 bu2 s s2 es Hc σ H) (i : Nat) {y : V} {d : D} (p : Dq K Hc y d) : FI K C xs v T b dx bs bd bu S Dn Un b2 dx2 bs2 bd2 bu2 s s2 (es.set i (some d)) Hc (σ.set (7 + i) (some y)) H := by
  refine ⟨?_, h.B, h.B2, h.ne⟩
  have e := h.hs.set (7 + i) p
  have e2 : (envL xs T v b S Dn Un es).set (7 + i) (some d) = envL xs T v b S Dn Un (es.set i (some d)) := by
    have : 7 + i = i + 1 + 1 + 1 + 1 + 1 + 1 + 1 := by omega
    rw [this]
    rfl
  rw [e2] at e
  exact e
/-- the other bench has been added to -/
theorem FI.other {s3 : BSt} {bu3 : Addr} (h : FI K C xs v T b dx bs bd bu S Dn Un b2 dx2 bs2 bd2 bu2 s s2 es Hc σ H) (g : GS [b2, bs2, bd2] Hc H Hc1 H1) (hb : H bu3 = none) (hB : BnA K C Hc1 H1 b2 dx2 bs2 bd2 bu3 v s3) : FI K C xs v T b dx bs bd bu S Dn Un b2 dx2 bs2 bd2 bu3 s s3 es Hc1 σ H1 := by
  have k : ∀ a ∈ [b, bs, bd, bu], a ∉ [b2, bs2, bd2] := fun a ha z => h.ne a ha (by
    simp only [List.mem_cons, List.not_mem_nil, or_false] at z ⊢
    rcases z with z | z | z <;> simp [z])
  have hn : ∀ a ∈ [b, bs, bd, bu], H a ≠ none := fun a ha => by
    simp only [List.mem_cons, List.not_mem_nil, or_false] at ha
    rcases ha with rfl | rfl | rfl | rfl
    · exact h.B.eb
    · exact h.B.es
    · exact h.B.ed
    · exact h.B.eu
  refine ⟨h.hs.gs g, h.B.gs g (k _ (by simp)) (k _ (by simp)) (k _ (by simp)) (k _ (by simp)), hB, fun a ha z => ?_⟩
  have k2 := k a ha
  have k3 := hn a ha
  simp only [List.mem_cons, List.not_mem_nil, or_false] at z k2
  rcases z with z | z | z | z
  · exact k2 (.inl z)
  · exact k2 (.inr (.inl z))
  · exact k2 (.inr (.inr z))
  · exact k3 (by rw [z]; exact hb)
theorem f_ask (L : LawH P w K mg base C) (hr : Room 120 (XL P w K mg base f cdv A outer s0 H0 E).A) {e0 e1 e3 e4 e5 e6 e7 e8 : Option D} (I : LI K C xs v T b dx bs bd bu S Dn Un n s s [e0, e1, some (encIs s.cur), e3, e4, e5, e6, e7, e8] Hc σ H)
    (q : ∀ Hc1 H1, LI K C xs v T b dx bs bd bu S Dn Un n s s [e0, e1, some (encIs s.cur), e3, e4, e5, e6, e7, e8] Hc1 σ H1 → Z.nx σ H1) : HS (XL P w K mg base f cdv A outer s0 H0 E) (lwS 4) Z σ H := by
  have hu : (A.deeper (envOfC "law" (defScope (top 97)) s0.heap.objs.size f cdv)).units + 100 < cLine := hr.u 100
  have ok := I.B.ok
  have h8 := ok.c.1
  obtain ⟨m, g, hrun⟩ := runs_ex ok.sm _ [] (Nat.le_refl _) (good_nil v s.cur)
  obtain ⟨wv, i1, i2⟩ := I.B.ins
  refine h_if (h_or2 (h_neSame (h_meth0 L.C1.cl L.bClear (hr.mono (by omega)) pass0 (pe_at 3 I.s3 ⟨b, dx, _, rfl, i1, rfl, Hc, b, dx, bs, bd, bu, v, s, [], [], _, rfl, I.cor, I.B, .nil, ⟨m, g, hrun, rfl, rfl⟩, fun r Hc1 H1 g1 p1 => ?_⟩))))
  have I1 := I.grow g1
  refine h_call0 L.clear (hr.mono (by omega)) rfl I1.hs (eq_cons (ev_v 2 rfl) (eq_cons (ev_v 9 rfl) eq_nil)) ⟨v, s.cur, m, g, ok.sm, ok.c.2, h8, hrun, rfl, rfl⟩ fun r2 Hc2 H2 g2 p2 => ?_
  have I2 := I1.grow g2
  refine ⟨_, ((show Dp K Hc1 r (.bool (isNon (doubleM v g))) from p1).same g2.cc).same I2.cor.sub, (show Dp K Hc2 r2 (.bool (isNon (doubleM v g))) from p2).same I2.cor.sub, rfl, ?_, rfl, ?_⟩
  · have : (PyData.bool (isNon (doubleM v g))).depth ≤ 3 := by simp [PyData.depth]
    show (A.deeper _).units + _ < cLine
    omega
  obtain ⟨wv2, i3, i4⟩ := I2.B.ins
  refine h_neSame (h_meth0 L.C1.cl L.bFaults (hr.mono (by omega)) pass0 (pe_at 3 I2.s3 ⟨b, dx, _, rfl, i3, rfl, Hc2, b, dx, bs, bd, bu, v, s, [], [], _, rfl, I2.cor, I2.B, .nil, ⟨rfl, rfl⟩, fun r3 Hc3 H3 g3 p3 => ?_⟩))
  have I3 := I2.grow g3
  refine h_call0 L.faults (hr.mono (by omega)) rfl I3.hs (eq_cons (ev_v 2 rfl) (eq_cons (ev_v 9 rfl) eq_nil)) ⟨v, s.cur, ok.sm.ok, ok.c.2, h8, rfl, rfl⟩ fun r4 Hc4 H4 g4 p4 => ?_
  have I4 := I3.grow g4
  obtain ⟨l1, l2⟩ := lay_F ok.sm.ok s.cur
  refine ⟨_, ((show Dp K Hc3 r3 (.tuple (faultsM v s.cur)) from p3).same g4.cc).same I4.cor.sub, (show Dp K Hc4 r4 (.tuple (faultsM v s.cur)) from p4).same I4.cor.sub, l1, ?_, ?_⟩
  · show (A.deeper _).units + _ < cLine
    omega
  exact h_nil (q Hc4 H4 I4)
/-- Bench(world) -/
theorem h_make {X : Cx} {e : Expr} {p pos : Pos} {Q : VK} {wv : V} {f : Addr} {fd : FuncData} (C1 : BC X.K X.mg C) (M : Mk X.K C f) (hb : Binds X.K fd ["self", "world"] []) (F : FnOk X.prog X.w X.K X.mg X.base CX0 (4 + 1) f fd ["self", "world"] (spInit X.K C)) (hr : Room 6 X.A) (sm : Small v) (cor : Cor Hc H) (he : ∀ Q : VK, Q wv H → HX X e σ H Q) (hw : Dq X.K Hc wv (W v))
    (q : ∀ b dx bs bd bu Hc1 H1, H b = none → H bs = none → H bd = none → H bu = none → Grow Hc H Hc1 H1 → BnA X.K C Hc1 H1 b dx bs bd bu v nw → Q (.ref b) H1) (hg : Gl X "Bench" := by rfl)
    (he1 : starEach (e :: []) X.env = (false, eval e X.env) :: starEach [] X.env := by rfl) (hpl : (backTo pos (starEach [] X.env)).any (·.1) = false := by rfl) : HX X (.Call (.Name "Bench" p) [e] [] pos) σ H Q := by
  refine hx_of (pe_make M F hr hg C1.mgC hb .nil pass0 (pa_cons pe_h pa_nil he1) (by decide) he1 hpl) (he _ fun x dx nx ndx hne => ?_)
  have g1 : GS ([] : List Addr) Hc H Hc (upd (upd H dx (.own x)) x (.ins C dx [])) := (GS.newO cor ndx (o := .own x) id).trans (GS.newO (GS.newO (S := []) cor ndx (o := .own x) id).cor (by rw [upd_ne (Ne.symm hne)]; exact nx) id)
  refine ⟨Hc, x, dx, v, wv, rfl, g1.cor, upd_same, cor.sub.free nx, hw, sm, fun bs bd bu Hc1 H1 G ns nd nu hB => ⟨rfl, ?_⟩⟩
  have n0 : ∀ a, (upd (upd H dx (.own x)) x (.ins C dx [])) a = none → H a = none := fun a ha => by
    cases z : H a with
    | none => rfl
    | some o => exact absurd ha (g1.dm _ (some_ne z))
  have G0 : Grow Hc H Hc1 H1 := by
    refine ⟨fun a o e => G.hh a o ?_ (g1.hh a o (fun z => nomatch z) e), G.cc, fun a h1 h2 => G.nw a (g1.dm a h1) h2, G.cor⟩
    intro z
    rw [List.mem_singleton.mp z, nx] at e
    cases e
  exact q x dx bs bd bu Hc1 H1 nx (n0 _ ns) (n0 _ nd) (n0 _ nu) G0 hB
end
end Tr
set_option Elab.async false
set_option linter.all false
set_option maxRecDepth 100000
set_option maxHeartbeats 1000000
set_option autoImplicit false
/-! W40: the second bench; law -/
namespace Tr
open PySem PySem.Spec PyProof.Rows L2 DL
section
variable {P : Program} {w : World} {K : PySem.W.Frag} {mg : Str → Option Value} {base : Heap} {C f : Addr} {cdv : Value} {A : Around} {outer : List Env} {s0 : Shared} {H0 : Hp} {E : XK}
  {xs : List Int} {v : Wd} {T b dx bs bd bu S Dn Un b2 dx2 bs2 bd2 bu2 : Addr} {n : Nat} {s s2 : BSt} {es : DEnv} {Hc H Hc1 H1 : Hp} {σ : L2.St} {Z : Ends}
theorem f_other (L : LawH P w K mg base C) (hr : Room 120 (XL P w K mg base f cdv A outer s0 H0 E).A) (I : LI K C xs v T b dx bs bd bu S Dn Un n s s es Hc σ H)
    (q : ∀ b2 dx2 bs2 bd2 bu2 Hc1 H1, FI K C xs v T b dx bs bd bu S Dn Un b2 dx2 bs2 bd2 bu2 s nw (es.set 8 (some (adM b2))) Hc1 (σ.set 15 (some (.ref b2))) H1 → Z.nx (σ.set 15 (some (.ref b2))) H1) : HS (XL P w K mg base f cdv A outer s0 H0 E) (lwS 5) Z σ H := by
  obtain ⟨wv, w1, w2⟩ := I.hs.at_ 2 _ rfl
  obtain ⟨f1, fd1, M, hb, ok1⟩ := L.mkC
  refine h_set 15 sc_law.nd (h_make L.C1 M hb ok1 (hr.mono (by omega)) I.B.ok.sm I.cor (fun Q q => pe_at 2 w1 q) w2 fun b2 dx2 bs2 bd2 bu2 Hc1 H1 n1 n2 n3 n4 g hB => ?_)
  have F : FI K C xs v T b dx bs bd bu S Dn Un b2 dx2 bs2 bd2 bu2 s nw es Hc1 σ H1 := by
    refine ⟨I.hs.grow g, I.B.grow g, hB, fun a ha z => ?_⟩
    have hn : H a ≠ none := by
      simp only [List.mem_cons, List.not_mem_nil, or_false] at ha
      rcases ha with rfl | rfl | rfl | rfl
      · exact I.B.eb
      · exact I.B.es
      · exact I.B.ed
      · exact I.B.eu
    simp only [List.mem_cons, List.not_mem_nil, or_false] at z
    rcases z with rfl | rfl | rfl | rfl
    · exact hn n1
    · exact hn n2
    · exact hn n3
    · exact hn n4
  exact q b2 dx2 bs2 bd2 bu2 Hc1 H1 (F.set 8 (ad_of b2))
/-- bench == other -/
theorem h_benchEq {X : Cx} {o1 o2 : Expr} {pos : Pos} {Q : Bool → Hp → Prop} (C1 : BC X.K X.mg C) (kk : BK X.K C) (D : MthK X.prog X.w X.K X.mg X.base CX0 C "__eq__" (0 + 1) ["self", "other"] (spEqB X.K C)) (hr : Room 1 X.A) (cor : Cor Hc H) (hB : BnA X.K C Hc H b dx bs bd bu v s) (hB2 : BnA X.K C Hc H b2 dx2 bs2 bd2 bu2 v s2)
    (h1 : ∀ Q : VK, Q (.ref b) H → HX X o1 σ H Q) (h2 : ∀ Q : VK, Q (.ref b2) H → HX X o2 σ H Q) (q : ∀ Hc1 H1, Grow Hc H Hc1 H1 → Q (PyData.eqv (encIs s.cur) (encIs s2.cur)) H1) (hm : behindInMarks .Eq o2 = false := by first | exact nomk | rfl) : HT X (.Compare o1 [.Eq] [o2] pos) σ H Q := by
  obtain ⟨f, fd, hM, _, hb, ok⟩ := D.ex
  obtain ⟨wv, i1, i2⟩ := hB.ins
  exact ht_of (pt_cmpR (op_own ok hM.at_ hM.fn hb hr) pe_h pe_h hm) (h1 _ (h2 _ ⟨b, dx, _, .ref C, rfl, i1, hB2.ty C1.cl kk, by unfold PySem.W.notFirst; simp, Hc, b, dx, bs, bd, bu, v, s, cor, hB, .inl ⟨b2, dx2, bs2, bd2, bu2, s2, rfl, hB2, fun Hc1 H1 g => ⟨_, rfl, _, rfl, q Hc1 H1 g⟩⟩⟩))
theorem f_loop (L : LawH P w K mg base C) (hr : Room 120 (XL P w K mg base f cdv A outer s0 H0 E).A) {e0 e1 e3 e4 e5 e6 e7 : Option D} (I : FI K C xs v T b dx bs bd bu S Dn Un b2 dx2 bs2 bd2 bu2 s nw [e0, e1, some (encIs s.cur), e3, e4, e5, e6, e7, some (adM b2)] Hc σ H)
    (q : ∀ bu2 s2 e5 Hc1 σ1 H1, FI K C xs v T b dx bs bd bu S Dn Un b2 dx2 bs2 bd2 bu2 s s2 [e0, e1, some (encIs s.cur), e3, e4, e5, e6, e7, some (adM b2)] Hc1 σ1 H1 → s2.cur = s.cur → Z.nx σ1 H1) : HS (XL P w K mg base f cdv A outer s0 H0 E) (lwS 6) Z σ H := by
  have h8 := I.B.ok.c.1
  have hI : ∀ Hc' σ' H' bu2 s2 e5, FI K C xs v T b dx bs bd bu S Dn Un b2 dx2 bs2 bd2 bu2 s s2 [e0, e1, some (encIs s.cur), e3, e4, e5, e6, e7, some (adM b2)] Hc' σ' H' → σ'[15]? = some (some (.ref b2)) ∧ σ'[3]? = some (some (.ref b)) := fun Hc' σ' H' bu2 s2 e5 F => ⟨DSX.ad F.hs (i := 15) rfl, DSX.ad F.hs (i := 3) rfl⟩
  refine h_for 12 sc_law.nd ⟨iv_tup (ds := s.cur.map encI) (ev_v 9 rfl) Hc σ H I.hs _ fun J Hc1 H1 g w => ?_⟩
  refine ⟨Hc1, s.cur.map encI, (fun H2 => Same Hc1 H2), YC K Hc1 (s.cur.map encI), (fun i Hc' σ' H' => Same Hc1 Hc' ∧ ∃ bu2 s2 e5, FI K C xs v T b dx bs bd bu S Dn Un b2 dx2 bs2 bd2 bu2 s s2 [e0, e1, some (encIs s.cur), e3, e4, e5, e6, e7, some (adM b2)] Hc' σ' H' ∧ s2.cur = s.cur.take i ∧ s2.old.length ≤ i), w, ?_, ⟨Same.refl _, bu2, nw, e5, I.grow g, rfl, Nat.le_refl _⟩, ?_, ?_⟩
  · rintro i Hc' σ' H' ⟨sm, bu2, s2, e5, F, hc, ho⟩
    refine ⟨F.cor, sm.trans F.cor.sub, fun H2 y hi yy => ?_⟩
    exact yy Hc' F.cor sm
  · rintro i d Hc' σ' H' hd ⟨sm, bu2, s2, e5, F, hc, ho⟩ iv Hc2 H2 g2 pd
    have F2 := (F.grow g2).set 5 pd.q
    rw [List.getElem?_map] at hd
    obtain ⟨ins, hi, rfl⟩ := Option.map_eq_some_iff.mp hd
    obtain ⟨hlt, hie⟩ := List.getElem?_eq_some_iff.mp hi
    have okI : OkI v ins := F.B.ok.c.2 _ (List.mem_of_getElem? hi)
    obtain ⟨s15, s3⟩ := hI _ _ _ _ _ _ F2
    have hcl : s2.cur.length = i := by
      rw [hc, List.length_take]
      omega
    refine h_cons (h_if (h_benchEq L.C1 L.kk L.bEq (hr.mono (by omega)) F2.cor F2.B F2.B2 (fun Q q => pe_at 3 s3 q) (fun Q q => pe_at 15 s15 q) fun Hc3 H3 g3 => ?_))
    have F3 := F2.grow g3
    rw [eqv_lenI (show s.cur.length ≠ s2.cur.length by omega)]
    refine h_nil ?_
    obtain ⟨wv, i1, i2⟩ := F3.B2.ins
    obtain ⟨iv', m1, m2⟩ := F3.hs.at_ 12 _ rfl
    refine h_one (h_expr (h_meth L.C1.cl L.bAdd (hr.mono (by omega)) pass0 (pe_at 15 s15 ⟨b2, dx2, _, rfl, i1, rfl, ha_cons (pe_at 12 m1 (ha_nil ⟨Hc3, b2, dx2, bs2, bd2, bu2, v, s2, iv', ins, rfl, F3.cor, F3.B2, (show Dp K Hc3 iv' (encI ins) from m2), okI, by omega, by omega, fun bu3 Hc4 H4 g4 hb hB => ?_⟩))⟩)))
    refine ⟨Hc4, ((sm.trans g2.cc).trans g3.cc).trans g4.cc, bu3, _, _, F3.other g4 hb hB, ?_, ?_⟩
    · show s2.cur ++ [ins] = s.cur.take (i + 1)
      rw [hc, List.take_succ, hi]
      rfl
    · show (s2.old ++ [s2.cur]).length ≤ i + 1
      rw [List.length_append]
      simp
      omega
  · rintro Hc' σ' H' ⟨sm, bu2, s2, e5, F, hc, ho⟩
    refine q bu2 s2 e5 Hc' σ' H' F ?_
    rw [hc, List.length_map, List.take_length]
theorem f_ret (L : LawH P w K mg base C) (hr : Room 120 (XL P w K mg base f cdv A outer s0 H0 E).A) {e0 e1 e3 e4 e5 e6 e7 : Option D} (I : FI K C xs v T b dx bs bd bu S Dn Un b2 dx2 bs2 bd2 bu2 s s2 [e0, e1, some (encIs s.cur), e3, e4, e5, e6, e7, some (adM b2)] Hc σ H) (hc : s2.cur = s.cur)
    (q : ∀ H1, Z.rt (.bl true) H1) : HS (XL P w K mg base f cdv A outer s0 H0 E) (lwS 7) Z σ H := by
  obtain ⟨l1, l2⟩ := lay_Is I.B.ok.sm.ok I.B.ok.c.2
  obtain ⟨fe, fde, hM, _, hbe, oke⟩ := L.bEq.ex
  have s15 : σ[15]? = some (some (.ref b2)) := DSX.ad I.hs (i := 15) rfl
  have s3 : σ[3]? = some (some (.ref b)) := DSX.ad I.hs (i := 3) rfl
  obtain ⟨wv, i1, i2⟩ := I.B.ins
  have nf1 : PySem.W.notFirst K C (.type "tuple") = true := by
    unfold PySem.W.notFirst
    rw [L.kk.nT]
    simp
  have nf2 : PySem.W.notFirst K C (.type "str") = true := by
    unfold PySem.W.notFirst
    rw [L.kk.nS]
    simp
  refine h_ret (hx_of (pe_and (pe_cmpR (op_own oke hM.at_ hM.fn hbe (hr.mono (by omega))) pe_h pe_h nomk) pe_h) ?_)
  refine pe_at 3 s3 (pe_at 15 s15 ⟨b, dx, _, .ref C, rfl, i1, I.B2.ty L.C1.cl L.kk, by unfold PySem.W.notFirst; simp, Hc, b, dx, bs, bd, bu, v, s, I.cor, I.B, .inl ⟨b2, dx2, bs2, bd2, bu2, s2, rfl, I.B2, fun Hc1 H1 g1 => ⟨_, rfl, ?_⟩⟩⟩)
  rw [hc, SeqAt.eqv_refl _ l1]
  refine ⟨true, rfl, ?_⟩
  have I1 := I.grow g1
  obtain ⟨wv1, i3, i4⟩ := I1.B.ins
  obtain ⟨nv, n1, n2⟩ := I1.hs.at_ 9 _ rfl
  have ty1 := dp_ty ((show Dp K Hc1 nv (encIs s.cur) from n2).same I1.cor.sub)
  refine hx_of (pe_and (pe_cmpR (op_neOwn oke hM.at_ L.kk.ne L.kk.mr hM.fn hbe (hr.mono (by omega))) pe_h pe_h nomk) pe_h) ?_
  refine pe_at 3 s3 (pe_at 9 n1 ⟨b, dx, _, .type "tuple", rfl, i3, ty1, nf1, Hc1, b, dx, bs, bd, bu, v, s, I1.cor, I1.B, .inr ⟨nv, encIs s.cur, rfl, n2, .inl rfl, fun Hc2 H2 g2 => ⟨_, rfl, ?_⟩⟩⟩)
  refine ⟨true, rfl, ?_⟩
  have I2 := I1.grow g2
  obtain ⟨wv2, i5, i6⟩ := I2.B.ins
  refine hx_of (pe_one (pe_cmpR (op_neOwn oke hM.at_ L.kk.ne L.kk.mr hM.fn hbe (hr.mono (by omega))) pe_h pe_h nomk)) ?_
  refine pe_at 3 s3 (h_str ⟨b, dx, _, .type "str", rfl, i5, dp_ty (L2.Dp.str (H := H2) ("bench" : Str)), nf2, Hc2, b, dx, bs, bd, bu, v, s, I2.cor, I2.B, .inr ⟨_, .str "bench", rfl, L2.Dp.str _, .inr rfl, fun Hc3 H3 g3 => ⟨_, rfl, q H3⟩⟩⟩)
end
end Tr
set_option Elab.async false
set_option linter.all false
set_option maxRecDepth 100000
set_option maxHeartbeats 1000000
set_option autoImplicit false
/-! W41: law -/
namespace Tr
open PySem PySem.Spec PyProof.Rows L2 DL
def spLaw (K : PySem.W.Frag) : Sp := fun vs H Q _ => ∃ (a : Addr) (xs : List Int), vs = [.ref a] ∧ SqL K H a (xs.map V.int) ∧ xs.length ≤ 63 ∧ ∀ H', Q (.bl true) H'
theorem ints_dp {K : PySem.W.Frag} {H : Hp} : ∀ (xs : List Int), DpAll K H (xs.map V.int) (xs.map PyData.int)
  | [] => .nil
  | _ :: xs => .cons (L2.Dp.int _) (ints_dp xs)
section
variable {P : Program} {w : World} {K : PySem.W.Frag} {mg : Str → Option Value} {base : Heap} {C f : Addr} {fd : FuncData}
theorem ok_law (L : LawH P w K mg base C) (F : FunD K "law" "law" (defArgs (top 97)) (defBody (top 97)) (defScope (top 97)) [] [] f fd) : FnOk P w K mg base CX0 (120 + 1) f fd ["_law_script"] (spLaw K) := by
  refine F.ok sc_law (fun vs H Q E h => ?_) (fun cdv A outer s0 H vs Q E hr h => ⟨_, PSs.nox pss_h, ?_⟩)
  · obtain ⟨a, xs, rfl, _⟩ := h
    rfl
  · obtain ⟨a, xs, rfl, ha, hx, q⟩ := h
    have cor0 : Cor H H := ⟨fun _ _ e => e, fun _ _ e _ => e⟩
    have dq : Dq K H (.ref a) (scrD xs) := L2.Dp.lst ha (ints_dp xs)
    have b60 : big60 = 2 ^ 60 := rfl
    have hs0 : DSX K H (L2.start N_law [.ref a]) H (some (scrD xs) :: List.replicate 15 none) := dsx_start (N := N_law) cor0 (DqAll.one dq)
    refine h_cons (h_set 1 sc_law.nd (h_callK L.town (hr.mono (by omega)) rfl (ha_cons (pe_at 0 rfl (ha_nil ⟨H, .ref a, xs, rfl, cor0, dq, hx, fun T Hc1 H1 g nT ncT tw => ?_⟩)))))
    have hs1 := (hs0.grow g).set 1 (ad_of T)
    refine h_cons (h_set 2 sc_law.nd (EVz.at (T := T) (L := xs.length) (n := 0) (P := fun d => ∃ v : Wd, Small v ∧ d = W v) (ez_call L.world (hr.mono (by omega)) rfl (ezs_d (ev_v 0 rfl) (ezs_d (ev_v 1 rfl) (ezs_nil ⟨⟨xs, hx, rfl, rfl⟩, fun d hd => hd⟩)))) hs1 tw ncT (by rw [b60]; omega) fun wv d Hc2 H2 g2 t2 p2 hd => ?_))
    obtain ⟨v, sm, rfl⟩ := hd
    have hs2 := (hs1.gs (g2.gs t2.ne)).set 2 p2
    have nct2 : Hc2 T = none := g2.nw T tw.ne ncT
    obtain ⟨f1, fd1, M, hb, ok1⟩ := L.mkC
    refine h_cons (hs_of (ps_asg (pe_tup pa_h) (pg_tup rfl (pgs_cons (pg_name (i := 3) sc_law.nd rfl (by first | exact Or.inl rfl | exact Or.inr rfl)) (pgs_cons (pg_name (i := 4) sc_law.nd rfl (by first | exact Or.inl rfl | exact Or.inr rfl)) (pgs_cons (pg_name (i := 5) sc_law.nd rfl (by first | exact Or.inl rfl | exact Or.inr rfl)) (pgs_cons (pg_name (i := 6) sc_law.nd rfl (by first | exact Or.inl rfl | exact Or.inr rfl)) pgs_nil)))))) ?_)
    refine ha_cons (h_make L.C1 M hb ok1 (hr.mono (by omega)) sm hs2.cor (fun Q q => pe_at 2 rfl q) p2 fun b dx bs bd bu Hc3 H3 n1 n2 n3 n4 g3 hB => ?_)
    have hs3 := hs2.grow g3
    refine ha_cons (hx_of (pe_lst pa_h) (ha_cons (EVd.at (d := .tuple []) (ev_tup ea_nil (Nat.zero_le _)) hs3 fun tv Hc4 H4 g4 p4 => ha_nil ⟨Nat.le_of_ble_eq_true rfl, fun S nS => ?_⟩)))
    refine ha_cons (h_nilL fun Dn nDn => ha_cons (h_nilL fun Un nUn => ha_nil ⟨Nat.le_of_ble_eq_true rfl, fun t nt => ⟨t, _, rfl, .inl (.inl upd_same), rfl, .ref b, _, rfl, .ref S, _, rfl, .ref Dn, _, rfl, .ref Un, _, rfl, rfl, ?_⟩⟩))
    have hs4 := hs3.grow g4
    have hB4 := hB.grow g4
    have tw3 := t2.same g3.hh
    have tw4 := tw3.same g4.hh
    have ct4 : Hc4 T = none := g4.nw _ tw3.ne (g3.nw _ t2.ne nct2)
    have G5 : GS ([] : List Addr) Hc4 H4 Hc4 (upd H4 S (.lst [tv])) := GS.newO hs4.cor nS id
    have G6 := G5.trans (GS.newO (S := []) G5.cor nDn (o := .lst []) id)
    have G7 := G6.trans (GS.newO (S := []) G6.cor nUn (o := .lst []) id)
    have g8 := Grow.new (o := .tup [.ref b, .ref S, .ref Dn, .ref Un]) G7.cor nt
    have g48 := G7.grow.trans g8
    have kS5 : (upd H4 S (.lst [tv])) S = some (.lst [tv]) := upd_same
    have kS6 := (GS.newO (S := []) G5.cor nDn (o := .lst []) id).grow.hh _ _ kS5
    have kS7 := (GS.newO (S := []) G6.cor nUn (o := .lst []) id).grow.hh _ _ kS6
    have kD6 : (upd (upd H4 S (.lst [tv])) Dn (.lst [])) Dn = some (.lst []) := upd_same
    have kD7 := (GS.newO (S := []) G6.cor nUn (o := .lst []) id).grow.hh _ _ kD6
    have kU7 : (upd (upd (upd H4 S (.lst [tv])) Dn (.lst [])) Un (.lst [])) Un = some (.lst []) := upd_same
    have kS8 := g8.hh _ _ kS7
    have kD8 := g8.hh _ _ kD7
    have kU8 := g8.hh _ _ kU7
    have nDn4 : H4 Dn = none := G5.grow.hh.free nDn
    have nUn4 : H4 Un = none := G6.grow.hh.free nUn
    have cS8 := g8.nw _ (some_ne kS7) (hs4.cor.sub.free nS)
    have cD8 := g8.nw _ (some_ne kD7) (hs4.cor.sub.free nDn4)
    have cU8 := g8.nw _ (some_ne kU7) (hs4.cor.sub.free nUn4)
    have I0 : LI K C xs v T b dx bs bd bu S Dn Un (0 + (0 + 14)) nw nw (List.replicate 9 none) (upd Hc4 t (.tup [.ref b, .ref S, .ref Dn, .ref Un])) (((((((L2.start N_law [V.ref a]).set 1 (some (.ref T))).set 2 (some wv)).set 3 (some (.ref b))).set 4 (some (.ref S))).set 5 (some (.ref Dn))).set 6 (some (.ref Un))) (upd (upd (upd (upd H4 S (.lst [tv])) Dn (.lst [])) Un (.lst [])) t (.tup [.ref b, .ref S, .ref Dn, .ref Un])) := by
      refine ⟨((((hs4.grow g48).set 3 (ad_of b)).set 4 (ad_of S)).set 5 (ad_of Dn)).set 6 (ad_of Un), tw4.same g48.hh, g48.nw _ tw4.ne ct4, hB4.grow g48, ⟨⟨[tv], kS8, .cons ((show Dp K Hc4 tv (.tuple []) from p4).same g48.cc) .nil⟩, ⟨[], kD8, .nil⟩, ⟨[], kU8, .nil⟩, cS8, cD8, cU8, ?_, ?_, ?_⟩, ?_, hx⟩
      · exact ne_of_none kS5 nDn
      · exact ne_of_none kS6 nUn
      · exact ne_of_none kD6 nUn
      · obtain ⟨e1, e2, e3⟩ := hB4.bne
        have k4 : ∀ x, H4 x ≠ none → x ≠ S ∧ x ≠ Dn ∧ x ≠ Un := fun x hx => ⟨fun z => hx (by rw [z]; exact nS), fun z => hx (by rw [z]; exact nDn4), fun z => hx (by rw [z]; exact nUn4)⟩
        obtain ⟨a1, a2, a3⟩ := k4 _ tw4.ne
        obtain ⟨b1, b2, b3⟩ := k4 _ hB4.eb
        obtain ⟨c1, c2, c3⟩ := k4 _ hB4.es
        obtain ⟨d1, d2, d3⟩ := k4 _ hB4.ed
        obtain ⟨f1, f2, f3⟩ := k4 _ hB4.eu
        have kT : ∀ x, H2 x = none → T ≠ x := fun x hx z => t2.ne (by rw [z]; exact hx)
        have SD : S ≠ Dn := ne_of_none kS5 nDn
        have SU : S ≠ Un := ne_of_none kS6 nUn
        have DU : Dn ≠ Un := ne_of_none kD6 nUn
        simp [List.nodup_cons, kT _ n1, kT _ n2, kT _ n3, kT _ n4, a1, a2, a3, b1, b2, b3, c1, c2, c3, d1, d2, d3, f1, f2, f3, e1, e2, e3, hB4.sd, hB4.su, hB4.du, SD, SU, DU]
    generalize (upd (upd (upd (upd H4 S (.lst [tv])) Dn (.lst [])) Un (.lst [])) t (.tup [.ref b, .ref S, .ref Dn, .ref Un])) = H8 at *
    generalize (upd Hc4 t (.tup [.ref b, .ref S, .ref Dn, .ref Un])) = Hc8 at *
    -- the turns
    refine h_cons (h_for 7 sc_law.nd (h_range L.B (EVz.at (T := T) (L := xs.length) (n := 0 + (0 + 14)) (P := fun d => ∃ j : Nat, 6 ≤ j ∧ j ≤ 16 ∧ d = .int (j : Nat)) (ez_add (i := 6) ev_int (ez_call L.draw (hr.mono (by omega)) rfl (ezs_d (ev_v 0 rfl) (ezs_d (ev_v 1 rfl) (ezs_d (d := .int ((11 : Nat) : Int)) ev_int (ezs_nil ⟨⟨xs, 11, hx, rfl, by decide, by decide, rfl⟩, fun d hd => ?_⟩)))))) I0.hs I0.tw I0.ht (by rw [b60]; omega) fun nv d Hc9 H9 g9 t9 p9 hd => ?_)))
    · obtain ⟨j, h1, rfl⟩ := hd _ _ _ rfl
      exact ⟨(j : Int), rfl, 6 + j, by omega, by omega, congrArg PyData.int (by omega)⟩
    obtain ⟨j, hj6, hj16, rfl⟩ := hd
    have I9 := I0.growT g9 t9
    refine ⟨j, dp_int p9, by omega, fun J wk => ⟨Hc9, rangeD j, (fun _ => True), YR j, (fun i Hc' σ' H' => ∃ (s : BSt) (bu Dn Un : Addr) (es : DEnv) (m : Nat), LI K C xs v T b dx bs bd bu S Dn Un m s s es Hc' σ' H' ∧ es.length = 9 ∧ m ≤ 20 + 60 * i ∧ s.old.length + s.und.length ≤ i ∧ (0 < i → es[2]? = some (some (encIs s.cur)))), wk, ?_, ⟨nw, bu, Dn, Un, _, _, I9, rfl, by omega, Nat.le_refl _, fun z => absurd z (Nat.lt_irrefl _)⟩, ?_, ?_⟩⟩
    · rintro i Hc' σ' H' ⟨s, bu, Dn, Un, es, m, I, _⟩
      refine ⟨I.cor, trivial, fun H2 y hi yy => ?_⟩
      rw [rangeD_len] at hi
      exact yr_at hi I.cor yy
    · rintro i d Hc' σ' H' hd ⟨s, bu, Dn, Un, es, m, I, hl, hm, hs, _⟩ kv Hc2 H2 g2 pd
      have hij : i < j := by
        have := (List.getElem?_eq_some_iff.mp hd).1
        rw [rangeD_len] at this
        exact this
      have I2 := (I.grow g2).set 0 pd.q
      exact t_turn L hr I2 (by rw [List.length_set]; exact hl) (by omega) (by rw [b60]; omega) fun s' bu' Dn' Un' es' m' Hc3 σ3 H3 I3 hl3 hn3 hm3 hs3 => ⟨Hc3, s', bu', Dn', Un', es', m', I3, hl3, by omega, by omega, fun _ => hn3⟩
    · rintro Hc' σ' H' ⟨s, bu, Dn, Un, es, m, I, hl, hm, hs, hn⟩
      rw [rangeD_len] at hn
      have hn := hn (by omega)
      obtain ⟨z0, z1, z2, z3, z4, z5, z6, z7, z8, rfl⟩ := es9 es hl
      cases hn
      refine h_cons (f_ask L hr I fun Hc1 H1 I1 => ?_)
      refine h_cons (f_other L hr I1 fun b2 dx2 bs2 bd2 bu2 Hc3 H3 F3 => ?_)
      refine h_cons (f_loop L hr F3 fun bu3 s2 e5 Hc5 σ5 H5 F5 hc => ?_)
      exact h_one (f_ret L hr F5 hc fun H6 => q H6)
end
end Tr
set_option Elab.async false
set_option linter.all false
set_option maxRecDepth 100000
set_option maxHeartbeats 1000000
set_option autoImplicit false
/-! HeadB: what the head says, put to the walk -/
namespace Tr.Hd
open PySem PySem.Spec PyProof.Rows L2 DL

theorem bkB_ok {K : PySem.W.Frag} {C : Addr} (h : bkB K C = true) : BK K C := by
  obtain ⟨h1, h⟩ := He.ba h
  obtain ⟨h2, h⟩ := He.ba h
  obtain ⟨h3, h⟩ := He.ba h
  obtain ⟨h4, h⟩ := He.ba h
  obtain ⟨h5, h⟩ := He.ba h
  obtain ⟨h6, h⟩ := He.ba h
  obtain ⟨h7, h⟩ := He.ba h
  obtain ⟨h8, h9⟩ := He.ba h
  exact ⟨He.eqO_ok h1, He.eqO_ok h2, He.eqO_ok h3, of_decide_eq_true h4, of_decide_eq_true h5, of_decide_eq_true h6, of_decide_eq_true h7, of_decide_eq_true h8, of_decide_eq_true h9⟩
theorem exB_ok {K : PySem.W.Frag} {D : Addr} (h : exB K D = true) : ExcC K D := by
  obtain ⟨h1, h⟩ := He.ba h
  obtain ⟨h2, h⟩ := He.ba h
  obtain ⟨h3, h⟩ := He.ba h
  obtain ⟨h4, h⟩ := He.ba h
  obtain ⟨h5, h⟩ := He.ba h
  obtain ⟨h6, h⟩ := He.ba h
  obtain ⟨h7, h8⟩ := He.ba h
  exact ⟨He.eqO_ok h1, He.eqO_ok h2, of_decide_eq_true h3, h4, He.eqO_ok h5, He.eqO_ok h6, of_decide_eq_true h7, of_decide_eq_true h8⟩
theorem nmB_ok {K : PySem.W.Frag} {D : Addr} {j : Nat} : ∀ {l : List Str} {k : Nat}, nmB K D j k l = true → ∀ i x, l[i]? = some x → PySem.W.kitOne K (.ref D) (.ref (He.ga K x)) = some (decide (k + i = j))
  | [], _, _, i, x, e => by simp at e
  | y :: r, k, h, i, x, e => by
    obtain ⟨h1, h2⟩ := He.ba (show (decide (PySem.W.kitOne K (.ref D) (.ref (He.ga K y)) = some (decide (k = j))) && nmB K D j (k + 1) r) = true from h)
    cases i with
    | zero =>
      cases e
      exact of_decide_eq_true h1
    | succ i =>
      have := nmB_ok h2 i x e
      rw [this]
      congr 2
      rw [Nat.add_assoc, Nat.add_comm 1 i]
theorem xB_ok {K : PySem.W.Frag} {mg : Str → Option Value} {D : Addr} {j : Nat} (h : xB K D j = true) (g : ∀ x ∈ nmAll, mg x = some (.ref (He.ga K x))) : NmK K mg D j := by
  obtain ⟨h1, h⟩ := He.ba h
  obtain ⟨h2, h3⟩ := He.ba h
  refine ⟨exB_ok h1, of_decide_eq_true h2, fun i x e => ⟨_, g x (List.mem_of_getElem? e), ?_⟩⟩
  have := nmB_ok h3 i x e
  rw [this, Nat.zero_add]

section
variable {K : PySem.W.Frag} {h : Heap} {mg : Str → Option Value}
theorem has_of {x : Str} {st : Stmt} (X : K.In h) (G : h.Ns mainGlobals mg) (c : He.SaysD fa fn K) (i : Nat) (hd : fn[i]? = some ⟨(x, none), x, x, defArgs st, defBody st, defScope st, [], []⟩) (j : Nat) (hj : fa[j]? = some (.glo x)) : Has K mg x st := by
  obtain ⟨fd, F⟩ := c.def_ i hd
  exact ⟨_, fd, F, He.glo_ok X G (c.fact j hj)⟩
theorem hasm_of {m qual : Str} {st : Stmt} (c : He.SaysD fa fn K) (i : Nat) (hd : fn[i]? = some ⟨("Bench", some m), m, qual, defArgs st, defBody st, defScope st, [], []⟩) (j : Nat) (hj : fa[j]? = some (.meth "Bench" m)) : HasM K (He.ga K "Bench") m qual st := by
  obtain ⟨fd, F⟩ := c.def_ i hd
  exact ⟨_, fd, F, He.meth_ok (c.fact j hj)⟩
theorem xc_of {x : Str} (X : K.In h) (G : h.Ns mainGlobals mg) (c : He.SaysD fa fn K) (i : Nat) (hi : fa[i]? = some (.glo x)) (j : Nat) (hj : fa[j]? = some (.exc x)) : XC K mg x (He.ga K x) := by
  obtain ⟨h1, h2, h3, h4⟩ := He.exc_ok (c.fact j hj)
  exact ⟨He.glo_ok X G (c.fact i hi), h1, h2, h3, h4⟩
end
section
variable {K : PySem.W.Frag} {h : Heap} {mg : Str → Option Value} (P : Program) (w : World) (base : Heap)
theorem lawH (X : K.In h) (G : h.Ns mainGlobals mg) (c : He.SaysD fa fn K) (x : xok K = true) : LawH P w K mg base (He.ga K "Bench") := by
  have B : Blt mg := ⟨He.free_ok X G (c.fact 86 rfl), He.free_ok X G (c.fact 87 rfl), He.free_ok X G (c.fact 88 rfl), He.free_ok X G (c.fact 89 rfl), He.free_ok X G (c.fact 90 rfl), He.free_ok X G (c.fact 93 rfl), He.free_ok X G (c.fact 91 rfl), He.free_ok X G (c.fact 92 rfl), He.free_ok X G (c.fact 94 rfl), He.free_ok X G (c.fact 95 rfl), He.free_ok X G (c.fact 96 rfl), He.free_ok X G (c.fact 97 rfl), He.free_ok X G (c.fact 98 rfl), He.free_ok X G (c.fact 99 rfl), He.free_ok X G (c.fact 100 rfl), He.free_ok X G (c.fact 101 rfl), He.free_ok X G (c.fact 102 rfl), He.str_ok X G (c.fact 126 rfl), He.str_ok X G (c.fact 127 rfl)⟩
  have C1 : BC K mg (He.ga K "Bench") := ⟨He.glo_ok X G (c.fact 85 rfl), He.cls_ok (c.fact 106 rfl), He.noat_ok (c.fact 117 rfl), He.noat_ok (c.fact 118 rfl), He.noat_ok (c.fact 119 rfl), He.noat_ok (c.fact 120 rfl)⟩
  obtain ⟨xb, x⟩ := He.ba x
  obtain ⟨xn, xu⟩ := He.ba x
  have kk : BK K (He.ga K "Bench") := bkB_ok xb
  have gn : ∀ x ∈ Tr.nmAll, mg x = some (.ref (He.ga K x)) := by
    intro x hx
    have hx2 : ∃ j : Nat, fa[j]? = some (He.Fa.glo x) := by
      simp only [Tr.nmAll, List.mem_cons, List.not_mem_nil, or_false] at hx
      rcases hx with rfl | rfl | rfl | rfl | rfl | rfl | rfl | rfl | rfl | rfl | rfl | rfl | rfl | rfl | rfl | rfl | rfl | rfl | rfl | rfl | rfl | rfl | rfl | rfl
      · exact ⟨61, rfl⟩
      · exact ⟨62, rfl⟩
      · exact ⟨63, rfl⟩
      · exact ⟨64, rfl⟩
      · exact ⟨65, rfl⟩
      · exact ⟨66, rfl⟩
      · exact ⟨67, rfl⟩
      · exact ⟨68, rfl⟩
      · exact ⟨69, rfl⟩
      · exact ⟨70, rfl⟩
      · exact ⟨71, rfl⟩
      · exact ⟨72, rfl⟩
      · exact ⟨73, rfl⟩
      · exact ⟨74, rfl⟩
      · exact ⟨75, rfl⟩
      · exact ⟨76, rfl⟩
      · exact ⟨77, rfl⟩
      · exact ⟨78, rfl⟩
      · exact ⟨79, rfl⟩
      · exact ⟨80, rfl⟩
      · exact ⟨81, rfl⟩
      · exact ⟨82, rfl⟩
      · exact ⟨83, rfl⟩
      · exact ⟨84, rfl⟩
    obtain ⟨j, hj⟩ := hx2
    exact He.glo_ok X G (c.fact j hj)
  have EX : EXC K mg (He.ga K "TraitError") (He.ga K "InvalidNumber") (He.ga K "NothingToUndo") := ⟨He.glo_ok X G (c.fact 60 rfl), xB_ok xn gn, xB_ok xu gn, He.exm_ok (c.fact 124 rfl), He.exm_ok (c.fact 125 rfl)⟩
  have XN := xc_of X G c 66 rfl 104 rfl
  have XU := xc_of X G c 84 rfl 105 rfl
  have between := ok_is_between (P := P) (w := w) (K := K) (base := base) B (has_of (x := "is_between") (st := Tr.top 29) X G c 0 rfl 0 rfl)
  have small := ok_are_small (P := P) (w := w) (K := K) (base := base) B (has_of (x := "are_small") (st := Tr.top 30) X G c 1 rfl 1 rfl)
  have ctor := ok_is_constructor B small between (has_of (x := "is_constructor") (st := Tr.top 31) X G c 2 rfl 2 rfl)
  have traits := ok_are_traits B small (has_of (x := "are_traits") (st := Tr.top 32) X G c 3 rfl 3 rfl)
  have isworld := ok_is_world B ctor traits (has_of (x := "is_world") (st := Tr.top 33) X G c 4 rfl 4 rfl)
  have chkworld := ok_check_world B isworld (has_of (x := "check_world") (st := Tr.top 34) X G c 5 rfl 5 rfl)
  have tnames := ok_trait_names (P := P) (w := w) (K := K) (base := base) B (has_of (x := "trait_names") (st := Tr.top 35) X G c 6 rfl 6 rfl)
  have formof := ok_form_of (P := P) (w := w) (K := K) (base := base) B (has_of (x := "form_of") (st := Tr.top 36) X G c 7 rfl 7 rfl)
  have allbelow := ok_all_below B tnames (has_of (x := "all_below") (st := Tr.top 37) X G c 8 rfl 8 rfl)
  have sortwith := ok_is_sort_with (P := P) (w := w) (K := K) (base := base) B (has_of (x := "is_sort_with") (st := Tr.top 38) X G c 9 rfl 9 rfl)
  have sizein := ok_size_in (P := P) (w := w) (K := K) (base := base) B (has_of (x := "size_in") (st := Tr.top 39) X G c 10 rfl 10 rfl)
  have chksort := ok_check_sort B 3 (sortwith 3) (sizein 3) (has_of (x := "check_sort") (st := Tr.top 40) X G c 11 rfl 11 rfl)
  have chktrait := ok_check_trait B tnames (has_of (x := "check_trait") (st := Tr.top 41) X G c 12 rfl 12 rfl)
  have reck := ok_reckoned (P := P) (w := w) (K := K) (base := base) B (has_of (x := "reckoned") (st := Tr.top 42) X G c 13 rfl 13 rfl)
  have isreck := ok_is_reckoning B between (has_of (x := "is_reckoning") (st := Tr.top 43) X G c 14 rfl 14 rfl)
  have isshort := ok_is_short B (isreck 15) (reck 15) (has_of (x := "is_short") (st := Tr.top 44) X G c 15 rfl 15 rfl)
  have isbody := ok_is_body B isshort formof (has_of (x := "is_body") (st := Tr.top 45) X G c 16 rfl 16 rfl)
  have areasks := ok_are_asks B between tnames (has_of (x := "are_asks") (st := Tr.top 46) X G c 17 rfl 17 rfl)
  have known := ok_is_known_instance B areasks isbody tnames (has_of (x := "is_known_instance") (st := Tr.top 47) X G c 18 rfl 18 rfl)
  have chkinst := ok_check_instance B known (has_of (x := "check_instance") (st := Tr.top 48) X G c 19 rfl 19 rfl)
  have areinst := ok_are_instances B known (has_of (x := "are_instances") (st := Tr.top 49) X G c 20 rfl 20 rfl)
  have chkset := ok_check_set B areinst chkworld (has_of (x := "check_set") (st := Tr.top 50) X G c 21 rfl 21 rfl)
  have chknum := ok_check_number B XN between (has_of (x := "check_number") (st := Tr.top 51) X G c 22 rfl 22 rfl)
  have doesfit := ok_does_fit (P := P) (w := w) (K := K) (base := base) B (has_of (x := "does_fit") (st := Tr.top 52) X G c 23 rfl 23 rfl)
  have rankof := ok_rank_of B 109 (sizein 109) (has_of (x := "rank_of") (st := Tr.top 53) X G c 24 rfl 24 rfl)
  have fitsroots := ok_fits_roots (P := P) (w := w) (K := K) (base := base) B (has_of (x := "fits_roots") (st := Tr.top 55) X G c 25 rfl 25 rfl)
  have codeof := ok_code_of B fitsroots (has_of (x := "code_of") (st := Tr.top 58) X G c 28 rfl 28 rfl)
  have stafter := ok_state_after B codeof tnames (has_of (x := "state_after") (st := Tr.top 59) X G c 29 rfl 29 rfl)
  have rowsof := ok_rows_of (P := P) (w := w) (K := K) (base := base) B (has_of (x := "rows_of") (st := Tr.top 60) X G c 30 rfl 30 rfl)
  have allst := ok_all_states B rankof stafter rowsof (has_of (x := "all_states") (st := Tr.top 61) X G c 31 rfl 31 rfl)
  have firstask := ok_first_ask B (sizein 108) (has_of (x := "first_ask") (st := Tr.top 62) X G c 32 rfl 32 rfl)
  have fitting := ok_fitting B doesfit (has_of (x := "fitting") (st := Tr.top 64) X G c 33 rfl 33 rfl)
  have stands := ok_stands B fitting (has_of (x := "stands") (st := Tr.top 65) X G c 34 rfl 34 rfl)
  have planof := ok_plan_of (P := P) (w := w) (K := K) (base := base) B (has_of (x := "plan_of") (st := Tr.top 67) X G c 35 rfl 35 rfl)
  have fdouble := ok_found_double B allst planof firstask tnames (has_of (x := "found_double") (st := Tr.top 69) X G c 36 rfl 36 rfl)
  have isclear := ok_is_clear B chkset fdouble (has_of (x := "is_clear") (st := Tr.top 70) X G c 37 rfl 37 rfl)
  have cover := ok_does_cover B allbelow (has_of (x := "does_cover") (st := Tr.top 72) X G c 38 rfl 38 rfl)
  have part := ok_part_follows B cover (has_of (x := "part_follows") (st := Tr.top 76) X G c 41 rfl 41 rfl)
  have head := ok_head_follows B part (has_of (x := "head_follows") (st := Tr.top 75) X G c 40 rfl 40 rfl)
  have basks := ok_body_asks (P := P) (w := w) (K := K) (base := base) B (has_of (x := "body_asks") (st := Tr.top 74) X G c 39 rfl 39 rfl)
  have ffaults := ok_found_faults B allbelow head tnames (basks 16) part (has_of (x := "found_faults") (st := Tr.top 77) X G c 42 rfl 42 rfl)
  have faults := ok_faults B chkset ffaults (has_of (x := "faults") (st := Tr.top 78) X G c 43 rfl 43 rfl)
  have town := ok__law_town (P := P) (w := w) (K := K) (base := base) B (has_of (x := "_law_town") (st := Tr.top 82) X G c 44 rfl 44 rfl)
  have draw := ok__law_draw (P := P) (w := w) (K := K) (base := base) B (has_of (x := "_law_draw") (st := Tr.top 83) X G c 45 rfl 45 rfl)
  have pick := ok__law_pick B draw (has_of (x := "_law_pick") (st := Tr.top 84) X G c 46 rfl 46 rfl)
  have pickV := okV__law_pick B draw (has_of (x := "_law_pick") (st := Tr.top 84) X G c 46 rfl 46 rfl)
  have lname := ok__law_name (P := P) (w := w) (K := K) (base := base) B (He.free_ok X G (c.fact 103 rfl)) (has_of (x := "_law_name") (st := Tr.top 86) X G c 48 rfl 48 rfl)
  have raises := ok__law_raises (P := P) (w := w) (K := K) (base := base) B (has_of (x := "_law_raises") (st := Tr.top 87) X G c 49 rfl 49 rfl)
  have world := ok__law_world B draw pickV (has_of (x := "_law_world") (st := Tr.top 88) X G c 50 rfl 50 rfl)
  have ltraits := ok__law_traits (P := P) (w := w) (K := K) (base := base) B (has_of (x := "_law_traits") (st := Tr.top 89) X G c 51 rfl 51 rfl)
  have lbody := fun v t fm q => ok__law_body B v t fm q pick draw (has_of (x := "_law_body") (st := Tr.top 90) X G c 52 rfl 52 rfl)
  have linst := fun v => ok__law_instance B v pick draw ltraits (lbody v) (has_of (x := "_law_instance") (st := Tr.top 91) X G c 53 rfl 53 rfl)
  have lsort := fun v => ok__law_sort B pick (has_of (x := "_law_sort") (st := Tr.top 92) X G c 54 rfl 54 rfl) v 2
  have lfits := ok__law_fits (P := P) (w := w) (K := K) (base := base) B (has_of (x := "_law_fits") (st := Tr.top 93) X G c 55 rfl 55 rfl)
  have lholds := ok__law_holds B lfits (has_of (x := "_law_holds") (st := Tr.top 94) X G c 56 rfl 56 rfl) 3
  have bp := ok_Bp (P := P) (w := w) (K := K) (base := base) C1 (hasm_of (m := "perform") (qual := "Bench.perform") (st := bM 4) c 64 rfl 108 rfl)
  have ba := ok_Ba B C1 chkinst bp (hasm_of (m := "add") (qual := "Bench.add") (st := bM 5) c 65 rfl 109 rfl)
  have bd := ok_Bd B C1 chknum bp (hasm_of (m := "drop") (qual := "Bench.drop") (st := bM 6) c 66 rfl 110 rfl)
  have bu := ok_Bu (P := P) (w := w) (K := K) (base := base) C1 XU (hasm_of (m := "undo") (qual := "Bench.undo") (st := bM 11) c 71 rfl 115 rfl)
  have br := ok_Br (P := P) (w := w) (K := K) (base := base) C1 XU (hasm_of (m := "redo") (qual := "Bench.redo") (st := bM 12) c 72 rfl 116 rfl)
  have lcall := ok__law_call C1 bd bu br (has_of (x := "_law_call") (st := Tr.top 95) X G c 57 rfl 57 rfl)
  have lout := ok__law_outcome EX lcall lname (has_of (x := "_law_outcome") (st := Tr.top 85) X G c 47 rfl 47 rfl)
  have lback := ok__law_back raises (has_of (x := "_law_back") (st := Tr.top 96) X G c 58 rfl 58 rfl)
  have M0 := He.mkr_ok (c.fact 107 rfl)
  have HI : HasM K (He.ga K "Bench") "__init__" "Bench.__init__" (bM 0) := by
    obtain ⟨fd, F⟩ := c.def_ 60 (d := ⟨("Bench", some "__init__"), "__init__", "Bench.__init__", defArgs (bM 0), defBody (bM 0), defScope (bM 0), [], []⟩) rfl
    exact ⟨_, fd, F, M0.init, M0.fn, F.kp⟩
  have b0 := ok_B0 C1 chkworld HI
  have mk0 : ∃ f fd, Mk K (He.ga K "Bench") f ∧ Binds K fd ["self", "world"] [] ∧ FnOk P w K mg base CX0 (4 + 1) f fd ["self", "world"] (spInit K (He.ga K "Bench")) := by
    obtain ⟨f, fd, hm, _, hb, ok⟩ := b0.ex
    exact ⟨f, fd, ⟨M0.makes, hm.at_, hm.fn, M0.kp⟩, hb, ok⟩
  exact ⟨B, C1, kk, town, world, draw, lout, lback, raises, linst, pick, ltraits, lsort, lholds, isclear, faults, mk0, ok_Bi C1 (hasm_of (m := "instances") (qual := "Bench.instances") (st := bM 7) c 67 rfl 111 rfl), ok_Bl B C1 (hasm_of (m := "__len__") (qual := "Bench.__len__") (st := bM 1) c 61 rfl 121 rfl), ok_Bs B C1 (hasm_of (m := "__str__") (qual := "Bench.__str__") (st := bM 3) c 63 rfl 123 rfl), ok_Be B C1 kk (hasm_of (m := "__eq__") (qual := "Bench.__eq__") (st := bM 2) c 62 rfl 122 rfl), ok_Bh C1 chktrait chksort (stands 3) (hasm_of (m := "holds") (qual := "Bench.holds") (st := bM 8) c 68 rfl 112 rfl), ba, ok_Bc C1 fdouble (hasm_of (m := "is_clear") (qual := "Bench.is_clear") (st := bM 9) c 69 rfl 113 rfl), ok_Bf B C1 ffaults (hasm_of (m := "faults") (qual := "Bench.faults") (st := bM 10) c 70 rfl 114 rfl)⟩
end
theorem facts {P : Program} {w : World} {K : PySem.W.Frag} {h : Heap} {mg : Str → Option Value} {f : Addr} (X : K.In h) (G : h.Ns mainGlobals mg) (hfa : mg ("law" : Str) = some (.ref f)) (c : He.SaysD fa fn K) (x : xok K = true) :
    ∃ fd : FuncData, (∀ (s : Shared) (v : Value), BindsTo s fd ⟨[v], []⟩ [("_law_script", v)]) ∧ ∀ base : Heap, K.In base → base.Ns mainGlobals mg → FnOk P w K mg base CX0 (120 + 1) f fd ["_law_script"] (spLaw K) := by
  obtain ⟨fd, F⟩ := c.def_ 59 (d := ⟨("law", none), "law", "law", defArgs (Tr.top 97), defBody (Tr.top 97), defScope (Tr.top 97), [], []⟩) rfl
  have e := hfa.symm.trans (He.glo_ok X G (c.fact 59 (f := .glo "law") rfl))
  cases e
  have b := FunD.bindsA (ps := ["_law_script"]) F fun _ _ _ _ _ _ us hl => match us, hl with | [_], _ => rfl
  exact ⟨fd, fun s v => b s [v] rfl, fun base _ _ => ok_law (lawH P w base X G c x) F⟩
end Tr.Hd
open PySem PySem.W PySem.Calls PyProof.Rows
theorem PySem.Challenge.cw_traitsure_k04_whole_benches_holds : PySem.Challenge.rw_traitsure_k04_whole_benches.Holds := by
  w_on; o_law
  refine HandSHeadRun.head_any (r := OpenLaw.row PySem.Challenge.rw_traitsure_k04_whole_benches) (q := view (OpenLaw.row PySem.Challenge.rw_traitsure_k04_whole_benches).prog [97]) (H := Tr.Hd.hk) (ob := Tr.Hd.ob) (M := 8000) (loose := Tr.Hd.names) (d := HandSHeadRun.topDef (OpenLaw.row PySem.Challenge.rw_traitsure_k04_whole_benches).prog 97) (kwd := []) Tr.Hd.ob_eq
    (by kernel_rfl) (fun s => by kernel_rfl) Tr.Hd.run (by kernel_rfl) (by kernel_rfl) (by kernel_rfl) (by rfl) (by first | assumption | decide +kernel) (by decide +kernel) ⟨rfl, rfl, rfl, rfl, rfl, by decide +kernel⟩ ?hw ?hc
  case hw => w_witness2
  case hc =>
    refine L2.walk_ofE (l := PySem.Challenge.rw_traitsure_k04_whole_benches) (n := 63) (k := 121) (x := "_law_script") (CX := L2.CX0) rfl (by decide) (by kernel_rfl) ⟨rfl, by decide, by decide⟩ ?F (fun _ _ _ _ z => z)
    intro w mg fa h Y G hmg0
    obtain ⟨K, KX, c, x⟩ := Y
    have hmg : mg ("law" : PySem.Str) = some (.ref fa) := by
      have e : (HandSHeadRun.topDef (OpenLaw.row PySem.Challenge.rw_traitsure_k04_whole_benches).prog 97).name = ("law" : PySem.Str) := by kernel_rfl
      rw [← e]
      exact hmg0
    obtain ⟨fd, hb, hF⟩ := Tr.Hd.facts (P := (PySem.Challenge.rw_traitsure_k04_whole_benches).prog) (w := w) KX G hmg c x
    exact ⟨K, fd, Tr.spLaw K, KX, hb, fun H a ns hl _ hS => ⟨a, ns, rfl, hS, hl, fun _ => rfl⟩, hF⟩
#print axioms PySem.Challenge.cw_traitsure_k04_whole_benches_holds
