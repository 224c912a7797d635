import PyProof.Rows.All
import HandS.Head0
import HandS.Head1
import HandS.Head2
import HandS.HeadEnd
import HandS.HeadHook1
import HandS.HeadHook2
import HandS.HeadHook3
import HandS.HeadNt
import HandS.ForMost
import HandS.ForExc
import HandS.SlotsOwn
import HandS.Star
import HandS.Walk
import HandS.Defaults
import HandS.ExcInit
import HandS.ExcIs
import HandS.ExcField
import HandS.DictComp
import HandS.DeepEq
import HandS.IsInst
import HandS.Conv
import HandS.NoneIn
import HandS.Zip
import HandS.Wide
import HandS.Deep
import HandS.Flow
import HandS.Iter
import KE.GoesEnum
import KE.DataMinMax
import HandS.Style
import HandS.TupAny
import KE.SortData
import HandS.Strs
import HandS.ReCall
import HandS.Small
import HandS.WordsExc
import PySem.Challenge.RW_boundedlevels_k65_whole_boards_and_what
set_option Elab.async false
set_option linter.all false
set_option maxRecDepth 100000
set_option maxHeartbeats 4000000
namespace K65
open PySem PySem.Spec PyProof.Rows L2 SlX He
def topS (i : Nat) : Stmt := PySem.Challenge.pw_boundedlevels_k65_whole_boards_and_what.main.body.getD i (.Pass ⟨0, 0, 0, 0⟩)
abbrev s_Crossed__init : Stmt := inClass (topS 2) 0
theorem sc_Crossed__init : FnScope (["self", "low", "high"] : List Str) (["self", "low", "high"] : List Str) (defScope s_Crossed__init) := ⟨rfl, rfl, rfl, by decide +kernel, rfl, by decide +kernel, by decide +kernel⟩
abbrev s_NoPlace__init : Stmt := inClass (topS 3) 0
theorem sc_NoPlace__init : FnScope (["self", "place"] : List Str) (["self", "place"] : List Str) (defScope s_NoPlace__init) := ⟨rfl, rfl, rfl, by decide +kernel, rfl, by decide +kernel, by decide +kernel⟩
abbrev s_NothingDone__init : Stmt := inClass (topS 4) 0
theorem sc_NothingDone__init : FnScope (["self"] : List Str) (["self"] : List Str) (defScope s_NothingDone__init) := ⟨rfl, rfl, rfl, by decide +kernel, rfl, by decide +kernel, by decide +kernel⟩
abbrev s_NoShift__init : Stmt := inClass (topS 5) 0
theorem sc_NoShift__init : FnScope (["self"] : List Str) (["self"] : List Str) (defScope s_NoShift__init) := ⟨rfl, rfl, rfl, by decide +kernel, rfl, by decide +kernel, by decide +kernel⟩
abbrev s_Unlike__init : Stmt := inClass (topS 6) 0
theorem sc_Unlike__init : FnScope (["self"] : List Str) (["self"] : List Str) (defScope s_Unlike__init) := ⟨rfl, rfl, rfl, by decide +kernel, rfl, by decide +kernel, by decide +kernel⟩
abbrev s_NoName__init : Stmt := inClass (topS 7) 0
theorem sc_NoName__init : FnScope (["self", "name"] : List Str) (["self", "name"] : List Str) (defScope s_NoName__init) := ⟨rfl, rfl, rfl, by decide +kernel, rfl, by decide +kernel, by decide +kernel⟩
abbrev s_Taken__init : Stmt := inClass (topS 8) 0
theorem sc_Taken__init : FnScope (["self", "name"] : List Str) (["self", "name"] : List Str) (defScope s_Taken__init) := ⟨rfl, rfl, rfl, by decide +kernel, rfl, by decide +kernel, by decide +kernel⟩
abbrev s_Outside__init : Stmt := inClass (topS 9) 0
theorem sc_Outside__init : FnScope (["self", "number"] : List Str) (["self", "number"] : List Str) (defScope s_Outside__init) := ⟨rfl, rfl, rfl, by decide +kernel, rfl, by decide +kernel, by decide +kernel⟩
abbrev s_Needed__init : Stmt := inClass (topS 10) 0
theorem sc_Needed__init : FnScope (["self", "name"] : List Str) (["self", "name"] : List Str) (defScope s_Needed__init) := ⟨rfl, rfl, rfl, by decide +kernel, rfl, by decide +kernel, by decide +kernel⟩
abbrev s_Ring__init : Stmt := inClass (topS 11) 0
theorem sc_Ring__init : FnScope (["self", "name"] : List Str) (["self", "name"] : List Str) (defScope s_Ring__init) := ⟨rfl, rfl, rfl, by decide +kernel, rfl, by decide +kernel, by decide +kernel⟩
abbrev s_NotBehind__init : Stmt := inClass (topS 12) 0
theorem sc_NotBehind__init : FnScope (["self", "other"] : List Str) (["self", "other"] : List Str) (defScope s_NotBehind__init) := ⟨rfl, rfl, rfl, by decide +kernel, rfl, by decide +kernel, by decide +kernel⟩
abbrev s_tupled : Stmt := topS 17
theorem sc_tupled : FnScope (["value", "part"] : List Str) (["value"] : List Str) (defScope s_tupled) := ⟨rfl, rfl, rfl, by decide +kernel, rfl, by decide +kernel, by decide +kernel⟩
abbrev s_behind : Stmt := topS 18
theorem sc_behind : FnScope (["level", "event"] : List Str) (["level", "event"] : List Str) (defScope s_behind) := ⟨rfl, rfl, rfl, by decide +kernel, rfl, by decide +kernel, by decide +kernel⟩
abbrev s_end_of : Stmt := topS 19
theorem sc_end_of : FnScope (["row", "start", "level", "event"] : List Str) (["row", "start"] : List Str) (defScope s_end_of) := ⟨rfl, rfl, rfl, by decide +kernel, rfl, by decide +kernel, by decide +kernel⟩
abbrev s_levels_of : Stmt := topS 22
theorem sc_levels_of : FnScope (["row", "start", "levels", "event"] : List Str) (["row", "start"] : List Str) (defScope s_levels_of) := ⟨rfl, rfl, rfl, by decide +kernel, rfl, by decide +kernel, by decide +kernel⟩
abbrev s_kept : Stmt := topS 23
theorem sc_kept : FnScope (["level", "floor", "cap"] : List Str) (["level", "floor", "cap"] : List Str) (defScope s_kept) := ⟨rfl, rfl, rfl, by decide +kernel, rfl, by decide +kernel, by decide +kernel⟩
abbrev s_Way__init : Stmt := inClass (topS 24) 1
theorem sc_Way__init : FnScope (["self", "shift", "floor", "cap", "is_fixed"] : List Str) (["self", "shift", "floor", "cap"] : List Str) (defScope s_Way__init) := ⟨rfl, rfl, rfl, by decide +kernel, rfl, by decide +kernel, by decide +kernel⟩
abbrev s_Way_shift : Stmt := inClass (topS 24) 2
theorem sc_Way_shift : FnScope (["self"] : List Str) (["self"] : List Str) (defScope s_Way_shift) := ⟨rfl, rfl, rfl, by decide +kernel, rfl, by decide +kernel, by decide +kernel⟩
abbrev s_Way_floor : Stmt := inClass (topS 24) 3
theorem sc_Way_floor : FnScope (["self"] : List Str) (["self"] : List Str) (defScope s_Way_floor) := ⟨rfl, rfl, rfl, by decide +kernel, rfl, by decide +kernel, by decide +kernel⟩
abbrev s_Way_cap : Stmt := inClass (topS 24) 4
theorem sc_Way_cap : FnScope (["self"] : List Str) (["self"] : List Str) (defScope s_Way_cap) := ⟨rfl, rfl, rfl, by decide +kernel, rfl, by decide +kernel, by decide +kernel⟩
abbrev s_Way_text : Stmt := inClass (topS 24) 5
theorem sc_Way_text : FnScope (["self", "parts", "part"] : List Str) (["self"] : List Str) (defScope s_Way_text) := ⟨rfl, rfl, rfl, by decide +kernel, rfl, by decide +kernel, by decide +kernel⟩
abbrev s_Way__call : Stmt := inClass (topS 24) 6
theorem sc_Way__call : FnScope (["self", "start"] : List Str) (["self", "start"] : List Str) (defScope s_Way__call) := ⟨rfl, rfl, rfl, by decide +kernel, rfl, by decide +kernel, by decide +kernel⟩
abbrev s_Way__rshift : Stmt := inClass (topS 24) 7
theorem sc_Way__rshift : FnScope (["self", "other", "more", "low", "high", "floor", "cap"] : List Str) (["self", "other"] : List Str) (defScope s_Way__rshift) := ⟨rfl, rfl, rfl, by decide +kernel, rfl, by decide +kernel, by decide +kernel⟩
abbrev s_Way__mul : Stmt := inClass (topS 24) 8
theorem sc_Way__mul : FnScope (["self", "times", "floor", "cap", "more"] : List Str) (["self", "times"] : List Str) (defScope s_Way__mul) := ⟨rfl, rfl, rfl, by decide +kernel, rfl, by decide +kernel, by decide +kernel⟩
abbrev s_Way__eq : Stmt := inClass (topS 24) 9
theorem sc_Way__eq : FnScope (["self", "other"] : List Str) (["self", "other"] : List Str) (defScope s_Way__eq) := ⟨rfl, rfl, rfl, by decide +kernel, rfl, by decide +kernel, by decide +kernel⟩
abbrev s_way_of : Stmt := topS 25
theorem sc_way_of : FnScope (["row", "found", "word", "number"] : List Str) (["row"] : List Str) (defScope s_way_of) := ⟨rfl, rfl, rfl, by decide +kernel, rfl, by decide +kernel, by decide +kernel⟩
abbrev s_starts_between : Stmt := topS 26
theorem sc_starts_between : FnScope (["way", "low", "high", "is_in", "least", "greatest"] : List Str) (["way", "low", "high"] : List Str) (defScope s_starts_between) := ⟨rfl, rfl, rfl, by decide +kernel, rfl, by decide +kernel, by decide +kernel⟩
abbrev s_is_crossed : Stmt := topS 28
theorem sc_is_crossed : FnScope (["low", "high"] : List Str) (["low", "high"] : List Str) (defScope s_is_crossed) := ⟨rfl, rfl, rfl, by decide +kernel, rfl, by decide +kernel, by decide +kernel⟩
abbrev s_handed_on : Stmt := topS 29
theorem sc_handed_on : FnScope (["rows", "chain", "number", "found", "rest", "name", "level", "low", "high", "heir", "there"] : List Str) (["rows", "chain", "number"] : List Str) (defScope s_handed_on) := ⟨rfl, rfl, rfl, by decide +kernel, rfl, by decide +kernel, by decide +kernel⟩
abbrev s_sum_of : Stmt := topS 30
theorem sc_sum_of : FnScope (["parts"] : List Str) (["parts"] : List Str) (defScope s_sum_of) := ⟨rfl, rfl, rfl, by decide +kernel, rfl, by decide +kernel, by decide +kernel⟩
abbrev s_Board__init : Stmt := inClass (topS 31) 1
theorem sc_Board__init : FnScope (["self"] : List Str) (["self"] : List Str) (defScope s_Board__init) := ⟨rfl, rfl, rfl, by decide +kernel, rfl, by decide +kernel, by decide +kernel⟩
abbrev s_Board_check : Stmt := inClass (topS 31) 2
theorem sc_Board_check : FnScope (["self", "name"] : List Str) (["self", "name"] : List Str) (defScope s_Board_check) := ⟨rfl, rfl, rfl, by decide +kernel, rfl, by decide +kernel, by decide +kernel⟩
abbrev s_Board_keep : Stmt := inClass (topS 31) 3
theorem sc_Board_keep : FnScope (["self", "rows"] : List Str) (["self", "rows"] : List Str) (defScope s_Board_keep) := ⟨rfl, rfl, rfl, by decide +kernel, rfl, by decide +kernel, by decide +kernel⟩
abbrev s_Board_names : Stmt := inClass (topS 31) 4
theorem sc_Board_names : FnScope (["self"] : List Str) (["self"] : List Str) (defScope s_Board_names) := ⟨rfl, rfl, rfl, by decide +kernel, rfl, by decide +kernel, by decide +kernel⟩
abbrev s_Board_deeds : Stmt := inClass (topS 31) 5
theorem sc_Board_deeds : FnScope (["self"] : List Str) (["self"] : List Str) (defScope s_Board_deeds) := ⟨rfl, rfl, rfl, by decide +kernel, rfl, by decide +kernel, by decide +kernel⟩
abbrev s_Board__getitem : Stmt := inClass (topS 31) 6
theorem sc_Board__getitem : FnScope (["self", "name"] : List Str) (["self", "name"] : List Str) (defScope s_Board__getitem) := ⟨rfl, rfl, rfl, by decide +kernel, rfl, by decide +kernel, by decide +kernel⟩
abbrev s_Board_bounds : Stmt := inClass (topS 31) 7
theorem sc_Board_bounds : FnScope (["self", "name"] : List Str) (["self", "name"] : List Str) (defScope s_Board_bounds) := ⟨rfl, rfl, rfl, by decide +kernel, rfl, by decide +kernel, by decide +kernel⟩
abbrev s_Board_heir_of : Stmt := inClass (topS 31) 8
theorem sc_Board_heir_of : FnScope (["self", "name"] : List Str) (["self", "name"] : List Str) (defScope s_Board_heir_of) := ⟨rfl, rfl, rfl, by decide +kernel, rfl, by decide +kernel, by decide +kernel⟩
abbrev s_Board_chain : Stmt := inClass (topS 31) 9
theorem sc_Board_chain : FnScope (["self", "name", "found"] : List Str) (["self", "name"] : List Str) (defScope s_Board_chain) := ⟨rfl, rfl, rfl, by decide +kernel, rfl, by decide +kernel, by decide +kernel⟩
abbrev s_Board__contains : Stmt := inClass (topS 31) 10
theorem sc_Board__contains : FnScope (["self", "name"] : List Str) (["self", "name"] : List Str) (defScope s_Board__contains) := ⟨rfl, rfl, rfl, by decide +kernel, rfl, by decide +kernel, by decide +kernel⟩
abbrev s_Board__len : Stmt := inClass (topS 31) 11
theorem sc_Board__len : FnScope (["self"] : List Str) (["self"] : List Str) (defScope s_Board__len) := ⟨rfl, rfl, rfl, by decide +kernel, rfl, by decide +kernel, by decide +kernel⟩
abbrev s_Board__iter : Stmt := inClass (topS 31) 12
theorem sc_Board__iter : FnScope (["self"] : List Str) (["self"] : List Str) (defScope s_Board__iter) := ⟨rfl, rfl, rfl, by decide +kernel, rfl, by decide +kernel, by decide +kernel⟩
abbrev s_Board__eq : Stmt := inClass (topS 31) 13
theorem sc_Board__eq : FnScope (["self", "other"] : List Str) (["self", "other"] : List Str) (defScope s_Board__eq) := ⟨rfl, rfl, rfl, by decide +kernel, rfl, by decide +kernel, by decide +kernel⟩
abbrev s_Board_admit : Stmt := inClass (topS 31) 14
theorem sc_Board_admit : FnScope (["self", "name", "level", "low", "high", "heir"] : List Str) (["self", "name", "level", "low", "high", "heir"] : List Str) (defScope s_Board_admit) := ⟨rfl, rfl, rfl, by decide +kernel, rfl, by decide +kernel, by decide +kernel⟩
abbrev s_Board_shut : Stmt := inClass (topS 31) 15
theorem sc_Board_shut : FnScope (["self", "name", "other"] : List Str) (["self", "name"] : List Str) (defScope s_Board_shut) := ⟨rfl, rfl, rfl, by decide +kernel, rfl, by decide +kernel, by decide +kernel⟩
abbrev s_Board_give : Stmt := inClass (topS 31) 16
theorem sc_Board_give : FnScope (["self", "name", "number", "rows", "rest"] : List Str) (["self", "name", "number"] : List Str) (defScope s_Board_give) := ⟨rfl, rfl, rfl, by decide +kernel, rfl, by decide +kernel, by decide +kernel⟩
abbrev s_Board_call : Stmt := inClass (topS 31) 17
theorem sc_Board_call : FnScope (["self", "name", "number"] : List Str) (["self", "name", "number"] : List Str) (defScope s_Board_call) := ⟨rfl, rfl, rfl, by decide +kernel, rfl, by decide +kernel, by decide +kernel⟩
abbrev s_Board_rule : Stmt := inClass (topS 31) 18
theorem sc_Board_rule : FnScope (["self", "name", "low", "high", "there", "change"] : List Str) (["self", "name", "low", "high"] : List Str) (defScope s_Board_rule) := ⟨rfl, rfl, rfl, by decide +kernel, rfl, by decide +kernel, by decide +kernel⟩
abbrev s_Board_leave_to : Stmt := inClass (topS 31) 19
theorem sc_Board_leave_to : FnScope (["self", "name", "heir", "level", "low", "high", "former"] : List Str) (["self", "name", "heir"] : List Str) (defScope s_Board_leave_to) := ⟨rfl, rfl, rfl, by decide +kernel, rfl, by decide +kernel, by decide +kernel⟩
abbrev s_Board_back : Stmt := inClass (topS 31) 20
theorem sc_Board_back : FnScope (["self"] : List Str) (["self"] : List Str) (defScope s_Board_back) := ⟨rfl, rfl, rfl, by decide +kernel, rfl, by decide +kernel, by decide +kernel⟩
abbrev s_Board_room : Stmt := inClass (topS 31) 21
theorem sc_Board_room : FnScope (["self", "name", "rows", "one", "level", "low", "high", "heir"] : List Str) (["self", "name"] : List Str) (defScope s_Board_room) := ⟨rfl, rfl, rfl, by decide +kernel, rfl, by decide +kernel, by decide +kernel⟩
abbrev s_Board_stock : Stmt := inClass (topS 31) 22
theorem sc_Board_stock : FnScope (["self", "name", "rows", "one", "level", "low", "high", "heir"] : List Str) (["self", "name"] : List Str) (defScope s_Board_stock) := ⟨rfl, rfl, rfl, by decide +kernel, rfl, by decide +kernel, by decide +kernel⟩
abbrev s_Board_foresee : Stmt := inClass (topS 31) 23
theorem sc_Board_foresee : FnScope (["self", "name", "numbers", "rows", "chain", "number", "one"] : List Str) (["self", "name", "numbers"] : List Str) (defScope s_Board_foresee) := ⟨rfl, rfl, rfl, by decide +kernel, rfl, by decide +kernel, by decide +kernel⟩
abbrev s_Board_ways : Stmt := inClass (topS 31) 24
theorem sc_Board_ways : FnScope (["self", "name", "numbers", "found", "chain", "many", "low", "high", "way", "number", "side", "one"] : List Str) (["self", "name", "numbers"] : List Str) (defScope s_Board_ways) := ⟨rfl, rfl, rfl, by decide +kernel, rfl, by decide +kernel, by decide +kernel⟩
abbrev s_Board_rows_ahead : Stmt := inClass (topS 31) 25
theorem sc_Board_rows_ahead : FnScope (["self", "name", "other", "chain", "one"] : List Str) (["self", "name", "other"] : List Str) (defScope s_Board_rows_ahead) := ⟨rfl, rfl, rfl, by decide +kernel, rfl, by decide +kernel, by decide +kernel⟩
abbrev s_Board_least_gift : Stmt := inClass (topS 31) 26
theorem sc_Board_least_gift : FnScope (["self", "name", "other", "level", "ahead", "there", "high", "mine", "low", "top", "heir"] : List Str) (["self", "name", "other", "level"] : List Str) (defScope s_Board_least_gift) := ⟨rfl, rfl, rfl, by decide +kernel, rfl, by decide +kernel, by decide +kernel⟩
abbrev s_Board_least_call : Stmt := inClass (topS 31) 27
theorem sc_Board_least_call : FnScope (["self", "name", "other", "level", "ahead", "there", "low", "mine", "down", "high", "heir"] : List Str) (["self", "name", "other", "level"] : List Str) (defScope s_Board_least_call) := ⟨rfl, rfl, rfl, by decide +kernel, rfl, by decide +kernel, by decide +kernel⟩
abbrev s_Board_twin : Stmt := inClass (topS 31) 28
theorem sc_Board_twin : FnScope (["self", "found"] : List Str) (["self"] : List Str) (defScope s_Board_twin) := ⟨rfl, rfl, rfl, by decide +kernel, rfl, by decide +kernel, by decide +kernel⟩
abbrev s_parts_at : Stmt := topS 34
theorem sc_parts_at : FnScope (["row", "place", "start", "low", "high"] : List Str) (["row", "place", "start", "low", "high"] : List Str) (defScope s_parts_at) := ⟨rfl, rfl, rfl, by decide +kernel, rfl, by decide +kernel, by decide +kernel⟩
abbrev s_adds_between : Stmt := topS 35
theorem sc_adds_between : FnScope (["row", "place", "start", "low", "high", "level", "goal", "bound"] : List Str) (["row", "place", "start", "low", "high"] : List Str) (defScope s_adds_between) := ⟨rfl, rfl, rfl, by decide +kernel, rfl, by decide +kernel, by decide +kernel⟩
abbrev s_floors_between : Stmt := topS 36
theorem sc_floors_between : FnScope (["row", "place", "start", "low", "high", "level", "goal"] : List Str) (["row", "place", "start", "low", "high"] : List Str) (defScope s_floors_between) := ⟨rfl, rfl, rfl, by decide +kernel, rfl, by decide +kernel, by decide +kernel⟩
abbrev s_caps_between : Stmt := topS 37
theorem sc_caps_between : FnScope (["row", "place", "start", "low", "high", "level", "goal"] : List Str) (["row", "place", "start", "low", "high"] : List Str) (defScope s_caps_between) := ⟨rfl, rfl, rfl, by decide +kernel, rfl, by decide +kernel, by decide +kernel⟩
abbrev s_kept_under : Stmt := topS 38
theorem sc_kept_under : FnScope (["row", "number", "event", "part"] : List Str) (["row", "number"] : List Str) (defScope s_kept_under) := ⟨rfl, rfl, rfl, by decide +kernel, rfl, by decide +kernel, by decide +kernel⟩
abbrev s_least_cap : Stmt := topS 39
theorem sc_least_cap : FnScope (["row", "start", "goal", "low", "high", "middle"] : List Str) (["row", "start", "goal"] : List Str) (defScope s_least_cap) := ⟨rfl, rfl, rfl, by decide +kernel, rfl, by decide +kernel, by decide +kernel⟩
abbrev s_greatest_floor : Stmt := topS 40
theorem sc_greatest_floor : FnScope (["row", "start", "goal", "found", "word", "number"] : List Str) (["row", "start", "goal"] : List Str) (defScope s_greatest_floor) := ⟨rfl, rfl, rfl, by decide +kernel, rfl, by decide +kernel, by decide +kernel⟩
abbrev s_check_many : Stmt := topS 41
theorem sc_check_many : FnScope (["row", "numbers"] : List Str) (["row", "numbers"] : List Str) (defScope s_check_many) := ⟨rfl, rfl, rfl, by decide +kernel, rfl, by decide +kernel, by decide +kernel⟩
abbrev s_with_adds : Stmt := topS 42
theorem sc_with_adds : FnScope (["row", "amounts", "found", "place", "amount"] : List Str) (["row", "amounts"] : List Str) (defScope s_with_adds) := ⟨rfl, rfl, rfl, by decide +kernel, rfl, by decide +kernel, by decide +kernel⟩
abbrev s_price_of : Stmt := topS 43
theorem sc_price_of : FnScope (["amounts", "prices", "amount", "price"] : List Str) (["amounts", "prices"] : List Str) (defScope s_price_of) := ⟨rfl, rfl, rfl, by decide +kernel, rfl, by decide +kernel, by decide +kernel⟩
abbrev s_bought_from : Stmt := topS 44
theorem sc_bought_from : FnScope (["row", "prices", "moment", "level", "goal", "amounts", "best", "have", "added", "place", "word", "number", "lacking"] : List Str) (["row", "prices", "moment", "level", "goal"] : List Str) (defScope s_bought_from) := ⟨rfl, rfl, rfl, by decide +kernel, rfl, by decide +kernel, by decide +kernel⟩
abbrev s_cheapest_amounts : Stmt := topS 45
theorem sc_cheapest_amounts : FnScope (["row", "prices", "start", "goal", "plans", "place", "word", "number", "plan"] : List Str) (["row", "prices", "start", "goal"] : List Str) (defScope s_cheapest_amounts) := ⟨rfl, rfl, rfl, by decide +kernel, rfl, by decide +kernel, by decide +kernel⟩
abbrev s_cheapest : Stmt := topS 46
theorem sc_cheapest : FnScope (["row", "prices", "start", "goal"] : List Str) (["row", "prices", "start", "goal"] : List Str) (defScope s_cheapest) := ⟨rfl, rfl, rfl, by decide +kernel, rfl, by decide +kernel, by decide +kernel⟩
abbrev s_law_box : Stmt := topS 48
theorem sc_law_box : FnScope (["_law_script", "_law_k", "_law_cell"] : List Str) (["_law_script", "_law_k"] : List Str) (defScope s_law_box) := ⟨rfl, rfl, rfl, by decide +kernel, rfl, by decide +kernel, by decide +kernel⟩
abbrev s_law_take : Stmt := topS 49
theorem sc_law_take : FnScope (["_law_box_here", "_law_size_so", "_law_some", "_law_once", "_law_far", "_law_again"] : List Str) (["_law_box_here", "_law_size_so"] : List Str) (defScope s_law_take) := ⟨rfl, rfl, rfl, by decide +kernel, rfl, by decide +kernel, by decide +kernel⟩
abbrev s_law_cells : Stmt := topS 50
theorem sc_law_cells : FnScope (["_law_script", "_law_top_so", "_law_cells_so", "_law_k", "_law_cell", "_law_at_so"] : List Str) (["_law_script", "_law_top_so"] : List Str) (defScope s_law_cells) := ⟨rfl, rfl, rfl, by decide +kernel, rfl, by decide +kernel, by decide +kernel⟩
abbrev s_law_of : Stmt := topS 51
theorem sc_law_of : FnScope (["_law_box_here", "_law_goods_so"] : List Str) (["_law_box_here", "_law_goods_so"] : List Str) (defScope s_law_of) := ⟨rfl, rfl, rfl, by decide +kernel, rfl, by decide +kernel, by decide +kernel⟩
abbrev s_law_pick : Stmt := topS 52
theorem sc_law_pick : FnScope (["_law_box_here", "_law_goods_so", "_law_count_so", "_law_pool_so", "_law_found", "_law_turn"] : List Str) (["_law_box_here", "_law_goods_so", "_law_count_so"] : List Str) (defScope s_law_pick) := ⟨rfl, rfl, rfl, by decide +kernel, rfl, by decide +kernel, by decide +kernel⟩
abbrev s_law_same : Stmt := topS 53
theorem sc_law_same : FnScope (["_law_got", "_law_due", "_law_mine", "_law_its"] : List Str) (["_law_got", "_law_due"] : List Str) (defScope s_law_same) := ⟨rfl, rfl, rfl, by decide +kernel, rfl, by decide +kernel, by decide +kernel⟩
abbrev s_law_event : Stmt := topS 54
theorem sc_law_event : FnScope (["_law_box_here", "_law_wide", "_law_word_so"] : List Str) (["_law_box_here", "_law_wide"] : List Str) (defScope s_law_event) := ⟨rfl, rfl, rfl, by decide +kernel, rfl, by decide +kernel, by decide +kernel⟩
abbrev s_law_after : Stmt := topS 55
theorem sc_law_after : FnScope (["_law_mark_so", "_law_event_so", "_law_word_so", "_law_far"] : List Str) (["_law_mark_so", "_law_event_so"] : List Str) (defScope s_law_after) := ⟨rfl, rfl, rfl, by decide +kernel, rfl, by decide +kernel, by decide +kernel⟩
abbrev s_law_final : Stmt := topS 56
theorem sc_law_final : FnScope (["_law_row_so", "_law_mark_so", "_law_event_so"] : List Str) (["_law_row_so", "_law_mark_so"] : List Str) (defScope s_law_final) := ⟨rfl, rfl, rfl, by decide +kernel, rfl, by decide +kernel, by decide +kernel⟩
abbrev s_law_named : Stmt := topS 57
theorem sc_law_named : FnScope (["_law_caught"] : List Str) (["_law_caught"] : List Str) (defScope s_law_named) := ⟨rfl, rfl, rfl, by decide +kernel, rfl, by decide +kernel, by decide +kernel⟩
abbrev s_law_done : Stmt := topS 58
theorem sc_law_done : FnScope (["_law_board", "_law_deed_so", "_law_caught", "_law_told", "error"] : List Str) (["_law_board", "_law_deed_so"] : List Str) (defScope s_law_done) := ⟨rfl, rfl, rfl, by decide +kernel, rfl, by decide +kernel, by decide +kernel⟩
abbrev s_law_deed : Stmt := topS 59
theorem sc_law_deed : FnScope (["_law_box_here", "_law_tags_so", "_law_way_so", "_law_name_so", "_law_low_so", "_law_high_so", "_law_heir_so", "_law_far"] : List Str) (["_law_box_here", "_law_tags_so"] : List Str) (defScope s_law_deed) := ⟨rfl, rfl, rfl, by decide +kernel, rfl, by decide +kernel, by decide +kernel⟩
abbrev s_law_great_row : Stmt := topS 60
theorem sc_law_great_row : FnScope (["_law_box_here", "_law_most_so", "_law_wide_so", "_law_found", "_law_turn", "_law_word_so", "_law_far", "_law_small_so"] : List Str) (["_law_box_here", "_law_most_so"] : List Str) (defScope s_law_great_row) := ⟨rfl, rfl, rfl, by decide +kernel, rfl, by decide +kernel, by decide +kernel⟩
abbrev s_law_begun : Stmt := topS 61
theorem sc_law_begun : FnScope (["_law_box_here", "_law_tags_so", "_law_own", "_law_found"] : List Str) (["_law_box_here", "_law_tags_so"] : List Str) (defScope s_law_begun) := ⟨rfl, rfl, rfl, by decide +kernel, rfl, by decide +kernel, by decide +kernel⟩
abbrev s_law_put : Stmt := topS 62
theorem sc_law_put : FnScope (["_law_row_so", "_law_k", "_law_word_so", "_law_far", "_law_start_so"] : List Str) (["_law_row_so", "_law_k", "_law_word_so", "_law_far", "_law_start_so"] : List Str) (defScope s_law_put) := ⟨rfl, rfl, rfl, by decide +kernel, rfl, by decide +kernel, by decide +kernel⟩
abbrev s_law_about : Stmt := topS 63
theorem sc_law_about : FnScope (["_law_span_so", "_law_tries", "_law_edge"] : List Str) (["_law_span_so"] : List Str) (defScope s_law_about) := ⟨rfl, rfl, rfl, by decide +kernel, rfl, by decide +kernel, by decide +kernel⟩
abbrev s_law_is_inside : Stmt := topS 64
theorem sc_law_is_inside : FnScope (["_law_span_so", "_law_own"] : List Str) (["_law_span_so", "_law_own"] : List Str) (defScope s_law_is_inside) := ⟨rfl, rfl, rfl, by decide +kernel, rfl, by decide +kernel, by decide +kernel⟩
abbrev s_law_gap_right : Stmt := topS 65
theorem sc_law_gap_right : FnScope (["_law_row_so", "_law_k", "_law_start_so", "_law_low_so", "_law_high_so", "_law_spans_so", "_law_word_so", "_law_span_so", "_law_own", "_law_there"] : List Str) (["_law_row_so", "_law_k", "_law_start_so", "_law_low_so", "_law_high_so"] : List Str) (defScope s_law_gap_right) := ⟨rfl, rfl, rfl, by decide +kernel, rfl, by decide +kernel, by decide +kernel⟩
abbrev s_law_kept_end : Stmt := topS 66
theorem sc_law_kept_end : FnScope (["_law_row_so", "_law_word_so", "_law_far", "_law_start_so", "_law_own"] : List Str) (["_law_row_so", "_law_word_so", "_law_far", "_law_start_so"] : List Str) (defScope s_law_kept_end) := ⟨rfl, rfl, rfl, by decide +kernel, rfl, by decide +kernel, by decide +kernel⟩
abbrev s_law_bounds_right : Stmt := topS 67
theorem sc_law_bounds_right : FnScope (["_law_row_so", "_law_start_so", "_law_goal_so", "_law_last", "_law_far", "_law_ends_so", "_law_k"] : List Str) (["_law_row_so", "_law_start_so", "_law_goal_so"] : List Str) (defScope s_law_bounds_right) := ⟨rfl, rfl, rfl, by decide +kernel, rfl, by decide +kernel, by decide +kernel⟩
abbrev s_law_needs_right : Stmt := topS 68
theorem sc_law_needs_right : FnScope (["_law_box_here", "_law_row_so", "_law_start_so", "_law_goal_so", "_law_k", "_law_far", "_law_prices_so", "_law_some", "_law_told", "_law_due", "_law_ends_so", "_law_turn", "_law_own"] : List Str) (["_law_box_here"] : List Str) (defScope s_law_needs_right) := ⟨rfl, rfl, rfl, by decide +kernel, rfl, by decide +kernel, by decide +kernel⟩
abbrev s_law_free_right : Stmt := topS 69
theorem sc_law_free_right : FnScope (["_law_board", "_law_own", "_law_copy", "_law_far", "_law_told"] : List Str) (["_law_board", "_law_own"] : List Str) (defScope s_law_free_right) := ⟨rfl, rfl, rfl, by decide +kernel, rfl, by decide +kernel, by decide +kernel⟩
abbrev s_law_sums : Stmt := topS 70
theorem sc_law_sums : FnScope (["_law_board", "_law_line_so", "_law_k", "_law_far"] : List Str) (["_law_board", "_law_line_so"] : List Str) (defScope s_law_sums) := ⟨rfl, rfl, rfl, by decide +kernel, rfl, by decide +kernel, by decide +kernel⟩
abbrev s_law_account_right : Stmt := topS 71
theorem sc_law_account_right : FnScope (["_law_box_here", "_law_board", "_law_own", "_law_line_so", "_law_goal_so", "_law_copy", "_law_spot", "_law_far", "_law_told", "_law_numbers_so", "_law_ways_so", "_law_starts_so", "_law_got", "_law_k", "_law_turn"] : List Str) (["_law_box_here", "_law_board", "_law_own"] : List Str) (defScope s_law_account_right) := ⟨rfl, rfl, rfl, by decide +kernel, rfl, by decide +kernel, by decide +kernel⟩
abbrev s_law_by_hand_right : Stmt := topS 72
theorem sc_law_by_hand_right : FnScope (["_law_far", "_law_row_so", "_law_got", "_law_due", "_law_board"] : List Str) ([] : List Str) (defScope s_law_by_hand_right) := ⟨rfl, rfl, rfl, by decide +kernel, rfl, by decide +kernel, by decide +kernel⟩
abbrev s_law_right : Stmt := topS 73
theorem sc_law_right : FnScope (["_law_box_here", "_law_tags_so", "_law_board", "_law_first_so", "_law_turn", "_law_told", "_law_own"] : List Str) (["_law_box_here"] : List Str) (defScope s_law_right) := ⟨rfl, rfl, rfl, by decide +kernel, rfl, by decide +kernel, by decide +kernel⟩
abbrev s_law : Stmt := topS 74
theorem sc_law : FnScope (["_law_script", "_law_cells_so", "_law_k", "_law_box_here", "_law_turn"] : List Str) (["_law_script"] : List Str) (defScope s_law) := ⟨rfl, rfl, rfl, by decide +kernel, rfl, by decide +kernel, by decide +kernel⟩
def exNames : List Str := ["Crossed", "Needed", "NoName", "NothingDone", "Outside", "Ring", "Taken"]
/-- a property at p, its getter at g -/
structure Prop1 (K : PySem.W.Frag) (C : Addr) (f : Str) (p g : Addr) : Prop where
  at_ : PySem.W.findIn K (.ref C) f = some (some (.ref p))
  get : PySem.W.specialIn K (.ref p) "__get__" = some (some (.builtin "property.__get__"))
  tk : PySem.W.takesIn K (.ref p) = some true
  rc : ∃ rest, PySem.W.recIn K p "property" = some (.ref g :: rest)
def pg (K : PySem.W.Frag) (C f : Str) : Addr := match PySem.W.recIn K (ma K (ga K C) f) "property" with
  | some (.ref g :: _) => g
  | _ => 0
structure Txt (K : PySem.W.Frag) (mg : Str → Option Value) : Prop where
  z_abs : mg "abs" = none
  z_all : mg "all" = none
  z_enumerate : mg "enumerate" = none
  z_int : mg "int" = none
  z_isinstance : mg "isinstance" = none
  z_len : mg "len" = none
  z_list : mg "list" = none
  z_max : mg "max" = none
  z_min : mg "min" = none
  z_range : mg "range" = none
  z_sorted : mg "sorted" = none
  z_sum : mg "sum" = none
  z_tuple : mg "tuple" = none
  z_zip : mg "zip" = none
  z_bool : mg "bool" = none
  z_str : mg "str" = none
  z_TypeError : mg "TypeError" = none
  c_ADD : ∃ t, mg "ADD" = some (.str "add" t)
  c_FLOOR : ∃ t, mg "FLOOR" = some (.str "floor" t)
  c_CAP : ∃ t, mg "CAP" = some (.str "cap" t)
  g_LevelError : mg "LevelError" = some (.ref (ga K "LevelError"))
  k_LevelError : PySem.W.keepIn K (.ref (ga K "LevelError")) = true
  g_Crossed : mg "Crossed" = some (.ref (ga K "Crossed"))
  k_Crossed : PySem.W.keepIn K (.ref (ga K "Crossed")) = true
  g_NoPlace : mg "NoPlace" = some (.ref (ga K "NoPlace"))
  k_NoPlace : PySem.W.keepIn K (.ref (ga K "NoPlace")) = true
  g_NothingDone : mg "NothingDone" = some (.ref (ga K "NothingDone"))
  k_NothingDone : PySem.W.keepIn K (.ref (ga K "NothingDone")) = true
  g_NoShift : mg "NoShift" = some (.ref (ga K "NoShift"))
  k_NoShift : PySem.W.keepIn K (.ref (ga K "NoShift")) = true
  g_Unlike : mg "Unlike" = some (.ref (ga K "Unlike"))
  k_Unlike : PySem.W.keepIn K (.ref (ga K "Unlike")) = true
  g_NoName : mg "NoName" = some (.ref (ga K "NoName"))
  k_NoName : PySem.W.keepIn K (.ref (ga K "NoName")) = true
  g_Taken : mg "Taken" = some (.ref (ga K "Taken"))
  k_Taken : PySem.W.keepIn K (.ref (ga K "Taken")) = true
  g_Outside : mg "Outside" = some (.ref (ga K "Outside"))
  k_Outside : PySem.W.keepIn K (.ref (ga K "Outside")) = true
  g_Needed : mg "Needed" = some (.ref (ga K "Needed"))
  k_Needed : PySem.W.keepIn K (.ref (ga K "Needed")) = true
  g_Ring : mg "Ring" = some (.ref (ga K "Ring"))
  k_Ring : PySem.W.keepIn K (.ref (ga K "Ring")) = true
  g_NotBehind : mg "NotBehind" = some (.ref (ga K "NotBehind"))
  k_NotBehind : PySem.W.keepIn K (.ref (ga K "NotBehind")) = true
  g_tupled : mg "tupled" = some (.ref (ga K "tupled"))
  k_tupled : PySem.W.keepIn K (.ref (ga K "tupled")) = true
  g_behind : mg "behind" = some (.ref (ga K "behind"))
  k_behind : PySem.W.keepIn K (.ref (ga K "behind")) = true
  g_end_of : mg "end_of" = some (.ref (ga K "end_of"))
  k_end_of : PySem.W.keepIn K (.ref (ga K "end_of")) = true
  g_levels_of : mg "levels_of" = some (.ref (ga K "levels_of"))
  k_levels_of : PySem.W.keepIn K (.ref (ga K "levels_of")) = true
  g_kept : mg "kept" = some (.ref (ga K "kept"))
  k_kept : PySem.W.keepIn K (.ref (ga K "kept")) = true
  g_Way : mg "Way" = some (.ref (ga K "Way"))
  k_Way : PySem.W.keepIn K (.ref (ga K "Way")) = true
  g_way_of : mg "way_of" = some (.ref (ga K "way_of"))
  k_way_of : PySem.W.keepIn K (.ref (ga K "way_of")) = true
  g_starts_between : mg "starts_between" = some (.ref (ga K "starts_between"))
  k_starts_between : PySem.W.keepIn K (.ref (ga K "starts_between")) = true
  g_is_crossed : mg "is_crossed" = some (.ref (ga K "is_crossed"))
  k_is_crossed : PySem.W.keepIn K (.ref (ga K "is_crossed")) = true
  g_handed_on : mg "handed_on" = some (.ref (ga K "handed_on"))
  k_handed_on : PySem.W.keepIn K (.ref (ga K "handed_on")) = true
  g_sum_of : mg "sum_of" = some (.ref (ga K "sum_of"))
  k_sum_of : PySem.W.keepIn K (.ref (ga K "sum_of")) = true
  g_Board : mg "Board" = some (.ref (ga K "Board"))
  k_Board : PySem.W.keepIn K (.ref (ga K "Board")) = true
  g_MIRRORED : mg "MIRRORED" = some (.ref (ga K "MIRRORED"))
  g_parts_at : mg "parts_at" = some (.ref (ga K "parts_at"))
  k_parts_at : PySem.W.keepIn K (.ref (ga K "parts_at")) = true
  g_adds_between : mg "adds_between" = some (.ref (ga K "adds_between"))
  k_adds_between : PySem.W.keepIn K (.ref (ga K "adds_between")) = true
  g_floors_between : mg "floors_between" = some (.ref (ga K "floors_between"))
  k_floors_between : PySem.W.keepIn K (.ref (ga K "floors_between")) = true
  g_caps_between : mg "caps_between" = some (.ref (ga K "caps_between"))
  k_caps_between : PySem.W.keepIn K (.ref (ga K "caps_between")) = true
  g_kept_under : mg "kept_under" = some (.ref (ga K "kept_under"))
  k_kept_under : PySem.W.keepIn K (.ref (ga K "kept_under")) = true
  g_least_cap : mg "least_cap" = some (.ref (ga K "least_cap"))
  k_least_cap : PySem.W.keepIn K (.ref (ga K "least_cap")) = true
  g_greatest_floor : mg "greatest_floor" = some (.ref (ga K "greatest_floor"))
  k_greatest_floor : PySem.W.keepIn K (.ref (ga K "greatest_floor")) = true
  g_check_many : mg "check_many" = some (.ref (ga K "check_many"))
  k_check_many : PySem.W.keepIn K (.ref (ga K "check_many")) = true
  g_with_adds : mg "with_adds" = some (.ref (ga K "with_adds"))
  k_with_adds : PySem.W.keepIn K (.ref (ga K "with_adds")) = true
  g_price_of : mg "price_of" = some (.ref (ga K "price_of"))
  k_price_of : PySem.W.keepIn K (.ref (ga K "price_of")) = true
  g_bought_from : mg "bought_from" = some (.ref (ga K "bought_from"))
  k_bought_from : PySem.W.keepIn K (.ref (ga K "bought_from")) = true
  g_cheapest_amounts : mg "cheapest_amounts" = some (.ref (ga K "cheapest_amounts"))
  k_cheapest_amounts : PySem.W.keepIn K (.ref (ga K "cheapest_amounts")) = true
  g_cheapest : mg "cheapest" = some (.ref (ga K "cheapest"))
  k_cheapest : PySem.W.keepIn K (.ref (ga K "cheapest")) = true
  g_law_box : mg "_law_box" = some (.ref (ga K "_law_box"))
  k_law_box : PySem.W.keepIn K (.ref (ga K "_law_box")) = true
  g_law_take : mg "_law_take" = some (.ref (ga K "_law_take"))
  k_law_take : PySem.W.keepIn K (.ref (ga K "_law_take")) = true
  g_law_cells : mg "_law_cells" = some (.ref (ga K "_law_cells"))
  k_law_cells : PySem.W.keepIn K (.ref (ga K "_law_cells")) = true
  g_law_of : mg "_law_of" = some (.ref (ga K "_law_of"))
  k_law_of : PySem.W.keepIn K (.ref (ga K "_law_of")) = true
  g_law_pick : mg "_law_pick" = some (.ref (ga K "_law_pick"))
  k_law_pick : PySem.W.keepIn K (.ref (ga K "_law_pick")) = true
  g_law_same : mg "_law_same" = some (.ref (ga K "_law_same"))
  k_law_same : PySem.W.keepIn K (.ref (ga K "_law_same")) = true
  g_law_event : mg "_law_event" = some (.ref (ga K "_law_event"))
  k_law_event : PySem.W.keepIn K (.ref (ga K "_law_event")) = true
  g_law_after : mg "_law_after" = some (.ref (ga K "_law_after"))
  k_law_after : PySem.W.keepIn K (.ref (ga K "_law_after")) = true
  g_law_final : mg "_law_final" = some (.ref (ga K "_law_final"))
  k_law_final : PySem.W.keepIn K (.ref (ga K "_law_final")) = true
  g_law_named : mg "_law_named" = some (.ref (ga K "_law_named"))
  k_law_named : PySem.W.keepIn K (.ref (ga K "_law_named")) = true
  g_law_done : mg "_law_done" = some (.ref (ga K "_law_done"))
  k_law_done : PySem.W.keepIn K (.ref (ga K "_law_done")) = true
  g_law_deed : mg "_law_deed" = some (.ref (ga K "_law_deed"))
  k_law_deed : PySem.W.keepIn K (.ref (ga K "_law_deed")) = true
  g_law_great_row : mg "_law_great_row" = some (.ref (ga K "_law_great_row"))
  k_law_great_row : PySem.W.keepIn K (.ref (ga K "_law_great_row")) = true
  g_law_begun : mg "_law_begun" = some (.ref (ga K "_law_begun"))
  k_law_begun : PySem.W.keepIn K (.ref (ga K "_law_begun")) = true
  g_law_put : mg "_law_put" = some (.ref (ga K "_law_put"))
  k_law_put : PySem.W.keepIn K (.ref (ga K "_law_put")) = true
  g_law_about : mg "_law_about" = some (.ref (ga K "_law_about"))
  k_law_about : PySem.W.keepIn K (.ref (ga K "_law_about")) = true
  g_law_is_inside : mg "_law_is_inside" = some (.ref (ga K "_law_is_inside"))
  k_law_is_inside : PySem.W.keepIn K (.ref (ga K "_law_is_inside")) = true
  g_law_gap_right : mg "_law_gap_right" = some (.ref (ga K "_law_gap_right"))
  k_law_gap_right : PySem.W.keepIn K (.ref (ga K "_law_gap_right")) = true
  g_law_kept_end : mg "_law_kept_end" = some (.ref (ga K "_law_kept_end"))
  k_law_kept_end : PySem.W.keepIn K (.ref (ga K "_law_kept_end")) = true
  g_law_bounds_right : mg "_law_bounds_right" = some (.ref (ga K "_law_bounds_right"))
  k_law_bounds_right : PySem.W.keepIn K (.ref (ga K "_law_bounds_right")) = true
  g_law_needs_right : mg "_law_needs_right" = some (.ref (ga K "_law_needs_right"))
  k_law_needs_right : PySem.W.keepIn K (.ref (ga K "_law_needs_right")) = true
  g_law_free_right : mg "_law_free_right" = some (.ref (ga K "_law_free_right"))
  k_law_free_right : PySem.W.keepIn K (.ref (ga K "_law_free_right")) = true
  g_law_sums : mg "_law_sums" = some (.ref (ga K "_law_sums"))
  k_law_sums : PySem.W.keepIn K (.ref (ga K "_law_sums")) = true
  g_law_account_right : mg "_law_account_right" = some (.ref (ga K "_law_account_right"))
  k_law_account_right : PySem.W.keepIn K (.ref (ga K "_law_account_right")) = true
  g_law_by_hand_right : mg "_law_by_hand_right" = some (.ref (ga K "_law_by_hand_right"))
  k_law_by_hand_right : PySem.W.keepIn K (.ref (ga K "_law_by_hand_right")) = true
  g_law_right : mg "_law_right" = some (.ref (ga K "_law_right"))
  k_law_right : PySem.W.keepIn K (.ref (ga K "_law_right")) = true
  g_law : mg "law" = some (.ref (ga K "law"))
  k_law : PySem.W.keepIn K (.ref (ga K "law")) = true
  f_Crossed__init : ∃ fd, FunD K "__init__" "Crossed.__init__" (defArgs s_Crossed__init) (defBody s_Crossed__init) (defScope s_Crossed__init) [] [] (ma K (ga K "Crossed") "__init__") fd
  f_NoPlace__init : ∃ fd, FunD K "__init__" "NoPlace.__init__" (defArgs s_NoPlace__init) (defBody s_NoPlace__init) (defScope s_NoPlace__init) [] [] (ma K (ga K "NoPlace") "__init__") fd
  f_NothingDone__init : ∃ fd, FunD K "__init__" "NothingDone.__init__" (defArgs s_NothingDone__init) (defBody s_NothingDone__init) (defScope s_NothingDone__init) [] [] (ma K (ga K "NothingDone") "__init__") fd
  f_NoShift__init : ∃ fd, FunD K "__init__" "NoShift.__init__" (defArgs s_NoShift__init) (defBody s_NoShift__init) (defScope s_NoShift__init) [] [] (ma K (ga K "NoShift") "__init__") fd
  f_Unlike__init : ∃ fd, FunD K "__init__" "Unlike.__init__" (defArgs s_Unlike__init) (defBody s_Unlike__init) (defScope s_Unlike__init) [] [] (ma K (ga K "Unlike") "__init__") fd
  f_NoName__init : ∃ fd, FunD K "__init__" "NoName.__init__" (defArgs s_NoName__init) (defBody s_NoName__init) (defScope s_NoName__init) [] [] (ma K (ga K "NoName") "__init__") fd
  f_Taken__init : ∃ fd, FunD K "__init__" "Taken.__init__" (defArgs s_Taken__init) (defBody s_Taken__init) (defScope s_Taken__init) [] [] (ma K (ga K "Taken") "__init__") fd
  f_Outside__init : ∃ fd, FunD K "__init__" "Outside.__init__" (defArgs s_Outside__init) (defBody s_Outside__init) (defScope s_Outside__init) [] [] (ma K (ga K "Outside") "__init__") fd
  f_Needed__init : ∃ fd, FunD K "__init__" "Needed.__init__" (defArgs s_Needed__init) (defBody s_Needed__init) (defScope s_Needed__init) [] [] (ma K (ga K "Needed") "__init__") fd
  f_Ring__init : ∃ fd, FunD K "__init__" "Ring.__init__" (defArgs s_Ring__init) (defBody s_Ring__init) (defScope s_Ring__init) [] [] (ma K (ga K "Ring") "__init__") fd
  f_NotBehind__init : ∃ fd, FunD K "__init__" "NotBehind.__init__" (defArgs s_NotBehind__init) (defBody s_NotBehind__init) (defScope s_NotBehind__init) [] [] (ma K (ga K "NotBehind") "__init__") fd
  f_tupled : ∃ fd, FunD K "tupled" "tupled" (defArgs s_tupled) (defBody s_tupled) (defScope s_tupled) [] [] (ga K "tupled") fd
  f_behind : ∃ fd, FunD K "behind" "behind" (defArgs s_behind) (defBody s_behind) (defScope s_behind) [] [] (ga K "behind") fd
  f_end_of : ∃ fd, FunD K "end_of" "end_of" (defArgs s_end_of) (defBody s_end_of) (defScope s_end_of) [] [] (ga K "end_of") fd
  f_levels_of : ∃ fd, FunD K "levels_of" "levels_of" (defArgs s_levels_of) (defBody s_levels_of) (defScope s_levels_of) [] [] (ga K "levels_of") fd
  f_kept : ∃ fd, FunD K "kept" "kept" (defArgs s_kept) (defBody s_kept) (defScope s_kept) [] [] (ga K "kept") fd
  f_Way__init : ∃ fd, FunD K "__init__" "Way.__init__" (defArgs s_Way__init) (defBody s_Way__init) (defScope s_Way__init) [V.non, V.non] [] (ma K (ga K "Way") "__init__") fd
  f_Way_shift : ∃ fd, FunD K "shift" "Way.shift" (defArgs s_Way_shift) (defBody s_Way_shift) (defScope s_Way_shift) [] [] (pg K "Way" "shift") fd
  f_Way_floor : ∃ fd, FunD K "floor" "Way.floor" (defArgs s_Way_floor) (defBody s_Way_floor) (defScope s_Way_floor) [] [] (pg K "Way" "floor") fd
  f_Way_cap : ∃ fd, FunD K "cap" "Way.cap" (defArgs s_Way_cap) (defBody s_Way_cap) (defScope s_Way_cap) [] [] (pg K "Way" "cap") fd
  f_Way_text : ∃ fd, FunD K "text" "Way.text" (defArgs s_Way_text) (defBody s_Way_text) (defScope s_Way_text) [] [] (pg K "Way" "text") fd
  f_Way__call : ∃ fd, FunD K "__call__" "Way.__call__" (defArgs s_Way__call) (defBody s_Way__call) (defScope s_Way__call) [] [] (ma K (ga K "Way") "__call__") fd
  f_Way__rshift : ∃ fd, FunD K "__rshift__" "Way.__rshift__" (defArgs s_Way__rshift) (defBody s_Way__rshift) (defScope s_Way__rshift) [] [] (ma K (ga K "Way") "__rshift__") fd
  f_Way__mul : ∃ fd, FunD K "__mul__" "Way.__mul__" (defArgs s_Way__mul) (defBody s_Way__mul) (defScope s_Way__mul) [] [] (ma K (ga K "Way") "__mul__") fd
  f_Way__eq : ∃ fd, FunD K "__eq__" "Way.__eq__" (defArgs s_Way__eq) (defBody s_Way__eq) (defScope s_Way__eq) [] [] (ma K (ga K "Way") "__eq__") fd
  f_way_of : ∃ fd, FunD K "way_of" "way_of" (defArgs s_way_of) (defBody s_way_of) (defScope s_way_of) [] [] (ga K "way_of") fd
  f_starts_between : ∃ fd, FunD K "starts_between" "starts_between" (defArgs s_starts_between) (defBody s_starts_between) (defScope s_starts_between) [] [] (ga K "starts_between") fd
  f_is_crossed : ∃ fd, FunD K "is_crossed" "is_crossed" (defArgs s_is_crossed) (defBody s_is_crossed) (defScope s_is_crossed) [] [] (ga K "is_crossed") fd
  f_handed_on : ∃ fd, FunD K "handed_on" "handed_on" (defArgs s_handed_on) (defBody s_handed_on) (defScope s_handed_on) [] [] (ga K "handed_on") fd
  f_sum_of : ∃ fd, FunD K "sum_of" "sum_of" (defArgs s_sum_of) (defBody s_sum_of) (defScope s_sum_of) [] [] (ga K "sum_of") fd
  f_Board__init : ∃ fd, FunD K "__init__" "Board.__init__" (defArgs s_Board__init) (defBody s_Board__init) (defScope s_Board__init) [] [] (ma K (ga K "Board") "__init__") fd
  f_Board_check : ∃ fd, FunD K "check" "Board.check" (defArgs s_Board_check) (defBody s_Board_check) (defScope s_Board_check) [] [] (ma K (ga K "Board") "check") fd
  f_Board_keep : ∃ fd, FunD K "keep" "Board.keep" (defArgs s_Board_keep) (defBody s_Board_keep) (defScope s_Board_keep) [] [] (ma K (ga K "Board") "keep") fd
  f_Board_names : ∃ fd, FunD K "names" "Board.names" (defArgs s_Board_names) (defBody s_Board_names) (defScope s_Board_names) [] [] (pg K "Board" "names") fd
  f_Board_deeds : ∃ fd, FunD K "deeds" "Board.deeds" (defArgs s_Board_deeds) (defBody s_Board_deeds) (defScope s_Board_deeds) [] [] (pg K "Board" "deeds") fd
  f_Board__getitem : ∃ fd, FunD K "__getitem__" "Board.__getitem__" (defArgs s_Board__getitem) (defBody s_Board__getitem) (defScope s_Board__getitem) [] [] (ma K (ga K "Board") "__getitem__") fd
  f_Board_bounds : ∃ fd, FunD K "bounds" "Board.bounds" (defArgs s_Board_bounds) (defBody s_Board_bounds) (defScope s_Board_bounds) [] [] (ma K (ga K "Board") "bounds") fd
  f_Board_heir_of : ∃ fd, FunD K "heir_of" "Board.heir_of" (defArgs s_Board_heir_of) (defBody s_Board_heir_of) (defScope s_Board_heir_of) [] [] (ma K (ga K "Board") "heir_of") fd
  f_Board_chain : ∃ fd, FunD K "chain" "Board.chain" (defArgs s_Board_chain) (defBody s_Board_chain) (defScope s_Board_chain) [] [] (ma K (ga K "Board") "chain") fd
  f_Board__contains : ∃ fd, FunD K "__contains__" "Board.__contains__" (defArgs s_Board__contains) (defBody s_Board__contains) (defScope s_Board__contains) [] [] (ma K (ga K "Board") "__contains__") fd
  f_Board__len : ∃ fd, FunD K "__len__" "Board.__len__" (defArgs s_Board__len) (defBody s_Board__len) (defScope s_Board__len) [] [] (ma K (ga K "Board") "__len__") fd
  f_Board__iter : ∃ fd, FunD K "__iter__" "Board.__iter__" (defArgs s_Board__iter) (defBody s_Board__iter) (defScope s_Board__iter) [] [] (ma K (ga K "Board") "__iter__") fd
  f_Board__eq : ∃ fd, FunD K "__eq__" "Board.__eq__" (defArgs s_Board__eq) (defBody s_Board__eq) (defScope s_Board__eq) [] [] (ma K (ga K "Board") "__eq__") fd
  f_Board_admit : ∃ fd, FunD K "admit" "Board.admit" (defArgs s_Board_admit) (defBody s_Board_admit) (defScope s_Board_admit) [V.non, V.non, V.non] [] (ma K (ga K "Board") "admit") fd
  f_Board_shut : ∃ fd, FunD K "shut" "Board.shut" (defArgs s_Board_shut) (defBody s_Board_shut) (defScope s_Board_shut) [] [] (ma K (ga K "Board") "shut") fd
  f_Board_give : ∃ fd, FunD K "give" "Board.give" (defArgs s_Board_give) (defBody s_Board_give) (defScope s_Board_give) [] [] (ma K (ga K "Board") "give") fd
  f_Board_call : ∃ fd, FunD K "call" "Board.call" (defArgs s_Board_call) (defBody s_Board_call) (defScope s_Board_call) [] [] (ma K (ga K "Board") "call") fd
  f_Board_rule : ∃ fd, FunD K "rule" "Board.rule" (defArgs s_Board_rule) (defBody s_Board_rule) (defScope s_Board_rule) [] [] (ma K (ga K "Board") "rule") fd
  f_Board_leave_to : ∃ fd, FunD K "leave_to" "Board.leave_to" (defArgs s_Board_leave_to) (defBody s_Board_leave_to) (defScope s_Board_leave_to) [] [] (ma K (ga K "Board") "leave_to") fd
  f_Board_back : ∃ fd, FunD K "back" "Board.back" (defArgs s_Board_back) (defBody s_Board_back) (defScope s_Board_back) [] [] (ma K (ga K "Board") "back") fd
  f_Board_room : ∃ fd, FunD K "room" "Board.room" (defArgs s_Board_room) (defBody s_Board_room) (defScope s_Board_room) [] [] (ma K (ga K "Board") "room") fd
  f_Board_stock : ∃ fd, FunD K "stock" "Board.stock" (defArgs s_Board_stock) (defBody s_Board_stock) (defScope s_Board_stock) [] [] (ma K (ga K "Board") "stock") fd
  f_Board_foresee : ∃ fd, FunD K "foresee" "Board.foresee" (defArgs s_Board_foresee) (defBody s_Board_foresee) (defScope s_Board_foresee) [] [] (ma K (ga K "Board") "foresee") fd
  f_Board_ways : ∃ fd, FunD K "ways" "Board.ways" (defArgs s_Board_ways) (defBody s_Board_ways) (defScope s_Board_ways) [] [] (ma K (ga K "Board") "ways") fd
  f_Board_rows_ahead : ∃ fd, FunD K "rows_ahead" "Board.rows_ahead" (defArgs s_Board_rows_ahead) (defBody s_Board_rows_ahead) (defScope s_Board_rows_ahead) [] [] (ma K (ga K "Board") "rows_ahead") fd
  f_Board_least_gift : ∃ fd, FunD K "least_gift" "Board.least_gift" (defArgs s_Board_least_gift) (defBody s_Board_least_gift) (defScope s_Board_least_gift) [] [] (ma K (ga K "Board") "least_gift") fd
  f_Board_least_call : ∃ fd, FunD K "least_call" "Board.least_call" (defArgs s_Board_least_call) (defBody s_Board_least_call) (defScope s_Board_least_call) [] [] (ma K (ga K "Board") "least_call") fd
  f_Board_twin : ∃ fd, FunD K "twin" "Board.twin" (defArgs s_Board_twin) (defBody s_Board_twin) (defScope s_Board_twin) [] [] (ma K (ga K "Board") "twin") fd
  f_parts_at : ∃ fd, FunD K "parts_at" "parts_at" (defArgs s_parts_at) (defBody s_parts_at) (defScope s_parts_at) [] [] (ga K "parts_at") fd
  f_adds_between : ∃ fd, FunD K "adds_between" "adds_between" (defArgs s_adds_between) (defBody s_adds_between) (defScope s_adds_between) [] [] (ga K "adds_between") fd
  f_floors_between : ∃ fd, FunD K "floors_between" "floors_between" (defArgs s_floors_between) (defBody s_floors_between) (defScope s_floors_between) [] [] (ga K "floors_between") fd
  f_caps_between : ∃ fd, FunD K "caps_between" "caps_between" (defArgs s_caps_between) (defBody s_caps_between) (defScope s_caps_between) [] [] (ga K "caps_between") fd
  f_kept_under : ∃ fd, FunD K "kept_under" "kept_under" (defArgs s_kept_under) (defBody s_kept_under) (defScope s_kept_under) [] [] (ga K "kept_under") fd
  f_least_cap : ∃ fd, FunD K "least_cap" "least_cap" (defArgs s_least_cap) (defBody s_least_cap) (defScope s_least_cap) [] [] (ga K "least_cap") fd
  f_greatest_floor : ∃ fd, FunD K "greatest_floor" "greatest_floor" (defArgs s_greatest_floor) (defBody s_greatest_floor) (defScope s_greatest_floor) [] [] (ga K "greatest_floor") fd
  f_check_many : ∃ fd, FunD K "check_many" "check_many" (defArgs s_check_many) (defBody s_check_many) (defScope s_check_many) [] [] (ga K "check_many") fd
  f_with_adds : ∃ fd, FunD K "with_adds" "with_adds" (defArgs s_with_adds) (defBody s_with_adds) (defScope s_with_adds) [] [] (ga K "with_adds") fd
  f_price_of : ∃ fd, FunD K "price_of" "price_of" (defArgs s_price_of) (defBody s_price_of) (defScope s_price_of) [] [] (ga K "price_of") fd
  f_bought_from : ∃ fd, FunD K "bought_from" "bought_from" (defArgs s_bought_from) (defBody s_bought_from) (defScope s_bought_from) [] [] (ga K "bought_from") fd
  f_cheapest_amounts : ∃ fd, FunD K "cheapest_amounts" "cheapest_amounts" (defArgs s_cheapest_amounts) (defBody s_cheapest_amounts) (defScope s_cheapest_amounts) [] [] (ga K "cheapest_amounts") fd
  f_cheapest : ∃ fd, FunD K "cheapest" "cheapest" (defArgs s_cheapest) (defBody s_cheapest) (defScope s_cheapest) [] [] (ga K "cheapest") fd
  f_law_box : ∃ fd, FunD K "_law_box" "_law_box" (defArgs s_law_box) (defBody s_law_box) (defScope s_law_box) [] [] (ga K "_law_box") fd
  f_law_take : ∃ fd, FunD K "_law_take" "_law_take" (defArgs s_law_take) (defBody s_law_take) (defScope s_law_take) [] [] (ga K "_law_take") fd
  f_law_cells : ∃ fd, FunD K "_law_cells" "_law_cells" (defArgs s_law_cells) (defBody s_law_cells) (defScope s_law_cells) [] [] (ga K "_law_cells") fd
  f_law_of : ∃ fd, FunD K "_law_of" "_law_of" (defArgs s_law_of) (defBody s_law_of) (defScope s_law_of) [] [] (ga K "_law_of") fd
  f_law_pick : ∃ fd, FunD K "_law_pick" "_law_pick" (defArgs s_law_pick) (defBody s_law_pick) (defScope s_law_pick) [] [] (ga K "_law_pick") fd
  f_law_same : ∃ fd, FunD K "_law_same" "_law_same" (defArgs s_law_same) (defBody s_law_same) (defScope s_law_same) [] [] (ga K "_law_same") fd
  f_law_event : ∃ fd, FunD K "_law_event" "_law_event" (defArgs s_law_event) (defBody s_law_event) (defScope s_law_event) [] [] (ga K "_law_event") fd
  f_law_after : ∃ fd, FunD K "_law_after" "_law_after" (defArgs s_law_after) (defBody s_law_after) (defScope s_law_after) [] [] (ga K "_law_after") fd
  f_law_final : ∃ fd, FunD K "_law_final" "_law_final" (defArgs s_law_final) (defBody s_law_final) (defScope s_law_final) [] [] (ga K "_law_final") fd
  f_law_named : ∃ fd, FunD K "_law_named" "_law_named" (defArgs s_law_named) (defBody s_law_named) (defScope s_law_named) [] [] (ga K "_law_named") fd
  f_law_done : ∃ fd, FunD K "_law_done" "_law_done" (defArgs s_law_done) (defBody s_law_done) (defScope s_law_done) [] [] (ga K "_law_done") fd
  f_law_deed : ∃ fd, FunD K "_law_deed" "_law_deed" (defArgs s_law_deed) (defBody s_law_deed) (defScope s_law_deed) [] [] (ga K "_law_deed") fd
  f_law_great_row : ∃ fd, FunD K "_law_great_row" "_law_great_row" (defArgs s_law_great_row) (defBody s_law_great_row) (defScope s_law_great_row) [] [] (ga K "_law_great_row") fd
  f_law_begun : ∃ fd, FunD K "_law_begun" "_law_begun" (defArgs s_law_begun) (defBody s_law_begun) (defScope s_law_begun) [] [] (ga K "_law_begun") fd
  f_law_put : ∃ fd, FunD K "_law_put" "_law_put" (defArgs s_law_put) (defBody s_law_put) (defScope s_law_put) [] [] (ga K "_law_put") fd
  f_law_about : ∃ fd, FunD K "_law_about" "_law_about" (defArgs s_law_about) (defBody s_law_about) (defScope s_law_about) [] [] (ga K "_law_about") fd
  f_law_is_inside : ∃ fd, FunD K "_law_is_inside" "_law_is_inside" (defArgs s_law_is_inside) (defBody s_law_is_inside) (defScope s_law_is_inside) [] [] (ga K "_law_is_inside") fd
  f_law_gap_right : ∃ fd, FunD K "_law_gap_right" "_law_gap_right" (defArgs s_law_gap_right) (defBody s_law_gap_right) (defScope s_law_gap_right) [] [] (ga K "_law_gap_right") fd
  f_law_kept_end : ∃ fd, FunD K "_law_kept_end" "_law_kept_end" (defArgs s_law_kept_end) (defBody s_law_kept_end) (defScope s_law_kept_end) [] [] (ga K "_law_kept_end") fd
  f_law_bounds_right : ∃ fd, FunD K "_law_bounds_right" "_law_bounds_right" (defArgs s_law_bounds_right) (defBody s_law_bounds_right) (defScope s_law_bounds_right) [] [] (ga K "_law_bounds_right") fd
  f_law_needs_right : ∃ fd, FunD K "_law_needs_right" "_law_needs_right" (defArgs s_law_needs_right) (defBody s_law_needs_right) (defScope s_law_needs_right) [] [] (ga K "_law_needs_right") fd
  f_law_free_right : ∃ fd, FunD K "_law_free_right" "_law_free_right" (defArgs s_law_free_right) (defBody s_law_free_right) (defScope s_law_free_right) [] [] (ga K "_law_free_right") fd
  f_law_sums : ∃ fd, FunD K "_law_sums" "_law_sums" (defArgs s_law_sums) (defBody s_law_sums) (defScope s_law_sums) [] [] (ga K "_law_sums") fd
  f_law_account_right : ∃ fd, FunD K "_law_account_right" "_law_account_right" (defArgs s_law_account_right) (defBody s_law_account_right) (defScope s_law_account_right) [] [] (ga K "_law_account_right") fd
  f_law_by_hand_right : ∃ fd, FunD K "_law_by_hand_right" "_law_by_hand_right" (defArgs s_law_by_hand_right) (defBody s_law_by_hand_right) (defScope s_law_by_hand_right) [] [] (ga K "_law_by_hand_right") fd
  f_law_right : ∃ fd, FunD K "_law_right" "_law_right" (defArgs s_law_right) (defBody s_law_right) (defScope s_law_right) [] [] (ga K "_law_right") fd
  f_law : ∃ fd, FunD K "law" "law" (defArgs s_law) (defBody s_law) (defScope s_law) [] [] (ga K "law") fd
  cl_Way : SCls K (ga K "Way")
  mk_Way : Mk K (ga K "Way") (ma K (ga K "Way") "__init__")
  cl_Board : SCls K (ga K "Board")
  mk_Board : Mk K (ga K "Board") (ma K (ga K "Board") "__init__")
  sl_own_shift : Slot1 K (ga K "Way") "own_shift" (ma K (ga K "Way") "own_shift") 2
  sl_own_floor : Slot1 K (ga K "Way") "own_floor" (ma K (ga K "Way") "own_floor") 1
  sl_own_cap : Slot1 K (ga K "Way") "own_cap" (ma K (ga K "Way") "own_cap") 0
  sl_own_rows : Slot1 K (ga K "Board") "own_rows" (ma K (ga K "Board") "own_rows") 1
  sl_own_past : Slot1 K (ga K "Board") "own_past" (ma K (ga K "Board") "own_past") 0
  m_Board_check : Meth K (ga K "Board") "check" (ma K (ga K "Board") "check")
  m_Board_keep : Meth K (ga K "Board") "keep" (ma K (ga K "Board") "keep")
  m_Board_bounds : Meth K (ga K "Board") "bounds" (ma K (ga K "Board") "bounds")
  m_Board_heir_of : Meth K (ga K "Board") "heir_of" (ma K (ga K "Board") "heir_of")
  m_Board_chain : Meth K (ga K "Board") "chain" (ma K (ga K "Board") "chain")
  m_Board_admit : Meth K (ga K "Board") "admit" (ma K (ga K "Board") "admit")
  m_Board_shut : Meth K (ga K "Board") "shut" (ma K (ga K "Board") "shut")
  m_Board_give : Meth K (ga K "Board") "give" (ma K (ga K "Board") "give")
  m_Board_call : Meth K (ga K "Board") "call" (ma K (ga K "Board") "call")
  m_Board_rule : Meth K (ga K "Board") "rule" (ma K (ga K "Board") "rule")
  m_Board_leave_to : Meth K (ga K "Board") "leave_to" (ma K (ga K "Board") "leave_to")
  m_Board_back : Meth K (ga K "Board") "back" (ma K (ga K "Board") "back")
  m_Board_room : Meth K (ga K "Board") "room" (ma K (ga K "Board") "room")
  m_Board_stock : Meth K (ga K "Board") "stock" (ma K (ga K "Board") "stock")
  m_Board_foresee : Meth K (ga K "Board") "foresee" (ma K (ga K "Board") "foresee")
  m_Board_ways : Meth K (ga K "Board") "ways" (ma K (ga K "Board") "ways")
  m_Board_rows_ahead : Meth K (ga K "Board") "rows_ahead" (ma K (ga K "Board") "rows_ahead")
  m_Board_least_gift : Meth K (ga K "Board") "least_gift" (ma K (ga K "Board") "least_gift")
  m_Board_least_call : Meth K (ga K "Board") "least_call" (ma K (ga K "Board") "least_call")
  m_Board_twin : Meth K (ga K "Board") "twin" (ma K (ga K "Board") "twin")
  d_Board_getitem : PySem.W.findIn K (.ref (ga K "Board")) "__getitem__" = some (some (.ref (ma K (ga K "Board") "__getitem__")))
  n_Board_getitem : PySem.W.isFn K (.ref (ma K (ga K "Board") "__getitem__")) = true
  i_Board_getitem : PySem.W.fnIn K (ma K (ga K "Board") "__getitem__") = true
  d_Board_contains : PySem.W.findIn K (.ref (ga K "Board")) "__contains__" = some (some (.ref (ma K (ga K "Board") "__contains__")))
  n_Board_contains : PySem.W.isFn K (.ref (ma K (ga K "Board") "__contains__")) = true
  i_Board_contains : PySem.W.fnIn K (ma K (ga K "Board") "__contains__") = true
  d_Board_eq : PySem.W.findIn K (.ref (ga K "Board")) "__eq__" = some (some (.ref (ma K (ga K "Board") "__eq__")))
  n_Board_eq : PySem.W.isFn K (.ref (ma K (ga K "Board") "__eq__")) = true
  i_Board_eq : PySem.W.fnIn K (ma K (ga K "Board") "__eq__") = true
  d_Way_call : PySem.W.findIn K (.ref (ga K "Way")) "__call__" = some (some (.ref (ma K (ga K "Way") "__call__")))
  n_Way_call : PySem.W.isFn K (.ref (ma K (ga K "Way") "__call__")) = true
  i_Way_call : PySem.W.fnIn K (ma K (ga K "Way") "__call__") = true
  d_Way_rshift : PySem.W.findIn K (.ref (ga K "Way")) "__rshift__" = some (some (.ref (ma K (ga K "Way") "__rshift__")))
  n_Way_rshift : PySem.W.isFn K (.ref (ma K (ga K "Way") "__rshift__")) = true
  i_Way_rshift : PySem.W.fnIn K (ma K (ga K "Way") "__rshift__") = true
  sf_Way : PySem.W.selfFirst K (ga K "Way") = true
  p_Way_shift : Prop1 K (ga K "Way") "shift" (ma K (ga K "Way") "shift") (pg K "Way" "shift")
  p_Way_floor : Prop1 K (ga K "Way") "floor" (ma K (ga K "Way") "floor") (pg K "Way" "floor")
  p_Way_cap : Prop1 K (ga K "Way") "cap" (ma K (ga K "Way") "cap") (pg K "Way" "cap")
  p_Board_names : Prop1 K (ga K "Board") "names" (ma K (ga K "Board") "names") (pg K "Board" "names")
  isi_Board : SIsi K (ga K "Board")
  kit_Board : PySem.W.kitOne K (.ref (ga K "Board")) (.ref (ga K "Board")) = some true
  nf_Board : PySem.W.notFirst K (ga K "Board") (.ref (ga K "Board")) = true
  ox_Crossed : OexC K (ga K "Crossed")
  oi_Crossed : PySem.W.findIn K (.ref (ga K "Crossed")) "__init__" = some (some (.ref (ma K (ga K "Crossed") "__init__")))
  ot_Crossed : PySem.W.typeIn K (.ref (ma K (ga K "Crossed") "__init__")) = some (.type "function")
  on_Crossed_low : PySem.W.findIn K (.ref (ga K "Crossed")) "low" = some none
  on_Crossed_high : PySem.W.findIn K (.ref (ga K "Crossed")) "high" = some none
  oe_Crossed : ExcC K (ga K "Crossed")
  of_Crossed : XfC K (ga K "Crossed")
  ox_NoPlace : OexC K (ga K "NoPlace")
  oi_NoPlace : PySem.W.findIn K (.ref (ga K "NoPlace")) "__init__" = some (some (.ref (ma K (ga K "NoPlace") "__init__")))
  ot_NoPlace : PySem.W.typeIn K (.ref (ma K (ga K "NoPlace") "__init__")) = some (.type "function")
  on_NoPlace_place : PySem.W.findIn K (.ref (ga K "NoPlace")) "place" = some none
  oe_NoPlace : ExcC K (ga K "NoPlace")
  of_NoPlace : XfC K (ga K "NoPlace")
  ox_NothingDone : OexC K (ga K "NothingDone")
  oi_NothingDone : PySem.W.findIn K (.ref (ga K "NothingDone")) "__init__" = some (some (.ref (ma K (ga K "NothingDone") "__init__")))
  ot_NothingDone : PySem.W.typeIn K (.ref (ma K (ga K "NothingDone") "__init__")) = some (.type "function")
  on_NothingDone_given : PySem.W.findIn K (.ref (ga K "NothingDone")) "given" = some none
  oe_NothingDone : ExcC K (ga K "NothingDone")
  of_NothingDone : XfC K (ga K "NothingDone")
  ox_NoShift : OexC K (ga K "NoShift")
  oi_NoShift : PySem.W.findIn K (.ref (ga K "NoShift")) "__init__" = some (some (.ref (ma K (ga K "NoShift") "__init__")))
  ot_NoShift : PySem.W.typeIn K (.ref (ma K (ga K "NoShift") "__init__")) = some (.type "function")
  on_NoShift_given : PySem.W.findIn K (.ref (ga K "NoShift")) "given" = some none
  oe_NoShift : ExcC K (ga K "NoShift")
  of_NoShift : XfC K (ga K "NoShift")
  ox_Unlike : OexC K (ga K "Unlike")
  oi_Unlike : PySem.W.findIn K (.ref (ga K "Unlike")) "__init__" = some (some (.ref (ma K (ga K "Unlike") "__init__")))
  ot_Unlike : PySem.W.typeIn K (.ref (ma K (ga K "Unlike") "__init__")) = some (.type "function")
  on_Unlike_given : PySem.W.findIn K (.ref (ga K "Unlike")) "given" = some none
  oe_Unlike : ExcC K (ga K "Unlike")
  of_Unlike : XfC K (ga K "Unlike")
  ox_NoName : OexC K (ga K "NoName")
  oi_NoName : PySem.W.findIn K (.ref (ga K "NoName")) "__init__" = some (some (.ref (ma K (ga K "NoName") "__init__")))
  ot_NoName : PySem.W.typeIn K (.ref (ma K (ga K "NoName") "__init__")) = some (.type "function")
  on_NoName_name : PySem.W.findIn K (.ref (ga K "NoName")) "name" = some none
  oe_NoName : ExcC K (ga K "NoName")
  of_NoName : XfC K (ga K "NoName")
  ox_Taken : OexC K (ga K "Taken")
  oi_Taken : PySem.W.findIn K (.ref (ga K "Taken")) "__init__" = some (some (.ref (ma K (ga K "Taken") "__init__")))
  ot_Taken : PySem.W.typeIn K (.ref (ma K (ga K "Taken") "__init__")) = some (.type "function")
  on_Taken_name : PySem.W.findIn K (.ref (ga K "Taken")) "name" = some none
  oe_Taken : ExcC K (ga K "Taken")
  of_Taken : XfC K (ga K "Taken")
  ox_Outside : OexC K (ga K "Outside")
  oi_Outside : PySem.W.findIn K (.ref (ga K "Outside")) "__init__" = some (some (.ref (ma K (ga K "Outside") "__init__")))
  ot_Outside : PySem.W.typeIn K (.ref (ma K (ga K "Outside") "__init__")) = some (.type "function")
  on_Outside_number : PySem.W.findIn K (.ref (ga K "Outside")) "number" = some none
  oe_Outside : ExcC K (ga K "Outside")
  of_Outside : XfC K (ga K "Outside")
  ox_Needed : OexC K (ga K "Needed")
  oi_Needed : PySem.W.findIn K (.ref (ga K "Needed")) "__init__" = some (some (.ref (ma K (ga K "Needed") "__init__")))
  ot_Needed : PySem.W.typeIn K (.ref (ma K (ga K "Needed") "__init__")) = some (.type "function")
  on_Needed_name : PySem.W.findIn K (.ref (ga K "Needed")) "name" = some none
  oe_Needed : ExcC K (ga K "Needed")
  of_Needed : XfC K (ga K "Needed")
  ox_Ring : OexC K (ga K "Ring")
  oi_Ring : PySem.W.findIn K (.ref (ga K "Ring")) "__init__" = some (some (.ref (ma K (ga K "Ring") "__init__")))
  ot_Ring : PySem.W.typeIn K (.ref (ma K (ga K "Ring") "__init__")) = some (.type "function")
  on_Ring_name : PySem.W.findIn K (.ref (ga K "Ring")) "name" = some none
  oe_Ring : ExcC K (ga K "Ring")
  of_Ring : XfC K (ga K "Ring")
  ox_NotBehind : OexC K (ga K "NotBehind")
  oi_NotBehind : PySem.W.findIn K (.ref (ga K "NotBehind")) "__init__" = some (some (.ref (ma K (ga K "NotBehind") "__init__")))
  ot_NotBehind : PySem.W.typeIn K (.ref (ma K (ga K "NotBehind") "__init__")) = some (.type "function")
  on_NotBehind_other : PySem.W.findIn K (.ref (ga K "NotBehind")) "other" = some none
  oe_NotBehind : ExcC K (ga K "NotBehind")
  of_NotBehind : XfC K (ga K "NotBehind")
  ky : ∀ C ∈ exNames, ∀ D ∈ exNames, PySem.W.kitOne K (.ref (ga K C)) (.ref (ga K D)) = some (decide (C = D))
  xm : ∀ C ∈ exNames, PySem.W.exmAny K (.ref (ga K C)) (exNames.map fun D => Value.ref (ga K D)) = some true
/-! ### promises of the text's own defs -/
structure Pr (P : Program) (w : World) (K : PySem.W.Frag) (mg : Str → Option Value) (base : Heap) (CX : CXT) (k : Nat) (x : Str) (sp : Sp) : Prop where
  hm : mg x = some (.ref (ga K x))
  hk : PySem.W.keepIn K (.ref (ga K x)) = true
  F : FnR P w K mg base CX k (ga K x) sp
theorem Pr.of {P : Program} {w : World} {K : PySem.W.Frag} {mg : Str → Option Value} {base : Heap} {CX : CXT} {k : Nat} {x : Str} {sp : Sp} {fd : FuncData} {ps : List Str} (hm : mg x = some (.ref (ga K x))) (hk : PySem.W.keepIn K (.ref (ga K x)) = true)
    (F : FnOk P w K mg base CX k (ga K x) fd ps sp) (b : Binds K fd ps []) : Pr P w K mg base CX k x sp := ⟨hm, hk, (F.raw b .nil).imp fun vs H Q E h => by rw [List.append_nil]; exact h⟩
section
variable {X : Cx} {CX : CXT} {k : Nat} {x : Str} {sp : Sp} {E : XK} {e : Expr} {es : List Expr} {t : TA} {p pos : Pos}
def tG (sp : Sp) (E : XK) (t : TA) : TE := fun σ H Q => t σ H fun vs H1 => sp vs H1 Q E
theorem pe_g (q : Pr X.prog X.w X.K X.mg X.base CX k x sp) (hr : Room k X.A) (hx : Passes CX X E) (ha : PA X (e :: es) t) (hg : Gl X x := by rfl) (hd : (x == ("__debug__" : Str)) = false := by decide)
    (hs : starEach (e :: es) X.env = (false, eval e X.env) :: starEach es X.env := by rfl) (hpl : (backTo pos (starEach es X.env)).any (·.1) = false := by rfl) : PE X (.Call (.Name x p) (e :: es) [] pos) (tG sp E t) := by
  refine ⟨fun pins s σ H Q I h => ?_⟩
  refine wpAny_Call_Name_kw (ld_glob I hg q.hm ?_ hd)
  refine PySem.W.callWith_K (h₀ := X.base) I.ok.mod.kin q.hk (thn (ha.run pos pins s σ H _ I h) fun us s1 ⟨vs, H1, I1, r1, q1⟩ => ⟨I1.kIn, ?_⟩) hs hpl
  exact wpAny_call (run_fnR q.F hr hx I1 r1 q1)
end
end K65
set_option Elab.async false
set_option linter.all false
set_option maxRecDepth 100000
set_option maxHeartbeats 0
namespace K65
open PySem PySem.Spec PyProof.Rows L2 SlX He
theorem ba2 {a b : Bool} (h : (a && b) = true) : a = true ∧ b = true := Bool.and_eq_true_iff.mp h
def sclsB (K : PySem.W.Frag) (C : Addr) : Bool := PySem.W.plainGet K C Str.empty && (PySem.W.isClsIn K C && (PySem.W.plainOver K C && He.eqO (PySem.W.findIn K (.ref C) "__setattr__") (some (some (.builtin "object.__setattr__")))))
theorem sclsB_ok {K : PySem.W.Frag} {C : Addr} (h : sclsB K C = true) : SCls K C := by
  obtain ⟨h1, h⟩ := ba2 h
  obtain ⟨h2, h⟩ := ba2 h
  obtain ⟨h3, h4⟩ := ba2 h
  exact ⟨h1, h2, h3, He.eqO_ok h4⟩
def slot1B (K : PySem.W.Frag) (C : Addr) (f : Str) (p : Addr) (i : Nat) : Bool := He.eqO (PySem.W.findIn K (.ref C) f) (some (some (.ref p))) && (He.eqO (PySem.W.specialIn K (.ref p) "__get__") (some (some (.builtin "member_descriptor.__get__"))) && (decide (PySem.W.takesIn K (.ref p) = some true) && (decide (PySem.W.typeIn K (.ref p) = some (.type "member_descriptor")) && decide (PySem.W.slotIn K p C = some i))))
theorem slot1B_ok {K : PySem.W.Frag} {C : Addr} {f : Str} {p : Addr} {i : Nat} (h : slot1B K C f p i = true) (lt : i < 1000) : Slot1 K C f p i := by
  obtain ⟨h1, h⟩ := ba2 h
  obtain ⟨h2, h⟩ := ba2 h
  obtain ⟨h3, h⟩ := ba2 h
  obtain ⟨h4, h5⟩ := ba2 h
  exact ⟨He.eqO_ok h1, He.eqO_ok h2, of_decide_eq_true h3, of_decide_eq_true h4, of_decide_eq_true h5, lt⟩
def prop1B (K : PySem.W.Frag) (C f : Str) : Bool := He.eqO (PySem.W.findIn K (.ref (ga K C)) f) (some (some (.ref (ma K (ga K C) f)))) && (He.eqO (PySem.W.specialIn K (.ref (ma K (ga K C) f)) "__get__") (some (some (.builtin "property.__get__"))) && (decide (PySem.W.takesIn K (.ref (ma K (ga K C) f)) = some true) && (match PySem.W.recIn K (ma K (ga K C) f) "property" with
  | some (.ref _ :: _) => true
  | _ => false)))
theorem prop1B_ok {K : PySem.W.Frag} {C f : Str} (h : prop1B K C f = true) : Prop1 K (ga K C) f (ma K (ga K C) f) (pg K C f) := by
  obtain ⟨h1, h⟩ := ba2 h
  obtain ⟨h2, h⟩ := ba2 h
  obtain ⟨h3, h4⟩ := ba2 h
  refine ⟨He.eqO_ok h1, He.eqO_ok h2, of_decide_eq_true h3, ?_⟩
  unfold pg
  split at h4
  · rename_i g r e
    exact ⟨r, by rw [e]⟩
  · cases h4
def isiB (K : PySem.W.Frag) (C : Addr) : Bool := He.eqO (PySem.W.findIn K (.ref C) "__class__") (some (some (.builtin "object.__class__"))) && (He.eqO (PySem.W.specialIn K (.builtin "object.__class__") "__get__") (some (some (.builtin "getset_descriptor.__get__"))) && (decide (PySem.W.takesIn K (.builtin "object.__class__") = some true) && decide (PySem.W.mroIn K C (.type "object") = some true)))
theorem isiB_ok {K : PySem.W.Frag} {C : Addr} (h : isiB K C = true) : SIsi K C := by
  obtain ⟨h1, h⟩ := ba2 h
  obtain ⟨h2, h⟩ := ba2 h
  obtain ⟨h3, h4⟩ := ba2 h
  exact ⟨He.eqO_ok h1, He.eqO_ok h2, of_decide_eq_true h3, of_decide_eq_true h4⟩
def oeB (K : PySem.W.Frag) (C : Addr) : Bool := xfB K C && isiB K C
theorem oeB_ok {K : PySem.W.Frag} {C : Addr} (h : oeB K C = true) : ExcC K C := by
  obtain ⟨h1, h⟩ := ba2 h
  have x := xfB_ok h1
  have y := isiB_ok h
  exact ⟨x.ga, x.gg, x.exC, x.hdC, y.ca, y.cn, y.ct, y.cm⟩
def oexB (K : PySem.W.Frag) (C : Addr) : Bool := (match K.lookup C with
  | some ⟨.type c, _, .cls cd, sl⟩ => decide (c = "type") && (decide (cd.mro.head? = some (.ref C)) && (PySem.HandSPX.refsVE cd.mro.tail && (cd.hasDict && (!cd.hasDel && (decide (sl.size = 6) && decide (sl[4]? = some (some (.builtin "ValueError.__new__"))))))))
  | _ => false) && (He.eqO (PySem.W.findIn K (.ref C) "__setattr__") (some (some (.builtin "object.__setattr__"))) && (decide (PySem.W.subIn K (.ref C) (.type "BaseException") = some true) && (decide (PySem.W.typeIn K (.ref C) = some (.type "type")) && PySem.W.keepIn K (.ref C))))
theorem oexB_ok {K : PySem.W.Frag} {C : Addr} (h : oexB K C = true) : OexC K C := by
  obtain ⟨h0, h⟩ := ba2 h
  obtain ⟨h2, h⟩ := ba2 h
  obtain ⟨h3, h⟩ := ba2 h
  obtain ⟨h4, h5⟩ := ba2 h
  refine ⟨?_, He.eqO_ok h2, of_decide_eq_true h3, of_decide_eq_true h4, h5⟩
  clear h2 h3 h4 h5 h
  split at h0
  · rename_i c od cd sl e
    obtain ⟨nm, bs, mro, ns, qn, hd, sn, sb, ab, col, dl⟩ := cd
    obtain ⟨k1, h0⟩ := ba2 h0
    obtain ⟨k2, h0⟩ := ba2 h0
    obtain ⟨k3, h0⟩ := ba2 h0
    obtain ⟨k4, h0⟩ := ba2 h0
    obtain ⟨k5, h0⟩ := ba2 h0
    obtain ⟨k6, k7⟩ := ba2 h0
    have k1 := of_decide_eq_true k1
    have k2 := of_decide_eq_true k2
    have k6 := of_decide_eq_true k6
    have k7 := of_decide_eq_true k7
    subst k1
    cases mro with
    | nil => cases k2
    | cons m0 m =>
      have k2' : m0 = .ref C := Option.some.inj k2
      subst k2'
      have k4' : hd = true := k4
      subst k4'
      have k5' : dl = false := by
        cases dl with
        | false => rfl
        | true => cases k5
      subst k5'
      obtain ⟨l⟩ := sl
      match l, k6, k7 with
      | [a0, a1, a2, a3, a4, a5], _, k7 =>
        have : a4 = some (.builtin "ValueError.__new__") := Option.some.inj k7
        subst this
        exact ⟨nm, qn, ns, bs, m, sn, sb, ab, col, od, a0, a1, a2, a3, a5, e, k3⟩
  · cases h0
def kyB (K : PySem.W.Frag) : Bool := exNames.all fun C => exNames.all fun D => decide (PySem.W.kitOne K (.ref (ga K C)) (.ref (ga K D)) = some (decide (C = D)))
theorem kyB_ok {K : PySem.W.Frag} (h : kyB K = true) : ∀ C ∈ exNames, ∀ D ∈ exNames, PySem.W.kitOne K (.ref (ga K C)) (.ref (ga K D)) = some (decide (C = D)) := fun C hC D hD => of_decide_eq_true (List.all_eq_true.mp (List.all_eq_true.mp h C hC) D hD)
def xmB (K : PySem.W.Frag) : Bool := exNames.all fun C => decide (PySem.W.exmAny K (.ref (ga K C)) (exNames.map fun D => Value.ref (ga K D)) = some true)
theorem xmB_ok {K : PySem.W.Frag} (h : xmB K = true) : ∀ C ∈ exNames, PySem.W.exmAny K (.ref (ga K C)) (exNames.map fun D => Value.ref (ga K D)) = some true := fun C hC => of_decide_eq_true (List.all_eq_true.mp h C hC)
def mirB (K : PySem.W.Frag) : Bool := [("add", "add"), ("floor", "cap"), ("cap", "floor")].all fun q => match PySem.W.nsIn K (ga K "MIRRORED") q.1 with
  | some (some u) => He.relB (.str q.2) u
  | _ => false

def txL0 (K : PySem.W.Frag) : List Bool := [(He.Fa.free "abs").ok K,
  (He.Fa.free "all").ok K,
  (He.Fa.free "enumerate").ok K,
  (He.Fa.free "int").ok K,
  (He.Fa.free "isinstance").ok K,
  (He.Fa.free "len").ok K,
  (He.Fa.free "list").ok K,
  (He.Fa.free "max").ok K,
  (He.Fa.free "min").ok K,
  (He.Fa.free "range").ok K,
  (He.Fa.free "sorted").ok K,
  (He.Fa.free "sum").ok K]
def txL1 (K : PySem.W.Frag) : List Bool := [(He.Fa.free "tuple").ok K,
  (He.Fa.free "zip").ok K,
  (He.Fa.free "bool").ok K,
  (He.Fa.free "str").ok K,
  (He.Fa.free "TypeError").ok K,
  (He.Fa.str "ADD" "add").ok K,
  (He.Fa.str "FLOOR" "floor").ok K,
  (He.Fa.str "CAP" "cap").ok K,
  (He.Fa.glo "LevelError").ok K,
  PySem.W.keepIn K (.ref (ga K "LevelError")),
  (He.Fa.glo "Crossed").ok K,
  PySem.W.keepIn K (.ref (ga K "Crossed"))]
def txL2 (K : PySem.W.Frag) : List Bool := [(He.Fa.glo "NoPlace").ok K,
  PySem.W.keepIn K (.ref (ga K "NoPlace")),
  (He.Fa.glo "NothingDone").ok K,
  PySem.W.keepIn K (.ref (ga K "NothingDone")),
  (He.Fa.glo "NoShift").ok K,
  PySem.W.keepIn K (.ref (ga K "NoShift")),
  (He.Fa.glo "Unlike").ok K,
  PySem.W.keepIn K (.ref (ga K "Unlike")),
  (He.Fa.glo "NoName").ok K,
  PySem.W.keepIn K (.ref (ga K "NoName")),
  (He.Fa.glo "Taken").ok K,
  PySem.W.keepIn K (.ref (ga K "Taken"))]
def txL3 (K : PySem.W.Frag) : List Bool := [(He.Fa.glo "Outside").ok K,
  PySem.W.keepIn K (.ref (ga K "Outside")),
  (He.Fa.glo "Needed").ok K,
  PySem.W.keepIn K (.ref (ga K "Needed")),
  (He.Fa.glo "Ring").ok K,
  PySem.W.keepIn K (.ref (ga K "Ring")),
  (He.Fa.glo "NotBehind").ok K,
  PySem.W.keepIn K (.ref (ga K "NotBehind")),
  (He.Fa.glo "tupled").ok K,
  PySem.W.keepIn K (.ref (ga K "tupled")),
  (He.Fa.glo "behind").ok K,
  PySem.W.keepIn K (.ref (ga K "behind"))]
def txL4 (K : PySem.W.Frag) : List Bool := [(He.Fa.glo "end_of").ok K,
  PySem.W.keepIn K (.ref (ga K "end_of")),
  (He.Fa.glo "levels_of").ok K,
  PySem.W.keepIn K (.ref (ga K "levels_of")),
  (He.Fa.glo "kept").ok K,
  PySem.W.keepIn K (.ref (ga K "kept")),
  (He.Fa.glo "Way").ok K,
  PySem.W.keepIn K (.ref (ga K "Way")),
  (He.Fa.glo "way_of").ok K,
  PySem.W.keepIn K (.ref (ga K "way_of")),
  (He.Fa.glo "starts_between").ok K,
  PySem.W.keepIn K (.ref (ga K "starts_between"))]
def txL5 (K : PySem.W.Frag) : List Bool := [(He.Fa.glo "is_crossed").ok K,
  PySem.W.keepIn K (.ref (ga K "is_crossed")),
  (He.Fa.glo "handed_on").ok K,
  PySem.W.keepIn K (.ref (ga K "handed_on")),
  (He.Fa.glo "sum_of").ok K,
  PySem.W.keepIn K (.ref (ga K "sum_of")),
  (He.Fa.glo "Board").ok K,
  PySem.W.keepIn K (.ref (ga K "Board")),
  (He.Fa.glo "MIRRORED").ok K,
  (He.Fa.glo "parts_at").ok K,
  PySem.W.keepIn K (.ref (ga K "parts_at")),
  (He.Fa.glo "adds_between").ok K]
def txL6 (K : PySem.W.Frag) : List Bool := [PySem.W.keepIn K (.ref (ga K "adds_between")),
  (He.Fa.glo "floors_between").ok K,
  PySem.W.keepIn K (.ref (ga K "floors_between")),
  (He.Fa.glo "caps_between").ok K,
  PySem.W.keepIn K (.ref (ga K "caps_between")),
  (He.Fa.glo "kept_under").ok K,
  PySem.W.keepIn K (.ref (ga K "kept_under")),
  (He.Fa.glo "least_cap").ok K,
  PySem.W.keepIn K (.ref (ga K "least_cap")),
  (He.Fa.glo "greatest_floor").ok K,
  PySem.W.keepIn K (.ref (ga K "greatest_floor")),
  (He.Fa.glo "check_many").ok K]
def txL7 (K : PySem.W.Frag) : List Bool := [PySem.W.keepIn K (.ref (ga K "check_many")),
  (He.Fa.glo "with_adds").ok K,
  PySem.W.keepIn K (.ref (ga K "with_adds")),
  (He.Fa.glo "price_of").ok K,
  PySem.W.keepIn K (.ref (ga K "price_of")),
  (He.Fa.glo "bought_from").ok K,
  PySem.W.keepIn K (.ref (ga K "bought_from")),
  (He.Fa.glo "cheapest_amounts").ok K,
  PySem.W.keepIn K (.ref (ga K "cheapest_amounts")),
  (He.Fa.glo "cheapest").ok K,
  PySem.W.keepIn K (.ref (ga K "cheapest")),
  (He.Fa.glo "_law_box").ok K]
def txL8 (K : PySem.W.Frag) : List Bool := [PySem.W.keepIn K (.ref (ga K "_law_box")),
  (He.Fa.glo "_law_take").ok K,
  PySem.W.keepIn K (.ref (ga K "_law_take")),
  (He.Fa.glo "_law_cells").ok K,
  PySem.W.keepIn K (.ref (ga K "_law_cells")),
  (He.Fa.glo "_law_of").ok K,
  PySem.W.keepIn K (.ref (ga K "_law_of")),
  (He.Fa.glo "_law_pick").ok K,
  PySem.W.keepIn K (.ref (ga K "_law_pick")),
  (He.Fa.glo "_law_same").ok K,
  PySem.W.keepIn K (.ref (ga K "_law_same")),
  (He.Fa.glo "_law_event").ok K]
def txL9 (K : PySem.W.Frag) : List Bool := [PySem.W.keepIn K (.ref (ga K "_law_event")),
  (He.Fa.glo "_law_after").ok K,
  PySem.W.keepIn K (.ref (ga K "_law_after")),
  (He.Fa.glo "_law_final").ok K,
  PySem.W.keepIn K (.ref (ga K "_law_final")),
  (He.Fa.glo "_law_named").ok K,
  PySem.W.keepIn K (.ref (ga K "_law_named")),
  (He.Fa.glo "_law_done").ok K,
  PySem.W.keepIn K (.ref (ga K "_law_done")),
  (He.Fa.glo "_law_deed").ok K,
  PySem.W.keepIn K (.ref (ga K "_law_deed")),
  (He.Fa.glo "_law_great_row").ok K]
def txL10 (K : PySem.W.Frag) : List Bool := [PySem.W.keepIn K (.ref (ga K "_law_great_row")),
  (He.Fa.glo "_law_begun").ok K,
  PySem.W.keepIn K (.ref (ga K "_law_begun")),
  (He.Fa.glo "_law_put").ok K,
  PySem.W.keepIn K (.ref (ga K "_law_put")),
  (He.Fa.glo "_law_about").ok K,
  PySem.W.keepIn K (.ref (ga K "_law_about")),
  (He.Fa.glo "_law_is_inside").ok K,
  PySem.W.keepIn K (.ref (ga K "_law_is_inside")),
  (He.Fa.glo "_law_gap_right").ok K,
  PySem.W.keepIn K (.ref (ga K "_law_gap_right")),
  (He.Fa.glo "_law_kept_end").ok K]
def txL11 (K : PySem.W.Frag) : List Bool := [PySem.W.keepIn K (.ref (ga K "_law_kept_end")),
  (He.Fa.glo "_law_bounds_right").ok K,
  PySem.W.keepIn K (.ref (ga K "_law_bounds_right")),
  (He.Fa.glo "_law_needs_right").ok K,
  PySem.W.keepIn K (.ref (ga K "_law_needs_right")),
  (He.Fa.glo "_law_free_right").ok K,
  PySem.W.keepIn K (.ref (ga K "_law_free_right")),
  (He.Fa.glo "_law_sums").ok K,
  PySem.W.keepIn K (.ref (ga K "_law_sums")),
  (He.Fa.glo "_law_account_right").ok K,
  PySem.W.keepIn K (.ref (ga K "_law_account_right")),
  (He.Fa.glo "_law_by_hand_right").ok K]
def txL12 (K : PySem.W.Frag) : List Bool := [PySem.W.keepIn K (.ref (ga K "_law_by_hand_right")),
  (He.Fa.glo "_law_right").ok K,
  PySem.W.keepIn K (.ref (ga K "_law_right")),
  (He.Fa.glo "law").ok K,
  PySem.W.keepIn K (.ref (ga K "law")),
  sclsB K (ga K "Way"),
  (He.Fa.mkr "Way").ok K,
  sclsB K (ga K "Board"),
  (He.Fa.mkr "Board").ok K,
  slot1B K (ga K "Way") "own_cap" (ma K (ga K "Way") "own_cap") 0,
  slot1B K (ga K "Way") "own_floor" (ma K (ga K "Way") "own_floor") 1,
  slot1B K (ga K "Way") "own_shift" (ma K (ga K "Way") "own_shift") 2]
def txL13 (K : PySem.W.Frag) : List Bool := [slot1B K (ga K "Board") "own_past" (ma K (ga K "Board") "own_past") 0,
  slot1B K (ga K "Board") "own_rows" (ma K (ga K "Board") "own_rows") 1,
  (He.Fa.meth "Board" "check").ok K,
  (He.Fa.meth "Board" "keep").ok K,
  (He.Fa.meth "Board" "bounds").ok K,
  (He.Fa.meth "Board" "heir_of").ok K,
  (He.Fa.meth "Board" "chain").ok K,
  (He.Fa.meth "Board" "admit").ok K,
  (He.Fa.meth "Board" "shut").ok K,
  (He.Fa.meth "Board" "give").ok K,
  (He.Fa.meth "Board" "call").ok K,
  (He.Fa.meth "Board" "rule").ok K]
def txL14 (K : PySem.W.Frag) : List Bool := [(He.Fa.meth "Board" "leave_to").ok K,
  (He.Fa.meth "Board" "back").ok K,
  (He.Fa.meth "Board" "room").ok K,
  (He.Fa.meth "Board" "stock").ok K,
  (He.Fa.meth "Board" "foresee").ok K,
  (He.Fa.meth "Board" "ways").ok K,
  (He.Fa.meth "Board" "rows_ahead").ok K,
  (He.Fa.meth "Board" "least_gift").ok K,
  (He.Fa.meth "Board" "least_call").ok K,
  (He.Fa.meth "Board" "twin").ok K,
  He.eqO (PySem.W.findIn K (.ref (ga K "Board")) "__getitem__") (some (some (.ref (ma K (ga K "Board") "__getitem__")))),
  PySem.W.isFn K (.ref (ma K (ga K "Board") "__getitem__"))]
def txL15 (K : PySem.W.Frag) : List Bool := [PySem.W.fnIn K (ma K (ga K "Board") "__getitem__"),
  He.eqO (PySem.W.findIn K (.ref (ga K "Board")) "__contains__") (some (some (.ref (ma K (ga K "Board") "__contains__")))),
  PySem.W.isFn K (.ref (ma K (ga K "Board") "__contains__")),
  PySem.W.fnIn K (ma K (ga K "Board") "__contains__"),
  He.eqO (PySem.W.findIn K (.ref (ga K "Board")) "__eq__") (some (some (.ref (ma K (ga K "Board") "__eq__")))),
  PySem.W.isFn K (.ref (ma K (ga K "Board") "__eq__")),
  PySem.W.fnIn K (ma K (ga K "Board") "__eq__"),
  He.eqO (PySem.W.findIn K (.ref (ga K "Way")) "__call__") (some (some (.ref (ma K (ga K "Way") "__call__")))),
  PySem.W.isFn K (.ref (ma K (ga K "Way") "__call__")),
  PySem.W.fnIn K (ma K (ga K "Way") "__call__"),
  He.eqO (PySem.W.findIn K (.ref (ga K "Way")) "__rshift__") (some (some (.ref (ma K (ga K "Way") "__rshift__")))),
  PySem.W.isFn K (.ref (ma K (ga K "Way") "__rshift__"))]
def txL16 (K : PySem.W.Frag) : List Bool := [PySem.W.fnIn K (ma K (ga K "Way") "__rshift__"),
  PySem.W.selfFirst K (ga K "Way"),
  prop1B K "Way" "shift",
  prop1B K "Way" "floor",
  prop1B K "Way" "cap",
  prop1B K "Board" "names",
  isiB K (ga K "Board"),
  decide (PySem.W.kitOne K (.ref (ga K "Board")) (.ref (ga K "Board")) = some true),
  PySem.W.notFirst K (ga K "Board") (.ref (ga K "Board")),
  oexB K (ga K "Crossed"),
  He.eqO (PySem.W.findIn K (.ref (ga K "Crossed")) "__init__") (some (some (.ref (ma K (ga K "Crossed") "__init__")))),
  decide (PySem.W.typeIn K (.ref (ma K (ga K "Crossed") "__init__")) = some (.type "function"))]
def txL17 (K : PySem.W.Frag) : List Bool := [He.eqO (PySem.W.findIn K (.ref (ga K "Crossed")) "low") (some none),
  He.eqO (PySem.W.findIn K (.ref (ga K "Crossed")) "high") (some none),
  oeB K (ga K "Crossed"),
  xfB K (ga K "Crossed"),
  oexB K (ga K "NoPlace"),
  He.eqO (PySem.W.findIn K (.ref (ga K "NoPlace")) "__init__") (some (some (.ref (ma K (ga K "NoPlace") "__init__")))),
  decide (PySem.W.typeIn K (.ref (ma K (ga K "NoPlace") "__init__")) = some (.type "function")),
  He.eqO (PySem.W.findIn K (.ref (ga K "NoPlace")) "place") (some none),
  oeB K (ga K "NoPlace"),
  xfB K (ga K "NoPlace"),
  oexB K (ga K "NothingDone"),
  He.eqO (PySem.W.findIn K (.ref (ga K "NothingDone")) "__init__") (some (some (.ref (ma K (ga K "NothingDone") "__init__"))))]
def txL18 (K : PySem.W.Frag) : List Bool := [decide (PySem.W.typeIn K (.ref (ma K (ga K "NothingDone") "__init__")) = some (.type "function")),
  He.eqO (PySem.W.findIn K (.ref (ga K "NothingDone")) "given") (some none),
  oeB K (ga K "NothingDone"),
  xfB K (ga K "NothingDone"),
  oexB K (ga K "NoShift"),
  He.eqO (PySem.W.findIn K (.ref (ga K "NoShift")) "__init__") (some (some (.ref (ma K (ga K "NoShift") "__init__")))),
  decide (PySem.W.typeIn K (.ref (ma K (ga K "NoShift") "__init__")) = some (.type "function")),
  He.eqO (PySem.W.findIn K (.ref (ga K "NoShift")) "given") (some none),
  oeB K (ga K "NoShift"),
  xfB K (ga K "NoShift"),
  oexB K (ga K "Unlike"),
  He.eqO (PySem.W.findIn K (.ref (ga K "Unlike")) "__init__") (some (some (.ref (ma K (ga K "Unlike") "__init__"))))]
def txL19 (K : PySem.W.Frag) : List Bool := [decide (PySem.W.typeIn K (.ref (ma K (ga K "Unlike") "__init__")) = some (.type "function")),
  He.eqO (PySem.W.findIn K (.ref (ga K "Unlike")) "given") (some none),
  oeB K (ga K "Unlike"),
  xfB K (ga K "Unlike"),
  oexB K (ga K "NoName"),
  He.eqO (PySem.W.findIn K (.ref (ga K "NoName")) "__init__") (some (some (.ref (ma K (ga K "NoName") "__init__")))),
  decide (PySem.W.typeIn K (.ref (ma K (ga K "NoName") "__init__")) = some (.type "function")),
  He.eqO (PySem.W.findIn K (.ref (ga K "NoName")) "name") (some none),
  oeB K (ga K "NoName"),
  xfB K (ga K "NoName"),
  oexB K (ga K "Taken"),
  He.eqO (PySem.W.findIn K (.ref (ga K "Taken")) "__init__") (some (some (.ref (ma K (ga K "Taken") "__init__"))))]
def txL20 (K : PySem.W.Frag) : List Bool := [decide (PySem.W.typeIn K (.ref (ma K (ga K "Taken") "__init__")) = some (.type "function")),
  He.eqO (PySem.W.findIn K (.ref (ga K "Taken")) "name") (some none),
  oeB K (ga K "Taken"),
  xfB K (ga K "Taken"),
  oexB K (ga K "Outside"),
  He.eqO (PySem.W.findIn K (.ref (ga K "Outside")) "__init__") (some (some (.ref (ma K (ga K "Outside") "__init__")))),
  decide (PySem.W.typeIn K (.ref (ma K (ga K "Outside") "__init__")) = some (.type "function")),
  He.eqO (PySem.W.findIn K (.ref (ga K "Outside")) "number") (some none),
  oeB K (ga K "Outside"),
  xfB K (ga K "Outside"),
  oexB K (ga K "Needed"),
  He.eqO (PySem.W.findIn K (.ref (ga K "Needed")) "__init__") (some (some (.ref (ma K (ga K "Needed") "__init__"))))]
def txL21 (K : PySem.W.Frag) : List Bool := [decide (PySem.W.typeIn K (.ref (ma K (ga K "Needed") "__init__")) = some (.type "function")),
  He.eqO (PySem.W.findIn K (.ref (ga K "Needed")) "name") (some none),
  oeB K (ga K "Needed"),
  xfB K (ga K "Needed"),
  oexB K (ga K "Ring"),
  He.eqO (PySem.W.findIn K (.ref (ga K "Ring")) "__init__") (some (some (.ref (ma K (ga K "Ring") "__init__")))),
  decide (PySem.W.typeIn K (.ref (ma K (ga K "Ring") "__init__")) = some (.type "function")),
  He.eqO (PySem.W.findIn K (.ref (ga K "Ring")) "name") (some none),
  oeB K (ga K "Ring"),
  xfB K (ga K "Ring"),
  oexB K (ga K "NotBehind"),
  He.eqO (PySem.W.findIn K (.ref (ga K "NotBehind")) "__init__") (some (some (.ref (ma K (ga K "NotBehind") "__init__"))))]
def txL22 (K : PySem.W.Frag) : List Bool := [decide (PySem.W.typeIn K (.ref (ma K (ga K "NotBehind") "__init__")) = some (.type "function")),
  He.eqO (PySem.W.findIn K (.ref (ga K "NotBehind")) "other") (some none),
  oeB K (ga K "NotBehind"),
  xfB K (ga K "NotBehind"),
  kyB K,
  xmB K,
  mirB K]
def txL (K : PySem.W.Frag) : List (List Bool) := [txL0 K, txL1 K, txL2 K, txL3 K, txL4 K, txL5 K, txL6 K, txL7 K, txL8 K, txL9 K, txL10 K, txL11 K, txL12 K, txL13 K, txL14 K, txL15 K, txL16 K, txL17 K, txL18 K, txL19 K, txL20 K, txL21 K, txL22 K]
def fn0 : List He5.DefA := [⟨fun K => ma K (ga K "Crossed") "__init__", "__init__", "Crossed.__init__", defArgs s_Crossed__init, defBody s_Crossed__init, defScope s_Crossed__init, [], []⟩,
  ⟨fun K => ma K (ga K "NoPlace") "__init__", "__init__", "NoPlace.__init__", defArgs s_NoPlace__init, defBody s_NoPlace__init, defScope s_NoPlace__init, [], []⟩,
  ⟨fun K => ma K (ga K "NothingDone") "__init__", "__init__", "NothingDone.__init__", defArgs s_NothingDone__init, defBody s_NothingDone__init, defScope s_NothingDone__init, [], []⟩,
  ⟨fun K => ma K (ga K "NoShift") "__init__", "__init__", "NoShift.__init__", defArgs s_NoShift__init, defBody s_NoShift__init, defScope s_NoShift__init, [], []⟩,
  ⟨fun K => ma K (ga K "Unlike") "__init__", "__init__", "Unlike.__init__", defArgs s_Unlike__init, defBody s_Unlike__init, defScope s_Unlike__init, [], []⟩,
  ⟨fun K => ma K (ga K "NoName") "__init__", "__init__", "NoName.__init__", defArgs s_NoName__init, defBody s_NoName__init, defScope s_NoName__init, [], []⟩,
  ⟨fun K => ma K (ga K "Taken") "__init__", "__init__", "Taken.__init__", defArgs s_Taken__init, defBody s_Taken__init, defScope s_Taken__init, [], []⟩,
  ⟨fun K => ma K (ga K "Outside") "__init__", "__init__", "Outside.__init__", defArgs s_Outside__init, defBody s_Outside__init, defScope s_Outside__init, [], []⟩,
  ⟨fun K => ma K (ga K "Needed") "__init__", "__init__", "Needed.__init__", defArgs s_Needed__init, defBody s_Needed__init, defScope s_Needed__init, [], []⟩,
  ⟨fun K => ma K (ga K "Ring") "__init__", "__init__", "Ring.__init__", defArgs s_Ring__init, defBody s_Ring__init, defScope s_Ring__init, [], []⟩,
  ⟨fun K => ma K (ga K "NotBehind") "__init__", "__init__", "NotBehind.__init__", defArgs s_NotBehind__init, defBody s_NotBehind__init, defScope s_NotBehind__init, [], []⟩,
  ⟨fun K => ga K "tupled", "tupled", "tupled", defArgs s_tupled, defBody s_tupled, defScope s_tupled, [], []⟩]
def fn1 : List He5.DefA := [⟨fun K => ga K "behind", "behind", "behind", defArgs s_behind, defBody s_behind, defScope s_behind, [], []⟩,
  ⟨fun K => ga K "end_of", "end_of", "end_of", defArgs s_end_of, defBody s_end_of, defScope s_end_of, [], []⟩,
  ⟨fun K => ga K "levels_of", "levels_of", "levels_of", defArgs s_levels_of, defBody s_levels_of, defScope s_levels_of, [], []⟩,
  ⟨fun K => ga K "kept", "kept", "kept", defArgs s_kept, defBody s_kept, defScope s_kept, [], []⟩,
  ⟨fun K => ma K (ga K "Way") "__init__", "__init__", "Way.__init__", defArgs s_Way__init, defBody s_Way__init, defScope s_Way__init, [.non, .non], []⟩,
  ⟨fun K => pg K "Way" "shift", "shift", "Way.shift", defArgs s_Way_shift, defBody s_Way_shift, defScope s_Way_shift, [], []⟩,
  ⟨fun K => pg K "Way" "floor", "floor", "Way.floor", defArgs s_Way_floor, defBody s_Way_floor, defScope s_Way_floor, [], []⟩,
  ⟨fun K => pg K "Way" "cap", "cap", "Way.cap", defArgs s_Way_cap, defBody s_Way_cap, defScope s_Way_cap, [], []⟩,
  ⟨fun K => pg K "Way" "text", "text", "Way.text", defArgs s_Way_text, defBody s_Way_text, defScope s_Way_text, [], []⟩,
  ⟨fun K => ma K (ga K "Way") "__call__", "__call__", "Way.__call__", defArgs s_Way__call, defBody s_Way__call, defScope s_Way__call, [], []⟩,
  ⟨fun K => ma K (ga K "Way") "__rshift__", "__rshift__", "Way.__rshift__", defArgs s_Way__rshift, defBody s_Way__rshift, defScope s_Way__rshift, [], []⟩,
  ⟨fun K => ma K (ga K "Way") "__mul__", "__mul__", "Way.__mul__", defArgs s_Way__mul, defBody s_Way__mul, defScope s_Way__mul, [], []⟩]
def fn2 : List He5.DefA := [⟨fun K => ma K (ga K "Way") "__eq__", "__eq__", "Way.__eq__", defArgs s_Way__eq, defBody s_Way__eq, defScope s_Way__eq, [], []⟩,
  ⟨fun K => ga K "way_of", "way_of", "way_of", defArgs s_way_of, defBody s_way_of, defScope s_way_of, [], []⟩,
  ⟨fun K => ga K "starts_between", "starts_between", "starts_between", defArgs s_starts_between, defBody s_starts_between, defScope s_starts_between, [], []⟩,
  ⟨fun K => ga K "is_crossed", "is_crossed", "is_crossed", defArgs s_is_crossed, defBody s_is_crossed, defScope s_is_crossed, [], []⟩,
  ⟨fun K => ga K "handed_on", "handed_on", "handed_on", defArgs s_handed_on, defBody s_handed_on, defScope s_handed_on, [], []⟩,
  ⟨fun K => ga K "sum_of", "sum_of", "sum_of", defArgs s_sum_of, defBody s_sum_of, defScope s_sum_of, [], []⟩,
  ⟨fun K => ma K (ga K "Board") "__init__", "__init__", "Board.__init__", defArgs s_Board__init, defBody s_Board__init, defScope s_Board__init, [], []⟩,
  ⟨fun K => ma K (ga K "Board") "check", "check", "Board.check", defArgs s_Board_check, defBody s_Board_check, defScope s_Board_check, [], []⟩,
  ⟨fun K => ma K (ga K "Board") "keep", "keep", "Board.keep", defArgs s_Board_keep, defBody s_Board_keep, defScope s_Board_keep, [], []⟩,
  ⟨fun K => pg K "Board" "names", "names", "Board.names", defArgs s_Board_names, defBody s_Board_names, defScope s_Board_names, [], []⟩,
  ⟨fun K => pg K "Board" "deeds", "deeds", "Board.deeds", defArgs s_Board_deeds, defBody s_Board_deeds, defScope s_Board_deeds, [], []⟩,
  ⟨fun K => ma K (ga K "Board") "__getitem__", "__getitem__", "Board.__getitem__", defArgs s_Board__getitem, defBody s_Board__getitem, defScope s_Board__getitem, [], []⟩]
def fn3 : List He5.DefA := [⟨fun K => ma K (ga K "Board") "bounds", "bounds", "Board.bounds", defArgs s_Board_bounds, defBody s_Board_bounds, defScope s_Board_bounds, [], []⟩,
  ⟨fun K => ma K (ga K "Board") "heir_of", "heir_of", "Board.heir_of", defArgs s_Board_heir_of, defBody s_Board_heir_of, defScope s_Board_heir_of, [], []⟩,
  ⟨fun K => ma K (ga K "Board") "chain", "chain", "Board.chain", defArgs s_Board_chain, defBody s_Board_chain, defScope s_Board_chain, [], []⟩,
  ⟨fun K => ma K (ga K "Board") "__contains__", "__contains__", "Board.__contains__", defArgs s_Board__contains, defBody s_Board__contains, defScope s_Board__contains, [], []⟩,
  ⟨fun K => ma K (ga K "Board") "__len__", "__len__", "Board.__len__", defArgs s_Board__len, defBody s_Board__len, defScope s_Board__len, [], []⟩,
  ⟨fun K => ma K (ga K "Board") "__iter__", "__iter__", "Board.__iter__", defArgs s_Board__iter, defBody s_Board__iter, defScope s_Board__iter, [], []⟩,
  ⟨fun K => ma K (ga K "Board") "__eq__", "__eq__", "Board.__eq__", defArgs s_Board__eq, defBody s_Board__eq, defScope s_Board__eq, [], []⟩,
  ⟨fun K => ma K (ga K "Board") "admit", "admit", "Board.admit", defArgs s_Board_admit, defBody s_Board_admit, defScope s_Board_admit, [.non, .non, .non], []⟩,
  ⟨fun K => ma K (ga K "Board") "shut", "shut", "Board.shut", defArgs s_Board_shut, defBody s_Board_shut, defScope s_Board_shut, [], []⟩,
  ⟨fun K => ma K (ga K "Board") "give", "give", "Board.give", defArgs s_Board_give, defBody s_Board_give, defScope s_Board_give, [], []⟩,
  ⟨fun K => ma K (ga K "Board") "call", "call", "Board.call", defArgs s_Board_call, defBody s_Board_call, defScope s_Board_call, [], []⟩,
  ⟨fun K => ma K (ga K "Board") "rule", "rule", "Board.rule", defArgs s_Board_rule, defBody s_Board_rule, defScope s_Board_rule, [], []⟩]
def fn4 : List He5.DefA := [⟨fun K => ma K (ga K "Board") "leave_to", "leave_to", "Board.leave_to", defArgs s_Board_leave_to, defBody s_Board_leave_to, defScope s_Board_leave_to, [], []⟩,
  ⟨fun K => ma K (ga K "Board") "back", "back", "Board.back", defArgs s_Board_back, defBody s_Board_back, defScope s_Board_back, [], []⟩,
  ⟨fun K => ma K (ga K "Board") "room", "room", "Board.room", defArgs s_Board_room, defBody s_Board_room, defScope s_Board_room, [], []⟩,
  ⟨fun K => ma K (ga K "Board") "stock", "stock", "Board.stock", defArgs s_Board_stock, defBody s_Board_stock, defScope s_Board_stock, [], []⟩,
  ⟨fun K => ma K (ga K "Board") "foresee", "foresee", "Board.foresee", defArgs s_Board_foresee, defBody s_Board_foresee, defScope s_Board_foresee, [], []⟩,
  ⟨fun K => ma K (ga K "Board") "ways", "ways", "Board.ways", defArgs s_Board_ways, defBody s_Board_ways, defScope s_Board_ways, [], []⟩,
  ⟨fun K => ma K (ga K "Board") "rows_ahead", "rows_ahead", "Board.rows_ahead", defArgs s_Board_rows_ahead, defBody s_Board_rows_ahead, defScope s_Board_rows_ahead, [], []⟩,
  ⟨fun K => ma K (ga K "Board") "least_gift", "least_gift", "Board.least_gift", defArgs s_Board_least_gift, defBody s_Board_least_gift, defScope s_Board_least_gift, [], []⟩,
  ⟨fun K => ma K (ga K "Board") "least_call", "least_call", "Board.least_call", defArgs s_Board_least_call, defBody s_Board_least_call, defScope s_Board_least_call, [], []⟩,
  ⟨fun K => ma K (ga K "Board") "twin", "twin", "Board.twin", defArgs s_Board_twin, defBody s_Board_twin, defScope s_Board_twin, [], []⟩,
  ⟨fun K => ga K "parts_at", "parts_at", "parts_at", defArgs s_parts_at, defBody s_parts_at, defScope s_parts_at, [], []⟩,
  ⟨fun K => ga K "adds_between", "adds_between", "adds_between", defArgs s_adds_between, defBody s_adds_between, defScope s_adds_between, [], []⟩]
def fn5 : List He5.DefA := [⟨fun K => ga K "floors_between", "floors_between", "floors_between", defArgs s_floors_between, defBody s_floors_between, defScope s_floors_between, [], []⟩,
  ⟨fun K => ga K "caps_between", "caps_between", "caps_between", defArgs s_caps_between, defBody s_caps_between, defScope s_caps_between, [], []⟩,
  ⟨fun K => ga K "kept_under", "kept_under", "kept_under", defArgs s_kept_under, defBody s_kept_under, defScope s_kept_under, [], []⟩,
  ⟨fun K => ga K "least_cap", "least_cap", "least_cap", defArgs s_least_cap, defBody s_least_cap, defScope s_least_cap, [], []⟩,
  ⟨fun K => ga K "greatest_floor", "greatest_floor", "greatest_floor", defArgs s_greatest_floor, defBody s_greatest_floor, defScope s_greatest_floor, [], []⟩,
  ⟨fun K => ga K "check_many", "check_many", "check_many", defArgs s_check_many, defBody s_check_many, defScope s_check_many, [], []⟩,
  ⟨fun K => ga K "with_adds", "with_adds", "with_adds", defArgs s_with_adds, defBody s_with_adds, defScope s_with_adds, [], []⟩,
  ⟨fun K => ga K "price_of", "price_of", "price_of", defArgs s_price_of, defBody s_price_of, defScope s_price_of, [], []⟩,
  ⟨fun K => ga K "bought_from", "bought_from", "bought_from", defArgs s_bought_from, defBody s_bought_from, defScope s_bought_from, [], []⟩,
  ⟨fun K => ga K "cheapest_amounts", "cheapest_amounts", "cheapest_amounts", defArgs s_cheapest_amounts, defBody s_cheapest_amounts, defScope s_cheapest_amounts, [], []⟩,
  ⟨fun K => ga K "cheapest", "cheapest", "cheapest", defArgs s_cheapest, defBody s_cheapest, defScope s_cheapest, [], []⟩,
  ⟨fun K => ga K "_law_box", "_law_box", "_law_box", defArgs s_law_box, defBody s_law_box, defScope s_law_box, [], []⟩]
def fn6 : List He5.DefA := [⟨fun K => ga K "_law_take", "_law_take", "_law_take", defArgs s_law_take, defBody s_law_take, defScope s_law_take, [], []⟩,
  ⟨fun K => ga K "_law_cells", "_law_cells", "_law_cells", defArgs s_law_cells, defBody s_law_cells, defScope s_law_cells, [], []⟩,
  ⟨fun K => ga K "_law_of", "_law_of", "_law_of", defArgs s_law_of, defBody s_law_of, defScope s_law_of, [], []⟩,
  ⟨fun K => ga K "_law_pick", "_law_pick", "_law_pick", defArgs s_law_pick, defBody s_law_pick, defScope s_law_pick, [], []⟩,
  ⟨fun K => ga K "_law_same", "_law_same", "_law_same", defArgs s_law_same, defBody s_law_same, defScope s_law_same, [], []⟩,
  ⟨fun K => ga K "_law_event", "_law_event", "_law_event", defArgs s_law_event, defBody s_law_event, defScope s_law_event, [], []⟩,
  ⟨fun K => ga K "_law_after", "_law_after", "_law_after", defArgs s_law_after, defBody s_law_after, defScope s_law_after, [], []⟩,
  ⟨fun K => ga K "_law_final", "_law_final", "_law_final", defArgs s_law_final, defBody s_law_final, defScope s_law_final, [], []⟩,
  ⟨fun K => ga K "_law_named", "_law_named", "_law_named", defArgs s_law_named, defBody s_law_named, defScope s_law_named, [], []⟩,
  ⟨fun K => ga K "_law_done", "_law_done", "_law_done", defArgs s_law_done, defBody s_law_done, defScope s_law_done, [], []⟩,
  ⟨fun K => ga K "_law_deed", "_law_deed", "_law_deed", defArgs s_law_deed, defBody s_law_deed, defScope s_law_deed, [], []⟩,
  ⟨fun K => ga K "_law_great_row", "_law_great_row", "_law_great_row", defArgs s_law_great_row, defBody s_law_great_row, defScope s_law_great_row, [], []⟩]
def fn7 : List He5.DefA := [⟨fun K => ga K "_law_begun", "_law_begun", "_law_begun", defArgs s_law_begun, defBody s_law_begun, defScope s_law_begun, [], []⟩,
  ⟨fun K => ga K "_law_put", "_law_put", "_law_put", defArgs s_law_put, defBody s_law_put, defScope s_law_put, [], []⟩,
  ⟨fun K => ga K "_law_about", "_law_about", "_law_about", defArgs s_law_about, defBody s_law_about, defScope s_law_about, [], []⟩,
  ⟨fun K => ga K "_law_is_inside", "_law_is_inside", "_law_is_inside", defArgs s_law_is_inside, defBody s_law_is_inside, defScope s_law_is_inside, [], []⟩,
  ⟨fun K => ga K "_law_gap_right", "_law_gap_right", "_law_gap_right", defArgs s_law_gap_right, defBody s_law_gap_right, defScope s_law_gap_right, [], []⟩,
  ⟨fun K => ga K "_law_kept_end", "_law_kept_end", "_law_kept_end", defArgs s_law_kept_end, defBody s_law_kept_end, defScope s_law_kept_end, [], []⟩,
  ⟨fun K => ga K "_law_bounds_right", "_law_bounds_right", "_law_bounds_right", defArgs s_law_bounds_right, defBody s_law_bounds_right, defScope s_law_bounds_right, [], []⟩,
  ⟨fun K => ga K "_law_needs_right", "_law_needs_right", "_law_needs_right", defArgs s_law_needs_right, defBody s_law_needs_right, defScope s_law_needs_right, [], []⟩,
  ⟨fun K => ga K "_law_free_right", "_law_free_right", "_law_free_right", defArgs s_law_free_right, defBody s_law_free_right, defScope s_law_free_right, [], []⟩,
  ⟨fun K => ga K "_law_sums", "_law_sums", "_law_sums", defArgs s_law_sums, defBody s_law_sums, defScope s_law_sums, [], []⟩,
  ⟨fun K => ga K "_law_account_right", "_law_account_right", "_law_account_right", defArgs s_law_account_right, defBody s_law_account_right, defScope s_law_account_right, [], []⟩,
  ⟨fun K => ga K "_law_by_hand_right", "_law_by_hand_right", "_law_by_hand_right", defArgs s_law_by_hand_right, defBody s_law_by_hand_right, defScope s_law_by_hand_right, [], []⟩]
def fn8 : List He5.DefA := [⟨fun K => ga K "_law_right", "_law_right", "_law_right", defArgs s_law_right, defBody s_law_right, defScope s_law_right, [], []⟩,
  ⟨fun K => ga K "law", "law", "law", defArgs s_law, defBody s_law, defScope s_law, [], []⟩]
def fnL : List (List He5.DefA) := [fn0, fn1, fn2, fn3, fn4, fn5, fn6, fn7, fn8]
abbrev AlK : Type := (List (List Bool) × List (List He5.FnW)) × Option (List (Option (Str × Int)))
def obsK (K : PySem.W.Frag) : AlK := ((txL K, fnL.map fun l => l.map fun d => He5.fnA K (d.at_ K)), He.dicW K (ga K "MIRRORED"))
def obsO (K : PySem.W.Frag) : Bool × AlK := (fnL.all fun l => l.all fun d => d.ok K, obsK K)
def ones : List (List Bool) := [[true, true, true, true, true, true, true, true, true, true, true, true], [true, true, true, true, true, true, true, true, true, true, true, true], [true, true, true, true, true, true, true, true, true, true, true, true], [true, true, true, true, true, true, true, true, true, true, true, true], [true, true, true, true, true, true, true, true, true, true, true, true], [true, true, true, true, true, true, true, true, true, true, true, true], [true, true, true, true, true, true, true, true, true, true, true, true], [true, true, true, true, true, true, true, true, true, true, true, true], [true, true, true, true, true, true, true, true, true, true, true, true], [true, true, true, true, true, true, true, true, true, true, true, true], [true, true, true, true, true, true, true, true, true, true, true, true], [true, true, true, true, true, true, true, true, true, true, true, true], [true, true, true, true, true, true, true, true, true, true, true, true], [true, true, true, true, true, true, true, true, true, true, true, true], [true, true, true, true, true, true, true, true, true, true, true, true], [true, true, true, true, true, true, true, true, true, true, true, true], [true, true, true, true, true, true, true, true, true, true, true, true], [true, true, true, true, true, true, true, true, true, true, true, true], [true, true, true, true, true, true, true, true, true, true, true, true], [true, true, true, true, true, true, true, true, true, true, true, true], [true, true, true, true, true, true, true, true, true, true, true, true], [true, true, true, true, true, true, true, true, true, true, true, true], [true, true, true, true, true, true, true]]
def valK (w : World) : Bool × AlK := (true, ((ones, fnL.map fun l => l.map He5.DefA.val), some (He.keysIn w.params ["add", "floor", "cap"])))
/-- the addresses that the facts want, those of the top first (printed by a scratch run of the kernel) -/
def asL0 : List Addr := [3, 6, 4, 24, 44, 63, 82, 101, 120, 139, 158, 177, 196, 215, 234, 241, 248, 255, 262, 269, 347, 359, 366, 373, 380, 387, 582, 587, 594, 599, 606, 613, 618, 625, 630, 637, 644, 649, 656, 661]
def asL1 : List Addr := [668, 675, 682, 689, 696, 703, 708, 715, 722, 729, 736, 743, 750, 757, 764, 771, 778, 785, 792, 799, 804, 809, 816, 821, 826, 833, 838, 843, 0, 23, 43, 62, 81, 100, 119, 138, 157, 176, 195, 214]
def asL2 : List Addr := [233, 240, 247, 254, 261, 268, 346, 358, 365, 372, 379, 386, 581, 593, 598, 605, 612, 617, 624, 629, 636, 643, 648, 655, 660, 667, 674, 681, 688, 695, 702, 707, 714, 721, 728, 735, 742, 749, 756, 763]
def asL3 : List Addr := [770, 777, 784, 791, 798, 803, 808, 815, 820, 825, 832, 837, 842, 22, 25, 41, 42, 60, 61, 79, 80, 98, 99, 117, 118, 136, 137, 155, 156, 174, 175, 193, 194, 212, 213, 231, 232, 237, 238, 239]
def asL4 : List Addr := [242, 243, 244, 245, 246, 249, 250, 251, 252, 253, 256, 257, 258, 259, 260, 263, 264, 265, 266, 267, 277, 285, 293, 301, 309, 315, 322, 329, 336, 343, 344, 348, 349, 350, 353, 354, 355, 356, 357, 360]
def asL5 : List Addr := [361, 362, 363, 364, 367, 368, 369, 370, 371, 374, 375, 376, 377, 378, 381, 382, 383, 384, 385, 395, 402, 409, 416, 424, 432, 439, 446, 453, 460, 467, 474, 481, 488, 496, 501, 508, 515, 522, 529, 536]
def asL6 : List Addr := [541, 546, 551, 556, 561, 566, 571, 578, 579, 583, 584, 588, 589, 590, 591, 592, 595, 596, 597, 600, 601, 602, 603, 604, 607, 608, 609, 610, 611, 614, 615, 616, 619, 620, 621, 622, 623, 626, 627, 628]
def asL7 : List Addr := [631, 632, 633, 634, 635, 638, 639, 640, 641, 642, 645, 646, 647, 650, 651, 652, 653, 654, 657, 658, 659, 662, 663, 664, 665, 666, 669, 670, 671, 672, 673, 676, 677, 678, 679, 680, 683, 684, 685, 686]
def asL8 : List Addr := [687, 690, 691, 692, 693, 694, 697, 698, 699, 700, 701, 704, 705, 706, 709, 710, 711, 712, 713, 716, 717, 718, 719, 720, 723, 724, 725, 726, 727, 730, 731, 732, 733, 734, 737, 738, 739, 740, 741, 744]
def asL9 : List Addr := [745, 746, 747, 748, 751, 752, 753, 754, 755, 758, 759, 760, 761, 762, 765, 766, 767, 768, 769, 772, 773, 774, 775, 776, 779, 780, 781, 782, 783, 786, 787, 788, 789, 790, 793, 794, 795, 796, 797, 800]
def asL10 : List Addr := [801, 802, 805, 806, 807, 810, 811, 812, 813, 814, 817, 818, 819, 822, 823, 824, 827, 828, 829, 830, 831, 834, 835, 836, 839, 840, 841, 40, 59, 78, 97, 116, 135, 154, 173, 192, 211, 230, 284, 278]
def asL11 : List Addr := [292, 300, 308, 314, 321, 328, 335, 342, 401, 408, 415, 423, 431, 438, 445, 452, 459, 466, 473, 480, 487, 495, 489, 500, 507, 514, 521, 528, 535, 540, 545, 550, 555, 560, 565, 570, 577, 35, 36, 37]
def asL12 : List Addr := [38, 39, 54, 55, 56, 57, 58, 73, 74, 75, 76, 77, 92, 93, 94, 95, 96, 111, 112, 113, 114, 115, 130, 131, 132, 133, 134, 149, 150, 151, 152, 153, 168, 169, 170, 171, 172, 187, 188, 189]
def asL13 : List Addr := [190, 191, 206, 207, 208, 209, 210, 225, 226, 227, 228, 229, 279, 280, 281, 282, 283, 291, 299, 307, 313, 316, 317, 318, 319, 320, 323, 324, 325, 326, 327, 330, 331, 332, 333, 334, 337, 338, 339, 340]
def asL14 : List Addr := [341, 396, 397, 398, 399, 400, 403, 404, 405, 406, 407, 410, 411, 412, 413, 414, 422, 430, 433, 434, 435, 436, 437, 440, 441, 442, 443, 444, 447, 448, 449, 450, 451, 454, 455, 456, 457, 458, 461, 462]
def asL15 : List Addr := [463, 464, 465, 468, 469, 470, 471, 472, 475, 476, 477, 478, 479, 482, 483, 484, 485, 486, 490, 491, 492, 493, 494, 497, 498, 499, 502, 503, 504, 505, 506, 509, 510, 511, 512, 513, 516, 517, 518, 519]
def asL16 : List Addr := [520, 523, 524, 525, 526, 527, 530, 531, 532, 533, 534, 537, 538, 539, 542, 543, 544, 547, 548, 549, 552, 553, 554, 557, 558, 559, 562, 563, 564, 567, 568, 569, 572, 573, 574, 575, 576]
def asL : List Addr := asL0 ++ (asL1 ++ (asL2 ++ (asL3 ++ (asL4 ++ (asL5 ++ (asL6 ++ (asL7 ++ (asL8 ++ (asL9 ++ (asL10 ++ (asL11 ++ (asL12 ++ (asL13 ++ (asL14 ++ (asL15 ++ (asL16))))))))))))))))
def hookK : PySem.W.Hook where
  α := Bool × AlK
  obs := fun s => obsO (frG s.heap.get? asL)
  val := fun w => valK w
  says := fun w h => ∃ K : PySem.W.Frag, K.In h ∧ obsO K = valK w
  of := fun _ _ e => ⟨_, frG_in, e⟩
  keeps := fun _ _ _ ⟨K, hK, c⟩ k => ⟨K, PySem.W.Frag.In.keeps hK k, c⟩
def obK (s : PySem.W.SharedT) : Bool × AlK := obsO (frG (HandSHeadRun.getT s) asL)
theorem obK_eq (s : PySem.W.SharedT) : obK s = hookK.obs s.abs := by
  have e : HandSHeadRun.getT s = s.abs.heap.get? := funext (HandSHeadRun.getT_eq s)
  unfold obK
  rw [e] <;> rfl
theorem tx_of {K : PySem.W.Frag} {w : World} (c : obsO K = valK w) (i j : Nat) {l m : List Bool} {b : Bool} (h1 : (txL K)[i]? = some l) (h2 : l[j]? = some b) (h3 : ones[i]? = some m) (h4 : m[j]? = some true) : b = true := by
  have e : txL K = ones := congrArg (fun z : Bool × AlK => z.2.1.1) c
  rw [e, h3] at h1
  injection h1 with h1
  subst h1
  rw [h4] at h2
  injection h2 with h2
  exact h2.symm
theorem fn_of {K : PySem.W.Frag} {w : World} (c : obsO K = valK w) (i j : Nat) {l : List He5.DefA} {d : He5.DefA} (h1 : fnL[i]? = some l) (h2 : l[j]? = some d) : ∃ fd, L2.FunD K d.name d.qual d.params d.body d.scope (d.dvs K) (d.kws K) (d.at_ K) fd := by
  have e : (fnL.map fun l => l.map fun d => He5.fnA K (d.at_ K)) = fnL.map fun l => l.map He5.DefA.val := congrArg (fun z : Bool × AlK => z.2.1.2) c
  have o : (fnL.all fun l => l.all fun d => d.ok K) = true := congrArg (fun z : Bool × AlK => z.1) c
  have e2 : (fnL.map fun l => l.map fun d => He5.fnA K (d.at_ K))[i]? = (fnL.map fun l => l.map He5.DefA.val)[i]? := by rw [e]
  rw [List.getElem?_map, List.getElem?_map, h1] at e2
  have e3 := Option.some.inj e2
  have e4 : (l.map fun d => He5.fnA K (d.at_ K))[j]? = (l.map He5.DefA.val)[j]? := congrArg (fun z : List He5.FnW => z[j]?) e3
  rw [List.getElem?_map, List.getElem?_map, h2] at e4
  exact He5.DefA.funD (Option.some.inj e4) (List.all_eq_true.mp (List.all_eq_true.mp o l (List.mem_of_getElem? h1)) d (List.mem_of_getElem? h2))
theorem mir_of {K : PySem.W.Frag} {w : World} (c : obsO K = valK w) : ∃ es n, KDict K w (ga K "MIRRORED") es n := He.dicW_ok (congrArg (fun z : Bool × AlK => z.2.2) c)
section
variable {K : PySem.W.Frag} {w : World} {h : Heap} {mg : Str → Option Value}
theorem txt_of (X : K.In h) (G : h.Ns mainGlobals mg) (c : obsO K = valK w) : Txt K mg where
  z_abs := He.free_ok X G (tx_of c 0 0 rfl rfl rfl rfl)
  z_all := He.free_ok X G (tx_of c 0 1 rfl rfl rfl rfl)
  z_enumerate := He.free_ok X G (tx_of c 0 2 rfl rfl rfl rfl)
  z_int := He.free_ok X G (tx_of c 0 3 rfl rfl rfl rfl)
  z_isinstance := He.free_ok X G (tx_of c 0 4 rfl rfl rfl rfl)
  z_len := He.free_ok X G (tx_of c 0 5 rfl rfl rfl rfl)
  z_list := He.free_ok X G (tx_of c 0 6 rfl rfl rfl rfl)
  z_max := He.free_ok X G (tx_of c 0 7 rfl rfl rfl rfl)
  z_min := He.free_ok X G (tx_of c 0 8 rfl rfl rfl rfl)
  z_range := He.free_ok X G (tx_of c 0 9 rfl rfl rfl rfl)
  z_sorted := He.free_ok X G (tx_of c 0 10 rfl rfl rfl rfl)
  z_sum := He.free_ok X G (tx_of c 0 11 rfl rfl rfl rfl)
  z_tuple := He.free_ok X G (tx_of c 1 0 rfl rfl rfl rfl)
  z_zip := He.free_ok X G (tx_of c 1 1 rfl rfl rfl rfl)
  z_bool := He.free_ok X G (tx_of c 1 2 rfl rfl rfl rfl)
  z_str := He.free_ok X G (tx_of c 1 3 rfl rfl rfl rfl)
  z_TypeError := He.free_ok X G (tx_of c 1 4 rfl rfl rfl rfl)
  c_ADD := He.str_ok X G (tx_of c 1 5 rfl rfl rfl rfl)
  c_FLOOR := He.str_ok X G (tx_of c 1 6 rfl rfl rfl rfl)
  c_CAP := He.str_ok X G (tx_of c 1 7 rfl rfl rfl rfl)
  g_LevelError := He.glo_ok X G (tx_of c 1 8 rfl rfl rfl rfl)
  k_LevelError := tx_of c 1 9 rfl rfl rfl rfl
  g_Crossed := He.glo_ok X G (tx_of c 1 10 rfl rfl rfl rfl)
  k_Crossed := tx_of c 1 11 rfl rfl rfl rfl
  g_NoPlace := He.glo_ok X G (tx_of c 2 0 rfl rfl rfl rfl)
  k_NoPlace := tx_of c 2 1 rfl rfl rfl rfl
  g_NothingDone := He.glo_ok X G (tx_of c 2 2 rfl rfl rfl rfl)
  k_NothingDone := tx_of c 2 3 rfl rfl rfl rfl
  g_NoShift := He.glo_ok X G (tx_of c 2 4 rfl rfl rfl rfl)
  k_NoShift := tx_of c 2 5 rfl rfl rfl rfl
  g_Unlike := He.glo_ok X G (tx_of c 2 6 rfl rfl rfl rfl)
  k_Unlike := tx_of c 2 7 rfl rfl rfl rfl
  g_NoName := He.glo_ok X G (tx_of c 2 8 rfl rfl rfl rfl)
  k_NoName := tx_of c 2 9 rfl rfl rfl rfl
  g_Taken := He.glo_ok X G (tx_of c 2 10 rfl rfl rfl rfl)
  k_Taken := tx_of c 2 11 rfl rfl rfl rfl
  g_Outside := He.glo_ok X G (tx_of c 3 0 rfl rfl rfl rfl)
  k_Outside := tx_of c 3 1 rfl rfl rfl rfl
  g_Needed := He.glo_ok X G (tx_of c 3 2 rfl rfl rfl rfl)
  k_Needed := tx_of c 3 3 rfl rfl rfl rfl
  g_Ring := He.glo_ok X G (tx_of c 3 4 rfl rfl rfl rfl)
  k_Ring := tx_of c 3 5 rfl rfl rfl rfl
  g_NotBehind := He.glo_ok X G (tx_of c 3 6 rfl rfl rfl rfl)
  k_NotBehind := tx_of c 3 7 rfl rfl rfl rfl
  g_tupled := He.glo_ok X G (tx_of c 3 8 rfl rfl rfl rfl)
  k_tupled := tx_of c 3 9 rfl rfl rfl rfl
  g_behind := He.glo_ok X G (tx_of c 3 10 rfl rfl rfl rfl)
  k_behind := tx_of c 3 11 rfl rfl rfl rfl
  g_end_of := He.glo_ok X G (tx_of c 4 0 rfl rfl rfl rfl)
  k_end_of := tx_of c 4 1 rfl rfl rfl rfl
  g_levels_of := He.glo_ok X G (tx_of c 4 2 rfl rfl rfl rfl)
  k_levels_of := tx_of c 4 3 rfl rfl rfl rfl
  g_kept := He.glo_ok X G (tx_of c 4 4 rfl rfl rfl rfl)
  k_kept := tx_of c 4 5 rfl rfl rfl rfl
  g_Way := He.glo_ok X G (tx_of c 4 6 rfl rfl rfl rfl)
  k_Way := tx_of c 4 7 rfl rfl rfl rfl
  g_way_of := He.glo_ok X G (tx_of c 4 8 rfl rfl rfl rfl)
  k_way_of := tx_of c 4 9 rfl rfl rfl rfl
  g_starts_between := He.glo_ok X G (tx_of c 4 10 rfl rfl rfl rfl)
  k_starts_between := tx_of c 4 11 rfl rfl rfl rfl
  g_is_crossed := He.glo_ok X G (tx_of c 5 0 rfl rfl rfl rfl)
  k_is_crossed := tx_of c 5 1 rfl rfl rfl rfl
  g_handed_on := He.glo_ok X G (tx_of c 5 2 rfl rfl rfl rfl)
  k_handed_on := tx_of c 5 3 rfl rfl rfl rfl
  g_sum_of := He.glo_ok X G (tx_of c 5 4 rfl rfl rfl rfl)
  k_sum_of := tx_of c 5 5 rfl rfl rfl rfl
  g_Board := He.glo_ok X G (tx_of c 5 6 rfl rfl rfl rfl)
  k_Board := tx_of c 5 7 rfl rfl rfl rfl
  g_MIRRORED := He.glo_ok X G (tx_of c 5 8 rfl rfl rfl rfl)
  g_parts_at := He.glo_ok X G (tx_of c 5 9 rfl rfl rfl rfl)
  k_parts_at := tx_of c 5 10 rfl rfl rfl rfl
  g_adds_between := He.glo_ok X G (tx_of c 5 11 rfl rfl rfl rfl)
  k_adds_between := tx_of c 6 0 rfl rfl rfl rfl
  g_floors_between := He.glo_ok X G (tx_of c 6 1 rfl rfl rfl rfl)
  k_floors_between := tx_of c 6 2 rfl rfl rfl rfl
  g_caps_between := He.glo_ok X G (tx_of c 6 3 rfl rfl rfl rfl)
  k_caps_between := tx_of c 6 4 rfl rfl rfl rfl
  g_kept_under := He.glo_ok X G (tx_of c 6 5 rfl rfl rfl rfl)
  k_kept_under := tx_of c 6 6 rfl rfl rfl rfl
  g_least_cap := He.glo_ok X G (tx_of c 6 7 rfl rfl rfl rfl)
  k_least_cap := tx_of c 6 8 rfl rfl rfl rfl
  g_greatest_floor := He.glo_ok X G (tx_of c 6 9 rfl rfl rfl rfl)
  k_greatest_floor := tx_of c 6 10 rfl rfl rfl rfl
  g_check_many := He.glo_ok X G (tx_of c 6 11 rfl rfl rfl rfl)
  k_check_many := tx_of c 7 0 rfl rfl rfl rfl
  g_with_adds := He.glo_ok X G (tx_of c 7 1 rfl rfl rfl rfl)
  k_with_adds := tx_of c 7 2 rfl rfl rfl rfl
  g_price_of := He.glo_ok X G (tx_of c 7 3 rfl rfl rfl rfl)
  k_price_of := tx_of c 7 4 rfl rfl rfl rfl
  g_bought_from := He.glo_ok X G (tx_of c 7 5 rfl rfl rfl rfl)
  k_bought_from := tx_of c 7 6 rfl rfl rfl rfl
  g_cheapest_amounts := He.glo_ok X G (tx_of c 7 7 rfl rfl rfl rfl)
  k_cheapest_amounts := tx_of c 7 8 rfl rfl rfl rfl
  g_cheapest := He.glo_ok X G (tx_of c 7 9 rfl rfl rfl rfl)
  k_cheapest := tx_of c 7 10 rfl rfl rfl rfl
  g_law_box := He.glo_ok X G (tx_of c 7 11 rfl rfl rfl rfl)
  k_law_box := tx_of c 8 0 rfl rfl rfl rfl
  g_law_take := He.glo_ok X G (tx_of c 8 1 rfl rfl rfl rfl)
  k_law_take := tx_of c 8 2 rfl rfl rfl rfl
  g_law_cells := He.glo_ok X G (tx_of c 8 3 rfl rfl rfl rfl)
  k_law_cells := tx_of c 8 4 rfl rfl rfl rfl
  g_law_of := He.glo_ok X G (tx_of c 8 5 rfl rfl rfl rfl)
  k_law_of := tx_of c 8 6 rfl rfl rfl rfl
  g_law_pick := He.glo_ok X G (tx_of c 8 7 rfl rfl rfl rfl)
  k_law_pick := tx_of c 8 8 rfl rfl rfl rfl
  g_law_same := He.glo_ok X G (tx_of c 8 9 rfl rfl rfl rfl)
  k_law_same := tx_of c 8 10 rfl rfl rfl rfl
  g_law_event := He.glo_ok X G (tx_of c 8 11 rfl rfl rfl rfl)
  k_law_event := tx_of c 9 0 rfl rfl rfl rfl
  g_law_after := He.glo_ok X G (tx_of c 9 1 rfl rfl rfl rfl)
  k_law_after := tx_of c 9 2 rfl rfl rfl rfl
  g_law_final := He.glo_ok X G (tx_of c 9 3 rfl rfl rfl rfl)
  k_law_final := tx_of c 9 4 rfl rfl rfl rfl
  g_law_named := He.glo_ok X G (tx_of c 9 5 rfl rfl rfl rfl)
  k_law_named := tx_of c 9 6 rfl rfl rfl rfl
  g_law_done := He.glo_ok X G (tx_of c 9 7 rfl rfl rfl rfl)
  k_law_done := tx_of c 9 8 rfl rfl rfl rfl
  g_law_deed := He.glo_ok X G (tx_of c 9 9 rfl rfl rfl rfl)
  k_law_deed := tx_of c 9 10 rfl rfl rfl rfl
  g_law_great_row := He.glo_ok X G (tx_of c 9 11 rfl rfl rfl rfl)
  k_law_great_row := tx_of c 10 0 rfl rfl rfl rfl
  g_law_begun := He.glo_ok X G (tx_of c 10 1 rfl rfl rfl rfl)
  k_law_begun := tx_of c 10 2 rfl rfl rfl rfl
  g_law_put := He.glo_ok X G (tx_of c 10 3 rfl rfl rfl rfl)
  k_law_put := tx_of c 10 4 rfl rfl rfl rfl
  g_law_about := He.glo_ok X G (tx_of c 10 5 rfl rfl rfl rfl)
  k_law_about := tx_of c 10 6 rfl rfl rfl rfl
  g_law_is_inside := He.glo_ok X G (tx_of c 10 7 rfl rfl rfl rfl)
  k_law_is_inside := tx_of c 10 8 rfl rfl rfl rfl
  g_law_gap_right := He.glo_ok X G (tx_of c 10 9 rfl rfl rfl rfl)
  k_law_gap_right := tx_of c 10 10 rfl rfl rfl rfl
  g_law_kept_end := He.glo_ok X G (tx_of c 10 11 rfl rfl rfl rfl)
  k_law_kept_end := tx_of c 11 0 rfl rfl rfl rfl
  g_law_bounds_right := He.glo_ok X G (tx_of c 11 1 rfl rfl rfl rfl)
  k_law_bounds_right := tx_of c 11 2 rfl rfl rfl rfl
  g_law_needs_right := He.glo_ok X G (tx_of c 11 3 rfl rfl rfl rfl)
  k_law_needs_right := tx_of c 11 4 rfl rfl rfl rfl
  g_law_free_right := He.glo_ok X G (tx_of c 11 5 rfl rfl rfl rfl)
  k_law_free_right := tx_of c 11 6 rfl rfl rfl rfl
  g_law_sums := He.glo_ok X G (tx_of c 11 7 rfl rfl rfl rfl)
  k_law_sums := tx_of c 11 8 rfl rfl rfl rfl
  g_law_account_right := He.glo_ok X G (tx_of c 11 9 rfl rfl rfl rfl)
  k_law_account_right := tx_of c 11 10 rfl rfl rfl rfl
  g_law_by_hand_right := He.glo_ok X G (tx_of c 11 11 rfl rfl rfl rfl)
  k_law_by_hand_right := tx_of c 12 0 rfl rfl rfl rfl
  g_law_right := He.glo_ok X G (tx_of c 12 1 rfl rfl rfl rfl)
  k_law_right := tx_of c 12 2 rfl rfl rfl rfl
  g_law := He.glo_ok X G (tx_of c 12 3 rfl rfl rfl rfl)
  k_law := tx_of c 12 4 rfl rfl rfl rfl
  cl_Way := sclsB_ok (tx_of c 12 5 rfl rfl rfl rfl)
  mk_Way := He.mkr_ok (tx_of c 12 6 rfl rfl rfl rfl)
  cl_Board := sclsB_ok (tx_of c 12 7 rfl rfl rfl rfl)
  mk_Board := He.mkr_ok (tx_of c 12 8 rfl rfl rfl rfl)
  sl_own_cap := slot1B_ok (tx_of c 12 9 rfl rfl rfl rfl) (by decide)
  sl_own_floor := slot1B_ok (tx_of c 12 10 rfl rfl rfl rfl) (by decide)
  sl_own_shift := slot1B_ok (tx_of c 12 11 rfl rfl rfl rfl) (by decide)
  sl_own_past := slot1B_ok (tx_of c 13 0 rfl rfl rfl rfl) (by decide)
  sl_own_rows := slot1B_ok (tx_of c 13 1 rfl rfl rfl rfl) (by decide)
  m_Board_check := He.meth_ok (tx_of c 13 2 rfl rfl rfl rfl)
  m_Board_keep := He.meth_ok (tx_of c 13 3 rfl rfl rfl rfl)
  m_Board_bounds := He.meth_ok (tx_of c 13 4 rfl rfl rfl rfl)
  m_Board_heir_of := He.meth_ok (tx_of c 13 5 rfl rfl rfl rfl)
  m_Board_chain := He.meth_ok (tx_of c 13 6 rfl rfl rfl rfl)
  m_Board_admit := He.meth_ok (tx_of c 13 7 rfl rfl rfl rfl)
  m_Board_shut := He.meth_ok (tx_of c 13 8 rfl rfl rfl rfl)
  m_Board_give := He.meth_ok (tx_of c 13 9 rfl rfl rfl rfl)
  m_Board_call := He.meth_ok (tx_of c 13 10 rfl rfl rfl rfl)
  m_Board_rule := He.meth_ok (tx_of c 13 11 rfl rfl rfl rfl)
  m_Board_leave_to := He.meth_ok (tx_of c 14 0 rfl rfl rfl rfl)
  m_Board_back := He.meth_ok (tx_of c 14 1 rfl rfl rfl rfl)
  m_Board_room := He.meth_ok (tx_of c 14 2 rfl rfl rfl rfl)
  m_Board_stock := He.meth_ok (tx_of c 14 3 rfl rfl rfl rfl)
  m_Board_foresee := He.meth_ok (tx_of c 14 4 rfl rfl rfl rfl)
  m_Board_ways := He.meth_ok (tx_of c 14 5 rfl rfl rfl rfl)
  m_Board_rows_ahead := He.meth_ok (tx_of c 14 6 rfl rfl rfl rfl)
  m_Board_least_gift := He.meth_ok (tx_of c 14 7 rfl rfl rfl rfl)
  m_Board_least_call := He.meth_ok (tx_of c 14 8 rfl rfl rfl rfl)
  m_Board_twin := He.meth_ok (tx_of c 14 9 rfl rfl rfl rfl)
  d_Board_getitem := He.eqO_ok (tx_of c 14 10 rfl rfl rfl rfl)
  n_Board_getitem := tx_of c 14 11 rfl rfl rfl rfl
  i_Board_getitem := tx_of c 15 0 rfl rfl rfl rfl
  d_Board_contains := He.eqO_ok (tx_of c 15 1 rfl rfl rfl rfl)
  n_Board_contains := tx_of c 15 2 rfl rfl rfl rfl
  i_Board_contains := tx_of c 15 3 rfl rfl rfl rfl
  d_Board_eq := He.eqO_ok (tx_of c 15 4 rfl rfl rfl rfl)
  n_Board_eq := tx_of c 15 5 rfl rfl rfl rfl
  i_Board_eq := tx_of c 15 6 rfl rfl rfl rfl
  d_Way_call := He.eqO_ok (tx_of c 15 7 rfl rfl rfl rfl)
  n_Way_call := tx_of c 15 8 rfl rfl rfl rfl
  i_Way_call := tx_of c 15 9 rfl rfl rfl rfl
  d_Way_rshift := He.eqO_ok (tx_of c 15 10 rfl rfl rfl rfl)
  n_Way_rshift := tx_of c 15 11 rfl rfl rfl rfl
  i_Way_rshift := tx_of c 16 0 rfl rfl rfl rfl
  sf_Way := tx_of c 16 1 rfl rfl rfl rfl
  p_Way_shift := prop1B_ok (tx_of c 16 2 rfl rfl rfl rfl)
  p_Way_floor := prop1B_ok (tx_of c 16 3 rfl rfl rfl rfl)
  p_Way_cap := prop1B_ok (tx_of c 16 4 rfl rfl rfl rfl)
  p_Board_names := prop1B_ok (tx_of c 16 5 rfl rfl rfl rfl)
  isi_Board := isiB_ok (tx_of c 16 6 rfl rfl rfl rfl)
  kit_Board := of_decide_eq_true (tx_of c 16 7 rfl rfl rfl rfl)
  nf_Board := tx_of c 16 8 rfl rfl rfl rfl
  ox_Crossed := oexB_ok (tx_of c 16 9 rfl rfl rfl rfl)
  oi_Crossed := He.eqO_ok (tx_of c 16 10 rfl rfl rfl rfl)
  ot_Crossed := of_decide_eq_true (tx_of c 16 11 rfl rfl rfl rfl)
  on_Crossed_low := He.eqO_ok (tx_of c 17 0 rfl rfl rfl rfl)
  on_Crossed_high := He.eqO_ok (tx_of c 17 1 rfl rfl rfl rfl)
  oe_Crossed := oeB_ok (tx_of c 17 2 rfl rfl rfl rfl)
  of_Crossed := xfB_ok (tx_of c 17 3 rfl rfl rfl rfl)
  ox_NoPlace := oexB_ok (tx_of c 17 4 rfl rfl rfl rfl)
  oi_NoPlace := He.eqO_ok (tx_of c 17 5 rfl rfl rfl rfl)
  ot_NoPlace := of_decide_eq_true (tx_of c 17 6 rfl rfl rfl rfl)
  on_NoPlace_place := He.eqO_ok (tx_of c 17 7 rfl rfl rfl rfl)
  oe_NoPlace := oeB_ok (tx_of c 17 8 rfl rfl rfl rfl)
  of_NoPlace := xfB_ok (tx_of c 17 9 rfl rfl rfl rfl)
  ox_NothingDone := oexB_ok (tx_of c 17 10 rfl rfl rfl rfl)
  oi_NothingDone := He.eqO_ok (tx_of c 17 11 rfl rfl rfl rfl)
  ot_NothingDone := of_decide_eq_true (tx_of c 18 0 rfl rfl rfl rfl)
  on_NothingDone_given := He.eqO_ok (tx_of c 18 1 rfl rfl rfl rfl)
  oe_NothingDone := oeB_ok (tx_of c 18 2 rfl rfl rfl rfl)
  of_NothingDone := xfB_ok (tx_of c 18 3 rfl rfl rfl rfl)
  ox_NoShift := oexB_ok (tx_of c 18 4 rfl rfl rfl rfl)
  oi_NoShift := He.eqO_ok (tx_of c 18 5 rfl rfl rfl rfl)
  ot_NoShift := of_decide_eq_true (tx_of c 18 6 rfl rfl rfl rfl)
  on_NoShift_given := He.eqO_ok (tx_of c 18 7 rfl rfl rfl rfl)
  oe_NoShift := oeB_ok (tx_of c 18 8 rfl rfl rfl rfl)
  of_NoShift := xfB_ok (tx_of c 18 9 rfl rfl rfl rfl)
  ox_Unlike := oexB_ok (tx_of c 18 10 rfl rfl rfl rfl)
  oi_Unlike := He.eqO_ok (tx_of c 18 11 rfl rfl rfl rfl)
  ot_Unlike := of_decide_eq_true (tx_of c 19 0 rfl rfl rfl rfl)
  on_Unlike_given := He.eqO_ok (tx_of c 19 1 rfl rfl rfl rfl)
  oe_Unlike := oeB_ok (tx_of c 19 2 rfl rfl rfl rfl)
  of_Unlike := xfB_ok (tx_of c 19 3 rfl rfl rfl rfl)
  ox_NoName := oexB_ok (tx_of c 19 4 rfl rfl rfl rfl)
  oi_NoName := He.eqO_ok (tx_of c 19 5 rfl rfl rfl rfl)
  ot_NoName := of_decide_eq_true (tx_of c 19 6 rfl rfl rfl rfl)
  on_NoName_name := He.eqO_ok (tx_of c 19 7 rfl rfl rfl rfl)
  oe_NoName := oeB_ok (tx_of c 19 8 rfl rfl rfl rfl)
  of_NoName := xfB_ok (tx_of c 19 9 rfl rfl rfl rfl)
  ox_Taken := oexB_ok (tx_of c 19 10 rfl rfl rfl rfl)
  oi_Taken := He.eqO_ok (tx_of c 19 11 rfl rfl rfl rfl)
  ot_Taken := of_decide_eq_true (tx_of c 20 0 rfl rfl rfl rfl)
  on_Taken_name := He.eqO_ok (tx_of c 20 1 rfl rfl rfl rfl)
  oe_Taken := oeB_ok (tx_of c 20 2 rfl rfl rfl rfl)
  of_Taken := xfB_ok (tx_of c 20 3 rfl rfl rfl rfl)
  ox_Outside := oexB_ok (tx_of c 20 4 rfl rfl rfl rfl)
  oi_Outside := He.eqO_ok (tx_of c 20 5 rfl rfl rfl rfl)
  ot_Outside := of_decide_eq_true (tx_of c 20 6 rfl rfl rfl rfl)
  on_Outside_number := He.eqO_ok (tx_of c 20 7 rfl rfl rfl rfl)
  oe_Outside := oeB_ok (tx_of c 20 8 rfl rfl rfl rfl)
  of_Outside := xfB_ok (tx_of c 20 9 rfl rfl rfl rfl)
  ox_Needed := oexB_ok (tx_of c 20 10 rfl rfl rfl rfl)
  oi_Needed := He.eqO_ok (tx_of c 20 11 rfl rfl rfl rfl)
  ot_Needed := of_decide_eq_true (tx_of c 21 0 rfl rfl rfl rfl)
  on_Needed_name := He.eqO_ok (tx_of c 21 1 rfl rfl rfl rfl)
  oe_Needed := oeB_ok (tx_of c 21 2 rfl rfl rfl rfl)
  of_Needed := xfB_ok (tx_of c 21 3 rfl rfl rfl rfl)
  ox_Ring := oexB_ok (tx_of c 21 4 rfl rfl rfl rfl)
  oi_Ring := He.eqO_ok (tx_of c 21 5 rfl rfl rfl rfl)
  ot_Ring := of_decide_eq_true (tx_of c 21 6 rfl rfl rfl rfl)
  on_Ring_name := He.eqO_ok (tx_of c 21 7 rfl rfl rfl rfl)
  oe_Ring := oeB_ok (tx_of c 21 8 rfl rfl rfl rfl)
  of_Ring := xfB_ok (tx_of c 21 9 rfl rfl rfl rfl)
  ox_NotBehind := oexB_ok (tx_of c 21 10 rfl rfl rfl rfl)
  oi_NotBehind := He.eqO_ok (tx_of c 21 11 rfl rfl rfl rfl)
  ot_NotBehind := of_decide_eq_true (tx_of c 22 0 rfl rfl rfl rfl)
  on_NotBehind_other := He.eqO_ok (tx_of c 22 1 rfl rfl rfl rfl)
  oe_NotBehind := oeB_ok (tx_of c 22 2 rfl rfl rfl rfl)
  of_NotBehind := xfB_ok (tx_of c 22 3 rfl rfl rfl rfl)
  ky := kyB_ok (tx_of c 22 4 rfl rfl rfl rfl)
  xm := xmB_ok (tx_of c 22 5 rfl rfl rfl rfl)
  f_Crossed__init := fn_of c 0 0 rfl rfl
  f_NoPlace__init := fn_of c 0 1 rfl rfl
  f_NothingDone__init := fn_of c 0 2 rfl rfl
  f_NoShift__init := fn_of c 0 3 rfl rfl
  f_Unlike__init := fn_of c 0 4 rfl rfl
  f_NoName__init := fn_of c 0 5 rfl rfl
  f_Taken__init := fn_of c 0 6 rfl rfl
  f_Outside__init := fn_of c 0 7 rfl rfl
  f_Needed__init := fn_of c 0 8 rfl rfl
  f_Ring__init := fn_of c 0 9 rfl rfl
  f_NotBehind__init := fn_of c 0 10 rfl rfl
  f_tupled := fn_of c 0 11 rfl rfl
  f_behind := fn_of c 1 0 rfl rfl
  f_end_of := fn_of c 1 1 rfl rfl
  f_levels_of := fn_of c 1 2 rfl rfl
  f_kept := fn_of c 1 3 rfl rfl
  f_Way__init := fn_of c 1 4 rfl rfl
  f_Way_shift := fn_of c 1 5 rfl rfl
  f_Way_floor := fn_of c 1 6 rfl rfl
  f_Way_cap := fn_of c 1 7 rfl rfl
  f_Way_text := fn_of c 1 8 rfl rfl
  f_Way__call := fn_of c 1 9 rfl rfl
  f_Way__rshift := fn_of c 1 10 rfl rfl
  f_Way__mul := fn_of c 1 11 rfl rfl
  f_Way__eq := fn_of c 2 0 rfl rfl
  f_way_of := fn_of c 2 1 rfl rfl
  f_starts_between := fn_of c 2 2 rfl rfl
  f_is_crossed := fn_of c 2 3 rfl rfl
  f_handed_on := fn_of c 2 4 rfl rfl
  f_sum_of := fn_of c 2 5 rfl rfl
  f_Board__init := fn_of c 2 6 rfl rfl
  f_Board_check := fn_of c 2 7 rfl rfl
  f_Board_keep := fn_of c 2 8 rfl rfl
  f_Board_names := fn_of c 2 9 rfl rfl
  f_Board_deeds := fn_of c 2 10 rfl rfl
  f_Board__getitem := fn_of c 2 11 rfl rfl
  f_Board_bounds := fn_of c 3 0 rfl rfl
  f_Board_heir_of := fn_of c 3 1 rfl rfl
  f_Board_chain := fn_of c 3 2 rfl rfl
  f_Board__contains := fn_of c 3 3 rfl rfl
  f_Board__len := fn_of c 3 4 rfl rfl
  f_Board__iter := fn_of c 3 5 rfl rfl
  f_Board__eq := fn_of c 3 6 rfl rfl
  f_Board_admit := fn_of c 3 7 rfl rfl
  f_Board_shut := fn_of c 3 8 rfl rfl
  f_Board_give := fn_of c 3 9 rfl rfl
  f_Board_call := fn_of c 3 10 rfl rfl
  f_Board_rule := fn_of c 3 11 rfl rfl
  f_Board_leave_to := fn_of c 4 0 rfl rfl
  f_Board_back := fn_of c 4 1 rfl rfl
  f_Board_room := fn_of c 4 2 rfl rfl
  f_Board_stock := fn_of c 4 3 rfl rfl
  f_Board_foresee := fn_of c 4 4 rfl rfl
  f_Board_ways := fn_of c 4 5 rfl rfl
  f_Board_rows_ahead := fn_of c 4 6 rfl rfl
  f_Board_least_gift := fn_of c 4 7 rfl rfl
  f_Board_least_call := fn_of c 4 8 rfl rfl
  f_Board_twin := fn_of c 4 9 rfl rfl
  f_parts_at := fn_of c 4 10 rfl rfl
  f_adds_between := fn_of c 4 11 rfl rfl
  f_floors_between := fn_of c 5 0 rfl rfl
  f_caps_between := fn_of c 5 1 rfl rfl
  f_kept_under := fn_of c 5 2 rfl rfl
  f_least_cap := fn_of c 5 3 rfl rfl
  f_greatest_floor := fn_of c 5 4 rfl rfl
  f_check_many := fn_of c 5 5 rfl rfl
  f_with_adds := fn_of c 5 6 rfl rfl
  f_price_of := fn_of c 5 7 rfl rfl
  f_bought_from := fn_of c 5 8 rfl rfl
  f_cheapest_amounts := fn_of c 5 9 rfl rfl
  f_cheapest := fn_of c 5 10 rfl rfl
  f_law_box := fn_of c 5 11 rfl rfl
  f_law_take := fn_of c 6 0 rfl rfl
  f_law_cells := fn_of c 6 1 rfl rfl
  f_law_of := fn_of c 6 2 rfl rfl
  f_law_pick := fn_of c 6 3 rfl rfl
  f_law_same := fn_of c 6 4 rfl rfl
  f_law_event := fn_of c 6 5 rfl rfl
  f_law_after := fn_of c 6 6 rfl rfl
  f_law_final := fn_of c 6 7 rfl rfl
  f_law_named := fn_of c 6 8 rfl rfl
  f_law_done := fn_of c 6 9 rfl rfl
  f_law_deed := fn_of c 6 10 rfl rfl
  f_law_great_row := fn_of c 6 11 rfl rfl
  f_law_begun := fn_of c 7 0 rfl rfl
  f_law_put := fn_of c 7 1 rfl rfl
  f_law_about := fn_of c 7 2 rfl rfl
  f_law_is_inside := fn_of c 7 3 rfl rfl
  f_law_gap_right := fn_of c 7 4 rfl rfl
  f_law_kept_end := fn_of c 7 5 rfl rfl
  f_law_bounds_right := fn_of c 7 6 rfl rfl
  f_law_needs_right := fn_of c 7 7 rfl rfl
  f_law_free_right := fn_of c 7 8 rfl rfl
  f_law_sums := fn_of c 7 9 rfl rfl
  f_law_account_right := fn_of c 7 10 rfl rfl
  f_law_by_hand_right := fn_of c 7 11 rfl rfl
  f_law_right := fn_of c 8 0 rfl rfl
  f_law := fn_of c 8 1 rfl rfl
theorem mirB_of (c : obsO K = valK w) : mirB K = true := tx_of c 22 6 rfl rfl rfl rfl
end
end K65
set_option Elab.async false
set_option linter.all false
set_option maxRecDepth 100000
set_option maxHeartbeats 0
namespace K65
open PySem PySem.W PySem.Calls PyProof.Rows
abbrev RR : OpenRow := OpenLaw.row PySem.Challenge.rw_boundedlevels_k65_whole_boards_and_what
abbrev qv : Program := view RR.prog [74]
def names : List PySem.Str := (["LevelError", "Crossed", "NoPlace", "NothingDone", "NoShift", "Unlike", "NoName", "Taken", "Outside", "Needed"] : List PySem.Str) ++ (["Ring", "NotBehind", "ADD", "FLOOR", "CAP", "tupled", "behind", "end_of", "NONE", "levels_of"] : List PySem.Str) ++ (["kept", "Way", "way_of", "starts_between", "is_crossed", "handed_on", "sum_of", "Board", "MIRRORED", "parts_at"] : List PySem.Str) ++ (["adds_between", "floors_between", "caps_between", "kept_under", "least_cap", "greatest_floor", "check_many", "with_adds", "price_of", "bought_from"] : List PySem.Str) ++ (["cheapest_amounts", "cheapest", "_law_box", "_law_take", "_law_cells", "_law_of", "_law_pick", "_law_same", "_law_event", "_law_after"] : List PySem.Str) ++ (["_law_final", "_law_named", "_law_done", "_law_deed", "_law_great_row", "_law_begun", "_law_put", "_law_about", "_law_is_inside", "_law_gap_right"] : List PySem.Str) ++ (["_law_kept_end", "_law_bounds_right", "_law_needs_right", "_law_free_right", "_law_sums", "_law_account_right", "_law_by_hand_right", "_law_right"] : List PySem.Str)
noncomputable abbrev endW (w : World) (os : OsState) : Option SharedT := HandSHeadRun.endF (HandSHeadRun.stepQ (HandSHeadRun.denQ HandSHeadRun.tabQ) RR.prog w) 7000 RR.prog w os
theorem map_two {α β γ δ : Type} {o : Option δ} {f : δ → α} {g : δ → β} {h : δ → γ} {a : α} {b : β} {c : γ} (h1 : o.map (fun s => (f s, g s)) = some (a, b)) (h2 : o.map h = some c) : o.map (fun s => (f s, g s, h s)) = some (a, b, c) := by
  cases o with
  | none => cases h1
  | some s =>
    have e1 : (f s, g s) = (a, b) := Option.some.inj h1
    have e2 : h s = c := Option.some.inj h2
    have e3 := congrArg Prod.fst e1
    have e4 := congrArg Prod.snd e1
    exact congrArg some (Prod.ext e3 (Prod.ext e4 e2))
abbrev wR (w : World) (b : Bool) : World := w.withFollow "special-get-raises" b
theorem see0 (w : World) (os : OsState) : (endW (wR w false) os).map (fun s => (HandSHeadRun.looksF RR.prog (boot_heap (wR w false).params) s.abs, HandSHeadRun.seenQ qv names (importedModules RR.prog.main.body) (fun s => xlAt qv [] s && recOk RR.toRowW.records s) s.abs)) = some (true, openGood qv names) := by kernel_rfl
theorem obs0 (w : World) (os : OsState) : (endW (wR w false) os).map (fun s => obK s) = some (hookK.val (wR w false)) := by kernel_rfl
theorem see1 (w : World) (os : OsState) : (endW (wR w true) os).map (fun s => (HandSHeadRun.looksF RR.prog (boot_heap (wR w true).params) s.abs, HandSHeadRun.seenQ qv names (importedModules RR.prog.main.body) (fun s => xlAt qv [] s && recOk RR.toRowW.records s) s.abs)) = some (true, openGood qv names) := by kernel_rfl
theorem obs1 (w : World) (os : OsState) : (endW (wR w true) os).map (fun s => obK s) = some (hookK.val (wR w true)) := by kernel_rfl
theorem run0 (w : World) : HandSHeadRun.RunEq RR qv hookK obK 7000 names (wR w false) := fun os => map_two (see0 w os) (obs0 w os)
theorem run1 (w : World) : HandSHeadRun.RunEq RR qv hookK obK 7000 names (wR w true) := fun os => map_two (see1 w os) (obs1 w os)
theorem run (w : World) : HandSHeadRun.RunEq RR qv hookK obK 7000 names w := byRow2 "special-get-raises" (P := fun w => HandSHeadRun.RunEq RR qv hookK obK 7000 names w) run0 run1 w
end K65
set_option Elab.async false
set_option linter.all false
set_option maxRecDepth 100000
set_option maxHeartbeats 4000000
namespace K65
open PySem PySem.Spec PyProof.Rows L2
section
variable {prog : Program} {w : World} {K : Type} [DecidableEq K] {knd : KeyKind prog w K} {A : Around} {E : Value → Shared → Prop} {s : Shared}
theorem wpAny_dictPut_pairs {d : Addr} {kvs : List (K × Value)} {k : K} {key v : Value} {Q : Unit → Shared → Prop} (hkey : knd.is k key = true) (hm : s.heap.DictOf knd d kvs)
    (hQ : ∀ h', h'.DictOf knd d (stored kvs k v) → Heap.SameBut d s.heap h' → Q () { s with heap := h' })
    (hsz : kvs.length ≤ sizeLine := by size_fits) :
    wpAny (model prog w) A (dictPut d (knd.hash k) key v) Q E s := by
  obtain ⟨o, es, ep, ho, hc, hd, hk, hp, hn⟩ := hm
  have hes : es.size ≤ sizeLine := by have e1 := hp.length; have e2 : es.toList.length = es.size := by simp
                                      omega
  unfold dictPut
  refine wpAny_bind (wpAny_dictFind_of hkey ho hd hk ?_)
  have hidx : (es.findIdx? fun e => knd.is k e.key) = kvs.findIdx? fun kv => decide (kv.1 = k) := by
    rw [← hp.findIdx k]; obtain ⟨l⟩ := es; simp
  cases hi : es.findIdx? fun e => knd.is k e.key with
  | some i =>
    refine (wpAny_updateDict ho hd ((hQ _ ⟨_, _, ep, Heap.get?_update_self _ ho (Obj.isFreed_of_dict (Obj.data_mapDict hd _)),
      hc.mapDict _, Obj.data_mapDict hd _, hk.modify _ _, ?_, ?_⟩ (Heap.SameBut.update ..))))
    · rw [stored, if_pos (any_of_findIdx_some (hidx ▸ hi))]
      have hl : (es.toList.findIdx? fun e => knd.is k e.key) = some i := by rw [← hi]; obtain ⟨l⟩ := es; simp
      have := hp.modify hn hl v
      obtain ⟨l⟩ := es
      simpa using this
    · rw [stored, if_pos (any_of_findIdx_some (hidx ▸ hi)), keys_map_store]; exact hn
  | none =>
    have hnot : k ∉ kvs.map (·.1) := not_mem_of_findIdx_none (hidx ▸ hi)
    have hany : ¬ (kvs.any fun kv => decide (kv.1 = k)) = true := by
      rw [List.any_eq_true]; rintro ⟨kv, hkv, he⟩
      exact hnot (List.mem_map.mpr ⟨kv, hkv, of_decide_eq_true he⟩)
    refine (wpAny_updateDictKeys (hz := hes) ho hd (hQ _ ⟨_, _, ep + 1, Heap.get?_update_self _ ho (Obj.isFreed_of_dict (Obj.data_mapDictKeys hd _)),
      hc.mapDictKeys _, Obj.data_mapDictKeys hd _, hk.push hkey _, ?_, ?_⟩ (Heap.SameBut.update ..)))
    · rw [stored, if_neg hany]
      have := hp.append hkey (knd.hash k) v
      obtain ⟨l⟩ := es
      simpa using this
    · rw [stored, if_neg hany, List.map_append, List.nodup_append]
      refine ⟨hn, by simp, ?_⟩
      intro a ha b hb
      simp only [List.map_cons, List.map_nil, List.mem_singleton] at hb
      subst hb
      exact fun e => hnot (e ▸ ha)
theorem wpAny_mergeMapping {d o : Addr} {kvs more : List (K × Value)} {Q : Unit → Shared → Prop} (hdo : d ≠ o) (hoS : (o == sysModules) = false)
    (hd : s.heap.DictOf knd d kvs) (ho : s.heap.DictOf knd o more)
    (hQ : ∀ h', h'.DictOf knd d (merged kvs more) → h'.DictOf knd o more → Heap.SameBut d s.heap h' → Q () { s with heap := h' })
    (hsz : kvs.length + more.length ≤ sizeLine := by size_fits) :
    wpAny (model prog w) A (mergeMapping d (.ref o) false) Q E s := by
  obtain ⟨od, esd, epd, hod, hcd, hdd, hkd, hpd, hnd⟩ := id hd
  obtain ⟨oo, eso, epo, hoo, hco, hdo', hko, hpo, hno⟩ := id ho
  unfold mergeMapping
  refine wpAny_bind (wpAny_isInstance ho.typeIs isSubtype_dict_dict ?_)
  rw [if_pos rfl]
  show wpAny _ _ (specialOf (Value.ref o) (Str.ofString "__iter__") >>= _) _ _ _
  refine wpAny_bind (m := specialOf (Value.ref o) (Str.ofString "__iter__")) (wpAny_specialOf ho.typeIs F.slot_dict_iter.lookup ?_)
  refine wpAny_bind (wpAny_pure ?_)
  have hlen : more.length = eso.size := by rw [← hpo.length]; simp
  have loop : wpAny (model prog w) A (do
      let l ← dictEntries o
      let epoch ← dictEpoch o
      forIn (List.range l.size) PUnit.unit fun i (_ : PUnit) => (do
          let l' ← dictEntries o
          match l'[i]? with
            | some e => do
              holding [e.key, e.val] (dictPut d e.hash e.key e.val)
              let ep' ← dictEpoch o
              if (ep' != epoch) = true then do
                  (unsupported "dict.changed-during-merge" : Sem PUnit)
                  pure (ForInStep.yield PUnit.unit)
                else pure (ForInStep.yield PUnit.unit)
            | _ => do
              (unsupported "dict.changed-during-merge" : Sem PUnit)
              pure (ForInStep.yield PUnit.unit) : Sem (ForInStep PUnit))
      pure ()) Q E s := by
    refine wpAny_bind (wpAny_dictEntries hoo hdo' ?_)
    refine wpAny_bind (wpAny_dictEpoch hoo hdo' ?_)
    refine wpAny_bind ?_
    rw [List.range_eq_range']
    refine wpAny_forIn_list _
      (fun rest _ s' => ∃ h' i, s' = { s with heap := h' } ∧ rest = List.range' i (eso.size - i) ∧ i ≤ eso.size ∧ h'.DictOf knd d (merged kvs (more.take i)) ∧ h'.get? o = some oo ∧ Heap.SameBut d s.heap h')
      _ ?_ ?_ _ _ ⟨s.heap, 0, rfl, by simp, Nat.zero_le _, by simpa [merged] using hd, hoo, Heap.SameBut.refl _ _⟩
    · rintro x rest b s' ⟨h', i, rfl, hr, hi, hd', hoo', hs'⟩
      have hlt : i < eso.size := by
        rcases Nat.lt_or_ge i eso.size with h | h
        · exact h
        · rw [Nat.sub_eq_zero_of_le h] at hr; simp at hr
      obtain ⟨rfl, hrest⟩ : x = i ∧ rest = List.range' (i + 1) (eso.size - (i + 1)) := by
        have e : eso.size - i = (eso.size - (i + 1)) + 1 := by omega
        rw [e, List.range'_succ] at hr
        injection hr with h1 h2
        exact ⟨h1, h2⟩
      refine wpAny_bind (wpAny_dictEntries hoo' hdo' ?_)
      rw [Array.getElem?_eq_getElem hlt]
      obtain ⟨kv, hkv⟩ : ∃ kv, more[x]? = some kv := ⟨more[x]'(by rw [hlen]; exact hlt), List.getElem?_eq_getElem _⟩
      obtain ⟨k, v⟩ := kv
      obtain ⟨hkey, hval⟩ := hpo.get? (e := eso[x]) (by simp [hlt]) hkv
      obtain ⟨k', hkey', hhash⟩ := hko eso[x] (Array.getElem_mem hlt)
      obtain rfl : k' = k := knd.inj _ _ _ hkey' hkey
      show wpAny _ _ (holding [eso[x].key, eso[x].val] (dictPut d eso[x].hash eso[x].key eso[x].val) >>= _) _ _ _
      rw [hhash, hval]
      have hmx : (merged kvs (more.take x)).length ≤ sizeLine := by
        have e1 := merged_length_le kvs (more.take x)
        have e2 : (more.take x).length ≤ more.length := by rw [List.length_take]; omega
        omega
      refine wpAny_bind (wpAny_holding (wpAny_dictPut_pairs (hsz := hmx) hkey hd' fun h'' hd'' hs'' => ?_))
      have hoo'' : h''.get? o = some oo := (hs''.2 o (Ne.symm hdo)).trans hoo'
      refine wpAny_bind (wpAny_dictEpoch hoo'' hdo' ?_)
      rw [if_neg (by simp)]
      exact wpAny_pure ⟨h'', x + 1, rfl, hrest, hlt, by rw [merged_take_succ kvs more x (k', v) hkv]; exact hd'', hoo'', hs'.trans hs''⟩
    · rintro b s' ⟨h', i, rfl, hr, hi, hd', hoo', hs'⟩
      have hin : i = eso.size := by
        rcases Nat.lt_or_ge i eso.size with h | h
        · have e : eso.size - i = (eso.size - (i + 1)) + 1 := by omega
          rw [e, List.range'_succ] at hr; exact nomatch hr
        · exact Nat.le_antisymm hi h
      refine wpAny_pure (hQ h' ?_ ⟨oo, eso, epo, hoo', hco, hdo', hko, hpo, hno⟩ hs')
      rw [hin, ← hlen, List.take_length] at hd'; exact hd'
  show wpAny _ _ (ite ((o == sysModules) = true) _ _) _ _ s
  rw [if_neg (by rw [hoS]; exact Bool.false_ne_true)]
  refine wpAny_bind (wpAny_dictEntries hod hdd ?_)
  dsimp only
  split
  · refine wpAny_bind (wpAny_dictEntries hoo hdo' ?_)
    refine wpAny_bind (wpAny_of_eq (a := PUnit.unit) ?_ loop)
    rw [← Array.forIn_toList]
    refine forIn_yield_id _ fun e he c => ?_
    obtain ⟨k, hkey, _⟩ := hko e (Array.mem_toList_iff.mp he)
    have hv := knd.byValue k _ hkey
    split
    · rename_i a hk
      rw [hk] at hv
      exact absurd hv Bool.false_ne_true
    · rfl
  · exact loop
end
/-! ### {**d}, {**d, k: v} -/
section
variable {X : Cx}
theorem big_ne {s : Shared} {pins : List (Addr × Obj)} {σ : L2.St} {H : Hp} (I : Inv X pins σ H s) : (s.heap.objs.size == sysModules) = false := beq_eq_false_iff_ne.mpr (Nat.ne_of_gt I.big)
def tDStar (te : TE) : TE := fun σ H Q => ∀ d, H d = none → te σ (upd H d (.dK [])) fun x H2 => ∃ a kvs, x = .ref a ∧ a ≠ d ∧ H2 a = some (.dK kvs) ∧ H2 d = some (.dK []) ∧ (kvs.map (·.1)).Nodup ∧ Q (.ref d) (upd H2 d (.dK kvs))
theorem KV.keys : ∀ {kvs : List (Key × V)} {vs : List (Key × Value)}, KV kvs vs → vs.map (·.1) = kvs.map (·.1)
  | _, _, .nil => rfl
  | _, _, .cons r t => by rw [List.map_cons, List.map_cons, r.1, KV.keys t]
theorem merge_nil {kvs : List (Key × V)} (h : (kvs.map (·.1)).Nodup) : mergeK [] kvs = kvs := by
  have go : ∀ (more acc : List (Key × V)), ((acc ++ more).map (·.1)).Nodup → mergeK acc more = acc ++ more := by
    intro more
    induction more with
    | nil => intro acc _; show acc = acc ++ []; simp
    | cons p r ih =>
      intro acc hn
      have e1 : putK acc p.1 p.2 = acc ++ [(p.1, p.2)] := by
        refine putK_new _ ?_
        cases q : valV acc p.1 with
        | none => rfl
        | some z =>
          have := valV_in q
          rw [List.map_append, List.nodup_append] at hn
          exact absurd rfl (hn.2.2 _ this _ (by simp))
      show mergeK (putK acc p.1 p.2) r = _
      rw [e1, ih _ (by simpa using hn)]
      simp
  exact go kvs [] h
/-- what the merging of a tracked dict into an empty one does -/
theorem merge_into {pins : List (Addr × Obj)} {σ : L2.St} {H : Hp} {s : Shared} {d a : Addr} {kvs more : List (Key × V)} {E : Value → Shared → Prop} {Q : Unit → Shared → Prop} (I : Inv X pins σ H s) (ne : a ≠ d) (ha : H a = some (.dK more)) (hd : H d = some (.dK kvs))
    (hz : kvs.length + more.length ≤ sizeLine) (h : ∀ s', Inv X pins σ (upd H d (.dK (mergeK kvs more))) s' → Q () s') : wpAny (model X.prog X.w) X.A (mergeMapping d (.ref a) false) Q E s := by
  obtain ⟨z1, y1, vs1, r1, d1⟩ := dk_of I.hok ha
  obtain ⟨z2, y2, vs2, r2, d2⟩ := dk_of I.hok hd
  refine wpAny_mergeMapping (knd := mixKind X.prog X.w) (Ne.symm ne) y1 d2 d1 (fun h' dd' dd1 hs => ?_) (by rw [← r1.length, ← r2.length]; exact hz)
  have he : ∃ q, h'.get? d = some q := let ⟨q, _, _, hq, _⟩ := dd'; ⟨q, hq⟩
  have hzz : (mergeK kvs more).length ≤ sizeLine := Nat.le_trans (length_mergeK more kvs) hz
  exact h _ (d_write I (by rw [hd]; exact True.intro) hs he (dk_new hzz y2 (KV.merge r1 r2) dd'))
theorem pe_dstar {e : Expr} {te : TE} {pos : Pos} (he : PE X e te) : PE X (.Dict [none] [e] pos) (tDStar te) := by
  refine ⟨fun pins s σ H Q I q => ?_⟩
  have hn := I.hok.fresh (Nat.le_refl s.heap.objs.size)
  have I1 := I.laid (a := s.heap.objs.size) (o := .dK []) (h' := s.heap.push { cls := .type "dict", data := .dict #[] }) (t' := s.toks) (fun _ _ q => Heap.get?_push_of_some _ q) (Nat.le_refl _) (dk_empty s.heap I.big)
  rw [arm_eval_Dict]
  refine wpAny_bind (wpAny_standAt ?_)
  show wpAny _ _ (dictDisplay [(none, do let x ← eval e X.env; standAt pos; pure x)]) _ _ _
  unfold dictDisplay
  simp only [List.forIn_cons, List.forIn_nil, List.isEmpty_nil, if_true, pure_bind, bind_assoc]
  refine wpAny_bind (wpAny_alloc ?_)
  refine wpAny_bind (wpAny_holding (wpAny_bind (thn (he.run pins _ σ _ _ I1 (q _ hn)) fun u s2 h2 => ?_)))
  obtain ⟨x, H2, I2, rx, a, kvs, ex, ne, ha, hd, nd, q2⟩ := h2
  subst ex
  obtain rfl : u = Value.ref a := rx
  refine wpAny_bind (wpAny_standAt (wpAny_pure ?_))
  obtain ⟨zk, _⟩ := dk_of I2.hok ha
  refine wpAny_bind (wpAny_onRaise (wpAny_tryCatch (wpAny_onRaise (wpAny_holding (merge_into I2 ne ha hd (by simpa using zk) fun s3 I3 => wpAny_pure ?_)))))
  rw [merge_nil nd] at I3
  exact ⟨.ref s.heap.objs.size, _, I3, rfl, q2⟩
/-- {**d, k: v} -/
def tDStarK (te tk tv : TE) : TE := fun σ H Q => ∀ d, H d = none → te σ (upd H d (.dK [])) fun x H2 => ∃ a kvs, x = .ref a ∧ a ≠ d ∧ H2 a = some (.dK kvs) ∧ H2 d = some (.dK []) ∧ (kvs.map (·.1)).Nodup ∧ kvs.length < sizeLine ∧
  ∀ b, upd H2 d (.dK kvs) b = none → tk σ (upd (upd H2 d (.dK kvs)) b (.dK [])) fun y H4 => tv σ H4 fun z H5 => ∃ k, y = kV k ∧ H5 b = some (.dK []) ∧ H5 d = some (.dK kvs) ∧ Q (.ref d) (upd (upd H5 b (.dK [(k, z)])) d (.dK (putK kvs k z)))
theorem pe_dstarK {e k v : Expr} {te tk tv : TE} {pos : Pos} (he : PE X e te) (hk : PE X k tk) (hv : PE X v tv) : PE X (.Dict [none, some k] [e, v] pos) (tDStarK te tk tv) := by
  refine ⟨fun pins s σ H Q I q => ?_⟩
  have hn := I.hok.fresh (Nat.le_refl s.heap.objs.size)
  have I1 := I.laid (a := s.heap.objs.size) (o := .dK []) (h' := s.heap.push { cls := .type "dict", data := .dict #[] }) (t' := s.toks) (fun _ _ q => Heap.get?_push_of_some _ q) (Nat.le_refl _) (dk_empty s.heap I.big)
  rw [arm_eval_Dict]
  refine wpAny_bind (wpAny_standAt ?_)
  show wpAny _ _ (dictDisplay [(none, do let x ← eval e X.env; standAt pos; pure x), (some (eval k X.env), do let x ← eval v X.env; standAt pos; pure x)]) _ _ _
  unfold dictDisplay
  simp only [List.forIn_cons, List.forIn_nil, List.isEmpty_nil, if_true, pure_bind, bind_assoc]
  refine wpAny_bind (wpAny_alloc ?_)
  refine wpAny_bind (wpAny_holding (wpAny_bind (thn (he.run pins _ σ _ _ I1 (q _ hn)) fun u s2 h2 => ?_)))
  obtain ⟨x, H2, I2, rx, a, kvs, ex, ne, ha, hd, nd, lk, q2⟩ := h2
  subst ex
  obtain rfl : u = Value.ref a := rx
  refine wpAny_bind (wpAny_standAt (wpAny_pure ?_))
  obtain ⟨zk, _⟩ := dk_of I2.hok ha
  refine wpAny_bind (wpAny_onRaise (wpAny_tryCatch (wpAny_onRaise (wpAny_holding (merge_into I2 ne ha hd (by simpa using zk) fun s3 I3 => ?_)))))
  rw [merge_nil nd] at I3
  simp only [List.nil_append, List.length_cons, List.length_nil, List.isEmpty_cons]
  rw [if_neg (by decide)]
  simp only [pure_bind, Bool.false_eq_true, if_false, bind_assoc]
  have hb := I3.hok.fresh (Nat.le_refl s3.heap.objs.size)
  have I4 := I3.laid (a := s3.heap.objs.size) (o := .dK []) (h' := s3.heap.push { cls := .type "dict", data := .dict #[] }) (t' := s3.toks) (fun _ _ q => Heap.get?_push_of_some _ q) (Nat.le_refl _) (dk_empty s3.heap I3.big)
  rw [if_neg (by simp)]
  refine wpAny_bind (wpAny_bind (wpAny_holding (wpAny_subDict (knd := mixKind X.prog X.w) (by simp) ?_)))
  refine evalPairs_cons (thn (hk.run pins _ σ _ _ I4 (q2 _ hb)) fun u s4 ⟨y, H4, I5, ry, q4⟩ => ?_)
  refine wpAny_bind (thn (hv.run pins s4 σ H4 _ I5 q4) fun u2 s5 ⟨z, H5, I6, rz, k0, ey, e1, e2, q5⟩ => ?_)
  subst ey
  refine wpAny_bind (wpAny_standAt (wpAny_pure (evalPairs_nil ?_)))
  obtain ⟨z1, y1, vs0, r0, dd⟩ := dk_of I6.hok e1
  cases r0
  refine ⟨[(k0, u2)], ⟨kV_is ry, rfl, True.intro⟩, dd, fun h' dd' hs => ?_⟩
  have he : ∃ q, h'.get? s3.heap.objs.size = some q := let ⟨q, _, _, hq, _⟩ := dd'; ⟨q, hq⟩
  have I7 := d_write (t' := s5.toks + [(u, u2)].length) I6 (by rw [e1]; exact True.intro) hs he (dk_new (kvs := [(k0, z)]) (by rw [sizeLine_eq]; show 1 ≤ 16777216; decide) y1 (.cons ⟨rfl, rz⟩ .nil) dd')
  have nbd : s3.heap.objs.size ≠ s.heap.objs.size := fun z => by rw [z, upd_same] at hb; cases hb
  refine wpAny_bind (wpAny_onRaise (wpAny_holding (merge_into I7 nbd upd_same (by rw [upd_ne (Ne.symm nbd)]; exact e2) (by show kvs.length + 1 ≤ sizeLine; omega) fun s6 I8 => wpAny_pure (wpAny_pure ?_))))
  exact ⟨.ref s.heap.objs.size, _, I8, rfl, q5⟩
end
end K65
set_option Elab.async false
set_option linter.all false
set_option maxRecDepth 100000
set_option maxHeartbeats 4000000
namespace K65
open PySem PySem.Spec PyProof.Rows L2 SlX
section
variable {X : Cx} {CX : CXT} {a b : Expr} {pos : Pos} {ta tb : TE} {C g : Addr} {n : Nat} {sp : Sp} {E : XK}
/-- o[i], o an instance of an own class with __getitem__ -/
def tSubOwn (C : Addr) (sp : Sp) (E : XK) (ta tb : TE) : TE := fun σ H Q => ta σ H fun x H1 => tb σ H1 fun y H2 => ∃ p dx vs, x = .ref p ∧ Slt H2 p C dx vs ∧ sp [x, y] H2 Q E
theorem pe_subOwn (hs : PySem.W.findIn X.K (.ref C) "__getitem__" = some (some (.ref g))) (hfi : PySem.W.fnIn X.K g = true) (hf : PySem.W.isFn X.K (.ref g) = true) (F : FnR X.prog X.w X.K X.mg X.base CX n g sp) (hr : Room (n + 1) X.A) (hx : Passes CX X E)
    (ha : PE X a ta) (hb : PE X b tb) (hsl : ∀ o i, subscripted b true o i = runValue (.builtin "lifetime.subscript" ⟨[o, i], []⟩) := by intro _ _; with_unfolding_all rfl) : PE X (.Subscript a b pos) (tSubOwn C sp E ta tb) := by
  refine ⟨fun pins s σ H Q I h => ?_⟩
  refine Subscript_ (binT ha hb I h fun v u s2 x y H2 I2 rx ry q => ?_)
  obtain ⟨p, dx, vs, rfl, hsl2, q⟩ := q
  cases (show v = Value.ref p from rx)
  obtain ⟨sl, od, _, J, _⟩ := slt_inst I2 hsl2
  obtain ⟨m, hF⟩ := I2.fr
  refine PySem.W.sub_K hF I2.ok.mod.kin J hs hfi hf ?_ (hsl _ _)
  exact wpAny_call (run_at (us := [.ref p, u]) (ws := [.ref p, y]) F hr.in1 I2.env0.in1 hx I2 (.cons rfl (.cons ry .nil)) q)
/-- x in o -/
def rInOwn (C : Addr) (sp : Sp) (E : XK) (neg : Bool) : R2 := fun x y H Q => ∃ p dx vs, y = .ref p ∧ Slt H p C dx vs ∧ sp [y, x] H (fun z H' => ∃ k, z = .bl k ∧ Q (.bl (if neg then !k else k)) H') E
theorem op_inOwn (hs : PySem.W.findIn X.K (.ref C) "__contains__" = some (some (.ref g))) (hf : PySem.W.isFn X.K (.ref g) = true) (F : FnR X.prog X.w X.K X.mg X.base CX n g sp) (hr : Room n X.A) (hx : Passes CX X E) : OpR X (compareOp .In) (rInOwn C sp E false) := by
  intro pins s σ H x y v u Q I rx ry h
  obtain ⟨p, dx, vs, rfl, hsl2, q⟩ := h
  cases (show u = Value.ref p from ry)
  obtain ⟨sl, od, _, J, _⟩ := slt_inst I hsl2
  obtain ⟨m, hF⟩ := I.fr
  refine PySem.W.in_K hF I.ok.mod.kin J hs hf (thn (wpAny_call (run_fnR (us := [.ref p, v]) (vs := [.ref p, x]) F hr hx I (.cons rfl (.cons rx .nil)) q)) fun r s' ⟨z, H', I', rz, k, ez, qz⟩ => ?_)
  subst ez
  cases (show r = Value.bool k from rz)
  exact wpAny_truthy_bool ⟨.bl k, H', I', rfl, qz⟩
theorem op_notInOwn (hs : PySem.W.findIn X.K (.ref C) "__contains__" = some (some (.ref g))) (hf : PySem.W.isFn X.K (.ref g) = true) (F : FnR X.prog X.w X.K X.mg X.base CX n g sp) (hr : Room n X.A) (hx : Passes CX X E) : OpR X (compareOp .NotIn) (rInOwn C sp E true) := by
  intro pins s σ H x y v u Q I rx ry h
  obtain ⟨p, dx, vs, rfl, hsl2, q⟩ := h
  cases (show u = Value.ref p from ry)
  obtain ⟨sl, od, _, J, _⟩ := slt_inst I hsl2
  obtain ⟨m, hF⟩ := I.fr
  refine PySem.W.notIn_K hF I.ok.mod.kin J hs hf (thn (wpAny_call (run_fnR (us := [.ref p, v]) (vs := [.ref p, x]) F hr hx I (.cons rfl (.cons rx .nil)) q)) fun r s' ⟨z, H', I', rz, k, ez, qz⟩ => ?_)
  subst ez
  cases (show r = Value.bool k from rz)
  exact wpAny_truthy_bool ⟨.bl (!k), H', I', rfl, qz⟩
/-- x op y, two instances of one class -/
def rBinOwn (C : Addr) (sp : Sp) (E : XK) : R2 := fun x y H Q => ∃ p dx vs q dy ws, x = .ref p ∧ y = .ref q ∧ Slt H p C dx vs ∧ Slt H q C dy ws ∧ sp [x, y] H Q E
theorem op_binOwn {op : Operator} (hc : PySem.W.selfFirst X.K C = true) (hs : PySem.W.findIn X.K (.ref C) (PySem.dunder op.info.2) = some (some (.ref g))) (hf : PySem.W.isFn X.K (.ref g) = true) (F : FnR X.prog X.w X.K X.mg X.base CX n g sp) (hr : Room n X.A) (hx : Passes CX X E) :
    OpR X (binaryOp op) (rBinOwn C sp E) := by
  intro pins s σ H x y v u Q I rx ry h
  obtain ⟨p, dx, vs, q0, dy, ws, rfl, rfl, h1, h2, q⟩ := h
  cases (show v = Value.ref p from rx)
  cases (show u = Value.ref q0 from ry)
  obtain ⟨sl, od, _, J, _⟩ := slt_inst I h1
  obtain ⟨sl', od', _, J', _⟩ := slt_inst I h2
  obtain ⟨m, hF⟩ := I.fr
  refine PySem.W.binop_K hF I.ok.mod.kin J J'.type hc hs hf (thn (wpAny_call (run_fnR (us := [.ref p, .ref q0]) (vs := [.ref p, .ref q0]) F hr hx I (.cons rfl (.cons rfl .nil)) q)) fun r s' ⟨z, H', I', rz, qz⟩ => ?_)
  exact cmpback rz ⟨z, H', I', rz, qz⟩
end
end K65
set_option Elab.async false
set_option linter.all false
set_option maxRecDepth 100000
set_option maxHeartbeats 4000000
namespace K65
open PySem PySem.Spec PyProof.Rows L2 SlX
/-! ### enumerate over a tuple -/
def Ieu (K : PySem.W.Frag) (a : Addr) : It :=
  ⟨fun i H => ∃ xs x, SqT K H a xs ∧ xs[i]? = some x, fun i H v H' => ∃ T x, v = .ref T ∧ H T = none ∧ H' = upd H T (.tup [.int (i : Nat), x]) ∧ ∀ xs, SqT K H a xs → xs[i]? = some x, fun i H => ∃ xs, SqT K H a xs ∧ xs.length = i⟩
theorem turn_enumT {P : Program} {w : World} {K : PySem.W.Frag} {elts : List Expr} {kk : Nat} {tpos : Pos} (a e it : Addr) : Turn P w K (.Tuple elts kk tpos) (Ieu K a) [e, it] e (fun i h => (∃ old, IsEnum h e it (i : Int) old) ∧ h.IsTupleIter it a i ∧ e ≠ it) where
  mem := by simp
  obj := fun i h st b hb => by
    obtain ⟨⟨old, he⟩, hi, hne⟩ := st
    have hb' : b = e ∨ b = it := by simpa using hb
    obtain ⟨o, ho, hc, hd⟩ := hi
    rcases hb' with z | z
    · rw [z]; exact ⟨_, he, fun v q => nomatch q⟩
    · rw [z]; exact ⟨o, ho, fun v q => by rw [hd] at q; cases q⟩
  keep := fun i h h' st k => let ⟨⟨old, he⟩, hi, hne⟩ := st; ⟨⟨old, k e (by simp) _ he⟩, hi.at fun o q => k it (by simp) o q, hne⟩
  item := by
    intro X hP hw hK hc i pins s σ H E I hf st hg
    subst hP hw hK
    obtain ⟨⟨old, he⟩, hit, hne⟩ := st
    obtain ⟨xs, x, hq, hx⟩ := hg
    obtain ⟨its, rv, p, hz⟩ := I.tuple hq
    obtain ⟨u, hu, ru⟩ := rv.get hx
    have hel : e < s.heap.objs.size := Heap.lt_size he
    have hil : it < s.heap.objs.size := by obtain ⟨_, q, _⟩ := hit; exact Heap.lt_size q
    have hat : a ≠ it := fun z => by
      obtain ⟨o, q1, q2, _⟩ := p
      obtain ⟨o', q1', q2', _⟩ := id hit
      rw [z, q1'] at q1; cases q1; rw [q2'] at q2; exact absurd (Value.type.inj q2) (by decide)
    have hae : a ≠ e := fun z => by
      obtain ⟨o, q1, q2, _⟩ := p
      have he' : s.heap.get? e = some _ := he
      rw [z, he'] at q1; cases q1; exact absurd (Value.type.inj q2) (by decide)
    have D := Draws.tuple (prog := X.prog) (w := X.w) (A := X.A.in1) (I.ok.hd hc) it a hat its.toArray
    have hlt : i < its.toArray.size := by
      have := (List.getElem?_eq_some_iff.mp hu).1
      simpa using this
    refine wpAny_pyNext_enum_itemD D he ⟨hit, p⟩ hlt hne (by simp; exact ⟨hne, Ne.symm hae⟩) fun x' h' tk hPx ho hst' hT hsz hk => ?_
    have hu' : its.toArray[i]? = some u := by simpa using hu
    have hPx : its.toArray[i]? = some x' := hPx
    rw [hu'] at hPx; cases hPx
    refine ⟨_, rfl, wpAny_letOwnedTupleGo_enum (s := { s with heap := h', toks := tk + 1 }) ho fun h'' he' sb => ?_⟩
    have hT2 : h''.get? s.heap.objs.size = some { cls := .type "tuple", data := .seq #[.int i tk, u] } := (sb.2 _ (Nat.ne_of_gt hel)).trans hT
    have new : ObjOk X.prog X.w (upd H s.heap.objs.size (.tup [.int (i : Nat), x])) h'' s.heap.objs.size (.tup [.int (i : Nat), x]) :=
      ⟨by show 2 ≤ sizeLine; decide, [.int i tk, u], .cons ⟨_, rfl⟩ (.cons ru .nil), ⟨_, hT2, rfl, _, rfl⟩⟩
    have I1 : Inv X pins σ (upd H s.heap.objs.size (.tup [.int (i : Nat), x])) { s with heap := h'', toks := tk + 1 } :=
      I.turnedNew (ch := [e, it]) (fun b ob hb q => (sb.2 b (fun z => hb (by simp [z]))).trans (hk b ob (fun z => hb (by simp [z])) (fun z => hb (by simp [z])) q)) hf (Nat.le_refl _) new
    refine ⟨.ref s.heap.objs.size, _, I1, rfl, ⟨_, x, rfl, I.hok.fresh (Nat.le_refl _), rfl, fun ys hy => by rw [I.tuple_inj hy hq]; exact hx⟩, ⟨⟨u, ?_⟩, hst'.1.at fun o q => (sb.2 it (Ne.symm hne)).trans q, hne⟩, fun b hb => ?_⟩
    · have e1 : ((i + 1 : Nat) : Int) = (i : Int) + 1 := by omega
      rw [e1]; exact he'
    · have hb' : b < s.heap.objs.size := by
        have e' : b = e ∨ b = it := by simpa using hb
        rcases e' with z | z
        · rw [z]; exact hel
        · rw [z]; exact hil
      rw [upd_ne (Nat.ne_of_lt hb')]
      exact (hf b hb).1
  done := by
    intro X hP hw hK hc i pins s σ H E I hf st hg
    subst hP hw hK
    obtain ⟨⟨old, he⟩, hit, hne⟩ := st
    obtain ⟨xs, hq, hx⟩ := hg
    obtain ⟨its, rv, p, hz⟩ := I.tuple hq
    obtain ⟨f0, f1, f2, f3, f4, f5⟩ := hf it (by simp)
    have hl := rv.length
    have hat : a ≠ it := fun z => by
      obtain ⟨o, q1, q2, _⟩ := p
      obtain ⟨o', q1', q2', _⟩ := id hit
      rw [z, q1'] at q1; cases q1; rw [q2'] at q2; exact absurd (Value.type.inj q2) (by decide)
    have D := Draws.tuple (prog := X.prog) (w := X.w) (A := X.A.in1) (I.ok.hd hc) it a hat its.toArray
    have e0 : i = its.toArray.size := by simp; omega
    subst e0
    exact wpAny_pyNext_enum_endD D he ⟨hit, p⟩ fun h' eb => ⟨rfl, I.turned (t' := s.toks) (fun b o hb q => eb b o hb q) f0 f1 f3 f4 f5⟩
  self := fun A i s Q E st h => let ⟨⟨_, he⟩, _⟩ := st; wpAny_pyIter_enum he h
set_option maxHeartbeats 4000000 in
theorem meets_enumerate_newB1 {v : Value} {o : Obj} {H : Heap → Prop} (B : Begins v o H) :
    Meets (Builtin.«enumerate.__new__» ⟨[.type "enumerate", v], []⟩) (fun _ R s => H s.heap ∧
      R (.ok (.ret (.ref (s.heap.push o).objs.size))) { s with heap := (s.heap.push o).push { cls := .type "enumerate", data := .fields #[.none, .bool false, .ref s.heap.objs.size, rawInt 0, .none, .none] } }) :=
  .of_wp fun prog w A R s h => by
    obtain ⟨hp, g, d, tk, os⟩ := s; obtain ⟨h1, h⟩ := h
    have hsub := sub_enumerate
    have q1 : ∀ {A' : Around} {E : Value → Shared → Prop} {Q : Value → Shared → Prop}, Q (.ref hp.objs.size) ⟨hp.push o, g, d, tk, os⟩ → wpAny (model prog w) A' (pyIter v) Q E ⟨hp, g, d, tk, os⟩ :=
      fun q => B.iter prog w _ _ ⟨hp, g, d, tk, os⟩ _ h1 q
    wp_walk using q1
    refine wpAny_stack_any fun st => wpAny_pure ?_
    split
    · rename_i c _ _ _ _ _
      cases (c == Value.type "enumerate")
      · wp_walk using q1
        exact ⟨_, rfl, h⟩
      · wp_walk using q1
        exact ⟨_, rfl, h⟩
    · wp_walk using q1
      exact ⟨_, rfl, h⟩
theorem call_enumerate_tup {prog : Program} {w : World} {A : Around} {E : Value → Shared → Prop} {s : Shared} {l : Addr} {items : Array Value} {Q : Value → Shared → Prop} (hL : s.heap.IsTuple l items)
    (h : ∀ h', IsEnum h' (s.heap.objs.size + 1) s.heap.objs.size 0 .none → h'.IsTupleIter s.heap.objs.size l 0 → h'.objs.size = s.heap.objs.size + 2 →
      (∀ b o, s.heap.get? b = some o → h'.get? b = some o) → Q (.ref (s.heap.objs.size + 1)) { s with heap := h' }) :
    wpAny (model prog w) A (call (.type "enumerate") [.ref l]) Q E s := by
  refine callType_new F.called_enumerate (by decide) (F.typeCall_enumerate_1 _) (F.newCall_enumerate_1 _) (fun obj => F.args_object_init_2 obj _) F.entry_enumerate_new
    (meets_enumerate_newB1 (begins_tuple l items)) ⟨hL, ?_⟩
  generalize ho : ({ cls := .type "tuple_iterator", data := .fields #[.ref l, .int 0 0] } : Obj) = o
  have hz : (s.heap.push o).objs.size = s.heap.objs.size + 1 := Heap.size_push ..
  show _ ∧ _
  rw [hz]
  have he : IsEnum ((s.heap.push o).push { cls := .type "enumerate", data := .fields #[.none, .bool false, .ref s.heap.objs.size, rawInt 0, .none, .none] }) (s.heap.objs.size + 1) s.heap.objs.size 0 .none := by
    have := Heap.get?_push_size (s.heap.push o) (o := { cls := .type "enumerate", data := .fields #[.none, .bool false, .ref s.heap.objs.size, rawInt 0, .none, .none] }) rfl
    rw [hz] at this; exact this
  refine ⟨⟨_, he, rfl⟩, h _ he ⟨o, Heap.get?_push_of_some _ (Heap.get?_push_size _ (by rw [← ho]; rfl)), by rw [← ho], by rw [← ho]; rfl⟩ (by rw [Heap.size_push, hz]) fun b o x => Heap.get?_push_of_some _ (Heap.get?_push_of_some _ x)⟩
def iEnumT (K : PySem.W.Frag) (ta : TA) : TI := fun σ H R => ta σ H fun vs H1 => ∃ a xs, vs = [.ref a] ∧ SqT K H1 a xs ∧ R (Ieu K a) H1
theorem pi_enumT {X : Cx} {e : Expr} {ta : TA} {p pos tpos : Pos} {elts : List Expr} {kk : Nat} (hg : Gl X "enumerate") (hm : X.mg "enumerate" = none) (ha : PA X [e] ta) (hs : starEach [e] X.env = [(false, eval e X.env)] := by rfl) :
    PI X (.Tuple elts kk tpos) (.Call (.Name "enumerate" p) [e] [] pos) (iEnumT X.K ta) := by
  refine ⟨fun pins s σ H R I h => ?_⟩
  refine Call_ (ld_blt I hg hm boot_enumerate (PyProof.Rows.callWith_type1 (thn (ha.run pos pins s σ H _ I h) fun us s1 ⟨vs, H1, I1, r1, q1⟩ => ?_) hs rfl))
  obtain ⟨a, xs, ex, hq, q⟩ := q1
  subst ex
  cases r1 with
  | cons r rr =>
    cases rr
    cases r
    obtain ⟨its, rv, p', hz⟩ := I1.tuple hq
    refine call_enumerate_tup (show s1.heap.IsTuple a its.toArray from p') fun h' he hit hsz hk => wpAny_pyIter_enum he ?_
    have I2 : Inv X pins σ H1 { s1 with heap := h' } := I1.kept (t' := s1.toks) hk
    refine ⟨s1.heap.objs.size + 1, [s1.heap.objs.size + 1, s1.heap.objs.size], _, _, H1, rfl, I2, turn_enumT a (s1.heap.objs.size + 1) s1.heap.objs.size, ⟨⟨.none, he⟩, hit, Nat.succ_ne_self _⟩, fun b hb => ?_, q⟩
    have e' : b = s1.heap.objs.size + 1 ∨ b = s1.heap.objs.size := by simpa using hb
    have hle : s1.heap.objs.size ≤ b := by
      rcases e' with z | z
      · rw [z]; exact Nat.le_add_right _ _
      · rw [z]; exact Nat.le_refl _
    exact I1.fpOk hle (I1.hok.fresh hle)
theorem walk_enumT {K : PySem.W.Frag} {a : Addr} {xs : List V} : Walk (Ieu K a) xs.length (fun H => SqT K H a xs) (fun i H v H' => ∃ T x, v = .ref T ∧ H T = none ∧ H' = upd H T (.tup [.int (i : Nat), x]) ∧ xs[i]? = some x) :=
  ⟨fun i _ hi q => ⟨xs, xs[i], q, by simp [hi]⟩, fun _ q => ⟨xs, q, rfl⟩, fun _ _ _ _ _ q ⟨T, x, e1, e2, e3, y⟩ => ⟨T, x, e1, e2, e3, y xs q⟩⟩
end K65
set_option Elab.async false
set_option linter.all false
set_option maxRecDepth 100000
set_option maxHeartbeats 4000000
namespace K65
open PySem PySem.Spec PyProof.Rows L2 SlX
open PySem.AutoSeq1 in
theorem list_extend_tup (l : Addr) (items : Array Value) (n : Nat) (b : Addr) (od : Option Addr) (sl : Array (Option Value)) (items2 : Array Value) (n2 : Nat) (hs0 : ¬(!items.isEmpty && Builtin.List.listTooLong (items.size + items2.size)) = true) (hs1 : items.size ≤ sizeLine) (hs2 : items.size + items2.size ≤ sizeLine + 1) :
    Meets (Builtin.«list.extend» ⟨[.ref l, .ref b], []⟩) (fun _ R s => s.heap.get? l = some { cls := .type "list", dict := none, data := .seq items n, slots := #[] } ∧ s.heap.get? b = some { cls := .type "tuple", dict := od, data := .seq items2 n2, slots := sl } ∧ R (.ok (.ret Value.none)) { s with heap := s.heap.update l (Obj.mapSeq fun x => x ++ items2), toks := s.toks }) :=
  .of_wp fun prog w A R s h => by
    obtain ⟨hp, g, d, tk, os⟩ := s; obtain ⟨hl, hb, h⟩ := h
    have hz' : (items ++ items2).size ≤ sizeLine + 1 := by rw [Array.size_append]; exact hs2
    have hT : Shared.TypeIs ⟨hp, g, d, tk, os⟩ (.ref b) "tuple" := ⟨_, hb, rfl⟩
    unfold Builtin.«list.extend»
    show wpAny _ _ (Builtin.List.listExtendWith (.ref l) (.ref b) .none) _ _ _
    unfold Builtin.List.listExtendWith
    refine wpAny_bind (wpAny_typeOf hT ?_)
    have h1 : (Builtin.List.listSameRef (.ref l) (.ref b) || Value.type "tuple" == Value.type "list" || Value.type "tuple" == Value.type "tuple") = true := by simp
    simp only [h1, if_true]
    refine wpAny_bind ?_
    unfold Builtin.List.listItems
    refine wpAny_bind (wpAny_seqItems hb rfl (wpAny_pure ?_))
    refine wpAny_bind ?_
    refine wpAny_bind (wpAny_seqItems hl rfl (wpAny_pure ?_))
    rw [if_neg hs0]
    refine wpAny_bind ?_
    unfold Builtin.List.listUpdate
    exact wpAny_updateSeq hl rfl (hz := hs1) (_hz' := hz') (wpAny_pure ⟨_, rfl, h⟩)
section
variable {X : Cx}
/-! ### *xs in a display -/
theorem star_lst {pins : List (Addr × Obj)} {σ : L2.St} {H : Hp} {s : Shared} {a : Addr} {xs : List V} {E : Value → Shared → Prop} {Q : List Value → Shared → Prop} (I : Inv X pins σ H s) (h : SqL X.K H a xs) (hQ : ∀ us s', Inv X pins σ H s' → Vals xs us → Q us s') :
    PySem.W.StarOf (model X.prog X.w) X.A E (.ref a) Q s := by
  obtain ⟨its, r, ⟨o, n, ho, hc, hdd, hd⟩, hz⟩ := I.list h
  have hT : s.TypeIs (.ref a) "list" := ⟨o, ho, hc⟩
  have hl := r.length
  have z : wpAny (model X.prog X.w) X.A (collect (.ref a)) Q E s := by
    refine wpAny_collect_seq a (.inl rfl) ho hc hd (fun h' hk => ?_) (by rw [List.size_toArray]; omega)
    have e : its.toArray.toList = its := by simp
    rw [e]
    exact hQ its _ (I.kept (t' := s.toks) hk) r
  unfold PySem.W.StarOf notIterableAtAll
  exact wpAny_bind (wpAny_specialOf hT PySem.F.slot_list_iter.lookup (wpAny_pure ⟨rfl, z⟩))
def tStarL (K : PySem.W.Frag) (te : TE) (tr : TA) : TA := fun σ H Q => te σ H fun x H1 => ∃ a xs, x = .ref a ∧ SqL K H1 a xs ∧ tr σ H1 fun ys H2 => Q (xs ++ ys) H2
theorem pa_star {e : Expr} {es : List Expr} {te : TE} {t : TA} {p : Pos} (ha : PE X e te) (hr : PA X es t) : PA X (.Starred e p :: es) (tStarL X.K te t) := by
  refine ⟨fun pos pins s σ H Q I h => ?_⟩
  show wpAny _ _ (spliced ((true, do let v ← eval e X.env; standAt pos; pure v) :: backTo pos (starEach es X.env))) _ _ s
  refine PySem.W.ks_spliced (thn (ha.run pins s σ H _ I h) fun u s1 ⟨x, H1, I1, rx, a, xs, ex, hq, q1⟩ => ?_)
  subst ex
  obtain rfl : u = Value.ref a := rx
  refine star_lst I1 hq fun us s2 I2 r2 => ?_
  exact thn (hr.run pos pins s2 σ H1 _ I2 q1) fun ws s3 ⟨ys, H3, I3, r3, q3⟩ => ⟨xs ++ ys, H3, I3, r2.append r3, q3⟩
/-! ### xs[i] for xs[i] += .. -/
theorem pget_list : PGet X (fun o i H Q => ∃ p xs k v, o = .ref p ∧ i = .int k ∧ SqL X.K H p xs ∧ 0 ≤ k ∧ k < xs.length ∧ xs[k.toNat]? = some v ∧ Q v H) := by
  intro pins s σ H o i ov iv Q I ro ri h
  obtain ⟨p, xs, k, v, rfl, rfl, hq, h0, h1, hv, q⟩ := h
  cases ro
  obtain ⟨t, rfl⟩ := ri
  obtain ⟨its, r, pl, hz⟩ := I.list hq
  obtain ⟨u, hu, ru⟩ := r.get hv
  have hl := line63
  exact wpAny_getItem_list pl.isList h0 (by omega) (by simpa using hu) ⟨v, H, I, ru, q⟩
/-! ### xs.extend(a tuple) -/
def rExtT (K : PySem.W.Frag) : V → List V → Hp → VK → Prop := fun x vs H Q => ∃ l b xs zs, x = .ref l ∧ vs = [.ref b] ∧ H l = some (.lst xs) ∧ SqT K H b zs ∧ xs.length + zs.length ≤ sizeLine ∧ Q .non (upd H l (.lst (xs ++ zs)))
theorem mt_extT : MtM X "list.extend" (rExtT X.K) := by
  intro pins s σ H x vs v us Q I rx rv h
  obtain ⟨l, b, xs, zs, rfl, rfl, hH, hB, hz, q⟩ := h
  cases rx
  obtain ⟨u, rfl, ru⟩ := rv.one
  cases ru
  obtain ⟨z, its, n, r, hl, e⟩ := I.lstM hH
  obtain ⟨its2, r2, ⟨o2, e2, c2, n2, d2⟩, hz2⟩ := I.tuple hB
  have hl2 := r2.length
  have hsz : its.toArray.size + its2.toArray.size ≤ sizeLine := by rw [List.size_toArray, List.size_toArray]; omega
  have hlong : ¬ (!its.toArray.isEmpty && Builtin.List.listTooLong (its.toArray.size + its2.toArray.size)) = true := by
    rw [notLongL hsz, Bool.and_false]
    exact Bool.false_ne_true
  obtain ⟨oc, od, dt, sl⟩ := o2
  have c2 : oc = .type "tuple" := c2
  have d2 : dt = .seq its2.toArray n2 := d2
  subst c2 d2
  refine call_meets F.slot_list_extend ⟨_, e, rfl⟩ F.entry_list_extend (F.args_list_extend_2 _ _)
    (list_extend_tup l its.toArray n b od sl its2.toArray n2 hlong (by rw [List.size_toArray]; omega) (by omega)) ⟨e, e2, ?_⟩
  refine ⟨.non, _, I.lset (its' := its ++ its2) hH e (by simp) (r.append r2) ?_, rfl, q⟩
  rw [List.length_append]
  omega
/-! ### an attribute with a slot as a target -/
def gSl (K : PySem.W.Frag) (ta : TE) (f : Str) : TG := fun y σ H Q => ta σ H fun x H2 => ∃ a C dx p vs i, x = .ref a ∧ Slt H2 a C dx vs ∧ SCls K C ∧ Slot1 K C f p i ∧ Q σ (slH H2 a C dx (putS i y vs))
theorem pg_sl {o : Expr} {f : Str} {pos : Pos} {ta : TE} (ha : PE X o ta) : PG X (.Attribute o f pos) (gSl X.K ta f) := by
  refine ⟨fun pins s σ H y u Q I ry h => ?_⟩
  rw [arm_assign_Attribute]
  refine wpAny_bind (wpAny_holding (thn (ha.run pins s σ H _ I h) fun ov s1 ⟨x, H2, I2, rx, a, C, dx, p, vs, i, ex, hsl, c, t, q2⟩ => ?_))
  subst ex
  obtain rfl : ov = Value.ref a := rx
  refine wpAny_bind (wpAny_standAt (wpAny_bind (wpAny_holding (setslot_ok I2 hsl c t ry fun s3 I3 => ?_))))
  exact wpAny_release ⟨σ, _, I3, q2⟩
/-! ### min of data -/
def rMinD (K : PySem.W.Frag) : List V → Hp → VK → Prop := fun vs H Q => ∃ a items d ds, vs = [.ref a] ∧ SqL K H a items ∧ DpAll K H items (d :: ds) ∧ PySem.W.AlikeAll (d :: ds) ∧ PyData.canLayAll0 (d :: ds) = true ∧ PyData.depthAll (d :: ds) ≤ 8 ∧
  ∀ (i : Nat) y, items[i]? = some y → (d :: ds)[i]? = some (PySem.W.minD d ds) → Q y H
theorem vals_back : ∀ {xs : List V} {us : List Value} {i : Nat} {u : Value}, Vals xs us → us[i]? = some u → ∃ x, xs[i]? = some x ∧ RelV x u
  | _, _, _, _, .nil, e => by simp at e
  | _, _, 0, _, .cons r _, e => by simp at e; subst e; exact ⟨_, rfl, r⟩
  | _, _, i + 1, u, .cons _ t, e => by
    obtain ⟨x, h1, h2⟩ := vals_back (i := i) (u := u) t (by simpa using e)
    exact ⟨x, by simpa using h1, h2⟩
theorem lay_at : ∀ {ds : List PyData} {i : Nat} {d : PyData}, PyData.canLayAll0 ds = true → ds[i]? = some d → d.canLay0 = true
  | [], _, _, _, e => by simp at e
  | x :: xs, 0, d, h, e => by
    have h' : x.canLay0 = true ∧ PyData.canLayAll0 xs = true := by simpa [PyData.canLayAll0] using h
    have : x = d := by simpa using e
    rw [← this]; exact h'.1
  | x :: xs, i + 1, d, h, e => by
    have h' : x.canLay0 = true ∧ PyData.canLayAll0 xs = true := by simpa [PyData.canLayAll0] using h
    exact lay_at (i := i) h'.2 (by simpa using e)
theorem cr_minD {k : Nat} (hc : X.calm = true) (hr : Room k X.A) : CallR X (.builtin "min") (rMinD X.K) := by
  intro pins s σ H vs us Q I r h
  obtain ⟨a, items, d, ds, rfl, hs, hd, ha, hl0, hdp, q⟩ := h
  obtain ⟨its, rv, pl, hz⟩ := I.list hs
  rw [Vals.ref1 r]
  obtain ⟨as, hrd⟩ := Dp.readsAll I (d :: ds) items its hd rv
  have hu := hr.units
  refine PySem.W.min_list_data (vs := its.toArray) (I.ok.hd hc) pl.isList (by simpa using hrd) ha (by omega) fun i v h' tk bs hv hm hk => ?_
  have hv' : its[i]? = some v := by simpa using hv
  obtain ⟨y, hy, ry⟩ := vals_back rv hv'
  obtain ⟨bs2, r2, hlt, _, _⟩ := PySem.W.readsAll_at hrd i v hv'
  have r3 := PyProof.Rows.Reads.keeps hk r2
  have hdi : (d :: ds)[i]? = some ((d :: ds).getD i .none) := by
    rw [List.getD_eq_getElem?_getD, List.getElem?_eq_getElem hlt]; rfl
  have e := PySem.SeqAt.Reads.unique _ _ _ _ _ (lay_at hl0 hdi) r3 hm
  exact ⟨y, H, I.kept hk, ry, q i y hy (by rw [hdi, e])⟩
end
end K65
set_option Elab.async false
set_option linter.all false
set_option maxRecDepth 100000
set_option maxHeartbeats 4000000
namespace K65
open PySem PySem.Spec PyProof.Rows L2
/-! ### except (A, B, ..) -/
section
open PySem.W
variable {M : Model} {K : PySem.W.Frag}
theorem exmAny_all : ∀ {cs : List Value} {cls : Value} {b : Bool}, exmAny K cls cs = some b → ∀ c ∈ cs, ∃ b1, exmOne K cls c = some b1
  | [], _, _, _, c, hc => by cases hc
  | c :: r, cls, b, h, c', hc => by
    obtain ⟨b1, d1, x1, y1, z1⟩ := exmAny_cons h
    rcases List.mem_cons.mp hc with e | e
    · rw [e]; exact ⟨b1, x1⟩
    · exact exmAny_all y1 c' e
theorem exm_loop1 {A : Around} {E : Value → Shared → Prop} {cls : Value} {h : Heap} (X : K.In h) : ∀ {cs : List Value} {b : Bool}, exmAny K cls cs = some b → ∀ {s : Shared} {Q : PUnit → Shared → Prop}, (∀ b o, h.get? b = some o → s.heap.get? b = some o) → Q PUnit.unit s →
    wpAny M A (forIn cs PUnit.unit fun c (_ : PUnit) => (do
      if (!(← isExcClass c)) = true then do
        rule "try.except-non-exception-class"
        let _ ← (raiseError "TypeError" "catching classes that do not inherit from BaseException is not allowed" : Sem PUnit)
        pure (ForInStep.yield PUnit.unit)
      else pure (ForInStep.yield PUnit.unit) : Sem (ForInStep PUnit))) Q E s
  | [], b, _, s, Q, k, q => by
    rw [List.forIn_nil]
    exact wpAny_pure q
  | c :: r, b, hx, s, Q, k, q => by
    obtain ⟨b1, d1, x1, y1, z1⟩ := exmAny_cons hx
    obtain ⟨e1, S1⟩ := exm_cls (M := M) X x1
    rw [List.forIn_cons]
    refine wpAny_bind (wpAny_bind (e1 A _ E s k ?_))
    rw [if_neg (by decide)]
    exact wpAny_pure (exm_loop1 X y1 k q)
theorem exm_loop2 {A : Around} {E : Value → Shared → Prop} {cls : Value} {h : Heap} (X : K.In h) : ∀ {cs : List Value} {b : Bool}, exmAny K cls cs = some b → ∀ {s : Shared} {Q : Option Bool × PUnit → Shared → Prop}, (∀ b o, h.get? b = some o → s.heap.get? b = some o) →
    (b = true → Q (some true, ()) s) → (b = false → Q (none, ()) s) →
    wpAny M A (forIn cs ((none, ()) : Option Bool × PUnit) fun c (_ : Option Bool × PUnit) => (do
      let r ← isSubtype cls c
      if r = true then pure (ForInStep.done (some true, ())) else pure (ForInStep.yield (none, ())) : Sem (ForInStep (Option Bool × PUnit)))) Q E s
  | [], b, hx, s, Q, k, q1, q2 => by
    rw [List.forIn_nil]
    have e : some false = some b := hx
    cases e
    exact wpAny_pure (q2 rfl)
  | c :: r, b, hx, s, Q, k, q1, q2 => by
    obtain ⟨b1, d1, x1, y1, z1⟩ := exmAny_cons hx
    obtain ⟨e1, S1⟩ := exm_cls (M := M) X x1
    rw [List.forIn_cons]
    refine wpAny_bind (wpAny_bind (S1 A _ E s k ?_))
    cases b1 with
    | true =>
      rw [if_pos rfl]
      exact wpAny_pure (wpAny_pure (q1 (by rw [z1]; rfl)))
    | false =>
      rw [if_neg (by decide)]
      have ez : b = d1 := by rw [z1]; rfl
      exact wpAny_pure (exm_loop2 X y1 k (fun z => q1 (ez.trans z)) (fun z => q2 (ez.trans z)))
theorem exm_tupN {cs : List Value} {cls : Value} {tp e : Addr} {b : Bool} {h : Heap} {o : Obj} {n : Nat} (X : K.In h) (LT : Looks M h (typeOf (.ref e)) cls) (hp : h.get? tp = some o) (hpc : o.cls = .type "tuple") (hpd : o.data = .seq cs.toArray n) (hx : exmAny K cls cs = some b) :
    Looks M h (excMatches (.ref e) (.ref tp)) b := by
  intro A Q E s k q
  have LT0 : Looks M h (isInstance (.ref tp) (.type "tuple")) true := fun A Q E s k q => wpAny_isInstance (T := "tuple") (b := true) ⟨o, k _ _ hp, hpc⟩ isSubtype_tuple_tuple q
  unfold excMatches
  refine wpAny_bind (LT0 A _ E s k ?_)
  dsimp only
  rw [if_pos rfl]
  first
    | refine wpAny_bind (wpAny_seqItems (k _ _ hp) hpd ?_)
    | refine wpAny_bind (wpAny_bind (wpAny_seqItems (k _ _ hp) hpd (wpAny_pure ?_)))
  dsimp only [Option.getD_some, Option.getD]
  refine wpAny_bind (wpAny_pure ?_)
  refine wpAny_bind (exm_loop1 X hx k ?_)
  refine wpAny_bind (LT A _ E s k ?_)
  refine wpAny_bind (exm_loop2 X hx k ?_ ?_)
  · intro hb
    subst hb
    exact wpAny_pure q
  · intro hb
    subst hb
    exact wpAny_pure q
end
section
open PySem.HandSPX
theorem flying_push {base h : Heap} {l : List Env} {e : Addr} {Z : Obj → Prop} (x : FlyingZ base l e Z h) (o : Obj) : FlyingZ base l e Z (h.push o) := by
  obtain ⟨x1, x2, x3, oe, vs, T, oT, ts, he, hz, hd, h1, hnT, hTe, hT, hdT, h3⟩ := x
  exact ⟨fun b ob e => Heap.get?_push_of_some _ (x1 b ob e), x2, x3.of_keeps fun b ob hb hnf => ⟨ob, Heap.get?_push_of_some _ hb, rfl⟩, oe, vs, T, oT, ts, Heap.get?_push_of_some _ he, hz, hd, h1, hnT, hTe, Heap.get?_push_of_some _ hT, hdT, h3⟩
/-- at a: an exception that was caught, its class, its dict -/
def exH (a : Addr) (cls : Value) (d : Option Addr) : HO := .ext fun h => ∃ oe vs, h.get? a = some oe ∧ Zc cls d oe ∧ oe.data = .fields vs
variable {X : Cx}
theorem names_at {pins : List (Addr × Obj)} {σ : L2.St} {H : Hp} {E : Value → Shared → Prop} : ∀ {es : List Expr} {cs : List Value}, Paired (fun e c => ∃ x p, e = Expr.Name x p ∧ Gl X x ∧ (x == ("__debug__" : Str)) = false ∧ X.mg x = some c) es cs →
    ∀ {pos : Pos} {s : Shared} {Q : List Value → Shared → Prop}, Inv X pins σ H s → Q cs s → wpAny (model X.prog X.w) X.A (spliced (backTo pos (starEach es X.env))) Q E s
  | _, _, .nil, pos, s, Q, I, q => Calls.spliced_nil q
  | _, _, @Paired.cons _ _ _ e c es cs r rs, pos, s, Q, I, q => by
    obtain ⟨x, p, rfl, hg, hd, hm⟩ := r
    show wpAny _ _ (spliced ((false, eval (.Name x p) X.env) :: backTo pos (starEach es X.env))) _ _ s
    exact Calls.spliced_cons (ld_glob I hg hm (names_at rs I q) hd)
/-- a pinned object of ours is tracked from now on -/
theorem track {pins : List (Addr × Obj)} {σ : L2.St} {H : Hp} {s : Shared} {a : Addr} {oe : Obj} {u : HO} (I : Inv X ((a, oe) :: pins) σ H s) (new : X.s_0.heap.get? a = none) (hc : ∀ x c, X.env.cells.lookup x = some c → c ≠ a) (hp : ∀ p ∈ X.pn ++ pins, p.1 ≠ a)
    (ok : ObjOk X.prog X.w (upd H a u) s.heap a u) : Inv X pins σ (upd H a u) s := by
  obtain ⟨pa, na, nL, nF, nc⟩ := I.pin (a, oe) (List.mem_append_right _ List.mem_cons_self)
  have pa : s.heap.get? a = some oe := pa
  have na : H a = none := na
  have nL : a ≠ X.env.locals := nL
  refine ⟨I.ok, I.os, I.bare, ⟨I.base.keep, I.base.slot, fun b o e n hx => ?_, I.base.there, fun b xs e => ?_, fun b o x e => ?_, fun b ps e => ?_⟩, I.loc, I.cell, ?_, fun x c e => ?_, fun p hpp => ?_, fun b o e => ?_, I.len⟩
  · have : b ≠ a := fun z => by rw [z, new] at e; cases e
    rw [upd_ne this]; exact I.base.free b o e n hx
  · have q := I.base.tups b xs e
    rw [upd_ne (ne_of_none q na)]; exact q
  · have q := I.base.frzs b o x e
    rw [upd_ne (ne_of_none q na)]; exact q
  · obtain ⟨m, q⟩ := I.base.tbls b ps e
    exact ⟨m, by rw [upd_ne (ne_of_none q na)]; exact q⟩
  · rw [upd_ne (Ne.symm nL)]; exact I.free
  · rw [upd_ne (hc x c e)]; exact I.freeC x c e
  · obtain ⟨p1, p2, p3, p4, p5⟩ := I.pin p ((List.mem_append.mp hpp).elim (fun z => List.mem_append_left _ z) fun z => List.mem_append_right _ (List.mem_cons_of_mem _ z))
    exact ⟨p1, by rw [upd_ne (hp p hpp)]; exact p2, p3, p4, p5⟩
  · by_cases z : b = a
    · subst z
      rw [upd_same] at e
      cases e
      exact ok
    · rw [upd_ne z] at e
      exact (I.hok b o e).stay (fun c v _ q => q) (fun c q => by rw [upd_ne (ne_of_none q na)]; exact q) fun c xs q => by rw [upd_ne (ne_of_none q na)]; exact q
/-- try: .. except (A, B, ..) as n: suite, where all that may leave the body is one of these; behind it the exception stays, tracked at its address -/
def wKeep (K : PySem.W.Frag) (cs : List Value) (i : Nat) (ts : Addr → TS) (D : Ends) : WX := fun cls d σ H =>
  PySem.W.exmAny K cls cs = some true ∧ ∀ a, H a = none → ts a { nx := fun σ' H' => H' a = none → D.nx (σ'.set i none) (upd H' a (exH a cls d)), rt := fun _ _ => False } (σ.set i (some (.ref a))) H
theorem ps_try_keep {n : Str} {cs : List Value} {i : Nat} {es : List Expr} {body suite : List Stmt} {b₀ : Stmt} {kk : Nat} {tpos pos pos' : Pos} {tb : WX → TS} {ts : Addr → TS}
    (hs : X.stack = X.env :: X.outer) (hf : X.env.frame = some X.env.locals) (hN : X.N.Nodup) (hi : X.N[i]? = some n) (hln : X.env.kindOf n = some .local) (hex : X.ex = []) (hnc : ∀ x c, X.env.cells.lookup x = some c → False)
    (hc : Paired (fun e c => ∃ x p, e = Expr.Name x p ∧ Gl X x ∧ (x == ("__debug__" : Str)) = false ∧ X.mg x = some c) es cs) (hcl : cs.length ≤ 1000)
    (hb : ∀ (W : WX) (pn : List (Addr × Obj)) (xe : Value → Shared → Prop), Takes (X.tr pn xe) W → PassesOwn (model X.prog X.w) X.A X.env xe → PSs (X.tr pn xe) body (tb W))
    (hsu : ∀ (a : Addr) (oe : Obj) (pn : List (Addr × Obj)), PSs (X.suite a ((a, oe) :: pn)) (b₀ :: suite) (ts a)) :
    PS X (.Try body [.ExceptHandler (some (.Tuple es kk tpos)) (some n) (b₀ :: suite) pos'] [] [] pos) (fun D σ H => tb (wKeep X.K cs i ts D) D σ H) := by
  refine ⟨fun pins s σ H D I h => ?_⟩
  have ok := I.ok
  have hfr : X.A.frames = some (X.env :: X.outer) := by rw [ok.frames, hs]
  have hloc : Loc X.env.scope n := .inl hln
  refine wpAny_Try_except ?_
  refine wpAny_mono ((hb (wKeep X.K cs i ts D) (X.pn ++ pins) (fun e s₁ => wpAny (model X.prog X.w) X.A (noteFrame e X.env) (fun _ s₂ => wpAny (model X.prog X.w) X.A (setFlight e none) (fun _ s₃ =>
    wpAny (model X.prog X.w) X.A (handleBy e X.env [.ExceptHandler (some (.Tuple es kk tpos)) (some n) (b₀ :: suite) pos']) (SP X pins D) X.xe s₃) X.xe s₂) X.xe s₁) (fun u s' xx => ?_) PassesOwn.looking).run [] s σ H D (I.toTry _) h) (fun f s1 hsp => ?_) (fun e s1 he => he)
  · -- the catch
    obtain ⟨a, B, sI, pins', σ', H', cls, d, rfl, J', nb, up, sky, na, os, ag, hb1, hyes⟩ := xx
    have J : Inv X pins σ' H' sI := J'.ofTry ok
    have sky' : Sky B (X.env :: X.outer) a (Zc cls d) X.env.locals s'.heap := by rw [← hs]; exact sky
    show wpAny (model X.prog X.w) X.A (noteFrame (.ref a) X.env) _ _ _
    refine Sky.land Zc.steady hfr hf sky' fun h3 fl3 up3 => ?_
    have J3 : Inv X pins σ' H' { s' with heap := h3 } := J.landed nb fl3.1 (up.trans up3) os ag
    obtain ⟨oe3, vs3, he3, hz3, hd3⟩ := fl3.there
    have notFr : ∀ {h : Heap} {o : Obj} {vs : Array Value}, h.FunFrames B (X.env :: X.outer) → h.get? a = some o → o.data = .fields vs → a ∉ frs (X.env :: X.outer) := fun {h o vs} ff e dd hm => by
      obtain ⟨_, o', e', hnf⟩ := ff.mem hm
      rw [e] at e'; cases e'
      exact hnf _ dd
    have nfr := notFr fl3.2.2.1 he3 hd3
    have nL : a ≠ X.env.locals := fun z => nfr (List.mem_filterMap.mpr ⟨X.env, List.mem_cons_self, by rw [hf, z]⟩)
    have nF : a ∉ X.fs := fun hm => by
      obtain ⟨e, he, q⟩ := List.mem_filterMap.mp hm
      exact nfr (List.mem_filterMap.mpr ⟨e, List.mem_cons_of_mem _ he, q⟩)
    -- a is new
    have newI : sI.heap.get? a = none := by
      cases q : sI.heap.get? a with
      | none => rfl
      | some o =>
        have := nb a o q (by rw [hs]; exact nfr)
        rw [fl3.2.1] at this; cases this
    have new0 : X.s_0.heap.get? a = none := by
      cases q : X.s_0.heap.get? a with
      | none => rfl
      | some o =>
        obtain ⟨o', e⟩ := J.base.there a o q (by rw [hex]; simp)
        rw [newI] at e; cases e
    have newP : ∀ p ∈ X.pn ++ pins, p.1 ≠ a := fun p hp z => by
      have := (J.pin p hp).1
      rw [z, newI] at this; cases this
    have S3 := J3.suite he3 hd3 na nL nF
    refine wpAny_handleBy_cons (codeAny_handlers_test ?_) (by intro q; cases q)
    -- the test
    refine wpAny_Tuple_spliced (names_at (X := X.suite a ((a, oe3) :: (X.pn ++ pins))) hc S3 ⟨Nat.le_trans hcl (by rw [sizeLine_eq]; decide), ?_⟩)
    generalize ht : ({ cls := .type "tuple", data := .seq cs.toArray } : Obj) = tup
    have hk : ∀ b o, h3.get? b = some o → (h3.push tup).get? b = some o := fun b o e => Heap.get?_push_of_some _ e
    have J3' : Inv X pins σ' H' { s' with heap := h3.push tup } := J3.kept (t' := s'.toks) hk
    have fl3' := flying_push fl3 tup
    have htp : (h3.push tup).get? h3.objs.size = some tup := Heap.get?_push_size _ (by rw [← ht]; rfl)
    have LT : PySem.W.Looks (model X.prog X.w) (h3.push tup) (typeOf (.ref a)) cls := fun A Q E s k q => wpAny_typeOf_ref (k _ _ (hk _ _ he3)) (by rw [hz3.1]; exact q)
    have LM := exm_tupN (M := model X.prog X.w) (n := 0) J3'.kIn LT htp (by rw [← ht]) (by rw [← ht]) hb1
    refine LM.here ?_
    show codeAny _ _ _ _ _
    refine codeAny_handlers_suite_as ?_
    refine HandSPX.lands_againZ fl3' fun h4 fl4 up4 => ?_
    have J4 : Inv X pins σ' H' { s' with heap := h4 } := J.landed nb fl4.1 ((up.trans (up3.trans (Heap.UpToSlots.of_keeps hk))).trans up4) os ag
    obtain ⟨oe4, vs4, he4, hz4, hd4⟩ := fl4.there
    have S4 := J4.suite he4 hd4 na nL nF
    refine store_ok (X := X.suite a ((a, oe4) :: (X.pn ++ pins))) (v := .ref a) S4 hN hi hloc rfl (fun s5 S5 => ?_) (.inr hln)
    refine wpAny_mono ((hsu a oe4 (X.pn ++ pins)).run [] s5 _ H' _ S5 (hyes a na)) (fun f s6 hsp => ?_) (fun _ _ z => False.elim z)
    cases f with
    | next =>
      obtain ⟨σ6, H6, S6, q6⟩ := hsp
      have pinA := S6.pin (a, oe4) (List.mem_append_left _ List.mem_cons_self)
      have S7 : Inv X ((a, oe4) :: pins) σ6 H6 s6 := ⟨ok, S6.os, S6.bare, S6.base, S6.loc, S6.cell, S6.free, S6.freeC, fun p hp => S6.pin p (by
        rcases List.mem_append.mp hp with z | z
        · exact List.mem_append_left _ (List.mem_cons_of_mem _ (List.mem_append_left _ z))
        · rcases List.mem_cons.mp z with z | z
          · rw [z]; exact List.mem_append_left _ List.mem_cons_self
          · exact List.mem_append_left _ (List.mem_cons_of_mem _ (List.mem_append_right _ z))), S6.hok, S6.len⟩
      refine gone_ok S7 hN hi hln fun s7 J7 => ?_
      have p7 := J7.pin (a, oe4) (List.mem_append_right _ List.mem_cons_self)
      exact ⟨_, _, track (u := exH a cls d) J7 new0 (fun x c e => (hnc x c e).elim) newP (show ObjOk X.prog X.w _ _ _ (HO.ext _) from ⟨⟨oe4, vs4, p7.1, hz4, hd4⟩, ⟨oe4, p7.1⟩, fun h1 h2 ⟨o, v, e, z, d⟩ k => ⟨o, v, k o e, z, d⟩⟩), q6 pinA.2.1⟩
    | brk =>
      obtain ⟨σ6, H6, S6, q6⟩ := hsp
      exact False.elim q6
    | cont =>
      obtain ⟨σ6, H6, S6, q6⟩ := hsp
      exact False.elim q6
    | ret u =>
      obtain ⟨v6, σ6, H6, S6, r6, q6⟩ := hsp
      exact False.elim q6
  · cases f with
    | next =>
      obtain ⟨σ', H', J', q⟩ := hsp
      exact wpAny_execs_nil ⟨σ', H', J'.ofTry ok, q⟩
    | brk =>
      obtain ⟨σ', H', J', q⟩ := hsp
      exact ⟨σ', H', J'.ofTry ok, q⟩
    | cont =>
      obtain ⟨σ', H', J', q⟩ := hsp
      exact ⟨σ', H', J'.ofTry ok, q⟩
    | ret u =>
      obtain ⟨v, σ', H', J', r, q⟩ := hsp
      exact ⟨v, σ', H', J'.ofTry ok, r, q⟩
end
end K65
set_option Elab.async false
set_option linter.all false
set_option maxRecDepth 100000
set_option maxHeartbeats 4000000
namespace K65
open PySem PySem.Spec PySem.Calls PyProof.Rows PySem.W
section
variable {prog : Program} {w : World} {A : Around} {E : Value → Shared → Prop} {s : Shared} {K : PySem.W.Frag} {x D : Addr} {ox : Obj}
theorem kin_classO {od : Option Obj} {Q : Option Value → Shared → Prop} (hga : findIn K (.ref D) "__getattribute__" = some (some (.builtin "BaseException.__getattribute__"))) (hgt : findIn K (.ref D) "__getattr__" = some none) (hsub : subIn K (.ref D) (.type "BaseException") = some true)
    (hdct : hasDictIn K D = true) (ha : findIn K (.ref D) "__class__" = some (some (.builtin "object.__class__")))
    (hn : specialIn K (.builtin "object.__class__") "__get__" = some (some (.builtin "getset_descriptor.__get__"))) (htk : takesIn K (.builtin "object.__class__") = some true) (hm : mroIn K D (.type "object") = some true)
    (hf : findObj K D od "__class__" = some (.bind (.builtin "getset_descriptor.__get__") (.builtin "object.__class__"))) (X : K.In s.heap) (I : InstAt s.heap x ox D od) (h : Q (some (.ref D)) { s with toks := s.toks + 1 }) : wpAny (model prog w) A (getAttr? (.ref x) "__class__") Q E s := by
  obtain ⟨hp, g, d, t, os⟩ := s
  have L0 := I.type (M := model prog w)
  have L1 := looks_findIn (M := model prog w) X hga
  have L2 := looks_findIn (M := model prog w) X hgt
  have L3 := looks_find (M := model prog w) X I hf
  have sub : Looks (model prog w) hp (isInstance (.ref x) (.type "BaseException")) true := L0.andThen (looks_subIn X hsub)
  have hx0 : (false && onTheHeap (Value.builtin "BaseException.__getattribute__")) = false := rfl
  have hx2 : (Value.builtin "BaseException.__getattribute__" == Value.builtin "object.__getattribute__") = false := by decide +kernel
  have hx1 : (onTheHeap (Value.ref D) && Value.builtin "BaseException.__getattribute__" == Value.builtin "object.__getattribute__") = false := by rw [hx2]; rfl
  unfold getAttr? getAttrBy? getAttrBy
  refine wpAny_bind (wpAny_mkText (wpAny_bind (wpAny_attempt (wpAny_holding (wpAny_bind (L0.at (wpAny_bind (L1.at ?_))))))))
  show wpAny _ _ (if (onTheHeap (Value.ref D) && Value.builtin "BaseException.__getattribute__" == Value.builtin "object.__getattribute__") = true then _ else _) _ _ _
  rw [hx1, if_neg Bool.false_ne_true]
  unfold getAttrByItsOwn hookBefore
  refine wpAny_bind ?_
  rw [if_pos (show onTheHeap (Value.ref D) = true from rfl)]
  refine L2.at ?_
  refine wpAny_bind (wpAny_attempt (wpAny_holding ?_))
  unfold callGetattribute
  rw [hx0, if_neg Bool.false_ne_true]
  unfold boundAndCalled
  rw [PySem.F.excAttr_ValueError.ga.bind (.ref x)]
  refine wpAny_bind (wpAny_pure ?_)
  show wpAny _ _ (call (.builtin "BaseException.__getattribute__") [.ref x, .str "__class__" t]) _ _ _
  refine wpAny_call (codeAny_call_builtin PySem.F.excAttr_ValueError.ga.plain PySem.F.entry_bexc_ga ?_)
  refine @check_slot (model prog w) _ _ ⟨hp, g, d, t + 1, os⟩ "BaseException.__getattribute__" "BaseException" "__getattribute__" (.ref x) [.str "__class__" t] [] _ (by decide +kernel) (by decide +kernel) sub (PySem.F.args_bexc_ga (.ref x) (.str "__class__" t)) ?_
  unfold Builtin.«object.__getattribute__»
  refine wpAny_bind (wpAny_of_eq (a := ((Value.ref x : Value), [Value.str "__class__" t])) (by first | rfl | (simp only [slotArgs]; rfl)) ?_)
  refine wpAny_bind (wpAny_pure (wpAny_bind (L0.at (wpAny_bind (L3.at ?_)))))
  show wpAny _ _ (holding [Value.builtin "object.__class__"] (call (.builtin "getset_descriptor.__get__") [.builtin "object.__class__", .ref x, .ref D]) >>= ret) _ _ _
  refine wpAny_bind (wpAny_holding (wpAny_call (class_get (s := ⟨hp, g, d, t + 1, os⟩) (ox := ox) (od := od) X I hm ?_)))
  refine wpAny_pure ?_
  show wpAny _ _ (handedOut (.ref D)) _ _ _
  rw [handedOut_of (v := .ref D) rfl]
  first
    | exact wpAny_pure (wpAny_pure h)
    | exact wpAny_pure h
    | exact wpAny_pure (wpAny_bind (wpAny_pure (wpAny_pure h)))
theorem kitx_excO {od : Obj} (hga : findIn K (.ref D) "__getattribute__" = some (some (.builtin "BaseException.__getattribute__"))) (hgt : findIn K (.ref D) "__getattr__" = some none) (hsub : subIn K (.ref D) (.type "BaseException") = some true) (hdct : hasDictIn K D = true) (ha : findIn K (.ref D) "__class__" = some (some (.builtin "object.__class__")))
    (hn : specialIn K (.builtin "object.__class__") "__get__" = some (some (.builtin "getset_descriptor.__get__"))) (htk : takesIn K (.builtin "object.__class__") = some true) (hm : mroIn K D (.type "object") = some true) :
    KitX K (.ref x) (.ref D) (fun h => InstAt h x ox D (some od)) where
  ty := fun _ _ _ I => I.type
  it := fun _ _ X _ => by
    obtain ⟨cdD, hcD, _⟩ := any_some hdct
    unfold clsIn at hcD
    split at hcD
    · rename_i c' d' cd' sl' ho
      intro A' Q' E' s' k q
      unfold isType loadHead
      exact wpAny_bind (wpAny_loadPart (k _ _ (X _ _ ho)) (wpAny_pure q))
    · cases hcD
  ne := fun h tp dd its n sl X htp => by
    obtain ⟨cdD, hcD, _⟩ := any_some hdct
    refine Bool.eq_false_iff.mpr fun q => ?_
    have e : D = tp := Value.ref.inj (beq_iff_eq.mp q)
    subst e
    unfold clsIn at hcD
    split at hcD
    · rename_i c' d' cd' sl' ho
      have z := (X _ _ ho).symm.trans htp
      cases z
    · cases hcD
  ca := fun X I k => kin_classO hga hgt hsub hdct ha hn htk hm (findObj_data (by obtain ⟨cd, hc, _⟩ := any_some hdct; rw [hc]; rfl) ha hn htk) X I k
end
end K65
namespace K65
open PySem PySem.Spec PyProof.Rows L2
/-! ### a caught exception as a value -/
theorem exH_inst {X : Cx} {pins : List (Addr × Obj)} {σ : L2.St} {H : Hp} {s : Shared} {a C dd : Addr} {fs : List (Str × V)} (I : Inv X pins σ H s) (ha : H a = some (exH a (.ref C) (some dd))) (hd : H dd = some (.xd fs)) :
    ∃ oe od, PySem.W.InstAt s.heap a oe C (some od) ∧ ∀ f, RelO (fs.lookup f) ((PySem.W.lookIn f od).getD none) ∧ PySem.W.lookIn f od = some ((PySem.W.lookIn f od).getD none) := by
  have h0 : ObjOk X.prog X.w H s.heap a (HO.ext _) := I.hok a _ ha
  obtain ⟨⟨oe, vs, e, hz, hv⟩, _, _⟩ := h0
  have hx : ObjOk X.prog X.w H s.heap dd (.xd fs) := I.hok dd _ hd
  obtain ⟨mA, hns, hr⟩ := hx
  obtain ⟨od, ho, hl⟩ := lookIn_ns hns
  refine ⟨oe, od, ⟨e, hz.1, by unfold PySem.W.notCls; rw [hv] <;> rfl, by rw [hz.2]; exact ho⟩, fun f => ?_⟩
  rw [hl f]
  exact ⟨hr f, rfl⟩
/-- isinstance(e, c) -/
def rIsX (K : PySem.W.Frag) : List V → Hp → VK → Prop := fun xs H Q => ∃ (a D dd : Addr) (fs : List (Str × V)) (c : Addr) (b : Bool), xs = [.ref a, .ref c] ∧ H a = some (exH a (.ref D) (some dd)) ∧ H dd = some (.xd fs) ∧ ExcC K D ∧ PySem.W.kitOne K (.ref D) (.ref c) = some b ∧ Q (.bl b) H
theorem call_isX {X : Cx} : CallR X (.builtin "isinstance") (rIsX X.K) := by
  intro pins s σ H xs us Q I r h
  obtain ⟨a, D, dd, fs, c, b, rfl, ha, hd, C, e, q⟩ := h
  obtain ⟨u1, u2, rfl, r1, r2⟩ := r.two
  cases (show u1 = Value.ref a from r1)
  cases (show u2 = Value.ref c from r2)
  obtain ⟨oe, od, J, _⟩ := exH_inst I ha hd
  exact PySem.W.kia_one (kitx_excO C.hg C.hk C.hs C.hd C.ha C.hn C.ht C.hm) I.kIn J e (fun z => nomatch z) fun tk => ⟨.bl b, H, I.tok tk, rfl, q⟩
/-- e.f -/
def tXfT (K : PySem.W.Frag) (f : Str) (te : TE) : TE := fun σ H Q => te σ H fun x H1 => ∃ (a C dd : Addr) (fs : List (Str × V)) (v : V), x = .ref a ∧ H1 a = some (exH a (.ref C) (some dd)) ∧ H1 dd = some (.xd fs) ∧ XfC K C ∧ PySem.W.findIn K (.ref C) f = some none ∧ fs.lookup f = some v ∧ Q v H1
theorem pe_xfT {X : Cx} {e : Expr} {te : TE} {pos : Pos} {n : Str} (he : PE X e te) (hb : attributeBase e n X.env (eval e X.env) = eval e X.env := by rfl) : PE X (.Attribute e n pos) (tXfT X.K n te) := by
  refine ⟨fun pins s σ H Q I h => ?_⟩
  refine attr_of hb (thn (he.run pins s σ H _ I h) fun u s1 hh => ?_)
  obtain ⟨x, H1, I1, rx, a, C, dd, fs, v, ex, ha, hd, T, hno, l, q⟩ := hh
  subst ex
  obtain rfl : u = Value.ref a := rx
  obtain ⟨oe, od, J, hl⟩ := exH_inst I1 ha hd
  obtain ⟨h1, h2⟩ := hl n
  obtain ⟨u, hu, ru⟩ := RelO.some_of (v := v) (by rw [← l]; exact h1)
  exact HandSPX.exc_get I1.kIn J T.ga T.gg T.exC (PySem.W.findObj_own T.hdC hno rfl (by rw [h2, hu])) (handed_of ru) ⟨v, H1, I1.tok _, ru, q⟩
end K65
set_option linter.all false
namespace K65
/-! The plain side: rows, ways, gaps. -/
inductive Wd | add | floor | cap
  deriving DecidableEq
abbrev Ev := Wd × Int
def behind (l : Int) (e : Ev) : Int := match e with
  | (.add, n) => l + n
  | (.floor, n) => max l n
  | (.cap, n) => min l n
def endOf (row : List Ev) (s : Int) : Int := row.foldl behind s
def levelsTail : List Ev → Int → List Int
  | [], _ => []
  | e :: r, s => behind s e :: levelsTail r (behind s e)
def levelsOf (row : List Ev) (s : Int) : List Int := s :: levelsTail row s
def kept (l : Int) (f c : Option Int) : Int :=
  let l' := match f with
    | none => l
    | some f => max l f
  match c with
  | none => l'
  | some c => min l' c
structure Wy where
  sh : Option Int
  fl : Option Int
  cp : Option Int
def fixedB (fl cp : Option Int) : Bool := match fl, cp with
  | some f, some c => decide (f = c)
  | _, _ => false
def crossB (fl cp : Option Int) : Bool := match fl, cp with
  | some f, some c => decide (c < f)
  | _, _ => false
def mkW (sh fl cp : Option Int) : Wy := if fixedB fl cp then ⟨none, fl, cp⟩ else ⟨sh, fl, cp⟩
/-- what makes a Way: not crossed, a shift unless fixed -/
def MkOk (sh fl cp : Option Int) : Prop := crossB fl cp = false ∧ (sh = none → fixedB fl cp = true)
structure WOk (w : Wy) : Prop where
  nc : crossB w.fl w.cp = false
  fx : w.sh = none ↔ fixedB w.fl w.cp = true
theorem mkW_ok {sh fl cp : Option Int} (h : MkOk sh fl cp) : WOk (mkW sh fl cp) := by
  obtain ⟨h1, h2⟩ := h
  unfold mkW
  by_cases e : fixedB fl cp = true
  · rw [if_pos e]; exact ⟨h1, by simp [e]⟩
  · rw [if_neg e]
    refine ⟨h1, ?_⟩
    constructor
    · intro z; exact absurd (h2 z) e
    · intro z; exact absurd z e
def app (w : Wy) (s : Int) : Int := match w.sh with
  | none => w.fl.getD 0
  | some k => kept (s + k) w.fl w.cp
def thenFl (a b : Wy) (more : Int) : Option Int := match a.fl with
  | none => b.fl
  | some f => some (kept (f + more) b.fl b.cp)
def thenCp (a b : Wy) (more : Int) : Option Int := match a.cp with
  | none => b.cp
  | some c => some (kept (c + more) b.fl b.cp)
def thenW (a b : Wy) : Wy := match b.sh with
  | none => mkW none b.fl b.cp
  | some more => mkW (a.sh.map (· + more)) (thenFl a b more) (thenCp a b more)
theorem kept_mono {x y : Int} {f c : Option Int} (h : x ≤ y) : kept x f c ≤ kept y f c := by
  unfold kept
  cases f <;> cases c <;> simp only [] <;> omega
theorem then_mk {a b : Wy} {more : Int} (ha : WOk a) (hb : WOk b) (hm : b.sh = some more) : MkOk (a.sh.map (· + more)) (thenFl a b more) (thenCp a b more) := by
  obtain ⟨sa, fa, ca⟩ := a
  obtain ⟨sb, fb, cb⟩ := b
  simp only at hm
  subst hm
  have h1 := ha.nc
  have h2 := ha.fx
  have h3 := hb.nc
  have h4 := hb.fx
  simp only [crossB, fixedB] at h1 h2 h3 h4
  unfold MkOk thenFl thenCp crossB fixedB kept
  cases fa <;> cases ca <;> cases fb <;> cases cb <;> cases sa <;> simp at * <;> omega
theorem thenW_ok {a b : Wy} (ha : WOk a) (hb : WOk b) : WOk (thenW a b) := by
  unfold thenW
  cases h : b.sh with
  | none => exact mkW_ok ⟨hb.nc, fun _ => hb.fx.mp h⟩
  | some more => exact mkW_ok (then_mk ha hb h)
theorem app_mk {sh fl cp : Option Int} (h : MkOk sh fl cp) (s : Int) (k : Int) (hk : sh = some k) : app (mkW sh fl cp) s = kept (s + k) fl cp := by
  obtain ⟨h1, h2⟩ := h
  subst hk
  unfold mkW app crossB fixedB kept at *
  cases fl <;> cases cp <;> simp at *
  rename_i f c
  by_cases e : f = c
  · subst e; simp; omega
  · simp [e]
theorem app_then {a b : Wy} (ha : WOk a) (hb : WOk b) (s : Int) : app (thenW a b) s = app b (app a s) := by
  obtain ⟨sa, fa, ca⟩ := a
  obtain ⟨sb, fb, cb⟩ := b
  have h1 := ha.nc
  have h2 := ha.fx
  have h3 := hb.nc
  have h4 := hb.fx
  simp only [crossB, fixedB] at h1 h2 h3 h4
  cases sb with
  | none =>
    have e : mkW none fb cb = ⟨none, fb, cb⟩ := by unfold mkW; split <;> rfl
    show app (mkW none fb cb) s = fb.getD 0
    rw [e]
    rfl
  | some m =>
    cases sa with
    | none =>
      cases fa <;> cases ca <;> simp at h1 h2
      rename_i f c
      have e : f = c := by omega
      subst e
      simp only [thenW, app, mkW, thenFl, thenCp, Option.map_none, fixedB]
      simp
    | some k =>
      have := then_mk (more := m) ha hb rfl
      have e := app_mk this s (k + m) rfl
      show app (mkW ((some k).map (· + m)) (thenFl ⟨some k, fa, ca⟩ ⟨some m, fb, cb⟩ m) (thenCp ⟨some k, fa, ca⟩ ⟨some m, fb, cb⟩ m)) s = _
      rw [e]
      unfold app thenFl thenCp kept
      cases fa <;> cases ca <;> cases fb <;> cases cb <;> simp at * <;> omega
def wayEv (e : Ev) : Wy := match e with
  | (.add, n) => mkW (some n) none none
  | (.floor, n) => mkW (some 0) (some n) none
  | (.cap, n) => mkW (some 0) none (some n)
theorem wayEv_ok (e : Ev) : WOk (wayEv e) := by
  obtain ⟨w, n⟩ := e
  cases w <;> exact mkW_ok ⟨rfl, fun z => by cases z⟩
theorem app_ev (e : Ev) (s : Int) : app (wayEv e) s = behind s e := by
  obtain ⟨w, n⟩ := e
  cases w <;> simp [wayEv, mkW, app, fixedB, kept, behind]
def way0 : Wy := mkW (some 0) none none
theorem way0_ok : WOk way0 := mkW_ok ⟨rfl, fun z => by cases z⟩
theorem app_way0 (s : Int) : app way0 s = s := by simp [way0, mkW, app, fixedB, kept]
def wayOf (row : List Ev) : Wy := row.foldl (fun w e => thenW w (wayEv e)) way0
theorem wayFold_ok : ∀ (row : List Ev) (w : Wy), WOk w → WOk (row.foldl (fun w e => thenW w (wayEv e)) w)
  | [], w, h => h
  | e :: r, w, h => wayFold_ok r _ (thenW_ok h (wayEv_ok e))
theorem wayFold_app : ∀ (row : List Ev) (w : Wy) (s : Int), WOk w → app (row.foldl (fun w e => thenW w (wayEv e)) w) s = endOf row (app w s)
  | [], w, s, h => rfl
  | e :: r, w, s, h => by
    show app (r.foldl _ _) s = endOf r (behind (app w s) e)
    rw [wayFold_app r _ s (thenW_ok h (wayEv_ok e)), app_then h (wayEv_ok e), app_ev]
theorem wayOf_ok (row : List Ev) : WOk (wayOf row) := wayFold_ok row _ way0_ok
theorem wayOf_app (row : List Ev) (s : Int) : app (wayOf row) s = endOf row s := by
  unfold wayOf
  rw [wayFold_app _ _ _ way0_ok, app_way0]
abbrev Span := Option Int × Option Int
def leastB (w : Wy) (k lo : Int) : Option Int := match w.fl with
  | some f => if f ≥ lo then none else some (lo - k)
  | none => some (lo - k)
def greatestB (w : Wy) (k hi : Int) : Option Int := match w.cp with
  | some c => if c ≤ hi then none else some (hi - k)
  | none => some (hi - k)
def outB (w : Wy) (lo hi : Int) : Bool := (match w.cp with | some c => decide (c < lo) | none => false) || (match w.fl with | some f => decide (f > hi) | none => false)
def startsBetween (w : Wy) (lo hi : Int) : Option Span := match w.sh with
  | none => if lo ≤ w.fl.getD 0 ∧ w.fl.getD 0 ≤ hi then some (none, none) else none
  | some k => if outB w lo hi then none else some (leastB w k lo, greatestB w k hi)
def inSpan (sp : Span) (x : Int) : Prop := (∀ l, sp.1 = some l → l ≤ x) ∧ (∀ g, sp.2 = some g → x ≤ g)
def inB (sp : Option Span) (x : Int) : Bool := match sp with
  | none => false
  | some (l, g) => (match l with | none => true | some l => decide (l ≤ x)) && (match g with | none => true | some g => decide (x ≤ g))
theorem starts_right {w : Wy} (h : WOk w) {lo hi : Int} (hl : lo ≤ hi) (s : Int) : decide (lo ≤ app w s ∧ app w s ≤ hi) = inB (startsBetween w lo hi) s := by
  obtain ⟨sh, fl, cp⟩ := w
  have h1 := h.nc
  have h2 := h.fx
  simp only [crossB, fixedB] at h1 h2
  unfold startsBetween app inB
  cases sh with
  | none =>
    simp only []
    by_cases e : lo ≤ fl.getD 0 ∧ fl.getD 0 ≤ hi
    · rw [if_pos e]; simp [e]
    · rw [if_neg e]; simp [e]
  | some k =>
    simp only [outB, leastB, greatestB]
    rw [Bool.eq_iff_iff, decide_eq_true_iff]
    cases fl with
    | none =>
      cases cp with
      | none => simp only [kept, Bool.or_false, Bool.false_eq_true, if_false, Bool.and_eq_true, decide_eq_true_eq]; omega
      | some c =>
        simp only [kept, Bool.or_false, decide_eq_true_eq]
        by_cases e : c < lo
        · simp only [e, if_true, Bool.false_eq_true, iff_false]; omega
        · by_cases e2 : c ≤ hi
          · simp only [e, e2, if_true, if_false, Bool.and_true, decide_eq_true_eq]; omega
          · simp only [e, e2, if_false, Bool.and_eq_true, decide_eq_true_eq]; omega
    | some f =>
      cases cp with
      | none =>
        simp only [kept, Bool.false_or, decide_eq_true_eq]
        by_cases e : f > hi
        · simp only [e, if_true, Bool.false_eq_true, iff_false]; omega
        · by_cases e2 : f ≥ lo
          · simp only [e, e2, if_true, if_false, Bool.true_and, decide_eq_true_eq]; omega
          · simp only [e, e2, if_false, Bool.and_eq_true, decide_eq_true_eq]; omega
      | some c =>
        simp only [decide_eq_false_iff_not] at h1
        simp only [kept, Bool.or_eq_true, decide_eq_true_eq]
        by_cases e : c < lo
        · simp only [e, true_or, if_true, Bool.false_eq_true, iff_false]; omega
        · by_cases e3 : f > hi
          · simp only [e, e3, or_true, if_true, Bool.false_eq_true, iff_false]; omega
          · simp only [e, e3, or_false, if_false]
            by_cases e2 : f ≥ lo <;> by_cases e4 : c ≤ hi <;> simp only [e2, e4, if_true, if_false, Bool.true_and, Bool.and_true, Bool.and_eq_true, decide_eq_true_eq, iff_true] <;> omega
/-! gaps -/
def partsAt (row : List Ev) (k : Nat) (s lo hi : Int) : Int × Option Span := (endOf (row.take k) s, startsBetween (wayOf (row.drop k)) lo hi)
def addsSpan (lv : Int) (sp : Option Span) : Option Span := sp.map fun p => (p.1.map (· - lv), p.2.map (· - lv))
def floorsSpan (lv : Int) : Option Span → Option Span
  | none => none
  | some (l, g) => if (match g with | some g => decide (lv > g) | none => false) then none
    else if (match l with | some l => decide (lv < l) | none => false) then some (l, g) else some (none, g)
def capsSpan (lv : Int) : Option Span → Option Span
  | none => none
  | some (l, g) => if (match l with | some l => decide (lv < l) | none => false) then none
    else if (match g with | some g => decide (lv > g) | none => false) then some (l, g) else some (l, none)
theorem adds_in (lv : Int) (sp : Option Span) (x : Int) : inB (addsSpan lv sp) x = inB sp (lv + x) := by
  cases sp with
  | none => rfl
  | some p =>
    obtain ⟨l, g⟩ := p
    cases l <;> cases g <;> (rw [Bool.eq_iff_iff]; simp only [addsSpan, inB, Option.map_some, Option.map_none, Bool.true_and, Bool.and_true, Bool.and_eq_true, decide_eq_true_eq]) <;> omega
theorem floors_in (lv : Int) (sp : Option Span) (x : Int) (hp : ∀ l g, sp = some (some l, some g) → l ≤ g) : inB (floorsSpan lv sp) x = inB sp (max lv x) := by
  cases sp with
  | none => rfl
  | some p =>
    obtain ⟨l, g⟩ := p
    cases l with
    | none =>
      cases g with
      | none => simp [floorsSpan, inB]
      | some g =>
        by_cases e : lv > g
        · simp [floorsSpan, inB, e]; omega
        · simp [floorsSpan, inB, e]; omega
    | some l =>
      cases g with
      | none =>
        by_cases e : lv < l
        · simp [floorsSpan, inB, e]; omega
        · simp [floorsSpan, inB, e]; omega
      | some g =>
        have := hp l g rfl
        by_cases e : lv > g
        · simp [floorsSpan, inB, e]; omega
        · by_cases e2 : lv < l
          · simp [floorsSpan, inB, e, e2]; rw [Bool.eq_iff_iff]; simp; omega
          · simp [floorsSpan, inB, e, e2]; rw [Bool.eq_iff_iff]; simp; omega
theorem caps_in (lv : Int) (sp : Option Span) (x : Int) (hp : ∀ l g, sp = some (some l, some g) → l ≤ g) : inB (capsSpan lv sp) x = inB sp (min lv x) := by
  cases sp with
  | none => rfl
  | some p =>
    obtain ⟨l, g⟩ := p
    cases l with
    | none =>
      cases g with
      | none => simp [capsSpan, inB]
      | some g =>
        by_cases e : lv > g
        · simp [capsSpan, inB, e]; omega
        · simp [capsSpan, inB, e]; omega
    | some l =>
      cases g with
      | none =>
        by_cases e : lv < l
        · simp [capsSpan, inB, e]; omega
        · simp [capsSpan, inB, e]; omega
      | some g =>
        have := hp l g rfl
        by_cases e : lv < l
        · simp [capsSpan, inB, e]; omega
        · by_cases e2 : lv > g
          · simp [capsSpan, inB, e, e2]; rw [Bool.eq_iff_iff]; simp; omega
          · simp [capsSpan, inB, e, e2]; rw [Bool.eq_iff_iff]; simp; omega
theorem starts_ordered {w : Wy} {lo hi : Int} (hl : lo ≤ hi) : ∀ l g, startsBetween w lo hi = some (some l, some g) → l ≤ g := by
  intro l g e
  unfold startsBetween at e
  cases hs : w.sh with
  | none => rw [hs] at e; simp only [] at e; split at e <;> cases e
  | some k =>
    rw [hs] at e
    simp only [] at e
    split at e
    · cases e
    · have e := Option.some.inj e
      have e1 := congrArg Prod.fst e
      have e2 := congrArg Prod.snd e
      simp only [leastB, greatestB] at e1 e2
      have a1 : lo - k = l := by
        cases hf : w.fl with
        | none => rw [hf] at e1; simpa using e1
        | some f => rw [hf] at e1; simp only [] at e1; split at e1; cases e1; simpa using e1
      have a2 : hi - k = g := by
        cases hf : w.cp with
        | none => rw [hf] at e2; simpa using e2
        | some f => rw [hf] at e2; simp only [] at e2; split at e2; cases e2; simpa using e2
      omega
theorem endOf_append (a b : List Ev) (s : Int) : endOf (a ++ b) s = endOf b (endOf a s) := by unfold endOf; rw [List.foldl_append]
def spanOf (wd : Wd) (lv : Int) (sp : Option Span) : Option Span := match wd with
  | .add => addsSpan lv sp
  | .floor => floorsSpan lv sp
  | .cap => capsSpan lv sp
/-- what the law asks of the gaps -/
theorem gap_right (row : List Ev) (k : Nat) (s : Int) {lo hi : Int} (hl : lo ≤ hi) (wd : Wd) (x : Int) :
    decide (lo ≤ endOf (row.take k ++ (wd, x) :: row.drop k) s ∧ endOf (row.take k ++ (wd, x) :: row.drop k) s ≤ hi) = inB (spanOf wd (partsAt row k s lo hi).1 (partsAt row k s lo hi).2) x := by
  have e : endOf (row.take k ++ (wd, x) :: row.drop k) s = app (wayOf (row.drop k)) (behind (endOf (row.take k) s) (wd, x)) := by
    rw [wayOf_app, endOf_append]; rfl
  rw [e, starts_right (wayOf_ok _) hl]
  cases wd with
  | add => exact (adds_in _ _ _).symm
  | floor => exact (floors_in _ _ _ (starts_ordered hl)).symm
  | cap => exact (caps_in _ _ _ (starts_ordered hl)).symm
end K65
set_option linter.all false
namespace K65
/-! The least cap, the greatest floor. -/
def keptUnder (row : List Ev) (c : Int) : List Ev := row.flatMap fun e => [e, (.cap, c)]
def keptAbove (row : List Ev) (c : Int) : List Ev := row.flatMap fun e => [e, (.floor, c)]
theorem endOf_cons (e : Ev) (r : List Ev) (s : Int) : endOf (e :: r) s = endOf r (behind s e) := rfl
theorem under_cons (e : Ev) (r : List Ev) (c s : Int) : endOf (keptUnder (e :: r) c) s = endOf (keptUnder r c) (min (behind s e) c) := rfl
theorem above_cons (e : Ev) (r : List Ev) (c s : Int) : endOf (keptAbove (e :: r) c) s = endOf (keptAbove r c) (max (behind s e) c) := rfl
theorem behind_mono {x y : Int} (e : Ev) (h : x ≤ y) : behind x e ≤ behind y e := by
  obtain ⟨w, n⟩ := e
  cases w <;> simp only [behind] <;> omega
theorem under_mono : ∀ (row : List Ev) {c d x y : Int}, c ≤ d → x ≤ y → endOf (keptUnder row c) x ≤ endOf (keptUnder row d) y
  | [], c, d, x, y, _, h => h
  | e :: r, c, d, x, y, h1, h2 => by
    rw [under_cons, under_cons]
    refine under_mono r h1 ?_
    have := behind_mono e h2
    omega
theorem under_le : ∀ (row : List Ev) (c s : Int), s ≤ c → endOf (keptUnder row c) s ≤ c
  | [], c, s, h => h
  | e :: r, c, s, h => by
    rw [under_cons]
    exact under_le r c _ (by omega)
theorem under_le' (row : List Ev) (c s : Int) (h : row ≠ []) : endOf (keptUnder row c) s ≤ c := by
  cases row with
  | nil => exact absurd rfl h
  | cons e r => rw [under_cons]; exact under_le r c _ (by omega)
theorem under_top : ∀ (row : List Ev) (c s : Int), (∀ x ∈ levelsTail row s, x ≤ c) → endOf (keptUnder row c) s = endOf row s
  | [], _, _, _ => rfl
  | e :: r, c, s, h => by
    have h1 := h (behind s e) List.mem_cons_self
    rw [under_cons, endOf_cons, Int.min_eq_left h1]
    exact under_top r c _ fun x hx => h x (List.mem_cons_of_mem _ hx)
theorem end_mem : ∀ (row : List Ev) (s : Int), row ≠ [] → endOf row s ∈ levelsTail row s
  | [], _, h => absurd rfl h
  | [e], s, _ => List.mem_cons_self
  | e :: e' :: r, s, _ => by
    rw [endOf_cons]
    exact List.mem_cons_of_mem _ (end_mem (e' :: r) _ (by simp))
/-- what least_cap tells -/
def LeastCap (row : List Ev) (s goal : Int) : Option Int → Prop
  | none => endOf row s < goal
  | some c => goal ≤ endOf row s ∧ goal ≤ endOf (keptUnder row c) s ∧ endOf (keptUnder row (c - 1)) s < goal
/-- what holds between two turns of its loop -/
def CapInv (row : List Ev) (s goal lo hi : Int) : Prop := lo ≤ hi ∧ goal ≤ endOf (keptUnder row hi) s ∧ endOf (keptUnder row (lo - 1)) s < goal
theorem cap_start {row : List Ev} {s goal top : Int} (hr : row ≠ []) (hg : ¬ endOf row s < goal) (ht : ∀ x ∈ levelsTail row s, x ≤ top) : CapInv row s goal goal top := by
  have h1 := ht _ (end_mem row s hr)
  refine ⟨by omega, ?_, ?_⟩
  · rw [under_top row top s ht]; omega
  · have := under_le' row (goal - 1) s hr
    omega
theorem cap_up {row : List Ev} {s goal lo hi : Int} (h : CapInv row s goal lo hi) (hm : lo < hi) (q : endOf (keptUnder row ((lo + hi) / 2)) s ≥ goal) : CapInv row s goal lo ((lo + hi) / 2) ∧ ((lo + hi) / 2 - lo).toNat < (hi - lo).toNat := by
  obtain ⟨h1, h2, h3⟩ := h
  exact ⟨⟨by omega, q, h3⟩, by omega⟩
theorem cap_down {row : List Ev} {s goal lo hi : Int} (h : CapInv row s goal lo hi) (hm : lo < hi) (q : ¬ endOf (keptUnder row ((lo + hi) / 2)) s ≥ goal) : CapInv row s goal ((lo + hi) / 2 + 1) hi ∧ (hi - ((lo + hi) / 2 + 1)).toNat < (hi - lo).toNat := by
  obtain ⟨h1, h2, h3⟩ := h
  refine ⟨⟨by omega, h2, ?_⟩, by omega⟩
  have e : (lo + hi) / 2 + 1 - 1 = (lo + hi) / 2 := by omega
  rw [e]; omega
theorem cap_end {row : List Ev} {s goal lo hi : Int} (h : CapInv row s goal lo hi) (hm : ¬ lo < hi) (hg : ¬ endOf row s < goal) : LeastCap row s goal (some lo) := by
  obtain ⟨h1, h2, h3⟩ := h
  have e : lo = hi := by omega
  subst e
  exact ⟨by omega, h2, h3⟩
theorem leastCap_unique {row : List Ev} {s goal c d : Int} (h1 : LeastCap row s goal (some c)) (h2 : LeastCap row s goal (some d)) : c = d := by
  obtain ⟨_, a1, a2⟩ := h1
  obtain ⟨_, b1, b2⟩ := h2
  by_cases e : c < d
  · have := under_mono row (show c ≤ d - 1 by omega) (Int.le_refl s); omega
  · by_cases e2 : d < c
    · have := under_mono row (show d ≤ c - 1 by omega) (Int.le_refl s); omega
    · omega
def swapW : Wd → Wd
  | .add => .add
  | .floor => .cap
  | .cap => .floor
def mirE (e : Ev) : Ev := (swapW e.1, -e.2)
theorem behind_mir (s : Int) (e : Ev) : behind (-s) (mirE e) = -(behind s e) := by
  obtain ⟨w, n⟩ := e
  cases w <;> simp only [mirE, swapW, behind] <;> omega
theorem end_mir : ∀ (row : List Ev) (s : Int), endOf (row.map mirE) (-s) = -(endOf row s)
  | [], s => rfl
  | e :: r, s => by rw [List.map_cons, endOf_cons, endOf_cons, behind_mir, end_mir r]
theorem under_mir : ∀ (row : List Ev) (c s : Int), endOf (keptUnder (row.map mirE) (-c)) (-s) = -(endOf (keptAbove row c) s)
  | [], c, s => rfl
  | e :: r, c, s => by
    rw [List.map_cons, under_cons, above_cons, behind_mir, ← under_mir r]
    congr 1
    omega
/-- what greatest_floor tells -/
def GreatFloor (row : List Ev) (s goal : Int) : Option Int → Prop
  | none => goal < endOf row s
  | some c => endOf row s ≤ goal ∧ endOf (keptAbove row c) s ≤ goal ∧ goal < endOf (keptAbove row (c + 1)) s
theorem great_of {row : List Ev} {s goal : Int} {r : Option Int} (h : LeastCap (row.map mirE) (-s) (-goal) r) : GreatFloor row s goal (r.map fun c => -c) := by
  cases r with
  | none =>
    have h : endOf (row.map mirE) (-s) < -goal := h
    rw [end_mir] at h
    show goal < endOf row s
    omega
  | some c =>
    obtain ⟨h1, h2, h3⟩ := h
    rw [end_mir] at h1
    have e2 := under_mir row (-c) s
    have e3 := under_mir row (-c + 1) s
    rw [Int.neg_neg] at e2
    have e4 : -(-c + 1) = c - 1 := by omega
    rw [e4] at e3
    rw [e2] at h2
    rw [e3] at h3
    show endOf row s ≤ goal ∧ endOf (keptAbove row (-c)) s ≤ goal ∧ goal < endOf (keptAbove row (-c + 1)) s
    exact ⟨by omega, by omega, by omega⟩
/-! ### The cheapest amounts -/
def withAdds : List Ev → List Int → List Ev
  | _, [] => []
  | [], a :: as => (if a > 0 then [(.add, a)] else []) ++ withAdds [] as
  | e :: r, a :: as => (if a > 0 then [(.add, a)] else []) ++ e :: withAdds r as
theorem end_with_nil (a s : Int) (h : 0 ≤ a) : endOf (withAdds [] [a]) s = s + a := by
  unfold withAdds withAdds
  by_cases e : a > 0
  · rw [if_pos e]; rfl
  · rw [if_neg e]; show s = s + a; omega
theorem end_with_cons (e : Ev) (r : List Ev) (a : Int) (as : List Int) (s : Int) (h : 0 ≤ a) : endOf (withAdds (e :: r) (a :: as)) s = endOf (withAdds r as) (behind (s + a) e) := by
  have q : withAdds (e :: r) (a :: as) = (if a > 0 then [(.add, a)] else []) ++ e :: withAdds r as := rfl
  rw [q]
  by_cases z : a > 0
  · rw [if_pos z]; rfl
  · rw [if_neg z]
    have : a = 0 := by omega
    subst this
    show endOf (e :: withAdds r as) s = _
    rw [endOf_cons, Int.add_zero]
def price (am pr : List Int) : Int := (List.zipWith (· * ·) am pr).sum
def addSum : List Ev → Int
  | [] => 0
  | (.add, n) :: r => n + addSum r
  | _ :: r => addSum r
structure BSt where
  am : List Int
  best : Nat
  hv : Int
  ad : Int
/-- one event, by its place relative to the suffix: the plan so far for what is behind -/
def bstep (goal : Int) (e : Ev) (p : Int) (ps : List Int) (b : BSt) : BSt :=
  let lack := match e with
    | (.cap, n) => max 0 (goal - n - b.ad - b.hv)
    | _ => 0
  let more := match e with
    | (.add, n) => n
    | _ => 0
  { am := 0 :: b.am.set b.best (b.am.getD b.best 0 + lack), best := if p < ps.getD b.best 0 then 0 else b.best + 1, hv := b.hv + lack, ad := b.ad + more }
def bsuf (goal : Int) : List Ev → List Int → BSt
  | [], _ => ⟨[0], 0, 0, 0⟩
  | e :: r, p :: ps => bstep goal e p ps (bsuf goal r ps)
  | _ :: _, [] => ⟨[0], 0, 0, 0⟩
def bfin (goal level : Int) (b : BSt) : List Int := b.am.set b.best (b.am.getD b.best 0 + max 0 (goal - level - b.ad - b.hv))
def bought (row : List Ev) (prices : List Int) (m : Nat) (level goal : Int) : List Int := List.replicate m 0 ++ bfin goal level (bsuf goal (row.drop m) (prices.drop m))
def planTo (row : List Ev) (prices : List Int) (s goal : Int) : Nat → List (List Int)
  | 0 => [bought row prices 0 s goal]
  | i + 1 => planTo row prices s goal i ++ (match row[i]? with
    | some (.floor, n) => [bought row prices (i + 1) n goal]
    | _ => [])
def feas (goal : Int) : List Ev → List Int → Prop
  | [], _ => True
  | e :: r, _ :: as => (match e with
    | (.cap, c) => goal ≤ c + as.sum + addSum r
    | _ => True) ∧ feas goal r as
  | _ :: _, [] => True
theorem sum_setadd : ∀ (l : List Int) (j : Nat) (x : Int), j < l.length → (l.set j (l.getD j 0 + x)).sum = l.sum + x
  | [], j, x, h => absurd h (Nat.not_lt_zero _)
  | a :: r, 0, x, _ => by show ((a + x) :: r).sum = (a :: r).sum + x; simp only [List.sum_cons]; omega
  | a :: r, j + 1, x, h => by
    have ih := sum_setadd r j x (Nat.lt_of_succ_lt_succ h)
    show (a :: r.set j (r.getD j 0 + x)).sum = (a :: r).sum + x
    simp only [List.sum_cons]; omega
theorem price_cons (a p : Int) (as ps : List Int) : price (a :: as) (p :: ps) = a * p + price as ps := rfl
theorem price_set : ∀ (l ps : List Int) (j : Nat) (x : Int), j < l.length → l.length = ps.length → price (l.set j (l.getD j 0 + x)) ps = price l ps + x * ps.getD j 0
  | [], _, j, x, h, _ => absurd h (Nat.not_lt_zero _)
  | a :: r, [], _, _, _, e => by cases e
  | a :: r, p :: ps, 0, x, _, _ => by
    show price ((a + x) :: r) (p :: ps) = price (a :: r) (p :: ps) + x * p
    rw [price_cons, price_cons, Int.add_mul]; omega
  | a :: r, p :: ps, j + 1, x, h, e => by
    have ih := price_set r ps j x (Nat.lt_of_succ_lt_succ h) (Nat.succ.inj e)
    show price (a :: r.set j (r.getD j 0 + x)) (p :: ps) = price (a :: r) (p :: ps) + x * ps.getD j 0
    rw [price_cons, price_cons, ih]; omega
theorem nn_set : ∀ (l : List Int) (j : Nat) (x : Int), 0 ≤ x → (∀ y ∈ l, 0 ≤ y) → ∀ y ∈ l.set j (l.getD j 0 + x), 0 ≤ y
  | [], _, _, _, h => h
  | a :: r, 0, x, hx, h => by
    intro y hy
    have hy : y ∈ (a + x) :: r := hy
    rcases List.mem_cons.mp hy with e | e
    · have := h a List.mem_cons_self; omega
    · exact h y (List.mem_cons_of_mem _ e)
  | a :: r, j + 1, x, hx, h => by
    intro y hy
    have hy : y ∈ a :: r.set j (r.getD j 0 + x) := hy
    rcases List.mem_cons.mp hy with e | e
    · rw [e]; exact h a List.mem_cons_self
    · exact nn_set r j x hx (fun z hz => h z (List.mem_cons_of_mem _ hz)) y e
theorem feas_set (goal : Int) : ∀ (r : List Ev) (l : List Int) (j : Nat) (x : Int), 0 ≤ x → j < l.length → feas goal r l → feas goal r (l.set j (l.getD j 0 + x))
  | [], _, _, _, _, _, _ => trivial
  | e :: r, [], j, x, _, h, _ => absurd h (Nat.not_lt_zero _)
  | e :: r, a :: as, 0, x, hx, hj, h => h
  | e :: r, a :: as, j + 1, x, hx, hj, ⟨h1, h2⟩ => by
    have hj' := Nat.lt_of_succ_lt_succ hj
    have ih := feas_set goal r as j x hx hj' h2
    show feas goal (e :: r) (a :: as.set j (as.getD j 0 + x))
    refine ⟨?_, ih⟩
    have es := sum_setadd as j x hj'
    obtain ⟨w, n⟩ := e
    cases w with
    | cap =>
      show goal ≤ n + (as.set j (as.getD j 0 + x)).sum + addSum r
      have h1 : goal ≤ n + as.sum + addSum r := h1
      omega
    | add => trivial
    | floor => trivial
theorem sum_nn : ∀ (l : List Int), (∀ y ∈ l, 0 ≤ y) → 0 ≤ l.sum
  | [], _ => Int.le_refl 0
  | a :: r, h => by
    have h1 := h a List.mem_cons_self
    have h2 := sum_nn r fun y hy => h y (List.mem_cons_of_mem _ hy)
    simp only [List.sum_cons]; omega
/-- what is true of a plan for a suffix -/
structure BOk (goal : Int) (r : List Ev) (ps : List Int) (b : BSt) : Prop where
  len : b.am.length = r.length + 1
  nn : ∀ y ∈ b.am, 0 ≤ y
  lt : b.best < r.length + 1
  mn : ∀ j, j < ps.length → ps.getD b.best 0 ≤ ps.getD j 0
  hv : b.hv = b.am.sum
  ad : b.ad = addSum r
  fs : feas goal r b.am
  op : ∀ a : List Int, a.length = r.length + 1 → (∀ y ∈ a, 0 ≤ y) → feas goal r a → b.hv ≤ a.sum ∧ price b.am ps + ps.getD b.best 0 * (a.sum - b.hv) ≤ price a ps
theorem bsuf_ok (goal : Int) : ∀ (r : List Ev) (ps : List Int), ps.length = r.length + 1 → (∀ p ∈ ps, 0 ≤ p) → BOk goal r ps (bsuf goal r ps)
  | [], [], h, _ => by cases h
  | [], [p], _, _ => by
    refine ⟨rfl, by intro y hy; simp [bsuf] at hy; omega, Nat.lt_succ_self 0, ?_, rfl, rfl, trivial, ?_⟩
    · intro j hj
      have : j = 0 := by simp at hj; exact hj
      subst this; exact Int.le_refl _
    · intro a hl hn _
      match a, hl with
      | [x], _ =>
        have := hn x List.mem_cons_self
        refine ⟨by simp [bsuf]; exact this, ?_⟩
        show (0 * p + 0) + p * (x + 0 - 0) ≤ x * p + 0
        rw [Int.mul_comm x p]; simp
  | [], p :: q :: ps, h, _ => by simp at h
  | e :: r, [], h, _ => by cases h
  | e :: r, p :: ps, h, hp => by
    have hl : ps.length = r.length + 1 := by simpa using h
    have hp' : ∀ q ∈ ps, 0 ≤ q := fun q hq => hp q (List.mem_cons_of_mem _ hq)
    have B := bsuf_ok goal r ps hl hp'
    show BOk goal (e :: r) (p :: ps) (bstep goal e p ps (bsuf goal r ps))
    generalize bsuf goal r ps = b at B
    have hlt : b.best < b.am.length := by rw [B.len]; exact B.lt
    generalize hk : (match (generalizing := false) e with | (.cap, n) => max 0 (goal - n - b.ad - b.hv) | _ => (0 : Int)) = lack
    have hk0 : 0 ≤ lack := by
      obtain ⟨w, n⟩ := e
      cases w <;> simp only [] at hk <;> omega
    generalize hm : (match (generalizing := false) e with | (.add, n) => n | _ => (0 : Int)) = more
    have eb : bstep goal e p ps b = { am := 0 :: b.am.set b.best (b.am.getD b.best 0 + lack), best := if p < ps.getD b.best 0 then 0 else b.best + 1, hv := b.hv + lack, ad := b.ad + more } := by
      unfold bstep; rw [← hk, ← hm]
    rw [eb]
    have es := sum_setadd b.am b.best lack hlt
    have em : more + addSum r = addSum (e :: r) := by
      obtain ⟨w, n⟩ := e
      cases w <;> simp only [] at hm <;> subst hm <;> simp [addSum]
    have hq0 : 0 ≤ ps.getD b.best 0 := by
      have : b.best < ps.length := by rw [hl]; exact B.lt
      rw [List.getD_eq_getElem?_getD, List.getElem?_eq_getElem this]
      exact hp' _ (List.getElem_mem _)
    refine ⟨?_, ?_, ?_, ?_, ?_, ?_, ?_, ?_⟩
    · simp [B.len]
    · intro y hy
      rcases List.mem_cons.mp hy with z | z
      · rw [z]; exact Int.le_refl 0
      · exact nn_set _ _ _ hk0 B.nn y z
    · show (if p < ps.getD b.best 0 then 0 else b.best + 1) < (e :: r).length + 1
      have := B.lt
      split <;> simp <;> omega
    · intro j hj
      show (p :: ps).getD (if p < ps.getD b.best 0 then 0 else b.best + 1) 0 ≤ (p :: ps).getD j 0
      cases j with
      | zero =>
        show _ ≤ p
        by_cases c : p < ps.getD b.best 0
        · rw [if_pos c]; exact Int.le_refl _
        · rw [if_neg c]; show ps.getD b.best 0 ≤ p; omega
      | succ j =>
        have hb := B.mn j (by simpa using hj)
        show _ ≤ ps.getD j 0
        by_cases c : p < ps.getD b.best 0
        · rw [if_pos c]; show p ≤ _; omega
        · rw [if_neg c]; exact hb
    · show b.hv + lack = (0 :: b.am.set b.best (b.am.getD b.best 0 + lack)).sum
      rw [List.sum_cons, es, B.hv]; omega
    · show b.ad + more = addSum (e :: r)
      rw [← em, B.ad]; omega
    · show feas goal (e :: r) (0 :: b.am.set b.best (b.am.getD b.best 0 + lack))
      refine ⟨?_, feas_set goal r _ _ _ hk0 hlt B.fs⟩
      obtain ⟨w, n⟩ := e
      cases w with
      | cap =>
        show goal ≤ n + (b.am.set b.best (b.am.getD b.best 0 + lack)).sum + addSum r
        simp only [] at hk
        have h1 := B.hv
        have h2 := B.ad
        rw [es]; omega
      | add => trivial
      | floor => trivial
    · intro a hal hn hf
      match a, hal with
      | x :: as, hal =>
        have hx := hn x List.mem_cons_self
        have hn' : ∀ y ∈ as, 0 ≤ y := fun y hy => hn y (List.mem_cons_of_mem _ hy)
        have hal' : as.length = r.length + 1 := by simpa using hal
        obtain ⟨hf1, hf2⟩ := hf
        obtain ⟨o1, o2⟩ := B.op as hal' hn' hf2
        have hge : b.hv + lack ≤ as.sum := by
          obtain ⟨w, n⟩ := e
          cases w with
          | cap =>
            simp only [] at hk
            have hf1 : goal ≤ n + as.sum + addSum r := hf1
            have h2 := B.ad
            omega
          | add => simp only [] at hk; omega
          | floor => simp only [] at hk; omega
        have hpl : b.am.length = ps.length := by rw [B.len, hl]
        refine ⟨by show b.hv + lack ≤ (x :: as).sum; rw [List.sum_cons]; omega, ?_⟩
        show price (0 :: b.am.set b.best (b.am.getD b.best 0 + lack)) (p :: ps) + (p :: ps).getD (if p < ps.getD b.best 0 then 0 else b.best + 1) 0 * ((x :: as).sum - (b.hv + lack)) ≤ price (x :: as) (p :: ps)
        rw [price_cons, price_cons, price_set _ _ _ _ hlt hpl, List.sum_cons]
        generalize hq : ps.getD b.best 0 = q at *
        have o3 : price b.am ps + lack * q + q * (as.sum - (b.hv + lack)) ≤ price as ps := by
          have : q * (as.sum - (b.hv + lack)) = q * (as.sum - b.hv) - lack * q := by
            rw [show as.sum - (b.hv + lack) = (as.sum - b.hv) - lack by omega, Int.mul_sub, Int.mul_comm lack q]
          omega
        have hd : 0 ≤ as.sum - (b.hv + lack) := by omega
        generalize hD : as.sum - (b.hv + lack) = D at *
        have e5 : x + as.sum - (b.hv + lack) = x + D := by omega
        rw [e5]
        by_cases c : p < q
        · rw [if_pos c]
          show 0 * p + (price b.am ps + lack * q) + p * (x + D) ≤ x * p + price as ps
          have m1 : p * D ≤ q * D := Int.mul_le_mul_of_nonneg_right (by omega) hd
          rw [Int.mul_add, Int.mul_comm p x]; omega
        · rw [if_neg c]
          show 0 * p + (price b.am ps + lack * q) + ps.getD b.best 0 * (x + D) ≤ x * p + price as ps
          rw [hq]
          have m1 : x * q ≤ x * p := Int.mul_le_mul_of_nonneg_left (by omega) hx
          rw [Int.mul_add, Int.mul_comm q x]; omega
/-- the plan ends there -/
theorem reaches (goal : Int) : ∀ (r : List Ev) (a : List Int) (L : Int), a.length = r.length + 1 → (∀ y ∈ a, 0 ≤ y) → feas goal r a → goal ≤ L + a.sum + addSum r → goal ≤ endOf (withAdds r a) L
  | [], [x], L, _, hn, _, h => by
    rw [end_with_nil _ _ (hn x List.mem_cons_self)]
    simp [addSum] at h
    exact h
  | [], [], _, h, _, _, _ => by cases h
  | [], _ :: _ :: _, _, h, _, _, _ => by simp at h
  | e :: r, [], _, h, _, _, _ => by cases h
  | e :: r, x :: as, L, hl, hn, ⟨h1, h2⟩, h => by
    have hx := hn x List.mem_cons_self
    rw [end_with_cons _ _ _ _ _ hx]
    refine reaches goal r as _ (by simpa using hl) (fun y hy => hn y (List.mem_cons_of_mem _ hy)) h2 ?_
    rw [List.sum_cons] at h
    obtain ⟨w, n⟩ := e
    cases w with
    | add => simp only [behind, addSum] at h ⊢; omega
    | floor => simp only [behind, addSum] at h ⊢; omega
    | cap =>
      have h1 : goal ≤ n + as.sum + addSum r := h1
      simp only [behind, addSum] at h ⊢; omega
/-- what reaches it is covered from the start, or from the last floor that lifts -/
theorem covered (goal : Int) : ∀ (r : List Ev) (a : List Int) (L : Int), a.length = r.length + 1 → (∀ y ∈ a, 0 ≤ y) → goal ≤ endOf (withAdds r a) L →
    (feas goal r a ∧ goal ≤ L + a.sum + addSum r) ∨ ∃ i c, r[i]? = some (.floor, c) ∧ feas goal (r.drop (i + 1)) (a.drop (i + 1)) ∧ goal ≤ c + (a.drop (i + 1)).sum + addSum (r.drop (i + 1))
  | [], [x], L, _, hn, h => by
    rw [end_with_nil _ _ (hn x List.mem_cons_self)] at h
    exact .inl ⟨trivial, by simpa [addSum] using h⟩
  | [], [], _, h, _, _ => by cases h
  | [], _ :: _ :: _, _, h, _, _ => by simp at h
  | e :: r, [], _, h, _, _ => by cases h
  | e :: r, x :: as, L, hl, hn, h => by
    have hx := hn x List.mem_cons_self
    rw [end_with_cons _ _ _ _ _ hx] at h
    rcases covered goal r as _ (by simpa using hl) (fun y hy => hn y (List.mem_cons_of_mem _ hy)) h with ⟨f, g⟩ | ⟨i, c, h1, h2, h3⟩
    · obtain ⟨w, n⟩ := e
      cases w with
      | add => exact .inl ⟨⟨trivial, f⟩, by simp only [behind, addSum, List.sum_cons] at g ⊢; omega⟩
      | cap => exact .inl ⟨⟨by simp only [behind] at g; show goal ≤ n + as.sum + addSum r; omega, f⟩, by simp only [behind, addSum, List.sum_cons] at g ⊢; omega⟩
      | floor =>
        by_cases q : n ≤ L + x
        · exact .inl ⟨⟨trivial, f⟩, by simp only [behind, addSum, List.sum_cons] at g ⊢; omega⟩
        · exact .inr ⟨0, n, rfl, f, by
            show goal ≤ n + as.sum + addSum r
            simp only [behind] at g; omega⟩
    · exact .inr ⟨i + 1, c, h1, h2, h3⟩
theorem bfin_ok {goal level : Int} {r : List Ev} {ps : List Int} (hl : ps.length = r.length + 1) (hp : ∀ p ∈ ps, 0 ≤ p) : (bfin goal level (bsuf goal r ps)).length = r.length + 1 ∧ (∀ y ∈ bfin goal level (bsuf goal r ps), 0 ≤ y) ∧
    (∀ L, level ≤ L → goal ≤ endOf (withAdds r (bfin goal level (bsuf goal r ps))) L) ∧
    ∀ a : List Int, a.length = r.length + 1 → (∀ y ∈ a, 0 ≤ y) → feas goal r a → goal ≤ level + a.sum + addSum r → price (bfin goal level (bsuf goal r ps)) ps ≤ price a ps := by
  have B := bsuf_ok goal r ps hl hp
  generalize bsuf goal r ps = b at B
  have hlt : b.best < b.am.length := by rw [B.len]; exact B.lt
  unfold bfin
  generalize hk : max 0 (goal - level - b.ad - b.hv) = lack
  have hk0 : 0 ≤ lack := by omega
  have es := sum_setadd b.am b.best lack hlt
  have e1 : (b.am.set b.best (b.am.getD b.best 0 + lack)).length = r.length + 1 := by rw [List.length_set, B.len]
  have e2 := nn_set b.am b.best lack hk0 B.nn
  refine ⟨e1, e2, fun L hL => ?_, fun a ha hn hf hg => ?_⟩
  · refine reaches goal r _ L e1 e2 (feas_set goal r _ _ _ hk0 hlt B.fs) ?_
    have h1 := B.hv
    have h2 := B.ad
    rw [es]; omega
  · obtain ⟨o1, o2⟩ := B.op a ha hn hf
    rw [price_set _ _ _ _ hlt (by rw [B.len, hl])]
    have h2 := B.ad
    have hq0 : 0 ≤ ps.getD b.best 0 := by
      have : b.best < ps.length := by rw [hl]; exact B.lt
      rw [List.getD_eq_getElem?_getD, List.getElem?_eq_getElem this]
      exact hp _ (List.getElem_mem _)
    have hge : lack ≤ a.sum - b.hv := by omega
    have := Int.mul_le_mul_of_nonneg_left hge hq0
    rw [Int.mul_comm lack]; omega
theorem price_drop : ∀ (m : Nat) (a ps : List Int), (∀ y ∈ a, 0 ≤ y) → (∀ p ∈ ps, 0 ≤ p) → price (a.drop m) (ps.drop m) ≤ price a ps
  | 0, _, _, _, _ => Int.le_refl _
  | m + 1, [], ps, _, _ => by simp [price]
  | m + 1, x :: a, [], _, _ => by simp [price]
  | m + 1, x :: a, p :: ps, h1, h2 => by
    have ih := price_drop m a ps (fun y hy => h1 y (List.mem_cons_of_mem _ hy)) fun y hy => h2 y (List.mem_cons_of_mem _ hy)
    have := Int.mul_nonneg (h1 x List.mem_cons_self) (h2 p List.mem_cons_self)
    rw [price_cons]
    show price (a.drop m) (ps.drop m) ≤ _
    omega
theorem price_zeros : ∀ (m : Nat) (a ps : List Int), m ≤ ps.length → price (List.replicate m 0 ++ a) ps = price a (ps.drop m)
  | 0, _, _, _ => rfl
  | m + 1, a, [], h => by simp at h
  | m + 1, a, p :: ps, h => by
    have ih := price_zeros m a ps (by simpa using h)
    show price (0 :: (List.replicate m 0 ++ a)) (p :: ps) = price a (ps.drop m)
    rw [price_cons, ih]; simp
theorem end_zeros : ∀ (m : Nat) (row : List Ev) (a : List Int) (s : Int), m ≤ row.length → endOf (withAdds row (List.replicate m 0 ++ a)) s = endOf (withAdds (row.drop m) a) (endOf (row.take m) s)
  | 0, _, _, _, _ => rfl
  | m + 1, [], _, _, h => by simp at h
  | m + 1, e :: r, a, s, h => by
    show endOf (withAdds (e :: r) (0 :: (List.replicate m 0 ++ a))) s = endOf (withAdds (r.drop m) a) (endOf (r.take m) (behind s e))
    rw [end_with_cons _ _ _ _ _ (Int.le_refl 0), end_zeros m r a _ (by simpa using h), Int.add_zero]
theorem bought_len {row : List Ev} {prices : List Int} {m : Nat} {level goal : Int} (hl : prices.length = row.length + 1) (hp : ∀ p ∈ prices, 0 ≤ p) (hm : m ≤ row.length) : (bought row prices m level goal).length = row.length + 1 ∧ ∀ y ∈ bought row prices m level goal, 0 ≤ y := by
  have hl' : (prices.drop m).length = (row.drop m).length + 1 := by simp; omega
  obtain ⟨q1, q2, _⟩ := bfin_ok (goal := goal) (level := level) hl' fun p hq => hp p (List.mem_of_mem_drop hq)
  refine ⟨by unfold bought; rw [List.length_append, List.length_replicate, q1]; simp; omega, fun y hy => ?_⟩
  rcases List.mem_append.mp hy with z | z
  · rw [List.eq_of_mem_replicate z]; exact Int.le_refl 0
  · exact q2 y z
theorem mem_planTo {row : List Ev} {prices : List Int} {s goal : Int} : ∀ {n : Nat} {p : List Int}, p ∈ planTo row prices s goal n ↔ p = bought row prices 0 s goal ∨ ∃ i c, i < n ∧ row[i]? = some (.floor, c) ∧ p = bought row prices (i + 1) c goal
  | 0, p => by simp [planTo]
  | n + 1, p => by
    have ih := mem_planTo (row := row) (prices := prices) (s := s) (goal := goal) (n := n) (p := p)
    unfold planTo
    rw [List.mem_append, ih]
    constructor
    · rintro ((h | ⟨i, c, h1, h2, h3⟩) | h)
      · exact .inl h
      · exact .inr ⟨i, c, by omega, h2, h3⟩
      · split at h
        · rename_i c hc
          exact .inr ⟨n, c, by omega, hc, by simpa using h⟩
        · simp at h
    · rintro (h | ⟨i, c, h1, h2, h3⟩)
      · exact .inl (.inl h)
      · by_cases e : i = n
        · subst e
          refine .inr ?_
          rw [h2]
          simp [h3]
        · exact .inl (.inr ⟨i, c, by omega, h2, h3⟩)
/-- what cheapest_amounts tells -/
def Cheapest (row : List Ev) (prices : List Int) (s goal : Int) (p : List Int) : Prop := p ∈ planTo row prices s goal row.length ∧ ∀ q ∈ planTo row prices s goal row.length, price p prices ≤ price q prices
theorem plan_reaches {row : List Ev} {prices : List Int} {s goal : Int} {p : List Int} (hl : prices.length = row.length + 1) (hp : ∀ q ∈ prices, 0 ≤ q) (h : p ∈ planTo row prices s goal row.length) : p.length = row.length + 1 ∧ (∀ y ∈ p, 0 ≤ y) ∧ goal ≤ endOf (withAdds row p) s := by
  rcases mem_planTo.mp h with rfl | ⟨i, c, h1, h2, rfl⟩
  · obtain ⟨a, b⟩ := bought_len (level := s) (goal := goal) hl hp (Nat.zero_le _)
    refine ⟨a, b, ?_⟩
    exact (bfin_ok (goal := goal) (level := s) (r := row) (ps := prices) hl hp).2.2.1 s (Int.le_refl _)
  · obtain ⟨a, b⟩ := bought_len (level := c) (goal := goal) hl hp (show i + 1 ≤ row.length by omega)
    refine ⟨a, b, ?_⟩
    have hl' : (prices.drop (i + 1)).length = (row.drop (i + 1)).length + 1 := by simp; omega
    unfold bought
    rw [end_zeros _ _ _ _ (by omega)]
    refine (bfin_ok (goal := goal) (level := c) hl' fun p hq => hp p (List.mem_of_mem_drop hq)).2.2.1 _ ?_
    rw [List.take_succ, h2, endOf_append]
    show c ≤ max _ c
    omega
theorem plan_least {row : List Ev} {prices : List Int} {s goal : Int} {p : List Int} (hl : prices.length = row.length + 1) (hp : ∀ q ∈ prices, 0 ≤ q) (h : Cheapest row prices s goal p) {a : List Int} (ha : a.length = row.length + 1) (hn : ∀ y ∈ a, 0 ≤ y)
    (hg : goal ≤ endOf (withAdds row a) s) : price p prices ≤ price a prices := by
  rcases covered goal row a s ha hn hg with ⟨f, g⟩ | ⟨i, c, h1, h2, h3⟩
  · refine Int.le_trans (h.2 _ (mem_planTo.mpr (.inl rfl))) ?_
    exact (bfin_ok (goal := goal) (level := s) (r := row) (ps := prices) hl hp).2.2.2 a ha hn f g
  · have hi : i < row.length := (List.getElem?_eq_some_iff.mp h1).1
    refine Int.le_trans (h.2 _ (mem_planTo.mpr (.inr ⟨i, c, hi, h1, rfl⟩))) ?_
    have hl' : (prices.drop (i + 1)).length = (row.drop (i + 1)).length + 1 := by simp; omega
    unfold bought
    rw [price_zeros _ _ _ (by omega)]
    refine Int.le_trans ?_ (price_drop (i + 1) a prices hn hp)
    exact (bfin_ok (goal := goal) (level := c) hl' fun p hq => hp p (List.mem_of_mem_drop hq)).2.2.2 (a.drop (i + 1)) (by simp; omega) (fun y hy => hn y (List.mem_of_mem_drop hy)) h2 h3
end K65
set_option linter.all false
namespace K65
/-! The board: accounts by name, chains of heirs, gifts handed on. -/
structure Acc (N : Type) where
  lv : Int
  lo : Option Int
  hi : Option Int
  heir : Option N
def InR {N : Type} (a : Acc N) : Prop := (∀ l, a.lo = some l → l ≤ a.lv) ∧ (∀ h, a.hi = some h → a.lv ≤ h)
section
variable {N : Type} [DecidableEq N]
def getR : List (N × Acc N) → N → Option (Acc N)
  | [], _ => none
  | (m, a) :: r, n => if m = n then some a else getR r n
def putR : List (N × Acc N) → N → Acc N → List (N × Acc N)
  | [], n, a => [(n, a)]
  | (m, b) :: r, n, a => if m = n then (m, a) :: r else (m, b) :: putR r n a
def dropR (rows : List (N × Acc N)) (n : N) : List (N × Acc N) := rows.filter fun p => decide (p.1 ≠ n)
theorem getR_put (rows : List (N × Acc N)) (n : N) (a : Acc N) (m : N) : getR (putR rows n a) m = if n = m then some a else getR rows m := by
  induction rows with
  | nil => rfl
  | cons p r ih =>
    obtain ⟨k, b⟩ := p
    unfold putR
    by_cases h : k = n
    · rw [if_pos h]
      subst h
      unfold getR
      by_cases h2 : k = m <;> simp [h2]
    · rw [if_neg h]
      unfold getR
      rw [ih]
      by_cases h2 : k = m
      · have : ¬ n = m := fun z => h (h2.trans z.symm)
        simp [h2, this]
      · simp [h2]
theorem getR_mem {rows : List (N × Acc N)} {n : N} {a : Acc N} (h : getR rows n = some a) : (n, a) ∈ rows := by
  induction rows with
  | nil => cases h
  | cons p r ih =>
    obtain ⟨k, b⟩ := p
    unfold getR at h
    by_cases e : k = n
    · rw [if_pos e] at h
      cases h
      rw [e]; exact List.mem_cons_self
    · rw [if_neg e] at h
      exact List.mem_cons_of_mem _ (ih h)
theorem getR_some {rows : List (N × Acc N)} {n : N} : (getR rows n).isSome = true ↔ n ∈ rows.map (·.1) := by
  induction rows with
  | nil => simp [getR]
  | cons p r ih =>
    obtain ⟨k, b⟩ := p
    unfold getR
    by_cases e : k = n
    · simp [e]
    · rw [if_neg e, ih]
      simp [Ne.symm e]
theorem getR_of_mem {rows : List (N × Acc N)} {n : N} {a : Acc N} (hd : (rows.map (·.1)).Nodup) (h : (n, a) ∈ rows) : getR rows n = some a := by
  induction rows with
  | nil => cases h
  | cons p r ih =>
    obtain ⟨k, b⟩ := p
    simp only [List.map_cons, List.nodup_cons] at hd
    unfold getR
    rcases List.mem_cons.mp h with e | e
    · cases e; simp
    · have : k ≠ n := fun z => hd.1 (by rw [z]; exact List.mem_map.mpr ⟨_, e, rfl⟩)
      rw [if_neg this]
      exact ih hd.2 e
theorem getR_drop (rows : List (N × Acc N)) (n m : N) : getR (dropR rows n) m = if n = m then none else getR rows m := by
  induction rows with
  | nil => simp [dropR, getR]
  | cons p r ih =>
    obtain ⟨k, b⟩ := p
    unfold dropR at ih ⊢
    rw [List.filter_cons]
    by_cases h : k = n
    · rw [if_neg (by simp [h]), ih]
      subst h
      by_cases h2 : k = m
      · simp [h2]
      · simp [getR, h2]
    · rw [if_pos (by simp [h])]
      unfold getR
      rw [ih]
      by_cases h2 : k = m
      · have : ¬ n = m := fun z => h (h2.trans z.symm)
        simp [h2, this]
      · simp [h2]
theorem keys_put (rows : List (N × Acc N)) (n : N) (a : Acc N) : (putR rows n a).map (·.1) = if n ∈ rows.map (·.1) then rows.map (·.1) else rows.map (·.1) ++ [n] := by
  induction rows with
  | nil => simp [putR]
  | cons p r ih =>
    obtain ⟨k, b⟩ := p
    unfold putR
    by_cases h : k = n
    · simp [h]
    · rw [if_neg h]
      simp only [List.map_cons, ih, List.mem_cons, Ne.symm h, false_or]
      split <;> simp
theorem nd_put {rows : List (N × Acc N)} (n : N) (a : Acc N) (h : (rows.map (·.1)).Nodup) : ((putR rows n a).map (·.1)).Nodup := by
  rw [keys_put]
  split
  · exact h
  · rename_i hn
    rw [List.nodup_append]
    refine ⟨h, by simp, ?_⟩
    intro x hx y hy e
    simp only [List.mem_singleton] at hy
    subst hy e
    exact hn hx
/-- the chain of heirs -/
inductive Ch (g : N → Option (Acc N)) : N → List N → Prop
  | last {n : N} {a : Acc N} : g n = some a → a.heir = none → Ch g n [n]
  | step {n h : N} {a : Acc N} {l : List N} : g n = some a → a.heir = some h → Ch g h l → Ch g n (n :: l)
theorem Ch.det {g : N → Option (Acc N)} {n : N} {l : List N} (h : Ch g n l) : ∀ {k : List N}, Ch g n k → l = k := by
  induction h with
  | last e z =>
    intro k hk
    cases hk with
    | last => rfl
    | step e' z' _ => rw [e] at e'; cases e'; rw [z] at z'; cases z'
  | step e z _ ih =>
    intro k hk
    cases hk with
    | last e' z' => rw [e] at e'; cases e'; rw [z] at z'; cases z'
    | step e' z' c =>
      rw [e] at e'; cases e'; rw [z] at z'; cases z'
      rw [ih c]
theorem Ch.head {g : N → Option (Acc N)} {n : N} {l : List N} (h : Ch g n l) : ∃ t, l = n :: t := by
  cases h with
  | last => exact ⟨[], rfl⟩
  | step => exact ⟨_, rfl⟩
theorem Ch.sub {g : N → Option (Acc N)} {n : N} {l : List N} (h : Ch g n l) : ∀ {m : N}, m ∈ l → ∃ k, Ch g m k ∧ k.length ≤ l.length := by
  induction h with
  | last e z =>
    intro m hm
    simp only [List.mem_singleton] at hm
    subst hm
    exact ⟨_, .last e z, Nat.le_refl _⟩
  | step e z c ih =>
    intro m hm
    rcases List.mem_cons.mp hm with q | q
    · subst q; exact ⟨_, .step e z c, Nat.le_refl _⟩
    · obtain ⟨k, h1, h2⟩ := ih q
      exact ⟨k, h1, Nat.le_succ_of_le h2⟩
theorem Ch.nodup {g : N → Option (Acc N)} {n : N} {l : List N} (h : Ch g n l) : l.Nodup := by
  induction h with
  | last => simp
  | @step n hh a l e z c ih =>
    refine List.nodup_cons.mpr ⟨fun hm => ?_, ih⟩
    obtain ⟨k, h1, h2⟩ := c.sub hm
    have := (Ch.step e z c).det h1
    subst this
    rw [List.length_cons] at h2; omega
theorem Ch.mem {g : N → Option (Acc N)} {n : N} {l : List N} (h : Ch g n l) : ∀ m ∈ l, ∃ a, g m = some a := by
  induction h with
  | last e z => intro m hm; simp only [List.mem_singleton] at hm; subst hm; exact ⟨_, e⟩
  | step e z c ih =>
    intro m hm
    rcases List.mem_cons.mp hm with q | q
    · subst q; exact ⟨_, e⟩
    · exact ih m q
/-- a chain stays where the heirs along it stay -/
theorem Ch.keep {g g' : N → Option (Acc N)} {n : N} {l : List N} (h : Ch g n l) (k : ∀ m ∈ l, ∀ a, g m = some a → ∃ a', g' m = some a' ∧ a'.heir = a.heir) : Ch g' n l := by
  induction h with
  | last e z =>
    obtain ⟨a', e', z'⟩ := k _ List.mem_cons_self _ e
    exact .last e' (z'.trans z)
  | step e z c ih =>
    obtain ⟨a', e', z'⟩ := k _ List.mem_cons_self _ e
    exact .step e' (z'.trans z) (ih fun m hm => k m (List.mem_cons_of_mem _ hm))
/-- the board's invariant -/
structure WF (rows : List (N × Acc N)) : Prop where
  nd : (rows.map (·.1)).Nodup
  rg : ∀ n a, getR rows n = some a → InR a
  ch : ∀ n a, getR rows n = some a → ∃ l, Ch (getR rows) n l
theorem WF.nil : WF ([] : List (N × Acc N)) := ⟨List.nodup_nil, (fun _ _ h => by cases h), (fun _ _ h => by cases h)⟩
/-- a new account -/
theorem WF.admit {rows : List (N × Acc N)} (W : WF rows) {n : N} {a : Acc N} (hn : getR rows n = none) (hr : InR a) (hh : ∀ h, a.heir = some h → ∃ b, getR rows h = some b) : WF (putR rows n a) := by
  have old : ∀ m b, getR rows m = some b → getR (putR rows n a) m = some b := fun m b e => by
    rw [getR_put]
    have : ¬ n = m := fun z => by subst z; rw [hn] at e; cases e
    rw [if_neg this]; exact e
  have keep : ∀ m l, Ch (getR rows) m l → Ch (getR (putR rows n a)) m l := fun m l c => c.keep fun x _ b e => ⟨b, old x b e, rfl⟩
  refine ⟨nd_put n a W.nd, fun m b e => ?_, fun m b e => ?_⟩
  · rw [getR_put] at e
    split at e
    · cases e; exact hr
    · exact W.rg m b e
  · rw [getR_put] at e
    by_cases z : n = m
    · subst z
      cases hd : a.heir with
      | none => exact ⟨_, .last (by rw [getR_put, if_pos rfl]) hd⟩
      | some h =>
        obtain ⟨b', hb⟩ := hh h hd
        obtain ⟨l, c⟩ := W.ch h b' hb
        exact ⟨_, .step (by rw [getR_put, if_pos rfl]) hd (keep _ _ c)⟩
    · rw [if_neg z] at e
      obtain ⟨l, c⟩ := W.ch m b e
      exact ⟨l, keep _ _ c⟩
/-- an account changed, its heir as it was -/
theorem WF.change {rows : List (N × Acc N)} (W : WF rows) {n : N} {a b : Acc N} (hn : getR rows n = some b) (hr : InR a) (hh : a.heir = b.heir) : WF (putR rows n a) := by
  have keep : ∀ m l, Ch (getR rows) m l → Ch (getR (putR rows n a)) m l := fun m l c => c.keep fun x _ d e => by
    rw [getR_put]
    by_cases z : n = x
    · subst z
      rw [hn] at e; cases e
      exact ⟨a, by rw [if_pos rfl], hh⟩
    · exact ⟨d, by rw [if_neg z]; exact e, rfl⟩
  refine ⟨nd_put n a W.nd, fun m d e => ?_, fun m d e => ?_⟩
  · rw [getR_put] at e
    split at e
    · cases e; exact hr
    · exact W.rg m d e
  · rw [getR_put] at e
    by_cases z : n = m
    · subst z
      obtain ⟨l, c⟩ := W.ch n b hn
      exact ⟨l, keep _ _ c⟩
    · rw [if_neg z] at e
      obtain ⟨l, c⟩ := W.ch m d e
      exact ⟨l, keep _ _ c⟩
/-- another heir -/
theorem WF.leave {rows : List (N × Acc N)} (W : WF rows) {n : N} {a b : Acc N} (hn : getR rows n = some b) (hr : InR a) (hh : ∀ h, a.heir = some h → ∃ l, Ch (getR rows) h l ∧ n ∉ l) : WF (putR rows n a) := by
  have gn : getR (putR rows n a) n = some a := by rw [getR_put, if_pos rfl]
  have ne : ∀ m, n ≠ m → getR (putR rows n a) m = getR rows m := fun m z => by rw [getR_put, if_neg z]
  have self : ∃ l, Ch (getR (putR rows n a)) n l := by
    cases hd : a.heir with
    | none => exact ⟨_, .last gn hd⟩
    | some h =>
      obtain ⟨l, c, hl⟩ := hh h hd
      refine ⟨_, .step gn hd (c.keep fun x hx d e => ⟨d, ?_, rfl⟩)⟩
      rw [ne x fun z => hl (z ▸ hx)]; exact e
  have all : ∀ m l, Ch (getR rows) m l → ∃ k, Ch (getR (putR rows n a)) m k := by
    intro m l c
    induction c with
    | @last m d e z =>
      by_cases q : n = m
      · subst q; exact self
      · exact ⟨_, .last (by rw [ne _ q]; exact e) z⟩
    | @step m h d l e z c ih =>
      by_cases q : n = m
      · subst q; exact self
      · obtain ⟨k, ck⟩ := ih
        exact ⟨_, .step (by rw [ne _ q]; exact e) z ck⟩
  refine ⟨nd_put n a W.nd, fun m d e => ?_, fun m d e => ?_⟩
  · rw [getR_put] at e
    split at e
    · cases e; exact hr
    · exact W.rg m d e
  · by_cases z : n = m
    · subst z; exact self
    · rw [ne m z] at e
      obtain ⟨l, c⟩ := W.ch m d e
      exact all m l c
/-- an account goes, no one's heir -/
theorem WF.shut {rows : List (N × Acc N)} (W : WF rows) {n : N} (hn : ∀ m a, getR rows m = some a → a.heir ≠ some n) : WF (dropR rows n) := by
  have ne : ∀ m, n ≠ m → getR (dropR rows n) m = getR rows m := fun m z => by rw [getR_drop, if_neg z]
  have all : ∀ m l, Ch (getR rows) m l → n ≠ m → Ch (getR (dropR rows n)) m l := by
    intro m l c
    induction c with
    | last e z => intro q; exact .last (by rw [ne _ q]; exact e) z
    | @step m h d l e z c ih =>
      intro q
      exact .step (by rw [ne _ q]; exact e) z (ih fun y => hn _ _ e (by rw [z, y]))
  refine ⟨?_, fun m d e => ?_, fun m d e => ?_⟩
  · unfold dropR
    exact W.nd.sublist (List.Sublist.map _ List.filter_sublist)
  · rw [getR_drop] at e
    split at e
    · cases e
    · exact W.rg m d e
  · rw [getR_drop] at e
    by_cases z : n = m
    · rw [if_pos z] at e; cases e
    · rw [if_neg z] at e
      obtain ⟨l, c⟩ := W.ch m d e
      exact ⟨l, all m l c z⟩
/-! ### gifts handed on -/
def hand : List (Acc N) → Int → List Int × Int
  | [], r => ([], r)
  | a :: as, r => (kept (a.lv + r) a.lo a.hi :: (hand as (r - (kept (a.lv + r) a.lo a.hi - a.lv))).1, (hand as (r - (kept (a.lv + r) a.lo a.hi - a.lv))).2)
def sumO : List (Option Int) → Option Int
  | [] => some 0
  | none :: _ => none
  | some x :: r => (sumO r).map (x + ·)
def room1 (a : Acc N) : Option Int := a.hi.map (· - a.lv)
def stock1 (a : Acc N) : Option Int := a.lo.map (a.lv - ·)
theorem kept_in {a : Acc N} (h : InR a) : kept a.lv a.lo a.hi = a.lv := by
  obtain ⟨h1, h2⟩ := h
  unfold kept
  cases hl : a.lo <;> cases hh : a.hi <;> simp only []
  · have := h2 _ hh; omega
  · have := h1 _ hl; omega
  · have := h1 _ hl; have := h2 _ hh; omega
theorem kept_inR {a : Acc N} (h : InR a) (x : Int) : InR { a with lv := kept x a.lo a.hi } := by
  obtain ⟨h1, h2⟩ := h
  unfold InR kept
  cases hl : a.lo <;> cases hh : a.hi <;> simp only [] <;> refine ⟨fun l e => ?_, fun g e => ?_⟩ <;> cases e
  · omega
  · omega
  · have := h1 _ hl; have := h2 _ hh; omega
  · have := h1 _ hl; have := h2 _ hh; omega
theorem hand_zero : ∀ (as : List (Acc N)), (∀ a ∈ as, InR a) → hand as 0 = (as.map (·.lv), 0)
  | [], _ => rfl
  | a :: as, h => by
    have e : kept (a.lv + 0) a.lo a.hi = a.lv := by rw [Int.add_zero]; exact kept_in (h a List.mem_cons_self)
    unfold hand
    rw [e, Int.sub_self, Int.sub_zero, hand_zero as fun b hb => h b (List.mem_cons_of_mem _ hb)]
    rfl
theorem sumO_cons {x : Option Int} {r : List (Option Int)} {t : Int} (h : sumO (x :: r) = some t) : ∃ y z, x = some y ∧ sumO r = some z ∧ t = y + z := by
  cases x with
  | none => cases h
  | some y =>
    unfold sumO at h
    cases hr : sumO r with
    | none => rw [hr] at h; cases h
    | some z => rw [hr] at h; exact ⟨y, z, rfl, rfl, (Option.some.inj h).symm⟩
theorem room_nn : ∀ (as : List (Acc N)) (t : Int), (∀ a ∈ as, InR a) → sumO (as.map room1) = some t → 0 ≤ t
  | [], t, _, h => by cases h; exact Int.le_refl 0
  | a :: as, t, hi, h => by
    obtain ⟨y, z, e1, e2, rfl⟩ := sumO_cons h
    have := room_nn as z (fun b hb => hi b (List.mem_cons_of_mem _ hb)) e2
    unfold room1 at e1
    cases hh : a.hi with
    | none => rw [hh] at e1; cases e1
    | some g =>
      rw [hh] at e1
      have e1 : g - a.lv = y := Option.some.inj e1
      have := (hi a List.mem_cons_self).2 g hh
      omega
theorem stock_nn : ∀ (as : List (Acc N)) (t : Int), (∀ a ∈ as, InR a) → sumO (as.map stock1) = some t → 0 ≤ t
  | [], t, _, h => by cases h; exact Int.le_refl 0
  | a :: as, t, hi, h => by
    obtain ⟨y, z, e1, e2, rfl⟩ := sumO_cons h
    have := stock_nn as z (fun b hb => hi b (List.mem_cons_of_mem _ hb)) e2
    unfold stock1 at e1
    cases hh : a.lo with
    | none => rw [hh] at e1; cases e1
    | some g =>
      rw [hh] at e1
      have e1 : a.lv - g = y := Option.some.inj e1
      have := (hi a List.mem_cons_self).1 g hh
      omega
/-- a gift over all that there is room for -/
theorem hand_full : ∀ (as : List (Acc N)) (t x : Int), (∀ a ∈ as, InR a) → sumO (as.map room1) = some t → 0 ≤ x → (hand as (t + x)).1 = as.map (fun a => a.hi.getD 0) ∧ (hand as (t + x)).2 = x
  | [], t, x, _, h, _ => by cases h; simp [hand]
  | a :: as, t, x, hi, h, hx => by
    obtain ⟨y, z, e1, e2, rfl⟩ := sumO_cons h
    have hi' : ∀ b ∈ as, InR b := fun b hb => hi b (List.mem_cons_of_mem _ hb)
    have hz := room_nn as z hi' e2
    have I := hi a List.mem_cons_self
    unfold room1 at e1
    cases hh : a.hi with
    | none => rw [hh] at e1; cases e1
    | some g =>
      rw [hh] at e1
      have e1 : g - a.lv = y := Option.some.inj e1
      have hg := I.2 g hh
      have ek : kept (a.lv + (y + z + x)) a.lo a.hi = g := by
        unfold kept
        rw [hh]
        cases hl : a.lo with
        | none => simp only []; omega
        | some l => have := I.1 l hl; simp only []; omega
      have er : (y + z + x) - (g - a.lv) = z + x := by omega
      obtain ⟨q1, q2⟩ := hand_full as z x hi' e2 hx
      unfold hand
      rw [ek, er, q1, q2]
      simp [hh]
/-- a call over all that there is -/
theorem hand_empty : ∀ (as : List (Acc N)) (t x : Int), (∀ a ∈ as, InR a) → sumO (as.map stock1) = some t → 0 ≤ x → (hand as (-(t + x))).1 = as.map (fun a => a.lo.getD 0) ∧ (hand as (-(t + x))).2 = -x
  | [], t, x, _, h, _ => by cases h; simp [hand]
  | a :: as, t, x, hi, h, hx => by
    obtain ⟨y, z, e1, e2, rfl⟩ := sumO_cons h
    have hi' : ∀ b ∈ as, InR b := fun b hb => hi b (List.mem_cons_of_mem _ hb)
    have hz := stock_nn as z hi' e2
    have I := hi a List.mem_cons_self
    unfold stock1 at e1
    cases hh : a.lo with
    | none => rw [hh] at e1; cases e1
    | some g =>
      rw [hh] at e1
      have e1 : a.lv - g = y := Option.some.inj e1
      have hg := I.1 g hh
      have ek : kept (a.lv + -(y + z + x)) a.lo a.hi = g := by
        unfold kept
        rw [hh]
        cases hl : a.hi with
        | none => simp only []; omega
        | some l => have := I.2 l hl; simp only []; omega
      have er : -(y + z + x) - (g - a.lv) = -(z + x) := by omega
      obtain ⟨q1, q2⟩ := hand_empty as z x hi' e2 hx
      unfold hand
      rw [ek, er, q1, q2]
      simp [hh]
theorem hand_append (as bs : List (Acc N)) (r : Int) : hand (as ++ bs) r = ((hand as r).1 ++ (hand bs (hand as r).2).1, (hand bs (hand as r).2).2) := by
  induction as generalizing r with
  | nil => rfl
  | cons a as ih =>
    simp only [List.cons_append, hand, ih]
theorem hand_len (as : List (Acc N)) (r : Int) : (hand as r).1.length = as.length := by
  induction as generalizing r with
  | nil => rfl
  | cons a as ih => unfold hand; simp [ih]
/-- the bounds of a sum -/
theorem sum_bounds : ∀ (as : List (Acc N)), (∀ a ∈ as, InR a) → (∀ l, sumO (as.map (·.lo)) = some l → l ≤ (as.map (·.lv)).sum) ∧ (∀ h, sumO (as.map (·.hi)) = some h → (as.map (·.lv)).sum ≤ h)
  | [], _ => ⟨fun l e => by cases e; exact Int.le_refl 0, fun l e => by cases e; exact Int.le_refl 0⟩
  | a :: as, hi => by
    obtain ⟨h1, h2⟩ := sum_bounds as fun b hb => hi b (List.mem_cons_of_mem _ hb)
    have I := hi a List.mem_cons_self
    refine ⟨fun l e => ?_, fun l e => ?_⟩
    · obtain ⟨y, z, e1, e2, rfl⟩ := sumO_cons e
      have := h1 z e2
      have := I.1 y e1
      simp only [List.map_cons, List.sum_cons]; omega
    · obtain ⟨y, z, e1, e2, rfl⟩ := sumO_cons e
      have := h2 z e2
      have := I.2 y e1
      simp only [List.map_cons, List.sum_cons]; omega
/-- each sum goes its own way -/
theorem hand_sum : ∀ (as : List (Acc N)) (r : Int), (∀ a ∈ as, InR a) → (hand as r).1.sum = kept ((as.map (·.lv)).sum + r) (sumO (as.map (·.lo))) (sumO (as.map (·.hi)))
  | [], r, _ => by
    show (0 : Int) = kept (0 + r) (some 0) (some 0)
    unfold kept; simp only []; omega
  | a :: as, r, hi => by
    have hi' : ∀ b ∈ as, InR b := fun b hb => hi b (List.mem_cons_of_mem _ hb)
    have ih := hand_sum as (r - (kept (a.lv + r) a.lo a.hi - a.lv)) hi'
    obtain ⟨b1, b2⟩ := sum_bounds as hi'
    obtain ⟨i1, i2⟩ := hi a List.mem_cons_self
    unfold hand
    simp only [List.map_cons, List.sum_cons] at *
    rw [ih]
    generalize (as.map (·.lv)).sum = S at *
    have c0 : ∀ r : List (Option Int), sumO (none :: r) = none := fun _ => rfl
    have c1 : ∀ (x : Int) (r : List (Option Int)), sumO (some x :: r) = (sumO r).map (x + ·) := fun _ _ => rfl
    cases hl : a.lo <;> cases hh : a.hi <;> cases hL : sumO (as.map (·.lo)) <;> cases hH : sumO (as.map (·.hi)) <;> simp only [kept, c0, c1, hL, hH, Option.map_none, Option.map_some]
    all_goals (first | have p1 := i1 _ hl | skip) <;> (first | have p2 := i2 _ hh | skip) <;> (first | have p3 := b1 _ hL | skip) <;> (first | have p4 := b2 _ hH | skip) <;> omega
theorem hand_inR : ∀ (as : List (Acc N)) (r : Int), (∀ a ∈ as, InR a) → ∀ p ∈ as.zip (hand as r).1, InR { p.1 with lv := p.2 }
  | [], _, _ => fun p hp => by cases hp
  | a :: as, r, hi => fun p hp => by
    unfold hand at hp
    rcases List.mem_cons.mp hp with e | e
    · subst e; exact kept_inR (hi a List.mem_cons_self) _
    · exact hand_inR as _ (fun b hb => hi b (List.mem_cons_of_mem _ hb)) p e
end
end K65
set_option Elab.async false
set_option linter.all false
set_option maxRecDepth 100000
set_option maxHeartbeats 4000000
namespace K65
open PySem PySem.Spec PyProof.Rows L2 SlX He
/-! ### what a heap keeps -/
def TupO : HO → Prop
  | .tup _ => True
  | .frz _ _ => True
  | _ => False
def Kp (ex : List Addr) (H H' : Hp) : Prop := ∀ a o, (a ∉ ex ∨ TupO o) → H a = some o → H' a = some o
theorem Kp.rfl' {ex : List Addr} {H : Hp} : Kp ex H H := fun _ _ _ h => h
theorem Kp.r0 {H : Hp} : Kp [] H H := fun _ _ _ h => h
theorem Kp.trans {ex : List Addr} {H1 H2 H3 : Hp} (a : Kp ex H1 H2) (b : Kp ex H2 H3) : Kp ex H1 H3 := fun c o h e => b c o h (a c o h e)
theorem Kp.mono {ex ex' : List Addr} {H1 H2 : Hp} (a : Kp ex H1 H2) (h : ∀ b ∈ ex, b ∈ ex') : Kp ex' H1 H2 := fun c o n e => a c o (n.imp (fun n z => n (h c z)) id) e
theorem Kp.all {ex : List Addr} {H1 H2 : Hp} (a : Kp [] H1 H2) : Kp ex H1 H2 := a.mono fun _ z => nomatch z
theorem Kp.laid {ex : List Addr} {H0 H : Hp} {a : Addr} {o : HO} (k : Kp ex H0 H) (h : H a = none) : Kp ex H0 (upd H a o) := fun b u n e => by
  have e1 := k b u n e
  rw [upd_ne (ne_of_none e1 h)]
  exact e1
theorem Kp.new {ex : List Addr} {H0 H : Hp} {a : Addr} {o : HO} (k : Kp ex H0 H) (h : H0 a = none) : Kp ex H0 (upd H a o) := fun b u n e => by
  have e1 := k b u n e
  rw [upd_ne (ne_of_none e h)]
  exact e1
/-- a written one: no tuple -/
theorem Kp.out {ex : List Addr} {H0 H : Hp} {a : Addr} {o : HO} (k : Kp ex H0 H) (h : a ∈ ex) (nt : ∀ o, H0 a = some o → ¬ TupO o) : Kp ex H0 (upd H a o) := fun b u n e => by
  have e1 := k b u n e
  rw [upd_ne (fun z : b = a => by
    subst z
    rcases n with n | n
    · exact n h
    · exact nt _ e n)]
  exact e1
theorem Kp.dels {ex : List Addr} {H0 H : Hp} {a : Addr} (k : Kp ex H0 H) (h : H0 a = none) : Kp ex H0 (del H a) := fun b u n e => by
  have e1 := k b u n e
  rw [del_ne (ne_of_none e h)]
  exact e1
theorem Kp.none {ex : List Addr} {H0 H : Hp} {a : Addr} (k : Kp ex H0 H) (h : H a = Option.none) (n : a ∉ ex) : H0 a = Option.none := by
  cases e : H0 a with
  | none => rfl
  | some o => rw [k a o (.inl n) e] at h; cases h
theorem Kp.none0 {H0 H : Hp} {a : Addr} (k : Kp [] H0 H) (h : H a = Option.none) : H0 a = Option.none := k.none h (fun z => nomatch z)
theorem Kp.at0 {H0 H : Hp} {a : Addr} {o : HO} (k : Kp [] H0 H) (h : H0 a = some o) : H a = some o := k a o (.inl fun z => nomatch z) h
theorem Kp.at1 {ex : List Addr} {H0 H : Hp} {a : Addr} {o : HO} (k : Kp ex H0 H) (h : H0 a = some o) (n : a ∉ ex) : H a = some o := k a o (.inl n) h
theorem Kp.tup {ex : List Addr} {H0 H : Hp} {a : Addr} {xs : List V} (k : Kp ex H0 H) (h : H0 a = some (.tup xs)) : H a = some (.tup xs) := k a _ (.inr trivial) h
section
variable {K : PySem.W.Frag} {H H' : Hp} {ex : List Addr}
theorem sqLk {a : Addr} {xs : List V} (h : SqL K H a xs) (k : Kp ex H H') (n : a ∉ ex) : SqL K H' a xs :=
  h.elim (fun h => .inl (h.elim (fun h => .inl (k _ _ (.inl n) h)) fun ⟨o, h⟩ => .inr ⟨o, k _ _ (.inl n) h⟩)) fun h => .inr h
theorem sqLk0 {a : Addr} {xs : List V} (h : SqL K H a xs) (k : Kp [] H H') : SqL K H' a xs := sqLk h k (fun z => nomatch z)
theorem sqTk0 {a : Addr} {xs : List V} (h : SqT K H a xs) (k : Kp ex H H') : SqT K H' a xs :=
  h.elim (fun h => .inl (h.elim (fun h => .inl (k _ _ (.inr trivial) h)) fun ⟨o, h⟩ => .inr ⟨o, k _ _ (.inr trivial) h⟩)) fun h => .inr h
end
theorem iteT {A B : Prop} (a : A) : if true = true then A else B := by simpa using a
theorem iteF {A B : Prop} (b : B) : if false = true then A else B := by simpa using b
/-! ### data in the heap -/
def optV : Option Int → V
  | none => .non
  | some i => .int i
def wdS : Wd → Str
  | .add => "add"
  | .floor => "floor"
  | .cap => "cap"
def EvAt (K : PySem.W.Frag) (H : Hp) (v : V) (e : Ev) : Prop := ∃ t, v = .ref t ∧ SqT K H t [.str (wdS e.1), .int e.2]
abbrev Evs (K : PySem.W.Frag) (H : Hp) : List V → List Ev → Prop := Paired (EvAt K H)
/-- a row: a tuple or a list of events -/
def RowT (K : PySem.W.Frag) (H : Hp) (a : Addr) (row : List Ev) : Prop := ∃ xs, SqT K H a xs ∧ Evs K H xs row
def RowL (K : PySem.W.Frag) (H : Hp) (a : Addr) (row : List Ev) : Prop := ∃ xs, SqL K H a xs ∧ Evs K H xs row
def RowAt (K : PySem.W.Frag) (H : Hp) (a : Addr) (row : List Ev) : Prop := RowT K H a row ∨ RowL K H a row
theorem evs_get {K : PySem.W.Frag} {H : Hp} : ∀ {xs : List V} {row : List Ev} {i : Nat} {x : V}, Evs K H xs row → xs[i]? = some x → ∃ e, row[i]? = some e ∧ EvAt K H x e
  | _, _, _, _, .nil, h => by simp at h
  | _, _, 0, _, .cons r _, h => by simp at h; subst h; exact ⟨_, rfl, r⟩
  | _, _, i + 1, x, .cons _ t, h => by
    obtain ⟨e, h1, h2⟩ := evs_get (i := i) (x := x) t (by simpa using h)
    exact ⟨e, by simpa using h1, h2⟩
theorem Evs.len {K : PySem.W.Frag} {H : Hp} {xs : List V} {row : List Ev} (h : Evs K H xs row) : xs.length = row.length := Paired.length h
theorem Evs.app {K : PySem.W.Frag} {H : Hp} : ∀ {xs ys : List V} {r q : List Ev}, Evs K H xs r → Evs K H ys q → Evs K H (xs ++ ys) (r ++ q)
  | _, _, _, _, .nil, s => s
  | _, _, _, _, .cons r t, s => .cons r (Evs.app t s)
theorem Evs.take {K : PySem.W.Frag} {H : Hp} : ∀ {xs : List V} {r : List Ev} (n : Nat), Evs K H xs r → Evs K H (xs.take n) (r.take n)
  | _, _, 0, _ => .nil
  | _, _, _ + 1, .nil => .nil
  | _, _, n + 1, .cons r t => .cons r (Evs.take n t)
theorem Evs.drop {K : PySem.W.Frag} {H : Hp} : ∀ {xs : List V} {r : List Ev} (n : Nat), Evs K H xs r → Evs K H (xs.drop n) (r.drop n)
  | _, _, 0, r => r
  | _, _, _ + 1, .nil => .nil
  | _, _, n + 1, .cons _ t => Evs.drop n t
theorem EvAt.kp {K : PySem.W.Frag} {H H' : Hp} {ex : List Addr} {v : V} {e : Ev} (h : EvAt K H v e) (k : Kp ex H H') : EvAt K H' v e := by
  obtain ⟨t, rfl, h⟩ := h
  exact ⟨t, rfl, sqTk0 h k⟩
theorem Evs.kp {K : PySem.W.Frag} {H H' : Hp} {ex : List Addr} {xs : List V} {row : List Ev} (h : Evs K H xs row) (k : Kp ex H H') : Evs K H' xs row := Paired.mapP h fun _ _ z => z.kp k
theorem RowT.kp {K : PySem.W.Frag} {H H' : Hp} {ex : List Addr} {a : Addr} {row : List Ev} (h : RowT K H a row) (k : Kp ex H H') : RowT K H' a row := by
  obtain ⟨xs, h1, h2⟩ := h
  exact ⟨xs, sqTk0 h1 k, h2.kp k⟩
theorem RowL.kp {K : PySem.W.Frag} {H H' : Hp} {a : Addr} {row : List Ev} (h : RowL K H a row) (k : Kp [] H H') : RowL K H' a row := by
  obtain ⟨xs, h1, h2⟩ := h
  exact ⟨xs, sqLk0 h1 k, h2.kp k⟩
theorem RowAt.kp {K : PySem.W.Frag} {H H' : Hp} {a : Addr} {row : List Ev} (h : RowAt K H a row) (k : Kp [] H H') : RowAt K H' a row := h.imp (·.kp k) (·.kp k)
theorem decT {c : Prop} [Decidable c] {A B : Prop} (h : c) (a : A) : if decide c = true then A else B := by rw [decide_eq_true h]; exact iteT a
theorem decF {c : Prop} [Decidable c] {A B : Prop} (h : ¬ c) (b : B) : if decide c = true then A else B := by rw [decide_eq_false h]; exact iteF b
theorem dec2 {c : Prop} [Decidable c] {A B : Prop} (h1 : c → A) (h2 : ¬ c → B) : if decide c = true then A else B := by
  by_cases h : c
  · exact decT h (h1 h)
  · exact decF h (h2 h)
theorem decNF {c : Prop} [Decidable c] {A B : Prop} (h : c) (b : B) : if (!decide c) = true then A else B := by rw [decide_eq_true h]; exact iteF b
theorem decNT {c : Prop} [Decidable c] {A B : Prop} (h : ¬ c) (a : A) : if (!decide c) = true then A else B := by rw [decide_eq_false h]; exact iteT a
theorem pe_nev {X : Cx} {e : Expr} : PE X e (fun _ _ _ => False) := ⟨fun _ _ _ _ _ _ h => h.elim⟩
theorem kit_il (K : PySem.W.Frag) : PySem.W.kitAny K (.type "int") [.type "list", .type "tuple"] = some false := by kernel_rfl
theorem kit_sl (K : PySem.W.Frag) : PySem.W.kitAny K (.type "str") [.type "list", .type "tuple"] = some false := by kernel_rfl
theorem kit_nl (K : PySem.W.Frag) : PySem.W.kitAny K (.type "NoneType") [.type "list", .type "tuple"] = some false := by kernel_rfl
theorem kit_ll (K : PySem.W.Frag) : PySem.W.kitAny K (.type "list") [.type "list", .type "tuple"] = some true := by kernel_rfl
theorem kit_tl (K : PySem.W.Frag) : PySem.W.kitAny K (.type "tuple") [.type "list", .type "tuple"] = some true := by kernel_rfl
theorem sqT_ty {K : PySem.W.Frag} {H : Hp} {a : Addr} {xs : List V} (h : SqT K H a xs) : TyX K H (.ref a) (.type "tuple") := by
  rcases h with (h | ⟨o, h⟩) | ⟨o, its, n, h1, h2, _⟩
  · exact .base (.tup h)
  · exact .fTuple h
  · exact .kTuple h1 h2
theorem sqL_ty {K : PySem.W.Frag} {H : Hp} {a : Addr} {xs : List V} (h : SqL K H a xs) : TyX K H (.ref a) (.type "list") := by
  rcases h with (h | ⟨o, h⟩) | ⟨o, its, n, h1, h2, _⟩
  · exact .base (.lst h)
  · exact .base (.frz h)
  · exact .kList h1 h2
theorem wd_inj : ∀ {a b : Wd}, wdS a = wdS b → a = b := by intro a b; cases a <;> cases b <;> decide
theorem ixT {K : PySem.W.Frag} {H : Hp} {p : Addr} {xs : List V} {i : Int} {v : V} {Q : VK} (h : SqT K H p xs) (e : atI xs i = some v) (q : Q v H) : rIxT K (.ref p) (.int i) H Q := ⟨p, xs, i, v, rfl, rfl, h, e, q⟩
theorem ixL {K : PySem.W.Frag} {H : Hp} {p : Addr} {xs : List V} {i : Int} {v : V} {Q : VK} (h : SqL K H p xs) (e : atI xs i = some v) (q : Q v H) : rIxL K (.ref p) (.int i) H Q := ⟨p, xs, i, v, rfl, rfl, h, e, q⟩
theorem max_if (i j : Int) : (if j > i then j else i) = max i j := by omega
theorem min_if (i j : Int) : (if j < i then j else i) = min i j := by omega
theorem nFA : ¬ V.str (wdS .floor) = V.str "add" := by decide
theorem nAC : ¬ V.str (wdS .add) = V.str "cap" := by decide
theorem nFC : ¬ V.str (wdS .floor) = V.str "cap" := by decide
theorem nAF : ¬ V.str (wdS .add) = V.str "floor" := by decide
theorem nCA : ¬ V.str (wdS .cap) = V.str "add" := by decide
theorem nCF : ¬ V.str (wdS .cap) = V.str "floor" := by decide
theorem iteT' {b : Bool} {A B : Prop} (h : b = true) (a : A) : if b = true then A else B := by rw [h]; exact iteT a
theorem iteF' {b : Bool} {A B : Prop} (h : b = false) (a : B) : if b = true then A else B := by rw [h]; exact iteF a
theorem PE.mono {X : Cx} {e : Expr} {t t' : TE} (h : PE X e t) (m : ∀ σ H Q, t' σ H Q → t σ H Q) : PE X e t' := ⟨fun pins s σ H Q I z => h.run pins s σ H Q I (m σ H Q z)⟩
/-- a new thing that is told by φ; the old ones stay -/
def RNew (H : Hp) (Q : VK) (φ : V → Hp → Prop) : Prop := ∀ v H', Kp [] H H' → φ v H' → Q v H'
/-- .. a list -/
def IsLst (H : Hp) (xs : List V) (v : V) (H' : Hp) : Prop := ∃ a, v = .ref a ∧ H a = none ∧ H' a = some (.lst xs)
def IsTupN (xs : List V) (v : V) (H' : Hp) : Prop := ∃ a, v = .ref a ∧ H' a = some (.tup xs)
end K65
set_option Elab.async false
set_option linter.all false
set_option maxRecDepth 100000
set_option maxHeartbeats 4000000
namespace K65
open PySem PySem.Spec PyProof.Rows L2 SlX He
section
variable {P : Program} {w : World} {K : PySem.W.Frag} {mg : Str → Option Value} {base : Heap}
/-! ### behind, end_of, levels_of -/
def spBehind (K : PySem.W.Frag) : Sp := fun vs H Q _ => ∃ (l : Int) (v : V) (e : Ev), vs = [.int l, v] ∧ EvAt K H v e ∧ Q (.int (behind l e)) H
theorem ok_behind (T : Txt K mg) : Pr P w K mg base CX0 1 "behind" (spBehind K) := by
  obtain ⟨fd, F⟩ := T.f_behind
  obtain ⟨ta, hADD⟩ := T.c_ADD
  obtain ⟨tf, hFLOOR⟩ := T.c_FLOOR
  refine Pr.of T.g_behind F.kp (F.ok sc_behind (fun vs H Q E h => ?_) (fun cdv A outer s H vs Q E hr h => ?_)) (F.bindsN fun _ _ _ _ _ _ us hl => match us, hl with | [_, _], _ => rfl)
  · obtain ⟨_, _, _, rfl, _⟩ := h
    rfl
  · obtain ⟨l, v, ⟨wd, n⟩, rfl, ⟨t, rfl, ht⟩, q⟩ := h
    refine ⟨_, PSs.nox (pss_cons (ps_if (pt_cmpR op_eq (pe_ix ix_tup (pv 1) pe_int (fun _ _ => rfl)) (pe_glob (v := .str "add") rfl hADD ⟨_, rfl⟩) (nomark _)) (pss_one (ps_ret (pe_op op_add (pv 0) (pe_ix ix_tup (pv 1) pe_int (fun _ _ => rfl))))) pss_nil) (pss_one (ps_ret (pe_ifExp (pt_cmpR op_eq (pe_ix ix_tup (pv 1) pe_int (fun _ _ => rfl)) (pe_glob (v := .str "floor") rfl hFLOOR ⟨_, rfl⟩) (nomark _)) (pe_callB (call_max2 rfl) (by rfl) T.z_max boot_max (pa_cons (pv 0) (pa_cons (pe_ix ix_tup (pv 1) pe_int (fun _ _ => rfl)) pa_nil))) (pe_callB (call_min2 rfl) (by rfl) T.z_min boot_min (pa_cons (pv 0) (pa_cons (pe_ix ix_tup (pv 1) pe_int (fun _ _ => rfl)) pa_nil))))))), ?_⟩
    refine ⟨_, rfl, _, _, _, _, rfl, rfl, ht, rfl, rfl, _, rfl, ?_⟩
    cases wd with
    | add => exact decT rfl ⟨_, rfl, _, rfl, _, _, _, _, rfl, rfl, ht, rfl, _, _, rfl, rfl, q⟩
    | floor =>
      refine decF nFA ⟨_, rfl, _, _, _, _, rfl, rfl, ht, rfl, rfl, _, rfl, decT rfl ⟨_, rfl, _, rfl, _, _, _, _, rfl, rfl, ht, rfl, _, _, rfl, ?_⟩⟩
      rw [max_if]; exact q
    | cap =>
      refine decF nCA ⟨_, rfl, _, _, _, _, rfl, rfl, ht, rfl, rfl, _, rfl, decF nCF ⟨_, rfl, _, rfl, _, _, _, _, rfl, rfl, ht, rfl, _, _, rfl, ?_⟩⟩
      rw [min_if]; exact q
def spEnd (K : PySem.W.Frag) : Sp := fun vs H Q _ => ∃ (a : Addr) (s : Int) (row : List Ev), vs = [.ref a, .int s] ∧ RowAt K H a row ∧ Q (.int (endOf row s)) H
theorem endOf_take_succ {row : List Ev} {i : Nat} {e : Ev} (s : Int) (h : row[i]? = some e) : endOf (row.take (i + 1)) s = behind (endOf (row.take i) s) e := by
  rw [List.take_add_one, h, endOf_append]
  rfl
theorem ok_end (T : Txt K mg) (P_behind : Pr P w K mg base CX0 1 "behind" (spBehind K)) : Pr P w K mg base CX0 2 "end_of" (spEnd K) := by
  obtain ⟨fd, F⟩ := T.f_end_of
  refine Pr.of T.g_end_of F.kp (F.ok sc_end_of (fun vs H Q E h => ?_) (fun cdv A outer s H vs Q E hr h => ?_)) (F.bindsN fun _ _ _ _ _ _ us hl => match us, hl with | [_, _], _ => rfl)
  · obtain ⟨_, _, _, rfl, _⟩ := h
    rfl
  · obtain ⟨a, st, row, rfl, ⟨xs, hx, hv⟩ | ⟨xs, hx, hv⟩, q⟩ := h
    · refine ⟨_, PSs.nox (pss_cons (ps_set (i := 2) sc_end_of.nd rfl (.inl rfl) (pv 1)) (pss_cons (ps_for PassesOwn.never rfl (pi_tup (pv 0)) (pg_name (i := 3) sc_end_of.nd rfl (Or.inl rfl)) (pss_one (ps_set (i := 2) sc_end_of.nd rfl (.inl rfl) (pe_g P_behind (hr.mono (by decide)) pass0 (pa_cons (pv 2) (pa_cons (pv 3) pa_nil)))))) (pss_one (ps_ret (pv 2))))), ?_⟩
      refine ⟨_, rfl, _, rfl, _, rfl, ⟨_, hx⟩, for_it (walk_tup (xs := xs)) (fun i σ H' => H' = H ∧ ∃ ov, σ = [some (.ref a), some (.int st), some (.int (endOf (row.take i) st)), ov]) ⟨rfl, none, rfl⟩ (fun i σ H' _ z => z.1 ▸ hx) ?_ ?_⟩
      · rintro i x σ H1 H2 hi ⟨rfl, ov, rfl⟩ ⟨rfl, hxi⟩
        obtain ⟨e, he, hev⟩ := evs_get hv hxi
        refine ⟨_, rfl, _, rfl, _, _, e, rfl, hev, rfl, some x, ?_⟩
        rw [endOf_take_succ st he]
        rfl
      · rintro σ H1 ⟨rfl, ov, rfl⟩
        refine ⟨_, rfl, ?_⟩
        rw [hv.len, List.take_length]; exact q
    · refine ⟨_, PSs.nox (pss_cons (ps_set (i := 2) sc_end_of.nd rfl (.inl rfl) (pv 1)) (pss_cons (ps_for PassesOwn.never rfl (pi_list (pv 0)) (pg_name (i := 3) sc_end_of.nd rfl (Or.inl rfl)) (pss_one (ps_set (i := 2) sc_end_of.nd rfl (.inl rfl) (pe_g P_behind (hr.mono (by decide)) pass0 (pa_cons (pv 2) (pa_cons (pv 3) pa_nil)))))) (pss_one (ps_ret (pv 2))))), ?_⟩
      refine ⟨_, rfl, _, rfl, _, rfl, ⟨_, hx⟩, for_it (walk_list (xs := xs)) (fun i σ H' => H' = H ∧ ∃ ov, σ = [some (.ref a), some (.int st), some (.int (endOf (row.take i) st)), ov]) ⟨rfl, none, rfl⟩ (fun i σ H' _ z => z.1 ▸ hx) ?_ ?_⟩
      · rintro i x σ H1 H2 hi ⟨rfl, ov, rfl⟩ ⟨rfl, hxi⟩
        obtain ⟨e, he, hev⟩ := evs_get hv hxi
        refine ⟨_, rfl, _, rfl, _, _, e, rfl, hev, rfl, some x, ?_⟩
        rw [endOf_take_succ st he]
        rfl
      · rintro σ H1 ⟨rfl, ov, rfl⟩
        refine ⟨_, rfl, ?_⟩
        rw [hv.len, List.take_length]; exact q
def spLevels (K : PySem.W.Frag) : Sp := fun vs H Q _ => ∃ (a : Addr) (s : Int) (row : List Ev), vs = [.ref a, .int s] ∧ RowAt K H a row ∧ row.length < 1000 ∧ ∀ v H', Kp [] H H' → IsLst H ((levelsOf row s).map V.int) v H' → Q v H'
theorem levelsTail_append : ∀ (a b : List Ev) (s : Int), levelsTail (a ++ b) s = levelsTail a s ++ levelsTail b (endOf a s)
  | [], _, _ => rfl
  | e :: r, b, s => by
    show behind s e :: levelsTail (r ++ b) (behind s e) = _
    rw [levelsTail_append r b]
    rfl
theorem levelsTail_len : ∀ (a : List Ev) (s : Int), (levelsTail a s).length = a.length
  | [], _ => rfl
  | e :: r, s => by
    show (levelsTail r (behind s e)).length + 1 = r.length + 1
    rw [levelsTail_len r]
theorem levels_succ {row : List Ev} {i : Nat} {e : Ev} (s : Int) (h : row[i]? = some e) : levelsOf (row.take (i + 1)) s = levelsOf (row.take i) s ++ [behind (endOf (row.take i) s) e] := by
  rw [List.take_add_one, h]
  unfold levelsOf
  show s :: levelsTail (row.take i ++ [e]) s = _
  rw [levelsTail_append]
  rfl
theorem levels_last : ∀ (row : List Ev) (s : Int), ∃ l, levelsOf row s = l ++ [endOf row s]
  | [], s => ⟨[], rfl⟩
  | e :: r, s => by
    obtain ⟨l, h⟩ := levels_last r (behind s e)
    exact ⟨s :: l, by show s :: levelsOf r (behind s e) = _; rw [h]; rfl⟩
theorem atI_last {α : Type} (l : List α) (x : α) : atI (l ++ [x]) (-1) = some x := by
  unfold atI ixN
  have e : ((l ++ [x]).length : Int) = l.length + 1 := by simp
  rw [if_neg (by omega), if_pos (by omega)]
  have e2 : (-1 + ((l ++ [x]).length : Int)).toNat = l.length := by rw [e]; omega
  rw [Option.bind_some]
  have e3 : ((-1 : Int) + ↑(l ++ [x]).length).toNat = l.length := e2
  first
    | (rw [e3]; simp)
    | simp
theorem ok_levels (T : Txt K mg) (P_behind : Pr P w K mg base CX0 1 "behind" (spBehind K)) : Pr P w K mg base CX0 2 "levels_of" (spLevels K) := by
  obtain ⟨fd, F⟩ := T.f_levels_of
  refine Pr.of T.g_levels_of F.kp (F.ok sc_levels_of (fun vs H Q E h => ?_) (fun cdv A outer s H vs Q E hr h => ?_)) (F.bindsN fun _ _ _ _ _ _ us hl => match us, hl with | [_, _], _ => rfl)
  · obtain ⟨_, _, _, rfl, _⟩ := h
    rfl
  · obtain ⟨a, st, row, rfl, hrow, hlen, q⟩ := h
    rcases hrow with ⟨xs, hx, hv⟩ | ⟨xs, hx, hv⟩
    · refine ⟨_, PSs.nox (pss_cons (ps_set (i := 2) sc_levels_of.nd rfl (.inl rfl) (pe_lst (pa_cons (pv 1) pa_nil))) (pss_cons (ps_for PassesOwn.never rfl (pi_tup (pv 0)) (pg_name (i := 3) sc_levels_of.nd rfl (Or.inl rfl)) (pss_one (ps_expr (pe_bm PySem.F.plainAttrs_list PySem.F.slot_list_append PySem.F.type_list_append mt_append (pv 2) (pa_cons (pe_g P_behind (hr.mono (by decide)) pass0 (pa_cons (pe_ix ix_list (pv 2) (pe_un un_neg pe_int) (fun _ _ => rfl)) (pa_cons (pv 3) pa_nil))) pa_nil))))) (pss_one (ps_ret (pv 2))))), ?_⟩
      refine ⟨_, rfl, Nat.le_of_ble_eq_true rfl, fun p hp => ?_⟩
      refine ⟨_, rfl, _, rfl, ⟨xs, sqTk0 hx (Kp.r0.laid hp)⟩, for_it (walk_tup (xs := xs)) (fun i σ H' => Kp [] H H' ∧ H' p = some (.lst ((levelsOf (row.take i) st).map V.int)) ∧ ∃ ov, σ = [some (.ref a), some (.int st), some (.ref p), ov]) ⟨Kp.r0.laid hp, upd_same, none, rfl⟩ (fun i σ H' _ z => sqTk0 hx z.1) ?_ ?_⟩
      · rintro i x σ H1 H2 hi ⟨k, hl, ov, rfl⟩ ⟨rfl, hxi⟩
        obtain ⟨e, he, hev⟩ := evs_get hv hxi
        obtain ⟨l, hll⟩ := levels_last (row.take i) st
        refine ⟨_, rfl, .inl ⟨rfl, _, .of hl⟩, _, rfl, _, rfl, _, _, _, _, rfl, rfl, .of hl, by rw [hll, List.map_append]; exact atI_last _ _, _, rfl, _, _, e, rfl, hev.kp k, p, _, _, rfl, rfl, hl, ?_, k.new hp, ?_, some x, rfl⟩
        · rw [List.length_map]
          have := levelsTail_len (row.take i) st
          show (levelsTail (row.take i) st).length + 1 < _
          rw [this, List.length_take]
          unfold sizeLine
          omega
        · rw [upd_same, levels_succ st he, List.map_append]
          rfl
      · rintro σ H1 ⟨k, hl, ov, rfl⟩
        refine ⟨_, rfl, q _ _ k ⟨p, rfl, hp, ?_⟩⟩
        rw [hl, hv.len, List.take_length]
    · refine ⟨_, PSs.nox (pss_cons (ps_set (i := 2) sc_levels_of.nd rfl (.inl rfl) (pe_lst (pa_cons (pv 1) pa_nil))) (pss_cons (ps_for PassesOwn.never rfl (pi_list (pv 0)) (pg_name (i := 3) sc_levels_of.nd rfl (Or.inl rfl)) (pss_one (ps_expr (pe_bm PySem.F.plainAttrs_list PySem.F.slot_list_append PySem.F.type_list_append mt_append (pv 2) (pa_cons (pe_g P_behind (hr.mono (by decide)) pass0 (pa_cons (pe_ix ix_list (pv 2) (pe_un un_neg pe_int) (fun _ _ => rfl)) (pa_cons (pv 3) pa_nil))) pa_nil))))) (pss_one (ps_ret (pv 2))))), ?_⟩
      refine ⟨_, rfl, Nat.le_of_ble_eq_true rfl, fun p hp => ?_⟩
      refine ⟨_, rfl, _, rfl, ⟨xs, sqLk0 hx (Kp.r0.laid hp)⟩, for_it (walk_list (xs := xs)) (fun i σ H' => Kp [] H H' ∧ H' p = some (.lst ((levelsOf (row.take i) st).map V.int)) ∧ ∃ ov, σ = [some (.ref a), some (.int st), some (.ref p), ov]) ⟨Kp.r0.laid hp, upd_same, none, rfl⟩ (fun i σ H' _ z => sqLk0 hx z.1) ?_ ?_⟩
      · rintro i x σ H1 H2 hi ⟨k, hl, ov, rfl⟩ ⟨rfl, hxi⟩
        obtain ⟨e, he, hev⟩ := evs_get hv hxi
        obtain ⟨l, hll⟩ := levels_last (row.take i) st
        refine ⟨_, rfl, .inl ⟨rfl, _, .of hl⟩, _, rfl, _, rfl, _, _, _, _, rfl, rfl, .of hl, by rw [hll, List.map_append]; exact atI_last _ _, _, rfl, _, _, e, rfl, hev.kp k, p, _, _, rfl, rfl, hl, ?_, k.new hp, ?_, some x, rfl⟩
        · rw [List.length_map]
          have := levelsTail_len (row.take i) st
          show (levelsTail (row.take i) st).length + 1 < _
          rw [this, List.length_take]
          unfold sizeLine
          omega
        · rw [upd_same, levels_succ st he, List.map_append]
          rfl
      · rintro σ H1 ⟨k, hl, ov, rfl⟩
        refine ⟨_, rfl, q _ _ k ⟨p, rfl, hp, ?_⟩⟩
        rw [hl, hv.len, List.take_length]
/-! ### kept -/
def spKept : Sp := fun vs H Q _ => ∃ (l : Int) (f c : Option Int), vs = [.int l, optV f, optV c] ∧ Q (.int (kept l f c)) H
theorem ok_kept (T : Txt K mg) : Pr P w K mg base CX0 1 "kept" spKept := by
  obtain ⟨fd, F⟩ := T.f_kept
  refine Pr.of T.g_kept F.kp (F.ok sc_kept (fun vs H Q E h => ?_) (fun cdv A outer s H vs Q E hr h => ?_)) (F.bindsN fun _ _ _ _ _ _ us hl => match us, hl with | [_, _, _], _ => rfl)
  · obtain ⟨l, f, c, rfl, _⟩ := h
    rfl
  · obtain ⟨l, f, c, rfl, q⟩ := h
    refine ⟨_, PSs.nox (pss_cons (ps_set (i := 0) sc_kept.nd rfl (.inl rfl) (pe_ifExp (pt_cmpR op_isN (pv 1) pe_non (nomark _)) (pv 0) (pe_callB (call_max2 rfl) (by rfl) T.z_max boot_max (pa_cons (pv 0) (pa_cons (pv 1) pa_nil))))) (pss_one (ps_ret (pe_ifExp (pt_cmpR op_isN (pv 2) pe_non (nomark _)) (pv 0) (pe_callB (call_min2 rfl) (by rfl) T.z_min boot_min (pa_cons (pv 0) (pa_cons (pv 2) pa_nil))))))), ?_⟩
    cases f <;> cases c <;> (repeat' first | refine ⟨_, rfl, ?_⟩ | refine ⟨rfl, ?_⟩ | refine ⟨_, _, rfl, rfl, ?_⟩ | refine ⟨_, _, rfl, ?_⟩ | refine iteT' rfl ?_ | refine iteF' rfl ?_ | fail) <;> (unfold kept at q; simp only [] at q) <;> (try rw [max_if]) <;> (try rw [min_if]) <;> exact q
end
end K65
set_option Elab.async false
set_option linter.all false
set_option maxRecDepth 100000
set_option maxHeartbeats 4000000
namespace K65
open PySem PySem.Spec PyProof.Rows L2 SlX He
/-! ### ways -/
def WayAt (K : PySem.W.Frag) (H : Hp) (a : Addr) (y : Wy) : Prop := ∃ dx, Slt H a (ga K "Way") dx [some (optV y.cp), some (optV y.fl), some (optV y.sh)]
theorem slt_kp {H H' : Hp} {ex : List Addr} {a C dx : Addr} {v : Option V} {vs : List (Option V)} (h : Slt H a C dx (v :: vs)) (k : Kp ex H H') (h1 : a ∉ ex) (h2 : dx ∉ ex) : Slt H' a C dx (v :: vs) := by
  rcases h with ⟨_, z⟩ | ⟨z1, z2⟩
  · cases z
  · exact .inr ⟨k _ _ (.inl h1) z1, k _ _ (.inl h2) z2⟩
theorem WayAt.kp {K : PySem.W.Frag} {H H' : Hp} {a : Addr} {y : Wy} (h : WayAt K H a y) (k : Kp [] H H') : WayAt K H' a y := by
  obtain ⟨dx, h⟩ := h
  exact ⟨dx, slt_kp h k (fun z => nomatch z) (fun z => nomatch z)⟩
section
variable {P : Program} {w : World} {K : PySem.W.Frag} {mg : Str → Option Value} {base : Heap}
/-- an instance's first steps: at x, its dict at dx, both new -/
def spWI (K : PySem.W.Frag) : Sp := fun vs H Q _ => ∃ (x dx : Addr) (sh fl cp : Option Int) (H0 : Hp), vs = [.ref x, optV sh, optV fl, optV cp] ∧ H0 x = none ∧ H0 dx = none ∧ dx ≠ x ∧ H = upd (upd H0 dx (.own x)) x (.ins (ga K "Way") dx []) ∧ MkOk sh fl cp ∧
  ∀ H', Kp [] H0 H' → WayAt K H' x (mkW sh fl cp) → Q .non H'
theorem dec_opt (a b : Option Int) : decide (optV a = optV b) = decide (a = b) := by
  cases a <;> cases b <;> simp [optV]
theorem kp_make {H : Hp} {x dx C : Addr} {vs : List (Option V)} (h1 : H x = none) (h2 : H dx = none) : Kp [] H (slH (upd (upd H dx (.own x)) x (.ins C dx [])) x C dx vs) :=
  (((Kp.r0.laid h2).new h1).new h2).new h1
theorem kp_slH {H0 H : Hp} {x dx C : Addr} {vs : List (Option V)} (k : Kp [] H0 H) (h1 : H0 x = none) (h2 : H0 dx = none) : Kp [] H0 (slH H x C dx vs) := (k.new h2).new h1
theorem ok_way_init (T : Txt K mg) : ∃ fd, FunD K "__init__" "Way.__init__" (defArgs s_Way__init) (defBody s_Way__init) (defScope s_Way__init) [V.non, V.non] [] (ma K (ga K "Way") "__init__") fd ∧ FnOk P w K mg base CX0 1 (ma K (ga K "Way") "__init__") fd ["self", "shift", "floor", "cap"] (spWI K) := by
  obtain ⟨fd, F⟩ := T.f_Way__init
  refine ⟨fd, F, F.ok sc_Way__init (fun vs H Q E h => ?_) (fun cdv A outer s H vs Q E hr h => ?_)⟩
  · obtain ⟨_, _, _, _, _, _, rfl, _⟩ := h
    rfl
  · obtain ⟨x, dx, sh, fl, cp, H0, rfl, h1, h2, h3, rfl, ⟨hc, hf⟩, q⟩ := h
    refine ⟨_, PSs.nox (pss_cons (ps_if (PW.pt (pw_and (pt_cmpR op_notN (pv 2) pe_non (nomark _)) (pw_and (pt_cmpR op_notN (pv 3) pe_non (nomark _)) (pw_and1 (pt_cmpR op_gt (pv 2) (pv 3) (nomark _)))))) (pss_one ps_never) pss_nil) (pss_cons (ps_set (i := 4) sc_Way__init.nd rfl (.inl rfl) (pe_and (pe_cmpR op_notN (pv 2) pe_non (nomark _)) (pe_one (pe_cmpR op_eq (pv 2) (pv 3) (nomark _))))) (pss_cons (ps_if (PW.pt (pw_and (pt_cmpR op_isN (pv 1) pe_non (nomark _)) (pw_and1 (pt_not (pt_val (pv 4)))))) (pss_one ps_never) pss_nil) (pss_cons (ps_sl (pv 0) (pe_ifExp (pt_val (pv 4)) pe_non (pv 1))) (pss_one (ps_asg (pe_tup (pa_cons (pv 2) (pa_cons (pv 3) pa_nil))) (pg_tup rfl (pgs_cons (pg_sl (pv 0)) (pgs_cons (pg_sl (pv 0)) pgs_nil))))))))), ?_⟩
    have S0 : Slt (upd (upd H0 dx (.own x)) x (.ins (ga K "Way") dx [])) x (ga K "Way") dx [] := .inl ⟨upd_same, rfl⟩
    have k0 : Kp [] H0 (upd (upd H0 dx (.own x)) x (.ins (ga K "Way") dx [])) := (Kp.r0.laid h2).new h1
    have fin : ∀ sh2 : Option Int, ({ sh := sh2, fl := fl, cp := cp } : Wy) = mkW sh fl cp → ∀ (σ : L2.St) (H1 : Hp), σ[0]? = some (some (.ref x)) → σ[2]? = some (some (optV fl)) → σ[3]? = some (some (optV cp)) → Kp [] H0 H1 → Slt H1 x (ga K "Way") dx (putS 2 (optV sh2) []) →
        tAsg (tTup (tCons (tVar 2) (tCons (tVar 3) tNil))) (gTup K 2 (gCons (gSl K (tVar 0) "own_floor") (gCons (gSl K (tVar 0) "own_cap") gNil))) { nx := fun _ H' => Q .non H', rt := Q } σ H1 := by
      intro sh2 e σ H1 e0 e2 e3 k S
      refine ⟨_, e2, _, e3, Nat.le_of_ble_eq_true rfl, fun p hp => ⟨p, _, rfl, .of upd_same, rfl, _, _, rfl, ?_⟩⟩
      have k1 : Kp [] H1 (upd H1 p (.tup [optV fl, optV cp])) := Kp.r0.laid hp
      have S1 := slt_kp S k1 (fun z => nomatch z) (fun z => nomatch z)
      refine ⟨_, e0, x, _, _, _, _, _, rfl, S1, T.cl_Way, T.sl_own_floor, _, _, rfl, _, e0, x, _, _, _, _, _, rfl, slH_slt h3, T.cl_Way, T.sl_own_cap, rfl, q _ ?_ ⟨dx, ?_⟩⟩
      · exact kp_slH (kp_slH (k.trans k1) h1 h2) h1 h2
      · rw [← e]
        exact slH_slt h3
    have st2 : ∀ (sh2 : Option Int) (σ : L2.St), σ[0]? = some (some (.ref x)) → tVar 0 σ (upd (upd H0 dx (.own x)) x (.ins (ga K "Way") dx [])) fun x' H2 => ∃ a C dx' p vs i, x' = .ref a ∧ Slt H2 a C dx' vs ∧ SCls K C ∧ Slot1 K C "own_shift" p i ∧ (slH H2 a C dx' (putS i (optV sh2) vs)) = (slH (upd (upd H0 dx (.own x)) x (.ins (ga K "Way") dx [])) x (ga K "Way") dx (putS 2 (optV sh2) [])) := fun sh2 σ e => ⟨_, e, x, _, _, _, _, _, rfl, S0, T.cl_Way, T.sl_own_shift, rfl⟩
    have k1 : ∀ sh2 : Option Int, Kp [] H0 (slH (upd (upd H0 dx (.own x)) x (.ins (ga K "Way") dx [])) x (ga K "Way") dx (putS 2 (optV sh2) [])) := fun _ => kp_slH k0 h1 h2
    cases fl with
    | none =>
      have e : ∀ s, ({ sh := s, fl := none, cp := cp } : Wy) = mkW s none cp := fun s => by cases cp <;> rfl
      cases sh with
      | none => cases cp <;> cases hf rfl
      | some sh =>
        cases cp <;> (repeat' first | refine ⟨_, rfl, ?_⟩ | refine ⟨rfl, ?_⟩ | refine ⟨_, _, rfl, rfl, ?_⟩ | refine ⟨_, _, rfl, ?_⟩ | refine iteT' rfl ?_ | refine iteF' rfl ?_ | fail)
        · exact ⟨x, _, _, _, _, _, rfl, S0, T.cl_Way, T.sl_own_shift, fin (some sh) (e _) _ _ rfl rfl rfl (k1 (some sh)) (slH_slt h3)⟩
        · exact ⟨x, _, _, _, _, _, rfl, S0, T.cl_Way, T.sl_own_shift, fin (some sh) (e _) _ _ rfl rfl rfl (k1 (some sh)) (slH_slt h3)⟩
    | some f =>
      cases cp with
      | none =>
        have e : ∀ s, ({ sh := s, fl := some f, cp := none } : Wy) = mkW s (some f) none := fun s => rfl
        cases sh with
        | none => cases hf rfl
        | some sh =>
          (repeat' first | refine ⟨_, rfl, ?_⟩ | refine ⟨rfl, ?_⟩ | refine ⟨_, _, rfl, rfl, ?_⟩ | refine ⟨_, _, rfl, ?_⟩ | refine iteT' rfl ?_ | refine iteF' rfl ?_ | fail)
          exact ⟨x, _, _, _, _, _, rfl, S0, T.cl_Way, T.sl_own_shift, fin (some sh) (e _) _ _ rfl rfl rfl (k1 (some sh)) (slH_slt h3)⟩
      | some c =>
        have hc' : ¬ c < f := of_decide_eq_false hc
        by_cases e0 : f = c
        · subst e0
          have e : ({ sh := none, fl := some f, cp := some f } : Wy) = mkW sh (some f) (some f) := by unfold mkW fixedB; simp
          cases sh <;> (repeat' first | refine ⟨_, rfl, ?_⟩ | refine ⟨rfl, ?_⟩ | refine ⟨_, _, rfl, rfl, ?_⟩ | refine ⟨_, _, rfl, ?_⟩ | refine iteT' rfl ?_ | refine iteF' rfl ?_ | refine decF hc' ?_ | refine decT rfl ?_ | refine decNF rfl ?_ | fail)
          · exact ⟨x, _, _, _, _, _, rfl, S0, T.cl_Way, T.sl_own_shift, fin none e _ _ rfl rfl rfl (k1 none) (slH_slt h3)⟩
          · exact ⟨x, _, _, _, _, _, rfl, S0, T.cl_Way, T.sl_own_shift, fin none e _ _ rfl rfl rfl (k1 none) (slH_slt h3)⟩
        · have eV : ¬ V.int f = V.int c := fun z => e0 (V.int.inj z)
          cases sh with
          | none => exact absurd (of_decide_eq_true (hf rfl)) e0
          | some sh =>
            have e : ({ sh := some sh, fl := some f, cp := some c } : Wy) = mkW (some sh) (some f) (some c) := by unfold mkW fixedB; simp [e0]
            (repeat' first | refine ⟨_, rfl, ?_⟩ | refine ⟨rfl, ?_⟩ | refine ⟨_, _, rfl, rfl, ?_⟩ | refine ⟨_, _, rfl, ?_⟩ | refine iteT' rfl ?_ | refine iteF' rfl ?_ | refine decF hc' ?_ | refine decF eV ?_ | refine decNT eV ?_ | fail)
            exact ⟨x, _, _, _, _, _, rfl, S0, T.cl_Way, T.sl_own_shift, fin (some sh) e _ _ rfl rfl rfl (k1 (some sh)) (slH_slt h3)⟩
/-! ### making ways -/
abbrev WayI (P : Program) (w : World) (K : PySem.W.Frag) (mg : Str → Option Value) (base : Heap) : Prop := ∃ fd, FunD K "__init__" "Way.__init__" (defArgs s_Way__init) (defBody s_Way__init) (defScope s_Way__init) [V.non, V.non] [] (ma K (ga K "Way") "__init__") fd ∧ FnOk P w K mg base CX0 1 (ma K (ga K "Way") "__init__") fd ["self", "shift", "floor", "cap"] (spWI K)
end
def tMkW (K : PySem.W.Frag) (ds : List V) (t : TA) : TE := fun σ H Q => t σ H fun vs H1 => ∃ sh fl cp, vs ++ ds = [optV sh, optV fl, optV cp] ∧ MkOk sh fl cp ∧ ∀ a H', Kp [] H1 H' → WayAt K H' a (mkW sh fl cp) → Q (.ref a) H'
section
variable {X : Cx} {e : Expr} {es : List Expr} {t : TA} {p pos : Pos}
theorem pe_mkW (T : Txt X.K X.mg) (WI : WayI X.prog X.w X.K X.mg X.base) {ds : List V} (hb : ∀ fd, FunD X.K "__init__" "Way.__init__" (defArgs s_Way__init) (defBody s_Way__init) (defScope s_Way__init) [V.non, V.non] [] (ma X.K (ga X.K "Way") "__init__") fd → ∃ dv, Vals ds dv ∧ Binds X.K fd ["self", "shift", "floor", "cap"] dv)
    (hr : Room 2 X.A) (ha : PA X (e :: es) t) (hg : Gl X "Way" := by rfl) (he : starEach (e :: es) X.env = (false, eval e X.env) :: starEach es X.env := by rfl) (hpl : (backTo pos (starEach es X.env)).any (·.1) = false := by rfl) :
    PE X (.Call (.Name "Way" p) (e :: es) [] pos) (tMkW X.K ds t) := by
  obtain ⟨fd, F, ok⟩ := WI
  obtain ⟨dv, hd, hb⟩ := hb fd F
  refine ⟨fun pins s σ H Q I h => ?_⟩
  refine wpAny_Call_Name_kw (ld_glob I hg T.g_Way ?_ (by decide))
  refine PySem.W.callWith_K (h₀ := X.base) I.ok.mod.kin T.mk_Way.kp (thn (ha.run pos pins s σ H _ I h) fun us s1 ⟨vs, H1, I1, r, sh, fl, cp, ev, hm, q⟩ => ⟨I1.kIn, ?_⟩) he hpl
  refine run_make (dvs := ds) T.mk_Way ok hr hb hd (E := E0) pass0 I1 r fun x dx h1 h2 h3 => ?_
  rw [ev]
  exact ⟨x, dx, sh, fl, cp, H1, rfl, h1, h2, h3, rfl, hm, fun H' k z => ⟨rfl, q x H' k z⟩⟩
theorem pe_mkW1 (T : Txt X.K X.mg) (WI : WayI X.prog X.w X.K X.mg X.base) (hr : Room 2 X.A) (ha : PA X [e] t) (hg : Gl X "Way" := by rfl) (he : starEach [e] X.env = (false, eval e X.env) :: starEach [] X.env := by rfl) :
    PE X (.Call (.Name "Way" p) [e] [] pos) (tMkW X.K [.non, .non] t) :=
  pe_mkW T WI (fun fd F => F.binds1 2 0 (by decide) rfl fun _ _ _ _ _ _ _ us its hu hi => match us, hu, its, hi with | [_, _], _, [_, _], _ => ⟨_, rfl, rfl⟩) hr ha hg he rfl
theorem pe_mkW2 {e2 : Expr} (T : Txt X.K X.mg) (WI : WayI X.prog X.w X.K X.mg X.base) (hr : Room 2 X.A) (ha : PA X [e, e2] t) (hg : Gl X "Way" := by rfl) (he : starEach [e, e2] X.env = (false, eval e X.env) :: starEach [e2] X.env := by rfl) (hpl : (backTo pos (starEach [e2] X.env)).any (·.1) = false := by rfl) :
    PE X (.Call (.Name "Way" p) [e, e2] [] pos) (tMkW X.K [.non] t) :=
  pe_mkW T WI (fun fd F => F.binds1 3 1 (by decide) rfl fun _ _ _ _ _ _ _ us its hu hi => match us, hu, its, hi with | [_, _, _], _, [_, _], _ => ⟨_, rfl, rfl⟩) hr ha hg he hpl
theorem pe_mkW3 {e2 e3 : Expr} (T : Txt X.K X.mg) (WI : WayI X.prog X.w X.K X.mg X.base) (hr : Room 2 X.A) (ha : PA X [e, e2, e3] t) (hg : Gl X "Way" := by rfl) (he : starEach [e, e2, e3] X.env = (false, eval e X.env) :: starEach [e2, e3] X.env := by rfl) (hpl : (backTo pos (starEach [e2, e3] X.env)).any (·.1) = false := by rfl) :
    PE X (.Call (.Name "Way" p) [e, e2, e3] [] pos) (tMkW X.K [] t) :=
  pe_mkW T WI (fun fd F => F.binds1 4 2 (by decide) rfl fun _ _ _ _ _ _ _ us its hu hi => match us, hu, its, hi with | [_, _, _, _], _, [_, _], _ => ⟨_, rfl, rfl⟩) hr ha hg he hpl
end
section
variable {P : Program} {w : World} {K : PySem.W.Frag} {mg : Str → Option Value} {base : Heap}
/-! ### what a way tells -/
def spWayF (K : PySem.W.Frag) (f : Wy → Option Int) : Sp := fun vs H Q _ => ∃ a y, vs = [.ref a] ∧ WayAt K H a y ∧ Q (optV (f y)) H
theorem ok_way_shift (T : Txt K mg) : FnR P w K mg base CX0 1 (pg K "Way" "shift") (spWayF K (·.sh)) := by
  obtain ⟨fd, F⟩ := T.f_Way_shift
  refine ((F.ok sc_Way_shift (fun vs H Q E h => ?_) (fun cdv A outer s H vs Q E hr h => ?_)).raw (F.bindsN fun _ _ _ _ _ _ us hl => match us, hl with | [_], _ => rfl) .nil).imp fun vs H Q E h => by rw [List.append_nil]; exact h
  · obtain ⟨_, _, rfl, _⟩ := h
    rfl
  · obtain ⟨a, y, rfl, ⟨dx, hS⟩, q⟩ := h
    exact ⟨_, PSs.nox (pss_one (ps_ret (pe_sl (pv 0)))), _, rfl, _, _, _, _, _, _, _, rfl, hS, T.cl_Way, T.sl_own_shift, rfl, q⟩
theorem ok_way_floor (T : Txt K mg) : FnR P w K mg base CX0 1 (pg K "Way" "floor") (spWayF K (·.fl)) := by
  obtain ⟨fd, F⟩ := T.f_Way_floor
  refine ((F.ok sc_Way_floor (fun vs H Q E h => ?_) (fun cdv A outer s H vs Q E hr h => ?_)).raw (F.bindsN fun _ _ _ _ _ _ us hl => match us, hl with | [_], _ => rfl) .nil).imp fun vs H Q E h => by rw [List.append_nil]; exact h
  · obtain ⟨_, _, rfl, _⟩ := h
    rfl
  · obtain ⟨a, y, rfl, ⟨dx, hS⟩, q⟩ := h
    exact ⟨_, PSs.nox (pss_one (ps_ret (pe_sl (pv 0)))), _, rfl, _, _, _, _, _, _, _, rfl, hS, T.cl_Way, T.sl_own_floor, rfl, q⟩
theorem ok_way_cap (T : Txt K mg) : FnR P w K mg base CX0 1 (pg K "Way" "cap") (spWayF K (·.cp)) := by
  obtain ⟨fd, F⟩ := T.f_Way_cap
  refine ((F.ok sc_Way_cap (fun vs H Q E h => ?_) (fun cdv A outer s H vs Q E hr h => ?_)).raw (F.bindsN fun _ _ _ _ _ _ us hl => match us, hl with | [_], _ => rfl) .nil).imp fun vs H Q E h => by rw [List.append_nil]; exact h
  · obtain ⟨_, _, rfl, _⟩ := h
    rfl
  · obtain ⟨a, y, rfl, ⟨dx, hS⟩, q⟩ := h
    exact ⟨_, PSs.nox (pss_one (ps_ret (pe_sl (pv 0)))), _, rfl, _, _, _, _, _, _, _, rfl, hS, T.cl_Way, T.sl_own_cap, rfl, q⟩
def spWayCall (K : PySem.W.Frag) : Sp := fun vs H Q _ => ∃ (a : Addr) (y : Wy) (s : Int), vs = [.ref a, .int s] ∧ WayAt K H a y ∧ (y.sh = none → y.fl ≠ none) ∧ Q (.int (app y s)) H
theorem ok_way_call (T : Txt K mg) (P_kept : Pr P w K mg base CX0 1 "kept" spKept) : FnR P w K mg base CX0 2 (ma K (ga K "Way") "__call__") (spWayCall K) := by
  obtain ⟨fd, F⟩ := T.f_Way__call
  refine ((F.ok sc_Way__call (fun vs H Q E h => ?_) (fun cdv A outer s H vs Q E hr h => ?_)).raw (F.bindsN fun _ _ _ _ _ _ us hl => match us, hl with | [_, _], _ => rfl) .nil).imp fun vs H Q E h => by rw [List.append_nil]; exact h
  · obtain ⟨_, _, _, rfl, _⟩ := h
    rfl
  · obtain ⟨a, ⟨sh, fl, cp⟩, st, rfl, ⟨dx, hS⟩, hf, q⟩ := h
    refine ⟨_, PSs.nox (pss_cons (ps_if (pt_cmpR op_isN (pe_sl (pv 0)) pe_non (nomark _)) (pss_one (ps_ret (pe_sl (pv 0)))) pss_nil) (pss_one (ps_ret (pe_g P_kept (hr.mono (by decide)) pass0 (pa_cons (pe_op op_add (pv 1) (pe_sl (pv 0))) (pa_cons (pe_sl (pv 0)) (pa_cons (pe_sl (pv 0)) pa_nil))))))), ?_⟩
    cases sh with
    | none =>
      cases fl with
      | none => exact absurd rfl (hf rfl)
      | some f =>
        (repeat' first | refine ⟨_, rfl, ?_⟩ | refine ⟨rfl, ?_⟩ | refine ⟨_, _, rfl, rfl, ?_⟩ | refine ⟨_, _, rfl, ?_⟩ | refine iteT' rfl ?_ | refine iteF' rfl ?_ | refine ⟨_, _, _, _, _, _, _, rfl, hS, T.cl_Way, T.sl_own_shift, rfl, ?_⟩ | refine ⟨_, _, _, _, _, _, _, rfl, hS, T.cl_Way, T.sl_own_floor, rfl, ?_⟩ | fail)
        exact q
    | some sh =>
      (repeat' first | refine ⟨_, rfl, ?_⟩ | refine ⟨rfl, ?_⟩ | refine ⟨_, _, rfl, rfl, ?_⟩ | refine ⟨_, _, rfl, ?_⟩ | refine iteT' rfl ?_ | refine iteF' rfl ?_ | refine ⟨_, _, _, _, _, _, _, rfl, hS, T.cl_Way, T.sl_own_shift, rfl, ?_⟩ | refine ⟨_, _, _, _, _, _, _, rfl, hS, T.cl_Way, T.sl_own_floor, rfl, ?_⟩ | refine ⟨_, _, _, _, _, _, _, rfl, hS, T.cl_Way, T.sl_own_cap, rfl, ?_⟩ | fail)
      exact ⟨st + sh, fl, cp, rfl, q⟩
def spWayThen (K : PySem.W.Frag) : Sp := fun vs H Q _ => ∃ a b x y, vs = [.ref a, .ref b] ∧ WayAt K H a x ∧ WayAt K H b y ∧ WOk x ∧ WOk y ∧ ∀ c H', Kp [] H H' → WayAt K H' c (thenW x y) → Q (.ref c) H'
theorem slt_kp0 {H H' : Hp} {a C dx : Addr} {v : Option V} {vs : List (Option V)} (h : Slt H a C dx (v :: vs)) (k : Kp [] H H') : Slt H' a C dx (v :: vs) := slt_kp h k (fun z => nomatch z) (fun z => nomatch z)
theorem ok_way_then (T : Txt K mg) (WI : WayI P w K mg base) (P_kept : Pr P w K mg base CX0 1 "kept" spKept) (P_Way_shift : FnR P w K mg base CX0 1 (pg K "Way" "shift") (spWayF K (·.sh))) (P_Way_floor : FnR P w K mg base CX0 1 (pg K "Way" "floor") (spWayF K (·.fl)))
    (P_Way_cap : FnR P w K mg base CX0 1 (pg K "Way" "cap") (spWayF K (·.cp))) : FnR P w K mg base CX0 3 (ma K (ga K "Way") "__rshift__") (spWayThen K) := by
  obtain ⟨fd, F⟩ := T.f_Way__rshift
  refine ((F.ok sc_Way__rshift (fun vs H Q E h => ?_) (fun cdv A outer s H vs Q E hr h => ?_)).raw (F.bindsN fun _ _ _ _ _ _ us hl => match us, hl with | [_, _], _ => rfl) .nil).imp fun vs H Q E h => by rw [List.append_nil]; exact h
  · obtain ⟨_, _, _, _, rfl, _⟩ := h
    rfl
  · obtain ⟨a, b, x, y, rfl, ⟨dx, hA⟩, ⟨dy, hB⟩, hx, hy, q⟩ := h
    refine ⟨_, PSs.nox (pss_cons (ps_par3 (i := 2) (j := 3) (l := 4) rfl sc_Way__rshift.nd rfl rfl rfl (by decide) (by decide) (by decide) rfl rfl rfl (pa_cons (pe_propSl (E := E0) (pv 1) T.cl_Way T.p_Way_shift.at_ T.p_Way_shift.get T.p_Way_shift.tk T.p_Way_shift.rc P_Way_shift (hr.mono (by decide)) (fun _ _ _ _ z => z)) (pa_cons (pe_propSl (E := E0) (pv 1) T.cl_Way T.p_Way_floor.at_ T.p_Way_floor.get T.p_Way_floor.tk T.p_Way_floor.rc P_Way_floor (hr.mono (by decide)) (fun _ _ _ _ z => z)) (pa_cons (pe_propSl (E := E0) (pv 1) T.cl_Way T.p_Way_cap.at_ T.p_Way_cap.get T.p_Way_cap.tk T.p_Way_cap.rc P_Way_cap (hr.mono (by decide)) (fun _ _ _ _ z => z)) pa_nil))) (by rfl)) (pss_cons (ps_if (pt_cmpR op_isN (pv 2) pe_non (nomark _)) (pss_one (ps_ret (pe_mkW3 T WI (hr.mono (by decide)) (pa_cons pe_non (pa_cons (pv 3) (pa_cons (pv 4) pa_nil)))))) pss_nil) (pss_cons (ps_set (i := 5) sc_Way__rshift.nd rfl (.inl rfl) (pe_ifExp (pt_cmpR op_isN (pe_sl (pv 0)) pe_non (nomark _)) (pv 3) (pe_g P_kept (hr.mono (by decide)) pass0 (pa_cons (pe_op op_add (pe_sl (pv 0)) (pv 2)) (pa_cons (pv 3) (pa_cons (pv 4) pa_nil)))))) (pss_cons (ps_set (i := 6) sc_Way__rshift.nd rfl (.inl rfl) (pe_ifExp (pt_cmpR op_isN (pe_sl (pv 0)) pe_non (nomark _)) (pv 4) (pe_g P_kept (hr.mono (by decide)) pass0 (pa_cons (pe_op op_add (pe_sl (pv 0)) (pv 2)) (pa_cons (pv 3) (pa_cons (pv 4) pa_nil)))))) (pss_one (ps_ret (pe_mkW3 T WI (hr.mono (by decide)) (pa_cons (pe_ifExp (pt_cmpR op_isN (pe_sl (pv 0)) pe_non (nomark _)) pe_non (pe_op op_add (pe_sl (pv 0)) (pv 2))) (pa_cons (pv 5) (pa_cons (pv 6) pa_nil)))))))))), ?_⟩
    (repeat' first | refine ⟨_, rfl, ?_⟩ | refine ⟨rfl, ?_⟩ | refine ⟨_, _, rfl, rfl, ?_⟩ | refine ⟨_, _, rfl, ?_⟩ | refine iteT' rfl ?_ | refine iteF' rfl ?_ | refine ⟨_, _, _, rfl, hB, _, _, rfl, ⟨_, hB⟩, ?_⟩ | fail)
    refine ⟨_, _, _, rfl, ?_⟩
    obtain ⟨sy, fy, cy⟩ := y
    obtain ⟨sx, fx, cx⟩ := x
    cases sy with
    | none =>
      (repeat' first | refine ⟨_, rfl, ?_⟩ | refine ⟨rfl, ?_⟩ | refine ⟨_, _, rfl, rfl, ?_⟩ | refine ⟨_, _, rfl, ?_⟩ | refine iteT' rfl ?_ | refine iteF' rfl ?_ | fail)
      exact ⟨none, fy, cy, rfl, ⟨hy.nc, fun _ => hy.fx.mp rfl⟩, q⟩
    | some m =>
      have hm := then_mk (more := m) hx hy rfl
      cases fx with
      | none =>
        cases cx with
        | none =>
          cases sx <;> (repeat' first | refine ⟨_, rfl, ?_⟩ | refine ⟨rfl, ?_⟩ | refine ⟨_, _, rfl, rfl, ?_⟩ | refine ⟨_, _, rfl, ?_⟩ | refine iteT' rfl ?_ | refine iteF' rfl ?_ | refine ⟨_, _, _, _, _, _, _, rfl, hA, T.cl_Way, T.sl_own_shift, rfl, ?_⟩ | refine ⟨_, _, _, _, _, _, _, rfl, hA, T.cl_Way, T.sl_own_floor, rfl, ?_⟩ | refine ⟨_, _, _, _, _, _, _, rfl, hA, T.cl_Way, T.sl_own_cap, rfl, ?_⟩ | fail)
          · exact ⟨_, _, _, rfl, hm, q⟩
          · exact ⟨_, _, _, rfl, hm, q⟩
        | some c =>
          (repeat' first | refine ⟨_, rfl, ?_⟩ | refine ⟨rfl, ?_⟩ | refine ⟨_, _, rfl, rfl, ?_⟩ | refine ⟨_, _, rfl, ?_⟩ | refine iteT' rfl ?_ | refine iteF' rfl ?_ | refine ⟨_, _, _, _, _, _, _, rfl, hA, T.cl_Way, T.sl_own_shift, rfl, ?_⟩ | refine ⟨_, _, _, _, _, _, _, rfl, hA, T.cl_Way, T.sl_own_floor, rfl, ?_⟩ | refine ⟨_, _, _, _, _, _, _, rfl, hA, T.cl_Way, T.sl_own_cap, rfl, ?_⟩ | fail)
          refine ⟨c + m, fy, cy, rfl, ?_⟩
          cases sx <;> (repeat' first | refine ⟨_, rfl, ?_⟩ | refine ⟨rfl, ?_⟩ | refine ⟨_, _, rfl, rfl, ?_⟩ | refine ⟨_, _, rfl, ?_⟩ | refine iteT' rfl ?_ | refine iteF' rfl ?_ | refine ⟨_, _, _, _, _, _, _, rfl, hA, T.cl_Way, T.sl_own_shift, rfl, ?_⟩ | refine ⟨_, _, _, _, _, _, _, rfl, hA, T.cl_Way, T.sl_own_floor, rfl, ?_⟩ | refine ⟨_, _, _, _, _, _, _, rfl, hA, T.cl_Way, T.sl_own_cap, rfl, ?_⟩ | fail)
          · exact ⟨_, _, _, rfl, hm, q⟩
          · exact ⟨_, _, _, rfl, hm, q⟩
      | some f =>
        (repeat' first | refine ⟨_, rfl, ?_⟩ | refine ⟨rfl, ?_⟩ | refine ⟨_, _, rfl, rfl, ?_⟩ | refine ⟨_, _, rfl, ?_⟩ | refine iteT' rfl ?_ | refine iteF' rfl ?_ | refine ⟨_, _, _, _, _, _, _, rfl, hA, T.cl_Way, T.sl_own_shift, rfl, ?_⟩ | refine ⟨_, _, _, _, _, _, _, rfl, hA, T.cl_Way, T.sl_own_floor, rfl, ?_⟩ | refine ⟨_, _, _, _, _, _, _, rfl, hA, T.cl_Way, T.sl_own_cap, rfl, ?_⟩ | fail)
        refine ⟨f + m, fy, cy, rfl, ?_⟩
        cases cx with
        | none =>
          cases sx <;> (repeat' first | refine ⟨_, rfl, ?_⟩ | refine ⟨rfl, ?_⟩ | refine ⟨_, _, rfl, rfl, ?_⟩ | refine ⟨_, _, rfl, ?_⟩ | refine iteT' rfl ?_ | refine iteF' rfl ?_ | refine ⟨_, _, _, _, _, _, _, rfl, hA, T.cl_Way, T.sl_own_shift, rfl, ?_⟩ | refine ⟨_, _, _, _, _, _, _, rfl, hA, T.cl_Way, T.sl_own_floor, rfl, ?_⟩ | refine ⟨_, _, _, _, _, _, _, rfl, hA, T.cl_Way, T.sl_own_cap, rfl, ?_⟩ | fail)
          · exact ⟨_, _, _, rfl, hm, q⟩
          · exact ⟨_, _, _, rfl, hm, q⟩
        | some c =>
          (repeat' first | refine ⟨_, rfl, ?_⟩ | refine ⟨rfl, ?_⟩ | refine ⟨_, _, rfl, rfl, ?_⟩ | refine ⟨_, _, rfl, ?_⟩ | refine iteT' rfl ?_ | refine iteF' rfl ?_ | refine ⟨_, _, _, _, _, _, _, rfl, hA, T.cl_Way, T.sl_own_shift, rfl, ?_⟩ | refine ⟨_, _, _, _, _, _, _, rfl, hA, T.cl_Way, T.sl_own_floor, rfl, ?_⟩ | refine ⟨_, _, _, _, _, _, _, rfl, hA, T.cl_Way, T.sl_own_cap, rfl, ?_⟩ | fail)
          refine ⟨c + m, fy, cy, rfl, ?_⟩
          cases sx <;> (repeat' first | refine ⟨_, rfl, ?_⟩ | refine ⟨rfl, ?_⟩ | refine ⟨_, _, rfl, rfl, ?_⟩ | refine ⟨_, _, rfl, ?_⟩ | refine iteT' rfl ?_ | refine iteF' rfl ?_ | refine ⟨_, _, _, _, _, _, _, rfl, hA, T.cl_Way, T.sl_own_shift, rfl, ?_⟩ | refine ⟨_, _, _, _, _, _, _, rfl, hA, T.cl_Way, T.sl_own_floor, rfl, ?_⟩ | refine ⟨_, _, _, _, _, _, _, rfl, hA, T.cl_Way, T.sl_own_cap, rfl, ?_⟩ | fail)
          · exact ⟨_, _, _, rfl, hm, q⟩
          · exact ⟨_, _, _, rfl, hm, q⟩
end
end K65
set_option Elab.async false
set_option linter.all false
set_option maxRecDepth 100000
set_option maxHeartbeats 4000000
namespace K65
open PySem PySem.Spec PyProof.Rows L2 SlX He
section
variable {P : Program} {w : World} {K : PySem.W.Frag} {mg : Str → Option Value} {base : Heap}
/-! ### the way of a row -/
def spWayOf (K : PySem.W.Frag) : Sp := fun vs H Q _ => ∃ (a : Addr) (row : List Ev), vs = [.ref a] ∧ RowT K H a row ∧ ∀ c H', Kp [] H H' → WayAt K H' c (wayOf row) → Q (.ref c) H'
theorem wayOf_succ {row : List Ev} {i : Nat} {e : Ev} (h : row[i]? = some e) : wayOf (row.take (i + 1)) = thenW (wayOf (row.take i)) (wayEv e) := by
  rw [List.take_add_one, h]
  unfold wayOf
  rw [List.foldl_append]
  rfl
theorem ok_way_of (T : Txt K mg) (WI : WayI P w K mg base) (P_rshift : FnR P w K mg base CX0 3 (ma K (ga K "Way") "__rshift__") (spWayThen K)) : Pr P w K mg base CX0 4 "way_of" (spWayOf K) := by
  obtain ⟨fd, F⟩ := T.f_way_of
  obtain ⟨ta, hADD⟩ := T.c_ADD
  obtain ⟨tf, hFLOOR⟩ := T.c_FLOOR
  refine Pr.of T.g_way_of F.kp (F.ok sc_way_of (fun vs H Q E h => ?_) (fun cdv A outer s H vs Q E hr h => ?_)) (F.bindsN fun _ _ _ _ _ _ us hl => match us, hl with | [_], _ => rfl)
  · obtain ⟨_, _, rfl, _⟩ := h
    rfl
  · obtain ⟨a, row, rfl, ⟨xs, hx, hv⟩, q⟩ := h
    refine ⟨_, PSs.nox (pss_cons (ps_set (i := 1) sc_way_of.nd rfl (.inl rfl) (pe_mkW1 T WI (hr.mono (by decide)) (pa_cons pe_int pa_nil))) (pss_cons (ps_for PassesOwn.never rfl (pi_tup (pv 0)) (pg_tup rfl (pgs_cons (pg_name (i := 2) sc_way_of.nd rfl (Or.inl rfl)) (pgs_cons (pg_name (i := 3) sc_way_of.nd rfl (Or.inl rfl)) pgs_nil))) (pss_one (ps_set (i := 1) sc_way_of.nd rfl (.inl rfl) (pe_op (op_binOwn T.sf_Way T.d_Way_rshift T.n_Way_rshift P_rshift (hr.mono (by decide)) pass0) (pv 1) (pe_ifExp (pt_cmpR op_eq (pv 2) (pe_glob (v := .str "add") rfl hADD ⟨_, rfl⟩) (nomark _)) (pe_mkW1 T WI (hr.mono (by decide)) (pa_cons (pv 3) pa_nil)) (pe_ifExp (pt_cmpR op_eq (pv 2) (pe_glob (v := .str "floor") rfl hFLOOR ⟨_, rfl⟩) (nomark _)) (pe_mkW2 T WI (hr.mono (by decide)) (pa_cons pe_int (pa_cons (pv 3) pa_nil))) (pe_mkW3 T WI (hr.mono (by decide)) (pa_cons pe_int (pa_cons pe_non (pa_cons (pv 3) pa_nil)))))))))) (pss_one (ps_ret (pv 1))))), ?_⟩
    refine ⟨some 0, none, none, rfl, ⟨rfl, fun z => nomatch z⟩, fun c0 H0 k0 z0 => ?_⟩
    refine ⟨_, rfl, _, rfl, ⟨xs, sqTk0 hx k0⟩, for_it (walk_tup (xs := xs)) (fun i σ H' => Kp [] H H' ∧ ∃ c o1 o2, WayAt K H' c (wayOf (row.take i)) ∧ σ = [some (.ref a), some (.ref c), o1, o2]) ⟨k0, c0, none, none, z0, rfl⟩ (fun i σ H' _ z => sqTk0 hx z.1) ?_ ?_⟩
    · rintro i x σ H1 H2 hi ⟨k, c, o1, o2, hc, rfl⟩ ⟨rfl, hxi⟩
      obtain ⟨⟨wd, n⟩, he, t, rfl, ht⟩ := evs_get hv hxi
      refine ⟨t, _, rfl, sqTk0 ht k, rfl, _, _, rfl, _, _, rfl, rfl, ?_⟩
      obtain ⟨dx, hS⟩ := id hc
      have fin : ∀ d H', Kp [] H2 H' → WayAt K H' d (wayEv (wd, n)) → rBinOwn (ga K "Way") (spWayThen K) E0 (.ref c) (.ref d) H' fun v H3 => Kp [] H H3 ∧ ∃ c' o1' o2', WayAt K H3 c' (wayOf (row.take (i + 1))) ∧ [some (.ref a), some v, some (.str (wdS wd)), some (.int n)] = [some (.ref a), some (.ref c'), o1', o2'] := by
        intro d H' k' hd
        obtain ⟨dy, hS'⟩ := id hd
        refine ⟨c, dx, _, d, dy, _, rfl, rfl, slt_kp0 hS k', hS', c, d, _, _, rfl, hc.kp k', hd, wayOf_ok _, wayEv_ok _, fun c2 H3 k3 z3 => ⟨k.trans (k'.trans k3), c2, _, _, ?_, rfl⟩⟩
        rw [wayOf_succ he]
        exact z3
      cases wd with
      | add =>
        refine ⟨_, rfl, _, rfl, rfl, _, rfl, decT rfl ?_⟩
        exact ⟨_, rfl, some n, none, none, rfl, ⟨rfl, fun z => nomatch z⟩, fin⟩
      | floor =>
        refine ⟨_, rfl, _, rfl, rfl, _, rfl, decF nFA ?_⟩
        refine ⟨_, rfl, rfl, _, rfl, decT rfl ?_⟩
        exact ⟨_, rfl, some 0, some n, none, rfl, ⟨rfl, fun z => nomatch z⟩, fin⟩
      | cap =>
        refine ⟨_, rfl, _, rfl, rfl, _, rfl, decF nCA ?_⟩
        refine ⟨_, rfl, rfl, _, rfl, decF nCF ?_⟩
        exact ⟨_, rfl, some 0, none, some n, rfl, ⟨rfl, fun z => nomatch z⟩, fin⟩
    · rintro σ H1 ⟨k, c, o1, o2, hc, rfl⟩
      refine ⟨_, rfl, q _ _ k ?_⟩
      rw [hv.len, List.take_length] at hc
      exact hc
/-! ### starts between -/
def SpanAt (K : PySem.W.Frag) (H : Hp) (v : V) : Option Span → Prop
  | none => v = .non
  | some p => ∃ t, v = .ref t ∧ SqT K H t [optV p.1, optV p.2]
theorem SpanAt.kp {K : PySem.W.Frag} {H H' : Hp} {ex : List Addr} {v : V} {sp : Option Span} (h : SpanAt K H v sp) (k : Kp ex H H') : SpanAt K H' v sp := by
  cases sp with
  | none => exact h
  | some p =>
    obtain ⟨t, e, h⟩ := h
    exact ⟨t, e, sqTk0 h k⟩
def spStarts (K : PySem.W.Frag) : Sp := fun vs H Q _ => ∃ (a : Addr) (y : Wy) (lo hi : Int), vs = [.ref a, .int lo, .int hi] ∧ WayAt K H a y ∧ WOk y ∧ ∀ v H', Kp [] H H' → SpanAt K H' v (startsBetween y lo hi) → Q v H'
theorem ok_starts (T : Txt K mg) (P_Way_shift : FnR P w K mg base CX0 1 (pg K "Way" "shift") (spWayF K (·.sh))) (P_Way_floor : FnR P w K mg base CX0 1 (pg K "Way" "floor") (spWayF K (·.fl)))
    (P_Way_cap : FnR P w K mg base CX0 1 (pg K "Way" "cap") (spWayF K (·.cp))) : Pr P w K mg base CX0 3 "starts_between" (spStarts K) := by
  obtain ⟨fd, F⟩ := T.f_starts_between
  refine Pr.of T.g_starts_between F.kp (F.ok sc_starts_between (fun vs H Q E h => ?_) (fun cdv A outer s H vs Q E hr h => ?_)) (F.bindsN fun _ _ _ _ _ _ us hl => match us, hl with | [_, _, _], _ => rfl)
  · obtain ⟨_, _, _, _, rfl, _⟩ := h
    rfl
  · obtain ⟨a, ⟨sh, fl, cp⟩, lo, hi, rfl, ⟨dx, hS⟩, hy, q⟩ := h
    refine ⟨_, PSs.nox (pss_cons (ps_if (pt_cmpR op_isN (pe_propSl (E := E0) (pv 0) T.cl_Way T.p_Way_shift.at_ T.p_Way_shift.get T.p_Way_shift.tk T.p_Way_shift.rc P_Way_shift (hr.mono (by decide)) (fun _ _ _ _ z => z)) pe_non (nomark _)) (pss_cons (ps_set (i := 3) sc_starts_between.nd rfl (.inl rfl) (pe_and (pe_or (pe_cmpR op_isN (pv 1) pe_non (nomark _)) (pe_one (pe_cmpR op_le (pv 1) (pe_propSl (E := E0) (pv 0) T.cl_Way T.p_Way_floor.at_ T.p_Way_floor.get T.p_Way_floor.tk T.p_Way_floor.rc P_Way_floor (hr.mono (by decide)) (fun _ _ _ _ z => z)) (nomark _)))) (pe_one (pe_or (pe_cmpR op_isN (pv 2) pe_non (nomark _)) (pe_one (pe_cmpR op_le (pe_propSl (E := E0) (pv 0) T.cl_Way T.p_Way_floor.at_ T.p_Way_floor.get T.p_Way_floor.tk T.p_Way_floor.rc P_Way_floor (hr.mono (by decide)) (fun _ _ _ _ z => z)) (pv 2) (nomark _))))))) (pss_one (ps_ret (pe_ifExp (pt_val (pv 3)) (pe_tup (pa_cons pe_non (pa_cons pe_non pa_nil))) pe_non)))) pss_nil) (pss_cons (ps_if (PW.pt (pw_or (PW.pt (pw_and (pt_cmpR op_notN (pv 1) pe_non (nomark _)) (pw_and (pt_cmpR op_notN (pe_propSl (E := E0) (pv 0) T.cl_Way T.p_Way_cap.at_ T.p_Way_cap.get T.p_Way_cap.tk T.p_Way_cap.rc P_Way_cap (hr.mono (by decide)) (fun _ _ _ _ z => z)) pe_non (nomark _)) (pw_and1 (pt_cmpR op_lt (pe_propSl (E := E0) (pv 0) T.cl_Way T.p_Way_cap.at_ T.p_Way_cap.get T.p_Way_cap.tk T.p_Way_cap.rc P_Way_cap (hr.mono (by decide)) (fun _ _ _ _ z => z)) (pv 1) (nomark _)))))) (pw_or1 (PW.pt (pw_and (pt_cmpR op_notN (pv 2) pe_non (nomark _)) (pw_and (pt_cmpR op_notN (pe_propSl (E := E0) (pv 0) T.cl_Way T.p_Way_floor.at_ T.p_Way_floor.get T.p_Way_floor.tk T.p_Way_floor.rc P_Way_floor (hr.mono (by decide)) (fun _ _ _ _ z => z)) pe_non (nomark _)) (pw_and1 (pt_cmpR op_gt (pe_propSl (E := E0) (pv 0) T.cl_Way T.p_Way_floor.at_ T.p_Way_floor.get T.p_Way_floor.tk T.p_Way_floor.rc P_Way_floor (hr.mono (by decide)) (fun _ _ _ _ z => z)) (pv 2) (nomark _))))))))) (pss_one (ps_ret pe_non)) pss_nil) (pss_cons (ps_set (i := 4) sc_starts_between.nd rfl (.inl rfl) (pe_ifExp (PW.pt (pw_or (pt_cmpR op_isN (pv 1) pe_non (nomark _)) (pw_or1 (PW.pt (pw_and (pt_cmpR op_notN (pe_propSl (E := E0) (pv 0) T.cl_Way T.p_Way_floor.at_ T.p_Way_floor.get T.p_Way_floor.tk T.p_Way_floor.rc P_Way_floor (hr.mono (by decide)) (fun _ _ _ _ z => z)) pe_non (nomark _)) (pw_and1 (pt_cmpR op_ge (pe_propSl (E := E0) (pv 0) T.cl_Way T.p_Way_floor.at_ T.p_Way_floor.get T.p_Way_floor.tk T.p_Way_floor.rc P_Way_floor (hr.mono (by decide)) (fun _ _ _ _ z => z)) (pv 1) (nomark _)))))))) pe_non (pe_op op_sub (pv 1) (pe_propSl (E := E0) (pv 0) T.cl_Way T.p_Way_shift.at_ T.p_Way_shift.get T.p_Way_shift.tk T.p_Way_shift.rc P_Way_shift (hr.mono (by decide)) (fun _ _ _ _ z => z))))) (pss_cons (ps_set (i := 5) sc_starts_between.nd rfl (.inl rfl) (pe_ifExp (PW.pt (pw_or (pt_cmpR op_isN (pv 2) pe_non (nomark _)) (pw_or1 (PW.pt (pw_and (pt_cmpR op_notN (pe_propSl (E := E0) (pv 0) T.cl_Way T.p_Way_cap.at_ T.p_Way_cap.get T.p_Way_cap.tk T.p_Way_cap.rc P_Way_cap (hr.mono (by decide)) (fun _ _ _ _ z => z)) pe_non (nomark _)) (pw_and1 (pt_cmpR op_le (pe_propSl (E := E0) (pv 0) T.cl_Way T.p_Way_cap.at_ T.p_Way_cap.get T.p_Way_cap.tk T.p_Way_cap.rc P_Way_cap (hr.mono (by decide)) (fun _ _ _ _ z => z)) (pv 2) (nomark _)))))))) pe_non (pe_op op_sub (pv 2) (pe_propSl (E := E0) (pv 0) T.cl_Way T.p_Way_shift.at_ T.p_Way_shift.get T.p_Way_shift.tk T.p_Way_shift.rc P_Way_shift (hr.mono (by decide)) (fun _ _ _ _ z => z))))) (pss_one (ps_ret (pe_tup (pa_cons (pv 4) (pa_cons (pv 5) pa_nil))))))))), ?_⟩
    have tup : ∀ (u v : Option Int), startsBetween ⟨sh, fl, cp⟩ lo hi = some (u, v) → ∀ p, H p = none → Q (.ref p) (upd H p (.tup [optV u, optV v])) := fun u v e p hp => q _ _ (Kp.r0.laid hp) (by rw [e]; exact ⟨p, rfl, .of upd_same⟩)
    have non : startsBetween ⟨sh, fl, cp⟩ lo hi = none → Q .non H := fun e => q _ _ Kp.r0 (by rw [e]; rfl)
    cases sh with
    | none =>
      have hfx := hy.fx.mp rfl
      cases fl with
      | none => cases hfx
      | some f =>
        (repeat' first | refine ⟨_, rfl, ?_⟩ | refine ⟨rfl, ?_⟩ | refine ⟨_, _, rfl, rfl, ?_⟩ | refine ⟨_, _, rfl, ?_⟩ | refine iteT' rfl ?_ | refine iteF' rfl ?_ | refine ⟨_, _, _, rfl, hS, _, _, rfl, ⟨_, hS⟩, ?_⟩ | refine dec2 (fun _ => ?_) (fun _ => ?_) | fail)
        all_goals first
          | exact non (by unfold startsBetween; simp only [Option.getD_some]; rw [if_neg (by omega)])
          | exact ⟨Nat.le_of_ble_eq_true rfl, fun p hp => tup none none (by unfold startsBetween; simp only [Option.getD_some]; rw [if_pos (by omega)]) p hp⟩
    | some m =>
      cases fl <;> cases cp <;> (repeat' first | refine ⟨_, rfl, ?_⟩ | refine ⟨rfl, ?_⟩ | refine ⟨_, _, rfl, rfl, ?_⟩ | refine ⟨_, _, rfl, ?_⟩ | refine iteT' rfl ?_ | refine iteF' rfl ?_ | refine ⟨_, _, _, rfl, hS, _, _, rfl, ⟨_, hS⟩, ?_⟩ | refine dec2 (fun _ => ?_) (fun _ => ?_) | fail)
      all_goals first
        | exact non (by simp [startsBetween, outB, leastB, greatestB] <;> omega)
        | exact ⟨Nat.le_of_ble_eq_true rfl, fun p hp => tup none none (by simp [startsBetween, outB, leastB, greatestB] <;> omega) p hp⟩
        | exact ⟨Nat.le_of_ble_eq_true rfl, fun p hp => tup (some (lo - m)) none (by simp [startsBetween, outB, leastB, greatestB] <;> omega) p hp⟩
        | exact ⟨Nat.le_of_ble_eq_true rfl, fun p hp => tup none (some (hi - m)) (by simp [startsBetween, outB, leastB, greatestB] <;> omega) p hp⟩
        | exact ⟨Nat.le_of_ble_eq_true rfl, fun p hp => tup (some (lo - m)) (some (hi - m)) (by simp [startsBetween, outB, leastB, greatestB] <;> omega) p hp⟩
end
end K65
set_option Elab.async false
set_option linter.all false
set_option maxRecDepth 100000
set_option maxHeartbeats 4000000
namespace K65
open PySem PySem.Spec PyProof.Rows L2 SlX He
/-- a comprehension that makes one thing a turn: I what stands from turn to turn, Z what is told of the i-th thing -/
theorem lc_gen {J : It} {n : Nat} {G : Hp → Prop} {Y : Nat → Hp → V → Hp → Prop} (w : Walk J n G Y) {g : TG} {tt : TT} {te : TE} {vs : List Nat} {σ : L2.St} {H1 : Hp} {Qd : Addr → Hp → Prop} (ex : List Addr) (I : Nat → Hp → Prop) (Z : Nat → V → Hp → Prop) (hn : n ≤ sizeLine)
    (htt : ∀ σ H R, R true H → tt σ H R) (hex : ∀ b ∈ ex, H1 b ≠ none) (h0 : I 0 H1) (hIu : ∀ i D H o, H1 D = none → I i H → I i (upd H D o)) (hG : ∀ i H', i ≤ n → Kp ex H1 H' → I i H' → G H')
    (hZ : ∀ i y H H' D, H1 D = none → Kp (D :: ex) H H' → Z i y H → Z i y H')
    (step : ∀ i x H' H'', i < n → Kp ex H1 H' → I i H' → Y i H' x H'' → g x (wipe σ vs) H'' fun σ2 H2 => wipe σ2 vs = wipe σ vs ∧ ∀ R : VK, (∀ y H4, Kp ex H' H4 → I (i + 1) H4 → Z i y H4 → R y H4) → te σ2 H2 R)
    (hg : ∀ x σ H (A B : L2.St → Hp → Prop), (∀ σ2 H2, A σ2 H2 → B σ2 H2) → g x σ H A → g x σ H B)
    (done : ∀ D H' ys, Kp ex H1 H' → H1 D = none → H' D = some (.lst ys) → I n H' → ys.length = n → (∀ i y, ys[i]? = some y → Z i y H') → Qd D H') :
    ∀ D, H1 D = none → ∃ W : Nat → Nat → Hp → Prop, (∃ m, W 0 m (upd H1 D (.lst []))) ∧ ∀ i m H, W i m H →
      (J.stop i H ∧ Qd D H) ∨ (J.go i H ∧ ∃ Nx : Hp → Prop, (∀ H', Nx H' → ∃ m', m' < m ∧ W (i + 1) m' H') ∧ ∀ x H', J.yld i H x H' → g x (wipe σ vs) H' fun σ2 H2 => wipe σ2 vs = wipe σ vs ∧ tt σ2 H2 fun b H3 =>
        if b = true then te σ2 H3 fun y H4 => ∃ acc, H4 D = some (.lst acc) ∧ acc.length < sizeLine ∧ Nx (upd H4 D (.lst (acc ++ [y]))) else Nx H3) := by
  intro D hD
  have hDe : D ∉ ex := fun z => hex D z hD
  refine lc_it w (fun i H' => Kp ex H1 H' ∧ I i H' ∧ ∃ ys, H' D = some (.lst ys) ∧ ys.length = i ∧ ∀ j y, ys[j]? = some y → Z j y H') ⟨Kp.rfl'.laid hD, hIu _ _ _ _ hD h0, [], upd_same, rfl, fun j y z => by simp at z⟩ (fun i H' hi z => hG i H' hi z.1 z.2.1) ?_ ?_
  · rintro i x H' H'' hi ⟨k, hi2, ys, hys, hl, hz⟩ hy
    refine hg _ _ _ _ _ ?_ (step i x H' H'' hi k hi2 hy)
    rintro σ2 H2 ⟨e, hR⟩
    refine ⟨e, htt _ _ _ ?_⟩
    rw [if_pos rfl]
    refine hR _ fun y H4 k4 i4 z4 => ⟨ys, k4.at1 hys hDe, by omega, (k.trans k4).new hD, hIu _ _ _ _ hD i4, ys ++ [y], upd_same, by simp [hl], fun j y' hj => ?_⟩
    have kk : Kp (D :: ex) H4 (upd H4 D (.lst (ys ++ [y]))) := Kp.rfl'.out (List.mem_cons_self ..) fun o ho => by
      rw [k4.at1 hys hDe] at ho
      cases ho
      exact fun z => z
    by_cases hlt : j < ys.length
    · rw [List.getElem?_append_left hlt] at hj
      exact hZ _ _ _ _ D hD ((k4.mono fun b hb => List.mem_cons_of_mem _ hb).trans kk) (hz j y' hj)
    · rw [List.getElem?_append_right (by omega)] at hj
      have e1 : j - ys.length = 0 := by
        cases q : j - ys.length with
        | zero => rfl
        | succ m => rw [q] at hj; simp at hj
      rw [e1] at hj
      cases Option.some.inj hj
      have e2 : j = i := by omega
      subst e2
      exact hZ _ _ _ _ D hD kk z4
  · rintro H' ⟨k, hi2, ys, hys, hl, hz⟩
    exact done D H' ys k hD hys hi2 hl hz
theorem gName_mono (j : Nat) : ∀ x σ H (A B : L2.St → Hp → Prop), (∀ σ2 H2, A σ2 H2 → B σ2 H2) → gName j x σ H A → gName j x σ H B := fun _ _ _ _ _ h z => h _ _ z
theorem gTup2_mono (K : PySem.W.Frag) (i j : Nat) : ∀ x σ H (A B : L2.St → Hp → Prop), (∀ σ2 H2, A σ2 H2 → B σ2 H2) → gTup K 2 (gCons (gName i) (gCons (gName j) gNil)) x σ H A → gTup K 2 (gCons (gName i) (gCons (gName j) gNil)) x σ H B := by
  rintro x σ H A B h ⟨a, xs, e1, e2, e3, v, r, e4, v2, r2, e5, e6, z⟩
  exact ⟨a, xs, e1, e2, e3, v, r, e4, v2, r2, e5, e6, h _ _ z⟩
theorem gTup4_mono (K : PySem.W.Frag) (i j k l : Nat) : ∀ x σ H (A B : L2.St → Hp → Prop), (∀ σ2 H2, A σ2 H2 → B σ2 H2) → gTup K 4 (gCons (gName i) (gCons (gName j) (gCons (gName k) (gCons (gName l) gNil)))) x σ H A → gTup K 4 (gCons (gName i) (gCons (gName j) (gCons (gName k) (gCons (gName l) gNil)))) x σ H B := by
  rintro x σ H A B h ⟨a, xs, e1, e2, e3, v, r, e4, v2, r2, e5, v3, r3, e7, v4, r4, e8, e6, z⟩
  exact ⟨a, xs, e1, e2, e3, v, r, e4, v2, r2, e5, v3, r3, e7, v4, r4, e8, e6, h _ _ z⟩
/-- .. without anything written -/
theorem lc_pure {J : It} {n : Nat} {G : Hp → Prop} {Y : Nat → Hp → V → Hp → Prop} (w : Walk J n G Y) {g : TG} {tt : TT} {te : TE} {vs : List Nat} {σ : L2.St} {H1 : Hp} {Qd : Addr → Hp → Prop} (Z : Nat → V → Hp → Prop) (hn : n ≤ sizeLine)
    (htt : ∀ σ H R, R true H → tt σ H R) (hG : ∀ H', Kp [] H1 H' → G H') (hZ : ∀ i y H H' (D : Addr), Kp [D] H H' → Z i y H → Z i y H')
    (hg : ∀ x σ H (A B : L2.St → Hp → Prop), (∀ σ2 H2, A σ2 H2 → B σ2 H2) → g x σ H A → g x σ H B)
    (step : ∀ i x H' H'', i < n → Kp [] H1 H' → Y i H' x H'' → g x (wipe σ vs) H'' fun σ2 H2 => wipe σ2 vs = wipe σ vs ∧ ∀ R : VK, (∀ y H4, Kp [] H' H4 → Z i y H4 → R y H4) → te σ2 H2 R)
    (done : ∀ D H' ys, Kp [] H1 H' → H1 D = none → H' D = some (.lst ys) → ys.length = n → (∀ i y, ys[i]? = some y → Z i y H') → Qd D H') :
    ∀ D, H1 D = none → ∃ W : Nat → Nat → Hp → Prop, (∃ m, W 0 m (upd H1 D (.lst []))) ∧ ∀ i m H, W i m H →
      (J.stop i H ∧ Qd D H) ∨ (J.go i H ∧ ∃ Nx : Hp → Prop, (∀ H', Nx H' → ∃ m', m' < m ∧ W (i + 1) m' H') ∧ ∀ x H', J.yld i H x H' → g x (wipe σ vs) H' fun σ2 H2 => wipe σ2 vs = wipe σ vs ∧ tt σ2 H2 fun b H3 =>
        if b = true then te σ2 H3 fun y H4 => ∃ acc, H4 D = some (.lst acc) ∧ acc.length < sizeLine ∧ Nx (upd H4 D (.lst (acc ++ [y]))) else Nx H3) :=
  lc_gen w [] (fun _ _ => True) Z hn htt (fun _ z => nomatch z) trivial (fun _ _ _ _ _ z => z) (fun _ H' _ k _ => hG H' k) (fun i y H H' D _ k z => hZ i y H H' D k z)
    (fun i x H' H'' hi k _ y => hg _ _ _ _ _ (fun σ2 H2 z => ⟨z.1, fun R hR => z.2 R fun y H4 k4 z4 => hR y H4 k4 trivial z4⟩) (step i x H' H'' hi k y)) hg (fun D H' ys k hD h _ hl hz => done D H' ys k hD h hl hz)
theorem tts_true : ∀ (σ : L2.St) (H : Hp) (R : Bool → Hp → Prop), R true H → tYes σ H R := fun _ _ _ z => z
end K65
set_option Elab.async false
set_option linter.all false
set_option maxRecDepth 100000
set_option maxHeartbeats 4000000
namespace K65
open PySem PySem.Spec PyProof.Rows L2 SlX He
/-! ### slices -/
section
variable {K : PySem.W.Frag} {H : Hp} {a : Addr} {xs : List V} {k : Nat} {Q : VK}
theorem cut_take (xs : List V) (k : Nat) : cutV xs none (some (k : Int)) = xs.take k := by
  unfold cutV
  rw [HT.sIx_none, HT.sIx_nat, List.drop_zero, Nat.sub_zero, ← List.take_take, List.take_length]
theorem cut_drop (xs : List V) (k : Nat) : cutV xs (some (k : Int)) none = xs.drop k := by
  unfold cutV
  rw [HT.sIx_none, HT.sIx_nat]
  by_cases h : k ≤ xs.length
  · rw [Nat.min_eq_left h]
    exact List.take_of_length_le (by rw [List.length_drop]; exact Nat.le_refl _)
  · rw [Nat.min_eq_right (by omega), Nat.sub_self, List.take_zero, List.drop_eq_nil_of_le (by omega)]
theorem cut_mid (xs : List V) (k : Nat) : cutV xs (some (k : Int)) (some ((k : Int) + 1)) = (xs.drop k).take 1 := by
  have e : ((k : Int) + 1) = ((k + 1 : Nat) : Int) := by omega
  unfold cutV
  rw [e, HT.sIx_nat, HT.sIx_nat]
  by_cases h : k < xs.length
  · rw [Nat.min_eq_left (by omega), Nat.min_eq_left (by omega)]
    have e2 : k + 1 - k = 1 := by omega
    rw [e2]
  · rw [Nat.min_eq_right (by omega), Nat.min_eq_right (by omega), Nat.sub_self, List.take_zero]
    have e2 : xs.drop k = [] := List.drop_eq_nil_of_le (by omega)
    rw [e2] <;> rfl
theorem slA (lo hi : Option Int) (h : SqT K H a xs) (q : ∀ b H', Kp [] H H' → SqT K H' b (cutV xs lo hi) → Q (.ref b) H') : rSlA K (.ref a) lo hi H Q := by
  refine ⟨a, xs, rfl, h, fun z => q a H Kp.r0 ?_, fun _ p hp => q p _ (Kp.r0.laid hp) (.of upd_same)⟩
  have e : cutV xs lo hi = xs := by
    unfold cutV
    rw [z.1, z.2, List.drop_zero, Nat.sub_zero, List.take_length]
  rw [e]
  exact h
end
section
variable {P : Program} {w : World} {K : PySem.W.Frag} {mg : Str → Option Value} {base : Heap}
/-! ### gaps -/
def spParts (K : PySem.W.Frag) : Sp := fun vs H Q _ => ∃ (a : Addr) (row : List Ev) (k : Nat) (s lo hi : Int), vs = [.ref a, .int k, .int s, .int lo, .int hi] ∧ RowT K H a row ∧ k ≤ row.length ∧
  ∀ t sv H', Kp [] H H' → SqT K H' t [.int (partsAt row k s lo hi).1, sv] → SpanAt K H' sv (partsAt row k s lo hi).2 → Q (.ref t) H'
theorem ok_parts (T : Txt K mg) (P_end_of : Pr P w K mg base CX0 2 "end_of" (spEnd K)) (P_way_of : Pr P w K mg base CX0 4 "way_of" (spWayOf K)) (P_starts_between : Pr P w K mg base CX0 3 "starts_between" (spStarts K)) : Pr P w K mg base CX0 5 "parts_at" (spParts K) := by
  obtain ⟨fd, F⟩ := T.f_parts_at
  refine Pr.of T.g_parts_at F.kp (F.ok sc_parts_at (fun vs H Q E h => ?_) (fun cdv A outer s H vs Q E hr h => ?_)) (F.bindsN fun _ _ _ _ _ _ us hl => match us, hl with | [_, _, _, _, _], _ => rfl)
  · obtain ⟨_, _, _, _, _, _, rfl, _⟩ := h
    rfl
  · obtain ⟨a, row, k, st, lo, hi, rfl, ⟨xs, hx, hv⟩, hk, q⟩ := h
    refine ⟨_, PSs.nox (pss_cons (ps_if (pt_not (pt_chain op_le op_le pe_int (pv 1) (pe_callB call_len_seq (by rfl) T.z_len PySem.boot_len (pa_cons (pv 0) pa_nil)))) (pss_one ps_never) pss_nil) (pss_one (ps_ret (pe_tup (pa_cons (pe_g P_end_of (hr.mono (by decide)) pass0 (pa_cons (pe_slice sl_tupA (pv 0) po_none (po_some (pv 1))) (pa_cons (pv 2) pa_nil))) (pa_cons (pe_g P_starts_between (hr.mono (by decide)) pass0 (pa_cons (pe_g P_way_of (hr.mono (by decide)) pass0 (pa_cons (pe_slice sl_tupA (pv 0) (po_some (pv 1)) po_none) pa_nil)) (pa_cons (pv 3) (pa_cons (pv 4) pa_nil)))) pa_nil)))))), ?_⟩
    have hl : xs.length = row.length := hv.len
    have c1 : (0 : Int) ≤ (k : Int) := by omega
    have c2 : (k : Int) ≤ (xs.length : Int) := by omega
    (repeat' first | refine ⟨_, rfl, ?_⟩ | refine ⟨rfl, ?_⟩ | refine ⟨_, _, rfl, rfl, ?_⟩ | refine ⟨_, _, rfl, ?_⟩ | refine iteT' rfl ?_ | refine iteF' rfl ?_ | refine decT c1 ?_ | refine decNF c2 ?_ | refine ⟨_, xs, rfl, .inr hx, ?_⟩ | fail)
    refine slA none (some (k : Int)) hx fun b H1 k1 hb => ?_
    rw [cut_take] at hb
    refine ⟨_, rfl, b, st, row.take k, rfl, .inl ⟨_, hb, (hv.take k).kp k1⟩, ?_⟩
    refine ⟨_, rfl, _, rfl, _, rfl, ?_⟩
    unfold tNoPart
    refine slA (some (k : Int)) none (sqTk0 hx k1) fun c H2 k2 hc => ?_
    rw [cut_drop] at hc
    refine ⟨c, row.drop k, rfl, ⟨_, hc, (hv.drop k).kp (k1.trans k2)⟩, fun d H3 k3 hd => ?_⟩
    refine ⟨_, rfl, _, rfl, d, wayOf (row.drop k), lo, hi, rfl, hd, wayOf_ok _, fun sv H4 k4 hsv => ?_⟩
    refine ⟨Nat.le_of_ble_eq_true rfl, fun p hp => q p sv _ ?_ (.of upd_same) (hsv.kp (Kp.r0.laid hp))⟩
    exact ((k1.trans k2).trans (k3.trans k4)).laid hp
/-- the three spans -/
def spSpan (K : PySem.W.Frag) (wd : Wd) : Sp := fun vs H Q _ => ∃ (a : Addr) (row : List Ev) (k : Nat) (s lo hi : Int), vs = [.ref a, .int k, .int s, .int lo, .int hi] ∧ RowT K H a row ∧ k ≤ row.length ∧
  ∀ v H', Kp [] H H' → SpanAt K H' v (spanOf wd (partsAt row k s lo hi).1 (partsAt row k s lo hi).2) → Q v H'
theorem ok_adds (T : Txt K mg) (P_parts_at : Pr P w K mg base CX0 5 "parts_at" (spParts K)) : Pr P w K mg base CX0 6 "adds_between" (spSpan K .add) := by
  obtain ⟨fd, F⟩ := T.f_adds_between
  refine Pr.of T.g_adds_between F.kp (F.ok sc_adds_between (fun vs H Q E h => ?_) (fun cdv A outer s H vs Q E hr h => ?_)) (F.bindsN fun _ _ _ _ _ _ us hl => match us, hl with | [_, _, _, _, _], _ => rfl)
  · obtain ⟨_, _, _, _, _, _, rfl, _⟩ := h
    rfl
  · obtain ⟨a, row, k, st, lo, hi, rfl, hrow, hk, q⟩ := h
    refine ⟨_, PSs.nox (pss_cons (ps_asg (pe_g P_parts_at (hr.mono (by decide)) pass0 (pa_cons (pv 0) (pa_cons (pv 1) (pa_cons (pv 2) (pa_cons (pv 3) (pa_cons (pv 4) pa_nil)))))) (pg_tup rfl (pgs_cons (pg_name (i := 5) sc_adds_between.nd rfl (Or.inr rfl)) (pgs_cons (pg_name (i := 6) sc_adds_between.nd rfl (Or.inl rfl)) pgs_nil)))) (pss_one (ps_ret (pe_ifExp (pt_cmpR op_isN (pv 6) pe_non (nomark _)) pe_non (pe_callTy call_tuple_of (by rfl) T.z_tuple (by decide +kernel) (pa_cons (pe_lc (own := [("bound", 7)]) (g := gName 7) rfl sc_adds_between.nd (pi_tup (pv 6)) (blkOk_by (own := [("bound", 7)]) (N := ["row", "place", "start", "low", "high", "level", "goal", "bound"]) (sc := defScope s_adds_between) (by decide +kernel)) (fun _ _ _ _ _ => (pg_name (i := 7) sc_adds_between.nd rfl (Or.inl rfl))) (fun _ _ _ _ _ => pts_nil) (fun _ _ _ _ _ => (pe_ifExp (pt_cmpR op_isN (pv 7) pe_non (nomark _)) pe_non (pe_op op_sub (pv 7) (pv 5))))) pa_nil)))))), ?_⟩
    generalize hpa : partsAt row k st lo hi = pa at q
    obtain ⟨lv, sp⟩ := pa
    refine ⟨_, rfl, _, rfl, _, rfl, _, rfl, _, rfl, a, row, k, st, lo, hi, rfl, hrow, hk, fun t sv H1 k1 ht hsv => ?_⟩
    rw [hpa] at ht hsv
    refine ⟨t, _, rfl, ht, rfl, _, _, rfl, _, _, rfl, rfl, ?_⟩
    cases sp with
    | none =>
      cases (show sv = V.non from hsv)
      exact ⟨_, rfl, rfl, _, rfl, decT rfl (q .non H1 k1 rfl)⟩
    | some p =>
      obtain ⟨u, v⟩ := p
      obtain ⟨tt, rfl, htt⟩ := hsv
      refine ⟨_, rfl, rfl, _, rfl, decF (fun z => nomatch z) ?_⟩
      refine ⟨_, rfl, tt, rfl, ⟨_, htt⟩, ?_⟩
      refine lc_pure (walk_tup (xs := [optV u, optV v])) (fun i y _ => y = optV ((if i = 0 then u else v).map (· - lv))) (Nat.le_of_ble_eq_true rfl) tts_true (fun H' k => sqTk0 htt k) (fun _ _ _ _ _ _ z => z) (gName_mono 7) ?_ ?_
      · rintro i x H' H'' hi k' ⟨rfl, hx⟩
        refine ⟨rfl, fun R hR => ?_⟩
        have ex : x = optV (if i = 0 then u else v) := by
          match i, hi, hx with
          | 0, _, hx => exact (Option.some.inj hx).symm
          | 1, _, hx => exact (Option.some.inj hx).symm
        have hR' := fun y e => hR y H'' Kp.r0 e
        subst ex
        generalize (if i = 0 then u else v) = o at hR'
        cases o with
        | none => exact ⟨_, rfl, rfl, _, rfl, decT rfl (hR' _ rfl)⟩
        | some o => exact ⟨_, rfl, rfl, _, rfl, decF (fun z => nomatch z) ⟨_, rfl, _, rfl, _, _, rfl, rfl, hR' _ rfl⟩⟩
      · intro D H' ys k' hD hys hl hz
        match ys, hl with
        | [y0, y1], _ =>
          have e0 := hz 0 y0 rfl
          have e1 := hz 1 y1 rfl
          refine ⟨D, _, rfl, .inl ⟨.of hys, fun l hl => ?_⟩⟩
          refine q _ _ ((k1.trans k').laid hl) ⟨l, rfl, .of ?_⟩
          rw [upd_same, e0, e1]
          rfl
theorem ok_floors (T : Txt K mg) (P_parts_at : Pr P w K mg base CX0 5 "parts_at" (spParts K)) : Pr P w K mg base CX0 6 "floors_between" (spSpan K .floor) := by
  obtain ⟨fd, F⟩ := T.f_floors_between
  refine Pr.of T.g_floors_between F.kp (F.ok sc_floors_between (fun vs H Q E h => ?_) (fun cdv A outer s H vs Q E hr h => ?_)) (F.bindsN fun _ _ _ _ _ _ us hl => match us, hl with | [_, _, _, _, _], _ => rfl)
  · obtain ⟨_, _, _, _, _, _, rfl, _⟩ := h
    rfl
  · obtain ⟨a, row, k, st, lo, hi, rfl, hrow, hk, q⟩ := h
    refine ⟨_, PSs.nox (pss_cons (ps_asg (pe_g P_parts_at (hr.mono (by decide)) pass0 (pa_cons (pv 0) (pa_cons (pv 1) (pa_cons (pv 2) (pa_cons (pv 3) (pa_cons (pv 4) pa_nil)))))) (pg_tup rfl (pgs_cons (pg_name (i := 5) sc_floors_between.nd rfl (Or.inl rfl)) (pgs_cons (pg_name (i := 6) sc_floors_between.nd rfl (Or.inl rfl)) pgs_nil)))) (pss_cons (ps_if (PW.pt (pw_or (pt_cmpR op_isN (pv 6) pe_non (nomark _)) (pw_or1 (PW.pt (pw_and (pt_cmpR op_notN (pe_ix ix_tup (pv 6) pe_int (fun _ _ => rfl)) pe_non (nomark _)) (pw_and1 (pt_cmpR op_gt (pv 5) (pe_ix ix_tup (pv 6) pe_int (fun _ _ => rfl)) (nomark _)))))))) (pss_one (ps_ret pe_non)) pss_nil) (pss_one (ps_ret (pe_ifExp (PW.pt (pw_and (pt_cmpR op_notN (pe_ix ix_tup (pv 6) pe_int (fun _ _ => rfl)) pe_non (nomark _)) (pw_and1 (pt_cmpR op_lt (pv 5) (pe_ix ix_tup (pv 6) pe_int (fun _ _ => rfl)) (nomark _))))) (pv 6) (pe_tup (pa_cons pe_non (pa_cons (pe_ix ix_tup (pv 6) pe_int (fun _ _ => rfl)) pa_nil)))))))), ?_⟩
    generalize hpa : partsAt row k st lo hi = pa at q
    obtain ⟨lv, sp⟩ := pa
    refine ⟨_, rfl, _, rfl, _, rfl, _, rfl, _, rfl, a, row, k, st, lo, hi, rfl, hrow, hk, fun t sv H1 k1 ht hsv => ?_⟩
    rw [hpa] at ht hsv
    refine ⟨t, _, rfl, ht, rfl, _, _, rfl, _, _, rfl, rfl, ?_⟩
    cases sp with
    | none =>
      cases (show sv = V.non from hsv)
      (repeat' first | refine ⟨_, rfl, ?_⟩ | refine ⟨rfl, ?_⟩ | refine ⟨_, _, rfl, rfl, ?_⟩ | refine ⟨_, _, rfl, ?_⟩ | refine iteT' rfl ?_ | refine iteF' rfl ?_ | refine decT rfl ?_ | fail)
      exact q .non H1 k1 rfl
    | some p =>
      obtain ⟨u, v⟩ := p
      obtain ⟨tt, rfl, htt⟩ := hsv
      have nonq : spanOf .floor lv (some (u, v)) = none → Q .non H1 := fun e => q _ _ k1 (by rw [e]; rfl)
      have sameq : spanOf .floor lv (some (u, v)) = some (u, v) → Q (.ref tt) H1 := fun e => q _ _ k1 (by rw [e]; exact ⟨tt, rfl, htt⟩)
      have newq : ∀ x y, spanOf .floor lv (some (u, v)) = some (x, y) → ∀ p, H1 p = none → Q (.ref p) (upd H1 p (.tup [optV x, optV y])) := fun x y e p hp => q _ _ (k1.laid hp) (by rw [e]; exact ⟨p, rfl, .of upd_same⟩)
      cases u <;> cases v <;> (repeat' first | refine ⟨_, rfl, ?_⟩ | refine ⟨rfl, ?_⟩ | refine ⟨_, _, rfl, rfl, ?_⟩ | refine ⟨_, _, rfl, ?_⟩ | refine iteT' rfl ?_ | refine iteF' rfl ?_ | refine ⟨_, _, _, _, rfl, rfl, htt, rfl, ?_⟩ | refine dec2 (fun _ => ?_) (fun _ => ?_) | fail)
      all_goals first
        | exact nonq (by simp [spanOf, floorsSpan] <;> omega)
        | exact sameq (by simp [spanOf, floorsSpan] <;> omega)
        | exact ⟨Nat.le_of_ble_eq_true rfl, newq none none (by simp [spanOf, floorsSpan] <;> omega)⟩
        | exact ⟨Nat.le_of_ble_eq_true rfl, newq none (some _) (by simp [spanOf, floorsSpan] <;> omega)⟩
theorem ok_caps (T : Txt K mg) (P_parts_at : Pr P w K mg base CX0 5 "parts_at" (spParts K)) : Pr P w K mg base CX0 6 "caps_between" (spSpan K .cap) := by
  obtain ⟨fd, F⟩ := T.f_caps_between
  refine Pr.of T.g_caps_between F.kp (F.ok sc_caps_between (fun vs H Q E h => ?_) (fun cdv A outer s H vs Q E hr h => ?_)) (F.bindsN fun _ _ _ _ _ _ us hl => match us, hl with | [_, _, _, _, _], _ => rfl)
  · obtain ⟨_, _, _, _, _, _, rfl, _⟩ := h
    rfl
  · obtain ⟨a, row, k, st, lo, hi, rfl, hrow, hk, q⟩ := h
    refine ⟨_, PSs.nox (pss_cons (ps_asg (pe_g P_parts_at (hr.mono (by decide)) pass0 (pa_cons (pv 0) (pa_cons (pv 1) (pa_cons (pv 2) (pa_cons (pv 3) (pa_cons (pv 4) pa_nil)))))) (pg_tup rfl (pgs_cons (pg_name (i := 5) sc_caps_between.nd rfl (Or.inl rfl)) (pgs_cons (pg_name (i := 6) sc_caps_between.nd rfl (Or.inl rfl)) pgs_nil)))) (pss_cons (ps_if (PW.pt (pw_or (pt_cmpR op_isN (pv 6) pe_non (nomark _)) (pw_or1 (PW.pt (pw_and (pt_cmpR op_notN (pe_ix ix_tup (pv 6) pe_int (fun _ _ => rfl)) pe_non (nomark _)) (pw_and1 (pt_cmpR op_lt (pv 5) (pe_ix ix_tup (pv 6) pe_int (fun _ _ => rfl)) (nomark _)))))))) (pss_one (ps_ret pe_non)) pss_nil) (pss_one (ps_ret (pe_ifExp (PW.pt (pw_and (pt_cmpR op_notN (pe_ix ix_tup (pv 6) pe_int (fun _ _ => rfl)) pe_non (nomark _)) (pw_and1 (pt_cmpR op_gt (pv 5) (pe_ix ix_tup (pv 6) pe_int (fun _ _ => rfl)) (nomark _))))) (pv 6) (pe_tup (pa_cons (pe_ix ix_tup (pv 6) pe_int (fun _ _ => rfl)) (pa_cons pe_non pa_nil)))))))), ?_⟩
    generalize hpa : partsAt row k st lo hi = pa at q
    obtain ⟨lv, sp⟩ := pa
    refine ⟨_, rfl, _, rfl, _, rfl, _, rfl, _, rfl, a, row, k, st, lo, hi, rfl, hrow, hk, fun t sv H1 k1 ht hsv => ?_⟩
    rw [hpa] at ht hsv
    refine ⟨t, _, rfl, ht, rfl, _, _, rfl, _, _, rfl, rfl, ?_⟩
    cases sp with
    | none =>
      cases (show sv = V.non from hsv)
      (repeat' first | refine ⟨_, rfl, ?_⟩ | refine ⟨rfl, ?_⟩ | refine ⟨_, _, rfl, rfl, ?_⟩ | refine ⟨_, _, rfl, ?_⟩ | refine iteT' rfl ?_ | refine iteF' rfl ?_ | refine decT rfl ?_ | fail)
      exact q .non H1 k1 rfl
    | some p =>
      obtain ⟨u, v⟩ := p
      obtain ⟨tt, rfl, htt⟩ := hsv
      have nonq : spanOf .cap lv (some (u, v)) = none → Q .non H1 := fun e => q _ _ k1 (by rw [e]; rfl)
      have sameq : spanOf .cap lv (some (u, v)) = some (u, v) → Q (.ref tt) H1 := fun e => q _ _ k1 (by rw [e]; exact ⟨tt, rfl, htt⟩)
      have newq : ∀ x y, spanOf .cap lv (some (u, v)) = some (x, y) → ∀ p, H1 p = none → Q (.ref p) (upd H1 p (.tup [optV x, optV y])) := fun x y e p hp => q _ _ (k1.laid hp) (by rw [e]; exact ⟨p, rfl, .of upd_same⟩)
      cases u <;> cases v <;> (repeat' first | refine ⟨_, rfl, ?_⟩ | refine ⟨rfl, ?_⟩ | refine ⟨_, _, rfl, rfl, ?_⟩ | refine ⟨_, _, rfl, ?_⟩ | refine iteT' rfl ?_ | refine iteF' rfl ?_ | refine ⟨_, _, _, _, rfl, rfl, htt, rfl, ?_⟩ | refine dec2 (fun _ => ?_) (fun _ => ?_) | fail)
      all_goals first
        | exact nonq (by simp [spanOf, capsSpan] <;> omega)
        | exact sameq (by simp [spanOf, capsSpan] <;> omega)
        | exact ⟨Nat.le_of_ble_eq_true rfl, newq none none (by simp [spanOf, capsSpan] <;> omega)⟩
        | exact ⟨Nat.le_of_ble_eq_true rfl, newq (some _) none (by simp [spanOf, capsSpan] <;> omega)⟩
end
end K65
set_option Elab.async false
set_option linter.all false
set_option maxRecDepth 100000
set_option maxHeartbeats 4000000
namespace K65
open PySem PySem.Spec PyProof.Rows L2 SlX He
section
variable {P : Program} {w : World} {K : PySem.W.Frag} {mg : Str → Option Value} {base : Heap}
/-! ### kept under a cap -/
def spUnder (K : PySem.W.Frag) : Sp := fun vs H Q _ => ∃ (a : Addr) (row : List Ev) (c : Int), vs = [.ref a, .int c] ∧ RowAt K H a row ∧ row.length < 1000 ∧ ∀ b H', Kp [] H H' → RowL K H' b (keptUnder row c) → Q (.ref b) H'
theorem under_take {row : List Ev} {i : Nat} {e : Ev} (c : Int) (h : row[i]? = some e) : keptUnder (row.take (i + 1)) c = keptUnder (row.take i) c ++ [e, (.cap, c)] := by
  rw [List.take_add_one, h]
  unfold keptUnder
  rw [List.flatMap_append]
  rfl
theorem under_len (row : List Ev) (c : Int) : (keptUnder row c).length = 2 * row.length := by
  induction row with
  | nil => rfl
  | cons e r ih =>
    show (keptUnder r c).length + 1 + 1 = 2 * (r.length + 1)
    omega
theorem ok_under (T : Txt K mg) : Pr P w K mg base CX0 1 "kept_under" (spUnder K) := by
  obtain ⟨fd, F⟩ := T.f_kept_under
  obtain ⟨tc, hCAP⟩ := T.c_CAP
  refine Pr.of T.g_kept_under F.kp (F.ok sc_kept_under (fun vs H Q E h => ?_) (fun cdv A outer s H vs Q E hr h => ?_)) (F.bindsN fun _ _ _ _ _ _ us hl => match us, hl with | [_, _], _ => rfl)
  · obtain ⟨_, _, _, rfl, _⟩ := h
    rfl
  · obtain ⟨a, row, c, rfl, hrow, hlen, q⟩ := h
    rcases hrow with ⟨xs, hx, hv⟩ | ⟨xs, hx, hv⟩
    · refine ⟨_, PSs.nox (pss_one (ps_ret (pe_lc2 (wi1 := iTup K (tTup (tCons (tVar 2) (tCons (tTup (tCons (tC (.str "cap")) (tCons (tVar 1) tNil))) tNil)))) (own := [("event", 2), ("part", 3)]) (vs1 := [3]) (g := gName 2) (g1 := gName 3) rfl sc_kept_under.nd (pi_tup (pv 0)) (blkOk_by (own := [("event", 2), ("part", 3)]) (N := ["row", "number", "event", "part"]) (sc := defScope s_kept_under) (by decide +kernel)) (by decide) (fun _ _ _ _ _ => (pg_name (i := 2) sc_kept_under.nd rfl (Or.inl rfl))) (fun _ _ _ _ _ => pts_nil) (fun _ _ _ _ _ => (pi_tup (pe_tup (pa_cons (pv 2) (pa_cons (pe_tup (pa_cons (pe_glob (v := .str "cap") rfl hCAP ⟨_, rfl⟩) (pa_cons (pv 1) pa_nil))) pa_nil))))) (fun _ _ _ _ _ => (pg_name (i := 3) sc_kept_under.nd rfl (Or.inl rfl))) (fun _ _ _ _ _ => pts_nil) (fun _ _ _ _ _ => (pv 3))))), ?_⟩
      refine ⟨_, rfl, a, rfl, ⟨_, hx⟩, fun D hD => ?_⟩
      have hl := hv.len
      have addE : ∀ (ys : List V) (r : List Ev) (H' : Hp) (y : V) (e : Ev), Kp [] H H' → H' D = some (.lst ys) → Evs K H' ys r → EvAt K H' y e → Kp [] H (upd H' D (.lst (ys ++ [y]))) ∧ (upd H' D (.lst (ys ++ [y]))) D = some (.lst (ys ++ [y])) ∧ Evs K (upd H' D (.lst (ys ++ [y]))) (ys ++ [y]) (r ++ [e]) := by
        intro ys r H' y e k hys hr he
        have kk : Kp [D] H' (upd H' D (.lst (ys ++ [y]))) := Kp.rfl'.out (List.mem_cons_self ..) fun o ho => by
          rw [hys] at ho
          cases ho
          exact fun z => z
        exact ⟨k.new hD, upd_same, (hr.kp kk).app (.cons (he.kp kk) .nil)⟩
      refine ⟨fun i m H' => m = xs.length - i ∧ i ≤ xs.length ∧ Kp [] H H' ∧ ∃ ys, H' D = some (.lst ys) ∧ Evs K H' ys (keptUnder (row.take i) c), ⟨_, rfl, Nat.zero_le _, Kp.r0.laid hD, [], upd_same, .nil⟩, ?_⟩
      rintro i m H' ⟨rfl, hi, k, ys, hys, hev⟩
      by_cases hlt : i < xs.length
      · refine .inr ⟨(walk_tup (xs := xs)).goes i _ hlt (sqTk0 hx k), fun H'' => i + 1 ≤ xs.length ∧ Kp [] H H'' ∧ ∃ ys, H'' D = some (.lst ys) ∧ Evs K H'' ys (keptUnder (row.take (i + 1)) c), fun H'' z => ⟨_, by omega, rfl, z⟩, fun x H2 hy => ?_⟩
        obtain ⟨rfl, hxi⟩ := (walk_tup (xs := xs)).yields i _ _ _ hlt (sqTk0 hx k) hy
        obtain ⟨e, he, hee⟩ := evs_get hv hxi
        refine ⟨rfl, tts_true _ _ _ (iteT ?_)⟩
        refine ⟨_, rfl, _, rfl, Nat.le_of_ble_eq_true rfl, fun p hp => ⟨Nat.le_of_ble_eq_true rfl, fun t ht => ⟨t, rfl, ⟨_, .of upd_same⟩, ?_⟩⟩⟩
        have k2 : Kp [] H2 (upd (upd H2 p (.tup [.str "cap", .int c])) t (.tup [x, .ref p])) := (Kp.r0.laid hp).laid ht
        have hcap : EvAt K (upd (upd H2 p (.tup [.str "cap", .int c])) t (.tup [x, .ref p])) (.ref p) (.cap, c) := ⟨p, rfl, sqTk0 (SqT.of upd_same) (Kp.r0.laid ht)⟩
        generalize hH3 : upd (upd H2 p (.tup [.str "cap", .int c])) t (.tup [x, .ref p]) = H3 at k2 hcap
        have htt : SqT K H3 t [x, .ref p] := by rw [← hH3]; exact .of upd_same
        have hxe : EvAt K H3 x e := (hee.kp k).kp k2
        refine ⟨fun j m H' => m = 2 - j ∧ j ≤ 2 ∧ Kp [] H H' ∧ Kp [D] H3 H' ∧ ∃ zs, H' D = some (.lst zs) ∧ Evs K H' zs (keptUnder (row.take i) c ++ [e, (.cap, c)].take j), ⟨_, rfl, Nat.zero_le _, k.trans k2, Kp.rfl', ys, k2.at0 hys, by rw [List.take_zero, List.append_nil]; exact hev.kp k2⟩, ?_⟩
        rintro j m H4 ⟨rfl, hj, k4, k34, zs, hzs, hez⟩
        have htt4 : SqT K H4 t [x, .ref p] := sqTk0 htt k34
        by_cases hj2 : j < 2
        · refine .inr ⟨(walk_tup (xs := [x, .ref p])).goes j _ hj2 htt4, fun H'' => j + 1 ≤ 2 ∧ Kp [] H H'' ∧ Kp [D] H3 H'' ∧ ∃ zs, H'' D = some (.lst zs) ∧ Evs K H'' zs (keptUnder (row.take i) c ++ [e, (.cap, c)].take (j + 1)), fun H'' z => ⟨_, by omega, rfl, z⟩, fun y H5 hy5 => ?_⟩
          obtain ⟨rfl, hyj⟩ := (walk_tup (xs := [x, .ref p])).yields j _ _ _ hj2 htt4 hy5
          refine ⟨rfl, tts_true _ _ _ (iteT ?_)⟩
          have hzl : zs.length < sizeLine := by
            have z1 := hez.len
            rw [List.length_append, under_len, List.length_take, List.length_take] at z1
            have z2 : ([e, (.cap, c)] : List Ev).length = 2 := rfl
            rw [z2] at z1
            unfold sizeLine
            omega
          have kD : Kp [D] H5 (upd H5 D (.lst (zs ++ [y]))) := Kp.rfl'.out (List.mem_cons_self ..) fun o ho => by
            rw [hzs] at ho
            cases ho
            exact fun z => z
          match j, hj2, hyj with
          | 0, _, hyj =>
            cases Option.some.inj hyj
            obtain ⟨a1, a2, a3⟩ := addE zs _ H5 x e k4 hzs hez (hxe.kp k34)
            exact ⟨_, rfl, zs, hzs, hzl, Nat.le_of_ble_eq_true rfl, a1, k34.trans kD, _, a2, by rw [List.append_assoc] at a3; exact a3⟩
          | 1, _, hyj =>
            cases Option.some.inj hyj
            obtain ⟨a1, a2, a3⟩ := addE zs _ H5 (.ref p) (.cap, c) k4 hzs hez (hcap.kp k34)
            exact ⟨_, rfl, zs, hzs, hzl, Nat.le_of_ble_eq_true rfl, a1, k34.trans kD, _, a2, by rw [List.append_assoc] at a3; exact a3⟩
        · have e2 : j = 2 := by omega
          subst e2
          exact .inl ⟨(walk_tup (xs := [x, .ref p])).stops _ htt4, hlt, k4, zs, hzs, by rw [under_take c he]; exact hez⟩
      · have e2 : i = xs.length := by omega
        subst e2
        refine .inl ⟨(walk_tup (xs := xs)).stops _ (sqTk0 hx k), q _ _ k ⟨ys, .of hys, ?_⟩⟩
        rw [hl, List.take_length] at hev
        exact hev
    · refine ⟨_, PSs.nox (pss_one (ps_ret (pe_lc2 (wi1 := iTup K (tTup (tCons (tVar 2) (tCons (tTup (tCons (tC (.str "cap")) (tCons (tVar 1) tNil))) tNil)))) (own := [("event", 2), ("part", 3)]) (vs1 := [3]) (g := gName 2) (g1 := gName 3) rfl sc_kept_under.nd (pi_list (pv 0)) (blkOk_by (own := [("event", 2), ("part", 3)]) (N := ["row", "number", "event", "part"]) (sc := defScope s_kept_under) (by decide +kernel)) (by decide) (fun _ _ _ _ _ => (pg_name (i := 2) sc_kept_under.nd rfl (Or.inl rfl))) (fun _ _ _ _ _ => pts_nil) (fun _ _ _ _ _ => (pi_tup (pe_tup (pa_cons (pv 2) (pa_cons (pe_tup (pa_cons (pe_glob (v := .str "cap") rfl hCAP ⟨_, rfl⟩) (pa_cons (pv 1) pa_nil))) pa_nil))))) (fun _ _ _ _ _ => (pg_name (i := 3) sc_kept_under.nd rfl (Or.inl rfl))) (fun _ _ _ _ _ => pts_nil) (fun _ _ _ _ _ => (pv 3))))), ?_⟩
      refine ⟨_, rfl, a, rfl, ⟨_, hx⟩, fun D hD => ?_⟩
      have hl := hv.len
      have addE : ∀ (ys : List V) (r : List Ev) (H' : Hp) (y : V) (e : Ev), Kp [] H H' → H' D = some (.lst ys) → Evs K H' ys r → EvAt K H' y e → Kp [] H (upd H' D (.lst (ys ++ [y]))) ∧ (upd H' D (.lst (ys ++ [y]))) D = some (.lst (ys ++ [y])) ∧ Evs K (upd H' D (.lst (ys ++ [y]))) (ys ++ [y]) (r ++ [e]) := by
        intro ys r H' y e k hys hr he
        have kk : Kp [D] H' (upd H' D (.lst (ys ++ [y]))) := Kp.rfl'.out (List.mem_cons_self ..) fun o ho => by
          rw [hys] at ho
          cases ho
          exact fun z => z
        exact ⟨k.new hD, upd_same, (hr.kp kk).app (.cons (he.kp kk) .nil)⟩
      refine ⟨fun i m H' => m = xs.length - i ∧ i ≤ xs.length ∧ Kp [] H H' ∧ ∃ ys, H' D = some (.lst ys) ∧ Evs K H' ys (keptUnder (row.take i) c), ⟨_, rfl, Nat.zero_le _, Kp.r0.laid hD, [], upd_same, .nil⟩, ?_⟩
      rintro i m H' ⟨rfl, hi, k, ys, hys, hev⟩
      by_cases hlt : i < xs.length
      · refine .inr ⟨(walk_list (xs := xs)).goes i _ hlt (sqLk0 hx k), fun H'' => i + 1 ≤ xs.length ∧ Kp [] H H'' ∧ ∃ ys, H'' D = some (.lst ys) ∧ Evs K H'' ys (keptUnder (row.take (i + 1)) c), fun H'' z => ⟨_, by omega, rfl, z⟩, fun x H2 hy => ?_⟩
        obtain ⟨rfl, hxi⟩ := (walk_list (xs := xs)).yields i _ _ _ hlt (sqLk0 hx k) hy
        obtain ⟨e, he, hee⟩ := evs_get hv hxi
        refine ⟨rfl, tts_true _ _ _ (iteT ?_)⟩
        refine ⟨_, rfl, _, rfl, Nat.le_of_ble_eq_true rfl, fun p hp => ⟨Nat.le_of_ble_eq_true rfl, fun t ht => ⟨t, rfl, ⟨_, .of upd_same⟩, ?_⟩⟩⟩
        have k2 : Kp [] H2 (upd (upd H2 p (.tup [.str "cap", .int c])) t (.tup [x, .ref p])) := (Kp.r0.laid hp).laid ht
        have hcap : EvAt K (upd (upd H2 p (.tup [.str "cap", .int c])) t (.tup [x, .ref p])) (.ref p) (.cap, c) := ⟨p, rfl, sqTk0 (SqT.of upd_same) (Kp.r0.laid ht)⟩
        generalize hH3 : upd (upd H2 p (.tup [.str "cap", .int c])) t (.tup [x, .ref p]) = H3 at k2 hcap
        have htt : SqT K H3 t [x, .ref p] := by rw [← hH3]; exact .of upd_same
        have hxe : EvAt K H3 x e := (hee.kp k).kp k2
        refine ⟨fun j m H' => m = 2 - j ∧ j ≤ 2 ∧ Kp [] H H' ∧ Kp [D] H3 H' ∧ ∃ zs, H' D = some (.lst zs) ∧ Evs K H' zs (keptUnder (row.take i) c ++ [e, (.cap, c)].take j), ⟨_, rfl, Nat.zero_le _, k.trans k2, Kp.rfl', ys, k2.at0 hys, by rw [List.take_zero, List.append_nil]; exact hev.kp k2⟩, ?_⟩
        rintro j m H4 ⟨rfl, hj, k4, k34, zs, hzs, hez⟩
        have htt4 : SqT K H4 t [x, .ref p] := sqTk0 htt k34
        by_cases hj2 : j < 2
        · refine .inr ⟨(walk_tup (xs := [x, .ref p])).goes j _ hj2 htt4, fun H'' => j + 1 ≤ 2 ∧ Kp [] H H'' ∧ Kp [D] H3 H'' ∧ ∃ zs, H'' D = some (.lst zs) ∧ Evs K H'' zs (keptUnder (row.take i) c ++ [e, (.cap, c)].take (j + 1)), fun H'' z => ⟨_, by omega, rfl, z⟩, fun y H5 hy5 => ?_⟩
          obtain ⟨rfl, hyj⟩ := (walk_tup (xs := [x, .ref p])).yields j _ _ _ hj2 htt4 hy5
          refine ⟨rfl, tts_true _ _ _ (iteT ?_)⟩
          have hzl : zs.length < sizeLine := by
            have z1 := hez.len
            rw [List.length_append, under_len, List.length_take, List.length_take] at z1
            have z2 : ([e, (.cap, c)] : List Ev).length = 2 := rfl
            rw [z2] at z1
            unfold sizeLine
            omega
          have kD : Kp [D] H5 (upd H5 D (.lst (zs ++ [y]))) := Kp.rfl'.out (List.mem_cons_self ..) fun o ho => by
            rw [hzs] at ho
            cases ho
            exact fun z => z
          match j, hj2, hyj with
          | 0, _, hyj =>
            cases Option.some.inj hyj
            obtain ⟨a1, a2, a3⟩ := addE zs _ H5 x e k4 hzs hez (hxe.kp k34)
            exact ⟨_, rfl, zs, hzs, hzl, Nat.le_of_ble_eq_true rfl, a1, k34.trans kD, _, a2, by rw [List.append_assoc] at a3; exact a3⟩
          | 1, _, hyj =>
            cases Option.some.inj hyj
            obtain ⟨a1, a2, a3⟩ := addE zs _ H5 (.ref p) (.cap, c) k4 hzs hez (hcap.kp k34)
            exact ⟨_, rfl, zs, hzs, hzl, Nat.le_of_ble_eq_true rfl, a1, k34.trans kD, _, a2, by rw [List.append_assoc] at a3; exact a3⟩
        · have e2 : j = 2 := by omega
          subst e2
          exact .inl ⟨(walk_tup (xs := [x, .ref p])).stops _ htt4, hlt, k4, zs, hzs, by rw [under_take c he]; exact hez⟩
      · have e2 : i = xs.length := by omega
        subst e2
        refine .inl ⟨(walk_list (xs := xs)).stops _ (sqLk0 hx k), q _ _ k ⟨ys, .of hys, ?_⟩⟩
        rw [hl, List.take_length] at hev
        exact hev
end
end K65
set_option Elab.async false
set_option linter.all false
set_option maxRecDepth 100000
set_option maxHeartbeats 4000000
namespace K65
open PySem PySem.Spec PyProof.Rows L2 SlX He
section
variable {P : Program} {w : World} {K : PySem.W.Frag} {mg : Str → Option Value} {base : Heap}
/-! ### the least cap -/
def spCap (K : PySem.W.Frag) : Sp := fun vs H Q _ => ∃ (a : Addr) (s goal : Int) (row : List Ev), vs = [.ref a, .int s, .int goal] ∧ RowAt K H a row ∧ row ≠ [] ∧ row.length < 400 ∧ ∀ r H', Kp [] H H' → LeastCap row s goal r → Q (optV r) H'
theorem cut_tail (x : V) (l : List V) : cutV (x :: l) (some 1) none = l := cut_drop (x :: l) 1
theorem max_of : ∀ (l : List Int), l ≠ [] → ∃ m, m ∈ l ∧ ∀ y ∈ l, y ≤ m
  | [], h => absurd rfl h
  | [x], _ => ⟨x, List.mem_cons_self .., fun y hy => by simp at hy; omega⟩
  | x :: z :: r, _ => by
    obtain ⟨m, h1, h2⟩ := max_of (z :: r) (by simp)
    by_cases h : x ≤ m
    · exact ⟨m, List.mem_cons_of_mem _ h1, fun y hy => by
        rcases List.mem_cons.mp hy with rfl | hy
        · exact h
        · exact h2 y hy⟩
    · exact ⟨x, List.mem_cons_self .., fun y hy => by
        rcases List.mem_cons.mp hy with rfl | hy
        · exact Int.le_refl _
        · have := h2 y hy
          omega⟩
theorem ok_cap (T : Txt K mg) (P_end_of : Pr P w K mg base CX0 2 "end_of" (spEnd K)) (P_levels_of : Pr P w K mg base CX0 2 "levels_of" (spLevels K)) (P_kept_under : Pr P w K mg base CX0 1 "kept_under" (spUnder K)) : Pr P w K mg base CX0 3 "least_cap" (spCap K) := by
  obtain ⟨fd, F⟩ := T.f_least_cap
  refine Pr.of T.g_least_cap F.kp (F.ok sc_least_cap (fun vs H Q E h => ?_) (fun cdv A outer s H vs Q E hr h => ?_)) (F.bindsN fun _ _ _ _ _ _ us hl => match us, hl with | [_, _, _], _ => rfl)
  · obtain ⟨_, _, _, _, rfl, _⟩ := h
    rfl
  · obtain ⟨a, st, goal, row, rfl, hrow, hne, hlen, q⟩ := h
    refine ⟨_, PSs.nox (pss_cons (ps_if (pt_cmpR op_lt (pe_g P_end_of (hr.mono (by decide)) pass0 (pa_cons (pv 0) (pa_cons (pv 1) pa_nil))) (pv 2) (nomark _)) (pss_one (ps_ret pe_non)) pss_nil) (pss_cons (ps_par (i := 3) (j := 4) rfl sc_least_cap.nd rfl rfl (by decide) rfl rfl (pa_cons (pv 2) (pa_cons (pe_callB (cr_max rfl) (by rfl) T.z_max boot_max (pa_cons (pe_slice sl_list (pe_g P_levels_of (hr.mono (by decide)) pass0 (pa_cons (pv 0) (pa_cons (pv 1) pa_nil))) (po_some pe_int) po_none) pa_nil)) pa_nil)) (by rfl)) (pss_cons (ps_while PassesOwn.never (pt_cmpR op_lt (pv 3) (pv 4) (nomark _)) (pss_cons (ps_set (i := 5) sc_least_cap.nd rfl (.inl rfl) (pe_op op_fdiv (pe_op op_add (pv 3) (pv 4)) pe_int)) (pss_one (ps_if (pt_cmpR op_ge (pe_g P_end_of (hr.mono (by decide)) pass0 (pa_cons (pe_g P_kept_under (hr.mono (by decide)) pass0 (pa_cons (pv 0) (pa_cons (pv 5) pa_nil))) (pa_cons (pv 1) pa_nil))) (pv 2) (nomark _)) (pss_one (ps_set (i := 4) sc_least_cap.nd rfl (.inl rfl) (pv 5))) (pss_one (ps_set (i := 3) sc_least_cap.nd rfl (.inl rfl) (pe_op op_add (pv 5) pe_int))))))) (pss_one (ps_ret (pv 3)))))), ?_⟩
    refine ⟨_, rfl, _, rfl, a, st, row, rfl, hrow, ?_⟩
    refine ⟨_, rfl, _, _, rfl, rfl, _, rfl, dec2 (fun h => ?_) (fun hg => ?_)⟩
    · exact q none H Kp.r0 h
    · refine ⟨_, rfl, _, rfl, _, rfl, a, st, row, rfl, hrow, by omega, fun v H1 k1 ⟨l, hv, hl0, hl1⟩ => ?_⟩
      subst hv
      refine ⟨_, rfl, l, _, rfl, .of hl1, fun p hp => ?_⟩
      have e1 : cutV ((levelsOf row st).map V.int) (some 1) none = (levelsTail row st).map V.int := cut_tail _ _
      rw [e1]
      have hne2 : levelsTail row st ≠ [] := fun z => hne (by
        have := levelsTail_len row st
        rw [z] at this
        exact List.length_eq_zero_iff.mp this.symm)
      refine ⟨p, levelsTail row st, rfl, .of upd_same, List.length_pos_iff.mpr hne2, fun m hm1 hm2 => ?_⟩
      have k2 : Kp [] H (upd H1 p (.lst ((levelsTail row st).map V.int))) := k1.laid hp
      refine ⟨_, _, rfl, fun m σ H' => Kp [] H H' ∧ ∃ lo hi om, σ = [some (.ref a), some (.int st), some (.int goal), some (.int lo), some (.int hi), om] ∧ CapInv row st goal lo hi ∧ m = (hi - lo).toNat, ⟨_, k2, goal, m, none, rfl, cap_start hne hg hm2, rfl⟩, ?_⟩
      rintro m' σ H' ⟨k, lo, hi, om, rfl, hI, rfl⟩
      refine ⟨_, rfl, _, rfl, _, _, rfl, rfl, _, rfl, dec2 (fun hlt => ?_) (fun hlt => ?_)⟩
      · refine ⟨fun σ' H'' => Kp [] H H'' ∧ ∃ lo' hi' om, σ' = [some (.ref a), some (.int st), some (.int goal), some (.int lo'), some (.int hi'), om] ∧ CapInv row st goal lo' hi' ∧ (hi' - lo').toNat < (hi - lo).toNat, ?_, ?_⟩
        · rintro σ' H'' ⟨k', lo', hi', om', e, hI', hm'⟩
          exact ⟨_, hm', k', lo', hi', om', e, hI', rfl⟩
        · refine ⟨_, rfl, _, rfl, _, _, rfl, rfl, _, _, rfl, rfl, ⟨by decide, by decide⟩, ?_⟩
          refine ⟨_, rfl, _, rfl, a, row, (lo + hi) / 2, rfl, hrow.kp k, by omega, fun b H3 k3 hb => ?_⟩
          refine ⟨_, rfl, b, st, _, rfl, .inr hb, _, rfl, _, _, rfl, rfl, _, rfl, dec2 (fun hc => ?_) (fun hc => ?_)⟩
          · obtain ⟨i1, i2⟩ := cap_up hI hlt hc
            exact ⟨_, rfl, k.trans k3, lo, _, _, rfl, i1, i2⟩
          · obtain ⟨i1, i2⟩ := cap_down hI hlt hc
            exact ⟨_, rfl, _, _, rfl, rfl, k.trans k3, _, hi, _, rfl, i1, i2⟩
      · exact ⟨_, rfl, q (some lo) H' k (cap_end hI hlt hg)⟩
end
end K65
set_option Elab.async false
set_option linter.all false
set_option maxRecDepth 100000
set_option maxHeartbeats 4000000
namespace K65
open PySem PySem.Spec PyProof.Rows L2 SlX He
theorem evs_of {K : PySem.W.Frag} {H : Hp} {f : Ev → Ev} : ∀ {ys : List V} {row : List Ev}, ys.length = row.length → (∀ (i : Nat) (y : V), ys[i]? = some y → ∃ e, row[i]? = some e ∧ EvAt K H y (f e)) → Evs K H ys (row.map f)
  | [], [], _, _ => .nil
  | y :: ys, e :: row, h, z => by
    obtain ⟨e', h1, h2⟩ := z 0 y rfl
    cases Option.some.inj h1
    exact .cons h2 (evs_of (by simpa using h) fun i y' hy => z (i + 1) y' hy)
  | [], _ :: _, h, _ => by simp at h
  | _ :: _, [], h, _ => by simp at h
section
variable {P : Program} {w : World} {K : PySem.W.Frag} {mg : Str → Option Value} {base : Heap}
/-! ### the greatest floor -/
def spFloor (K : PySem.W.Frag) : Sp := fun vs H Q _ => ∃ (a : Addr) (s goal : Int) (row : List Ev), vs = [.ref a, .int s, .int goal] ∧ RowT K H a row ∧ row ≠ [] ∧ row.length < 400 ∧ ∀ r H', Kp [] H H' → GreatFloor row s goal r → Q (optV r) H'
theorem ok_floor (T : Txt K mg) (M : ∀ wd, KDct K w (ga K "MIRRORED") (wdS wd) (.str (wdS (swapW wd)))) (P_least_cap : Pr P w K mg base CX0 3 "least_cap" (spCap K)) : Pr P w K mg base CX0 4 "greatest_floor" (spFloor K) := by
  obtain ⟨fd, F⟩ := T.f_greatest_floor
  refine Pr.of T.g_greatest_floor F.kp (F.ok sc_greatest_floor (fun vs H Q E h => ?_) (fun cdv A outer s H vs Q E hr h => ?_)) (F.bindsN fun _ _ _ _ _ _ us hl => match us, hl with | [_, _, _], _ => rfl)
  · obtain ⟨_, _, _, _, rfl, _⟩ := h
    rfl
  · obtain ⟨a, st, goal, row, rfl, ⟨xs, hx, hv⟩, hne, hlen, q⟩ := h
    refine ⟨_, PSs.nox (pss_cons (ps_set (i := 3) sc_greatest_floor.nd rfl (.inl rfl) (pe_g P_least_cap (hr.mono (by decide)) pass0 (pa_cons (pe_lc (own := [("word", 4), ("number", 5)]) (g := gTup K 2 (gCons (gName 4) (gCons (gName 5) gNil))) (te := (tTup (tCons (tOp (rIxD K w) (tC (.ref (ga K "MIRRORED"))) (tVar 4)) (tCons (tUn (rU fun i => .int (-i)) (tVar 5)) tNil)))) rfl sc_greatest_floor.nd (pi_tup (pv 0)) (blkOk_by (own := [("word", 4), ("number", 5)]) (N := ["row", "start", "goal", "found", "word", "number"]) (sc := defScope s_greatest_floor) (by decide +kernel)) (fun _ _ _ _ _ => (pg_tup rfl (pgs_cons (pg_name (i := 4) sc_greatest_floor.nd rfl (Or.inl rfl)) (pgs_cons (pg_name (i := 5) sc_greatest_floor.nd rfl (Or.inl rfl)) pgs_nil)))) (fun _ _ _ _ _ => pts_nil) (fun _ _ _ _ _ => (pe_tup (pa_cons (pe_ix ix_kdict (pe_glob (v := .ref (ga K "MIRRORED")) rfl T.g_MIRRORED rfl) (pv 4) (fun _ _ => rfl)) (pa_cons (pe_un un_neg (pv 5)) pa_nil))))) (pa_cons (pe_un un_neg (pv 1)) (pa_cons (pe_un un_neg (pv 2)) pa_nil))))) (pss_one (ps_ret (pe_ifExp (pt_cmpR op_isN (pv 3) pe_non (nomark _)) pe_non (pe_un un_neg (pv 3)))))), ?_⟩
    have hl := hv.len
    refine ⟨_, rfl, a, rfl, ⟨_, hx⟩, ?_⟩
    refine lc_pure (walk_tup (xs := xs)) (fun i y H' => ∃ e, row[i]? = some e ∧ EvAt K H' y (mirE e)) (by unfold sizeLine; omega) tts_true (fun H' k => sqTk0 hx k) (fun i y H1 H2 D k z => by obtain ⟨e, h1, h2⟩ := z; exact ⟨e, h1, h2.kp k⟩) (gTup2_mono _ 4 5) ?_ ?_
    · rintro i x H' H'' hi k ⟨rfl, hxi⟩
      obtain ⟨⟨wd, n⟩, he, t, rfl, ht⟩ := evs_get hv hxi
      refine ⟨t, _, rfl, sqTk0 ht k, rfl, _, _, rfl, _, _, rfl, rfl, rfl, fun R hR => ?_⟩
      refine ⟨_, rfl, _, _, _, rfl, rfl, M wd, _, rfl, _, rfl, Nat.le_of_ble_eq_true rfl, fun p hp => ?_⟩
      exact hR _ _ (Kp.r0.laid hp) ⟨(wd, n), he, p, rfl, .of upd_same⟩
    · intro D H1 ys k1 hD hys hyl hz
      have hev : Evs K H1 ys (row.map mirE) := evs_of (hyl.trans hl) hz
      refine ⟨_, rfl, _, rfl, _, rfl, _, rfl, D, -st, -goal, row.map mirE, rfl, .inr ⟨ys, .of hys, hev⟩, by simpa using hne, by simpa using hlen, fun r H2 k2 hr => ?_⟩
      have hg := great_of hr
      cases r with
      | none => exact ⟨_, rfl, rfl, _, rfl, decT rfl (q none H2 (k1.trans k2) hg)⟩
      | some c => exact ⟨_, rfl, rfl, _, rfl, decF (fun z => nomatch z) ⟨_, rfl, _, rfl, q (some (-c)) H2 (k1.trans k2) hg⟩⟩
/-! ### check_many, tupled -/
def LenIs (K : PySem.W.Frag) (H : Hp) (a : Addr) (n : Nat) : Prop := ∃ xs, (SqL K H a xs ∨ SqT K H a xs) ∧ xs.length = n
def spMany (K : PySem.W.Frag) : Sp := fun vs H Q _ => ∃ (a b : Addr) (n : Nat), vs = [.ref a, .ref b] ∧ LenIs K H a n ∧ LenIs K H b (n + 1) ∧ Q .non H
theorem ok_many (T : Txt K mg) : Pr P w K mg base CX0 1 "check_many" (spMany K) := by
  obtain ⟨fd, F⟩ := T.f_check_many
  refine Pr.of T.g_check_many F.kp (F.ok sc_check_many (fun vs H Q E h => ?_) (fun cdv A outer s H vs Q E hr h => ?_)) (F.bindsN fun _ _ _ _ _ _ us hl => match us, hl with | [_, _], _ => rfl)
  · obtain ⟨_, _, _, rfl, _⟩ := h
    rfl
  · obtain ⟨a, b, n, rfl, ⟨xs, hx, hxl⟩, ⟨ys, hy, hyl⟩, q⟩ := h
    refine ⟨_, PSs.nox (pss_one (ps_if (pt_cmpR op_ne (pe_callB call_len_seq (by rfl) T.z_len PySem.boot_len (pa_cons (pv 1) pa_nil)) (pe_op op_add (pe_callB call_len_seq (by rfl) T.z_len PySem.boot_len (pa_cons (pv 0) pa_nil)) pe_int) (nomark _)) (pss_one ps_never) pss_nil)), ?_⟩
    refine ⟨_, rfl, _, ys, rfl, hy, _, rfl, _, xs, rfl, hx, _, _, rfl, rfl, rfl, _, rfl, decNF ?_ q⟩
    rw [hxl, hyl]
    rfl
def spTupLeaf : Sp := fun vs H Q _ => ∃ v : V, vs = [v] ∧ ((∃ i, v = .int i) ∨ ∃ s, v = .str s) ∧ ∀ H', Kp [] H H' → Q v H'
theorem ok_tup_leaf (T : Txt K mg) : Pr P w K mg base CX0 1 "tupled" spTupLeaf := by
  obtain ⟨fd, F⟩ := T.f_tupled
  refine Pr.of T.g_tupled F.kp (F.ok sc_tupled (fun vs H Q E h => ?_) (fun cdv A outer s H vs Q E hr h => ?_)) (F.bindsN fun _ _ _ _ _ _ us hl => match us, hl with | [_], _ => rfl)
  · obtain ⟨_, rfl, _⟩ := h
    rfl
  · obtain ⟨v, rfl, hv, q⟩ := h
    refine ⟨_, PSs.nox (pss_one (ps_ret (pe_ifExp (pt_val (pe_callB call_isiT (by rfl) T.z_isinstance (by decide +kernel) (pa_cons (pv 0) (pa_cons (pe_tup (pa_cons (pe_bltn (v := .ty "list") rfl T.z_list rfl rfl) (pa_cons (pe_bltn (v := .ty "tuple") rfl T.z_tuple rfl rfl) pa_nil))) pa_nil)))) pe_nev (pv 0)))), ?_⟩
    refine ⟨_, rfl, Nat.le_of_ble_eq_true rfl, fun p hp => ?_⟩
    have q' := q _ (Kp.r0.laid (o := .tup [.ty "list", .ty "tuple"]) hp)
    rcases hv with ⟨i, rfl⟩ | ⟨x, rfl⟩
    · exact ⟨_, p, _, _, _, false, rfl, upd_same, .cons (.ty _) (.cons (.ty _) .nil), .base (.int i), kit_il K, _, rfl, iteF ⟨_, rfl, q'⟩⟩
    · exact ⟨_, p, _, _, _, false, rfl, upd_same, .cons (.ty _) (.cons (.ty _) .nil), .base (.str x), kit_sl K, _, rfl, iteF ⟨_, rfl, q'⟩⟩
def spTupEv (K : PySem.W.Frag) : Sp := fun vs H Q _ => ∃ (v : V) (e : Ev), vs = [v] ∧ EvAt K H v e ∧ ∀ v' H', Kp [] H H' → EvAt K H' v' e → Q v' H'
theorem ok_tup_ev (T : Txt K mg) (P_tupled : Pr P w K mg base CX0 1 "tupled" spTupLeaf) : Pr P w K mg base CX0 2 "tupled" (spTupEv K) := by
  obtain ⟨fd, F⟩ := T.f_tupled
  refine Pr.of T.g_tupled F.kp (F.ok sc_tupled (fun vs H Q E h => ?_) (fun cdv A outer s H vs Q E hr h => ?_)) (F.bindsN fun _ _ _ _ _ _ us hl => match us, hl with | [_], _ => rfl)
  · obtain ⟨_, _, rfl, _⟩ := h
    rfl
  · obtain ⟨v, e, rfl, ⟨t, rfl, ht⟩, q⟩ := h
    refine ⟨_, PSs.nox (pss_one (ps_ret (pe_ifExp (pt_val (pe_callB call_isiT (by rfl) T.z_isinstance (by decide +kernel) (pa_cons (pv 0) (pa_cons (pe_tup (pa_cons (pe_bltn (v := .ty "list") rfl T.z_list rfl rfl) (pa_cons (pe_bltn (v := .ty "tuple") rfl T.z_tuple rfl rfl) pa_nil))) pa_nil)))) (pe_callTy call_tuple_of (by rfl) T.z_tuple (by decide +kernel) (pa_cons (pe_lc (own := [("part", 1)]) (g := gName 1) rfl sc_tupled.nd (pi_tup (pv 0)) (blkOk_by (own := [("part", 1)]) (N := ["value", "part"]) (sc := defScope s_tupled) (by decide +kernel)) (fun _ _ _ _ _ => (pg_name (i := 1) sc_tupled.nd rfl (Or.inl rfl))) (fun _ _ _ _ _ => pts_nil) (fun _ _ _ _ _ => (pe_g P_tupled (hr.mono (by decide)) pass0 (pa_cons (pv 1) pa_nil)))) pa_nil)) (pv 0)))), ?_⟩
    refine ⟨_, rfl, Nat.le_of_ble_eq_true rfl, fun p hp => ?_⟩
    have k1 : Kp [] H (upd H p (.tup [.ty "list", .ty "tuple"])) := Kp.r0.laid hp
    refine ⟨_, p, _, _, _, true, rfl, upd_same, .cons (.ty _) (.cons (.ty _) .nil), sqT_ty (sqTk0 ht k1), kit_tl K, _, rfl, iteT ?_⟩
    refine ⟨_, rfl, t, rfl, ⟨_, sqTk0 ht k1⟩, ?_⟩
    refine lc_pure (walk_tup (xs := [.str (wdS e.1), .int e.2])) (fun i y _ => some y = ([.str (wdS e.1), .int e.2] : List V)[i]?) (Nat.le_of_ble_eq_true rfl) tts_true (fun H' k => sqTk0 ht (k1.trans k)) (fun _ _ _ _ _ _ z => z) (gName_mono 1) ?_ ?_
    · rintro i x H' H'' hi k ⟨rfl, hxi⟩
      refine ⟨rfl, fun R hR => ⟨_, rfl, x, rfl, ?_, fun H3 k3 => hR x H3 k3 hxi.symm⟩⟩
      match i, hi, hxi with
      | 0, _, hxi => exact .inr ⟨_, (Option.some.inj hxi).symm⟩
      | 1, _, hxi => exact .inl ⟨_, (Option.some.inj hxi).symm⟩
    · intro D H1 ys k2 hD hys hyl hz
      match ys, hyl with
      | [y0, y1], _ =>
        have e0 := Option.some.inj (hz 0 y0 rfl)
        have e1 := Option.some.inj (hz 1 y1 rfl)
        exact ⟨D, _, rfl, .inl ⟨.of hys, fun l hl => q _ _ ((k1.trans k2).laid hl) ⟨l, rfl, .of (by rw [upd_same, e0, e1])⟩⟩⟩
def spTupRow (K : PySem.W.Frag) : Sp := fun vs H Q _ => ∃ (a : Addr) (row : List Ev), vs = [.ref a] ∧ RowL K H a row ∧ row.length < 1000 ∧ ∀ b H', Kp [] H H' → RowT K H' b row → Q (.ref b) H'
theorem ok_tup_row (T : Txt K mg) (P_tupled : Pr P w K mg base CX0 2 "tupled" (spTupEv K)) : Pr P w K mg base CX0 3 "tupled" (spTupRow K) := by
  obtain ⟨fd, F⟩ := T.f_tupled
  refine Pr.of T.g_tupled F.kp (F.ok sc_tupled (fun vs H Q E h => ?_) (fun cdv A outer s H vs Q E hr h => ?_)) (F.bindsN fun _ _ _ _ _ _ us hl => match us, hl with | [_], _ => rfl)
  · obtain ⟨_, _, rfl, _⟩ := h
    rfl
  · obtain ⟨a, row, rfl, ⟨xs, hx, hv⟩, hlen, q⟩ := h
    refine ⟨_, PSs.nox (pss_one (ps_ret (pe_ifExp (pt_val (pe_callB call_isiT (by rfl) T.z_isinstance (by decide +kernel) (pa_cons (pv 0) (pa_cons (pe_tup (pa_cons (pe_bltn (v := .ty "list") rfl T.z_list rfl rfl) (pa_cons (pe_bltn (v := .ty "tuple") rfl T.z_tuple rfl rfl) pa_nil))) pa_nil)))) (pe_callTy call_tuple_of (by rfl) T.z_tuple (by decide +kernel) (pa_cons (pe_lc (own := [("part", 1)]) (g := gName 1) rfl sc_tupled.nd (pi_list (pv 0)) (blkOk_by (own := [("part", 1)]) (N := ["value", "part"]) (sc := defScope s_tupled) (by decide +kernel)) (fun _ _ _ _ _ => (pg_name (i := 1) sc_tupled.nd rfl (Or.inl rfl))) (fun _ _ _ _ _ => pts_nil) (fun _ _ _ _ _ => (pe_g P_tupled (hr.mono (by decide)) pass0 (pa_cons (pv 1) pa_nil)))) pa_nil)) (pv 0)))), ?_⟩
    refine ⟨_, rfl, Nat.le_of_ble_eq_true rfl, fun p hp => ?_⟩
    have k1 : Kp [] H (upd H p (.tup [.ty "list", .ty "tuple"])) := Kp.r0.laid hp
    refine ⟨_, p, _, _, _, true, rfl, upd_same, .cons (.ty _) (.cons (.ty _) .nil), sqL_ty (sqLk0 hx k1), kit_ll K, _, rfl, iteT ?_⟩
    refine ⟨_, rfl, a, rfl, ⟨_, sqLk0 hx k1⟩, ?_⟩
    have hl := hv.len
    refine lc_pure (walk_list (xs := xs)) (fun i y H' => ∃ e, row[i]? = some e ∧ EvAt K H' y (id e)) (by unfold sizeLine; omega) tts_true (fun H' k => sqLk0 hx (k1.trans k)) (fun i y H1 H2 D k z => by obtain ⟨e, h1, h2⟩ := z; exact ⟨e, h1, h2.kp k⟩) (gName_mono 1) ?_ ?_
    · rintro i x H' H'' hi k ⟨rfl, hxi⟩
      obtain ⟨e, he, hee⟩ := evs_get hv hxi
      exact ⟨rfl, fun R hR => ⟨_, rfl, x, e, rfl, hee.kp (k1.trans k), fun v' H3 k3 h3 => hR v' H3 k3 ⟨e, he, h3⟩⟩⟩
    · intro D H1 ys k2 hD hys hyl hz
      have hev := evs_of (f := id) (hyl.trans hl) hz
      rw [List.map_id] at hev
      exact ⟨D, _, rfl, .inl ⟨.of hys, fun l hl => q _ _ ((k1.trans k2).laid hl) ⟨ys, .of upd_same, hev.kp (Kp.r0.laid hl)⟩⟩⟩
end
end K65
set_option Elab.async false
set_option linter.all false
set_option maxRecDepth 100000
set_option maxHeartbeats 4000000
namespace K65
open PySem PySem.Spec PyProof.Rows L2 SlX He
/-! ### with_adds -/
theorem wa_succ : ∀ (row : List Ev) (as : List Int) (i : Nat) (a : Int), as[i]? = some a → i ≤ row.length → withAdds (row.take (i + 1)) (as.take (i + 1)) = withAdds (row.take i) (as.take i) ++ ((if a > 0 then [(.add, a)] else []) ++ (row.drop i).take 1)
  | _, [], i, a, h, _ => by simp at h
  | [], b :: as, 0, a, h, _ => by
    cases Option.some.inj h
    show (if b > 0 then [((.add, b) : Ev)] else []) ++ [] = [] ++ ((if b > 0 then [((.add, b) : Ev)] else []) ++ [])
    simp
  | e :: r, b :: as, 0, a, h, _ => by
    cases Option.some.inj h
    show (if b > 0 then [((.add, b) : Ev)] else []) ++ e :: withAdds [] [] = [] ++ ((if b > 0 then [((.add, b) : Ev)] else []) ++ [e])
    simp [withAdds]
  | [], b :: as, i + 1, a, h, hi => by simp at hi
  | e :: r, b :: as, i + 1, a, h, hi => by
    have ih := wa_succ r as i a (by simpa using h) (by simpa using hi)
    show (if b > 0 then [((.add, b) : Ev)] else []) ++ e :: withAdds (r.take (i + 1)) (as.take (i + 1)) = ((if b > 0 then [((.add, b) : Ev)] else []) ++ e :: withAdds (r.take i) (as.take i)) ++ _
    rw [ih]
    simp
theorem wa_len : ∀ (row : List Ev) (as : List Int), (withAdds row as).length ≤ 2 * as.length
  | _, [] => by simp [withAdds]
  | [], a :: as => by
    have := wa_len [] as
    show ((if a > 0 then [((.add, a) : Ev)] else []) ++ withAdds [] as).length ≤ 2 * (as.length + 1)
    rw [List.length_append]
    split <;> simp <;> omega
  | e :: r, a :: as => by
    have := wa_len r as
    show ((if a > 0 then [((.add, a) : Ev)] else []) ++ e :: withAdds r as).length ≤ 2 * (as.length + 1)
    rw [List.length_append]
    split <;> simp <;> omega
section
variable {P : Program} {w : World} {K : PySem.W.Frag} {mg : Str → Option Value} {base : Heap}
def IntsT (K : PySem.W.Frag) (H : Hp) (a : Addr) (ns : List Int) : Prop := SqT K H a (ns.map V.int)
def spAdds (K : PySem.W.Frag) : Sp := fun vs H Q _ => ∃ (a b : Addr) (row : List Ev) (as : List Int), vs = [.ref a, .ref b] ∧ RowT K H a row ∧ IntsT K H b as ∧ as.length = row.length + 1 ∧ row.length < 300 ∧ ∀ c H', Kp [] H H' → RowT K H' c (withAdds row as) → Q (.ref c) H'
theorem ok_adds2 (T : Txt K mg) (P_check_many : Pr P w K mg base CX0 1 "check_many" (spMany K)) (P_tupled : Pr P w K mg base CX0 3 "tupled" (spTupRow K)) : Pr P w K mg base CX0 4 "with_adds" (spAdds K) := by
  obtain ⟨fd, F⟩ := T.f_with_adds
  obtain ⟨ta, hADD⟩ := T.c_ADD
  refine Pr.of T.g_with_adds F.kp (F.ok sc_with_adds (fun vs H Q E h => ?_) (fun cdv A outer s H vs Q E hr h => ?_)) (F.bindsN fun _ _ _ _ _ _ us hl => match us, hl with | [_, _], _ => rfl)
  · obtain ⟨_, _, _, _, rfl, _⟩ := h
    rfl
  · obtain ⟨a, b, row, as, rfl, ⟨xs, hx, hv⟩, hb, hl, hlen, q⟩ := h
    refine ⟨_, PSs.nox (pss_cons (ps_expr (pe_g P_check_many (hr.mono (by decide)) pass0 (pa_cons (pv 0) (pa_cons (pv 1) pa_nil)))) (pss_cons (ps_set (i := 2) sc_with_adds.nd rfl (.inl rfl) (pe_lst pa_nil)) (pss_cons (ps_for PassesOwn.never rfl (pi_enumT rfl T.z_enumerate (pa_cons (pv 1) pa_nil)) (pg_tup rfl (pgs_cons (pg_name (i := 3) sc_with_adds.nd rfl (Or.inl rfl)) (pgs_cons (pg_name (i := 4) sc_with_adds.nd rfl (Or.inl rfl)) pgs_nil))) (pss_cons (ps_expr (pe_bm PySem.F.plainAttrs_list PySem.F.slot_list_extend PySem.F.type_list_extend mt_extend (pv 2) (pa_cons (pe_ifExp (pt_cmpR op_gt (pv 4) pe_int (nomark _)) (pe_lst (pa_cons (pe_tup (pa_cons (pe_glob (v := .str "add") rfl hADD ⟨_, rfl⟩) (pa_cons (pv 4) pa_nil))) pa_nil)) (pe_lst pa_nil)) pa_nil))) (pss_one (ps_expr (pe_bm PySem.F.plainAttrs_list PySem.F.slot_list_extend PySem.F.type_list_extend mt_extT (pv 2) (pa_cons (pe_slice sl_tupA (pv 0) (po_some (pv 3)) (po_some (pe_op op_add (pv 3) pe_int))) pa_nil)))))) (pss_one (ps_ret (pe_g P_tupled (hr.mono (by decide)) pass0 (pa_cons (pv 2) pa_nil))))))), ?_⟩
    have hxl := hv.len
    refine ⟨_, rfl, _, rfl, a, b, row.length, rfl, ⟨xs, .inr hx, hxl⟩, ⟨_, .inr hb, by rw [List.length_map, hl]⟩, ?_⟩
    refine ⟨Nat.le_of_ble_eq_true rfl, fun p hp => ?_⟩
    have k1 : Kp [] H (upd H p (.lst [])) := Kp.r0.laid hp
    refine ⟨_, rfl, b, _, rfl, sqTk0 hb k1, ?_⟩
    refine for_it (walk_enumT (xs := as.map V.int)) (fun i σ H' => Kp [] H H' ∧ ∃ zs o3 o4, σ = [some (.ref a), some (.ref b), some (.ref p), o3, o4] ∧ H' p = some (.lst zs) ∧ Evs K H' zs (withAdds (row.take i) (as.take i))) ⟨k1, [], none, none, rfl, upd_same, .nil⟩ (fun i σ H' _ z => sqTk0 hb z.1) ?_ ?_
    · rintro i x σ H1 H2 hi ⟨k, zs, o3, o4, rfl, hzs, hev⟩ ⟨t, y, rfl, ht, rfl, hy⟩
      rw [List.getElem?_map] at hy
      cases ham : as[i]? with
      | none => rw [ham] at hy; cases hy
      | some am =>
        rw [ham] at hy
        cases Option.some.inj hy
        have hir : i ≤ row.length := by
          have := (List.getElem?_eq_some_iff.mp ham).1
          omega
        have k2 : Kp [] H (upd H1 t (.tup [.int i, .int am])) := k.laid ht
        have hzs2 : (upd H1 t (.tup [.int i, .int am])) p = some (.lst zs) := by rw [upd_ne (ne_of_none hzs ht)]; exact hzs
        have hev2 : Evs K (upd H1 t (.tup [.int i, .int am])) zs (withAdds (row.take i) (as.take i)) := hev.kp (Kp.r0.laid ht)
        generalize hH3 : upd H1 t (.tup [.int i, .int am]) = H3 at k2 hzs2 hev2
        have htt : SqT K H3 t [.int i, .int am] := by rw [← hH3]; exact .of upd_same
        refine ⟨t, _, rfl, htt, rfl, _, _, rfl, _, _, rfl, rfl, ?_⟩
        have hzl : zs.length ≤ 2 * i := by
          have z1 := hev.len
          have z2 := wa_len (row.take i) (as.take i)
          rw [List.length_take] at z2
          omega
        -- behind both extensions
        have fin : ∀ (H4 : Hp) (zs2 : List V), Kp [] H H4 → H4 p = some (.lst zs2) → zs2.length ≤ zs.length + 1 → Evs K H4 zs2 (withAdds (row.take i) (as.take i) ++ (if am > 0 then [(.add, am)] else [])) →
            tBM K "list" (rExtT K) (tVar 2) (tCons (L2.tSl (rSlA K) (tVar 0) (tPart (tVar 3)) (tPart (tOp (rI0 fun i j => .int (i + j)) (tVar 3) (tC (.int 1))))) tNil) [some (.ref a), some (.ref b), some (.ref p), some (.int i), some (.int am)] H4 (fun _ H' => Kp [] H H' ∧ ∃ zs o3 o4, ([some (.ref a), some (.ref b), some (.ref p), some (.int i), some (.int am)] : List (Option V)) = [some (.ref a), some (.ref b), some (.ref p), o3, o4] ∧ H' p = some (.lst zs) ∧ Evs K H' zs (withAdds (row.take (i + 1)) (as.take (i + 1)))) := by
          intro H4 zs2 k4 hz4 hl4 he4
          refine ⟨_, rfl, .inl ⟨rfl, _, .of hz4⟩, _, rfl, _, rfl, _, rfl, _, rfl, _, _, rfl, rfl, _, rfl, ?_⟩
          refine slA (some (i : Int)) (some ((i : Int) + 1)) (sqTk0 hx k4) fun c H5 k5 hc => ?_
          rw [cut_mid] at hc
          refine ⟨p, c, zs2, _, rfl, rfl, k5.at0 hz4, hc, ?_, (k4.trans k5).new hp, _, _, _, rfl, upd_same, ?_⟩
          · have : ((xs.drop i).take 1).length ≤ 1 := by rw [List.length_take]; omega
            unfold sizeLine
            omega
          · rw [wa_succ row as i am ham hir, ← List.append_assoc]
            have kk : Kp [p] H5 (upd H5 p (.lst (zs2 ++ (xs.drop i).take 1))) := Kp.rfl'.out (List.mem_cons_self ..) fun o ho => by
              rw [k5.at0 hz4] at ho
              cases ho
              exact fun z => z
            exact ((he4.kp k5).kp kk).app ((((hv.drop i).take 1).kp (k4.trans k5)).kp kk)
        refine ⟨_, rfl, .inl ⟨rfl, _, .of hzs2⟩, ?_⟩
        refine ⟨_, rfl, _, _, rfl, rfl, _, rfl, dec2 (fun hpos => ?_) (fun hpos => ?_)⟩
        · refine ⟨_, rfl, Nat.le_of_ble_eq_true rfl, fun e1 he1 => ⟨Nat.le_of_ble_eq_true rfl, fun l hl => ?_⟩⟩
          have k3 : Kp [] H3 (upd (upd H3 e1 (.tup [.str "add", .int am])) l (.lst [.ref e1])) := (Kp.r0.laid he1).laid hl
          have hee : EvAt K (upd (upd H3 e1 (.tup [.str "add", .int am])) l (.lst [.ref e1])) (.ref e1) (.add, am) := ⟨e1, rfl, sqTk0 (SqT.of upd_same) (Kp.r0.laid hl)⟩
          have hz4 := k3.at0 hzs2
          refine ⟨p, l, zs, _, rfl, rfl, hz4, upd_same, by unfold sizeLine; simp; omega, ?_⟩
          have kk : Kp [p] (upd (upd H3 e1 (.tup [.str "add", .int am])) l (.lst [.ref e1])) (upd (upd (upd H3 e1 (.tup [.str "add", .int am])) l (.lst [.ref e1])) p (.lst (zs ++ [.ref e1]))) := Kp.rfl'.out (List.mem_cons_self ..) fun o ho => by
            rw [hz4] at ho
            cases ho
            exact fun z => z
          refine fin _ _ ((k2.trans k3).new hp) upd_same (by simp) ?_
          rw [if_pos hpos]
          exact ((hev2.kp k3).kp kk).app (.cons (hee.kp kk) .nil)
        · refine ⟨Nat.le_of_ble_eq_true rfl, fun l hl => ?_⟩
          have k3 : Kp [] H3 (upd H3 l (.lst [])) := Kp.r0.laid hl
          have hz4 := k3.at0 hzs2
          refine ⟨p, l, zs, _, rfl, rfl, hz4, upd_same, by unfold sizeLine; simp; omega, ?_⟩
          have kk : Kp [p] (upd H3 l (.lst [])) (upd (upd H3 l (.lst [])) p (.lst (zs ++ []))) := Kp.rfl'.out (List.mem_cons_self ..) fun o ho => by
            rw [hz4] at ho
            cases ho
            exact fun z => z
          refine fin _ _ ((k2.trans k3).new hp) upd_same (by simp) ?_
          rw [if_neg hpos]
          exact ((hev2.kp k3).kp kk).app .nil
    · rintro σ H1 ⟨k, zs, o3, o4, rfl, hzs, hev⟩
      refine ⟨_, rfl, p, withAdds row as, rfl, ⟨zs, .of hzs, ?_⟩, ?_, fun c H2 k2 hc => q c H2 (k.trans k2) hc⟩
      · rw [List.length_map, List.take_length, hl, List.take_of_length_le (by omega)] at hev
        exact hev
      · have := wa_len row as
        omega
end
end K65
set_option Elab.async false
set_option linter.all false
set_option maxRecDepth 100000
set_option maxHeartbeats 4000000
namespace K65
open PySem PySem.Spec PyProof.Rows L2 SlX He
theorem walk_zipT {K : PySem.W.Frag} {a b : Addr} {xs ys : List V} {n : Nat} (hn : n = min xs.length ys.length) : Walk (RZ.ItzT K a b) n (fun H => SqT K H a xs ∧ SqT K H b ys) (YPair (fun i => xs[i]?) (fun i => ys[i]?)) := by
  subst hn
  refine ⟨fun i _ hi q => ?_, fun _ q => ⟨xs, ys, q.1, q.2, by omega⟩, fun i H v H' _ q y => ?_⟩
  · have h1 : i < xs.length := by omega
    have h2 : i < ys.length := by omega
    exact ⟨xs, ys, xs[i], ys[i], q.1, q.2, by simp [h1], by simp [h2]⟩
  · obtain ⟨T, x, z, h1, h2, h3, h4, h5⟩ := y
    exact ⟨T, x, z, h1, h2, h3, h4 xs q.1, h5 ys q.2⟩
theorem map_int_at {ns : List Int} {i : Nat} {x : V} (h : (ns.map V.int)[i]? = some x) : ∃ n, ns[i]? = some n ∧ x = .int n := by
  rw [List.getElem?_map] at h
  cases e : ns[i]? with
  | none => rw [e] at h; cases h
  | some n =>
    rw [e] at h
    exact ⟨n, rfl, (Option.some.inj h).symm⟩
theorem ints_of {ys : List V} {ns : List Int} (hl : ys.length = ns.length) (h : ∀ (i : Nat) (y : V), ys[i]? = some y → ∃ n, ns[i]? = some n ∧ y = .int n) : ys = ns.map V.int := by
  refine List.ext_getElem? fun i => ?_
  rw [List.getElem?_map]
  cases e : ys[i]? with
  | none =>
    have : ns.length ≤ i := by
      rw [← hl]
      exact List.getElem?_eq_none_iff.mp e
    rw [List.getElem?_eq_none_iff.mpr this]
    rfl
  | some y =>
    obtain ⟨n, h1, rfl⟩ := h i y e
    rw [h1]
    rfl
section
variable {P : Program} {w : World} {K : PySem.W.Frag} {mg : Str → Option Value} {base : Heap}
def spPrice (K : PySem.W.Frag) : Sp := fun vs H Q _ => ∃ (a b : Addr) (am pr : List Int), vs = [.ref a, .ref b] ∧ IntsT K H a am ∧ IntsT K H b pr ∧ am.length = pr.length ∧ am.length < 1000 ∧ (∀ p ∈ pr, 0 ≤ p ∧ p < 1000000) ∧ ∀ H', Kp [] H H' → Q (.int (price am pr)) H'
theorem ok_price (T : Txt K mg) : Pr P w K mg base CX0 1 "price_of" (spPrice K) := by
  obtain ⟨fd, F⟩ := T.f_price_of
  refine Pr.of T.g_price_of F.kp (F.ok sc_price_of (fun vs H Q E h => ?_) (fun cdv A outer s H vs Q E hr h => ?_)) (F.bindsN fun _ _ _ _ _ _ us hl => match us, hl with | [_, _], _ => rfl)
  · obtain ⟨_, _, _, _, rfl, _⟩ := h
    rfl
  · obtain ⟨a, b, am, pr, rfl, ha, hb, hl, hlen, hpr, q⟩ := h
    refine ⟨_, PSs.nox (pss_cons (ps_if (pt_cmpR op_ne (pe_callB call_len_seq (by rfl) T.z_len PySem.boot_len (pa_cons (pv 0) pa_nil)) (pe_callB call_len_seq (by rfl) T.z_len PySem.boot_len (pa_cons (pv 1) pa_nil)) (nomark _)) (pss_one ps_never) pss_nil) (pss_one (ps_ret (pe_callB (cr_sum rfl) (by rfl) T.z_sum boot_sum (pa_cons (pe_lc (own := [("amount", 2), ("price", 3)]) (g := gTup K 2 (gCons (gName 2) (gCons (gName 3) gNil))) rfl sc_price_of.nd (RZ.pi_zipA rfl T.z_zip (pa_cons (pv 0) (pa_cons (pv 1) pa_nil))) (blkOk_by (own := [("amount", 2), ("price", 3)]) (N := ["amounts", "prices", "amount", "price"]) (sc := defScope s_price_of) (by decide +kernel)) (fun _ _ _ _ _ => (pg_tup rfl (pgs_cons (pg_name (i := 2) sc_price_of.nd rfl (Or.inl rfl)) (pgs_cons (pg_name (i := 3) sc_price_of.nd rfl (Or.inl rfl)) pgs_nil)))) (fun _ _ _ _ _ => pts_nil) (fun _ _ _ _ _ => (pe_op op_mul (pv 2) (pv 3)))) pa_nil))))), ?_⟩
    refine ⟨_, rfl, _, _, rfl, .inr ha, _, rfl, _, _, rfl, .inr hb, rfl, _, rfl, decNF (by rw [List.length_map, List.length_map, hl]) ?_⟩
    refine ⟨_, rfl, _, rfl, a, b, _, _, rfl, .inr ⟨ha, hb, ?_⟩⟩
    refine lc_pure (walk_zipT (xs := am.map V.int) (ys := pr.map V.int) (n := am.length) (by rw [List.length_map, List.length_map]; omega)) (fun i y _ => ∃ n, (List.zipWith (· * ·) am pr)[i]? = some n ∧ y = .int n) (by unfold sizeLine; omega) tts_true (fun H' k => ⟨sqTk0 ha k, sqTk0 hb k⟩) (fun _ _ _ _ _ _ z => z) (gTup2_mono _ 2 3) ?_ ?_
    · rintro i x H' H'' hi k ⟨t, y, z, rfl, ht, rfl, hy, hz⟩
      obtain ⟨n1, e1, rfl⟩ := map_int_at hy
      obtain ⟨n2, e2, rfl⟩ := map_int_at hz
      refine ⟨t, _, rfl, .of upd_same, rfl, _, _, rfl, _, _, rfl, rfl, rfl, fun R hR => ?_⟩
      have h2 := hpr n2 (List.mem_of_getElem? e2)
      refine ⟨_, rfl, _, rfl, _, _, rfl, rfl, .inr ⟨by omega, by omega⟩, hR _ _ (Kp.r0.laid ht) ⟨n1 * n2, ?_, rfl⟩⟩
      rw [List.getElem?_zipWith, e1, e2]
    · intro D H1 ys k1 hD hys hyl hz
      have e := ints_of (ns := List.zipWith (· * ·) am pr) (by rw [hyl, List.length_zipWith]; omega) hz
      exact ⟨D, _, rfl, .of (by rw [hys, e]), q H1 k1⟩
/-! ### bought_from -/
def spBought (K : PySem.W.Frag) : Sp := fun vs H Q _ => ∃ (a b : Addr) (row : List Ev) (pr : List Int) (m : Nat) (level goal : Int), vs = [.ref a, .ref b, .int m, .int level, .int goal] ∧ RowT K H a row ∧ IntsT K H b pr ∧ pr.length = row.length + 1 ∧ row.length < 300 ∧ m ≤ row.length ∧
  ∀ c H', Kp [] H H' → IntsT K H' c (bought row pr m level goal) → Q (.ref c) H'
theorem drop_step {row : List Ev} {j : Nat} {e : Ev} (h : row[j]? = some e) : row.drop j = e :: row.drop (j + 1) := by
  obtain ⟨h1, h2⟩ := List.getElem?_eq_some_iff.mp h
  rw [List.drop_eq_getElem_cons h1, h2]
theorem drop_stepI {pr : List Int} {j : Nat} {p : Int} (h : pr[j]? = some p) : pr.drop j = p :: pr.drop (j + 1) := by
  obtain ⟨h1, h2⟩ := List.getElem?_eq_some_iff.mp h
  rw [List.drop_eq_getElem_cons h1, h2]
/-- the suffix's plan, in place -/
def bAt (goal : Int) (row : List Ev) (pr : List Int) (j : Nat) : BSt := bsuf goal (row.drop j) (pr.drop j)
theorem bAt_step {goal : Int} {row : List Ev} {pr : List Int} {j : Nat} {e : Ev} {p : Int} (h1 : row[j]? = some e) (h2 : pr[j]? = some p) : bAt goal row pr j = bstep goal e p (pr.drop (j + 1)) (bAt goal row pr (j + 1)) := by
  unfold bAt
  rw [drop_step h1, drop_stepI h2]
  rfl
theorem bAt_ok {goal : Int} {row : List Ev} {pr : List Int} {j : Nat} (hl : pr.length = row.length + 1) (hj : j ≤ row.length) : (bAt goal row pr j).am.length = row.length - j + 1 ∧ (bAt goal row pr j).best < row.length - j + 1 := by
  induction hk : row.length - j generalizing j with
  | zero =>
    have e : row.drop j = [] := List.drop_eq_nil_of_le (by omega)
    unfold bAt
    rw [e]
    exact ⟨rfl, Nat.zero_lt_succ _⟩
  | succ k ih =>
    have hj2 : j < row.length := by omega
    obtain ⟨i1, i2⟩ := ih (j := j + 1) (by omega) (by omega)
    rw [bAt_step (List.getElem?_eq_getElem hj2) (List.getElem?_eq_getElem (show j < pr.length by omega))]
    have hb : ∀ (b : BSt) (e : Ev) (p : Int) (ps : List Int), (bstep goal e p ps b).am.length = b.am.length + 1 ∧ (bstep goal e p ps b).best ≤ b.best + 1 := by
      intro b e p ps
      unfold bstep
      refine ⟨by simp only [List.length_cons, List.length_set], ?_⟩
      simp only []
      split
      · exact Nat.zero_le _
      · exact Nat.le_refl _
    obtain ⟨h1, h2⟩ := hb (bAt goal row pr (j + 1)) row[j] pr[j] (pr.drop (j + 1))
    constructor
    · rw [h1, i1]
    · omega
theorem rep_cons (j : Nat) (l : List Int) (b : Nat) (x : Int) (hb : b < l.length) : (List.replicate (j + 1) (0 : Int) ++ l).set (j + 1 + b) ((List.replicate (j + 1) (0 : Int) ++ l).getD (j + 1 + b) 0 + x) = List.replicate j 0 ++ (0 :: l.set b (l.getD b 0 + x)) := by
  have e1 : List.replicate (j + 1) (0 : Int) ++ l = List.replicate j 0 ++ (0 :: l) := by
    rw [List.replicate_succ', List.append_assoc]
    rfl
  have e2 : (List.replicate (j + 1) (0 : Int) ++ l).getD (j + 1 + b) 0 = l.getD b 0 := by
    rw [List.getD_eq_getElem?_getD, List.getElem?_append_right (by simp), List.length_replicate, Nat.add_sub_cancel_left, List.getD_eq_getElem?_getD]
  rw [e2, e1, List.set_append_right _ _ (by simp; omega), List.length_replicate]
  have e3 : j + 1 + b - j = b + 1 := by omega
  rw [e3]
  rfl
theorem set_self : ∀ (l : List Int) (i : Nat), l.set i (l[i]?.getD 0) = l
  | [], i => by simp
  | x :: l, 0 => by simp
  | x :: l, i + 1 => by
    have := set_self l i
    simp [this]
theorem ixN_nat {n k : Nat} (h : k < n) : ixN n (k : Int) = some k := by
  unfold ixN
  rw [if_pos (by omega), if_pos (by omega)]
  simp
theorem atI_nat {α : Type} {xs : List α} {k : Nat} {x : α} (h : xs[k]? = some x) : atI xs (k : Int) = some x := by
  unfold atI
  rw [ixN_nat (List.getElem?_eq_some_iff.mp h).1]
  exact h
theorem ok_bought (T : Txt K mg) : Pr P w K mg base CX0 1 "bought_from" (spBought K) := by
  obtain ⟨fd, F⟩ := T.f_bought_from
  obtain ⟨ta, hADD⟩ := T.c_ADD
  obtain ⟨tc, hCAP⟩ := T.c_CAP
  refine Pr.of T.g_bought_from F.kp (F.ok sc_bought_from (fun vs H Q E h => ?_) (fun cdv A outer s H vs Q E hr h => ?_)) (F.bindsN fun _ _ _ _ _ _ us hl => match us, hl with | [_, _, _, _, _], _ => rfl)
  · obtain ⟨_, _, _, _, _, _, _, rfl, _⟩ := h
    rfl
  · obtain ⟨a, b, row, pr, m, level, goal, rfl, ⟨xs, hx, hv⟩, hb, hl, hlen, hm, q⟩ := h
    refine ⟨_, PSs.nox (pss_cons (ps_asg (pe_tup (pa_cons (pe_op op_rep (pe_lst (pa_cons pe_int pa_nil)) (pe_callB call_len_seq (by rfl) T.z_len PySem.boot_len (pa_cons (pv 1) pa_nil))) (pa_cons (pe_callB call_len_seq (by rfl) T.z_len PySem.boot_len (pa_cons (pv 0) pa_nil)) (pa_cons pe_int (pa_cons pe_int pa_nil))))) (pg_tup rfl (pgs_cons (pg_name (i := 5) sc_bought_from.nd rfl (Or.inl rfl)) (pgs_cons (pg_name (i := 6) sc_bought_from.nd rfl (Or.inl rfl)) (pgs_cons (pg_name (i := 7) sc_bought_from.nd rfl (Or.inl rfl)) (pgs_cons (pg_name (i := 8) sc_bought_from.nd rfl (Or.inl rfl)) pgs_nil)))))) (pss_cons (ps_for PassesOwn.never rfl (pi_range3 rfl T.z_range (pa_cons (pe_op op_sub (pe_callB call_len_seq (by rfl) T.z_len PySem.boot_len (pa_cons (pv 0) pa_nil)) pe_int) (pa_cons (pe_op op_sub (pv 2) pe_int) (pa_cons (pe_un un_neg pe_int) pa_nil)))) (pg_name (i := 9) sc_bought_from.nd rfl (Or.inl rfl)) (pss_cons (ps_asg (pe_ix ix_tup (pv 0) (pv 9) (fun _ _ => rfl)) (pg_tup rfl (pgs_cons (pg_name (i := 10) sc_bought_from.nd rfl (Or.inl rfl)) (pgs_cons (pg_name (i := 11) sc_bought_from.nd rfl (Or.inl rfl)) pgs_nil)))) (pss_cons (ps_if (pt_cmpR op_eq (pv 10) (pe_glob (v := .str "cap") rfl hCAP ⟨_, rfl⟩) (nomark _)) (pss_cons (ps_set (i := 12) sc_bought_from.nd rfl (.inl rfl) (pe_callB (call_max2 rfl) (by rfl) T.z_max boot_max (pa_cons pe_int (pa_cons (pe_op op_sub (pe_op op_sub (pe_op op_sub (pv 4) (pv 11)) (pv 8)) (pv 7)) pa_nil)))) (pss_cons (ps_augS (pv 5) (pv 6) pget_list (pv 12) ip_add set_list) (pss_one (ps_aug (i := 7) sc_bought_from.nd rfl (.inl rfl) (pv 12) ip_add)))) pss_nil) (pss_cons (ps_if (pt_cmpR op_eq (pv 10) (pe_glob (v := .str "add") rfl hADD ⟨_, rfl⟩) (nomark _)) (pss_one (ps_aug (i := 8) sc_bought_from.nd rfl (.inl rfl) (pv 11) ip_add)) pss_nil) (pss_one (ps_if (pt_cmpR op_lt (pe_ix ix_tup (pv 1) (pv 9) (fun _ _ => rfl)) (pe_ix ix_tup (pv 1) (pv 6) (fun _ _ => rfl)) (nomark _)) (pss_one (ps_set (i := 6) sc_bought_from.nd rfl (.inl rfl) (pv 9))) pss_nil)))))) (pss_cons (ps_augS (pv 5) (pv 6) pget_list (pe_callB (call_max2 rfl) (by rfl) T.z_max boot_max (pa_cons pe_int (pa_cons (pe_op op_sub (pe_op op_sub (pe_op op_sub (pv 4) (pv 3)) (pv 8)) (pv 7)) pa_nil))) ip_add set_list) (pss_one (ps_ret (pe_callTy call_tuple_of (by rfl) T.z_tuple (by decide +kernel) (pa_cons (pv 5) pa_nil))))))), ?_⟩
    have hxl := hv.len
    have hbl : (pr.map V.int).length = row.length + 1 := by rw [List.length_map, hl]
    refine ⟨Nat.le_of_ble_eq_true rfl, fun z hz => ?_⟩
    have hb1 := sqTk0 hb (Kp.r0.laid (o := .lst [.int 0]) hz)
    refine ⟨_, rfl, _, _, rfl, .inr hb1, z, _, _, rfl, rfl, upd_same, by omega, by omega, ?_, fun p hp => ?_⟩
    · rw [hbl]
      unfold sizeLine
      have : (([V.int 0] : List V)).length = 1 := rfl
      rw [this]
      omega
    have er : (List.replicate ((pr.map V.int).length : Int).toNat [V.int 0]).flatten = (List.replicate (row.length + 1) (0 : Int)).map V.int := by
      rw [hbl, Int.toNat_natCast, List.map_replicate]
      generalize row.length + 1 = n
      induction n with
      | zero => rfl
      | succ n ih => rw [List.replicate_succ, List.replicate_succ, List.flatten_cons, ih]; rfl
    rw [er]
    have k2 : Kp [] H (upd (upd H z (.lst [.int 0])) p (.lst ((List.replicate (row.length + 1) (0 : Int)).map V.int))) := (Kp.r0.laid hz).laid hp
    refine ⟨_, rfl, _, xs, rfl, .inr (sqTk0 hx k2), Nat.le_of_ble_eq_true rfl, fun t ht => ?_⟩
    rw [hxl]
    refine ⟨t, _, rfl, .of upd_same, rfl, _, _, rfl, _, _, rfl, _, _, rfl, _, _, rfl, rfl, ?_⟩
    have k3 := k2.laid (o := .tup [.ref p, .int (row.length : Nat), .int 0, .int 0]) ht
    have hp3 : (upd (upd (upd H z (.lst [.int 0])) p (.lst ((List.replicate (row.length + 1) (0 : Int)).map V.int))) t (.tup [.ref p, .int (row.length : Nat), .int 0, .int 0])) p = some (.lst ((List.replicate (row.length + 1) (0 : Int)).map V.int)) := by
      rw [upd_ne (ne_of_none upd_same ht), upd_same]
    generalize (upd (upd (upd H z (.lst [.int 0])) p (.lst ((List.replicate (row.length + 1) (0 : Int)).map V.int))) t (.tup [.ref p, .int (row.length : Nat), .int 0, .int 0])) = H3 at k3 hp3
    have hp0 : H p = none := (Kp.r0.laid (o := .lst [.int 0]) hz).none0 hp
    refine ⟨_, rfl, _, xs, rfl, .inr (sqTk0 hx k3), _, _, rfl, rfl, _, rfl, _, _, rfl, rfl, _, rfl, _, _, _, row.length - m, rfl, ?_, ?_⟩
    · have := RgC.neg (i := (xs.length : Int) - 1) (j := (m : Int) - 1) (by omega) (by omega) (by omega) (by omega)
      have e : ((xs.length : Int) - 1 - ((m : Int) - 1)).toNat = row.length - m := by omega
      rw [e] at this
      exact this
    · have PVd : ∃ PV : Nat → L2.St → Hp → Prop, PV = fun i σ H' => Kp [] H H' ∧ ∃ o9 o10 o11 o12, σ = [some (.ref a), some (.ref b), some (.int m), some (.int level), some (.int goal), some (.ref p), some (.int ((row.length - i + (bAt goal row pr (row.length - i)).best : Nat))), some (.int (bAt goal row pr (row.length - i)).hv), some (.int (bAt goal row pr (row.length - i)).ad), o9, o10, o11, o12] ∧ H' p = some (.lst ((List.replicate (row.length - i) 0 ++ (bAt goal row pr (row.length - i)).am).map V.int)) := ⟨_, rfl⟩
      obtain ⟨PV, hPV⟩ := PVd
      have b0 : bAt goal row pr row.length = ⟨[0], 0, 0, 0⟩ := by
        unfold bAt
        rw [List.drop_length] <;> rfl
      refine for_rangeC PV ?_ ?_ ?_
      · rw [hPV]
        refine ⟨k3, none, none, none, none, ?_, ?_⟩
        · rw [Nat.sub_zero, b0] <;> rfl
        · rw [Nat.sub_zero, b0, hp3, List.replicate_succ']
      · intro i σ H4 hi hP
        rw [hPV] at hP
        obtain ⟨k4, o9, o10, o11, o12, rfl, hp4⟩ := hP
        obtain ⟨j, hj⟩ : ∃ j, j = row.length - (i + 1) := ⟨_, rfl⟩
        have ej : row.length - i = j + 1 := by omega
        have hjl : j < row.length := by omega
        have eplace : ((xs.length : Int) - 1 + (i : Nat) * -1) = (j : Int) := by omega
        rw [eplace]
        rw [ej] at hp4 ⊢
        obtain ⟨ok1, ok2⟩ := bAt_ok (goal := goal) hl (show j + 1 ≤ row.length by omega)
        obtain ⟨⟨wd, nm⟩, he⟩ : ∃ e, row[j]? = some e := ⟨_, List.getElem?_eq_getElem hjl⟩
        obtain ⟨pj, hpj⟩ : ∃ x, pr[j]? = some x := ⟨_, List.getElem?_eq_getElem (by omega)⟩
        obtain ⟨pb, hpb⟩ : ∃ x, pr[j + 1 + (bAt goal row pr (j + 1)).best]? = some x := ⟨_, List.getElem?_eq_getElem (by omega)⟩
        have hst := bAt_step (goal := goal) he hpj
        have hgd : (pr.drop (j + 1)).getD (bAt goal row pr (j + 1)).best 0 = pb := by
          rw [List.getD_eq_getElem?_getD, List.getElem?_drop, hpb] <;> rfl
        generalize hB : bAt goal row pr (j + 1) = B at *
        obtain ⟨ev, hev⟩ : ∃ v, xs[j]? = some v := ⟨_, List.getElem?_eq_getElem (by omega)⟩
        obtain ⟨e', he', t2, rfl, ht2⟩ := evs_get hv hev
        rw [he] at he'
        cases Option.some.inj he'
        have hx4 := sqTk0 hx k4
        have hb4 := sqTk0 hb k4
        have tail : ∀ (D : Ends) (H5 : Hp) (am : List Int) (hv ad : Int) (o12 : Option V), D.nx = PV (i + 1) → Kp [] H H5 → H5 p = some (.lst (am.map V.int)) → (bAt goal row pr j).hv = hv → (bAt goal row pr j).ad = ad → List.replicate j 0 ++ (bAt goal row pr j).am = am →
            tIfS (tTest (tOp (rI0 fun i j => .bl (decide (i < j))) (tOp (rIxT K) (tVar 1) (tVar 9)) (tOp (rIxT K) (tVar 1) (tVar 6)))) (tAsg (tVar 9) (gName 6)) tNext D [some (.ref a), some (.ref b), some (.int m), some (.int level), some (.int goal), some (.ref p), some (.int ((j + 1 + B.best : Nat))), some (.int hv), some (.int ad), some (.int j), some (.str (wdS wd)), some (.int nm), o12] H5 := by
          intro D H5 am hv ad o12 hD k5 hp5 e1 e2 e3
          have res : ∀ best' : Nat, j + (bAt goal row pr j).best = best' → D.nx [some (.ref a), some (.ref b), some (.int m), some (.int level), some (.int goal), some (.ref p), some (.int (best' : Nat)), some (.int hv), some (.int ad), some (.int j), some (.str (wdS wd)), some (.int nm), o12] H5 := by
            intro best' eb
            rw [hD, hPV]
            refine ⟨k5, some (.int j), some (.str (wdS wd)), some (.int nm), o12, ?_, ?_⟩
            · rw [← hj, e1, e2, eb]
            · rw [← hj, e3]
              exact hp5
          have eb : (bAt goal row pr j).best = if pj < pb then 0 else B.best + 1 := by
            rw [hst, ← hgd]
            rfl
          have hb5 := sqTk0 hb k5
          refine ⟨_, rfl, _, rfl, _, _, _, _, rfl, rfl, hb5, atI_nat (by rw [List.getElem?_map, hpj]; rfl), _, rfl, _, rfl, _, _, _, _, rfl, rfl, hb5, atI_nat (by rw [List.getElem?_map, hpb]; rfl), _, _, rfl, rfl, _, rfl, dec2 (fun h => ?_) (fun h => ?_)⟩
          · refine ⟨_, rfl, ?_⟩
            rw [if_pos h] at eb
            exact res j (by omega)
          · rw [if_neg h] at eb
            exact res (j + 1 + B.best) (by omega)
        refine ⟨_, rfl, _, rfl, _, _, _, _, rfl, rfl, hx4, atI_nat hev, t2, _, rfl, sqTk0 ht2 k4, rfl, _, _, rfl, _, _, rfl, rfl, ?_⟩
        cases wd with
        | cap =>
          refine ⟨_, rfl, rfl, _, rfl, decT rfl ?_⟩
          refine ⟨_, rfl, _, rfl, _, _, rfl, rfl, _, rfl, _, _, rfl, rfl, _, rfl, _, _, rfl, rfl, _, _, rfl, ?_⟩
          have hbl4 : j + 1 + B.best < (List.replicate (j + 1) 0 ++ B.am).length := by
            rw [List.length_append, List.length_replicate]
            omega
          have hgb : ((List.replicate (j + 1) 0 ++ B.am).map V.int)[((j + 1 + B.best : Nat) : Int).toNat]? = some (.int ((List.replicate (j + 1) 0 ++ B.am).getD (j + 1 + B.best) 0)) := by
            rw [Int.toNat_natCast, List.getElem?_map, List.getD_eq_getElem?_getD, List.getElem?_eq_getElem hbl4]
            rfl
          refine ⟨_, rfl, _, rfl, p, _, _, _, rfl, rfl, .of hp4, by omega, by rw [List.length_map]; omega, hgb, _, rfl, _, _, rfl, rfl, p, _, _, _, rfl, rfl, hp4, ixN_nat (by rw [List.length_map]; exact hbl4), ?_⟩
          refine ⟨_, rfl, _, rfl, _, _, rfl, rfl, ?_⟩
          refine ⟨_, rfl, rfl, _, rfl, decF nCA ?_⟩
          rw [max_if]
          refine tail _ _ ((List.replicate (j + 1) 0 ++ B.am).set (j + 1 + B.best) ((List.replicate (j + 1) 0 ++ B.am).getD (j + 1 + B.best) 0 + max 0 (goal - nm - B.ad - B.hv))) _ _ _ rfl (k4.new hp0) ?_ ?_ ?_ ?_
          · rw [upd_same, List.map_set]
          · rw [hst]; rfl
          · rw [hst]; show B.ad + 0 = B.ad; omega
          · rw [rep_cons _ _ _ _ (by omega), hst]
            rfl
        | add =>
          refine ⟨_, rfl, rfl, _, rfl, decF nAC ?_⟩
          refine ⟨_, rfl, rfl, _, rfl, decT rfl ?_⟩
          refine ⟨_, rfl, _, rfl, _, _, rfl, rfl, ?_⟩
          refine tail _ _ _ _ _ _ rfl k4 hp4 ?_ ?_ ?_
          · rw [hst]; show B.hv + 0 = B.hv; omega
          · rw [hst]; rfl
          · rw [hst]
            show List.replicate j 0 ++ (0 :: B.am.set B.best (B.am.getD B.best 0 + 0)) = _
            rw [← rep_cons _ _ _ _ (by omega), Int.add_zero, List.getD_eq_getElem?_getD, set_self]
        | floor =>
          refine ⟨_, rfl, rfl, _, rfl, decF nFC ?_⟩
          refine ⟨_, rfl, rfl, _, rfl, decF nFA ?_⟩
          refine tail _ _ _ _ _ _ rfl k4 hp4 ?_ ?_ ?_
          · rw [hst]; show B.hv + 0 = B.hv; omega
          · rw [hst]; show B.ad + 0 = B.ad; omega
          · rw [hst]
            show List.replicate j 0 ++ (0 :: B.am.set B.best (B.am.getD B.best 0 + 0)) = _
            rw [← rep_cons _ _ _ _ (by omega), Int.add_zero, List.getD_eq_getElem?_getD, set_self]
      · intro σ H4 hP
        rw [hPV] at hP
        obtain ⟨k4, o9, o10, o11, o12, rfl, hp4⟩ := hP
        have em : row.length - (row.length - m) = m := by omega
        rw [em] at hp4 ⊢
        obtain ⟨ok1, ok2⟩ := bAt_ok (goal := goal) hl hm
        have hbl4 : m + (bAt goal row pr m).best < (List.replicate m 0 ++ (bAt goal row pr m).am).length := by
          rw [List.length_append, List.length_replicate]
          omega
        have hgb : ((List.replicate m 0 ++ (bAt goal row pr m).am).map V.int)[((m + (bAt goal row pr m).best : Nat) : Int).toNat]? = some (.int ((List.replicate m 0 ++ (bAt goal row pr m).am).getD (m + (bAt goal row pr m).best) 0)) := by
          rw [Int.toNat_natCast, List.getElem?_map, List.getD_eq_getElem?_getD, List.getElem?_eq_getElem hbl4]
          rfl
        refine ⟨_, rfl, _, rfl, p, _, _, _, rfl, rfl, .of hp4, by omega, by rw [List.length_map]; omega, hgb, ?_⟩
        refine ⟨_, rfl, _, rfl, _, _, rfl, rfl, _, rfl, _, _, rfl, rfl, _, rfl, _, _, rfl, rfl, _, _, rfl, ?_⟩
        refine ⟨_, _, rfl, rfl, p, _, _, _, rfl, rfl, hp4, ixN_nat (by rw [List.length_map]; exact hbl4), ?_⟩
        refine ⟨_, rfl, p, _, rfl, .inl ⟨.of upd_same, fun c hc => q c _ ((k4.new hp0).laid hc) (.of ?_)⟩⟩
        rw [upd_same, max_if, ← List.map_set]
        refine congrArg (fun l : List Int => some (HO.tup (l.map V.int))) ?_
        unfold bought bfin
        show _ = List.replicate m 0 ++ ((bAt goal row pr m).am.set (bAt goal row pr m).best ((bAt goal row pr m).am.getD (bAt goal row pr m).best 0 + max 0 (goal - level - (bAt goal row pr m).ad - (bAt goal row pr m).hv)))
        rw [List.set_append_right _ _ (by simp)]
        congr 1
        rw [List.length_replicate, Nat.add_sub_cancel_left]
        congr 2
        rw [List.getD_eq_getElem?_getD, List.getElem?_append_right (by simp), List.length_replicate, Nat.add_sub_cancel_left, List.getD_eq_getElem?_getD]
end
end K65
set_option Elab.async false
set_option linter.all false
set_option maxRecDepth 100000
set_option maxHeartbeats 4000000
namespace K65
open PySem PySem.Spec PyProof.Rows L2 SlX He
/-! ### the least of the plans -/
def plD (pr p : List Int) : PyData := .tuple [.int (price p pr), .tuple (p.map .int)]
theorem alike_ints : ∀ (a b : List Int), PySem.W.alikeAll (a.map .int) (b.map .int) = true
  | [], b => by cases b <;> rfl
  | x :: a, [] => rfl
  | x :: a, y :: b => by
    show (PySem.W.alike (.int x) (.int y) && PySem.W.alikeAll (a.map .int) (b.map .int)) = true
    rw [alike_ints a b]
    rfl
theorem alike_pl (pr a b : List Int) : PySem.W.alike (plD pr a) (plD pr b) = true := by
  show (PySem.W.alike (.int (price a pr)) (.int (price b pr)) && (PySem.W.alike (.tuple (a.map .int)) (.tuple (b.map .int)) && true)) = true
  have : PySem.W.alike (.tuple (a.map .int)) (.tuple (b.map .int)) = true := alike_ints a b
  rw [this]
  rfl
theorem lt_pl {pr a b : List Int} : (PySem.W.dataLt (plD pr a) (plD pr b) = true → price a pr ≤ price b pr) ∧ (PySem.W.dataLt (plD pr a) (plD pr b) = false → price b pr ≤ price a pr) := by
  have e := PySem.W.dataLt_pair (x := .int (price a pr)) (y := .tuple (a.map .int)) (x' := .int (price b pr)) (y' := .tuple (b.map .int)) rfl (alike_ints a b)
  unfold plD
  rw [e]
  cases h : PyData.eqv (.int (price a pr)) (.int (price b pr)) with
  | true =>
    have : price a pr = price b pr := of_decide_eq_true h
    constructor <;> intro _ <;> omega
  | false =>
    rw [if_neg (by simp), PySem.W.dataLt_int]
    constructor
    · intro z
      have := of_decide_eq_true z
      omega
    · intro z
      have := of_decide_eq_false z
      omega
theorem min_pl (pr : List Int) : ∀ (ps : List (List Int)) (p : List Int), ∃ q, q ∈ p :: ps ∧ PySem.W.minD (plD pr p) (ps.map (plD pr)) = plD pr q ∧ ∀ x ∈ p :: ps, price q pr ≤ price x pr
  | [], p => ⟨p, List.mem_cons_self .., rfl, fun x hx => by
      rcases List.mem_cons.mp hx with rfl | hx
      · exact Int.le_refl _
      · cases hx⟩
  | y :: ps, p => by
    by_cases h : PySem.W.dataLt (plD pr y) (plD pr p) = true
    · obtain ⟨q, h1, h2, h3⟩ := min_pl pr ps y
      refine ⟨q, List.mem_cons_of_mem _ h1, ?_, ?_⟩
      · show (ps.map (plD pr)).foldl _ (if PySem.W.dataLt (plD pr y) (plD pr p) then plD pr y else plD pr p) = _
        rw [if_pos h]
        exact h2
      · intro x hx
        rcases List.mem_cons.mp hx with rfl | hx
        · exact Int.le_trans (h3 y (List.mem_cons_self ..)) (lt_pl.1 h)
        · exact h3 x hx
    · obtain ⟨q, h1, h2, h3⟩ := min_pl pr ps p
      have h' : PySem.W.dataLt (plD pr y) (plD pr p) = false := by simpa using h
      refine ⟨q, ?_, ?_, ?_⟩
      · rcases List.mem_cons.mp h1 with rfl | h1
        · exact List.mem_cons_self ..
        · exact List.mem_cons_of_mem _ (List.mem_cons_of_mem _ h1)
      · show (ps.map (plD pr)).foldl _ (if PySem.W.dataLt (plD pr y) (plD pr p) then plD pr y else plD pr p) = _
        rw [if_neg h]
        exact h2
      · intro x hx
        rcases List.mem_cons.mp hx with rfl | hx
        · exact h3 x (List.mem_cons_self ..)
        · rcases List.mem_cons.mp hx with rfl | hx
          · exact Int.le_trans (h3 p (List.mem_cons_self ..)) (lt_pl.2 h')
          · exact h3 x (List.mem_cons_of_mem _ hx)
theorem lay_ints : ∀ (a : List Int), PyData.canLayAll0 (a.map .int) = true
  | [] => rfl
  | x :: a => by
    show (PyData.canLay0 (.int x) && PyData.canLayAll0 (a.map .int)) = true
    rw [lay_ints a]
    rfl
theorem lay_pls (pr : List Int) : ∀ (ps : List (List Int)), PyData.canLayAll0 (ps.map (plD pr)) = true
  | [] => rfl
  | p :: ps => by
    show (PyData.canLay0 (plD pr p) && PyData.canLayAll0 (ps.map (plD pr))) = true
    rw [lay_pls pr ps]
    have : PyData.canLay0 (plD pr p) = true := by
      show (PyData.canLay0 (.int (price p pr)) && (PyData.canLayAll0 (p.map .int) && true)) = true
      rw [lay_ints p]
      rfl
    rw [this]
    rfl
theorem dep_ints : ∀ (a : List Int), PyData.depthAll (a.map .int) ≤ 0
  | [] => Nat.le_refl _
  | x :: a => by
    show max (PyData.depth (.int x)) (PyData.depthAll (a.map .int)) ≤ 0
    have := dep_ints a
    have : PyData.depth (.int x) = 0 := rfl
    omega
theorem dep_pls (pr : List Int) : ∀ (ps : List (List Int)), PyData.depthAll (ps.map (plD pr)) ≤ 2
  | [] => Nat.zero_le _
  | p :: ps => by
    show max (PyData.depth (plD pr p)) (PyData.depthAll (ps.map (plD pr))) ≤ 2
    have h1 := dep_pls pr ps
    have h2 := dep_ints p
    have : PyData.depth (plD pr p) ≤ 2 := by
      show PyData.depthAll [.int (price p pr), .tuple (p.map .int)] + 1 ≤ 2
      show max (PyData.depth (.int (price p pr))) (max (PyData.depthAll (p.map .int) + 1) 0) + 1 ≤ 2
      have : PyData.depth (.int (price p pr)) = 0 := rfl
      omega
    omega
theorem dp_ints {K : PySem.W.Frag} {H : Hp} : ∀ (a : List Int), DpAll K H (a.map .int) (a.map .int)
  | [] => .nil
  | x :: a => .cons (.int x) (dp_ints a)
/-- one plan in the list of pairs -/
def PlAt (K : PySem.W.Frag) (H : Hp) (pr : List Int) (v : V) (p : List Int) : Prop := ∃ t a, v = .ref t ∧ SqT K H t [.int (price p pr), .ref a] ∧ IntsT K H a p
theorem dp_pls {K : PySem.W.Frag} {H : Hp} {pr : List Int} : ∀ {ys : List V} {ps : List (List Int)}, Paired (PlAt K H pr) ys ps → DpAll K H ys (ps.map (plD pr))
  | _, _, .nil => .nil
  | _, _, .cons ⟨t, a, e, h1, h2⟩ r => by
    subst e
    exact .cons (.tup h1 (.cons (.int _) (.cons (.tup h2 (dp_ints _)) .nil))) (dp_pls r)
theorem paired_get {α β : Type} {R : α → β → Prop} : ∀ {xs : List α} {ys : List β} {i : Nat} {x : α}, Paired R xs ys → xs[i]? = some x → ∃ y, ys[i]? = some y ∧ R x y
  | _, _, _, _, .nil, h => by simp at h
  | _, _, 0, _, .cons r _, h => by simp at h; subst h; exact ⟨_, rfl, r⟩
  | _, _, i + 1, x, .cons _ t, h => by
    obtain ⟨e, h1, h2⟩ := paired_get (i := i) (x := x) t (by simpa using h)
    exact ⟨e, by simpa using h1, h2⟩
theorem paired_of {α β : Type} {R : α → β → Prop} : ∀ {xs : List α} {ys : List β}, xs.length = ys.length → (∀ (i : Nat) (x : α), xs[i]? = some x → ∃ y, ys[i]? = some y ∧ R x y) → Paired R xs ys
  | [], [], _, _ => .nil
  | x :: xs, y :: ys, h, z => by
    obtain ⟨y', h1, h2⟩ := z 0 x rfl
    cases Option.some.inj h1
    exact .cons h2 (paired_of (by simpa using h) fun i x' hx => z (i + 1) x' hx)
  | [], _ :: _, h, _ => by simp at h
  | _ :: _, [], h, _ => by simp at h
theorem paired_app {α β : Type} {R : α → β → Prop} : ∀ {xs ys : List α} {us vs : List β}, Paired R xs us → Paired R ys vs → Paired R (xs ++ ys) (us ++ vs)
  | _, _, _, _, .nil, s => s
  | _, _, _, _, .cons r t, s => .cons r (paired_app t s)
def RInt (K : PySem.W.Frag) (H : Hp) (v : V) (p : List Int) : Prop := ∃ a, v = .ref a ∧ IntsT K H a p
theorem RInt.kp {K : PySem.W.Frag} {H H' : Hp} {ex : List Addr} {v : V} {p : List Int} (h : RInt K H v p) (k : Kp ex H H') : RInt K H' v p := by
  obtain ⟨a, e, h⟩ := h
  exact ⟨a, e, sqTk0 h k⟩
theorem plan_floor {row : List Ev} {pr : List Int} {s goal n : Int} {i : Nat} (h : row[i]? = some (.floor, n)) : planTo row pr s goal (i + 1) = planTo row pr s goal i ++ [bought row pr (i + 1) n goal] := by
  show planTo row pr s goal i ++ _ = _
  rw [h]
theorem plan_no {row : List Ev} {pr : List Int} {s goal n : Int} {i : Nat} {wd : Wd} (h : row[i]? = some (wd, n)) (hw : wd ≠ .floor) : planTo row pr s goal (i + 1) = planTo row pr s goal i := by
  show planTo row pr s goal i ++ _ = _
  rw [h]
  cases wd with
  | floor => exact absurd rfl hw
  | _ => exact List.append_nil _
theorem plan_len {row : List Ev} {pr : List Int} {s goal : Int} (hl : pr.length = row.length + 1) (hp : ∀ p ∈ pr, 0 ≤ p) {i : Nat} (hi : i ≤ row.length) : (planTo row pr s goal i).length ≤ i + 1 ∧ ∀ p ∈ planTo row pr s goal i, p.length = row.length + 1 := by
  refine ⟨?_, fun p h => ?_⟩
  · clear hi
    induction i with
    | zero => exact Nat.le_refl _
    | succ i ih =>
      unfold planTo
      rw [List.length_append]
      split <;> simp <;> omega
  · rcases mem_planTo.mp h with rfl | ⟨j, c, h1, h2, rfl⟩
    · exact (bought_len hl hp (Nat.zero_le _)).1
    · exact (bought_len hl hp (by omega)).1
section
variable {P : Program} {w : World} {K : PySem.W.Frag} {mg : Str → Option Value} {base : Heap}
def spAmounts (K : PySem.W.Frag) : Sp := fun vs H Q _ => ∃ (a b : Addr) (row : List Ev) (pr : List Int) (s goal : Int), vs = [.ref a, .ref b, .int s, .int goal] ∧ RowT K H a row ∧ IntsT K H b pr ∧ pr.length = row.length + 1 ∧ row.length < 300 ∧ (∀ p ∈ pr, 0 ≤ p ∧ p < 1000000) ∧
  ∀ c p H', Kp [] H H' → IntsT K H' c p → Cheapest row pr s goal p → Q (.ref c) H'
theorem ok_amounts (T : Txt K mg) (P_check_many : Pr P w K mg base CX0 1 "check_many" (spMany K)) (P_bought_from : Pr P w K mg base CX0 1 "bought_from" (spBought K)) (P_price_of : Pr P w K mg base CX0 1 "price_of" (spPrice K)) : Pr P w K mg base CX0 4 "cheapest_amounts" (spAmounts K) := by
  obtain ⟨fd, F⟩ := T.f_cheapest_amounts
  obtain ⟨tf, hFLOOR⟩ := T.c_FLOOR
  refine Pr.of T.g_cheapest_amounts F.kp (F.ok sc_cheapest_amounts (fun vs H Q E h => ?_) (fun cdv A outer s H vs Q E hr h => ?_)) (F.bindsN fun _ _ _ _ _ _ us hl => match us, hl with | [_, _, _, _], _ => rfl)
  · obtain ⟨_, _, _, _, _, _, rfl, _⟩ := h
    rfl
  · obtain ⟨a, b, row, pr, st, goal, rfl, ⟨xs, hx, hv⟩, hb, hl, hlen, hpr, q⟩ := h
    refine ⟨_, PSs.nox (pss_cons (ps_expr (pe_g P_check_many (hr.mono (by decide)) pass0 (pa_cons (pv 0) (pa_cons (pv 1) pa_nil)))) (pss_cons (ps_set (i := 4) sc_cheapest_amounts.nd rfl (.inl rfl) (pe_lst (pa_cons (pe_g P_bought_from (hr.mono (by decide)) pass0 (pa_cons (pv 0) (pa_cons (pv 1) (pa_cons pe_int (pa_cons (pv 2) (pa_cons (pv 3) pa_nil)))))) pa_nil))) (pss_cons (ps_for PassesOwn.never rfl (pi_enumT rfl T.z_enumerate (pa_cons (pv 0) pa_nil)) (pg_tup rfl (pgs_cons (pg_name (i := 5) sc_cheapest_amounts.nd rfl (Or.inl rfl)) (pgs_cons (pg_tup rfl (pgs_cons (pg_name (i := 6) sc_cheapest_amounts.nd rfl (Or.inl rfl)) (pgs_cons (pg_name (i := 7) sc_cheapest_amounts.nd rfl (Or.inl rfl)) pgs_nil))) pgs_nil))) (pss_one (ps_if (pt_cmpR op_eq (pv 6) (pe_glob (v := .str "floor") rfl hFLOOR ⟨_, rfl⟩) (nomark _)) (pss_one (ps_expr (pe_bm PySem.F.plainAttrs_list PySem.F.slot_list_append PySem.F.type_list_append mt_append (pv 4) (pa_cons (pe_g P_bought_from (hr.mono (by decide)) pass0 (pa_cons (pv 0) (pa_cons (pv 1) (pa_cons (pe_op op_add (pv 5) pe_int) (pa_cons (pv 7) (pa_cons (pv 3) pa_nil)))))) pa_nil)))) pss_nil))) (pss_one (ps_ret (pe_ix ix_tup (pe_callB (cr_minD rfl hr) (by rfl) T.z_min boot_min (pa_cons (pe_lc (own := [("plan", 8)]) (g := gName 8) rfl sc_cheapest_amounts.nd (pi_list (pv 4)) (blkOk_by (own := [("plan", 8)]) (N := ["row", "prices", "start", "goal", "plans", "place", "word", "number", "plan"]) (sc := defScope s_cheapest_amounts) (by decide +kernel)) (fun _ _ _ _ _ => (pg_name (i := 8) sc_cheapest_amounts.nd rfl (Or.inl rfl))) (fun _ _ _ _ _ => pts_nil) (fun _ _ _ _ _ => (pe_tup (pa_cons (pe_g P_price_of (hr.mono (by decide)) pass0 (pa_cons (pv 8) (pa_cons (pv 1) pa_nil))) (pa_cons (pv 8) pa_nil))))) pa_nil)) pe_int (fun _ _ => rfl))))))), ?_⟩
    have hxl := hv.len
    have hp0 : ∀ p ∈ pr, 0 ≤ p := fun p h => (hpr p h).1
    have rt : RowT K H a row := ⟨xs, hx, hv⟩
    refine ⟨_, rfl, _, rfl, a, b, row.length, rfl, ⟨xs, .inr hx, hxl⟩, ⟨_, .inr hb, by rw [List.length_map, hl]⟩, ?_⟩
    refine ⟨_, rfl, _, rfl, _, rfl, _, rfl, a, b, row, pr, 0, st, goal, rfl, rt, hb, hl, hlen, Nat.zero_le _, fun c0 H1 k1 hc0 => ⟨Nat.le_of_ble_eq_true rfl, fun p hp => ?_⟩⟩
    have k2 : Kp [] H (upd H1 p (.lst [.ref c0])) := k1.laid hp
    have hpn : H p = none := k1.none0 hp
    refine ⟨_, rfl, a, xs, rfl, sqTk0 hx k2, ?_⟩
    refine for_it (walk_enumT (xs := xs)) (fun i σ H' => Kp [] H H' ∧ ∃ zs o5 o6 o7, σ = [some (.ref a), some (.ref b), some (.int st), some (.int goal), some (.ref p), o5, o6, o7, none] ∧ H' p = some (.lst zs) ∧ Paired (RInt K H') zs (planTo row pr st goal i)) ⟨k2, [.ref c0], none, none, none, rfl, upd_same, .cons ⟨c0, rfl, sqTk0 hc0 (Kp.r0.laid hp)⟩ .nil⟩ (fun i σ H' _ z => sqTk0 hx z.1) ?_ ?_
    · rintro i x σ H2 H3 hi ⟨k, zs, o5, o6, o7, rfl, hzs, hev⟩ ⟨t, y, rfl, ht, rfl, hy⟩
      obtain ⟨⟨wd, n⟩, he, t2, rfl, ht2⟩ := evs_get hv hy
      have k3 : Kp [] H (upd H2 t (.tup [.int i, .ref t2])) := k.laid ht
      have hz3 : (upd H2 t (.tup [.int i, .ref t2])) p = some (.lst zs) := by rw [upd_ne (ne_of_none hzs ht)]; exact hzs
      have hev3 : Paired (RInt K (upd H2 t (.tup [.int i, .ref t2]))) zs (planTo row pr st goal i) := Paired.mapP hev fun _ _ z => z.kp (Kp.r0.laid ht)
      refine ⟨t, _, rfl, .of upd_same, rfl, _, _, rfl, _, _, rfl, ⟨t2, _, rfl, sqTk0 ht2 k3, rfl, _, _, rfl, _, _, rfl, rfl, rfl, ?_⟩⟩
      cases wd with
      | floor =>
        refine ⟨_, rfl, rfl, _, rfl, decT rfl ?_⟩
        refine ⟨_, rfl, .inl ⟨rfl, _, .of hz3⟩, _, rfl, _, rfl, _, rfl, _, _, rfl, rfl, _, rfl, _, rfl, a, b, row, pr, i + 1, n, goal, rfl, rt.kp k3, sqTk0 hb k3, hl, hlen, by omega, fun c H5 k5 hc => ?_⟩
        refine ⟨p, zs, _, rfl, rfl, k5.at0 hz3, ?_, (k3.trans k5).new hpn, _, _, _, _, rfl, upd_same, ?_⟩
        · have z1 := Paired.length hev
          have z2 := (plan_len (s := st) (goal := goal) hl hp0 (show i ≤ row.length by omega)).1
          unfold sizeLine
          omega
        · rw [plan_floor he]
          have kk : Kp [p] H5 (upd H5 p (.lst (zs ++ [.ref c]))) := Kp.rfl'.out (List.mem_cons_self ..) fun o ho => by
            rw [k5.at0 hz3] at ho
            cases ho
            exact fun z => z
          exact paired_app (Paired.mapP hev3 fun _ _ z => (z.kp k5).kp kk) (.cons ⟨c, rfl, sqTk0 hc kk⟩ .nil)
      | add =>
        refine ⟨_, rfl, rfl, _, rfl, decF nAF ⟨k3, zs, _, _, _, rfl, hz3, ?_⟩⟩
        rw [plan_no he (fun z => nomatch z)]
        exact hev3
      | cap =>
        refine ⟨_, rfl, rfl, _, rfl, decF nCF ⟨k3, zs, _, _, _, rfl, hz3, ?_⟩⟩
        rw [plan_no he (fun z => nomatch z)]
        exact hev3
    · rintro σ H2 ⟨k, zs, o5, o6, o7, rfl, hzs, hev⟩
      rw [hxl] at hev
      obtain ⟨z2, z3⟩ := plan_len (s := st) (goal := goal) hl hp0 (Nat.le_refl row.length)
      have z1 := Paired.length hev
      refine ⟨_, rfl, p, rfl, ⟨_, .of hzs⟩, ?_⟩
      refine lc_pure (walk_list (xs := zs)) (fun i y H' => ∃ pl, (planTo row pr st goal row.length)[i]? = some pl ∧ PlAt K H' pr y pl) (by unfold sizeLine; omega) tts_true (fun H' k' => .of (k'.at0 hzs)) (fun i y H3 H4 D k' z => by obtain ⟨pl, h1, t, c, e, h2, h3⟩ := z; exact ⟨pl, h1, t, c, e, sqTk0 h2 k', sqTk0 h3 k'⟩) (gName_mono 8) ?_ ?_
      · rintro i x H3 H4 hi k' ⟨rfl, hxi⟩
        obtain ⟨pl, e1, c, rfl, hc⟩ := paired_get hev hxi
        have hpl := z3 pl (List.mem_of_getElem? e1)
        refine ⟨rfl, fun R hR => ⟨_, rfl, _, rfl, c, b, pl, pr, rfl, sqTk0 hc k', sqTk0 hb (k.trans k'), by rw [hpl, hl], by omega, hpr, fun H5 k5 => ⟨_, rfl, Nat.le_of_ble_eq_true rfl, fun t ht => hR _ _ (k5.laid ht) ⟨pl, e1, t, c, rfl, .of upd_same, sqTk0 (sqTk0 (sqTk0 hc k') k5) (Kp.r0.laid ht)⟩⟩⟩⟩
      · intro D H3 ys k3 hD hys hyl hz
        have hpp : Paired (PlAt K H3 pr) ys (planTo row pr st goal row.length) := paired_of (hyl.trans z1) hz
        have hD2 := dp_pls hpp
        have hAl : ∀ l : List (List Int), PySem.W.AlikeAll (l.map (plD pr)) := fun l => ⟨fun x hx y hy => by
          obtain ⟨a, _, rfl⟩ := List.mem_map.mp hx
          obtain ⟨b, _, rfl⟩ := List.mem_map.mp hy
          exact alike_pl pr a b, fun x hx => by
          obtain ⟨a, _, rfl⟩ := List.mem_map.mp hx
          exact fun z => nomatch z⟩
        cases hps : planTo row pr st goal row.length with
        | nil =>
          have : bought row pr 0 st goal ∈ planTo row pr st goal row.length := mem_planTo.mpr (.inl rfl)
          rw [hps] at this
          cases this
        | cons p0 ps =>
          rw [hps] at hD2
          obtain ⟨qm, q1, q2, q3⟩ := min_pl pr ps p0
          refine ⟨D, ys, plD pr p0, ps.map (plD pr), rfl, .of hys, hD2, hAl (p0 :: ps), lay_pls pr (p0 :: ps), Nat.le_trans (dep_pls pr (p0 :: ps)) (by decide), fun i y hyi hdi => ?_⟩
          obtain ⟨pl, e1, t, c, rfl, h2, h3⟩ := paired_get hpp hyi
          have e3 : plD pr pl = plD pr qm := by
            rw [hps] at e1
            have e4 : ((p0 :: ps).map (plD pr))[i]? = some (plD pr pl) := by rw [List.getElem?_map, e1]; rfl
            have e5 : ((p0 :: ps).map (plD pr))[i]? = some (PySem.W.minD (plD pr p0) (ps.map (plD pr))) := hdi
            rw [e4, q2] at e5
            exact Option.some.inj e5
          have e6 : price pl pr = price qm pr := by
            unfold plD at e3
            injection e3 with e3
            injection e3 with e3 _
            injection e3
          refine ⟨t, _, 1, _, rfl, rfl, h2, rfl, q c pl H3 (k.trans k3) h3 ⟨List.mem_of_getElem? e1, fun x hx => ?_⟩⟩
          rw [hps] at hx
          rw [e6]
          exact q3 x hx
def spCheapest (K : PySem.W.Frag) : Sp := fun vs H Q _ => ∃ (a b : Addr) (row : List Ev) (pr : List Int) (s goal : Int), vs = [.ref a, .ref b, .int s, .int goal] ∧ RowT K H a row ∧ IntsT K H b pr ∧ pr.length = row.length + 1 ∧ row.length < 300 ∧ (∀ p ∈ pr, 0 ≤ p ∧ p < 1000000) ∧
  ∀ p H', Kp [] H H' → Cheapest row pr s goal p → Q (.int (price p pr)) H'
theorem ok_cheapest (T : Txt K mg) (P_cheapest_amounts : Pr P w K mg base CX0 4 "cheapest_amounts" (spAmounts K)) (P_price_of : Pr P w K mg base CX0 1 "price_of" (spPrice K)) : Pr P w K mg base CX0 5 "cheapest" (spCheapest K) := by
  obtain ⟨fd, F⟩ := T.f_cheapest
  refine Pr.of T.g_cheapest F.kp (F.ok sc_cheapest (fun vs H Q E h => ?_) (fun cdv A outer s H vs Q E hr h => ?_)) (F.bindsN fun _ _ _ _ _ _ us hl => match us, hl with | [_, _, _, _], _ => rfl)
  · obtain ⟨_, _, _, _, _, _, rfl, _⟩ := h
    rfl
  · obtain ⟨a, b, row, pr, st, goal, rfl, hrow, hb, hl, hlen, hpr, q⟩ := h
    refine ⟨_, PSs.nox (pss_one (ps_ret (pe_g P_price_of (hr.mono (by decide)) pass0 (pa_cons (pe_g P_cheapest_amounts (hr.mono (by decide)) pass0 (pa_cons (pv 0) (pa_cons (pv 1) (pa_cons (pv 2) (pa_cons (pv 3) pa_nil))))) (pa_cons (pv 1) pa_nil))))), ?_⟩
    refine ⟨_, rfl, _, rfl, _, rfl, _, rfl, a, b, row, pr, st, goal, rfl, hrow, hb, hl, hlen, hpr, fun c p H1 k1 hc hch => ?_⟩
    have hpl := plan_reaches hl (fun p h => (hpr p h).1) hch.1
    exact ⟨_, rfl, c, b, p, pr, rfl, hc, sqTk0 hb k1, by rw [hpl.1, hl], by omega, hpr, fun H2 k2 => q p H2 (k1.trans k2) hch⟩
end
end K65
set_option Elab.async false
set_option linter.all false
set_option maxRecDepth 100000
set_option maxHeartbeats 4000000
namespace K65
open PySem PySem.Spec PyProof.Rows L2 SlX He
/-! ### the source of draws -/
/-- n more draws -/
def BoxAt (H : Hp) (b : Addr) (n : Nat) : Prop := ∃ x y c : Int, H b = some (.lst [.int x, .int y, .int c]) ∧ 0 ≤ x ∧ 0 ≤ y ∧ y < 4611686018427387904 ∧ 0 ≤ c ∧ c + n ≤ 1000000000
theorem BoxAt.mono {H : Hp} {b : Addr} {m n : Nat} (h : BoxAt H b n) (hm : m ≤ n) : BoxAt H b m := by
  obtain ⟨x, y, c, h0, h1, h2, h3, h4, h5⟩ := h
  exact ⟨x, y, c, h0, h1, h2, h3, h4, by omega⟩
theorem BoxAt.kp {H H' : Hp} {b : Addr} {n : Nat} (h : BoxAt H b n) (k : Kp [] H H') : BoxAt H' b n := by
  obtain ⟨x, y, c, h0, h⟩ := h
  exact ⟨x, y, c, k.at0 h0, h⟩
theorem BoxAt.kp1 {H H' : Hp} {b : Addr} {ex : List Addr} {n : Nat} (h : BoxAt H b n) (k : Kp ex H H') (hb : b ∉ ex) : BoxAt H' b n := by
  obtain ⟨x, y, c, h0, h⟩ := h
  exact ⟨x, y, c, k.at1 h0 hb, h⟩
theorem BoxAt.nn {H : Hp} {b : Addr} {n : Nat} (h : BoxAt H b n) : H b ≠ none := by
  obtain ⟨x, y, c, h0, _⟩ := h
  rw [h0]
  exact fun z => nomatch z
theorem BoxAt.soft {H : Hp} {b : Addr} {n : Nat} (h : BoxAt H b n) : ∀ o, H b = some o → ¬ TupO o := by
  obtain ⟨x, y, c, h0, _⟩ := h
  intro o ho
  rw [h0] at ho
  cases ho
  exact fun z => z
theorem BoxAt.laid {H : Hp} {b a : Addr} {n : Nat} {o : HO} (h : BoxAt H b n) (ha : H a = none) : BoxAt (upd H a o) b n := h.kp (Kp.r0.laid ha)
section
variable {P : Program} {w : World} {K : PySem.W.Frag} {mg : Str → Option Value} {base : Heap}
def spTake : Sp := fun vs H Q _ => ∃ (b : Addr) (n size : Nat), vs = [.ref b, .int size] ∧ BoxAt H b (n + 1) ∧ 0 < size ∧ size < 1000000 ∧ ∀ (r : Nat) H', r < size → Kp [b] H H' → BoxAt H' b n → Q (.int r) H'
theorem ok_take (T : Txt K mg) : Pr P w K mg base CX0 1 "_law_take" spTake := by
  obtain ⟨fd, F⟩ := T.f_law_take
  refine Pr.of T.g_law_take F.kp (F.ok sc_law_take (fun vs H Q E h => ?_) (fun cdv A outer s H vs Q E hr h => ?_)) (F.bindsN fun _ _ _ _ _ _ us hl => match us, hl with | [_, _], _ => rfl)
  · obtain ⟨_, _, _, rfl, _⟩ := h
    rfl
  · obtain ⟨b, n, size, rfl, hB, hs, hs2, q⟩ := h
    refine ⟨_, PSs.nox (pss_cons (ps_if (pt_cmpR op_gt (pe_ix ix_list (pv 0) pe_int (fun _ _ => rfl)) pe_int (nomark _)) (pss_cons (ps_set (i := 2) sc_law_take.nd rfl (.inl rfl) (pe_op op_mod (pe_callTy call_int1 (by rfl) T.z_int (by decide +kernel) (pa_cons (pe_ix ix_list (pv 0) pe_int (fun _ _ => rfl)) pa_nil)) (pv 1))) (pss_cons (ps_asg (pe_op op_fdiv (pe_ix ix_list (pv 0) pe_int (fun _ _ => rfl)) (pv 1)) (pg_sub (pv 0) pe_int set_list)) (pss_one (ps_ret (pv 2))))) pss_nil) (pss_cons (ps_asg (pe_op op_add (pe_ix ix_list (pv 0) pe_int (fun _ _ => rfl)) pe_int) (pg_sub (pv 0) pe_int set_list)) (pss_cons (ps_set (i := 3) sc_law_take.nd rfl (.inl rfl) (pe_op op_mod (pe_callTy call_int1 (by rfl) T.z_int (by decide +kernel) (pa_cons (pe_op op_mul (pe_op op_add (pe_ix ix_list (pv 0) pe_int (fun _ _ => rfl)) (pe_op op_mul pe_int (pe_ix ix_list (pv 0) pe_int (fun _ _ => rfl)))) (pe_op op_add pe_int (pe_ix ix_list (pv 0) pe_int (fun _ _ => rfl)))) pa_nil)) pe_int)) (pss_cons (ps_set (i := 4) sc_law_take.nd rfl (.inl rfl) (pe_op op_add (pe_op op_mod (pe_callTy call_int1 (by rfl) T.z_int (by decide +kernel) (pa_cons (pv 3) pa_nil)) pe_int) pe_int)) (pss_cons (ps_set (i := 5) sc_law_take.nd rfl (.inl rfl) (pe_op op_mod (pe_callTy call_int1 (by rfl) T.z_int (by decide +kernel) (pa_cons (pe_op op_mul (pe_op op_add (pe_op op_add (pv 3) (pe_ix ix_list (pv 0) pe_int (fun _ _ => rfl))) (pe_op op_fdiv (pe_ix ix_list (pv 0) pe_int (fun _ _ => rfl)) pe_int)) (pv 4)) pa_nil)) pe_int)) (pss_one (ps_ret (pe_op op_mod (pe_callTy call_int1 (by rfl) T.z_int (by decide +kernel) (pa_cons (pe_op op_fdiv (pe_op op_mod (pe_callTy call_int1 (by rfl) T.z_int (by decide +kernel) (pa_cons (pe_op op_add (pe_op op_mul (pv 5) pe_int) (pv 3)) pa_nil)) pe_int) pe_int) pa_nil)) (pv 1))))))))), ?_⟩
    obtain ⟨x, y, c, h0, h1, h2, h3, h4, h5⟩ := id hB
    have hz : (0 : Int) < (size : Int) := by omega
    have qm : ∀ (z : Int) H', Kp [b] H H' → BoxAt H' b n → Q (.int (z % (size : Int))) H' := fun z H' k hb => by
      have e1 := Int.emod_nonneg z (show (size : Int) ≠ 0 by omega)
      have e2 := Int.emod_lt_of_pos z hz
      have e : z % (size : Int) = ((z % (size : Int)).toNat : Int) := by omega
      rw [e]
      exact q _ H' (by omega) k hb
    refine ⟨_, rfl, _, _, _, _, rfl, rfl, .of h0, rfl, _, _, rfl, rfl, _, rfl, dec2 (fun hx => ?_) (fun hx => ?_)⟩
    · refine ⟨_, rfl, _, _, _, _, rfl, rfl, .of h0, rfl, .inl ⟨_, rfl, _, rfl, _, _, rfl, rfl, hz, ?_⟩⟩
      refine ⟨_, rfl, _, _, _, _, rfl, rfl, .of h0, rfl, _, rfl, _, _, rfl, rfl, ⟨hz, by omega⟩, ?_⟩
      refine ⟨_, rfl, b, _, 0, 0, rfl, rfl, h0, rfl, ?_⟩
      refine ⟨_, rfl, qm _ _ (Kp.rfl'.out (List.mem_cons_self ..) hB.soft) ⟨x / size, y, c, upd_same, Int.ediv_nonneg h1 (by omega), h2, h3, h4, by omega⟩⟩
    · refine ⟨_, rfl, _, _, _, _, rfl, rfl, .of h0, rfl, _, _, rfl, rfl, ?_⟩
      refine ⟨_, rfl, b, _, 2, 2, rfl, rfl, h0, rfl, ?_⟩
      have k1 : Kp [b] H (upd H b (.lst [.int x, .int y, .int (c + 1)])) := Kp.rfl'.out (List.mem_cons_self ..) hB.soft
      have hb1 : (upd H b (.lst [.int x, .int y, .int (c + 1)])) b = some (.lst [.int x, .int y, .int (c + 1)]) := upd_same
      have hB1 : BoxAt (upd H b (.lst [.int x, .int y, .int (c + 1)])) b n := ⟨x, y, c + 1, hb1, h1, h2, h3, by omega, by omega⟩
      show tSeq _ _ _ _ (upd H b (.lst [.int x, .int y, .int (c + 1)]))
      generalize (upd H b (.lst [.int x, .int y, .int (c + 1)])) = H1 at k1 hb1 hB1
      refine ⟨_, rfl, _, _, _, _, rfl, rfl, .of hb1, rfl, _, rfl, _, _, _, _, rfl, rfl, .of hb1, rfl, _, _, rfl, rfl, .inl ⟨by decide, by decide⟩, _, _, rfl, rfl, _, rfl, _, _, _, _, rfl, rfl, .of hb1, rfl, _, _, rfl, rfl, _, _, rfl, rfl, .inr ⟨by omega, by omega⟩, .inl ⟨_, rfl, _, _, rfl, rfl, (show (0 : Int) < 2147483647 by decide), ?_⟩⟩
      refine ⟨_, rfl, .inl ⟨_, rfl, _, _, rfl, rfl, (show (0 : Int) < 40009 by decide), _, _, rfl, rfl, ?_⟩⟩
      have far_lt : ∀ z : Int, -(2 ^ 64) < z % 40009 + 7 ∧ z % 40009 + 7 < 2 ^ 64 := fun z => by omega
      refine ⟨_, rfl, _, rfl, _, _, _, _, rfl, rfl, .of hb1, rfl, _, _, rfl, rfl, _, rfl, _, _, _, _, rfl, rfl, .of hb1, rfl, _, _, rfl, rfl, ⟨by decide, by decide⟩, _, _, rfl, rfl, _, rfl, _, _, rfl, rfl, .inr (far_lt _), .inl ⟨_, rfl, _, _, rfl, rfl, (show (0 : Int) < 2147483629 by decide), ?_⟩⟩
      refine ⟨_, rfl, _, _, rfl, rfl, .inr ⟨by decide, by decide⟩, _, rfl, _, _, rfl, rfl, .inl ⟨_, rfl, _, _, rfl, rfl, (show (0 : Int) < 2147483587 by decide), _, _, rfl, rfl, ⟨by decide, by decide⟩, .inl ⟨_, rfl, _, rfl, _, _, rfl, rfl, hz, qm _ _ k1 hB1⟩⟩⟩
/-! ### the box of one number -/
def spBox (K : PySem.W.Frag) : Sp := fun vs H Q _ => ∃ (a : Addr) (ns : List Int) (k : Nat), vs = [.ref a, .int k] ∧ SqL K H a (ns.map V.int) ∧ k < 1000 ∧ ∀ b H', Kp [] H H' → BoxAt H' b 1000000000 → H b = none → Q (.ref b) H'
theorem ok_box (T : Txt K mg) : Pr P w K mg base CX0 1 "_law_box" (spBox K) := by
  obtain ⟨fd, F⟩ := T.f_law_box
  refine Pr.of T.g_law_box F.kp (F.ok sc_law_box (fun vs H Q E h => ?_) (fun cdv A outer s H vs Q E hr h => ?_)) (F.bindsN fun _ _ _ _ _ _ us hl => match us, hl with | [_, _], _ => rfl)
  · obtain ⟨_, _, _, rfl, _⟩ := h
    rfl
  · obtain ⟨a, ns, k, rfl, ha, hk, q⟩ := h
    refine ⟨_, PSs.nox (pss_cons (ps_set (i := 2) sc_law_box.nd rfl (.inl rfl) (pe_ifExp (pt_cmpR op_lt (pv 1) (pe_callB call_len_seq (by rfl) T.z_len PySem.boot_len (pa_cons (pv 0) pa_nil)) (nomark _)) (pe_ix ix_list (pv 0) (pv 1) (fun _ _ => rfl)) pe_int)) (pss_one (ps_ret (pe_lst (pa_cons (pe_op op_mul (pe_callB call_abs (by rfl) T.z_abs PyProof.Rows.boot_abs (pa_cons (pv 2) pa_nil)) (pe_callTy call_int1 (by rfl) T.z_int (by decide +kernel) (pa_cons (pe_cmpR op_ge (pe_callB call_abs (by rfl) T.z_abs PyProof.Rows.boot_abs (pa_cons (pv 2) pa_nil)) (pe_op op_pow pe_int pe_int) (nomark _)) pa_nil))) (pa_cons (pe_op op_add (pe_op op_add (pe_op op_mod (pe_callTy call_int1 (by rfl) T.z_int (by decide +kernel) (pa_cons (pv 2) pa_nil)) pe_int) (pe_op op_mul pe_int (pv 1))) pe_int) (pa_cons pe_int pa_nil))))))), ?_⟩
    have fin : ∀ (z : Int) (σ : L2.St), σ[1]? = some (some (.int k)) → σ[2]? = some (some (.int z)) →
        tRet (tLst (tCons (tOp (rI CMul fun i j => .int (i * j)) (tCB (fun xs H Q => ∃ i, xs = [.int i] ∧ Q (.int (if i < 0 then -i else i)) H) (tCons (tVar 2) tNil)) (tCB (fun xs H Q => (∃ i, xs = [.int i] ∧ Q (.int i) H) ∨ ∃ k : Bool, xs = [.bl k] ∧ Q (.int (if k then 1 else 0)) H) (tCons (tOp (rI0 fun i j => .bl (decide (j ≤ i))) (tCB (fun xs H Q => ∃ i, xs = [.int i] ∧ Q (.int (if i < 0 then -i else i)) H) (tCons (tVar 2) tNil)) (tOp (rI CPow fun i j => .int (i ^ j.toNat)) (tC (.int 10)) (tC (.int 18)))) tNil)))
          (tCons (tOp (rI0 fun i j => .int (i + j)) (tOp (rI0 fun i j => .int (i + j)) (tOp (rI (fun _ j => 0 < j) fun i j => .int (i % j)) (tCB (fun xs H Q => (∃ i, xs = [.int i] ∧ Q (.int i) H) ∨ ∃ k : Bool, xs = [.bl k] ∧ Q (.int (if k then 1 else 0)) H) (tCons (tVar 2) tNil)) (tC (.int 2305843009213693951))) (tOp (rI CMul fun i j => .int (i * j)) (tC (.int 39373)) (tVar 1))) (tC (.int 62365))) (tCons (tC (.int 0)) tNil)))) { nx := fun _ H' => Q .non H', rt := Q } σ H := by
      intro z σ e1 e2
      refine ⟨_, e2, _, rfl, _, e2, _, rfl, _, _, rfl, rfl, ⟨by decide, by decide, by decide⟩, _, _, rfl, rfl, .inr ⟨_, rfl, _, _, rfl, rfl, .inr ?_, ?_⟩⟩
      · split <;> omega
      · refine ⟨_, e2, .inl ⟨_, rfl, _, _, rfl, rfl, (show (0 : Int) < 2305843009213693951 by decide), _, e1, _, _, rfl, rfl, .inl ⟨by decide, by decide⟩, _, _, rfl, rfl, _, _, rfl, rfl, ?_⟩⟩
        refine ⟨Nat.le_of_ble_eq_true rfl, fun p hp => q p _ (Kp.r0.laid hp) ⟨_, _, 0, upd_same, ?_, ?_, ?_, by decide, by decide⟩ hp⟩
        · have h1 : (0 : Int) ≤ (if z < 0 then -z else z) := by split <;> omega
          have h2 : (0 : Int) ≤ (if decide (10 ^ (18 : Int).toNat ≤ (if z < 0 then -z else z)) = true then 1 else 0) := by split <;> omega
          exact Int.mul_nonneg h1 h2
        · have := Int.emod_nonneg z (show (2305843009213693951 : Int) ≠ 0 by decide)
          omega
        · have := Int.emod_lt_of_pos z (show (0 : Int) < 2305843009213693951 by decide)
          omega
    refine ⟨_, rfl, _, rfl, _, _, rfl, .inl ha, _, _, rfl, rfl, _, rfl, dec2 (fun h => ?_) (fun h => ?_)⟩
    · have hk2 : k < ns.length := by rw [List.length_map] at h; omega
      refine ⟨_, rfl, _, rfl, _, _, _, _, rfl, rfl, ha, atI_nat (x := .int ns[k]) (by rw [List.getElem?_map, List.getElem?_eq_getElem hk2]; rfl), ?_⟩
      exact fin _ _ rfl rfl
    · exact fin 0 _ rfl rfl
/-! ### one of some, so many of some -/
def spOf (K : PySem.W.Frag) : Sp := fun vs H Q _ => ∃ (b g : Addr) (n : Nat) (xs : List V), vs = [.ref b, .ref g] ∧ BoxAt H b (n + 1) ∧ g ≠ b ∧ SqL K H g xs ∧ 0 < xs.length ∧ xs.length < 1000 ∧ ∀ (i : Nat) x H', xs[i]? = some x → Kp [b] H H' → BoxAt H' b n → Q x H'
theorem ok_of (T : Txt K mg) (P_law_take : Pr P w K mg base CX0 1 "_law_take" spTake) : Pr P w K mg base CX0 2 "_law_of" (spOf K) := by
  obtain ⟨fd, F⟩ := T.f_law_of
  refine Pr.of T.g_law_of F.kp (F.ok sc_law_of (fun vs H Q E h => ?_) (fun cdv A outer s H vs Q E hr h => ?_)) (F.bindsN fun _ _ _ _ _ _ us hl => match us, hl with | [_, _], _ => rfl)
  · obtain ⟨_, _, _, _, rfl, _⟩ := h
    rfl
  · obtain ⟨b, g, n, xs, rfl, hB, hgb, hg, hl, hl2, q⟩ := h
    refine ⟨_, PSs.nox (pss_one (ps_ret (pe_ix ix_list (pv 1) (pe_g P_law_take (hr.mono (by decide)) pass0 (pa_cons (pv 0) (pa_cons (pe_callB call_len_seq (by rfl) T.z_len PySem.boot_len (pa_cons (pv 1) pa_nil)) pa_nil))) (fun _ _ => rfl)))), ?_⟩
    refine ⟨_, rfl, _, rfl, _, rfl, g, xs, rfl, .inl hg, b, n, xs.length, rfl, hB, hl, by omega, fun r H' hr k hB' => ?_⟩
    exact ⟨_, _, _, _, rfl, rfl, sqLk hg k (by simpa using hgb), atI_nat (List.getElem?_eq_getElem hr), q r _ H' (List.getElem?_eq_getElem hr) k hB'⟩
def spPick (K : PySem.W.Frag) : Sp := fun vs H Q _ => ∃ (b g : Addr) (n m : Nat) (xs : List V), vs = [.ref b, .ref g, .int m] ∧ BoxAt H b (n + m) ∧ g ≠ b ∧ SqL K H g xs ∧ xs.Nodup ∧ m ≤ xs.length ∧ xs.length < 1000 ∧
  ∀ a ys H', ys.length = m → ys.Nodup → (∀ y ∈ ys, y ∈ xs) → Kp [b] H H' → BoxAt H' b n → H a = none → H' a = some (.lst ys) → Q (.ref a) H'
theorem nodup_move {ys zs : List V} {k : Nat} {y : V} (h : (ys ++ zs).Nodup) (hk : zs[k]? = some y) : ((ys ++ [y]) ++ zs.eraseIdx k).Nodup := by
  obtain ⟨h1, h2⟩ := List.getElem?_eq_some_iff.mp hk
  have e : zs = zs.take k ++ y :: zs.drop (k + 1) := by
    rw [← h2, ← List.drop_eq_getElem_cons h1, List.take_append_drop]
  rw [List.eraseIdx_eq_take_drop_succ]
  rw [e] at h
  have p : List.Perm (ys ++ (zs.take k ++ y :: zs.drop (k + 1))) ((ys ++ [y]) ++ (zs.take k ++ zs.drop (k + 1))) := by
    rw [List.append_assoc]
    exact List.Perm.append_left ys List.perm_middle
  exact p.nodup_iff.mp h
theorem mem_erase {zs : List V} {k : Nat} {y : V} (h : y ∈ zs.eraseIdx k) : y ∈ zs := List.mem_of_mem_eraseIdx h
theorem ok_pick (T : Txt K mg) (P_law_take : Pr P w K mg base CX0 1 "_law_take" spTake) : Pr P w K mg base CX0 2 "_law_pick" (spPick K) := by
  obtain ⟨fd, F⟩ := T.f_law_pick
  refine Pr.of T.g_law_pick F.kp (F.ok sc_law_pick (fun vs H Q E h => ?_) (fun cdv A outer s H vs Q E hr h => ?_)) (F.bindsN fun _ _ _ _ _ _ us hl => match us, hl with | [_, _, _], _ => rfl)
  · obtain ⟨_, _, _, _, _, rfl, _⟩ := h
    rfl
  · obtain ⟨b, g, n, m, xs, rfl, hB, hgb, hg, hnd, hm, hlen, q⟩ := h
    refine ⟨_, PSs.nox (pss_cons (ps_par (i := 3) (j := 4) rfl sc_law_pick.nd rfl rfl (by decide) rfl rfl (pa_cons (pe_callTy call_list_of (by rfl) T.z_list (by decide +kernel) (pa_cons (pv 1) pa_nil)) (pa_cons (pe_lst pa_nil) pa_nil)) (by rfl)) (pss_cons (ps_for PassesOwn.never rfl (pi_range1 rfl T.z_range (pa_cons (pe_callB (call_min2 rfl) (by rfl) T.z_min boot_min (pa_cons (pe_callTy call_int1 (by rfl) T.z_int (by decide +kernel) (pa_cons (pv 2) pa_nil)) (pa_cons (pe_callB call_len_seq (by rfl) T.z_len PySem.boot_len (pa_cons (pv 3) pa_nil)) pa_nil))) pa_nil)) (pg_name (i := 5) sc_law_pick.nd rfl (Or.inl rfl)) (pss_one (ps_expr (pe_bm PySem.F.plainAttrs_list PySem.F.slot_list_append PySem.F.type_list_append mt_append (pv 4) (pa_cons (pe_bm PySem.F.plainAttrs_list PySem.F.slot_list_pop PySem.F.type_list_pop mt_popAt (pv 3) (pa_cons (pe_g P_law_take (hr.mono (by decide)) pass0 (pa_cons (pv 0) (pa_cons (pe_callB call_len_seq (by rfl) T.z_len PySem.boot_len (pa_cons (pv 3) pa_nil)) pa_nil))) pa_nil)) pa_nil))))) (pss_one (ps_ret (pv 4))))), ?_⟩
    refine ⟨_, rfl, g, xs, rfl, .inl hg, fun p hp => ⟨Nat.le_of_ble_eq_true rfl, fun f hf => ⟨_, _, rfl, ?_⟩⟩⟩
    have k1 : Kp [b] H (upd (upd H p (.lst xs)) f (.lst [])) := (Kp.rfl'.laid hp).laid hf
    have hp1 : (upd (upd H p (.lst xs)) f (.lst [])) p = some (.lst xs) := by rw [upd_ne (ne_of_none upd_same hf), upd_same]
    have hf1 : (upd (upd H p (.lst xs)) f (.lst [])) f = some (.lst []) := upd_same
    have hB1 : BoxAt (upd (upd H p (.lst xs)) f (.lst [])) b (n + m) := (hB.laid hp).laid hf
    have hpb : p ≠ b := fun z => hB.nn (z ▸ hp)
    have hfn : H f = none := (Kp.r0.laid (o := .lst xs) hp).none0 hf
    have hfb : f ≠ b := fun z => hB.nn (z ▸ hfn)
    have hpf : p ≠ f := ne_of_none (upd_same (H := H) (o := .lst xs)) hf
    generalize (upd (upd H p (.lst xs)) f (.lst [])) = H1 at k1 hp1 hf1 hB1
    refine ⟨_, rfl, .inl ⟨_, rfl, _, rfl, _, xs, rfl, .inl (.of hp1), _, _, rfl, ?_⟩⟩
    have em : (if ((xs.length : Nat) : Int) < (m : Int) then ((xs.length : Nat) : Int) else (m : Int)) = (m : Int) := by
      rw [if_neg (by omega)]
    rw [em]
    refine ⟨_, rfl, by omega, by omega, ?_⟩
    rw [Int.toNat_natCast]
    refine for_it (walk_range (lo := 0) (n := m)) (fun i σ H' => Kp [b] H H' ∧ BoxAt H' b (n + (m - i)) ∧ ∃ ys zs o5, σ = [some (.ref b), some (.ref g), some (.int m), some (.ref p), some (.ref f), o5] ∧ H' p = some (.lst zs) ∧ H' f = some (.lst ys) ∧ ys.length = i ∧ zs.length + i = xs.length ∧ (ys ++ zs).Nodup ∧ (∀ y ∈ ys ++ zs, y ∈ xs))
      ⟨k1, hB1, [], xs, none, rfl, hp1, hf1, rfl, rfl, hnd, fun y hy => hy⟩ (fun _ _ _ _ _ => trivial) ?_ ?_
    · rintro i x σ H2 H3 hi ⟨k, hB2, ys, zs, o5, rfl, hpz, hfy, hyl, hzl, hnd2, hsub⟩ ⟨rfl, rfl⟩
      refine ⟨_, rfl, .inl ⟨rfl, _, .of hfy⟩, ?_⟩
      refine ⟨_, rfl, .inl ⟨rfl, _, .of hpz⟩, ?_⟩
      refine ⟨_, rfl, _, rfl, p, zs, rfl, .inl (.of hpz), b, n + (m - (i + 1)), zs.length, rfl, by
        have e : n + (m - (i + 1)) + 1 = n + (m - i) := by omega
        rw [e]; exact hB2, by omega, by omega, fun r H4 hr k4 hB4 => ?_⟩
      have hp4 : H4 p = some (.lst zs) := k4.at1 hpz (by simpa using hpb)
      have hf4 : H4 f = some (.lst ys) := k4.at1 hfy (by simpa using hfb)
      have hzr : zs[r]? = some zs[r] := List.getElem?_eq_getElem hr
      refine ⟨p, zs, _, r, zs[r], rfl, rfl, hp4, by omega, by omega, (ixN_seq (ixN_nat hr)).1, hzr, ?_⟩
      have hf5 : (upd H4 p (.lst (zs.eraseIdx r))) f = some (.lst ys) := by rw [upd_ne hpf.symm]; exact hf4
      refine ⟨f, ys, zs[r], rfl, rfl, hf5, by unfold sizeLine; omega, ((k.trans k4).new hp).new hfn, ?_, ys ++ [zs[r]], zs.eraseIdx r, _, rfl, ?_, upd_same, by simp [hyl], ?_, nodup_move hnd2 hzr, ?_⟩
      · obtain ⟨bx, by', bc, b0, b1⟩ := hB4
        exact ⟨bx, by', bc, by rw [upd_ne hfb.symm, upd_ne hpb.symm]; exact b0, b1⟩
      · rw [upd_ne hpf, upd_same]
      · have := List.length_eraseIdx_of_lt hr
        omega
      · intro y hy
        rcases List.mem_append.mp hy with hy | hy
        · rcases List.mem_append.mp hy with hy | hy
          · exact hsub y (List.mem_append_left _ hy)
          · rw [List.mem_singleton.mp hy]
            exact hsub _ (List.mem_append_right _ (List.getElem_mem hr))
        · exact hsub y (List.mem_append_right _ (mem_erase hy))
    · rintro σ H2 ⟨k, hB2, ys, zs, o5, rfl, hpz, hfy, hyl, hzl, hnd2, hsub⟩
      refine ⟨_, rfl, q f ys H2 hyl (List.nodup_append.mp hnd2).1 (fun y hy => hsub y (List.mem_append_left _ hy)) k ?_ hfn hfy⟩
      rw [Nat.sub_self] at hB2
      exact hB2
end
end K65
set_option Elab.async false
set_option linter.all false
set_option maxRecDepth 100000
set_option maxHeartbeats 4000000
namespace K65
open PySem PySem.Spec PyProof.Rows L2 SlX He
section
variable {P : Program} {w : World} {K : PySem.W.Frag} {mg : Str → Option Value} {base : Heap}
/-! ### a drawn event -/
def spEvent (K : PySem.W.Frag) : Sp := fun vs H Q _ => ∃ (b : Addr) (n : Nat), vs = [.ref b, .int 9] ∧ BoxAt H b (n + 2) ∧ ∀ v e H', Kp [b] H H' → BoxAt H' b n → EvAt K H' v e → -9 ≤ e.2 ∧ e.2 ≤ 9 → Q v H'
theorem ok_event (T : Txt K mg) (P_law_take : Pr P w K mg base CX0 1 "_law_take" spTake) (P_law_of : Pr P w K mg base CX0 2 "_law_of" (spOf K)) : Pr P w K mg base CX0 3 "_law_event" (spEvent K) := by
  obtain ⟨fd, F⟩ := T.f_law_event
  refine Pr.of T.g_law_event F.kp (F.ok sc_law_event (fun vs H Q E h => ?_) (fun cdv A outer s H vs Q E hr h => ?_)) (F.bindsN fun _ _ _ _ _ _ us hl => match us, hl with | [_, _], _ => rfl)
  · obtain ⟨_, _, rfl, _⟩ := h
    rfl
  · obtain ⟨b, n, rfl, hB, q⟩ := h
    refine ⟨_, PSs.nox (pss_cons (ps_set (i := 2) sc_law_event.nd rfl (.inl rfl) (pe_g P_law_of (hr.mono (by decide)) pass0 (pa_cons (pv 0) (pa_cons (pe_lst (pa_cons pe_str (pa_cons pe_str (pa_cons pe_str (pa_cons pe_str pa_nil))))) pa_nil)))) (pss_one (ps_ret (pe_tup (pa_cons (pv 2) (pa_cons (pe_op op_sub (pe_g P_law_take (hr.mono (by decide)) pass0 (pa_cons (pv 0) (pa_cons (pe_op op_add (pe_op op_mul pe_int (pv 1)) pe_int) pa_nil))) (pv 1)) pa_nil)))))), ?_⟩
    refine ⟨_, rfl, Nat.le_of_ble_eq_true rfl, fun g hg => ⟨b, g, n + 1, _, rfl, hB.laid hg, fun z => hB.nn (z ▸ hg), .of upd_same, by decide, by decide, fun i x H1 hx k1 hB1 => ?_⟩⟩
    have hw : ∃ wd : Wd, x = .str (wdS wd) := by
      match i, hx with
      | 0, hx => exact ⟨.add, (Option.some.inj hx).symm⟩
      | 1, hx => exact ⟨.add, (Option.some.inj hx).symm⟩
      | 2, hx => exact ⟨.floor, (Option.some.inj hx).symm⟩
      | 3, hx => exact ⟨.cap, (Option.some.inj hx).symm⟩
    obtain ⟨wd, rfl⟩ := hw
    have k2 : Kp [b] H H1 := (Kp.rfl'.laid hg).trans k1
    refine ⟨_, rfl, _, rfl, _, rfl, _, _, rfl, rfl, .inl ⟨by decide, by decide⟩, _, _, rfl, rfl, b, n, 19, rfl, hB1, by decide, by decide, fun r H2 hr k3 hB2 => ?_⟩
    refine ⟨_, rfl, _, _, rfl, rfl, Nat.le_of_ble_eq_true rfl, fun t ht => q _ (wd, (r : Int) - 9) _ ((k2.trans k3).laid ht) (hB2.laid ht) ⟨t, rfl, .of upd_same⟩ ⟨?_, ?_⟩⟩
    · show (-9 : Int) ≤ (r : Int) - 9
      omega
    · show (r : Int) - 9 ≤ 9
      omega
/-! ### the level behind an event, behind a row -/
theorem ok_after (T : Txt K mg) : Pr P w K mg base CX0 1 "_law_after" (spBehind K) := by
  obtain ⟨fd, F⟩ := T.f_law_after
  refine Pr.of T.g_law_after F.kp (F.ok sc_law_after (fun vs H Q E h => ?_) (fun cdv A outer s H vs Q E hr h => ?_)) (F.bindsN fun _ _ _ _ _ _ us hl => match us, hl with | [_, _], _ => rfl)
  · obtain ⟨_, _, _, rfl, _⟩ := h
    rfl
  · obtain ⟨l, v, ⟨wd, n⟩, rfl, ⟨t, rfl, ht⟩, q⟩ := h
    refine ⟨_, PSs.nox (pss_cons (ps_asg (pv 1) (pg_tup rfl (pgs_cons (pg_name (i := 2) sc_law_after.nd rfl (Or.inl rfl)) (pgs_cons (pg_name (i := 3) sc_law_after.nd rfl (Or.inl rfl)) pgs_nil)))) (pss_cons (ps_if (pt_cmpR op_eq (pv 2) pe_str (nomark _)) (pss_one (ps_ret (pe_op op_add (pv 0) (pv 3)))) pss_nil) (pss_cons (ps_if (pt_cmpR op_eq (pv 2) pe_str (nomark _)) (pss_one (ps_ret (pe_ifExp (pt_cmpR op_lt (pv 0) (pv 3) (nomark _)) (pv 3) (pv 0)))) pss_nil) (pss_one (ps_ret (pe_ifExp (pt_cmpR op_gt (pv 0) (pv 3) (nomark _)) (pv 3) (pv 0))))))), ?_⟩
    refine ⟨_, rfl, t, _, rfl, ht, rfl, _, _, rfl, _, _, rfl, rfl, ?_⟩
    cases wd with
    | add => exact ⟨_, rfl, rfl, _, rfl, decT rfl ⟨_, rfl, _, rfl, _, _, rfl, rfl, q⟩⟩
    | floor =>
      refine ⟨_, rfl, rfl, _, rfl, decF nFA ⟨_, rfl, rfl, _, rfl, decT rfl ⟨_, rfl, _, rfl, _, _, rfl, rfl, _, rfl, dec2 (fun h => ?_) (fun h => ?_)⟩⟩⟩
      · refine ⟨_, rfl, ?_⟩
        have e : behind l (.floor, n) = n := by show max l n = n; omega
        rw [e] at q
        exact q
      · refine ⟨_, rfl, ?_⟩
        have e : behind l (.floor, n) = l := by show max l n = l; omega
        rw [e] at q
        exact q
    | cap =>
      refine ⟨_, rfl, rfl, _, rfl, decF nCA ⟨_, rfl, rfl, _, rfl, decF nCF ⟨_, rfl, _, rfl, _, _, rfl, rfl, _, rfl, dec2 (fun h => ?_) (fun h => ?_)⟩⟩⟩
      · refine ⟨_, rfl, ?_⟩
        have e : behind l (.cap, n) = n := by show min l n = n; omega
        rw [e] at q
        exact q
      · refine ⟨_, rfl, ?_⟩
        have e : behind l (.cap, n) = l := by show min l n = l; omega
        rw [e] at q
        exact q
def spFinal (K : PySem.W.Frag) : Sp := fun vs H Q _ => ∃ (a : Addr) (s : Int) (row : List Ev), vs = [.ref a, .int s] ∧ RowT K H a row ∧ Q (.int (endOf row s)) H
theorem ok_final (T : Txt K mg) (P_law_after : Pr P w K mg base CX0 1 "_law_after" (spBehind K)) : Pr P w K mg base CX0 2 "_law_final" (spFinal K) := by
  obtain ⟨fd, F⟩ := T.f_law_final
  refine Pr.of T.g_law_final F.kp (F.ok sc_law_final (fun vs H Q E h => ?_) (fun cdv A outer s H vs Q E hr h => ?_)) (F.bindsN fun _ _ _ _ _ _ us hl => match us, hl with | [_, _], _ => rfl)
  · obtain ⟨_, _, _, rfl, _⟩ := h
    rfl
  · obtain ⟨a, st, row, rfl, ⟨xs, hx, hv⟩, q⟩ := h
    refine ⟨_, PSs.nox (pss_cons (ps_for PassesOwn.never rfl (pi_tup (pv 0)) (pg_name (i := 2) sc_law_final.nd rfl (Or.inl rfl)) (pss_one (ps_set (i := 1) sc_law_final.nd rfl (.inl rfl) (pe_g P_law_after (hr.mono (by decide)) pass0 (pa_cons (pv 1) (pa_cons (pv 2) pa_nil)))))) (pss_one (ps_ret (pv 1)))), ?_⟩
    refine ⟨_, rfl, _, rfl, ⟨_, hx⟩, for_it (walk_tup (xs := xs)) (fun i σ H' => H' = H ∧ ∃ ov, σ = [some (.ref a), some (.int (endOf (row.take i) st)), ov]) ⟨rfl, none, rfl⟩ (fun i σ H' _ z => z.1 ▸ hx) ?_ ?_⟩
    · rintro i x σ H1 H2 hi ⟨rfl, ov, rfl⟩ ⟨rfl, hxi⟩
      obtain ⟨e, he, hev⟩ := evs_get hv hxi
      refine ⟨_, rfl, _, rfl, _, _, e, rfl, hev, rfl, some x, ?_⟩
      rw [endOf_take_succ st he]
      rfl
    · rintro σ H1 ⟨rfl, ov, rfl⟩
      refine ⟨_, rfl, ?_⟩
      rw [hv.len, List.take_length]; exact q
/-! ### a drawn row -/
def spGreat (K : PySem.W.Frag) : Sp := fun vs H Q _ => ∃ (b : Addr) (n : Nat), vs = [.ref b, .int 6] ∧ BoxAt H b (n + 20) ∧ ∀ a row H', Kp [b] H H' → BoxAt H' b n → RowT K H' a row → row ≠ [] → row.length ≤ 6 → Q (.ref a) H'
theorem ok_great (T : Txt K mg) (P_law_take : Pr P w K mg base CX0 1 "_law_take" spTake) (P_law_of : Pr P w K mg base CX0 2 "_law_of" (spOf K)) (P_law_event : Pr P w K mg base CX0 3 "_law_event" (spEvent K)) : Pr P w K mg base CX0 4 "_law_great_row" (spGreat K) := by
  obtain ⟨fd, F⟩ := T.f_law_great_row
  refine Pr.of T.g_law_great_row F.kp (F.ok sc_law_great_row (fun vs H Q E h => ?_) (fun cdv A outer s H vs Q E hr h => ?_)) (F.bindsN fun _ _ _ _ _ _ us hl => match us, hl with | [_, _], _ => rfl)
  · obtain ⟨_, _, rfl, _⟩ := h
    rfl
  · obtain ⟨b, n, rfl, hB, q⟩ := h
    refine ⟨_, PSs.nox (pss_cons (ps_set (i := 2) sc_law_great_row.nd rfl (.inl rfl) (pe_g P_law_of (hr.mono (by decide)) pass0 (pa_cons (pv 0) (pa_cons (pe_lst (pa_cons pe_int (pa_cons pe_int (pa_cons (pe_op op_pow pe_int pe_int) pa_nil)))) pa_nil)))) (pss_cons (ps_set (i := 3) sc_law_great_row.nd rfl (.inl rfl) (pe_lst pa_nil)) (pss_cons (ps_for PassesOwn.never rfl (pi_range1 rfl T.z_range (pa_cons (pe_op op_add pe_int (pe_g P_law_take (hr.mono (by decide)) pass0 (pa_cons (pv 0) (pa_cons (pv 1) pa_nil)))) pa_nil)) (pg_name (i := 4) sc_law_great_row.nd rfl (Or.inl rfl)) (pss_cons (ps_asg (pe_g P_law_event (hr.mono (by decide)) pass0 (pa_cons (pv 0) (pa_cons pe_int pa_nil))) (pg_tup rfl (pgs_cons (pg_name (i := 5) sc_law_great_row.nd rfl (Or.inl rfl)) (pgs_cons (pg_name (i := 6) sc_law_great_row.nd rfl (Or.inl rfl)) pgs_nil)))) (pss_cons (ps_set (i := 7) sc_law_great_row.nd rfl (.inl rfl) (pe_op op_sub (pe_g P_law_take (hr.mono (by decide)) pass0 (pa_cons (pv 0) (pa_cons pe_int pa_nil))) pe_int)) (pss_one (ps_expr (pe_bm PySem.F.plainAttrs_list PySem.F.slot_list_append PySem.F.type_list_append mt_append (pv 3) (pa_cons (pe_tup (pa_cons (pv 5) (pa_cons (pe_ifExp (pt_cmpR op_eq (pv 2) pe_int (nomark _)) (pv 6) (pe_op op_add (pe_op op_mul (pv 6) (pv 2)) (pv 7))) pa_nil))) pa_nil))))))) (pss_one (ps_ret (pe_callTy call_tuple_of (by rfl) T.z_tuple (by decide +kernel) (pa_cons (pv 3) pa_nil))))))), ?_⟩
    refine ⟨_, rfl, _, _, rfl, rfl, ⟨by decide, by decide, by decide⟩, Nat.le_of_ble_eq_true rfl, fun g hg => ⟨b, g, n + 19, _, rfl, hB.laid hg, fun z => hB.nn (z ▸ hg), .of upd_same, by decide, by decide, fun i x H1 hx k1 hB1 => ?_⟩⟩
    have hw : ∃ wide : Int, x = .int wide := by
      match i, hx with
      | 0, hx => exact ⟨_, (Option.some.inj hx).symm⟩
      | 1, hx => exact ⟨_, (Option.some.inj hx).symm⟩
      | 2, hx => exact ⟨_, (Option.some.inj hx).symm⟩
    obtain ⟨wide, rfl⟩ := hw
    have k2 : Kp [b] H H1 := (Kp.rfl'.laid hg).trans k1
    refine ⟨Nat.le_of_ble_eq_true rfl, fun p hp => ?_⟩
    have hpb : p ≠ b := fun z => hB1.nn (z ▸ hp)
    have hpn : H p = none := k2.none hp (by simpa using hpb)
    refine ⟨_, rfl, _, rfl, b, n + 18, 6, rfl, hB1.laid hp, by decide, by decide, fun r H2 hr k3 hB2 => ?_⟩
    have k4 : Kp [b] H H2 := (k2.laid hp).trans k3
    have hp2 : H2 p = some (.lst []) := k3.at1 upd_same (by simpa using hpb)
    refine ⟨_, _, rfl, rfl, _, rfl, by omega, by omega, ?_⟩
    have en : (1 + (r : Int)).toNat = r + 1 := by omega
    rw [en]
    refine for_it (walk_range (lo := 0) (n := r + 1)) (fun i σ H' => Kp [b] H H' ∧ BoxAt H' b (n + 3 * (6 - i)) ∧ ∃ zs row o4 o5 o6 o7, σ = [some (.ref b), some (.int 6), some (.int wide), some (.ref p), o4, o5, o6, o7] ∧ H' p = some (.lst zs) ∧ Evs K H' zs row ∧ row.length = i)
      ⟨k4, hB2, [], [], none, none, none, none, rfl, hp2, .nil, rfl⟩ (fun _ _ _ _ _ => trivial) ?_ ?_
    · rintro i x σ H3 H4 hi ⟨k, hB3, zs, row, o4, o5, o6, o7, rfl, hpz, hev, hrl⟩ ⟨rfl, rfl⟩
      refine ⟨_, rfl, b, n + 3 * (6 - (i + 1)) + 1, rfl, by
        have e : n + 3 * (6 - (i + 1)) + 1 + 2 = n + 3 * (6 - i) := by omega
        rw [e]; exact hB3, fun v e H5 k5 hB5 he hb5 => ?_⟩
      obtain ⟨wd, far⟩ := e
      obtain ⟨t, rfl, ht⟩ := he
      refine ⟨t, _, rfl, ht, rfl, _, _, rfl, _, _, rfl, rfl, ?_⟩
      refine ⟨_, rfl, b, n + 3 * (6 - (i + 1)), 7, rfl, hB5, by decide, by decide, fun r2 H6 hr2 k6 hB6 => ⟨_, _, rfl, rfl, ?_⟩⟩
      have hp6 : H6 p = some (.lst zs) := k6.at1 (k5.at1 hpz (by simpa using hpb)) (by simpa using hpb)
      refine ⟨_, rfl, .inl ⟨rfl, _, .of hp6⟩, ?_⟩
      have app : ∀ (z : Int) (t2 : Addr), H6 t2 = none → Kp [b] H (upd (upd H6 t2 (.tup [.str (wdS wd), .int z])) p (.lst (zs ++ [.ref t2]))) ∧ BoxAt (upd (upd H6 t2 (.tup [.str (wdS wd), .int z])) p (.lst (zs ++ [.ref t2]))) b (n + 3 * (6 - (i + 1))) ∧ (upd H6 t2 (.tup [.str (wdS wd), .int z])) p = some (.lst zs) ∧
          Evs K (upd (upd H6 t2 (.tup [.str (wdS wd), .int z])) p (.lst (zs ++ [.ref t2]))) (zs ++ [.ref t2]) (row ++ [(wd, z)]) := by
        intro z t2 ht2
        have kl : Kp [] H6 (upd H6 t2 (.tup [.str (wdS wd), .int z])) := Kp.r0.laid ht2
        have hpl := kl.at0 hp6
        have kk : Kp [p] (upd H6 t2 (.tup [.str (wdS wd), .int z])) (upd (upd H6 t2 (.tup [.str (wdS wd), .int z])) p (.lst (zs ++ [.ref t2]))) := Kp.rfl'.out (List.mem_cons_self ..) fun o ho => by
          rw [hpl] at ho
          cases ho
          exact fun z => z
        refine ⟨(((k.trans k5).trans k6).trans kl.all).new hpn, (hB6.kp kl).kp1 kk (by simpa using hpb.symm), hpl, ?_⟩
        exact (((((hev.kp k5).kp k6)).kp kl).kp kk).app (.cons ⟨t2, rfl, sqTk0 (SqT.of upd_same) kk⟩ .nil)
      have len : zs.length < sizeLine := by
        have := hev.len
        unfold sizeLine
        omega
      refine ⟨_, rfl, _, rfl, rfl, _, rfl, dec2 (fun h => ?_) (fun h => ?_)⟩
      · refine ⟨_, rfl, Nat.le_of_ble_eq_true rfl, fun t2 ht2 => ?_⟩
        obtain ⟨a1, a2, a3, a4⟩ := app far t2 ht2
        exact ⟨p, zs, _, rfl, rfl, a3, len, a1, a2, _, _, _, _, _, _, rfl, upd_same, a4, by simp [hrl]⟩
      · refine ⟨_, rfl, _, rfl, _, _, rfl, rfl, .inl ⟨by have := hb5.1; have : (-9 : Int) ≤ far := this; omega, by have := hb5.2; have : far ≤ (9 : Int) := this; omega⟩, _, rfl, _, _, rfl, rfl, Nat.le_of_ble_eq_true rfl, fun t2 ht2 => ?_⟩
        obtain ⟨a1, a2, a3, a4⟩ := app _ t2 ht2
        exact ⟨p, zs, _, rfl, rfl, a3, len, a1, a2, _, _, _, _, _, _, rfl, upd_same, a4, by simp [hrl]⟩
    · rintro σ H3 ⟨k, hB3, zs, row, o4, o5, o6, o7, rfl, hpz, hev, hrl⟩
      refine ⟨_, rfl, p, _, rfl, .inl ⟨.of hpz, fun l hl => q l row _ (k.laid hl) ((hB3.mono (by omega)).laid hl) ⟨zs, .of upd_same, hev.kp (Kp.r0.laid hl)⟩ ?_ (by omega)⟩⟩
      intro z
      rw [z] at hrl
      simp at hrl
end
end K65
set_option Elab.async false
set_option linter.all false
set_option maxRecDepth 100000
set_option maxHeartbeats 4000000
namespace K65
open PySem PySem.Spec PyProof.Rows L2 SlX He
section
variable {P : Program} {w : World} {K : PySem.W.Frag} {mg : Str → Option Value} {base : Heap}
/-! ### the row with an event put in -/
theorem catA {H : Hp} {a b : Addr} {xs ys : List V} {Q : VK} (h1 : SqT K H a xs) (h2 : SqT K H b ys) (hl : xs.length + ys.length ≤ sizeLine) (q : ∀ c H', Kp [] H H' → SqT K H' c (xs ++ ys) → Q (.ref c) H') : rCatA K (.ref a) (.ref b) H Q := by
  refine ⟨a, b, xs, ys, rfl, rfl, h1, h2, hl, fun e => ?_, fun _ e => ?_, fun _ _ p hp => q p _ (Kp.r0.laid hp) (.of upd_same)⟩
  · subst e
    exact q b H Kp.r0 h2
  · subst e
    exact q a H Kp.r0 (by rw [List.append_nil]; exact h1)
def spPut (K : PySem.W.Frag) : Sp := fun vs H Q _ => ∃ (a : Addr) (row : List Ev) (k : Nat) (wd : Wd) (far s : Int), vs = [.ref a, .int k, .str (wdS wd), .int far, .int s] ∧ RowT K H a row ∧ row.length < 1000 ∧ ∀ H', Kp [] H H' → Q (.int (endOf (row.take k ++ (wd, far) :: row.drop k) s)) H'
theorem ok_put (T : Txt K mg) (P_law_final : Pr P w K mg base CX0 2 "_law_final" (spFinal K)) : Pr P w K mg base CX0 3 "_law_put" (spPut K) := by
  obtain ⟨fd, F⟩ := T.f_law_put
  refine Pr.of T.g_law_put F.kp (F.ok sc_law_put (fun vs H Q E h => ?_) (fun cdv A outer s H vs Q E hr h => ?_)) (F.bindsN fun _ _ _ _ _ _ us hl => match us, hl with | [_, _, _, _, _], _ => rfl)
  · obtain ⟨_, _, _, _, _, _, rfl, _⟩ := h
    rfl
  · obtain ⟨a, row, k, wd, far, st, rfl, ⟨xs, hx, hv⟩, hlen, q⟩ := h
    refine ⟨_, PSs.nox (pss_one (ps_ret (pe_g P_law_final (hr.mono (by decide)) pass0 (pa_cons (pe_op op_catA (pe_op op_catA (pe_slice sl_tupA (pv 0) po_none (po_some (pv 1))) (pe_tup (pa_cons (pe_tup (pa_cons (pv 2) (pa_cons (pv 3) pa_nil))) pa_nil))) (pe_slice sl_tupA (pv 0) (po_some (pv 1)) po_none)) (pa_cons (pv 4) pa_nil))))), ?_⟩
    have hl := hv.len
    refine ⟨_, rfl, ?_⟩
    unfold tNoPart
    refine ⟨_, rfl, _, rfl, ?_⟩
    refine slA none (some (k : Int)) hx fun b H1 k1 hb => ?_
    rw [cut_take] at hb
    refine ⟨_, rfl, _, rfl, Nat.le_of_ble_eq_true rfl, fun t ht => ⟨Nat.le_of_ble_eq_true rfl, fun u hu => ?_⟩⟩
    have k2 : Kp [] H1 (upd (upd H1 t (.tup [.str (wdS wd), .int far])) u (.tup [.ref t])) := (Kp.r0.laid ht).laid hu
    have hu2 : SqT K (upd (upd H1 t (.tup [.str (wdS wd), .int far])) u (.tup [.ref t])) u [.ref t] := .of upd_same
    have he : EvAt K (upd (upd H1 t (.tup [.str (wdS wd), .int far])) u (.tup [.ref t])) (.ref t) (wd, far) := ⟨t, rfl, sqTk0 (SqT.of upd_same) (Kp.r0.laid hu)⟩
    generalize (upd (upd H1 t (.tup [.str (wdS wd), .int far])) u (.tup [.ref t])) = H2 at k2 hu2 he
    refine catA (sqTk0 hb k2) hu2 (by rw [List.length_take]; unfold sizeLine; simp; omega) fun c H3 k3 hc => ?_
    refine ⟨_, rfl, _, rfl, _, rfl, ?_⟩
    refine slA (some (k : Int)) none (sqTk0 hx ((k1.trans k2).trans k3)) fun d H4 k4 hd => ?_
    rw [cut_drop] at hd
    refine catA (sqTk0 hc k4) hd (by rw [List.length_append, List.length_take, List.length_drop]; unfold sizeLine; simp; omega) fun f H5 k5 hf => ?_
    have kk : Kp [] H H5 := ((k1.trans k2).trans k3).trans (k4.trans k5)
    refine ⟨_, rfl, f, st, row.take k ++ (wd, far) :: row.drop k, rfl, ⟨_, hf, ?_⟩, q H5 kk⟩
    have e : row.take k ++ (wd, far) :: row.drop k = (row.take k ++ [(wd, far)]) ++ row.drop k := by simp
    rw [e]
    exact (((hv.take k).kp kk).app (.cons (he.kp (k3.trans (k4.trans k5))) .nil)).app ((hv.drop k).kp kk)
/-! ### numbers about the edges -/
def spAbout (K : PySem.W.Frag) : Sp := fun vs H Q _ => ∃ (v : V) (sp : Option Span), vs = [v] ∧ SpanAt K H v sp ∧ ∀ (a : Addr) (ns : List Int) H', Kp [] H H' → H' a = some (.lst (ns.map V.int)) → H a = none → ns.length ≤ 11 → Q (.ref a) H'
theorem ok_about (T : Txt K mg) : Pr P w K mg base CX0 1 "_law_about" (spAbout K) := by
  obtain ⟨fd, F⟩ := T.f_law_about
  refine Pr.of T.g_law_about F.kp (F.ok sc_law_about (fun vs H Q E h => ?_) (fun cdv A outer s H vs Q E hr h => ?_)) (F.bindsN fun _ _ _ _ _ _ us hl => match us, hl with | [_], _ => rfl)
  · obtain ⟨_, _, rfl, _⟩ := h
    rfl
  · obtain ⟨v, sp, rfl, hsp, q⟩ := h
    refine ⟨_, PSs.nox (pss_cons (ps_set (i := 1) sc_law_about.nd rfl (.inl rfl) (pe_lst (pa_cons pe_int (pa_cons pe_int (pa_cons (pe_un un_neg pe_int) (pa_cons (pe_op op_pow pe_int pe_int) (pa_cons (pe_op op_sub pe_int (pe_op op_pow pe_int pe_int)) pa_nil))))))) (pss_cons (ps_if (pt_cmpR op_isN (pv 0) pe_non (nomark _)) (pss_one (ps_ret (pv 1))) pss_nil) (pss_cons (ps_for PassesOwn.never rfl (pi_tup (pv 0)) (pg_name (i := 2) sc_law_about.nd rfl (Or.inl rfl)) (pss_one (ps_if (pt_cmpR op_notN (pv 2) pe_non (nomark _)) (pss_one (ps_set (i := 1) sc_law_about.nd rfl (.inl rfl) (pe_op op_cat (pv 1) (pe_lst (pa_cons (pe_op op_sub (pv 2) pe_int) (pa_cons (pv 2) (pa_cons (pe_op op_add (pv 2) pe_int) pa_nil))))))) pss_nil))) (pss_one (ps_ret (pv 1)))))), ?_⟩
    refine ⟨_, rfl, _, _, rfl, rfl, ⟨by decide, by decide, by decide⟩, _, _, rfl, rfl, ⟨by decide, by decide, by decide⟩, _, _, rfl, rfl, Nat.le_of_ble_eq_true rfl, fun p hp => ?_⟩
    have hp1 : (upd H p (.lst [.int 0, .int 1, .int (-7), .int (10 ^ (29 : Int).toNat), .int (0 - 10 ^ (29 : Int).toNat)])) p = some (.lst (([0, 1, -7, 10 ^ (29 : Int).toNat, 0 - 10 ^ (29 : Int).toNat] : List Int).map V.int)) := upd_same
    have k1 : Kp [] H (upd H p (.lst [.int 0, .int 1, .int (-7), .int (10 ^ (29 : Int).toNat), .int (0 - 10 ^ (29 : Int).toNat)])) := Kp.r0.laid hp
    show tSeq _ _ _ _ (upd H p (.lst [.int 0, .int 1, .int (-7), .int (10 ^ (29 : Int).toNat), .int (0 - 10 ^ (29 : Int).toNat)]))
    generalize (upd H p (.lst [.int 0, .int 1, .int (-7), .int (10 ^ (29 : Int).toNat), .int (0 - 10 ^ (29 : Int).toNat)])) = H1 at k1 hp1
    have hl0 : ([0, 1, -7, 10 ^ (29 : Int).toNat, 0 - 10 ^ (29 : Int).toNat] : List Int).length = 5 := rfl
    generalize ([0, 1, -7, 10 ^ (29 : Int).toNat, 0 - 10 ^ (29 : Int).toNat] : List Int) = ns at hp1 hl0
    cases sp with
    | none =>
      cases (show v = V.non from hsp)
      exact ⟨_, rfl, rfl, _, rfl, decT rfl ⟨_, rfl, q p ns H1 k1 hp1 hp (by omega)⟩⟩
    | some sp =>
      obtain ⟨t, rfl, ht⟩ := hsp
      refine ⟨_, rfl, rfl, _, rfl, decF (fun z => nomatch z) ?_⟩
      refine ⟨_, rfl, t, rfl, ⟨_, sqTk0 ht k1⟩, for_it (walk_tup (xs := [optV sp.1, optV sp.2])) (fun i σ H' => Kp [] H H' ∧ ∃ a ms o2, σ = [some (.ref t), some (.ref a), o2] ∧ H' a = some (.lst (ms.map V.int)) ∧ H a = none ∧ ms.length ≤ 5 + 3 * i) ⟨k1, p, ns, none, rfl, hp1, hp, by omega⟩ (fun i σ H' _ z => sqTk0 ht z.1) ?_ ?_⟩
      · rintro i x σ H2 H3 hi ⟨k, a, ms, o2, rfl, ha, han, hml⟩ ⟨rfl, hxi⟩
        have hx : ∃ o : Option Int, x = optV o := by
          match i, hi, hxi with
          | 0, _, hxi => exact ⟨_, (Option.some.inj hxi).symm⟩
          | 1, _, hxi => exact ⟨_, (Option.some.inj hxi).symm⟩
        obtain ⟨o, rfl⟩ := hx
        have hi2 : i < 2 := hi
        cases o with
        | none => exact ⟨_, rfl, rfl, _, rfl, decNF rfl ⟨k, a, ms, _, rfl, ha, han, by omega⟩⟩
        | some o =>
          refine ⟨_, rfl, rfl, _, rfl, decNT (fun z => nomatch z) ?_⟩
          refine ⟨_, rfl, _, rfl, _, _, rfl, rfl, _, rfl, _, rfl, _, _, rfl, rfl, Nat.le_of_ble_eq_true rfl, fun l hl => ?_⟩
          refine ⟨a, l, _, _, rfl, rfl, (Kp.r0.laid hl).at0 ha, upd_same, by rw [List.length_map]; unfold sizeLine; simp; omega, fun c hc => ⟨(k.laid hl).laid hc, c, ms ++ [o - 1, o, o + 1], _, rfl, ?_, (k.laid hl).none0 hc, by simp; omega⟩⟩
          rw [upd_same, List.map_append]
          rfl
      · rintro σ H2 ⟨k, a, ms, o2, rfl, ha, han, hml⟩
        have : ([optV sp.1, optV sp.2] : List V).length = 2 := rfl
        exact ⟨_, rfl, q a ms H2 k ha han (by omega)⟩
def spInside (K : PySem.W.Frag) : Sp := fun vs H Q _ => ∃ (v : V) (sp : Option Span) (x : Int), vs = [v, .int x] ∧ SpanAt K H v sp ∧ Q (.bl (inB sp x)) H
theorem ok_inside (T : Txt K mg) : Pr P w K mg base CX0 1 "_law_is_inside" (spInside K) := by
  obtain ⟨fd, F⟩ := T.f_law_is_inside
  refine Pr.of T.g_law_is_inside F.kp (F.ok sc_law_is_inside (fun vs H Q E h => ?_) (fun cdv A outer s H vs Q E hr h => ?_)) (F.bindsN fun _ _ _ _ _ _ us hl => match us, hl with | [_, _], _ => rfl)
  · obtain ⟨_, _, _, rfl, _⟩ := h
    rfl
  · obtain ⟨v, sp, x, rfl, hsp, q⟩ := h
    refine ⟨_, PSs.nox (pss_cons (ps_if (pt_cmpR op_isN (pv 0) pe_non (nomark _)) (pss_one (ps_ret pe_bl)) pss_nil) (pss_one (ps_ret (pe_and (pe_or (pe_cmpR op_isN (pe_ix ix_tup (pv 0) pe_int (fun _ _ => rfl)) pe_non (nomark _)) (pe_one (pe_cmpR op_le (pe_ix ix_tup (pv 0) pe_int (fun _ _ => rfl)) (pv 1) (nomark _)))) (pe_one (pe_or (pe_cmpR op_isN (pe_ix ix_tup (pv 0) pe_int (fun _ _ => rfl)) pe_non (nomark _)) (pe_one (pe_cmpR op_le (pv 1) (pe_ix ix_tup (pv 0) pe_int (fun _ _ => rfl)) (nomark _))))))))), ?_⟩
    cases sp with
    | none =>
      cases (show v = V.non from hsp)
      exact ⟨_, rfl, rfl, _, rfl, decT rfl q⟩
    | some sp =>
      obtain ⟨l, g⟩ := sp
      obtain ⟨t, rfl, ht⟩ := hsp
      have fin : ∀ b : Bool, inB (some (l, g)) x = b → Q (.bl b) H := fun b e => e ▸ q
      cases l <;> cases g <;> (repeat' first | refine ⟨_, rfl, ?_⟩ | refine ⟨rfl, ?_⟩ | refine ⟨_, _, rfl, rfl, ?_⟩ | refine ⟨_, _, rfl, ?_⟩ | refine iteT' rfl ?_ | refine iteF' rfl ?_ | refine ⟨_, _, _, _, rfl, rfl, ht, rfl, ?_⟩ | refine dec2 (fun _ => ?_) (fun _ => ?_) | fail)
      all_goals exact fin _ (by simp [inB] <;> omega)
end
end K65
set_option Elab.async false
set_option linter.all false
set_option maxRecDepth 100000
set_option maxHeartbeats 4000000
namespace K65
open PySem PySem.Spec PyProof.Rows L2 SlX He
section
variable {P : Program} {w : World} {K : PySem.W.Frag} {mg : Str → Option Value} {base : Heap}
/-! ### the gaps are right -/
def SpIt (K : PySem.W.Frag) (H : Hp) (lv : Int) (sp : Option Span) (v : V) (wd : Wd) : Prop := ∃ t sv, v = .ref t ∧ SqT K H t [.str (wdS wd), sv] ∧ SpanAt K H sv (spanOf wd lv sp)
theorem SpIt.kp {K : PySem.W.Frag} {H H' : Hp} {ex : List Addr} {lv : Int} {sp : Option Span} {v : V} {wd : Wd} (h : SpIt K H lv sp v wd) (k : Kp ex H H') : SpIt K H' lv sp v wd := by
  obtain ⟨t, sv, e, h1, h2⟩ := h
  exact ⟨t, sv, e, sqTk0 h1 k, h2.kp k⟩
def spGap (K : PySem.W.Frag) : Sp := fun vs H Q _ => ∃ (a : Addr) (row : List Ev) (k : Nat) (s lo hi : Int), vs = [.ref a, .int k, .int s, .int lo, .int hi] ∧ RowT K H a row ∧ row.length < 300 ∧ k ≤ row.length ∧ lo ≤ hi ∧ ∀ H', Kp [] H H' → Q (.bl true) H'
theorem ok_gap (T : Txt K mg) (P_adds_between : Pr P w K mg base CX0 6 "adds_between" (spSpan K .add)) (P_floors_between : Pr P w K mg base CX0 6 "floors_between" (spSpan K .floor)) (P_caps_between : Pr P w K mg base CX0 6 "caps_between" (spSpan K .cap))
    (P_law_about : Pr P w K mg base CX0 1 "_law_about" (spAbout K)) (P_law_put : Pr P w K mg base CX0 3 "_law_put" (spPut K)) (P_law_is_inside : Pr P w K mg base CX0 1 "_law_is_inside" (spInside K)) : Pr P w K mg base CX0 7 "_law_gap_right" (spGap K) := by
  obtain ⟨fd, F⟩ := T.f_law_gap_right
  refine Pr.of T.g_law_gap_right F.kp (F.ok sc_law_gap_right (fun vs H Q E h => ?_) (fun cdv A outer s H vs Q E hr h => ?_)) (F.bindsN fun _ _ _ _ _ _ us hl => match us, hl with | [_, _, _, _, _], _ => rfl)
  · obtain ⟨_, _, _, _, _, _, rfl, _⟩ := h
    rfl
  · obtain ⟨a, row, k, st, lo, hi, rfl, hrow, hlen, hk, hlh, q⟩ := h
    refine ⟨_, PSs.nox (pss_cons (ps_set (i := 5) sc_law_gap_right.nd rfl (.inl rfl) (pe_lst (pa_cons (pe_tup (pa_cons pe_str (pa_cons (pe_g P_adds_between (hr.mono (by decide)) pass0 (pa_cons (pv 0) (pa_cons (pv 1) (pa_cons (pv 2) (pa_cons (pv 3) (pa_cons (pv 4) pa_nil)))))) pa_nil))) pa_nil))) (pss_cons (ps_expr (pe_bm PySem.F.plainAttrs_list PySem.F.slot_list_append PySem.F.type_list_append mt_append (pv 5) (pa_cons (pe_tup (pa_cons pe_str (pa_cons (pe_g P_floors_between (hr.mono (by decide)) pass0 (pa_cons (pv 0) (pa_cons (pv 1) (pa_cons (pv 2) (pa_cons (pv 3) (pa_cons (pv 4) pa_nil)))))) pa_nil))) pa_nil))) (pss_cons (ps_expr (pe_bm PySem.F.plainAttrs_list PySem.F.slot_list_append PySem.F.type_list_append mt_append (pv 5) (pa_cons (pe_tup (pa_cons pe_str (pa_cons (pe_g P_caps_between (hr.mono (by decide)) pass0 (pa_cons (pv 0) (pa_cons (pv 1) (pa_cons (pv 2) (pa_cons (pv 3) (pa_cons (pv 4) pa_nil)))))) pa_nil))) pa_nil))) (pss_cons (ps_for PassesOwn.never rfl (pi_list (pv 5)) (pg_tup rfl (pgs_cons (pg_name (i := 6) sc_law_gap_right.nd rfl (Or.inl rfl)) (pgs_cons (pg_name (i := 7) sc_law_gap_right.nd rfl (Or.inl rfl)) pgs_nil))) (pss_one (ps_for PassesOwn.never rfl (pi_list (pe_g P_law_about (hr.mono (by decide)) pass0 (pa_cons (pv 7) pa_nil))) (pg_name (i := 8) sc_law_gap_right.nd rfl (Or.inl rfl)) (pss_cons (ps_set (i := 9) sc_law_gap_right.nd rfl (.inl rfl) (pe_g P_law_put (hr.mono (by decide)) pass0 (pa_cons (pv 0) (pa_cons (pv 1) (pa_cons (pv 6) (pa_cons (pv 8) (pa_cons (pv 2) pa_nil))))))) (pss_one (ps_if (pt_cmpR op_ne (pe_chain op_le op_le (pv 3) (pv 9) (pv 4)) (pe_g P_law_is_inside (hr.mono (by decide)) pass0 (pa_cons (pv 7) (pa_cons (pv 8) pa_nil))) (nomark _)) (pss_one (ps_ret pe_bl)) pss_nil)))))) (pss_one (ps_ret pe_bl)))))), ?_⟩
    generalize hpa : partsAt row k st lo hi = pa
    obtain ⟨lv, sp⟩ := pa
    have spq : ∀ {wd : Wd} {v : V} {H' : Hp}, SpanAt K H' v (spanOf wd (partsAt row k st lo hi).1 (partsAt row k st lo hi).2) → SpanAt K H' v (spanOf wd lv sp) := fun h => by rw [hpa] at h; exact h
    -- one more item
    have more : ∀ (wd : Wd) (H1 : Hp) (v : V) (t p : Addr) (zs : List V) (wds : List Wd), Kp [] H H1 → H p = none → H1 p = some (.lst zs) → Paired (SpIt K H1 lv sp) zs wds → SpanAt K H1 v (spanOf wd lv sp) → H1 t = none →
        (upd H1 t (.tup [.str (wdS wd), v])) p = some (.lst zs) ∧ Kp [] H (upd (upd H1 t (.tup [.str (wdS wd), v])) p (.lst (zs ++ [.ref t]))) ∧ (upd (upd H1 t (.tup [.str (wdS wd), v])) p (.lst (zs ++ [.ref t]))) p = some (.lst (zs ++ [.ref t])) ∧ Paired (SpIt K (upd (upd H1 t (.tup [.str (wdS wd), v])) p (.lst (zs ++ [.ref t]))) lv sp) (zs ++ [.ref t]) (wds ++ [wd]) := by
      intro wd H1 v t p zs wds k hpn hp hz hs ht
      have kl : Kp [] H1 (upd H1 t (.tup [.str (wdS wd), v])) := Kp.r0.laid ht
      have hpl := kl.at0 hp
      have kk : Kp [p] (upd H1 t (.tup [.str (wdS wd), v])) (upd (upd H1 t (.tup [.str (wdS wd), v])) p (.lst (zs ++ [.ref t]))) := Kp.rfl'.out (List.mem_cons_self ..) fun o ho => by
        rw [hpl] at ho
        cases ho
        exact fun z => z
      exact ⟨hpl, (k.trans kl).new hpn, upd_same, paired_app (Paired.mapP hz fun _ _ z => (z.kp kl).kp kk) (.cons ⟨t, v, rfl, sqTk0 (SqT.of upd_same) kk, (hs.kp kl).kp kk⟩ .nil)⟩
    refine ⟨_, rfl, _, rfl, _, rfl, _, rfl, _, rfl, a, row, k, st, lo, hi, rfl, hrow, hk, fun v1 H1 k1 h1 => ?_⟩
    refine ⟨Nat.le_of_ble_eq_true rfl, fun t1 ht1 => ⟨Nat.le_of_ble_eq_true rfl, fun p hp => ?_⟩⟩
    have hpn : H p = none := (k1.laid (o := .tup [.str "add", v1]) ht1).none0 hp
    have kA : Kp [] H (upd (upd H1 t1 (.tup [.str "add", v1])) p (.lst [.ref t1])) := (k1.laid ht1).laid hp
    have zA : Paired (SpIt K (upd (upd H1 t1 (.tup [.str "add", v1])) p (.lst [.ref t1])) lv sp) [.ref t1] [.add] := .cons ⟨t1, v1, rfl, sqTk0 (SqT.of upd_same) (Kp.r0.laid hp), ((spq h1).kp (Kp.r0.laid ht1)).kp (Kp.r0.laid hp)⟩ .nil
    have hpA : (upd (upd H1 t1 (.tup [.str "add", v1])) p (.lst [.ref t1])) p = some (.lst [.ref t1]) := upd_same
    show tSeq _ _ _ _ (upd (upd H1 t1 (.tup [.str "add", v1])) p (.lst [.ref t1]))
    generalize (upd (upd H1 t1 (.tup [.str "add", v1])) p (.lst [.ref t1])) = HA at kA zA hpA
    refine ⟨_, rfl, .inl ⟨rfl, _, .of hpA⟩, _, rfl, _, rfl, _, rfl, _, rfl, _, rfl, a, row, k, st, lo, hi, rfl, hrow.kp kA, hk, fun v2 H2 k2 h2 => ?_⟩
    refine ⟨Nat.le_of_ble_eq_true rfl, fun t2 ht2 => ?_⟩
    obtain ⟨b1, b2, b3, b4⟩ := more .floor H2 v2 t2 p _ _ (kA.trans k2) hpn (k2.at0 hpA) (Paired.mapP zA fun _ _ z => z.kp k2) (spq h2) ht2
    refine ⟨p, _, _, rfl, rfl, b1, Nat.le_of_ble_eq_true rfl, ?_⟩
    show tSeq _ _ _ _ (upd (upd H2 t2 (.tup [.str (wdS .floor), v2])) p (.lst ([.ref t1] ++ [.ref t2])))
    generalize (upd (upd H2 t2 (.tup [.str (wdS .floor), v2])) p (.lst ([.ref t1] ++ [.ref t2]))) = HB at b2 b3 b4
    refine ⟨_, rfl, .inl ⟨rfl, _, .of b3⟩, _, rfl, _, rfl, _, rfl, _, rfl, _, rfl, a, row, k, st, lo, hi, rfl, hrow.kp b2, hk, fun v3 H3 k3 h3 => ?_⟩
    refine ⟨Nat.le_of_ble_eq_true rfl, fun t3 ht3 => ?_⟩
    obtain ⟨c1, c2, c3, c4⟩ := more .cap H3 v3 t3 p _ _ (b2.trans k3) hpn (k3.at0 b3) (Paired.mapP b4 fun _ _ z => z.kp k3) (spq h3) ht3
    refine ⟨p, _, _, rfl, rfl, c1, Nat.le_of_ble_eq_true rfl, ?_⟩
    show tSeq _ _ _ _ (upd (upd H3 t3 (.tup [.str (wdS .cap), v3])) p (.lst ([.ref t1] ++ [.ref t2] ++ [.ref t3])))
    generalize (upd (upd H3 t3 (.tup [.str (wdS .cap), v3])) p (.lst ([.ref t1] ++ [.ref t2] ++ [.ref t3]))) = HC at c2 c3 c4
    refine ⟨_, rfl, p, rfl, ⟨_, .of c3⟩, for_it (walk_list (xs := [.ref t1] ++ [.ref t2] ++ [.ref t3])) (fun i σ H' => Kp [] HC H' ∧ ∃ o6 o7 o8 o9, σ = [some (.ref a), some (.int k), some (.int st), some (.int lo), some (.int hi), some (.ref p), o6, o7, o8, o9]) ⟨Kp.r0, none, none, none, none, rfl⟩ (fun i σ H' _ z => .of (z.1.at0 c3)) ?_ ?_⟩
    · rintro i x σ H4 H5 hi' ⟨k4, o6, o7, o8, o9, rfl⟩ ⟨rfl, hxi⟩
      obtain ⟨wd, _, t, sv, rfl, ht, hsv⟩ := paired_get c4 hxi
      refine ⟨t, _, rfl, sqTk0 ht k4, rfl, _, _, rfl, _, _, rfl, rfl, ?_⟩
      have kH4 : Kp [] H H5 := c2.trans k4
      refine ⟨_, rfl, sv, _, rfl, hsv.kp k4, fun g ns H6 k6 hg hgn hgl => ?_⟩
      refine ⟨g, rfl, ⟨_, .of hg⟩, for_it (walk_list (xs := ns.map V.int)) (fun j σ H' => Kp [] H6 H' ∧ ∃ o8 o9, σ = [some (.ref a), some (.int k), some (.int st), some (.int lo), some (.int hi), some (.ref p), some (.str (wdS wd)), some sv, o8, o9]) ⟨Kp.r0, o8, o9, rfl⟩ (fun i σ H' _ z => .of (z.1.at0 hg)) ?_ ?_⟩
      · rintro j y σ H7 H8 hj ⟨k7, o8', o9', rfl⟩ ⟨rfl, hyj⟩
        obtain ⟨own, _, rfl⟩ := map_int_at hyj
        have k8 : Kp [] H H8 := kH4.trans (k6.trans k7)
        refine ⟨_, rfl, _, rfl, _, rfl, _, rfl, _, rfl, a, row, k, wd, own, st, rfl, hrow.kp k8, by omega, fun H9 k9 => ?_⟩
        have gr := gap_right row k st hlh wd own
        rw [hpa] at gr
        have hsv9 := (hsv.kp k4).kp (k6.trans (k7.trans k9))
        refine ⟨_, rfl, _, rfl, _, _, rfl, rfl, _, rfl, dec2 (fun h1 => ?_) (fun h1 => ?_)⟩
        · refine ⟨_, rfl, _, _, rfl, rfl, _, rfl, _, rfl, sv, _, own, rfl, hsv9, rfl, _, rfl, decNF ?_ ⟨k7.trans k9, _, _, rfl⟩⟩
          rw [← gr]
          exact congrArg V.bl (decide_eq_decide.mpr ⟨fun z => ⟨h1, z⟩, fun z => z.2⟩)
        · refine ⟨_, rfl, _, rfl, sv, _, own, rfl, hsv9, rfl, _, rfl, decNF ?_ ⟨k7.trans k9, _, _, rfl⟩⟩
          rw [← gr]
          exact congrArg V.bl (decide_eq_false fun z => h1 z.1).symm
      · rintro σ H7 ⟨k7, o8', o9', rfl⟩
        exact ⟨k4.trans (k6.trans k7), _, _, _, _, rfl⟩
    · rintro σ H4 ⟨k4, o6, o7, o8, o9, rfl⟩
      exact q H4 (c2.trans k4)
/-! ### a cap, a floor behind each event -/
def keptEnd (row : List Ev) (wd : Wd) (c s : Int) : Int := row.foldl (fun l e => behind (behind l e) (wd, c)) s
theorem keptEnd_cap : ∀ (row : List Ev) (c s : Int), keptEnd row .cap c s = endOf (keptUnder row c) s
  | [], _, _ => rfl
  | e :: r, c, s => keptEnd_cap r c _
theorem keptEnd_floor : ∀ (row : List Ev) (c s : Int), keptEnd row .floor c s = endOf (keptAbove row c) s
  | [], _, _ => rfl
  | e :: r, c, s => keptEnd_floor r c _
theorem keptEnd_succ {row : List Ev} {i : Nat} {e : Ev} (wd : Wd) (c s : Int) (h : row[i]? = some e) : keptEnd (row.take (i + 1)) wd c s = behind (behind (keptEnd (row.take i) wd c s) e) (wd, c) := by
  rw [List.take_add_one, h]
  unfold keptEnd
  rw [List.foldl_append]
  rfl
def spKeptEnd (K : PySem.W.Frag) : Sp := fun vs H Q _ => ∃ (a : Addr) (row : List Ev) (wd : Wd) (c s : Int), vs = [.ref a, .str (wdS wd), .int c, .int s] ∧ RowT K H a row ∧ ∀ H', Kp [] H H' → Q (.int (keptEnd row wd c s)) H'
theorem ok_kept_end (T : Txt K mg) (P_law_after : Pr P w K mg base CX0 1 "_law_after" (spBehind K)) : Pr P w K mg base CX0 2 "_law_kept_end" (spKeptEnd K) := by
  obtain ⟨fd, F⟩ := T.f_law_kept_end
  refine Pr.of T.g_law_kept_end F.kp (F.ok sc_law_kept_end (fun vs H Q E h => ?_) (fun cdv A outer s H vs Q E hr h => ?_)) (F.bindsN fun _ _ _ _ _ _ us hl => match us, hl with | [_, _, _, _], _ => rfl)
  · obtain ⟨_, _, _, _, _, rfl, _⟩ := h
    rfl
  · obtain ⟨a, row, wd, c, st, rfl, ⟨xs, hx, hv⟩, q⟩ := h
    refine ⟨_, PSs.nox (pss_cons (ps_for PassesOwn.never rfl (pi_tup (pv 0)) (pg_name (i := 4) sc_law_kept_end.nd rfl (Or.inl rfl)) (pss_one (ps_set (i := 3) sc_law_kept_end.nd rfl (.inl rfl) (pe_g P_law_after (hr.mono (by decide)) pass0 (pa_cons (pe_g P_law_after (hr.mono (by decide)) pass0 (pa_cons (pv 3) (pa_cons (pv 4) pa_nil))) (pa_cons (pe_tup (pa_cons (pv 1) (pa_cons (pv 2) pa_nil))) pa_nil)))))) (pss_one (ps_ret (pv 3)))), ?_⟩
    refine ⟨_, rfl, a, rfl, ⟨_, hx⟩, for_it (walk_tup (xs := xs)) (fun i σ H' => Kp [] H H' ∧ ∃ ov, σ = [some (.ref a), some (.str (wdS wd)), some (.int c), some (.int (keptEnd (row.take i) wd c st)), ov]) ⟨Kp.r0, none, rfl⟩ (fun i σ H' _ z => sqTk0 hx z.1) ?_ ?_⟩
    · rintro i x σ H1 H2 hi ⟨k, ov, rfl⟩ ⟨rfl, hxi⟩
      obtain ⟨e, he, hev⟩ := evs_get hv hxi
      refine ⟨_, rfl, _, rfl, _, _, e, rfl, hev.kp k, ?_⟩
      refine ⟨_, rfl, _, rfl, Nat.le_of_ble_eq_true rfl, fun t ht => ⟨_, _, (wd, c), rfl, ⟨t, rfl, .of upd_same⟩, k.laid ht, some x, ?_⟩⟩
      rw [keptEnd_succ wd c st he]
      rfl
    · rintro σ H1 ⟨k, ov, rfl⟩
      refine ⟨_, rfl, ?_⟩
      rw [hv.len, List.take_length]
      exact q H1 k
/-! ### the least cap, the greatest floor are right -/
def spBounds (K : PySem.W.Frag) : Sp := fun vs H Q _ => ∃ (a : Addr) (row : List Ev) (s goal : Int), vs = [.ref a, .int s, .int goal] ∧ RowT K H a row ∧ row ≠ [] ∧ row.length < 300 ∧ ∀ H', Kp [] H H' → Q (.bl true) H'
theorem ok_bounds (T : Txt K mg) (P_law_final : Pr P w K mg base CX0 2 "_law_final" (spFinal K)) (P_least_cap : Pr P w K mg base CX0 3 "least_cap" (spCap K)) (P_greatest_floor : Pr P w K mg base CX0 4 "greatest_floor" (spFloor K)) (P_law_kept_end : Pr P w K mg base CX0 2 "_law_kept_end" (spKeptEnd K)) : Pr P w K mg base CX0 5 "_law_bounds_right" (spBounds K) := by
  obtain ⟨fd, F⟩ := T.f_law_bounds_right
  refine Pr.of T.g_law_bounds_right F.kp (F.ok sc_law_bounds_right (fun vs H Q E h => ?_) (fun cdv A outer s H vs Q E hr h => ?_)) (F.bindsN fun _ _ _ _ _ _ us hl => match us, hl with | [_, _, _], _ => rfl)
  · obtain ⟨_, _, _, _, rfl, _⟩ := h
    rfl
  · obtain ⟨a, row, st, goal, rfl, hrow, hne, hlen, q⟩ := h
    refine ⟨_, PSs.nox (pss_cons (ps_asg (pe_tup (pa_cons (pe_g P_law_final (hr.mono (by decide)) pass0 (pa_cons (pv 0) (pa_cons (pv 1) pa_nil))) (pa_cons (pe_g P_least_cap (hr.mono (by decide)) pass0 (pa_cons (pv 0) (pa_cons (pv 1) (pa_cons (pv 2) pa_nil)))) pa_nil))) (pg_tup rfl (pgs_cons (pg_name (i := 3) sc_law_bounds_right.nd rfl (Or.inl rfl)) (pgs_cons (pg_name (i := 4) sc_law_bounds_right.nd rfl (Or.inr rfl)) pgs_nil)))) (pss_cons (ps_if (pt_cmpR op_ne (pe_cmpR op_isN (pv 4) pe_non (nomark _)) (pe_cmpR op_lt (pv 3) (pv 2) (nomark _)) (nomark _)) (pss_one (ps_ret pe_bl)) pss_nil) (pss_cons (ps_if (pt_cmpR op_notN (pv 4) pe_non (nomark _)) (pss_cons (ps_setLc (i := 5) (own := [("_law_k", 6)]) (g := gName 6) rfl sc_law_bounds_right.nd rfl rfl (sw_true rfl rfl rfl (by decide +kernel)) (pi_range1 rfl T.z_range (pa_cons pe_int pa_nil)) (blkOk_by (own := [("_law_k", 6)]) (N := ["_law_row_so", "_law_start_so", "_law_goal_so", "_law_last", "_law_far", "_law_ends_so", "_law_k"]) (sc := defScope s_law_bounds_right) (by decide +kernel)) (fun _ _ _ _ _ => (pg_name (i := 6) sc_law_bounds_right.nd rfl (Or.inl rfl))) (fun _ _ _ _ _ => pts_nil) (fun _ _ _ _ _ => (pe_g P_law_kept_end (hr.mono (by decide)) pass0 (pa_cons (pv 0) (pa_cons pe_str (pa_cons (pe_op op_sub (pv 4) (pv 6)) (pa_cons (pv 1) pa_nil))))))) (pss_one (ps_if (pt_not (pt_chain op_lt op_le (pe_ix ix_list (pv 5) pe_int (fun _ _ => rfl)) (pv 2) (pe_ix ix_list (pv 5) pe_int (fun _ _ => rfl)))) (pss_one (ps_ret pe_bl)) pss_nil))) pss_nil) (pss_cons (ps_set (i := 4) sc_law_bounds_right.nd rfl (.inr rfl) (pe_g P_greatest_floor (hr.mono (by decide)) pass0 (pa_cons (pv 0) (pa_cons (pv 1) (pa_cons (pv 2) pa_nil))))) (pss_cons (ps_if (pt_cmpR op_ne (pe_cmpR op_isN (pv 4) pe_non (nomark _)) (pe_cmpR op_gt (pv 3) (pv 2) (nomark _)) (nomark _)) (pss_one (ps_ret pe_bl)) pss_nil) (pss_cons (ps_if (pt_cmpR op_isN (pv 4) pe_non (nomark _)) (pss_one (ps_ret pe_bl)) pss_nil) (pss_cons (ps_setLc (i := 5) (own := [("_law_k", 6)]) (g := gName 6) rfl sc_law_bounds_right.nd rfl rfl (sw_true rfl rfl rfl (by decide +kernel)) (pi_range1 rfl T.z_range (pa_cons pe_int pa_nil)) (blkOk_by (own := [("_law_k", 6)]) (N := ["_law_row_so", "_law_start_so", "_law_goal_so", "_law_last", "_law_far", "_law_ends_so", "_law_k"]) (sc := defScope s_law_bounds_right) (by decide +kernel)) (fun _ _ _ _ _ => (pg_name (i := 6) sc_law_bounds_right.nd rfl (Or.inl rfl))) (fun _ _ _ _ _ => pts_nil) (fun _ _ _ _ _ => (pe_g P_law_kept_end (hr.mono (by decide)) pass0 (pa_cons (pv 0) (pa_cons pe_str (pa_cons (pe_op op_add (pv 4) (pv 6)) (pa_cons (pv 1) pa_nil))))))) (pss_one (ps_ret (pe_chain op_le op_lt (pe_ix ix_list (pv 5) pe_int (fun _ _ => rfl)) (pv 2) (pe_ix ix_list (pv 5) pe_int (fun _ _ => rfl)))))))))))), ?_⟩
    refine ⟨_, rfl, _, rfl, a, st, row, rfl, hrow, ?_⟩
    refine ⟨_, rfl, _, rfl, _, rfl, a, st, goal, row, rfl, .inl hrow, hne, by omega, fun r H1 k1 hr1 => ?_⟩
    refine ⟨Nat.le_of_ble_eq_true rfl, fun t ht => ⟨t, _, rfl, .of upd_same, rfl, _, _, rfl, _, _, rfl, rfl, ?_⟩⟩
    have kT : Kp [] H (upd H1 t (.tup [.int (endOf row st), optV r])) := k1.laid ht
    show tSeq _ _ _ _ (upd H1 t (.tup [.int (endOf row st), optV r]))
    generalize (upd H1 t (.tup [.int (endOf row st), optV r])) = HT at kT
    cases r with
    | none =>
      have hg : endOf row st < goal := hr1
      refine ⟨_, rfl, rfl, _, rfl, _, rfl, _, _, rfl, rfl, rfl, _, rfl, decNF ?_ ?_⟩
      · exact (congrArg V.bl (decide_eq_true hg)).symm
      refine ⟨_, rfl, rfl, _, rfl, decNF rfl ?_⟩
      refine ⟨_, rfl, _, rfl, _, rfl, a, st, goal, row, rfl, hrow.kp kT, hne, by omega, fun r2 H2 k2 hr2 => ?_⟩
      have kS : Kp [] H H2 := kT.trans k2
      cases r2 with
      | none =>
        have hg : goal < endOf row st := hr2
        refine ⟨_, rfl, rfl, _, rfl, _, rfl, _, _, rfl, rfl, rfl, _, rfl, decNF ?_ ?_⟩
        · exact (congrArg V.bl (decide_eq_true hg)).symm
        · exact ⟨_, rfl, rfl, _, rfl, decT rfl (q H2 kS)⟩
      | some f =>
        obtain ⟨g1, g2, g3⟩ : endOf row st ≤ goal ∧ endOf (keptAbove row f) st ≤ goal ∧ goal < endOf (keptAbove row (f + 1)) st := hr2
        refine ⟨_, rfl, rfl, _, rfl, _, rfl, _, _, rfl, rfl, rfl, _, rfl, decNF ?_ ?_⟩
        · exact (congrArg V.bl (decide_eq_false (show ¬ goal < endOf row st by omega))).symm
        · refine ⟨_, rfl, rfl, _, rfl, decF (fun z => nomatch z) ?_⟩
          refine ⟨2, rfl, by decide, by decide, ?_⟩
          refine lc_pure (walk_range (lo := 0) (n := 2)) (fun i y _ => y = .int (keptEnd row .floor (f + i) st)) (Nat.le_of_ble_eq_true rfl) tts_true (fun _ _ => trivial) (fun _ _ _ _ _ _ z => z) (gName_mono 6) ?_ ?_
          · rintro i x H3 H4 hi k3 ⟨rfl, rfl⟩
            refine ⟨rfl, fun R hR => ⟨_, rfl, _, rfl, _, rfl, _, _, rfl, rfl, _, rfl, a, row, .floor, _, st, rfl, hrow.kp (kS.trans k3), fun H5 k5 => hR _ H5 k5 ?_⟩⟩
            have : f + (0 + (i : Int)) = f + i := by omega
            rw [this]
          · intro D H3 ys k3 hD hys hyl hz
            match ys, hyl with
            | [y0, y1], _ =>
              have e0 := hz 0 y0 rfl
              have e1 := hz 1 y1 rfl
              rw [keptEnd_floor] at e0 e1
              subst e0 e1
              have g2' : endOf (keptAbove row (f + ((0 : Nat) : Int))) st ≤ goal := by
                have : f + ((0 : Nat) : Int) = f := by omega
                rw [this]
                exact g2
              have g3' : goal < endOf (keptAbove row (f + ((1 : Nat) : Int))) st := g3
              refine ⟨_, rfl, _, _, _, _, rfl, rfl, .of hys, rfl, _, rfl, _, _, rfl, rfl, _, rfl, decT g2' ⟨_, rfl, _, _, _, _, rfl, rfl, .of hys, rfl, _, _, rfl, rfl, ?_⟩⟩
              have qq : Q (.bl (decide (goal < endOf (keptAbove row (f + ((1 : Nat) : Int))) st))) H3 := by
                rw [decide_eq_true g3']
                exact q H3 (kS.trans k3)
              exact qq
    | some c =>
      obtain ⟨g1, g2, g3⟩ : goal ≤ endOf row st ∧ goal ≤ endOf (keptUnder row c) st ∧ endOf (keptUnder row (c - 1)) st < goal := hr1
      refine ⟨_, rfl, rfl, _, rfl, _, rfl, _, _, rfl, rfl, rfl, _, rfl, decNF ?_ ?_⟩
      · exact (congrArg V.bl (decide_eq_false (show ¬ endOf row st < goal by omega))).symm
      refine ⟨_, rfl, rfl, _, rfl, decNT (fun z => nomatch z) ?_⟩
      refine ⟨2, rfl, by decide, by decide, ?_⟩
      refine lc_pure (walk_range (lo := 0) (n := 2)) (fun i y _ => y = .int (keptEnd row .cap (c - i) st)) (Nat.le_of_ble_eq_true rfl) tts_true (fun _ _ => trivial) (fun _ _ _ _ _ _ z => z) (gName_mono 6) ?_ ?_
      · rintro i x H3 H4 hi k3 ⟨rfl, rfl⟩
        refine ⟨rfl, fun R hR => ⟨_, rfl, _, rfl, _, rfl, _, _, rfl, rfl, _, rfl, a, row, .cap, _, st, rfl, hrow.kp (kT.trans k3), fun H5 k5 => hR _ H5 k5 ?_⟩⟩
        have : c - (0 + (i : Int)) = c - i := by omega
        rw [this]
      intro D H3 ys k3 hD hys hyl hz
      have kU : Kp [] H H3 := kT.trans k3
      match ys, hyl with
      | [y0, y1], _ =>
      have e0 := hz 0 y0 rfl
      have e1 := hz 1 y1 rfl
      rw [keptEnd_cap] at e0 e1
      subst e0 e1
      have g2' : goal ≤ endOf (keptUnder row (c - ((0 : Nat) : Int))) st := by
        have : c - ((0 : Nat) : Int) = c := by omega
        rw [this]
        exact g2
      have g3' : endOf (keptUnder row (c - ((1 : Nat) : Int))) st < goal := g3
      refine ⟨_, rfl, _, _, _, _, rfl, rfl, .of hys, rfl, _, rfl, _, _, rfl, rfl, _, rfl, decT g3' ⟨_, rfl, _, _, _, _, rfl, rfl, .of hys, rfl, _, _, rfl, rfl, _, rfl, decNF g2' ?_⟩⟩
      refine ⟨_, rfl, _, rfl, _, rfl, a, st, goal, row, rfl, hrow.kp kU, hne, by omega, fun r2 H2 k2 hr2 => ?_⟩
      have kS : Kp [] H H2 := kU.trans k2
      cases r2 with
      | none =>
        have hg : goal < endOf row st := hr2
        refine ⟨_, rfl, rfl, _, rfl, _, rfl, _, _, rfl, rfl, rfl, _, rfl, decNF ?_ ?_⟩
        · exact (congrArg V.bl (decide_eq_true hg)).symm
        · exact ⟨_, rfl, rfl, _, rfl, decT rfl (q H2 kS)⟩
      | some f =>
        obtain ⟨g1, g2, g3⟩ : endOf row st ≤ goal ∧ endOf (keptAbove row f) st ≤ goal ∧ goal < endOf (keptAbove row (f + 1)) st := hr2
        refine ⟨_, rfl, rfl, _, rfl, _, rfl, _, _, rfl, rfl, rfl, _, rfl, decNF ?_ ?_⟩
        · exact (congrArg V.bl (decide_eq_false (show ¬ goal < endOf row st by omega))).symm
        · refine ⟨_, rfl, rfl, _, rfl, decF (fun z => nomatch z) ?_⟩
          refine ⟨2, rfl, by decide, by decide, ?_⟩
          refine lc_pure (walk_range (lo := 0) (n := 2)) (fun i y _ => y = .int (keptEnd row .floor (f + i) st)) (Nat.le_of_ble_eq_true rfl) tts_true (fun _ _ => trivial) (fun _ _ _ _ _ _ z => z) (gName_mono 6) ?_ ?_
          · rintro i x H3 H4 hi k3 ⟨rfl, rfl⟩
            refine ⟨rfl, fun R hR => ⟨_, rfl, _, rfl, _, rfl, _, _, rfl, rfl, _, rfl, a, row, .floor, _, st, rfl, hrow.kp (kS.trans k3), fun H5 k5 => hR _ H5 k5 ?_⟩⟩
            have : f + (0 + (i : Int)) = f + i := by omega
            rw [this]
          · intro D H3 ys k3 hD hys hyl hz
            match ys, hyl with
            | [y0, y1], _ =>
              have e0 := hz 0 y0 rfl
              have e1 := hz 1 y1 rfl
              rw [keptEnd_floor] at e0 e1
              subst e0 e1
              have g2' : endOf (keptAbove row (f + ((0 : Nat) : Int))) st ≤ goal := by
                have : f + ((0 : Nat) : Int) = f := by omega
                rw [this]
                exact g2
              have g3' : goal < endOf (keptAbove row (f + ((1 : Nat) : Int))) st := g3
              refine ⟨_, rfl, _, _, _, _, rfl, rfl, .of hys, rfl, _, rfl, _, _, rfl, rfl, _, rfl, decT g2' ⟨_, rfl, _, _, _, _, rfl, rfl, .of hys, rfl, _, _, rfl, rfl, ?_⟩⟩
              have qq : Q (.bl (decide (goal < endOf (keptAbove row (f + ((1 : Nat) : Int))) st))) H3 := by
                rw [decide_eq_true g3']
                exact q H3 (kS.trans k3)
              exact qq
end
end K65
set_option Elab.async false
set_option linter.all false
set_option maxRecDepth 100000
set_option maxHeartbeats 4000000
namespace K65
open PySem PySem.Spec PyProof.Rows L2 SlX He
theorem bl_true {p : Prop} [Decidable p] {Q : VK} {H : Hp} (h : p) (q : Q (.bl true) H) : Q (.bl (decide p)) H := by
  rw [decide_eq_true h]
  exact q
theorem ints_ex {m : Nat} : ∀ {ys : List V}, (∀ (i : Nat) (y : V), ys[i]? = some y → ∃ r : Nat, y = .int r ∧ r < m) → ∃ ns : List Int, ys = ns.map V.int ∧ ∀ p ∈ ns, 0 ≤ p ∧ p < m
  | [], _ => ⟨[], rfl, fun _ h => by cases h⟩
  | y :: ys, h => by
    obtain ⟨r, rfl, hr⟩ := h 0 y rfl
    obtain ⟨ns, e, hn⟩ := ints_ex (ys := ys) fun i y hy => h (i + 1) y hy
    refine ⟨(r : Int) :: ns, by rw [e]; rfl, fun p hp => ?_⟩
    rcases List.mem_cons.mp hp with rfl | hp
    · omega
    · exact hn p hp
section
variable {P : Program} {w : World} {K : PySem.W.Frag} {mg : Str → Option Value} {base : Heap}
def spNeeds : Sp := fun vs H Q _ => ∃ (b : Addr) (n : Nat), vs = [.ref b] ∧ BoxAt H b (n + 40) ∧ ∀ H', Kp [b] H H' → BoxAt H' b n → Q (.bl true) H'
theorem ok_needs (T : Txt K mg) (P_law_take : Pr P w K mg base CX0 1 "_law_take" spTake) (P_law_great_row : Pr P w K mg base CX0 4 "_law_great_row" (spGreat K)) (P_law_final : Pr P w K mg base CX0 2 "_law_final" (spFinal K))
    (P_law_gap_right : Pr P w K mg base CX0 7 "_law_gap_right" (spGap K)) (P_law_bounds_right : Pr P w K mg base CX0 5 "_law_bounds_right" (spBounds K)) (P_cheapest_amounts : Pr P w K mg base CX0 4 "cheapest_amounts" (spAmounts K)) (P_cheapest : Pr P w K mg base CX0 5 "cheapest" (spCheapest K))
    (P_with_adds : Pr P w K mg base CX0 4 "with_adds" (spAdds K)) (P_price_of : Pr P w K mg base CX0 1 "price_of" (spPrice K)) : Pr P w K mg base CX0 8 "_law_needs_right" spNeeds := by
  obtain ⟨fd, F⟩ := T.f_law_needs_right
  refine Pr.of T.g_law_needs_right F.kp (F.ok sc_law_needs_right (fun vs H Q E h => ?_) (fun cdv A outer s H vs Q E hr h => ?_)) (F.bindsN fun _ _ _ _ _ _ us hl => match us, hl with | [_], _ => rfl)
  · obtain ⟨_, _, rfl, _⟩ := h
    rfl
  · obtain ⟨b, n, rfl, hB, q⟩ := h
    refine ⟨_, PSs.nox (pss_cons (ps_asg (pe_tup (pa_cons (pe_g P_law_great_row (hr.mono (by decide)) pass0 (pa_cons (pv 0) (pa_cons pe_int pa_nil))) (pa_cons (pe_op op_sub (pe_g P_law_take (hr.mono (by decide)) pass0 (pa_cons (pv 0) (pa_cons pe_int pa_nil))) pe_int) pa_nil))) (pg_tup rfl (pgs_cons (pg_name (i := 1) sc_law_needs_right.nd rfl (Or.inr rfl)) (pgs_cons (pg_name (i := 2) sc_law_needs_right.nd rfl (Or.inr rfl)) pgs_nil)))) (pss_cons (ps_set (i := 3) sc_law_needs_right.nd rfl (.inl rfl) (pe_op op_sub (pe_op op_add (pe_g P_law_final (hr.mono (by decide)) pass0 (pa_cons (pv 1) (pa_cons (pv 2) pa_nil))) (pe_g P_law_take (hr.mono (by decide)) pass0 (pa_cons (pv 0) (pa_cons pe_int pa_nil)))) pe_int)) (pss_cons (ps_par (i := 4) (j := 5) rfl sc_law_needs_right.nd rfl rfl (by decide) rfl rfl (pa_cons (pe_g P_law_take (hr.mono (by decide)) pass0 (pa_cons (pv 0) (pa_cons (pe_op op_add (pe_callB call_len_seq (by rfl) T.z_len PySem.boot_len (pa_cons (pv 1) pa_nil)) pe_int) pa_nil))) (pa_cons (pe_g P_law_take (hr.mono (by decide)) pass0 (pa_cons (pv 0) (pa_cons pe_int pa_nil))) pa_nil)) (by rfl)) (pss_cons (ps_if (pt_not (pt_val (pe_g P_law_gap_right (hr.mono (by decide)) pass0 (pa_cons (pv 1) (pa_cons (pv 4) (pa_cons (pv 2) (pa_cons (pv 3) (pa_cons (pe_op op_add (pv 3) (pv 5)) pa_nil)))))))) (pss_one (ps_ret pe_bl)) pss_nil) (pss_cons (ps_if (pt_not (pt_val (pe_g P_law_bounds_right (hr.mono (by decide)) pass0 (pa_cons (pv 1) (pa_cons (pv 2) (pa_cons (pv 3) pa_nil)))))) (pss_one (ps_ret pe_bl)) pss_nil) (pss_cons (ps_set (i := 6) sc_law_needs_right.nd rfl (.inl rfl) (pe_callTy call_tuple_of (by rfl) T.z_tuple (by decide +kernel) (pa_cons (pe_lc (own := [("_law_turn", 11)]) (g := gName 11) rfl sc_law_needs_right.nd (pi_range1 rfl T.z_range (pa_cons (pe_op op_add (pe_callB call_len_seq (by rfl) T.z_len PySem.boot_len (pa_cons (pv 1) pa_nil)) pe_int) pa_nil)) (blkOk_by (own := [("_law_turn", 11)]) (N := ["_law_box_here", "_law_row_so", "_law_start_so", "_law_goal_so", "_law_k", "_law_far", "_law_prices_so", "_law_some", "_law_told", "_law_due", "_law_ends_so", "_law_turn", "_law_own"]) (sc := defScope s_law_needs_right) (by decide +kernel)) (fun _ _ _ _ _ => (pg_name (i := 11) sc_law_needs_right.nd rfl (Or.inl rfl))) (fun _ _ _ _ _ => pts_nil) (fun _ _ _ _ _ => (pe_g P_law_take (hr.mono (by decide)) pass0 (pa_cons (pv 0) (pa_cons pe_int pa_nil))))) pa_nil))) (pss_cons (ps_set (i := 7) sc_law_needs_right.nd rfl (.inl rfl) (pe_callTy call_tuple_of (by rfl) T.z_tuple (by decide +kernel) (pa_cons (pe_lc (own := [("_law_turn", 11)]) (g := gName 11) rfl sc_law_needs_right.nd (pi_tup (pv 6)) (blkOk_by (own := [("_law_turn", 11)]) (N := ["_law_box_here", "_law_row_so", "_law_start_so", "_law_goal_so", "_law_k", "_law_far", "_law_prices_so", "_law_some", "_law_told", "_law_due", "_law_ends_so", "_law_turn", "_law_own"]) (sc := defScope s_law_needs_right) (by decide +kernel)) (fun _ _ _ _ _ => (pg_name (i := 11) sc_law_needs_right.nd rfl (Or.inl rfl))) (fun _ _ _ _ _ => pts_nil) (fun _ _ _ _ _ => (pe_g P_law_take (hr.mono (by decide)) pass0 (pa_cons (pv 0) (pa_cons pe_int pa_nil))))) pa_nil))) (pss_cons (ps_set (i := 8) sc_law_needs_right.nd rfl (.inl rfl) (pe_g P_cheapest_amounts (hr.mono (by decide)) pass0 (pa_cons (pv 1) (pa_cons (pv 6) (pa_cons (pv 2) (pa_cons (pv 3) pa_nil)))))) (pss_cons (ps_set (i := 9) sc_law_needs_right.nd rfl (.inl rfl) (pe_g P_cheapest (hr.mono (by decide)) pass0 (pa_cons (pv 1) (pa_cons (pv 6) (pa_cons (pv 2) (pa_cons (pv 3) pa_nil)))))) (pss_cons (ps_setLc (i := 10) (own := [("_law_own", 12)]) (g := gName 12) rfl sc_law_needs_right.nd rfl rfl (sw_true rfl rfl rfl (by decide +kernel)) (pi_tup (pe_tup (pa_cons (pv 8) (pa_cons (pv 7) pa_nil)))) (blkOk_by (own := [("_law_own", 12)]) (N := ["_law_box_here", "_law_row_so", "_law_start_so", "_law_goal_so", "_law_k", "_law_far", "_law_prices_so", "_law_some", "_law_told", "_law_due", "_law_ends_so", "_law_turn", "_law_own"]) (sc := defScope s_law_needs_right) (by decide +kernel)) (fun _ _ _ _ _ => (pg_name (i := 12) sc_law_needs_right.nd rfl (Or.inl rfl))) (fun _ _ _ _ _ => pts_nil) (fun _ _ _ _ _ => (pe_g P_law_final (hr.mono (by decide)) pass0 (pa_cons (pe_g P_with_adds (hr.mono (by decide)) pass0 (pa_cons (pv 1) (pa_cons (pv 12) pa_nil))) (pa_cons (pv 2) pa_nil))))) (pss_cons (ps_if (PW.pt (pw_or (pt_cmpR op_ne (pe_g P_price_of (hr.mono (by decide)) pass0 (pa_cons (pv 8) (pa_cons (pv 6) pa_nil))) (pv 9) (nomark _)) (pw_or1 (pt_cmpR op_lt (pe_ix ix_list (pv 10) pe_int (fun _ _ => rfl)) (pv 3) (nomark _))))) (pss_one (ps_ret pe_bl)) pss_nil) (pss_one (ps_ret (pe_or (pe_cmpR op_lt (pe_ix ix_list (pv 10) pe_int (fun _ _ => rfl)) (pv 3) (nomark _)) (pe_one (pe_cmpR op_ge (pe_g P_price_of (hr.mono (by decide)) pass0 (pa_cons (pv 7) (pa_cons (pv 6) pa_nil))) (pv 9) (nomark _))))))))))))))))), ?_⟩
    refine ⟨_, rfl, b, n + 20, rfl, hB, fun a row H1 k1 hB1 hrow1 hne hl6 => ?_⟩
    refine ⟨_, rfl, b, n + 19, 19, rfl, hB1, by decide, by decide, fun r1 H2 hr1 k2 hB2 => ⟨_, _, rfl, rfl, Nat.le_of_ble_eq_true rfl, fun t ht => ⟨t, _, rfl, .of upd_same, rfl, _, _, rfl, _, _, rfl, rfl, ?_⟩⟩⟩
    have k3 : Kp [b] H (upd H2 t (.tup [.ref a, .int ((r1 : Int) - 9)])) := (k1.trans k2).laid ht
    have hrow3 : RowT K (upd H2 t (.tup [.ref a, .int ((r1 : Int) - 9)])) a row := (hrow1.kp k2).kp (Kp.r0.laid ht)
    have hB3 := hB2.laid (o := .tup [.ref a, .int ((r1 : Int) - 9)]) ht
    show tSeq _ _ _ _ (upd H2 t (.tup [.ref a, .int ((r1 : Int) - 9)]))
    generalize (upd H2 t (.tup [.ref a, .int ((r1 : Int) - 9)])) = H3 at k3 hrow3 hB3
    obtain ⟨st, hst⟩ : ∃ st, st = (r1 : Int) - 9 := ⟨_, rfl⟩
    refine ⟨_, rfl, _, rfl, a, st, row, by subst hst; rfl, hrow3, ?_⟩
    refine ⟨_, rfl, b, n + 18, 15, rfl, hB3, by decide, by decide, fun r2 H4 hr2 k4 hB4 => ⟨_, _, rfl, rfl, _, _, rfl, rfl, ?_⟩⟩
    have k5 := k3.trans k4
    have hrow5 := hrow3.kp k4
    obtain ⟨goal, hgoal⟩ : ∃ goal, goal = endOf row st + (r2 : Int) - 7 := ⟨_, rfl⟩
    obtain ⟨xs, hx, hv⟩ := id hrow5
    refine ⟨_, rfl, _, rfl, _, _, rfl, .inr hx, _, _, rfl, rfl, b, n + 17, row.length + 1, ?_, hB4, by omega, by omega, fun kk H5 hkk k6 hB5 => ?_⟩
    · rw [hv.len]
      rfl
    refine ⟨_, rfl, b, n + 16, 9, rfl, hB5, by decide, by decide, fun far H6 hfar k7 hB6 => ⟨_, _, rfl, ?_⟩⟩
    have k8 := (k5.trans k6).trans k7
    have hrow8 := (hrow5.kp k6).kp k7
    refine ⟨_, rfl, _, rfl, _, rfl, _, rfl, _, rfl, _, rfl, _, _, rfl, rfl, a, row, kk, st, goal, goal + (far : Int), by subst hgoal; subst hst; rfl, hrow8, by omega, by omega, by omega, fun H7 k9 => ⟨_, rfl, iteF ?_⟩⟩
    refine ⟨_, rfl, _, rfl, _, rfl, a, row, st, goal, by subst hgoal; subst hst; rfl, hrow8.kp k9, hne, by omega, fun H8 k10 => ⟨_, rfl, iteF ?_⟩⟩
    have k11 : Kp [b] H H8 := k8.trans (k9.trans k10).all
    have hrow11 := (hrow8.kp k9).kp k10
    have hB11 : BoxAt H8 b (n + 16) := (hB6.kp k9).kp k10
    obtain ⟨xs2, hx2, hv2⟩ := id hrow11
    have hxl2 : xs2.length = row.length := hv2.len
    -- the prices
    refine ⟨_, rfl, _, _, rfl, .inr hx2, _, _, rfl, rfl, _, rfl, by omega, by omega, ?_⟩
    have el : (((xs2.length : Nat) : Int) + 1).toNat = row.length + 1 := by
      rw [hv2.len]
      omega
    rw [el]
    refine lc_gen (walk_range (lo := 0) (n := row.length + 1)) [b] (fun i H' => BoxAt H' b (n + 8 + (8 - i))) (fun i y _ => ∃ r : Nat, y = .int r ∧ r < 9) (by unfold sizeLine; omega) tts_true (fun c hc => by rw [List.mem_singleton.mp hc]; exact hB11.nn) hB11 (fun i D H' o hD h => ?_) (fun _ _ _ _ _ => trivial) (fun _ _ _ _ _ _ _ z => z) ?_ (gName_mono 11) ?_
    · obtain ⟨z1, z2, z3, z0, zr⟩ := h
      exact ⟨z1, z2, z3, by rw [upd_ne (fun z : b = D => hB11.nn (z ▸ hD))]; exact z0, zr⟩
    · rintro i x H9 H10 hi k hI ⟨rfl, rfl⟩
      exact ⟨rfl, fun R hR => ⟨_, rfl, b, n + 8 + (8 - (i + 1)), 9, rfl, by
        have e : n + 8 + (8 - (i + 1)) + 1 = n + 8 + (8 - i) := by omega
        rw [e]; exact hI, by decide, by decide, fun r H11 hr k' hB' => hR _ H11 k' hB' ⟨r, rfl, hr⟩⟩⟩
    intro D H9 ys k12 hD hys hI hyl hz
    obtain ⟨pr, rfl, hpr⟩ := ints_ex hz
    have hprl : pr.length = row.length + 1 := by rw [← hyl, List.length_map]
    refine ⟨D, _, rfl, .inl ⟨.of hys, fun pl hpl => ?_⟩⟩
    have k13 : Kp [b] H (upd H9 pl (.tup (pr.map V.int))) := (k11.trans k12).laid hpl
    have hrow13 := (hrow11.kp k12).kp (Kp.r0.laid (o := .tup (pr.map V.int)) hpl)
    have hP : IntsT K (upd H9 pl (.tup (pr.map V.int))) pl pr := .of upd_same
    have hB13 : BoxAt (upd H9 pl (.tup (pr.map V.int))) b (n + 8) := (hI.mono (by omega)).laid hpl
    show tSeq _ _ _ _ (upd H9 pl (.tup (pr.map V.int)))
    generalize (upd H9 pl (.tup (pr.map V.int))) = H10 at k13 hrow13 hP hB13
    -- some amounts
    refine ⟨_, rfl, pl, rfl, ⟨_, hP⟩, ?_⟩
    refine lc_gen (walk_tup (xs := pr.map V.int)) [b] (fun i H' => BoxAt H' b (n + (8 - i))) (fun i y _ => ∃ r : Nat, y = .int r ∧ r < 12) (by rw [List.length_map]; unfold sizeLine; omega) tts_true (fun c hc => by rw [List.mem_singleton.mp hc]; exact hB13.nn) hB13 (fun i D H' o hD h => ?_) (fun _ _ _ k _ => sqTk0 hP k) (fun _ _ _ _ _ _ _ z => z) ?_ (gName_mono 11) ?_
    · obtain ⟨z1, z2, z3, z0, zr⟩ := h
      exact ⟨z1, z2, z3, by rw [upd_ne (fun z : b = D => hB13.nn (z ▸ hD))]; exact z0, zr⟩
    · rintro i x H11 H12 hi k hI2 ⟨rfl, hxi⟩
      rw [List.length_map] at hi
      exact ⟨rfl, fun R hR => ⟨_, rfl, b, n + (8 - (i + 1)), 12, rfl, by
        have e : n + (8 - (i + 1)) + 1 = n + (8 - i) := by omega
        rw [e]; exact hI2, by decide, by decide, fun r H13 hr k' hB' => hR _ H13 k' hB' ⟨r, rfl, hr⟩⟩⟩
    intro D2 H11 ys2 k14 hD2 hys2 hI2 hyl2 hz2
    obtain ⟨am, rfl, ham⟩ := ints_ex hz2
    have haml : am.length = row.length + 1 := by rw [List.length_map, List.length_map] at hyl2; omega
    refine ⟨D2, _, rfl, .inl ⟨.of hys2, fun sl hsl => ?_⟩⟩
    have k15 : Kp [b] H (upd H11 sl (.tup (am.map V.int))) := (k13.trans k14).laid hsl
    have hrow15 := (hrow13.kp k14).kp (Kp.r0.laid (o := .tup (am.map V.int)) hsl)
    have hP15 : IntsT K (upd H11 sl (.tup (am.map V.int))) pl pr := sqTk0 (sqTk0 hP k14) (Kp.r0.laid hsl)
    have hS15 : IntsT K (upd H11 sl (.tup (am.map V.int))) sl am := .of upd_same
    have hB15 : BoxAt (upd H11 sl (.tup (am.map V.int))) b n := (hI2.mono (by omega)).laid hsl
    show tSeq _ _ _ _ (upd H11 sl (.tup (am.map V.int)))
    generalize (upd H11 sl (.tup (am.map V.int))) = H12 at k15 hrow15 hP15 hS15 hB15
    have hpr2 : ∀ p ∈ pr, 0 ≤ p ∧ p < 1000000 := fun p hp => by have := hpr p hp; omega
    have hpr0 : ∀ p ∈ pr, 0 ≤ p := fun p hp => (hpr p hp).1
    refine ⟨_, rfl, _, rfl, _, rfl, _, rfl, a, pl, row, pr, st, goal, by subst hgoal; subst hst; rfl, hrow15, hP15, hprl, by omega, hpr2, fun tc told H13 k16 hT hC => ?_⟩
    refine ⟨_, rfl, _, rfl, _, rfl, _, rfl, a, pl, row, pr, st, goal, by subst hgoal; subst hst; rfl, hrow15.kp k16, sqTk0 hP15 k16, hprl, by omega, hpr2, fun due H14 k17 hC2 => ?_⟩
    have hpd : price told pr = price due pr := Int.le_antisymm (hC.2 _ hC2.1) (hC2.2 _ hC.1)
    obtain ⟨tl1, tl2, tl3⟩ := plan_reaches hprl hpr0 hC.1
    have k18 : Kp [] H12 H14 := k16.trans k17
    refine ⟨_, rfl, _, rfl, Nat.le_of_ble_eq_true rfl, fun u hu => ⟨u, rfl, ⟨_, .of upd_same⟩, ?_⟩⟩
    have k19 : Kp [] H12 (upd H14 u (.tup [.ref tc, .ref sl])) := k18.laid hu
    have hu2 : SqT K (upd H14 u (.tup [.ref tc, .ref sl])) u [.ref tc, .ref sl] := .of upd_same
    have hT2 : IntsT K (upd H14 u (.tup [.ref tc, .ref sl])) tc told := sqTk0 (sqTk0 hT k17) (Kp.r0.laid hu)
    generalize (upd H14 u (.tup [.ref tc, .ref sl])) = H15 at k19 hu2 hT2
    refine lc_pure (walk_tup (xs := [.ref tc, .ref sl])) (fun i y _ => y = .int (endOf (withAdds row (if i = 0 then told else am)) st)) (Nat.le_of_ble_eq_true rfl) tts_true (fun _ k => sqTk0 hu2 k) (fun _ _ _ _ _ _ z => z) (gName_mono 12) ?_ ?_
    · rintro i x H16 H17 hi k20 ⟨rfl, hxi⟩
      have k21 : Kp [] H12 H17 := k19.trans k20
      have hx : ∃ c, x = .ref c ∧ IntsT K H17 c (if i = 0 then told else am) := by
        match i, hi, hxi with
        | 0, _, hxi => exact ⟨tc, (Option.some.inj hxi).symm, sqTk0 hT2 k20⟩
        | 1, _, hxi => exact ⟨sl, (Option.some.inj hxi).symm, sqTk0 hS15 k21⟩
      obtain ⟨c, rfl, hc⟩ := hx
      have hcl : (if i = 0 then told else am).length = row.length + 1 := by split <;> omega
      exact ⟨rfl, fun R hR => ⟨_, rfl, _, rfl, a, c, row, _, rfl, hrow15.kp k21, hc, hcl, by omega, fun d H18 k22 hd => ⟨_, rfl, d, st, _, by subst hst; rfl, hd, hR _ H18 k22 rfl⟩⟩⟩
    intro D3 H16 ys3 k20 hD3 hys3 hyl3 hz3
    have k21 : Kp [] H12 H16 := k19.trans k20
    match ys3, hyl3 with
    | [y0, y1], _ =>
    have e0 : y0 = .int (endOf (withAdds row told) st) := hz3 0 y0 rfl
    have e1 : y1 = .int (endOf (withAdds row am) st) := hz3 1 y1 rfl
    subst e0 e1
    refine ⟨_, rfl, _, rfl, tc, pl, told, pr, rfl, sqTk0 hT2 k20, sqTk0 hP15 k21, by omega, by omega, hpr2, fun H17 k22 => ?_⟩
    have hys17 := k22.at0 hys3
    have fin : Q (.bl true) H17 := q H17 (k15.trans (k21.trans k22).all) (hB15.kp (k21.trans k22))
    refine ⟨_, rfl, rfl, _, rfl, decNF (congrArg V.int hpd) ?_⟩
    refine ⟨_, rfl, _, _, _, _, rfl, rfl, .of hys17, rfl, _, rfl, _, _, rfl, rfl, _, rfl, decF (by subst hgoal; subst hst; exact Int.not_lt.mpr tl3) ?_⟩
    refine ⟨_, rfl, _, _, _, _, rfl, rfl, .of hys17, rfl, _, rfl, _, _, rfl, rfl, _, rfl, dec2 (fun hlt => ?_) (fun hge => ?_)⟩
    · exact fin
    · refine ⟨_, rfl, _, rfl, sl, pl, am, pr, rfl, sqTk0 hS15 (k21.trans k22), sqTk0 hP15 (k21.trans k22), by omega, by omega, hpr2, fun H18 k23 => ⟨_, rfl, _, _, rfl, rfl, ?_⟩⟩
      have hle : price due pr ≤ price am pr := by
        rw [← hpd]
        exact plan_least hprl hpr0 hC haml (fun y hy => (ham y hy).1) (by subst hgoal; subst hst; exact Int.not_lt.mp hge)
      exact bl_true hle <| q H18 (k15.trans ((k21.trans k22).trans k23).all) (hB15.kp ((k21.trans k22).trans k23))
end
end K65
set_option Elab.async false
set_option linter.all false
set_option maxRecDepth 100000
set_option maxHeartbeats 4000000
namespace K65
open PySem PySem.Spec PyProof.Rows L2 SlX He
/-! ### errors are made -/
/-- what a new error of the class at C is told: its fields -/
def XMade (C a : Addr) (H : Hp) (fs : List (Str × V)) (Q : VK) : Prop := ∀ dx, H dx = none → dx ≠ a → Q .non (upd (upd H dx (exd dx fs)) a (exo a C (some dx)))
def spX1 (K : PySem.W.Frag) (C f : Str) : Sp := fun vs H Q _ => ∃ (a : Addr) (v : V), vs = [.ref a, v] ∧ H a = some (exo a (ga K C) none) ∧ ∀ dx H', H dx = none → dx ≠ a → (∀ b, b ≠ dx → b ≠ a → H' b = H b) → H' dx = some (exd dx [(f, v)]) → H' a = some (exo a (ga K C) (some dx)) → Q .non H'
def spX2 (K : PySem.W.Frag) (C f g : Str) : Sp := fun vs H Q _ => ∃ (a : Addr) (v u : V), vs = [.ref a, v, u] ∧ H a = some (exo a (ga K C) none) ∧ ∀ dx H', H dx = none → dx ≠ a → (∀ b, b ≠ dx → b ≠ a → H' b = H b) → H' dx = some (exd dx [(g, u), (f, v)]) → H' a = some (exo a (ga K C) (some dx)) → Q .non H'
section
variable {P : Program} {w : World} {K : PySem.W.Frag} {mg : Str → Option Value} {base : Heap}
abbrev XI1 (P : Program) (w : World) (K : PySem.W.Frag) (mg : Str → Option Value) (base : Heap) (C f : Str) : Prop := ∃ fd, FnOk P w K mg base CX0 1 (ma K (ga K C) "__init__") fd ["self", f] (spX1 K C f) ∧ Binds K fd ["self", f] []
theorem xi_NoName (T : Txt K mg) : XI1 P w K mg base "NoName" "name" := by
  obtain ⟨fd, F⟩ := T.f_NoName__init
  refine ⟨fd, F.ok sc_NoName__init (fun vs H Q E h => ?_) (fun cdv A outer s H vs Q E hr h => ?_), (F.bindsN fun _ _ _ _ _ _ us hl => match us, hl with | [_, _], _ => rfl)⟩
  · obtain ⟨_, _, rfl, _⟩ := h
    rfl
  · obtain ⟨a, v, rfl, ha, q⟩ := h
    refine ⟨_, PSs.nox (pss_one (ps_ost (pv 0) (pv 1))), ?_⟩
    refine ⟨_, rfl, _, rfl, a, _, rfl, T.ox_NoName, T.on_NoName_name, .inl ⟨ha, fun dx h1 h2 => q dx _ h1 h2 (fun b e1 e2 => by rw [upd_ne e2, upd_ne e1]) (by rw [upd_ne h2, upd_same]) upd_same⟩⟩
theorem xi_Taken (T : Txt K mg) : XI1 P w K mg base "Taken" "name" := by
  obtain ⟨fd, F⟩ := T.f_Taken__init
  refine ⟨fd, F.ok sc_Taken__init (fun vs H Q E h => ?_) (fun cdv A outer s H vs Q E hr h => ?_), (F.bindsN fun _ _ _ _ _ _ us hl => match us, hl with | [_, _], _ => rfl)⟩
  · obtain ⟨_, _, rfl, _⟩ := h
    rfl
  · obtain ⟨a, v, rfl, ha, q⟩ := h
    refine ⟨_, PSs.nox (pss_one (ps_ost (pv 0) (pv 1))), ?_⟩
    refine ⟨_, rfl, _, rfl, a, _, rfl, T.ox_Taken, T.on_Taken_name, .inl ⟨ha, fun dx h1 h2 => q dx _ h1 h2 (fun b e1 e2 => by rw [upd_ne e2, upd_ne e1]) (by rw [upd_ne h2, upd_same]) upd_same⟩⟩
theorem xi_Outside (T : Txt K mg) : XI1 P w K mg base "Outside" "number" := by
  obtain ⟨fd, F⟩ := T.f_Outside__init
  refine ⟨fd, F.ok sc_Outside__init (fun vs H Q E h => ?_) (fun cdv A outer s H vs Q E hr h => ?_), (F.bindsN fun _ _ _ _ _ _ us hl => match us, hl with | [_, _], _ => rfl)⟩
  · obtain ⟨_, _, rfl, _⟩ := h
    rfl
  · obtain ⟨a, v, rfl, ha, q⟩ := h
    refine ⟨_, PSs.nox (pss_one (ps_ost (pv 0) (pv 1))), ?_⟩
    refine ⟨_, rfl, _, rfl, a, _, rfl, T.ox_Outside, T.on_Outside_number, .inl ⟨ha, fun dx h1 h2 => q dx _ h1 h2 (fun b e1 e2 => by rw [upd_ne e2, upd_ne e1]) (by rw [upd_ne h2, upd_same]) upd_same⟩⟩
theorem xi_Needed (T : Txt K mg) : XI1 P w K mg base "Needed" "name" := by
  obtain ⟨fd, F⟩ := T.f_Needed__init
  refine ⟨fd, F.ok sc_Needed__init (fun vs H Q E h => ?_) (fun cdv A outer s H vs Q E hr h => ?_), (F.bindsN fun _ _ _ _ _ _ us hl => match us, hl with | [_, _], _ => rfl)⟩
  · obtain ⟨_, _, rfl, _⟩ := h
    rfl
  · obtain ⟨a, v, rfl, ha, q⟩ := h
    refine ⟨_, PSs.nox (pss_one (ps_ost (pv 0) (pv 1))), ?_⟩
    refine ⟨_, rfl, _, rfl, a, _, rfl, T.ox_Needed, T.on_Needed_name, .inl ⟨ha, fun dx h1 h2 => q dx _ h1 h2 (fun b e1 e2 => by rw [upd_ne e2, upd_ne e1]) (by rw [upd_ne h2, upd_same]) upd_same⟩⟩
theorem xi_Ring (T : Txt K mg) : XI1 P w K mg base "Ring" "name" := by
  obtain ⟨fd, F⟩ := T.f_Ring__init
  refine ⟨fd, F.ok sc_Ring__init (fun vs H Q E h => ?_) (fun cdv A outer s H vs Q E hr h => ?_), (F.bindsN fun _ _ _ _ _ _ us hl => match us, hl with | [_, _], _ => rfl)⟩
  · obtain ⟨_, _, rfl, _⟩ := h
    rfl
  · obtain ⟨a, v, rfl, ha, q⟩ := h
    refine ⟨_, PSs.nox (pss_one (ps_ost (pv 0) (pv 1))), ?_⟩
    refine ⟨_, rfl, _, rfl, a, _, rfl, T.ox_Ring, T.on_Ring_name, .inl ⟨ha, fun dx h1 h2 => q dx _ h1 h2 (fun b e1 e2 => by rw [upd_ne e2, upd_ne e1]) (by rw [upd_ne h2, upd_same]) upd_same⟩⟩
abbrev XI2 (P : Program) (w : World) (K : PySem.W.Frag) (mg : Str → Option Value) (base : Heap) : Prop := ∃ fd, FnOk P w K mg base CX0 1 (ma K (ga K "Crossed") "__init__") fd ["self", "low", "high"] (spX2 K "Crossed" "low" "high") ∧ Binds K fd ["self", "low", "high"] []
theorem xi_Crossed (T : Txt K mg) : XI2 P w K mg base := by
  obtain ⟨fd, F⟩ := T.f_Crossed__init
  refine ⟨fd, F.ok sc_Crossed__init (fun vs H Q E h => ?_) (fun cdv A outer s H vs Q E hr h => ?_), (F.bindsN fun _ _ _ _ _ _ us hl => match us, hl with | [_, _, _], _ => rfl)⟩
  · obtain ⟨_, _, _, rfl, _⟩ := h
    rfl
  · obtain ⟨a, v, u, rfl, ha, q⟩ := h
    refine ⟨_, PSs.nox (pss_cons (ps_ost (pv 0) (pv 1)) (pss_one (ps_ost (pv 0) (pv 2)))), ?_⟩
    refine ⟨_, rfl, _, rfl, a, _, rfl, T.ox_Crossed, T.on_Crossed_low, .inl ⟨ha, fun dx h1 h2 => ?_⟩⟩
    refine ⟨_, rfl, _, rfl, a, _, rfl, T.ox_Crossed, T.on_Crossed_high, .inr ⟨dx, _, upd_same, by rw [upd_ne h2, upd_same], Nat.le_of_ble_eq_true rfl, ?_⟩⟩
    exact q dx _ h1 h2 (fun b e1 e2 => by rw [upd_ne e1, upd_ne e2, upd_ne e1]) upd_same (by rw [upd_ne h2.symm, upd_same])
end
end K65
set_option Elab.async false
set_option linter.all false
set_option maxRecDepth 100000
set_option maxHeartbeats 4000000
namespace K65
open PySem PySem.Spec PyProof.Rows L2 SlX He
/-! ### boards in the heap -/
def optS : Option Str → V
  | none => .non
  | some s => .str s
abbrev Ac := Acc Str
abbrev RowsL := List (Str × Ac)
def RowV (K : PySem.W.Frag) (H : Hp) (v : V) (a : Ac) : Prop := ∃ t, v = .ref t ∧ SqT K H t [.int a.lv, optV a.lo, optV a.hi, optS a.heir]
theorem RowV.kp {K : PySem.W.Frag} {H H' : Hp} {ex : List Addr} {v : V} {a : Ac} (h : RowV K H v a) (k : Kp ex H H') : RowV K H' v a := by
  obtain ⟨t, e, h⟩ := h
  exact ⟨t, e, sqTk0 h k⟩
def RowsAt (K : PySem.W.Frag) (H : Hp) (kvs : List (Key × V)) (rows : RowsL) : Prop := Paired (fun (p : Key × V) (q : Str × Ac) => p.1 = .inr q.1 ∧ RowV K H p.2 q.2) kvs rows
theorem RowsAt.kp {K : PySem.W.Frag} {H H' : Hp} {ex : List Addr} {kvs : List (Key × V)} {rows : RowsL} (h : RowsAt K H kvs rows) (k : Kp ex H H') : RowsAt K H' kvs rows := Paired.mapP h fun _ _ z => ⟨z.1, z.2.kp k⟩
section
variable {K : PySem.W.Frag} {H : Hp}
theorem rows_none : ∀ {kvs : List (Key × V)} {rows : RowsL} {n : Str}, RowsAt K H kvs rows → getR rows n = none → valV kvs (.inr n) = none
  | _, _, _, .nil, _ => rfl
  | p :: kvs, (m, a) :: rows, n, .cons r t, h => by
    by_cases e : m = n
    · have h' : (if m = n then some a else getR rows n) = none := h
      rw [if_pos e] at h'
      cases h'
    · have h' : (if m = n then some a else getR rows n) = none := h
      rw [if_neg e] at h'
      rw [valV_neg (fun z => e (Sum.inr.inj (r.1.symm.trans z)))]
      exact rows_none t h'
theorem rows_some : ∀ {kvs : List (Key × V)} {rows : RowsL} {n : Str} {a : Ac}, RowsAt K H kvs rows → getR rows n = some a → ∃ v, valV kvs (.inr n) = some v ∧ RowV K H v a
  | _, _, _, _, .nil, h => by cases h
  | p :: kvs, (m, b) :: rows, n, a, .cons r t, h => by
    by_cases e : m = n
    · have h' : (if m = n then some b else getR rows n) = some a := h
      rw [if_pos e] at h'
      cases Option.some.inj h'
      exact ⟨p.2, valV_pos (r.1.trans (congrArg Sum.inr e)), r.2⟩
    · have h' : (if m = n then some b else getR rows n) = some a := h
      rw [if_neg e] at h'
      obtain ⟨v, h1, h2⟩ := rows_some t h'
      exact ⟨v, by rw [valV_neg (fun z => e (Sum.inr.inj (r.1.symm.trans z)))]; exact h1, h2⟩
theorem rows_keys : ∀ {kvs : List (Key × V)} {rows : RowsL}, RowsAt K H kvs rows → kvs.map (·.1) = rows.map fun q => (.inr q.1 : Key)
  | _, _, .nil => rfl
  | _, _, .cons r t => by rw [List.map_cons, List.map_cons, rows_keys t, r.1]
theorem rows_kV {kvs : List (Key × V)} {rows : RowsL} (h : RowsAt K H kvs rows) : (kvs.map fun kv => kV kv.1) = (rows.map (·.1)).map V.str := by
  have e : (kvs.map fun kv => kV kv.1) = (kvs.map (·.1)).map kV := by rw [List.map_map]; rfl
  rw [e, rows_keys h, List.map_map, List.map_map]
  rfl
theorem rows_nd {kvs : List (Key × V)} {rows : RowsL} (h : RowsAt K H kvs rows) (nd : (rows.map (·.1)).Nodup) : (kvs.map (·.1)).Nodup := by
  rw [rows_keys h]
  have e : (rows.map fun q => (.inr q.1 : Key)) = (rows.map (·.1)).map fun s => (.inr s : Key) := by rw [List.map_map]; rfl
  rw [e]
  exact List.Pairwise.map (S := (· ≠ ·)) (fun s : Str => (.inr s : Key)) (fun a b z e => z (Sum.inr.inj e)) nd
theorem rows_app : ∀ {kvs ks : List (Key × V)} {rows rs : RowsL}, RowsAt K H kvs rows → RowsAt K H ks rs → RowsAt K H (kvs ++ ks) (rows ++ rs)
  | _, _, _, _, .nil, s => s
  | _, _, _, _, .cons r t, s => .cons r (rows_app t s)
theorem put_new {rows : RowsL} {n : Str} {a : Ac} (h : n ∉ rows.map (·.1)) : putR rows n a = rows ++ [(n, a)] := by
  induction rows with
  | nil => rfl
  | cons q r ih =>
    obtain ⟨m, b⟩ := q
    have h1 : ¬ m = n := fun z => h (by rw [z]; exact List.mem_cons_self ..)
    show (if m = n then (m, a) :: r else (m, b) :: putR r n a) = _
    rw [if_neg h1, ih fun z => h (List.mem_cons_of_mem _ z)]
    rfl
theorem map_same {kvs : List (Key × V)} {k : Key} {v : V} (h : k ∉ kvs.map (·.1)) : (kvs.map fun kv => if kv.1 = k then (kv.1, v) else kv) = kvs := by
  induction kvs with
  | nil => rfl
  | cons p r ih =>
    rw [List.map_cons, if_neg (fun z => h (by rw [← z]; exact List.mem_cons_self ..)), ih fun z => h (List.mem_cons_of_mem _ z)]
theorem rows_mapput {n : Str} {a : Ac} {v : V} (hv : RowV K H v a) : ∀ {kvs : List (Key × V)} {rows : RowsL}, RowsAt K H kvs rows → (rows.map (·.1)).Nodup → n ∈ rows.map (·.1) → RowsAt K H (kvs.map fun kv => if kv.1 = (.inr n : Key) then (kv.1, v) else kv) (putR rows n a)
  | _, _, .nil, _, h => by cases h
  | p :: kvs, (m, b) :: rows, .cons r t, nd, h => by
    have nd' := List.nodup_cons.mp nd
    by_cases e : m = n
    · have hk : (.inr n : Key) ∉ kvs.map (·.1) := fun z => by
        rw [rows_keys t] at z
        obtain ⟨q, hq, e2⟩ := List.mem_map.mp z
        exact nd'.1 (List.mem_map.mpr ⟨q, hq, (Sum.inr.inj e2).trans e.symm⟩)
      have e1 : p.1 = (.inr n : Key) := r.1.trans (congrArg Sum.inr e)
      show RowsAt K H _ (if m = n then (m, a) :: rows else (m, b) :: putR rows n a)
      rw [List.map_cons, if_pos e1, if_pos e, map_same hk]
      exact .cons ⟨r.1, hv⟩ t
    · have e1 : ¬ p.1 = (.inr n : Key) := fun z => e (Sum.inr.inj (r.1.symm.trans z))
      show RowsAt K H _ (if m = n then (m, a) :: rows else (m, b) :: putR rows n a)
      rw [List.map_cons, if_neg e1, if_neg e]
      rcases List.mem_cons.mp h with h | h
      · exact absurd h.symm e
      · exact .cons r (rows_mapput hv t nd'.2 h)
theorem rows_put {kvs : List (Key × V)} {rows : RowsL} {n : Str} {a : Ac} {v : V} (h : RowsAt K H kvs rows) (nd : (rows.map (·.1)).Nodup) (hv : RowV K H v a) : RowsAt K H (putK kvs (.inr n) v) (putR rows n a) := by
  have hk := rows_keys h
  by_cases hm : n ∈ rows.map (·.1)
  · have ha : (kvs.any fun kv => decide (kv.1 = (.inr n : Key))) = true := by
      obtain ⟨q, hq, e⟩ := List.mem_map.mp hm
      have : (.inr n : Key) ∈ kvs.map (·.1) := by
        rw [hk]
        exact List.mem_map.mpr ⟨q, hq, by rw [e]⟩
      obtain ⟨p, hp, e2⟩ := List.mem_map.mp this
      exact List.any_eq_true.mpr ⟨p, hp, decide_eq_true e2⟩
    unfold putK
    rw [if_pos ha]
    exact rows_mapput hv h nd hm
  · have ha : ¬ (kvs.any fun kv => decide (kv.1 = (.inr n : Key))) = true := fun z => by
      obtain ⟨p, hp, e⟩ := List.any_eq_true.mp z
      have h1 : p.1 ∈ kvs.map (·.1) := List.mem_map_of_mem hp
      rw [hk, of_decide_eq_true e] at h1
      obtain ⟨q, hq, e2⟩ := List.mem_map.mp h1
      exact hm (List.mem_map.mpr ⟨q, hq, Sum.inr.inj e2⟩)
    unfold putK
    rw [if_neg ha, put_new hm]
    exact rows_app h (.cons ⟨rfl, hv⟩ .nil)
end
/-- the board at p: its dict of slots dx, its past l, its accounts d -/
structure BX (K : PySem.W.Frag) (H : Hp) (p dx l d : Addr) (kvs : List (Key × V)) (xs : List V) : Prop where
  hp : H p = some (SlO p (ga K "Board") dx [some (.ref l), some (.ref d)])
  hx : H dx = some (.xd [])
  hd : H d = some (.dK kvs)
  hl : H l = some (.lst xs)
section
variable {K : PySem.W.Frag} {H H' : Hp} {p dx l d : Addr} {kvs : List (Key × V)} {xs : List V}
theorem BX.slt (b : BX K H p dx l d kvs xs) : Slt H p (ga K "Board") dx [some (.ref l), some (.ref d)] := .inr ⟨b.hp, b.hx⟩
theorem BX.kp (b : BX K H p dx l d kvs xs) {ex : List Addr} (k : Kp ex H H') (h1 : p ∉ ex) (h2 : dx ∉ ex) (h3 : l ∉ ex) (h4 : d ∉ ex) : BX K H' p dx l d kvs xs := ⟨k.at1 b.hp h1, k.at1 b.hx h2, k.at1 b.hd h4, k.at1 b.hl h3⟩
theorem BX.kp0 (b : BX K H p dx l d kvs xs) (k : Kp [] H H') : BX K H' p dx l d kvs xs := b.kp k (fun z => nomatch z) (fun z => nomatch z) (fun z => nomatch z) (fun z => nomatch z)
theorem slO_dK {a C dx : Addr} {vs : List (Option V)} {kvs : List (Key × V)} : SlO a C dx vs ≠ .dK kvs := fun z => by
  have z' : HO.ext _ = HO.dK kvs := z
  cases z'
theorem slO_lst {a C dx : Addr} {vs : List (Option V)} {xs : List V} : SlO a C dx vs ≠ .lst xs := fun z => by
  have z' : HO.ext _ = HO.lst xs := z
  cases z'
theorem BX.pd (b : BX K H p dx l d kvs xs) : p ≠ d := ne_of b.hp b.hd slO_dK
theorem BX.pl (b : BX K H p dx l d kvs xs) : p ≠ l := ne_of b.hp b.hl slO_lst
theorem BX.px (b : BX K H p dx l d kvs xs) : p ≠ dx := ne_of b.hp b.hx slO_not
theorem BX.xl (b : BX K H p dx l d kvs xs) : dx ≠ l := ne_of b.hx b.hl (fun z => nomatch z)
theorem BX.xd (b : BX K H p dx l d kvs xs) : dx ≠ d := ne_of b.hx b.hd (fun z => nomatch z)
theorem BX.ld (b : BX K H p dx l d kvs xs) : l ≠ d := ne_of b.hl b.hd (fun z => nomatch z)
theorem BX.softp (b : BX K H p dx l d kvs xs) : ∀ o, H p = some o → ¬ TupO o := fun o h => by
  rw [b.hp] at h
  cases h
  exact fun z => z
theorem BX.softl (b : BX K H p dx l d kvs xs) : ∀ o, H l = some o → ¬ TupO o := fun o h => by
  rw [b.hl] at h
  cases h
  exact fun z => z
end
/-- the board at p has these accounts -/
def Bd (K : PySem.W.Frag) (H : Hp) (p : Addr) (rows : RowsL) : Prop := ∃ dx l d kvs xs, BX K H p dx l d kvs xs ∧ RowsAt K H kvs rows ∧ WF rows ∧ rows.length < 50
theorem Bd.kp {K : PySem.W.Frag} {H H' : Hp} {p : Addr} {rows : RowsL} (h : Bd K H p rows) (k : Kp [] H H') : Bd K H' p rows := by
  obtain ⟨dx, l, d, kvs, xs, b, r, w, n⟩ := h
  exact ⟨dx, l, d, kvs, xs, b.kp0 k, r.kp k, w, n⟩
/-! ### what errors tell -/
def XKind (C : Str) (fs : List (Str × V)) : Prop :=
  (C = "NoName" ∧ ∃ v : V, fs = [(("name" : Str), v)]) ∨ (C = "Taken" ∧ ∃ v : V, fs = [(("name" : Str), v)]) ∨ (C = "Needed" ∧ ∃ v : V, fs = [(("name" : Str), v)]) ∨ (C = "Ring" ∧ ∃ v : V, fs = [(("name" : Str), v)]) ∨ (C = "Outside" ∧ ∃ v : V, fs = [(("number" : Str), v)]) ∨ (C = "Crossed" ∧ ∃ v u : V, fs = [(("high" : Str), u), (("low" : Str), v)])
def XOut (K : PySem.W.Frag) (H : Hp) (E : XK) : Prop := ∀ (C : Str) (fs : List (Str × V)) (dd : Addr) H', XKind C fs → Kp [] H H' → H dd = none → H' dd = some (.xd fs) → E (.ref (ga K C)) (some dd) H'
theorem XOut.kp {K : PySem.W.Frag} {H H' : Hp} {E : XK} (h : XOut K H E) (k : Kp [] H H') : XOut K H' E := fun C fs dd H2 hk k2 hn hd => h C fs dd H2 hk (k.trans k2) (k.none0 hn) hd
end K65
set_option Elab.async false
set_option linter.all false
set_option maxRecDepth 100000
set_option maxHeartbeats 4000000
namespace K65
open PySem PySem.Spec PyProof.Rows L2 SlX He
theorem inV_str (n : Str) : ∀ ns : List Str, inV (.str n) (ns.map V.str) = decide (n ∈ ns)
  | [] => by simp [inV]
  | m :: ns => by
    have ih := inV_str n ns
    unfold inV at ih ⊢
    rw [List.map_cons, List.any_cons, ih]
    have e : eqV (.str m) (.str n) = decide (n = m) := by
      show decide _ = _
      by_cases h : n = m
      · subst h; simp
      · have h2 : ¬ m = n := fun z => h z.symm
        simp [h, h2]
    rw [e]
    simp
theorem flat_strs (ns : List Str) : (ns.map V.str).all flatV = true := by
  rw [List.all_eq_true]
  intro x hx
  obtain ⟨s, _, rfl⟩ := List.mem_map.mp hx
  rfl
theorem mem_rows {rows : RowsL} {n : Str} : decide (n ∈ rows.map (·.1)) = (getR rows n).isSome := by
  cases h : (getR rows n).isSome with
  | true => exact decide_eq_true (getR_some.mp h)
  | false => exact decide_eq_false fun z => by rw [getR_some.mpr z] at h; cases h
section
variable {P : Program} {w : World} {K : PySem.W.Frag} {mg : Str → Option Value} {base : Heap}
abbrev mB (K : PySem.W.Frag) (m : Str) : Addr := ma K (ga K "Board") m
def spHas (K : PySem.W.Frag) : Sp := fun vs H Q _ => ∃ (p : Addr) (n : Str) (rows : RowsL), vs = [.ref p, .str n] ∧ Bd K H p rows ∧ ∀ H', Kp [] H H' → Q (.bl (getR rows n).isSome) H'
theorem ok_has (T : Txt K mg) : FnR P w K mg base CX0 1 (mB K "__contains__") (spHas K) := by
  obtain ⟨fd, F⟩ := T.f_Board__contains
  refine ((F.ok sc_Board__contains (fun vs H Q E h => ?_) (fun cdv A outer s H vs Q E hr h => ?_)).raw (F.bindsN fun _ _ _ _ _ _ us hl => match us, hl with | [_, _], _ => rfl) .nil).imp fun vs H Q E h => by rw [List.append_nil]; exact h
  · obtain ⟨_, _, _, rfl, _⟩ := h
    rfl
  · obtain ⟨p, n, rows, rfl, ⟨dx, l, d, kvs, xs, b, hrows, W, hlen⟩, q⟩ := h
    refine ⟨_, PSs.nox (pss_one (ps_ret (pe_cmpR op_in_seq (pv 1) (pe_callTy (call_listD rfl) (by rfl) T.z_list (by decide +kernel) (pa_cons (pe_sl (pv 0)) pa_nil)) rfl))), ?_⟩
    refine ⟨_, rfl, _, rfl, _, _, _, _, _, _, _, rfl, b.slt, T.cl_Board, T.sl_own_rows, rfl, d, kvs, rfl, .of b.hd, fun a ha => ?_⟩
    rw [rows_kV hrows]
    refine ⟨a, _, rfl, .inl (.of upd_same), rfl, flat_strs _, ?_⟩
    rw [inV_str, mem_rows]
    exact q _ (Kp.r0.laid ha)
def spCheck (K : PySem.W.Frag) : Sp := fun vs H Q E => ∃ (p : Addr) (n : Str) (rows : RowsL), vs = [.ref p, .str n] ∧ Bd K H p rows ∧ (getR rows n ≠ none → ∀ H', Kp [] H H' → Q .non H') ∧ (getR rows n = none → XOut K H E)
theorem ok_check (T : Txt K mg) (P_has : FnR P w K mg base CX0 1 (mB K "__contains__") (spHas K)) (XN : XI1 P w K mg base "NoName" "name") : FnR P w K mg base (L2.CX P w) 3 (mB K "check") (spCheck K) := by
  obtain ⟨fd, F⟩ := T.f_Board_check
  obtain ⟨fn, ok_NoName, b_NoName⟩ := XN
  refine ((F.ok sc_Board_check (fun vs H Q E h => ?_) (fun cdv A outer s H vs Q E hr h => ?_)).raw (F.bindsN fun _ _ _ _ _ _ us hl => match us, hl with | [_, _], _ => rfl) .nil).imp fun vs H Q E h => by rw [List.append_nil]; exact h
  · obtain ⟨_, _, _, rfl, _⟩ := h
    rfl
  · obtain ⟨p, n, rows, rfl, hb, q1, q2⟩ := h
    refine ⟨_, (pss_one (ps_if (pt_cmpR (op_notInOwn (E := E0) T.d_Board_contains T.n_Board_contains P_has (hr.mono (by decide)) pass0) (pv 1) (pv 0) rfl) (pss_one (ps_raise rfl (takes_of rfl rfl rfl rfl) (pmk_oex T.ox_NoName T.oi_NoName T.ot_NoName ok_NoName (hr.mono (by decide)) b_NoName .nil pass0 rfl T.g_NoName (pa_cons (pv 1) pa_nil)))) pss_nil)), ?_⟩
    obtain ⟨dx, l, d, kvs, xs, b, hrows, W, hlen⟩ := id hb
    refine ⟨_, rfl, _, rfl, p, dx, _, rfl, b.slt, p, n, rows, rfl, hb, fun H1 k1 => ⟨_, rfl, _, rfl, ?_⟩⟩
    cases hg : getR rows n with
    | some a =>
      refine iteF ?_
      exact q1 (by rw [hg]; exact fun z => nomatch z) H1 k1
    | none =>
      refine iteT ?_
      refine ⟨_, rfl, Nat.le_of_ble_eq_true rfl, fun e he => ⟨e, _, rfl, upd_same, fun x H2 h1 h2 h3 h4 h5 => ?_⟩⟩
      have hx1 : H1 x = none := by rw [upd_ne h2] at h1; exact h1
      refine ⟨rfl, x, _, h5, h4, hx1, q2 hg "NoName" _ x _ (.inl ⟨rfl, _, rfl⟩) ?_ (k1.none0 hx1) upd_same⟩
      refine k1.trans fun c o _ hc => ?_
      have c1 : c ≠ x := ne_of_none hc hx1
      have c2 : c ≠ e := ne_of_none hc he
      rw [upd_ne c1, del_ne c2, h3 c c1 c2, upd_ne c2]
      exact hc
end
end K65
set_option Elab.async false
set_option linter.all false
set_option maxRecDepth 100000
set_option maxHeartbeats 4000000
namespace K65
open PySem PySem.Spec PyProof.Rows L2 SlX He
section
variable {P : Program} {w : World} {K : PySem.W.Frag} {mg : Str → Option Value} {base : Heap}
/-- the board's methods as promises -/
abbrev MB (P : Program) (w : World) (K : PySem.W.Frag) (mg : Str → Option Value) (base : Heap) (k : Nat) (m : Str) (sp : Sp) : Prop := FnR P w K mg base CX0 k (mB K m) sp
abbrev MX (P : Program) (w : World) (K : PySem.W.Frag) (mg : Str → Option Value) (base : Heap) (k : Nat) (m : Str) (sp : Sp) : Prop := FnR P w K mg base (L2.CX P w) k (mB K m) sp
/-! ### of one account -/
theorem rowOf {H : Hp} {kvs : List (Key × V)} {rows : RowsL} {d : Addr} {n : Str} {a : Ac} (hd : H d = some (.dK kvs)) (hr : RowsAt K H kvs rows) (hg : getR rows n = some a) : ∃ t, DGet H d (.str n) (some (.ref t)) ∧ SqT K H t [.int a.lv, optV a.lo, optV a.hi, optS a.heir] := by
  obtain ⟨v, h1, t, rfl, h2⟩ := rows_some hr hg
  refine ⟨t, ?_, h2⟩
  rw [← h1]
  exact DGet.k (k := .inr n) hd
def spGet (K : PySem.W.Frag) : Sp := fun vs H Q _ => ∃ (p : Addr) (n : Str) (rows : RowsL) (a : Ac), vs = [.ref p, .str n] ∧ Bd K H p rows ∧ getR rows n = some a ∧ ∀ H', Kp [] H H' → Q (.int a.lv) H'
theorem ok_getitem (T : Txt K mg) (P_check : MX P w K mg base 3 "check" (spCheck K)) : MB P w K mg base 4 "__getitem__" (spGet K) := by
  obtain ⟨fd, F⟩ := T.f_Board__getitem
  refine ((F.ok sc_Board__getitem (fun vs H Q E h => ?_) (fun cdv A outer s H vs Q E hr h => ?_)).raw (F.bindsN fun _ _ _ _ _ _ us hl => match us, hl with | [_, _], _ => rfl) .nil).imp fun vs H Q E h => by rw [List.append_nil]; exact h
  · obtain ⟨_, _, _, _, rfl, _⟩ := h
    rfl
  · obtain ⟨p, n, rows, a, rfl, hb, hg, q⟩ := h
    refine ⟨_, PSs.nox (pss_cons (ps_expr (pe_methSl (E := E0) (pv 0) T.cl_Board T.m_Board_check P_check (hr.mono (by decide)) passL (pa_cons (pv 1) pa_nil))) (pss_one (ps_ret (pe_ix ix_tup (pe_dget (hu_of hr) (pe_sl (pv 0)) (pv 1) (fun _ _ => rfl)) pe_int (fun _ _ => rfl))))), ?_⟩
    obtain ⟨dx, l, d, kvs, xs, b, hrows, W, hlen⟩ := id hb
    refine ⟨_, rfl, p, dx, _, rfl, b.slt, _, rfl, p, n, rows, rfl, hb, fun _ H1 k1 => ?_, fun z => by rw [hg] at z; cases z⟩
    have b1 := b.kp0 k1
    obtain ⟨t, hdg, ht⟩ := rowOf b1.hd (hrows.kp k1) hg
    refine ⟨_, rfl, _, _, _, _, _, _, _, rfl, b1.slt, T.cl_Board, T.sl_own_rows, rfl, _, rfl, d, _, rfl, hdg, ?_⟩
    exact ⟨_, _, _, _, rfl, rfl, ht, rfl, q H1 k1⟩
def spHeir (K : PySem.W.Frag) : Sp := fun vs H Q _ => ∃ (p : Addr) (n : Str) (rows : RowsL) (a : Ac), vs = [.ref p, .str n] ∧ Bd K H p rows ∧ getR rows n = some a ∧ ∀ H', Kp [] H H' → Q (optS a.heir) H'
theorem ok_heir (T : Txt K mg) (P_check : MX P w K mg base 3 "check" (spCheck K)) : MB P w K mg base 4 "heir_of" (spHeir K) := by
  obtain ⟨fd, F⟩ := T.f_Board_heir_of
  refine ((F.ok sc_Board_heir_of (fun vs H Q E h => ?_) (fun cdv A outer s H vs Q E hr h => ?_)).raw (F.bindsN fun _ _ _ _ _ _ us hl => match us, hl with | [_, _], _ => rfl) .nil).imp fun vs H Q E h => by rw [List.append_nil]; exact h
  · obtain ⟨_, _, _, _, rfl, _⟩ := h
    rfl
  · obtain ⟨p, n, rows, a, rfl, hb, hg, q⟩ := h
    refine ⟨_, PSs.nox (pss_cons (ps_expr (pe_methSl (E := E0) (pv 0) T.cl_Board T.m_Board_check P_check (hr.mono (by decide)) passL (pa_cons (pv 1) pa_nil))) (pss_one (ps_ret (pe_ix ix_tup (pe_dget (hu_of hr) (pe_sl (pv 0)) (pv 1) (fun _ _ => rfl)) pe_int (fun _ _ => rfl))))), ?_⟩
    obtain ⟨dx, l, d, kvs, xs, b, hrows, W, hlen⟩ := id hb
    refine ⟨_, rfl, p, dx, _, rfl, b.slt, _, rfl, p, n, rows, rfl, hb, fun _ H1 k1 => ?_, fun z => by rw [hg] at z; cases z⟩
    have b1 := b.kp0 k1
    obtain ⟨t, hdg, ht⟩ := rowOf b1.hd (hrows.kp k1) hg
    refine ⟨_, rfl, _, _, _, _, _, _, _, rfl, b1.slt, T.cl_Board, T.sl_own_rows, rfl, _, rfl, d, _, rfl, hdg, ?_⟩
    exact ⟨_, _, _, _, rfl, rfl, ht, rfl, q H1 k1⟩
def spBoundsOf (K : PySem.W.Frag) : Sp := fun vs H Q _ => ∃ (p : Addr) (n : Str) (rows : RowsL) (a : Ac), vs = [.ref p, .str n] ∧ Bd K H p rows ∧ getR rows n = some a ∧ ∀ t H', Kp [] H H' → SqT K H' t [optV a.lo, optV a.hi] → Q (.ref t) H'
theorem ok_bounds_of (T : Txt K mg) (P_check : MX P w K mg base 3 "check" (spCheck K)) : MB P w K mg base 4 "bounds" (spBoundsOf K) := by
  obtain ⟨fd, F⟩ := T.f_Board_bounds
  refine ((F.ok sc_Board_bounds (fun vs H Q E h => ?_) (fun cdv A outer s H vs Q E hr h => ?_)).raw (F.bindsN fun _ _ _ _ _ _ us hl => match us, hl with | [_, _], _ => rfl) .nil).imp fun vs H Q E h => by rw [List.append_nil]; exact h
  · obtain ⟨_, _, _, _, rfl, _⟩ := h
    rfl
  · obtain ⟨p, n, rows, a, rfl, hb, hg, q⟩ := h
    refine ⟨_, PSs.nox (pss_cons (ps_expr (pe_methSl (E := E0) (pv 0) T.cl_Board T.m_Board_check P_check (hr.mono (by decide)) passL (pa_cons (pv 1) pa_nil))) (pss_one (ps_ret (pe_slice sl_tupA (pe_dget (hu_of hr) (pe_sl (pv 0)) (pv 1) (fun _ _ => rfl)) (po_some pe_int) (po_some pe_int))))), ?_⟩
    obtain ⟨dx, l, d, kvs, xs, b, hrows, W, hlen⟩ := id hb
    refine ⟨_, rfl, p, dx, _, rfl, b.slt, _, rfl, p, n, rows, rfl, hb, fun _ H1 k1 => ?_, fun z => by rw [hg] at z; cases z⟩
    have b1 := b.kp0 k1
    obtain ⟨t, hdg, ht⟩ := rowOf b1.hd (hrows.kp k1) hg
    refine ⟨_, rfl, _, _, _, _, _, _, _, rfl, b1.slt, T.cl_Board, T.sl_own_rows, rfl, _, rfl, d, _, rfl, hdg, ?_⟩
    refine ⟨_, rfl, _, rfl, ?_⟩
    refine slA (some 1) (some 3) ht fun c H2 k2 hc => ?_
    exact q c H2 (k1.trans k2) hc
/-! ### keep, names -/
def spKeep (K : PySem.W.Frag) : Sp := fun vs H Q _ => ∃ (p d' dx l d : Addr) (kvs kvs' : List (Key × V)) (xs : List V), vs = [.ref p, .ref d'] ∧ BX K H p dx l d kvs xs ∧ H d' = some (.dK kvs') ∧ xs.length < 1000 ∧ ∀ H', Kp [p, l] H H' → BX K H' p dx l d' kvs' (xs ++ [.ref d]) → Q .non H'
theorem ok_keep (T : Txt K mg) : MB P w K mg base 1 "keep" (spKeep K) := by
  obtain ⟨fd, F⟩ := T.f_Board_keep
  refine ((F.ok sc_Board_keep (fun vs H Q E h => ?_) (fun cdv A outer s H vs Q E hr h => ?_)).raw (F.bindsN fun _ _ _ _ _ _ us hl => match us, hl with | [_, _], _ => rfl) .nil).imp fun vs H Q E h => by rw [List.append_nil]; exact h
  · obtain ⟨_, _, _, _, _, _, _, _, rfl, _⟩ := h
    rfl
  · obtain ⟨p, d', dx, l, d, kvs, kvs', xs, rfl, b, hd', hlen, q⟩ := h
    refine ⟨_, PSs.nox (pss_cons (ps_expr (pe_bm PySem.F.plainAttrs_list PySem.F.slot_list_append PySem.F.type_list_append mt_append (pe_sl (pv 0)) (pa_cons (pe_sl (pv 0)) pa_nil))) (pss_one (ps_sl (pv 0) (pv 1)))), ?_⟩
    refine ⟨_, rfl, _, _, _, _, _, _, _, rfl, b.slt, T.cl_Board, T.sl_own_past, rfl, .inl ⟨rfl, _, .of b.hl⟩, _, rfl, _, _, _, _, _, _, _, rfl, b.slt, T.cl_Board, T.sl_own_rows, rfl, l, xs, _, rfl, rfl, b.hl, by unfold sizeLine; omega, ?_⟩
    have k1 : Kp [p, l] H (upd H l (.lst (xs ++ [.ref d]))) := Kp.rfl'.out (by simp) b.softl
    have hld' : d' ≠ l := ne_of hd' b.hl (fun z => nomatch z)
    have hpd' : d' ≠ p := (ne_of b.hp hd' slO_dK).symm
    have S1 : Slt (upd H l (.lst (xs ++ [.ref d]))) p (ga K "Board") dx [some (.ref l), some (.ref d)] := .inr ⟨by rw [upd_ne b.pl]; exact b.hp, by rw [upd_ne b.xl]; exact b.hx⟩
    refine ⟨_, rfl, _, rfl, _, _, _, _, _, _, rfl, S1, T.cl_Board, T.sl_own_rows, ?_⟩
    have hxd' : d' ≠ dx := (ne_of b.hx hd' (fun z => nomatch z)).symm
    refine q _ ?_ ⟨?_, ?_, ?_, ?_⟩
    · unfold slH
      refine Kp.out ?_ (by simp) b.softp
      refine k1.trans fun c o _ hc => ?_
      by_cases e : c = dx
      · subst e
        rw [upd_ne b.xl, b.hx] at hc
        rw [upd_same]
        exact hc
      · rw [upd_ne e]
        exact hc
    · unfold slH
      rw [upd_same]
      rfl
    · unfold slH
      rw [upd_ne b.px.symm, upd_same]
    · unfold slH
      rw [upd_ne hpd', upd_ne hxd', upd_ne hld']
      exact hd'
    · unfold slH
      rw [upd_ne b.pl.symm, upd_ne b.xl.symm, upd_same]
def spNames (K : PySem.W.Frag) : Sp := fun vs H Q _ => ∃ (p : Addr) (rows : RowsL), vs = [.ref p] ∧ Bd K H p rows ∧ ∀ t ys H', Kp [] H H' → List.Perm ys (rows.map (·.1)) → SqT K H' t (ys.map V.str) → Q (.ref t) H'
theorem ok_names (T : Txt K mg) : FnR P w K mg base CX0 1 (pg K "Board" "names") (spNames K) := by
  obtain ⟨fd, F⟩ := T.f_Board_names
  refine ((F.ok sc_Board_names (fun vs H Q E h => ?_) (fun cdv A outer s H vs Q E hr h => ?_)).raw (F.bindsN fun _ _ _ _ _ _ us hl => match us, hl with | [_], _ => rfl) .nil).imp fun vs H Q E h => by rw [List.append_nil]; exact h
  · obtain ⟨_, _, rfl, _⟩ := h
    rfl
  · obtain ⟨p, rows, rfl, ⟨dx, l, d, kvs, xs, b, hrows, W, hlen⟩, q⟩ := h
    refine ⟨_, PSs.nox (pss_one (ps_ret (pe_callTy call_tuple_of (by rfl) T.z_tuple (by decide +kernel) (pa_cons (pe_callB cr_sortedS (by rfl) T.z_sorted (by decide +kernel) (pa_cons (pe_callTy (call_listD rfl) (by rfl) T.z_list (by decide +kernel) (pa_cons (pe_sl (pv 0)) pa_nil)) pa_nil)) pa_nil)))), ?_⟩
    refine ⟨_, rfl, _, _, _, _, _, _, _, rfl, b.slt, T.cl_Board, T.sl_own_rows, rfl, d, kvs, rfl, .of b.hd, fun a ha => ?_⟩
    rw [rows_kV hrows]
    refine ⟨a, _, rfl, .of upd_same, by rw [List.length_map]; omega, fun ys c hp _ hc => ⟨c, _, rfl, .inl ⟨.of upd_same, fun t ht => q t ys _ (((Kp.r0.laid ha).laid hc).laid ht) hp (.of upd_same)⟩⟩⟩
end
end K65
set_option Elab.async false
set_option linter.all false
set_option maxRecDepth 100000
set_option maxHeartbeats 4000000
namespace K65
open PySem PySem.Spec PyProof.Rows L2
section
variable {X : Cx}
/-- tuple(list), the new tuple known: a plain object -/
def PlT (o : PySem.Obj) : Prop := o.dict = none ∧ o.cls = .type "tuple"
theorem call_tupF : CallR X (.type "tuple") (fun xs H Q => ∃ p ys, xs = [.ref p] ∧ SqL X.K H p ys ∧ ∀ l o, H l = none → PlT o → Q (.ref l) (upd H l (.frz o (.tup ys)))) := by
  intro pins s σ H xs us Q I r h
  obtain ⟨p, ys, rfl, hq, q⟩ := h
  obtain ⟨u, rfl, rx⟩ := vals1 r
  cases rx
  obtain ⟨its, r', pl, hz⟩ := I.list hq
  have hlen := r'.length
  refine call_tuple_list pl.isList (fun h' kp => ?_) (by simp only [List.size_toArray] <;> omega)
  have I1 : Inv X pins σ H { s with heap := h' } := I.kept (t' := s.toks) kp
  have I2 : Inv X pins σ (upd H h'.objs.size (.frz { cls := .type "tuple", data := .seq its.toArray } (.tup ys))) { s with heap := h'.push { cls := .type "tuple", data := .seq its.toArray } } :=
    I1.laid (t' := s.toks) (fun b o e => Heap.get?_push_of_some _ e) (Nat.le_refl _) (show ObjOk X.prog X.w _ _ _ (.frz _ (.tup ys)) from ⟨Heap.get?_push_size _ rfl, hz, its, r', IsTup.new _ _⟩)
  exact ⟨.ref h'.objs.size, _, I2, rfl, q _ _ (I1.hok.fresh (Nat.le_refl _)) ⟨rfl, rfl⟩⟩
def tyTup (x : V) (H : Hp) : Prop := ∃ a o ys, x = .ref a ∧ H a = some (.frz o (.tup ys)) ∧ PlT o
theorem ty_tup : TyOk X "tuple" tyTup := by
  intro pins σ H s x v I r ty
  obtain ⟨a, o, ys, rfl, ha, h1, h2⟩ := ty
  cases r
  obtain ⟨e, _⟩ := I.hok a _ ha
  exact ⟨⟨o, e, h2⟩, fun b hb => by cases hb; exact ⟨o, e, h1⟩⟩
end
end K65
set_option Elab.async false
set_option linter.all false
set_option maxRecDepth 100000
set_option maxHeartbeats 4000000
namespace K65
open PySem PySem.Spec PyProof.Rows L2 SlX He
theorem nodup_len : ∀ {l m : List Str}, l.Nodup → (∀ x ∈ l, x ∈ m) → l.length ≤ m.length
  | [], _, _, _ => Nat.zero_le _
  | x :: l, m, nd, h => by
    obtain ⟨h1, h2⟩ := List.nodup_cons.mp nd
    have hx : x ∈ m := h x (List.mem_cons_self ..)
    have := nodup_len (m := m.erase x) h2 fun y hy => (List.mem_erase_of_ne (show y ≠ x from fun z => h1 (z ▸ hy))).mpr (h y (List.mem_cons_of_mem _ hy))
    rw [List.length_erase_of_mem hx] at this
    have : 0 < m.length := List.length_pos_of_mem hx
    simp only [List.length_cons]
    omega
theorem ch_inv {g : Str → Option Ac} {n : Str} {l : List Str} (h : Ch g n l) : ∃ a, g n = some a ∧ ((a.heir = none ∧ l = [n]) ∨ ∃ m r, a.heir = some m ∧ l = n :: m :: r ∧ Ch g m (m :: r)) := by
  cases h with
  | last e z => exact ⟨_, e, .inl ⟨z, rfl⟩⟩
  | @step _ m a l e z c =>
    obtain ⟨t, rfl⟩ := c.head
    exact ⟨a, e, .inr ⟨m, t, z, rfl, c⟩⟩
theorem ch_len {rows : RowsL} {n : Str} {l : List Str} (h : Ch (getR rows) n l) : l.length ≤ rows.length := by
  have := nodup_len (m := rows.map (·.1)) h.nodup fun x hx => by
    obtain ⟨a, ha⟩ := h.mem x hx
    exact getR_some.mp (by rw [ha]; rfl)
  rw [List.length_map] at this
  exact this
section
variable {P : Program} {w : World} {K : PySem.W.Frag} {mg : Str → Option Value} {base : Heap}
/-! ### the chain of heirs -/
/-- the chain's tuple, a plain one -/
def ChT (H : Hp) (t : Addr) (l : List Str) : Prop := ∃ o, H t = some (.frz o (.tup (l.map V.str))) ∧ PlT o
theorem ChT.sq {K : PySem.W.Frag} {H : Hp} {t : Addr} {l : List Str} (h : ChT H t l) : SqT K H t (l.map V.str) := by
  obtain ⟨o, h, _⟩ := h
  exact .inl (.inr ⟨o, h⟩)
theorem ChT.kp {H H' : Hp} {ex : List Addr} {t : Addr} {l : List Str} (h : ChT H t l) (k : Kp ex H H') : ChT H' t l := by
  obtain ⟨o, h, p⟩ := h
  exact ⟨o, k _ _ (.inr trivial) h, p⟩
def spChain (K : PySem.W.Frag) : Sp := fun vs H Q E => ∃ (p : Addr) (n : Str) (rows : RowsL), vs = [.ref p, .str n] ∧ Bd K H p rows ∧ (∀ l t H', Ch (getR rows) n l → Kp [] H H' → ChT H' t l → Q (.ref t) H') ∧ (getR rows n = none → XOut K H E)
theorem ok_chain (T : Txt K mg) (P_check : MX P w K mg base 3 "check" (spCheck K)) (P_heir_of : MB P w K mg base 4 "heir_of" (spHeir K)) : MX P w K mg base 5 "chain" (spChain K) := by
  obtain ⟨fd, F⟩ := T.f_Board_chain
  refine ((F.ok sc_Board_chain (fun vs H Q E h => ?_) (fun cdv A outer s H vs Q E hr h => ?_)).raw (F.bindsN fun _ _ _ _ _ _ us hl => match us, hl with | [_, _], _ => rfl) .nil).imp fun vs H Q E h => by rw [List.append_nil]; exact h
  · obtain ⟨_, _, _, rfl, _⟩ := h
    rfl
  · obtain ⟨p, n, rows, rfl, hb, q1, q2⟩ := h
    refine ⟨_, (pss_cons (ps_expr (pe_methSl (E := E) (pv 0) T.cl_Board T.m_Board_check P_check (hr.mono (by decide)) (passes_call (takes_of rfl rfl rfl rfl) (fun _ _ _ _ z => z)) (pa_cons (pv 1) pa_nil))) (pss_cons (ps_set (i := 2) sc_Board_chain.nd rfl (.inl rfl) (pe_lst (pa_cons (pv 1) pa_nil))) (pss_cons (ps_while (passes_of rfl) (pt_cmpR op_notN (pe_methSl (E := E0) (pv 0) T.cl_Board T.m_Board_heir_of P_heir_of (hr.mono (by decide)) pass0 (pa_cons (pe_ix ix_list (pv 2) (pe_un un_neg pe_int) (fun _ _ => rfl)) pa_nil)) pe_non (nomark _)) (pss_one (ps_expr (pe_bm PySem.F.plainAttrs_list PySem.F.slot_list_append PySem.F.type_list_append mt_append (pv 2) (pa_cons (pe_methSl (E := E0) (pv 0) T.cl_Board T.m_Board_heir_of P_heir_of (hr.mono (by decide)) pass0 (pa_cons (pe_ix ix_list (pv 2) (pe_un un_neg pe_int) (fun _ _ => rfl)) pa_nil)) pa_nil))))) (pss_one (ps_ret (pe_callTy call_tupF (by rfl) T.z_tuple (by decide +kernel) (pa_cons (pv 2) pa_nil))))))), ?_⟩
    obtain ⟨dx, l0, d, kvs, xs, b, hrows, W, hlen⟩ := id hb
    refine ⟨_, rfl, p, dx, _, rfl, b.slt, _, rfl, p, n, rows, rfl, hb, fun hg H1 k1 => ?_, q2⟩
    obtain ⟨a0, ha0⟩ : ∃ a, getR rows n = some a := Option.isSome_iff_exists.mp (by cases h : getR rows n with | none => exact absurd h hg | some _ => rfl)
    obtain ⟨l, hl⟩ := W.ch n a0 ha0
    have hll := ch_len hl
    obtain ⟨tl, htl⟩ := hl.head
    refine ⟨_, rfl, Nat.le_of_ble_eq_true rfl, fun f hf => ?_⟩
    have hfn : H f = none := k1.none0 hf
    refine ⟨fun m σ H' => Kp [] H H' ∧ σ = [some (.ref p), some (.str n), some (.ref f)] ∧ ∃ pre x rest, l = pre ++ x :: rest ∧ H' f = some (.lst ((pre ++ [x]).map V.str)) ∧ Ch (getR rows) x (x :: rest) ∧ m = rest.length, ⟨_, k1.laid hf, rfl, [], n, tl, htl, upd_same, by rw [← htl]; exact hl, rfl⟩, ?_⟩
    rintro m σ H2 ⟨k2, rfl, pre, x, rest, hle, hf2, hch, rfl⟩
    have b2 := b.kp0 k2
    obtain ⟨a, ha, hc⟩ := ch_inv hch
    have hat : atI ((pre ++ [x]).map V.str) (-1) = some (.str x) := by
      rw [List.map_append]
      exact atI_last _ _
    refine ⟨_, rfl, p, dx, _, rfl, b2.slt, _, rfl, _, rfl, _, _, _, _, rfl, rfl, .of hf2, hat, p, x, rows, a, rfl, hb.kp k2, ha, fun H3 k3 => ⟨rfl, _, rfl, ?_⟩⟩
    have hf3 := k3.at0 hf2
    rcases hc with ⟨hz, hr1⟩ | ⟨h, r, hz, hr1, hch2⟩
    · rw [hz]
      refine decNF rfl ?_
      have hrest : rest = [] := (List.cons.inj hr1).2
      subst hrest
      refine ⟨_, rfl, f, _, rfl, .of hf3, fun t o ht ho => q1 l t _ hl ((k2.trans k3).laid ht) ⟨o, ?_, ho⟩⟩
      rw [upd_same, hle]
    · rw [hz]
      refine decNT (fun z => nomatch z) ?_
      have hrest : rest = h :: r := (List.cons.inj hr1).2
      subst hrest
      refine ⟨fun σ H' => Kp [] H H' ∧ σ = [some (.ref p), some (.str n), some (.ref f)] ∧ ∃ pre x rest, l = pre ++ x :: rest ∧ H' f = some (.lst ((pre ++ [x]).map V.str)) ∧ Ch (getR rows) x (x :: rest) ∧ rest.length < (h :: r).length, ?_, ?_⟩
      · rintro σ' H' ⟨e1, e2, pre', x', rest', e3, e4, e5, e6⟩
        exact ⟨_, e6, e1, e2, pre', x', rest', e3, e4, e5, rfl⟩
      · have b3 := b2.kp0 k3
        refine ⟨_, rfl, .inl ⟨rfl, _, .of hf3⟩, _, rfl, p, dx, _, rfl, b3.slt, _, rfl, _, rfl, _, _, _, _, rfl, rfl, .of hf3, hat, p, x, rows, a, rfl, hb.kp (k2.trans k3), ha, fun H4 k4 => ?_⟩
        rw [hz]
        refine ⟨f, _, _, rfl, rfl, k4.at0 hf3, ?_, ((k2.trans k3).trans k4).new hfn, rfl, pre ++ [x], h, r, by rw [hle, List.append_assoc]; rfl, ?_, hch2, Nat.lt_succ_self _⟩
        · have : l.length = pre.length + (h :: r).length + 1 := by rw [hle, List.length_append]; rfl
          rw [List.length_map, List.length_append]
          unfold sizeLine
          simp only [List.length_cons, List.length_nil] at this ⊢
          omega
        · rw [upd_same]
          have e : (pre ++ [x] ++ [h]).map V.str = (pre ++ [x]).map V.str ++ [optS (some h)] := List.map_append ..
          rw [e]
end
end K65
set_option Elab.async false
set_option linter.all false
set_option maxRecDepth 100000
set_option maxHeartbeats 4000000
namespace K65
open PySem PySem.Spec PyProof.Rows L2 SlX He
/-- gifts handed on, over the accounts -/
def hstep (s : RowsL × Int) (n : Str) : RowsL × Int := match getR s.1 n with
  | some a => (putR s.1 n { a with lv := kept (a.lv + s.2) a.lo a.hi }, s.2 - (kept (a.lv + s.2) a.lo a.hi - a.lv))
  | none => s
def handR (rows : RowsL) (l : List Str) (r : Int) : RowsL × Int := l.foldl hstep (rows, r)
theorem handR_succ {rows : RowsL} {l : List Str} {r : Int} {i : Nat} {n : Str} (h : l[i]? = some n) : handR rows (l.take (i + 1)) r = hstep (handR rows (l.take i) r) n := by
  rw [List.take_add_one, h]
  unfold handR
  rw [List.foldl_append]
  rfl
theorem hstep_keys (s : RowsL × Int) (n : Str) : (hstep s n).1.map (·.1) = s.1.map (·.1) := by
  unfold hstep
  cases h : getR s.1 n with
  | none => rfl
  | some a =>
    show (putR s.1 n _).map (·.1) = _
    rw [keys_put, if_pos (getR_some.mp (by rw [h]; rfl))]
theorem handR_keys (l : List Str) (rows : RowsL) (r : Int) : (handR rows l r).1.map (·.1) = rows.map (·.1) := by
  unfold handR
  suffices h : ∀ s : RowsL × Int, (l.foldl hstep s).1.map (·.1) = s.1.map (·.1) from h _
  induction l with
  | nil => exact fun _ => rfl
  | cons n l ih => exact fun s => (ih _).trans (hstep_keys s n)
theorem known_of {rows rows' : RowsL} {n : Str} (h : rows'.map (·.1) = rows.map (·.1)) (hn : getR rows n ≠ none) : ∃ a, getR rows' n = some a := by
  refine Option.isSome_iff_exists.mp (getR_some.mpr ?_)
  rw [h]
  refine getR_some.mp ?_
  cases e : getR rows n with
  | none => exact absurd e hn
  | some _ => rfl
section
variable {P : Program} {w : World} {K : PySem.W.Frag} {mg : Str → Option Value} {base : Heap}
def crossOB (lo hi : Option Int) : Bool := match lo, hi with
  | some l, some h => decide (h < l)
  | _, _ => false
def spCross : Sp := fun vs H Q _ => ∃ lo hi : Option Int, vs = [optV lo, optV hi] ∧ Q (.bl (crossOB lo hi)) H
theorem ok_cross (T : Txt K mg) : Pr P w K mg base CX0 1 "is_crossed" spCross := by
  obtain ⟨fd, F⟩ := T.f_is_crossed
  refine Pr.of T.g_is_crossed F.kp (F.ok sc_is_crossed (fun vs H Q E h => ?_) (fun cdv A outer s H vs Q E hr h => ?_)) (F.bindsN fun _ _ _ _ _ _ us hl => match us, hl with | [_, _], _ => rfl)
  · obtain ⟨_, _, rfl, _⟩ := h
    rfl
  · obtain ⟨lo, hi, rfl, q⟩ := h
    refine ⟨_, PSs.nox (pss_one (ps_ret (pe_and (pe_cmpR op_notN (pv 0) pe_non (nomark _)) (pe_and (pe_cmpR op_notN (pv 1) pe_non (nomark _)) (pe_one (pe_cmpR op_gt (pv 0) (pv 1) (nomark _))))))), ?_⟩
    cases lo <;> cases hi <;> (repeat' first | refine ⟨_, rfl, ?_⟩ | refine ⟨rfl, ?_⟩ | refine ⟨_, _, rfl, rfl, ?_⟩ | refine ⟨_, _, rfl, ?_⟩ | refine iteT' rfl ?_ | refine iteF' rfl ?_ | fail) <;> exact q
/-! ### sums of bounds -/
def spSum (K : PySem.W.Frag) : Sp := fun vs H Q _ => ∃ (a : Addr) (os : List (Option Int)), vs = [.ref a] ∧ SqL K H a (os.map optV) ∧ Q (optV (sumO os)) H
theorem sumO_none : ∀ {os : List (Option Int)}, (os.map optV).any isNon = true → sumO os = none
  | [], h => by cases h
  | none :: _, _ => rfl
  | some x :: r, h => by
    have : (r.map optV).any isNon = true := h
    show (sumO r).map (x + ·) = none
    rw [sumO_none this]
    rfl
theorem sumO_some : ∀ {os : List (Option Int)}, (os.map optV).any isNon = false → ∃ ns : List Int, os.map optV = ns.map V.int ∧ sumO os = some ns.sum
  | [], _ => ⟨[], rfl, rfl⟩
  | none :: _, h => by cases h
  | some x :: r, h => by
    obtain ⟨ns, h1, h2⟩ := sumO_some (os := r) h
    refine ⟨x :: ns, ?_, ?_⟩
    · show .int x :: r.map optV = .int x :: ns.map V.int
      rw [h1]
    · show (sumO r).map (x + ·) = some (x :: ns).sum
      rw [h2, List.sum_cons]
      rfl
theorem flat_opts : ∀ os : List (Option Int), (os.map optV).all flatV = true
  | [] => rfl
  | none :: r => flat_opts r
  | some _ :: r => flat_opts r
theorem inV_non : ∀ os : List (Option Int), inV .non (os.map optV) = (os.map optV).any isNon
  | [] => rfl
  | none :: r => rfl
  | some x :: r => inV_non r
theorem ok_sum (T : Txt K mg) : Pr P w K mg base CX0 1 "sum_of" (spSum K) := by
  obtain ⟨fd, F⟩ := T.f_sum_of
  refine Pr.of T.g_sum_of F.kp (F.ok sc_sum_of (fun vs H Q E h => ?_) (fun cdv A outer s H vs Q E hr h => ?_)) (F.bindsN fun _ _ _ _ _ _ us hl => match us, hl with | [_], _ => rfl)
  · obtain ⟨_, _, rfl, _⟩ := h
    rfl
  · obtain ⟨a, os, rfl, ha, q⟩ := h
    refine ⟨_, PSs.nox (pss_one (ps_ret (pe_ifExp (pt_cmpR op_in_seq pe_non (pv 0) rfl) pe_non (pe_callB (cr_sum rfl) (by rfl) T.z_sum boot_sum (pa_cons (pv 0) pa_nil))))), ?_⟩
    refine ⟨_, rfl, a, _, rfl, .inl ha, rfl, flat_opts os, _, rfl, ?_⟩
    rw [inV_non]
    cases h : (os.map optV).any isNon with
    | true =>
      refine iteT ?_
      rw [sumO_none h] at q
      exact q
    | false =>
      refine iteF ?_
      obtain ⟨ns, h1, h2⟩ := sumO_some h
      rw [h2] at q
      exact ⟨_, rfl, a, ns, rfl, by rw [← h1]; exact ha, q⟩
/-! ### handed_on -/
def absI (i : Int) : Int := if i < 0 then -i else i
def spHand (K : PySem.W.Frag) : Sp := fun vs H Q _ => ∃ (d a : Addr) (kvs : List (Key × V)) (rows : RowsL) (l : List Str) (r : Int), vs = [.ref d, .ref a, .int r] ∧ H d = some (.dK kvs) ∧ RowsAt K H kvs rows ∧ (rows.map (·.1)).Nodup ∧ rows.length < 1000 ∧ SqT K H a (l.map V.str) ∧ (∀ n ∈ l, getR rows n ≠ none) ∧
  ∀ t d' kvs' H', Kp [] H H' → H' d' = some (.dK kvs') → H d' = none → RowsAt K H' kvs' (handR rows l r).1 → SqT K H' t [.ref d', .int (absI (handR rows l r).2)] → Q (.ref t) H'
theorem ok_hand (T : Txt K mg) (P_kept : Pr P w K mg base CX0 1 "kept" spKept) : Pr P w K mg base CX0 2 "handed_on" (spHand K) := by
  obtain ⟨fd, F⟩ := T.f_handed_on
  refine Pr.of T.g_handed_on F.kp (F.ok sc_handed_on (fun vs H Q E h => ?_) (fun cdv A outer s H vs Q E hr h => ?_)) (F.bindsN fun _ _ _ _ _ _ us hl => match us, hl with | [_, _, _], _ => rfl)
  · obtain ⟨_, _, _, _, _, _, rfl, _⟩ := h
    rfl
  · obtain ⟨d, a, kvs, rows, l, r, rfl, hd, hrows, nd, hlen, ha, hl, q⟩ := h
    refine ⟨_, PSs.nox (pss_cons (ps_par (i := 3) (j := 4) rfl sc_handed_on.nd rfl rfl (by decide) rfl rfl (pa_cons (pe_dstar (pv 0)) (pa_cons (pv 2) pa_nil)) (by rfl)) (pss_cons (ps_for PassesOwn.never rfl (pi_tup (pv 1)) (pg_name (i := 5) sc_handed_on.nd rfl (Or.inl rfl)) (pss_cons (ps_asg (pe_dget (hu_of hr) (pv 3) (pv 5) (fun _ _ => rfl)) (pg_tup rfl (pgs_cons (pg_name (i := 6) sc_handed_on.nd rfl (Or.inl rfl)) (pgs_cons (pg_name (i := 7) sc_handed_on.nd rfl (Or.inl rfl)) (pgs_cons (pg_name (i := 8) sc_handed_on.nd rfl (Or.inl rfl)) (pgs_cons (pg_name (i := 9) sc_handed_on.nd rfl (Or.inl rfl)) pgs_nil)))))) (pss_cons (ps_set (i := 10) sc_handed_on.nd rfl (.inl rfl) (pe_g P_kept (hr.mono (by decide)) pass0 (pa_cons (pe_op op_add (pv 6) (pv 4)) (pa_cons (pv 7) (pa_cons (pv 8) pa_nil))))) (pss_cons (ps_asg (pe_tup (pa_cons (pv 10) (pa_cons (pv 7) (pa_cons (pv 8) (pa_cons (pv 9) pa_nil))))) (pg_sub (pv 3) (pv 5) (set_dict (hu_of hr)))) (pss_one (ps_aug (i := 4) sc_handed_on.nd rfl (.inl rfl) (pe_op op_sub (pv 10) (pv 6)) ip_sub)))))) (pss_one (ps_ret (pe_tup (pa_cons (pv 3) (pa_cons (pe_callB call_abs (by rfl) T.z_abs PyProof.Rows.boot_abs (pa_cons (pv 4) pa_nil)) pa_nil))))))), ?_⟩
    refine fun f hf => ⟨_, rfl, d, kvs, rfl, (ne_of_none hd hf), by rw [upd_ne (ne_of_none hd hf)]; exact hd, upd_same, rows_nd hrows nd, _, rfl, _, _, rfl, ?_⟩
    have k1 : Kp [] H (upd (upd H f (.dK [])) f (.dK kvs)) := (Kp.r0.laid hf).new hf
    have hf1 : (upd (upd H f (.dK [])) f (.dK kvs)) f = some (.dK kvs) := upd_same
    generalize (upd (upd H f (.dK [])) f (.dK kvs)) = H1 at k1 hf1
    refine ⟨_, rfl, a, rfl, ⟨_, sqTk0 ha k1⟩, for_it (walk_tup (xs := l.map V.str)) (fun i σ H' => Kp [] H H' ∧ ∃ kvs' o5 o6 o7 o8 o9 o10, σ = [some (.ref d), some (.ref a), some (.int r), some (.ref f), some (.int (handR rows (l.take i) r).2), o5, o6, o7, o8, o9, o10] ∧ H' f = some (.dK kvs') ∧ RowsAt K H' kvs' (handR rows (l.take i) r).1) ⟨k1, kvs, none, none, none, none, none, none, rfl, hf1, hrows.kp k1⟩ (fun i σ H' _ z => sqTk0 ha z.1) ?_ ?_⟩
    · rintro i x σ H2 H3 hi ⟨k2, kvs', o5, o6, o7, o8, o9, o10, rfl, hf2, hr2⟩ ⟨rfl, hxi⟩
      rw [List.getElem?_map] at hxi
      cases hn : l[i]? with
      | none => rw [hn] at hxi; cases hxi
      | some n =>
        rw [hn] at hxi
        cases Option.some.inj hxi
        have hkeys := handR_keys (l.take i) rows r
        obtain ⟨ac, hac⟩ := known_of hkeys (hl n (List.mem_of_getElem? hn))
        have hsucc := handR_succ (rows := rows) (r := r) hn
        have hlen2 : (handR rows (l.take i) r).1.length = rows.length := by
          have := congrArg List.length hkeys
          rw [List.length_map, List.length_map] at this
          exact this
        generalize handR rows (l.take i) r = s at *
        have hst : handR rows (l.take (i + 1)) r = (putR s.1 n { ac with lv := kept (ac.lv + s.2) ac.lo ac.hi }, s.2 - (kept (ac.lv + s.2) ac.lo ac.hi - ac.lv)) := by
          rw [hsucc]
          unfold hstep
          rw [hac]
        obtain ⟨t, hdg, ht⟩ := rowOf hf2 hr2 hac
        refine ⟨_, rfl, _, rfl, f, _, rfl, hdg, t, _, rfl, ht, rfl, _, _, rfl, _, _, rfl, _, _, rfl, _, _, rfl, rfl, ?_⟩
        refine ⟨_, rfl, _, rfl, _, _, rfl, rfl, _, rfl, _, rfl, _, ac.lo, ac.hi, rfl, ?_⟩
        generalize hk : kept (ac.lv + s.2) ac.lo ac.hi = there at hst
        refine ⟨_, rfl, _, rfl, _, rfl, _, rfl, Nat.le_of_ble_eq_true rfl, fun u hu => ?_⟩
        have k3 : Kp [] H3 (upd H3 u (.tup [.int there, optV ac.lo, optV ac.hi, optS ac.heir])) := Kp.r0.laid hu
        have hf3 := k3.at0 hf2
        have hrl : kvs'.length = rows.length := by
          have := Paired.length hr2
          omega
        refine ⟨_, rfl, _, rfl, f, _, rfl, DPut.k (k := .inr n) hf3 (by unfold sizeLine; omega), ?_⟩
        refine ⟨_, rfl, _, rfl, _, rfl, _, _, rfl, rfl, _, _, rfl, rfl, ?_⟩
        have kk : Kp [f] (upd H3 u (.tup [.int there, optV ac.lo, optV ac.hi, optS ac.heir])) (upd (upd H3 u (.tup [.int there, optV ac.lo, optV ac.hi, optS ac.heir])) f (.dK (putK kvs' (.inr n) (.ref u)))) := Kp.rfl'.out (List.mem_cons_self ..) fun o ho => by
          rw [hf3] at ho
          cases ho
          exact fun z => z
        refine ⟨(k2.trans k3).new hf, _, some (.str n), some (.int ac.lv), some (optV ac.lo), some (optV ac.hi), some (optS ac.heir), some (.int there), ?_, upd_same, ?_⟩
        · rw [hst]
          rfl
        · rw [hst]
          refine rows_put ((hr2.kp k3).kp kk) (by rw [hkeys]; exact nd) ⟨u, rfl, ?_⟩
          exact sqTk0 (SqT.of upd_same) kk
    · rintro σ H2 ⟨k2, kvs', o5, o6, o7, o8, o9, o10, rfl, hf2, hr2⟩
      rw [List.length_map, List.take_length] at hr2
      refine ⟨_, rfl, _, rfl, _, rfl, Nat.le_of_ble_eq_true rfl, fun t ht => q t f kvs' _ (k2.laid ht) ?_ hf (hr2.kp (Kp.r0.laid ht)) (.of ?_)⟩
      · rw [upd_ne (ne_of_none hf2 ht)]
        exact hf2
      · rw [upd_same, List.length_map, List.take_length]
        rfl
end
end K65
set_option Elab.async false
set_option linter.all false
set_option maxRecDepth 100000
set_option maxHeartbeats 4000000
namespace K65
open PySem PySem.Spec PyProof.Rows L2 SlX He
section
variable {P : Program} {w : World} {K : PySem.W.Frag} {mg : Str → Option Value} {base : Heap}
theorem xraise1 {H H1 : Hp} {E : XK} {C f : Str} {v : V} (k1 : Kp [] H H1) (hx : XOut K H E) (hk : XKind C [(f, v)]) : ([v] : List V).length ≤ 1000 ∧ ∀ a, H1 a = none → spX1 K C f (.ref a :: ([v] ++ [])) (upd H1 a (exo a (ga K C) none)) (fun v H2 => v = .non ∧ ∃ (d : Addr) (fs : List (Str × V)), H2 a = some (exo a (ga K C) (some d)) ∧ H2 d = some (exd d fs) ∧ H1 d = none ∧ E (.ref (ga K C)) (some d) (upd (del H2 a) d (.xd fs))) (fun _ _ _ => False) := by
  refine ⟨Nat.le_of_ble_eq_true rfl, fun e he => ⟨e, _, rfl, upd_same, fun x H2 h1 h2 h3 h4 h5 => ?_⟩⟩
  have hx1 : H1 x = none := by rw [upd_ne h2] at h1; exact h1
  refine ⟨rfl, x, _, h5, h4, hx1, hx C _ x _ hk ?_ (k1.none0 hx1) upd_same⟩
  refine k1.trans fun c o _ hc => ?_
  have c1 : c ≠ x := ne_of_none hc hx1
  have c2 : c ≠ e := ne_of_none hc he
  rw [upd_ne c1, del_ne c2, h3 c c1 c2, upd_ne c2]
  exact hc
theorem xraise2 {H H1 : Hp} {E : XK} {C f g : Str} {v u : V} (k1 : Kp [] H H1) (hx : XOut K H E) (hk : XKind C [(g, u), (f, v)]) : ([v, u] : List V).length ≤ 1000 ∧ ∀ a, H1 a = none → spX2 K C f g (.ref a :: ([v, u] ++ [])) (upd H1 a (exo a (ga K C) none)) (fun v H2 => v = .non ∧ ∃ (d : Addr) (fs : List (Str × V)), H2 a = some (exo a (ga K C) (some d)) ∧ H2 d = some (exd d fs) ∧ H1 d = none ∧ E (.ref (ga K C)) (some d) (upd (del H2 a) d (.xd fs))) (fun _ _ _ => False) := by
  refine ⟨Nat.le_of_ble_eq_true rfl, fun e he => ⟨e, _, _, rfl, upd_same, fun x H2 h1 h2 h3 h4 h5 => ?_⟩⟩
  have hx1 : H1 x = none := by rw [upd_ne h2] at h1; exact h1
  refine ⟨rfl, x, _, h5, h4, hx1, hx C _ x _ hk ?_ (k1.none0 hx1) upd_same⟩
  refine k1.trans fun c o _ hc => ?_
  have c1 : c ≠ x := ne_of_none hc hx1
  have c2 : c ≠ e := ne_of_none hc he
  rw [upd_ne c1, del_ne c2, h3 c c1 c2, upd_ne c2]
  exact hc
/-- a deed that went: other accounts, the former ones in the past -/
def Went (K : PySem.W.Frag) (H : Hp) (p dx l d : Addr) (xs : List V) (rows : RowsL) (v : V) (Q : VK) : Prop := ∀ d' kvs' H', Kp [p, l] H H' → BX K H' p dx l d' kvs' (xs ++ [.ref d]) → RowsAt K H' kvs' rows → Q v H'
def AdmOk (rows : RowsL) (n : Str) (lv : Int) (lo hi : Option Int) (heir : Option Str) : Prop := getR rows n = none ∧ crossOB lo hi = false ∧ kept lv lo hi = lv ∧ ∀ h, heir = some h → getR rows h ≠ none
/-- one more account, or one with other things, kept: the dict behind {**self.own_rows, name: row} -/
theorem star_rows {H H5 : Hp} {kvs : List (Key × V)} {rows : RowsL} {n : Str} {a : Ac} {d' b t : Addr} (k : Kp [] H H5) (hd' : H d' = none) (hb : H b = none) (hr : RowsAt K H kvs rows) (nd : (rows.map (·.1)).Nodup) (ht : SqT K H5 t [.int a.lv, optV a.lo, optV a.hi, optS a.heir]) :
    Kp [] H (upd (upd H5 b (.dK [(.inr n, .ref t)])) d' (.dK (putK kvs (.inr n) (.ref t)))) ∧ (upd (upd H5 b (.dK [(.inr n, .ref t)])) d' (.dK (putK kvs (.inr n) (.ref t)))) d' = some (.dK (putK kvs (.inr n) (.ref t))) ∧ (∀ kk : Kp [b, d'] H5 (upd (upd H5 b (.dK [(.inr n, .ref t)])) d' (.dK (putK kvs (.inr n) (.ref t)))), RowsAt K (upd (upd H5 b (.dK [(.inr n, .ref t)])) d' (.dK (putK kvs (.inr n) (.ref t)))) (putK kvs (.inr n) (.ref t)) (putR rows n a)) :=
  ⟨(k.new hb).new hd', upd_same, fun kk => rows_put ((hr.kp k).kp kk) nd ⟨t, rfl, sqTk0 ht kk⟩⟩
def spAdmit (K : PySem.W.Frag) : Sp := fun vs H Q E => ∃ (p dx l d : Addr) (kvs : List (Key × V)) (xs : List V) (rows : RowsL) (n : Str) (lv : Int) (lo hi : Option Int) (heir : Option Str), vs = [.ref p, .str n, .int lv, optV lo, optV hi, optS heir] ∧ BX K H p dx l d kvs xs ∧ RowsAt K H kvs rows ∧ WF rows ∧ rows.length < 49 ∧ xs.length < 900 ∧
  (AdmOk rows n lv lo hi heir → Went K H p dx l d xs (putR rows n ⟨lv, lo, hi, heir⟩) .non Q) ∧ (¬ AdmOk rows n lv lo hi heir → XOut K H E)
theorem okf_admit (T : Txt K mg) (P_has : MB P w K mg base 1 "__contains__" (spHas K)) (P_is_crossed : Pr P w K mg base CX0 1 "is_crossed" spCross) (P_kept : Pr P w K mg base CX0 1 "kept" spKept) (P_check : MX P w K mg base 3 "check" (spCheck K)) (P_keep : MB P w K mg base 1 "keep" (spKeep K))
    (XT : XI1 P w K mg base "Taken" "name") (XO : XI1 P w K mg base "Outside" "number") (XC : XI2 P w K mg base) : ∃ fd, FunD K "admit" "Board.admit" (defArgs s_Board_admit) (defBody s_Board_admit) (defScope s_Board_admit) [V.non, V.non, V.non] [] (mB K "admit") fd ∧ FnOk P w K mg base (L2.CX P w) 4 (mB K "admit") fd ["self", "name", "level", "low", "high", "heir"] (spAdmit K) := by
  obtain ⟨fd, F⟩ := T.f_Board_admit
  obtain ⟨f1, ok_Taken, b_Taken⟩ := XT
  obtain ⟨f2, ok_Outside, b_Outside⟩ := XO
  obtain ⟨f3, ok_Crossed, b_Crossed⟩ := XC
  refine ⟨fd, F, F.ok sc_Board_admit (fun vs H Q E h => ?_) (fun cdv A outer s H vs Q E hr h => ?_)⟩
  · obtain ⟨_, _, _, _, _, _, _, _, _, _, _, _, rfl, _⟩ := h
    rfl
  · obtain ⟨p, dx, l, d, kvs, xs, rows, n, lv, lo, hi, heir, rfl, b, hrows, W, hlen, hxs, q1, q2⟩ := h
    refine ⟨_, (pss_cons (ps_if (pt_cmpR (op_inOwn (E := E0) T.d_Board_contains T.n_Board_contains P_has (hr.mono (by decide)) pass0) (pv 1) (pv 0) rfl) (pss_one (ps_raise rfl (takes_of rfl rfl rfl rfl) (pmk_oex T.ox_Taken T.oi_Taken T.ot_Taken ok_Taken (hr.mono (by decide)) b_Taken .nil pass0 rfl T.g_Taken (pa_cons (pv 1) pa_nil)))) pss_nil) (pss_cons (ps_if (pt_val (pe_g P_is_crossed (hr.mono (by decide)) pass0 (pa_cons (pv 3) (pa_cons (pv 4) pa_nil)))) (pss_one (ps_raise rfl (takes_of rfl rfl rfl rfl) (pmk_oex T.ox_Crossed T.oi_Crossed T.ot_Crossed ok_Crossed (hr.mono (by decide)) b_Crossed .nil pass0 rfl T.g_Crossed (pa_cons (pv 3) (pa_cons (pv 4) pa_nil))))) pss_nil) (pss_cons (ps_if (pt_cmpR op_ne (pe_g P_kept (hr.mono (by decide)) pass0 (pa_cons (pv 2) (pa_cons (pv 3) (pa_cons (pv 4) pa_nil)))) (pv 2) (nomark _)) (pss_one (ps_raise rfl (takes_of rfl rfl rfl rfl) (pmk_oex T.ox_Outside T.oi_Outside T.ot_Outside ok_Outside (hr.mono (by decide)) b_Outside .nil pass0 rfl T.g_Outside (pa_cons (pv 2) pa_nil)))) pss_nil) (pss_cons (ps_if (pt_cmpR op_notN (pv 5) pe_non (nomark _)) (pss_one (ps_expr (pe_methSl (E := E) (pv 0) T.cl_Board T.m_Board_check P_check (hr.mono (by decide)) (passes_call (takes_of rfl rfl rfl rfl) (fun _ _ _ _ z => z)) (pa_cons (pv 5) pa_nil)))) pss_nil) (pss_one (ps_expr (pe_methSl (E := E0) (pv 0) T.cl_Board T.m_Board_keep P_keep (hr.mono (by decide)) pass0 (pa_cons (pe_dstarK (pe_sl (pv 0)) (pv 1) (pe_tup (pa_cons (pv 2) (pa_cons (pv 3) (pa_cons (pv 4) (pa_cons (pv 5) pa_nil)))))) pa_nil)))))))), ?_⟩
    have hb : Bd K H p rows := ⟨dx, l, d, kvs, xs, b, hrows, W, by omega⟩
    refine ⟨_, rfl, _, rfl, p, dx, _, rfl, b.slt, p, n, rows, rfl, hb, fun H1 k1 => ⟨_, rfl, _, rfl, ?_⟩⟩
    cases hg : getR rows n with
    | some a =>
      refine iteT ⟨_, rfl, ?_⟩
      exact xraise1 k1 (q2 fun z => by have z1 := z.1; rw [hg] at z1; cases z1) (.inr (.inl ⟨rfl, _, rfl⟩))
    | none =>
      refine iteF ⟨_, rfl, _, rfl, lo, hi, rfl, _, rfl, ?_⟩
      cases hc : crossOB lo hi with
      | true =>
        refine iteT ⟨_, rfl, _, rfl, ?_⟩
        exact xraise2 k1 (q2 fun z => by have z1 := z.2.1; rw [hc] at z1; cases z1) (.inr (.inr (.inr (.inr (.inr ⟨rfl, _, _, rfl⟩)))))
      | false =>
        refine iteF ⟨_, rfl, _, rfl, _, rfl, lv, lo, hi, rfl, _, rfl, rfl, _, rfl, ?_⟩
        by_cases hk : kept lv lo hi = lv
        · refine decNF (congrArg V.int hk) ?_
          -- behind the test of the heir
          have fin : (∀ h, heir = some h → getR rows h ≠ none) → ∀ H2, Kp [] H H2 → ∀ Qn : VK, (∀ H', Q .non H' → Qn .non H') → (SlX.tMethSl (ga K "Board") (spKeep K) E0 (tVar 0) (tCons (tDStarK (SlX.tSl K (tVar 0) "own_rows") (tVar 1) (tTup (tCons (tVar 2) (tCons (tVar 3) (tCons (tVar 4) (tCons (tVar 5) tNil)))))) tNil)) [some (.ref p), some (.str n), some (.int lv), some (optV lo), some (optV hi), some (optS heir)] H2 Qn := by
            intro hh H2 k2 Qn hQn
            have b2 := b.kp0 k2
            have hr2 := hrows.kp k2
            refine ⟨_, rfl, p, dx, _, rfl, b2.slt, fun d' hd' => ?_⟩
            have b3 := b2.kp0 (Kp.r0.laid (o := .dK []) hd')
            refine ⟨_, rfl, _, _, _, _, _, _, _, rfl, b3.slt, T.cl_Board, T.sl_own_rows, rfl, d, kvs, rfl, ne_of_none b2.hd hd', b3.hd, upd_same, rows_nd hrows W.nd, ?_, fun c hc' => ?_⟩
            · have := Paired.length hrows
              unfold sizeLine
              omega
            have hc1 : (upd H2 d' (.dK [])) c = none := by
              by_cases e : c = d'
              · subst e
                rw [upd_same] at hc'
                cases hc'
              · rw [upd_ne e] at hc'
                exact hc'
            have hcd : c ≠ d' := fun e => by subst e; rw [upd_same] at hc1; cases hc1
            have hc2 : H2 c = none := by rw [upd_ne hcd] at hc1; exact hc1
            refine ⟨_, rfl, _, rfl, _, rfl, _, rfl, _, rfl, Nat.le_of_ble_eq_true rfl, fun t ht => ?_⟩
            have k5 : Kp [] H2 (upd (upd (upd (upd H2 d' (.dK [])) d' (.dK kvs)) c (.dK [])) t (.tup [.int lv, optV lo, optV hi, optS heir])) := (((Kp.r0.laid hd').new hd').new hc2).laid ht
            have hct : c ≠ t := fun e => by subst e; rw [upd_same] at ht; cases ht
            have hdt : d' ≠ t := fun e => by subst e; rw [upd_ne hcd.symm, upd_same] at ht; cases ht
            have h5c : (upd (upd (upd (upd H2 d' (.dK [])) d' (.dK kvs)) c (.dK [])) t (.tup [.int lv, optV lo, optV hi, optS heir])) c = some (.dK []) := by rw [upd_ne hct, upd_same]
            have h5d : (upd (upd (upd (upd H2 d' (.dK [])) d' (.dK kvs)) c (.dK [])) t (.tup [.int lv, optV lo, optV hi, optS heir])) d' = some (.dK kvs) := by rw [upd_ne hdt, upd_ne hcd.symm, upd_same]
            have h5t : SqT K (upd (upd (upd (upd H2 d' (.dK [])) d' (.dK kvs)) c (.dK [])) t (.tup [.int lv, optV lo, optV hi, optS heir])) t [.int lv, optV lo, optV hi, optS heir] := .of upd_same
            refine ⟨.inr n, rfl, h5c, h5d, ?_⟩
            generalize (upd (upd (upd (upd H2 d' (.dK [])) d' (.dK kvs)) c (.dK [])) t (.tup [.int lv, optV lo, optV hi, optS heir])) = H5 at k5 h5c h5d h5t
            obtain ⟨s1, s2, s3⟩ := star_rows (n := n) (a := ⟨lv, lo, hi, heir⟩) k5 hd' hc2 hr2 W.nd h5t
            have s3' := s3 ((Kp.rfl'.out (by simp) fun o ho => by rw [h5c] at ho; cases ho; exact fun z => z).out (by simp) fun o ho => by rw [h5d] at ho; cases ho; exact fun z => z)
            refine ⟨p, d', dx, l, d, kvs, _, xs, rfl, b2.kp0 s1, s2, by omega, fun H7 k7 b7 => hQn _ (q1 ⟨hg, hc, hk, hh⟩ d' _ H7 ((k2.trans s1).all.trans k7) b7 (s3'.kp k7))⟩
          cases heir with
          | none => exact ⟨_, rfl, rfl, _, rfl, decNF rfl (fin (fun _ z => nomatch z) H1 k1 _ fun _ z => z)⟩
          | some h =>
            refine ⟨_, rfl, rfl, _, rfl, decNT (fun z => nomatch z) ?_⟩
            refine ⟨_, rfl, p, dx, _, rfl, (b.kp0 k1).slt, _, rfl, p, h, rows, rfl, hb.kp k1, fun hg2 H2 k2 => ?_, fun hg2 => (q2 fun z => z.2.2.2 h rfl hg2).kp k1⟩
            exact fin (fun h' e => by cases Option.some.inj e; exact hg2) H2 (k1.trans k2) _ fun _ z => z
        · refine decNT (fun z => hk (V.int.inj z)) ⟨_, rfl, ?_⟩
          exact xraise1 k1 (q2 fun z => hk z.2.2.1) (.inr (.inr (.inr (.inr (.inl ⟨rfl, _, rfl⟩)))))
end
end K65
set_option Elab.async false
set_option linter.all false
set_option maxRecDepth 100000
set_option maxHeartbeats 4000000
namespace K65
open PySem PySem.Spec PyProof.Rows L2 SlX He
section
variable {P : Program} {w : World} {K : PySem.W.Frag} {mg : Str → Option Value} {base : Heap}
/-- self.keep({**self.own_rows, name: row}) -/
theorem keep_row (T : Txt K mg) {H2 : Hp} {σ : L2.St} {p dx l d : Addr} {kvs : List (Key × V)} {xs : List V} {rows : RowsL} {n : Str} {a : Ac} {tt : TE} {Qn : VK} (b2 : BX K H2 p dx l d kvs xs) (hr2 : RowsAt K H2 kvs rows) (nd : (rows.map (·.1)).Nodup) (hlen : rows.length < 100) (hxs : xs.length < 950) (e0 : σ[0]? = some (some (.ref p))) (e1 : σ[1]? = some (some (.str n)))
    (htt : ∀ (H' : Hp) (R : VK), Kp [] H2 H' → (∀ t H'', Kp [] H' H'' → SqT K H'' t [.int a.lv, optV a.lo, optV a.hi, optS a.heir] → R (.ref t) H'') → tt σ H' R) (q : Went K H2 p dx l d xs (putR rows n a) .non Qn) :
    SlX.tMethSl (ga K "Board") (spKeep K) E0 (tVar 0) (tCons (tDStarK (SlX.tSl K (tVar 0) "own_rows") (tVar 1) tt) tNil) σ H2 Qn := by
  refine ⟨_, e0, p, dx, _, rfl, b2.slt, fun d' hd' => ?_⟩
  have b3 := b2.kp0 (Kp.r0.laid (o := .dK []) hd')
  refine ⟨_, e0, _, _, _, _, _, _, _, rfl, b3.slt, T.cl_Board, T.sl_own_rows, rfl, d, kvs, rfl, ne_of_none b2.hd hd', b3.hd, upd_same, rows_nd hr2 nd, ?_, fun c hc' => ?_⟩
  · have := Paired.length hr2
    unfold sizeLine
    omega
  have hc1 : (upd H2 d' (.dK [])) c = none := by
    by_cases e : c = d'
    · subst e
      rw [upd_same] at hc'
      cases hc'
    · rw [upd_ne e] at hc'
      exact hc'
  have hcd : c ≠ d' := fun e => by subst e; rw [upd_same] at hc1; cases hc1
  have hc2 : H2 c = none := by rw [upd_ne hcd] at hc1; exact hc1
  have k4 : Kp [] H2 (upd (upd (upd H2 d' (.dK [])) d' (.dK kvs)) c (.dK [])) := ((Kp.r0.laid hd').new hd').new hc2
  refine ⟨_, e1, htt _ _ k4 fun t H5 k5' ht => ?_⟩
  have h5c : H5 c = some (.dK []) := k5'.at0 upd_same
  have h5d : H5 d' = some (.dK kvs) := k5'.at0 (by rw [upd_ne hcd.symm, upd_same])
  have k5 := k4.trans k5'
  refine ⟨.inr n, rfl, h5c, h5d, ?_⟩
  obtain ⟨s1, s2, s3⟩ := star_rows (n := n) (a := a) k5 hd' hc2 hr2 nd ht
  have s3' := s3 ((Kp.rfl'.out (by simp) fun o ho => by rw [h5c] at ho; cases ho; exact fun z => z).out (by simp) fun o ho => by rw [h5d] at ho; cases ho; exact fun z => z)
  exact ⟨p, d', dx, l, d, kvs, _, xs, rfl, b2.kp0 s1, s2, by omega, fun H7 k7 b7 => q d' _ H7 (s1.all.trans k7) b7 (s3'.kp k7)⟩
theorem Went.kp {H H2 : Hp} {p dx l d : Addr} {xs : List V} {rows : RowsL} {v : V} {Q : VK} (h : Went K H p dx l d xs rows v Q) (k : Kp [] H H2) : Went K H2 p dx l d xs rows v Q := fun d' kvs' H' k' b r => h d' kvs' H' (k.all.trans k') b r
/-! ### gifts, calls -/
def spGive (K : PySem.W.Frag) : Sp := fun vs H Q E => ∃ (p dx l d : Addr) (kvs : List (Key × V)) (xs : List V) (rows : RowsL) (n : Str) (r : Int), vs = [.ref p, .str n, .int r] ∧ BX K H p dx l d kvs xs ∧ RowsAt K H kvs rows ∧ WF rows ∧ rows.length < 50 ∧ xs.length < 900 ∧
  (∀ ln, Ch (getR rows) n ln → Went K H p dx l d xs (handR rows ln r).1 (.int (absI (handR rows ln r).2)) Q) ∧ (getR rows n = none → XOut K H E)
theorem ok_give (T : Txt K mg) (P_handed_on : Pr P w K mg base CX0 2 "handed_on" (spHand K)) (P_chain : MX P w K mg base 5 "chain" (spChain K)) (P_keep : MB P w K mg base 1 "keep" (spKeep K)) : MX P w K mg base 6 "give" (spGive K) := by
  obtain ⟨fd, F⟩ := T.f_Board_give
  refine ((F.ok sc_Board_give (fun vs H Q E h => ?_) (fun cdv A outer s H vs Q E hr h => ?_)).raw (F.bindsN fun _ _ _ _ _ _ us hl => match us, hl with | [_, _, _], _ => rfl) .nil).imp fun vs H Q E h => by rw [List.append_nil]; exact h
  · obtain ⟨_, _, _, _, _, _, _, _, _, rfl, _⟩ := h
    rfl
  · obtain ⟨p, dx, l, d, kvs, xs, rows, n, r, rfl, b, hrows, W, hlen, hxs, q1, q2⟩ := h
    refine ⟨_, (pss_cons (ps_asg (pe_g P_handed_on (hr.mono (by decide)) pass0 (pa_cons (pe_sl (pv 0)) (pa_cons (pe_methSl (E := E) (pv 0) T.cl_Board T.m_Board_chain P_chain (hr.mono (by decide)) (passes_call (takes_of rfl rfl rfl rfl) (fun _ _ _ _ z => z)) (pa_cons (pv 1) pa_nil)) (pa_cons (pv 2) pa_nil)))) (pg_tup rfl (pgs_cons (pg_name (i := 3) sc_Board_give.nd rfl (Or.inl rfl)) (pgs_cons (pg_name (i := 4) sc_Board_give.nd rfl (Or.inl rfl)) pgs_nil)))) (pss_cons (ps_expr (pe_methSl (E := E0) (pv 0) T.cl_Board T.m_Board_keep P_keep (hr.mono (by decide)) pass0 (pa_cons (pv 3) pa_nil))) (pss_one (ps_ret (pv 4))))), ?_⟩
    have hb : Bd K H p rows := ⟨dx, l, d, kvs, xs, b, hrows, W, hlen⟩
    refine ⟨_, rfl, _, _, _, _, _, _, _, rfl, b.slt, T.cl_Board, T.sl_own_rows, rfl, _, rfl, p, dx, _, rfl, b.slt, _, rfl, p, n, rows, rfl, hb, fun ln t H1 hc k1 ht => ?_, q2⟩
    refine ⟨_, rfl, d, t, kvs, rows, ln, r, rfl, k1.at0 b.hd, hrows.kp k1, W.nd, by omega, ht.sq, (fun m hm z => by obtain ⟨a, ha⟩ := hc.mem m hm; rw [ha] at z; cases z), fun u d' kvs' H2 k2 hd' hdn hr' hu => ?_⟩
    have k12 := k1.trans k2
    refine ⟨u, _, rfl, hu, rfl, _, _, rfl, _, _, rfl, rfl, ?_⟩
    refine ⟨_, rfl, p, dx, _, rfl, (b.kp0 k12).slt, _, rfl, p, d', dx, l, d, kvs, kvs', xs, rfl, b.kp0 k12, hd', by omega, fun H3 k3 b3 => ?_⟩
    exact ⟨_, rfl, q1 ln hc d' kvs' H3 (k12.all.trans k3) b3 (hr'.kp k3)⟩
def spCallB (K : PySem.W.Frag) : Sp := fun vs H Q E => ∃ (p dx l d : Addr) (kvs : List (Key × V)) (xs : List V) (rows : RowsL) (n : Str) (r : Int), vs = [.ref p, .str n, .int r] ∧ BX K H p dx l d kvs xs ∧ RowsAt K H kvs rows ∧ WF rows ∧ rows.length < 50 ∧ xs.length < 900 ∧
  (∀ ln, Ch (getR rows) n ln → Went K H p dx l d xs (handR rows ln (-r)).1 (.int (absI (handR rows ln (-r)).2)) Q) ∧ (getR rows n = none → XOut K H E)
theorem ok_callB (T : Txt K mg) (P_give : MX P w K mg base 6 "give" (spGive K)) : MX P w K mg base 7 "call" (spCallB K) := by
  obtain ⟨fd, F⟩ := T.f_Board_call
  refine ((F.ok sc_Board_call (fun vs H Q E h => ?_) (fun cdv A outer s H vs Q E hr h => ?_)).raw (F.bindsN fun _ _ _ _ _ _ us hl => match us, hl with | [_, _, _], _ => rfl) .nil).imp fun vs H Q E h => by rw [List.append_nil]; exact h
  · obtain ⟨_, _, _, _, _, _, _, _, _, rfl, _⟩ := h
    rfl
  · obtain ⟨p, dx, l, d, kvs, xs, rows, n, r, rfl, b, hrows, W, hlen, hxs, q1, q2⟩ := h
    refine ⟨_, (pss_one (ps_ret (pe_methSl (E := E) (pv 0) T.cl_Board T.m_Board_give P_give (hr.mono (by decide)) (passes_call (takes_of rfl rfl rfl rfl) (fun _ _ _ _ z => z)) (pa_cons (pv 1) (pa_cons (pe_un un_neg (pv 2)) pa_nil))))), ?_⟩
    exact ⟨_, rfl, p, dx, _, rfl, b.slt, _, rfl, _, rfl, _, rfl, p, dx, l, d, kvs, xs, rows, n, -r, rfl, b, hrows, W, hlen, hxs, q1, q2⟩
/-! ### other bounds -/
def spRule (K : PySem.W.Frag) : Sp := fun vs H Q E => ∃ (p dx l d : Addr) (kvs : List (Key × V)) (xs : List V) (rows : RowsL) (n : Str) (lo hi : Option Int), vs = [.ref p, .str n, optV lo, optV hi] ∧ BX K H p dx l d kvs xs ∧ RowsAt K H kvs rows ∧ WF rows ∧ rows.length < 50 ∧ xs.length < 900 ∧
  (∀ a, getR rows n = some a → crossOB lo hi = false → Went K H p dx l d xs (putR rows n ⟨kept a.lv lo hi, lo, hi, a.heir⟩) (.int (kept a.lv lo hi - a.lv)) Q) ∧ (getR rows n = none ∨ crossOB lo hi = true → XOut K H E)
theorem ok_rule (T : Txt K mg) (P_check : MX P w K mg base 3 "check" (spCheck K)) (P_is_crossed : Pr P w K mg base CX0 1 "is_crossed" spCross) (P_kept : Pr P w K mg base CX0 1 "kept" spKept) (P_getitem : MB P w K mg base 4 "__getitem__" (spGet K)) (P_heir_of : MB P w K mg base 4 "heir_of" (spHeir K)) (P_keep : MB P w K mg base 1 "keep" (spKeep K)) (XC : XI2 P w K mg base) : MX P w K mg base 6 "rule" (spRule K) := by
  obtain ⟨fd, F⟩ := T.f_Board_rule
  obtain ⟨f3, ok_Crossed, b_Crossed⟩ := XC
  refine ((F.ok sc_Board_rule (fun vs H Q E h => ?_) (fun cdv A outer s H vs Q E hr h => ?_)).raw (F.bindsN fun _ _ _ _ _ _ us hl => match us, hl with | [_, _, _, _], _ => rfl) .nil).imp fun vs H Q E h => by rw [List.append_nil]; exact h
  · obtain ⟨_, _, _, _, _, _, _, _, _, _, rfl, _⟩ := h
    rfl
  · obtain ⟨p, dx, l, d, kvs, xs, rows, n, lo, hi, rfl, b, hrows, W, hlen, hxs, q1, q2⟩ := h
    refine ⟨_, (pss_cons (ps_expr (pe_methSl (E := E) (pv 0) T.cl_Board T.m_Board_check P_check (hr.mono (by decide)) (passes_call (takes_of rfl rfl rfl rfl) (fun _ _ _ _ z => z)) (pa_cons (pv 1) pa_nil))) (pss_cons (ps_if (pt_val (pe_g P_is_crossed (hr.mono (by decide)) pass0 (pa_cons (pv 2) (pa_cons (pv 3) pa_nil)))) (pss_one (ps_raise rfl (takes_of rfl rfl rfl rfl) (pmk_oex T.ox_Crossed T.oi_Crossed T.ot_Crossed ok_Crossed (hr.mono (by decide)) b_Crossed .nil pass0 rfl T.g_Crossed (pa_cons (pv 2) (pa_cons (pv 3) pa_nil))))) pss_nil) (pss_cons (ps_set (i := 4) sc_Board_rule.nd rfl (.inl rfl) (pe_g P_kept (hr.mono (by decide)) pass0 (pa_cons (pe_subOwn (E := E) T.d_Board_getitem T.i_Board_getitem T.n_Board_getitem P_getitem (hr.mono (by decide)) pass0 (pv 0) (pv 1)) (pa_cons (pv 2) (pa_cons (pv 3) pa_nil))))) (pss_cons (ps_set (i := 5) sc_Board_rule.nd rfl (.inl rfl) (pe_op op_sub (pv 4) (pe_subOwn (E := E) T.d_Board_getitem T.i_Board_getitem T.n_Board_getitem P_getitem (hr.mono (by decide)) pass0 (pv 0) (pv 1)))) (pss_cons (ps_expr (pe_methSl (E := E0) (pv 0) T.cl_Board T.m_Board_keep P_keep (hr.mono (by decide)) pass0 (pa_cons (pe_dstarK (pe_sl (pv 0)) (pv 1) (pe_tup (pa_cons (pv 4) (pa_cons (pv 2) (pa_cons (pv 3) (pa_cons (pe_methSl (E := E0) (pv 0) T.cl_Board T.m_Board_heir_of P_heir_of (hr.mono (by decide)) pass0 (pa_cons (pv 1) pa_nil)) pa_nil)))))) pa_nil))) (pss_one (ps_ret (pv 5)))))))), ?_⟩
    have hb : Bd K H p rows := ⟨dx, l, d, kvs, xs, b, hrows, W, hlen⟩
    refine ⟨_, rfl, p, dx, _, rfl, b.slt, _, rfl, p, n, rows, rfl, hb, fun hg H1 k1 => ?_, fun hg => q2 (.inl hg)⟩
    obtain ⟨a, ha⟩ : ∃ a, getR rows n = some a := Option.isSome_iff_exists.mp (by cases h : getR rows n with | none => exact absurd h hg | some _ => rfl)
    refine ⟨_, rfl, _, rfl, lo, hi, rfl, _, rfl, ?_⟩
    cases hc : crossOB lo hi with
    | true =>
      refine iteT ⟨_, rfl, _, rfl, ?_⟩
      exact xraise2 k1 (q2 (.inr hc)) (.inr (.inr (.inr (.inr (.inr ⟨rfl, _, _, rfl⟩)))))
    | false =>
      refine iteF ?_
      have b1 := b.kp0 k1
      refine ⟨_, rfl, _, rfl, p, dx, _, rfl, b1.slt, p, n, rows, a, rfl, hb.kp k1, ha, fun H2 k2 => ?_⟩
      refine ⟨_, rfl, _, rfl, a.lv, lo, hi, rfl, ?_⟩
      have k12 := k1.trans k2
      have b2 := b.kp0 k12
      refine ⟨_, rfl, _, rfl, _, rfl, p, dx, _, rfl, b2.slt, p, n, rows, a, rfl, hb.kp k12, ha, fun H3 k3 => ⟨_, _, rfl, rfl, ?_⟩⟩
      have k13 := k12.trans k3
      refine keep_row T (a := ⟨kept a.lv lo hi, lo, hi, a.heir⟩) (b.kp0 k13) (hrows.kp k13) W.nd (by omega) (by omega) rfl rfl (fun H' R k' hR => ?_) ?_
      · refine ⟨_, rfl, _, rfl, _, rfl, _, rfl, p, dx, _, rfl, (b.kp0 (k13.trans k')).slt, _, rfl, p, n, rows, a, rfl, hb.kp (k13.trans k'), ha, fun H4 k4 => ⟨Nat.le_of_ble_eq_true rfl, fun t ht => hR t _ (k4.laid ht) (.of upd_same)⟩⟩
      · intro d' kvs' H5 k5 b5 r5
        exact ⟨_, rfl, q1 a ha hc d' kvs' H5 (k13.all.trans k5) b5 r5⟩
end
end K65
set_option Elab.async false
set_option linter.all false
set_option maxRecDepth 100000
set_option maxHeartbeats 4000000
namespace K65
open PySem PySem.Spec PyProof.Rows L2 SlX He
section
variable {P : Program} {w : World} {K : PySem.W.Frag} {mg : Str → Option Value} {base : Heap}
/-! ### another heir -/
def LeaveOk (rows : RowsL) (n : Str) (heir : Option Str) : Prop := getR rows n ≠ none ∧ ∀ h, heir = some h → ∃ l, Ch (getR rows) h l ∧ n ∉ l
def spLeave (K : PySem.W.Frag) : Sp := fun vs H Q E => ∃ (p dx l d : Addr) (kvs : List (Key × V)) (xs : List V) (rows : RowsL) (n : Str) (heir : Option Str), vs = [.ref p, .str n, optS heir] ∧ BX K H p dx l d kvs xs ∧ RowsAt K H kvs rows ∧ WF rows ∧ rows.length < 50 ∧ xs.length < 900 ∧
  (LeaveOk rows n heir → ∀ a, getR rows n = some a → Went K H p dx l d xs (putR rows n { a with heir := heir }) .non Q) ∧ (¬ LeaveOk rows n heir → XOut K H E)
theorem ok_leave (T : Txt K mg) (P_check : MX P w K mg base 3 "check" (spCheck K)) (P_chain : MX P w K mg base 5 "chain" (spChain K)) (P_keep : MB P w K mg base 1 "keep" (spKeep K)) (XR : XI1 P w K mg base "Ring" "name") : MX P w K mg base 6 "leave_to" (spLeave K) := by
  obtain ⟨fd, F⟩ := T.f_Board_leave_to
  obtain ⟨f3, ok_Ring, b_Ring⟩ := XR
  refine ((F.ok sc_Board_leave_to (fun vs H Q E h => ?_) (fun cdv A outer s H vs Q E hr h => ?_)).raw (F.bindsN fun _ _ _ _ _ _ us hl => match us, hl with | [_, _, _], _ => rfl) .nil).imp fun vs H Q E h => by rw [List.append_nil]; exact h
  · obtain ⟨_, _, _, _, _, _, _, _, _, rfl, _⟩ := h
    rfl
  · obtain ⟨p, dx, l, d, kvs, xs, rows, n, heir, rfl, b, hrows, W, hlen, hxs, q1, q2⟩ := h
    refine ⟨_, (pss_cons (ps_expr (pe_methSl (E := E) (pv 0) T.cl_Board T.m_Board_check P_check (hr.mono (by decide)) (passes_call (takes_of rfl rfl rfl rfl) (fun _ _ _ _ z => z)) (pa_cons (pv 1) pa_nil))) (pss_cons (ps_if (PW.pt (pw_and (pt_cmpR op_notN (pv 2) pe_non (nomark _)) (pw_and1 (pt_cmpR op_in_seq (pv 1) (pe_methSl (E := E) (pv 0) T.cl_Board T.m_Board_chain P_chain (hr.mono (by decide)) (passes_call (takes_of rfl rfl rfl rfl) (fun _ _ _ _ z => z)) (pa_cons (pv 2) pa_nil)) rfl)))) (pss_one (ps_raise rfl (takes_of rfl rfl rfl rfl) (pmk_oex T.ox_Ring T.oi_Ring T.ot_Ring ok_Ring (hr.mono (by decide)) b_Ring .nil pass0 rfl T.g_Ring (pa_cons (pv 2) pa_nil)))) pss_nil) (pss_cons (ps_asg (pe_dget (hu_of hr) (pe_sl (pv 0)) (pv 1) (fun _ _ => rfl)) (pg_tup rfl (pgs_cons (pg_name (i := 3) sc_Board_leave_to.nd rfl (Or.inl rfl)) (pgs_cons (pg_name (i := 4) sc_Board_leave_to.nd rfl (Or.inl rfl)) (pgs_cons (pg_name (i := 5) sc_Board_leave_to.nd rfl (Or.inl rfl)) (pgs_cons (pg_name (i := 6) sc_Board_leave_to.nd rfl (Or.inl rfl)) pgs_nil)))))) (pss_one (ps_expr (pe_methSl (E := E0) (pv 0) T.cl_Board T.m_Board_keep P_keep (hr.mono (by decide)) pass0 (pa_cons (pe_dstarK (pe_sl (pv 0)) (pv 1) (pe_tup (pa_cons (pv 3) (pa_cons (pv 4) (pa_cons (pv 5) (pa_cons (pv 2) pa_nil)))))) pa_nil))))))), ?_⟩
    have hb : Bd K H p rows := ⟨dx, l, d, kvs, xs, b, hrows, W, hlen⟩
    refine ⟨_, rfl, p, dx, _, rfl, b.slt, _, rfl, p, n, rows, rfl, hb, fun hg H1 k1 => ?_, fun hg => q2 fun z => z.1 hg⟩
    obtain ⟨a, ha⟩ : ∃ a, getR rows n = some a := Option.isSome_iff_exists.mp (by cases h : getR rows n with | none => exact absurd h hg | some _ => rfl)
    have fin : (∀ h, heir = some h → ∃ l, Ch (getR rows) h l ∧ n ∉ l) → ∀ H2, Kp [] H H2 → tSeq (tAsg (tDGet (SlX.tSl K (tVar 0) "own_rows") (tVar 1)) (gTup K 4 (gCons (gName 3) (gCons (gName 4) (gCons (gName 5) (gCons (gName 6) gNil)))))) (tDrop (SlX.tMethSl (ga K "Board") (spKeep K) E0 (tVar 0) (tCons (tDStarK (SlX.tSl K (tVar 0) "own_rows") (tVar 1) (tTup (tCons (tVar 3) (tCons (tVar 4) (tCons (tVar 5) (tCons (tVar 2) tNil)))))) tNil))) { nx := fun _ H' => Q .non H', rt := Q } [some (.ref p), some (.str n), some (optS heir), none, none, none, none] H2 := by
      intro hh H2 k2
      have b2 := b.kp0 k2
      obtain ⟨t, hdg, ht⟩ := rowOf b2.hd (hrows.kp k2) ha
      refine ⟨_, rfl, _, _, _, _, _, _, _, rfl, b2.slt, T.cl_Board, T.sl_own_rows, rfl, _, rfl, d, _, rfl, hdg, t, _, rfl, ht, rfl, _, _, rfl, _, _, rfl, _, _, rfl, _, _, rfl, rfl, ?_⟩
      refine keep_row T (a := { a with heir := heir }) b2 (hrows.kp k2) W.nd (by omega) (by omega) rfl rfl (fun H' R k' hR => ?_) ((q1 ⟨hg, hh⟩ a ha).kp k2)
      exact ⟨_, rfl, _, rfl, _, rfl, _, rfl, Nat.le_of_ble_eq_true rfl, fun u hu => hR u _ (Kp.r0.laid hu) (.of upd_same)⟩
    cases heir with
    | none => exact ⟨_, rfl, rfl, _, rfl, iteF (iteF (fin (fun _ z => nomatch z) H1 k1))⟩
    | some h =>
      refine ⟨_, rfl, rfl, _, rfl, iteT ?_⟩
      refine ⟨_, rfl, _, rfl, p, dx, _, rfl, (b.kp0 k1).slt, _, rfl, p, h, rows, rfl, hb.kp k1, fun lh t H2 hc k2 ht => ?_, fun hg2 => (q2 fun z => by obtain ⟨lz, z1, _⟩ := z.2 h rfl; obtain ⟨az, hz⟩ := z1.mem h (by obtain ⟨tl, e⟩ := z1.head; rw [e]; exact List.mem_cons_self ..); rw [hz] at hg2; cases hg2).kp k1⟩
      refine ⟨t, _, rfl, .inr ht.sq, rfl, flat_strs _, _, rfl, ?_⟩
      rw [inV_str]
      by_cases hm : n ∈ lh
      · refine decT hm ⟨_, rfl, ?_⟩
        refine xraise1 (k1.trans k2) (q2 fun z => ?_) (.inr (.inr (.inr (.inl ⟨rfl, _, rfl⟩))))
        obtain ⟨lz, z1, z2⟩ := z.2 h rfl
        rw [hc.det z1] at hm
        exact z2 hm
      · exact decF hm (fin (fun h' e => by cases Option.some.inj e; exact ⟨lh, hc, hm⟩) H2 (k1.trans k2))
end
end K65
set_option Elab.async false
set_option linter.all false
set_option maxRecDepth 100000
set_option maxHeartbeats 4000000
namespace K65
open PySem PySem.Spec PyProof.Rows L2 SlX He
theorem drop_succ {rows : RowsL} {n m : Str} {a : Ac} {i : Nat} (h : rows[i]? = some (m, a)) : dropR (rows.take (i + 1)) n = if m = n then dropR (rows.take i) n else dropR (rows.take i) n ++ [(m, a)] := by
  rw [List.take_add_one, h]
  unfold dropR
  rw [List.filter_append]
  by_cases e : m = n
  · rw [if_pos e]
    have : List.filter (fun p : Str × Ac => decide (p.1 ≠ n)) (some (m, a)).toList = [] := by simp [e]
    rw [this, List.append_nil]
  · rw [if_neg e]
    have : List.filter (fun p : Str × Ac => decide (p.1 ≠ n)) (some (m, a)).toList = [(m, a)] := by simp [e]
    rw [this]
theorem sqT_unlock {K : PySem.W.Frag} {H : Hp} {t d : Addr} {xs : List V} {od : Obj} {kvs : List (Key × V)} {u : HO} (h : SqT K H t xs) (hd : H d = some (.frz od (.dK kvs))) : SqT K (upd H d u) t xs := by
  have ne : ∀ o, H t = some o → o ≠ .frz od (.dK kvs) → t ≠ d := fun o e n z => by
    subst z
    rw [hd] at e
    exact n (Option.some.inj e).symm
  rcases h with (h | ⟨o, h⟩) | h
  · exact .inl (.inl (by rw [upd_ne (ne _ h (fun z => nomatch z))]; exact h))
  · refine .inl (.inr ⟨o, ?_⟩)
    rw [upd_ne (ne _ h (fun z => by injection z with _ z; cases z))]
    exact h
  · exact .inr h
theorem rows_unlock {K : PySem.W.Frag} {H : Hp} {d : Addr} {ks kvs : List (Key × V)} {rows : RowsL} {od : Obj} {u : HO} (h : RowsAt K H ks rows) (hd : H d = some (.frz od (.dK kvs))) : RowsAt K (upd H d u) ks rows :=
  Paired.mapP h fun _ _ z => ⟨z.1, by obtain ⟨t, e, h⟩ := z.2; exact ⟨t, e, sqT_unlock h hd⟩⟩
section
variable {P : Program} {w : World} {K : PySem.W.Frag} {mg : Str → Option Value} {base : Heap}
def ShutOk (rows : RowsL) (n : Str) : Prop := getR rows n ≠ none ∧ ∀ m a, getR rows m = some a → a.heir ≠ some n
def spShut (K : PySem.W.Frag) : Sp := fun vs H Q E => ∃ (p dx l d : Addr) (kvs : List (Key × V)) (xs : List V) (rows : RowsL) (n : Str), vs = [.ref p, .str n] ∧ BX K H p dx l d kvs xs ∧ RowsAt K H kvs rows ∧ WF rows ∧ rows.length < 50 ∧ xs.length < 900 ∧
  (ShutOk rows n → Went K H p dx l d xs (dropR rows n) .non Q) ∧ (¬ ShutOk rows n → XOut K H E)
theorem ok_shut (T : Txt K mg) (P_check : MX P w K mg base 3 "check" (spCheck K)) (P_Board_names : FnR P w K mg base CX0 1 (pg K "Board" "names") (spNames K)) (P_heir_of : MB P w K mg base 4 "heir_of" (spHeir K)) (P_keep : MB P w K mg base 1 "keep" (spKeep K)) (XN : XI1 P w K mg base "Needed" "name") : MX P w K mg base 5 "shut" (spShut K) := by
  obtain ⟨fd, F⟩ := T.f_Board_shut
  obtain ⟨f3, ok_Needed, b_Needed⟩ := XN
  refine ((F.ok sc_Board_shut (fun vs H Q E h => ?_) (fun cdv A outer s H vs Q E hr h => ?_)).raw (F.bindsN fun _ _ _ _ _ _ us hl => match us, hl with | [_, _], _ => rfl) .nil).imp fun vs H Q E h => by rw [List.append_nil]; exact h
  · obtain ⟨_, _, _, _, _, _, _, _, rfl, _⟩ := h
    rfl
  · obtain ⟨p, dx, l, d, kvs, xs, rows, n, rfl, b, hrows, W, hlen, hxs, q1, q2⟩ := h
    refine ⟨_, (pss_cons (ps_expr (pe_methSl (E := E) (pv 0) T.cl_Board T.m_Board_check P_check (hr.mono (by decide)) (passes_call (takes_of rfl rfl rfl rfl) (fun _ _ _ _ z => z)) (pa_cons (pv 1) pa_nil))) (pss_cons (ps_for (passes_of rfl) rfl (pi_tup (pe_propSl (E := E0) (pv 0) T.cl_Board T.p_Board_names.at_ T.p_Board_names.get T.p_Board_names.tk T.p_Board_names.rc P_Board_names (hr.mono (by decide)) (fun _ _ _ _ z => z))) (pg_name (i := 2) sc_Board_shut.nd rfl (Or.inl rfl)) (pss_one (ps_if (pt_cmpR op_eq (pe_methSl (E := E0) (pv 0) T.cl_Board T.m_Board_heir_of P_heir_of (hr.mono (by decide)) pass0 (pa_cons (pv 2) pa_nil)) (pv 1) (nomark _)) (pss_one (ps_raise rfl (takes_of rfl rfl rfl rfl) (pmk_oex T.ox_Needed T.oi_Needed T.ot_Needed ok_Needed (hr.mono (by decide)) b_Needed .nil pass0 rfl T.g_Needed (pa_cons (pv 2) pa_nil)))) pss_nil))) (pss_one (ps_expr (pe_methSl (E := E0) (pv 0) T.cl_Board T.m_Board_keep P_keep (hr.mono (by decide)) pass0 (pa_cons (pe_lock (pe_dc (own := [("other", 2)]) (g := gName 2) (tv := (tDGet (SlX.tSl K (tVar 0) "own_rows") (tVar 2))) rfl sc_Board_shut.nd (pi_keys (pe_sl (pv 0))) (blkOk_by (own := [("other", 2)]) (N := ["self", "name", "other"]) (sc := defScope s_Board_shut) (by decide +kernel)) (fun _ _ _ _ _ => (pg_name (i := 2) sc_Board_shut.nd rfl (Or.inl rfl))) (fun _ _ _ _ _ => (pts_one (pt_cmpR op_ne (pv 2) (pv 1) (nomark _)))) (fun _ _ _ _ _ => (pv 2)) (fun _ _ _ _ _ => (pe_dget (hu_of hr) (pe_sl (pv 0)) (pv 2) (fun _ _ => rfl))))) pa_nil)))))), ?_⟩
    have hb : Bd K H p rows := ⟨dx, l, d, kvs, xs, b, hrows, W, hlen⟩
    refine ⟨_, rfl, p, dx, _, rfl, b.slt, _, rfl, p, n, rows, rfl, hb, fun hg H1 k1 => ?_, fun hg => q2 fun z => z.1 hg⟩
    refine ⟨_, rfl, p, dx, _, rfl, (b.kp0 k1).slt, p, rows, rfl, hb.kp k1, fun t ys H2 k2 hperm ht => ?_⟩
    have k12 := k1.trans k2
    refine ⟨t, rfl, ⟨_, ht⟩, for_it (walk_tup (xs := ys.map V.str)) (fun i σ H' => Kp [] H H' ∧ Kp [] H2 H' ∧ (∀ m ∈ ys.take i, ∀ a, getR rows m = some a → a.heir ≠ some n) ∧ ∃ o2, σ = [some (.ref p), some (.str n), o2]) ⟨k12, Kp.r0, (fun m hm => by rw [List.take_zero] at hm; cases hm), none, rfl⟩ (fun i σ H' _ z => sqTk0 ht z.2.1) ?_ ?_⟩
    · rintro i x σ H3 H4 hi ⟨k3, k23, hal, o2, rfl⟩ ⟨rfl, hxi⟩
      rw [List.getElem?_map] at hxi
      cases hn : ys[i]? with
      | none => rw [hn] at hxi; cases hxi
      | some m =>
        rw [hn] at hxi
        cases Option.some.inj hxi
        have hm : m ∈ rows.map (·.1) := hperm.mem_iff.mp (List.mem_of_getElem? hn)
        obtain ⟨a, ha⟩ := Option.isSome_iff_exists.mp (getR_some.mpr hm)
        refine ⟨_, rfl, p, dx, _, rfl, (b.kp0 k3).slt, _, rfl, p, m, rows, a, rfl, hb.kp k3, ha, fun H5 k5 => ?_⟩
        by_cases he : a.heir = some n
        · rw [he]
          refine ⟨_, rfl, rfl, _, rfl, decT rfl ⟨_, rfl, ?_⟩⟩
          exact xraise1 (k3.trans k5) (q2 fun z => z.2 m a ha he) (.inr (.inr (.inl ⟨rfl, _, rfl⟩)))
        · have hne : ¬ optS a.heir = .str n := fun z => he (by
            cases h : a.heir with
            | none => rw [h] at z; cases z
            | some h' => rw [h] at z; rw [V.str.inj z])
          have hsc : scal (optS a.heir) (.str n) = true := by cases a.heir <;> rfl
          refine ⟨_, rfl, hsc, _, rfl, decF hne ⟨k3.trans k5, k23.trans k5, ?_, _, rfl⟩⟩
          intro m' hm' a' ha'
          rw [List.take_add_one, hn] at hm'
          rcases List.mem_append.mp hm' with h | h
          · exact hal m' h a' ha'
          · cases List.mem_singleton.mp h
            rw [ha] at ha'
            cases Option.some.inj ha'
            exact he
    · rintro σ H3 ⟨k3, k23, hal, o2, rfl⟩
      have hok : ShutOk rows n := ⟨hg, fun m a ha => hal m (by
        rw [List.length_map, List.take_length]
        exact hperm.mem_iff.mpr (getR_some.mp (by rw [ha]; rfl))) a ha⟩
      have b3 := b.kp0 k3
      have hr3 := hrows.kp k3
      refine ⟨_, rfl, p, dx, _, rfl, b3.slt, d, .dK kvs, b3.hd, trivial, fun od => ?_⟩
      have hL : (upd H3 d (.frz od (.dK kvs))) d = some (.frz od (.dK kvs)) := upd_same
      have hLp : (upd H3 d (.frz od (.dK kvs))) p = H3 p := upd_ne b3.pd
      have hLx : (upd H3 d (.frz od (.dK kvs))) dx = H3 dx := upd_ne b3.xd
      have hLo : ∀ c o, c ≠ d → H3 c = some o → (upd H3 d (.frz od (.dK kvs))) c = some o := fun c o e h => by rw [upd_ne e]; exact h
      have hrL : RowsAt K (upd H3 d (.frz od (.dK kvs))) kvs rows := hr3.kp (ex := [d]) (Kp.rfl'.out (List.mem_cons_self ..) fun o ho => by rw [b3.hd] at ho; cases ho; exact fun z => z)
      have hnone : ∀ c, (upd H3 d (.frz od (.dK kvs))) c = none → H3 c = none := fun c h => by
        by_cases e : c = d
        · subst e; rw [hL] at h; cases h
        · rw [upd_ne e] at h; exact h
      generalize (upd H3 d (.frz od (.dK kvs))) = HL at hL hLp hLx hLo hrL hnone
      have sltL : ∀ {H' : Hp}, Kp [] HL H' → Slt H' p (ga K "Board") dx [some (.ref l), some (.ref d)] := fun k => .inr ⟨k.at0 (hLp.trans b3.hp), k.at0 (hLx.trans b3.hx)⟩
      refine ⟨_, rfl, _, _, _, _, _, _, _, rfl, sltL Kp.r0, T.cl_Board, T.sl_own_rows, rfl, d, od, rfl, .inl ⟨kvs, hL, fun D hD => ?_⟩⟩
      have hln := Paired.length hrows
      refine ⟨fun i m H' => m = kvs.length - i ∧ i ≤ kvs.length ∧ Kp [] HL H' ∧ ∃ ks, H' D = some (.dK ks) ∧ RowsAt K H' ks (dropR (rows.take i) n), ⟨_, rfl, Nat.zero_le _, Kp.r0.laid hD, [], upd_same, .nil⟩, ?_⟩
      rintro i m H4 ⟨rfl, hi, k4, ks, hks, hrk⟩
      by_cases hlt : i < kvs.length
      · refine .inr ⟨⟨k4.at0 hL, hlt⟩, fun H' => i + 1 ≤ kvs.length ∧ Kp [] HL H' ∧ ∃ ks, H' D = some (.dK ks) ∧ RowsAt K H' ks (dropR (rows.take (i + 1)) n), fun H' z => ⟨_, by omega, rfl, z⟩, fun x H5 hy => ?_⟩
        obtain ⟨rfl, k, v, hkv, rfl⟩ := hy
        obtain ⟨⟨m, a⟩, hma, hk1, hv⟩ := paired_get hrL hkv
        have hk : k = .inr m := hk1
        subst hk
        have ds := drop_succ (n := n) hma
        refine ⟨rfl, ?_⟩
        refine ⟨_, rfl, _, rfl, rfl, _, rfl, ?_⟩
        have ga1 : getR rows m = some a := getR_of_mem W.nd (List.mem_of_getElem? hma)
        by_cases e : m = n
        · rw [if_pos e] at ds
          exact decNF (congrArg V.str e) ⟨hlt, k4, ks, hks, by rw [ds]; exact hrk⟩
        · rw [if_neg e] at ds
          refine decNT (fun z => e (V.str.inj z)) ?_
          obtain ⟨v', hv1, hv2⟩ := rows_some (hrL.kp k4) ga1
          refine ⟨_, rfl, _, rfl, _, _, _, _, _, _, _, rfl, sltL k4, T.cl_Board, T.sl_own_rows, rfl, _, rfl, d, v', rfl, .inl ⟨kvs, .inr m, .inr ⟨od, k4.at0 hL⟩, rfl, hv1.symm⟩, ks, .inr m, rfl, hks, ?_, hlt, ?_, _, upd_same, ?_⟩
          · have z1 := Paired.length hrk
            have z2 : (dropR (rows.take i) n).length ≤ (rows.take i).length := List.length_filter_le ..
            rw [List.length_take] at z2
            unfold sizeLine
            omega
          · exact k4.new hD
          · rw [ds, ← put_new (n := m) (a := a)]
            · have kk : Kp [D] H5 (upd H5 D (.dK (putK ks (.inr m) v'))) := Kp.rfl'.out (List.mem_cons_self ..) fun o ho => by rw [hks] at ho; cases ho; exact fun z => z
              refine rows_put (hrk.kp kk) ?_ (hv2.kp kk)
              unfold dropR
              exact (W.nd.sublist ((List.filter_sublist ..).trans (List.take_sublist ..) |>.map _))
            · intro z
              obtain ⟨q, hq, eq⟩ := List.mem_map.mp z
              have hq2 : q ∈ rows.take i := (List.mem_filter.mp hq).1
              obtain ⟨hil, hie⟩ := List.getElem?_eq_some_iff.mp hma
              have e3 : rows = rows.take i ++ (m, a) :: rows.drop (i + 1) := by
                rw [← hie, ← List.drop_eq_getElem_cons hil, List.take_append_drop]
              have nd := W.nd
              rw [e3, List.map_append] at nd
              exact (List.nodup_append.mp nd).2.2 q.1 (List.mem_map_of_mem hq2) m (by simp) eq
      · have ei : i = kvs.length := by omega
        subst ei
        rw [hln, List.take_length] at hrk
        have hDd : D ≠ d := fun z => by rw [z, hL] at hD; cases hD
        have hd4 := k4.at0 hL
        have k6 : Kp [] H3 (upd H4 d (.dK kvs)) := fun c o _ hc => by
          by_cases e : c = d
          · subst e
            rw [b3.hd] at hc
            rw [upd_same]
            exact hc
          · rw [upd_ne e]
            exact k4.at0 (hLo c o e hc)
        refine .inl ⟨⟨hd4, Nat.le_refl _⟩, hd4, p, D, dx, l, d, kvs, ks, xs, rfl, b3.kp0 k6, by rw [upd_ne hDd]; exact hks, by omega, fun H7 k7 b7 => q1 hok D ks H7 ((k3.trans k6).all.trans k7) b7 ((rows_unlock hrk hd4).kp k7)⟩
end
end K65
set_option Elab.async false
set_option linter.all false
set_option maxRecDepth 100000
set_option maxHeartbeats 4000000
namespace K65
open PySem PySem.Spec PyProof.Rows L2 SlX He
section
variable {P : Program} {w : World} {K : PySem.W.Frag} {mg : Str → Option Value} {base : Heap}
/-! ### taking back -/
def spBack (K : PySem.W.Frag) : Sp := fun vs H Q _ => ∃ (p dx l d d0 : Addr) (kvs kvs0 : List (Key × V)) (xs : List V), vs = [.ref p] ∧ BX K H p dx l d kvs (xs ++ [.ref d0]) ∧ H d0 = some (.dK kvs0) ∧ xs.length < 1000 ∧ ∀ H', Kp [p, l] H H' → BX K H' p dx l d0 kvs0 xs → Q .non H'
theorem ok_back (T : Txt K mg) : MB P w K mg base 1 "back" (spBack K) := by
  obtain ⟨fd, F⟩ := T.f_Board_back
  refine ((F.ok sc_Board_back (fun vs H Q E h => ?_) (fun cdv A outer s H vs Q E hr h => ?_)).raw (F.bindsN fun _ _ _ _ _ _ us hl => match us, hl with | [_], _ => rfl) .nil).imp fun vs H Q E h => by rw [List.append_nil]; exact h
  · obtain ⟨_, _, _, _, _, _, _, _, rfl, _⟩ := h
    rfl
  · obtain ⟨p, dx, l, d, d0, kvs, kvs0, xs, rfl, b, hd0, hlen, q⟩ := h
    refine ⟨_, PSs.nox (pss_cons (ps_if (pt_cmpR op_eq (pe_callB call_len_seq (by rfl) T.z_len PySem.boot_len (pa_cons (pe_sl (pv 0)) pa_nil)) pe_int (nomark _)) (pss_one ps_never) pss_nil) (pss_one (ps_sl (pv 0) (pe_bm0 PySem.F.plainAttrs_list PySem.F.slot_list_pop PySem.F.type_list_pop mt_pop (pe_sl (pv 0)))))), ?_⟩
    refine ⟨_, rfl, _, _, _, _, _, _, _, rfl, b.slt, T.cl_Board, T.sl_own_past, rfl, l, _, rfl, .inl (.of b.hl), rfl, _, rfl, decF ?_ ?_⟩
    · intro z
      have z1 := V.int.inj z
      rw [List.length_append] at z1
      simp at z1
      omega
    refine ⟨_, rfl, _, _, _, _, _, _, _, rfl, b.slt, T.cl_Board, T.sl_own_past, rfl, .inl ⟨rfl, _, .of b.hl⟩, l, _, .ref d0, rfl, rfl, b.hl, by simp, ?_⟩
    rw [List.dropLast_concat]
    have hld' : d0 ≠ l := ne_of hd0 b.hl (fun z => nomatch z)
    have hpd' : d0 ≠ p := (ne_of b.hp hd0 slO_dK).symm
    have hxd' : d0 ≠ dx := (ne_of b.hx hd0 (fun z => nomatch z)).symm
    have S1 : Slt (upd H l (.lst xs)) p (ga K "Board") dx [some (.ref l), some (.ref d)] := .inr ⟨by rw [upd_ne b.pl]; exact b.hp, by rw [upd_ne b.xl]; exact b.hx⟩
    have k1 : Kp [p, l] H (upd H l (.lst xs)) := Kp.rfl'.out (by simp) b.softl
    refine ⟨_, rfl, _, _, _, _, _, _, rfl, S1, T.cl_Board, T.sl_own_rows, ?_⟩
    refine q _ ?_ ⟨?_, ?_, ?_, ?_⟩
    · unfold slH
      refine Kp.out ?_ (by simp) b.softp
      refine k1.trans fun c o _ hc => ?_
      by_cases e : c = dx
      · subst e
        rw [upd_ne b.xl, b.hx] at hc
        rw [upd_same]
        exact hc
      · rw [upd_ne e]
        exact hc
    · unfold slH
      rw [upd_same]
      rfl
    · unfold slH
      rw [upd_ne b.px.symm, upd_same]
    · unfold slH
      rw [upd_ne hpd', upd_ne hxd', upd_ne hld']
      exact hd0
    · unfold slH
      rw [upd_ne b.pl.symm, upd_ne b.xl.symm, upd_same]
/-! ### new boards -/
def spBI (K : PySem.W.Frag) : Sp := fun vs H Q _ => ∃ (x dx : Addr) (H0 : Hp), vs = [.ref x] ∧ H0 x = none ∧ H0 dx = none ∧ dx ≠ x ∧ H = upd (upd H0 dx (.own x)) x (.ins (ga K "Board") dx []) ∧
  ∀ l d H', Kp [] H0 H' → BX K H' x dx l d [] [] → H0 l = none → H0 d = none → Q .non H'
abbrev BoardI (P : Program) (w : World) (K : PySem.W.Frag) (mg : Str → Option Value) (base : Heap) : Prop := ∃ fd, FnOk P w K mg base CX0 1 (mB K "__init__") fd ["self"] (spBI K) ∧ Binds K fd ["self"] []
theorem ok_board_init (T : Txt K mg) : BoardI P w K mg base := by
  obtain ⟨fd, F⟩ := T.f_Board__init
  refine ⟨fd, F.ok sc_Board__init (fun vs H Q E h => ?_) (fun cdv A outer s H vs Q E hr h => ?_), (F.bindsN fun _ _ _ _ _ _ us hl => match us, hl with | [_], _ => rfl)⟩
  · obtain ⟨_, _, _, rfl, _⟩ := h
    rfl
  · obtain ⟨x, dx, H0, rfl, h1, h2, h3, rfl, q⟩ := h
    refine ⟨_, PSs.nox (pss_one (ps_asg (pe_tup (pa_cons pe_dnewK (pa_cons (pe_lst pa_nil) pa_nil))) (pg_tup rfl (pgs_cons (pg_sl (pv 0)) (pgs_cons (pg_sl (pv 0)) pgs_nil))))), ?_⟩
    refine fun d hd => ⟨Nat.le_of_ble_eq_true rfl, fun l hl => ⟨Nat.le_of_ble_eq_true rfl, fun t ht => ⟨t, _, rfl, .of upd_same, rfl, _, _, rfl, ?_⟩⟩⟩
    have k0 : Kp [] H0 (upd (upd H0 dx (.own x)) x (.ins (ga K "Board") dx [])) := (Kp.r0.laid h2).new h1
    have k1 := ((k0.laid (o := .dK []) hd).laid (o := .lst []) hl).laid (o := .tup [.ref d, .ref l]) ht
    have S0 : (upd (upd (upd (upd (upd H0 dx (.own x)) x (.ins (ga K "Board") dx [])) d (.dK [])) l (.lst [])) t (.tup [.ref d, .ref l])) x = some (.ins (ga K "Board") dx []) :=
      (((Kp.r0.laid (o := .dK []) hd).laid (o := .lst []) hl).laid (o := .tup [.ref d, .ref l]) ht).at0 upd_same
    have hdn : H0 d = none := k0.none0 hd
    have hln : H0 l = none := (k0.laid (o := .dK []) hd).none0 hl
    have hx : (upd (upd H0 dx (.own x)) x (.ins (ga K "Board") dx [])) x = some (.ins (ga K "Board") dx []) := upd_same
    have hdx0 : (upd (upd H0 dx (.own x)) x (.ins (ga K "Board") dx [])) dx = some (.own x) := by rw [upd_ne h3, upd_same]
    have dnx : d ≠ x := fun e => by subst e; rw [hx] at hd; cases hd
    have dndx : d ≠ dx := fun e => by subst e; rw [hdx0] at hd; cases hd
    have lnd : l ≠ d := fun e => by subst e; rw [upd_same] at hl; cases hl
    have lnx : l ≠ x := fun e => by subst e; rw [upd_ne dnx.symm, hx] at hl; cases hl
    have lndx : l ≠ dx := fun e => by subst e; rw [upd_ne dndx.symm, hdx0] at hl; cases hl
    have tnd : d ≠ t := fun e => by subst e; rw [upd_ne lnd.symm, upd_same] at ht; cases ht
    have tnl : l ≠ t := fun e => by subst e; rw [upd_same] at ht; cases ht
    refine ⟨_, rfl, x, _, _, _, _, _, rfl, .inl ⟨S0, rfl⟩, T.cl_Board, T.sl_own_rows, _, _, rfl, _, rfl, x, _, _, _, _, _, rfl, slH_slt h3, T.cl_Board, T.sl_own_past, rfl, ?_⟩
    refine q l d _ (kp_slH (kp_slH k1 h1 h2) h1 h2) ⟨?_, ?_, ?_, ?_⟩ hln hdn
    · unfold slH
      rw [upd_same]
      rfl
    · unfold slH
      rw [upd_ne h3, upd_same]
    · rw [slH_ne dnx dndx, slH_ne dnx dndx, upd_ne tnd, upd_ne lnd.symm, upd_same]
    · rw [slH_ne lnx lndx, slH_ne lnx lndx, upd_ne tnl, upd_same]
end
def tMkB (K : PySem.W.Frag) : TE := fun σ H Q => ∀ x dx l d H', Kp [] H H' → BX K H' x dx l d [] [] → H x = none → H dx = none → H l = none → H d = none → Q (.ref x) H'
theorem pe_mkB0 {X : Cx} {p pos : Pos} (T : Txt X.K X.mg) (BI : BoardI X.prog X.w X.K X.mg X.base) (hr : Room 2 X.A) (hg : Gl X "Board" := by rfl) : PE X (.Call (.Name "Board" p) [] [] pos) (tMkB X.K) := by
  obtain ⟨fd, ok, hb⟩ := BI
  refine ⟨fun pins s σ H Q I h => ?_⟩
  refine wpAny_Call_Name_kw (ld_glob I hg T.g_Board ?_ (by decide))
  refine PySem.W.callWith_K0 I.kIn T.mk_Board.kp (run_make (us := []) (dvs := []) T.mk_Board ok hr hb .nil (E := E0) pass0 I .nil fun x dx h1 h2 h3 => ?_)
  exact ⟨x, dx, H, rfl, h1, h2, h3, rfl, fun l d H' k b hl hd => ⟨rfl, h x dx l d H' k b h1 h2 hl hd⟩⟩
section
variable {P : Program} {w : World} {K : PySem.W.Frag} {mg : Str → Option Value} {base : Heap}
def spTwin (K : PySem.W.Frag) : Sp := fun vs H Q _ => ∃ (p dx l d : Addr) (kvs : List (Key × V)) (xs : List V), vs = [.ref p] ∧ BX K H p dx l d kvs xs ∧ (kvs.map (·.1)).Nodup ∧ ∀ x dx' l' d' H', Kp [] H H' → BX K H' x dx' l' d' kvs [] → H x = none → H dx' = none → H l' = none → H d' = none → Q (.ref x) H'
theorem ok_twin (T : Txt K mg) (BI : BoardI P w K mg base) : MB P w K mg base 3 "twin" (spTwin K) := by
  obtain ⟨fd, F⟩ := T.f_Board_twin
  refine ((F.ok sc_Board_twin (fun vs H Q E h => ?_) (fun cdv A outer s H vs Q E hr h => ?_)).raw (F.bindsN fun _ _ _ _ _ _ us hl => match us, hl with | [_], _ => rfl) .nil).imp fun vs H Q E h => by rw [List.append_nil]; exact h
  · obtain ⟨_, _, _, _, _, _, rfl, _⟩ := h
    rfl
  · obtain ⟨p, dx, l, d, kvs, xs, rfl, b, nd, q⟩ := h
    refine ⟨_, PSs.nox (pss_cons (ps_set (i := 1) sc_Board_twin.nd rfl (.inl rfl) (pe_mkB0 T BI (hr.mono (by decide)))) (pss_cons (ps_sl (pv 1) (pe_dstar (pe_sl (pv 0)))) (pss_one (ps_ret (pv 1))))), ?_⟩
    refine fun x dx' l' d' H1 k1 b1 n1 n2 n3 n4 => ?_
    refine fun e he => ?_
    have b2 := b.kp0 (k1.laid (o := .dK []) he)
    refine ⟨_, rfl, _, _, _, _, _, _, _, rfl, b2.slt, T.cl_Board, T.sl_own_rows, rfl, d, kvs, rfl, ne_of_none (b.kp0 k1).hd he, b2.hd, upd_same, nd, ?_⟩
    have k3 : Kp [] H1 (upd (upd H1 e (.dK [])) e (.dK kvs)) := (Kp.r0.laid he).new he
    have b3 := b1.kp0 k3
    have he3 : (upd (upd H1 e (.dK [])) e (.dK kvs)) e = some (.dK kvs) := upd_same
    have hen : H e = none := k1.none0 he
    generalize (upd (upd H1 e (.dK [])) e (.dK kvs)) = H3 at k3 b3 he3
    have k13 := k1.trans k3
    refine ⟨_, rfl, _, _, _, _, _, _, rfl, b3.slt, T.cl_Board, T.sl_own_rows, _, rfl, ?_⟩
    have exn : e ≠ x := (ne_of b3.hp he3 slO_dK).symm
    have exd : e ≠ dx' := (ne_of b3.hx he3 (fun z => nomatch z)).symm
    refine q x dx' l' e _ (kp_slH k13 n1 n2) ⟨?_, ?_, ?_, ?_⟩ n1 n2 n3 hen
    · unfold slH
      rw [upd_same]
      rfl
    · unfold slH
      rw [upd_ne b3.px.symm, upd_same]
    · rw [slH_ne exn exd]
      exact he3
    · rw [slH_ne b3.pl.symm b3.xl.symm]
      exact b3.hl
end
end K65
set_option Elab.async false
set_option linter.all false
set_option maxRecDepth 100000
set_option maxHeartbeats 4000000
namespace K65
open PySem PySem.Spec PyProof.Rows L2 SlX He
/-- the accounts along a list of names -/
def acc0 : Ac := ⟨0, none, none, none⟩
def accs (rows : RowsL) (ln : List Str) : List Ac := ln.map fun m => (getR rows m).getD acc0
theorem accs_at {rows : RowsL} {ln : List Str} {i : Nat} {m : Str} {a : Ac} (h : ln[i]? = some m) (ha : getR rows m = some a) : (accs rows ln)[i]? = some a := by
  unfold accs
  rw [List.getElem?_map, h, Option.map_some, ha]
  rfl
theorem accs_len (rows : RowsL) (ln : List Str) : (accs rows ln).length = ln.length := by unfold accs; rw [List.length_map]
theorem str_at {ns : List Str} {i : Nat} {x : V} (h : (ns.map V.str)[i]? = some x) : ∃ n, ns[i]? = some n ∧ x = .str n := by
  rw [List.getElem?_map] at h
  cases e : ns[i]? with
  | none => rw [e] at h; cases h
  | some n =>
    rw [e] at h
    exact ⟨n, rfl, (Option.some.inj h).symm⟩
theorem opts_of {ys : List V} {os : List (Option Int)} (hl : ys.length = os.length) (h : ∀ (i : Nat) (y : V), ys[i]? = some y → ∃ o, os[i]? = some o ∧ y = optV o) : ys = os.map optV := by
  refine List.ext_getElem? fun i => ?_
  rw [List.getElem?_map]
  cases e : ys[i]? with
  | none =>
    have : os.length ≤ i := by
      rw [← hl]
      exact List.getElem?_eq_none_iff.mp e
    rw [List.getElem?_eq_none_iff.mpr this]
    rfl
  | some y =>
    obtain ⟨n, h1, rfl⟩ := h i y e
    rw [h1]
    rfl
section
variable {P : Program} {w : World} {K : PySem.W.Frag} {mg : Str → Option Value} {base : Heap}
def spRoom (K : PySem.W.Frag) (f : Ac → Option Int) : Sp := fun vs H Q _ => ∃ (p : Addr) (n : Str) (rows : RowsL) (ln : List Str), vs = [.ref p, .str n] ∧ Bd K H p rows ∧ Ch (getR rows) n ln ∧ ∀ H', Kp [] H H' → Q (optV (sumO ((accs rows ln).map f))) H'
theorem ok_room (T : Txt K mg) (P_chain : MX P w K mg base 5 "chain" (spChain K)) (P_sum_of : Pr P w K mg base CX0 1 "sum_of" (spSum K)) : MB P w K mg base 6 "room" (spRoom K room1) := by
  obtain ⟨fd, F⟩ := T.f_Board_room
  refine ((F.ok sc_Board_room (fun vs H Q E h => ?_) (fun cdv A outer s H vs Q E hr h => ?_)).raw (F.bindsN fun _ _ _ _ _ _ us hl => match us, hl with | [_, _], _ => rfl) .nil).imp fun vs H Q E h => by rw [List.append_nil]; exact h
  · obtain ⟨_, _, _, _, rfl, _⟩ := h
    rfl
  · obtain ⟨p, n, rows, ln, rfl, hb, hch, q⟩ := h
    refine ⟨_, PSs.nox (pss_cons (ps_setLc (i := 2) (own := [("one", 3)]) (g := gName 3) (te := (tDGet (SlX.tSl K (tVar 0) "own_rows") (tVar 3))) rfl sc_Board_room.nd rfl rfl (sw_true rfl rfl rfl (by decide +kernel)) (pi_tup (pe_methSl (E := E0) (pv 0) T.cl_Board T.m_Board_chain P_chain (hr.mono (by decide)) passL (pa_cons (pv 1) pa_nil))) (blkOk_by (own := [("one", 3)]) (N := ["self", "name", "rows", "one", "level", "low", "high", "heir"]) (sc := defScope s_Board_room) (by decide +kernel)) (fun _ _ _ _ _ => (pg_name (i := 3) sc_Board_room.nd rfl (Or.inl rfl))) (fun _ _ _ _ _ => pts_nil) (fun _ _ _ _ _ => (pe_dget (hu_of hr) (pe_sl (pv 0)) (pv 3) (fun _ _ => rfl)))) (pss_one (ps_ret (pe_g P_sum_of (hr.mono (by decide)) pass0 (pa_cons (pe_lc (own := [("level", 4), ("low", 5), ("high", 6), ("heir", 7)]) (g := gTup K 4 (gCons (gName 4) (gCons (gName 5) (gCons (gName 6) (gCons (gName 7) gNil))))) rfl sc_Board_room.nd (pi_list (pv 2)) (blkOk_by (own := [("level", 4), ("low", 5), ("high", 6), ("heir", 7)]) (N := ["self", "name", "rows", "one", "level", "low", "high", "heir"]) (sc := defScope s_Board_room) (by decide +kernel)) (fun _ _ _ _ _ => (pg_tup rfl (pgs_cons (pg_name (i := 4) sc_Board_room.nd rfl (Or.inl rfl)) (pgs_cons (pg_name (i := 5) sc_Board_room.nd rfl (Or.inl rfl)) (pgs_cons (pg_name (i := 6) sc_Board_room.nd rfl (Or.inl rfl)) (pgs_cons (pg_name (i := 7) sc_Board_room.nd rfl (Or.inl rfl)) pgs_nil)))))) (fun _ _ _ _ _ => pts_nil) (fun _ _ _ _ _ => (pe_ifExp (pt_cmpR op_isN (pv 6) pe_non (nomark _)) pe_non (pe_op op_sub (pv 6) (pv 4))))) pa_nil))))), ?_⟩
    obtain ⟨dx, l, d, kvs, xs, b, hrows, W, hlen⟩ := id hb
    have hll := ch_len hch
    refine ⟨_, rfl, p, dx, _, rfl, b.slt, _, rfl, p, n, rows, rfl, hb, fun ln' t H1 hc k1 ht => ?_, fun z => by obtain ⟨tl, e⟩ := hch.head; obtain ⟨a, ha⟩ := hch.mem n (by rw [e]; exact List.mem_cons_self ..); rw [ha] at z; cases z⟩
    cases hc.det hch
    refine ⟨t, rfl, ⟨_, ht.sq⟩, ?_⟩
    refine lc_pure (walk_tup (xs := ln.map V.str)) (fun i y H' => ∃ m a, ln[i]? = some m ∧ getR rows m = some a ∧ RowV K H' y a) (by rw [List.length_map]; unfold sizeLine; omega) tts_true (fun H' k => (ht.kp k).sq) (fun i y H1 H2 D k z => by obtain ⟨m, a, h1, h2, h3⟩ := z; exact ⟨m, a, h1, h2, h3.kp k⟩) (gName_mono 3) ?_ ?_
    · rintro i x H2 H3 hi k2 ⟨rfl, hxi⟩
      obtain ⟨m, hm, rfl⟩ := str_at hxi
      obtain ⟨a, ha⟩ := hch.mem m (List.mem_of_getElem? hm)
      have k12 := k1.trans k2
      have b2 := b.kp0 k12
      obtain ⟨u, hdg, hu⟩ := rowOf b2.hd (hrows.kp k12) ha
      exact ⟨rfl, fun R hR => ⟨_, rfl, _, _, _, _, _, _, _, rfl, b2.slt, T.cl_Board, T.sl_own_rows, rfl, _, rfl, d, _, rfl, hdg, hR _ H3 Kp.r0 ⟨m, a, hm, ha, u, rfl, hu⟩⟩⟩
    intro D H2 ys k2 hD hys hyl hz
    rw [List.length_map] at hyl
    refine ⟨_, rfl, D, rfl, ⟨_, .of hys⟩, ?_⟩
    refine lc_pure (walk_list (xs := ys)) (fun i y _ => ∃ o, ((accs rows ln).map room1)[i]? = some o ∧ y = optV o) (by unfold sizeLine; omega) tts_true (fun H' k => .of (k.at0 hys)) (fun _ _ _ _ _ _ z => z) (gTup4_mono _ 4 5 6 7) ?_ ?_
    · rintro i x H3 H4 hi k3 ⟨rfl, hxi⟩
      obtain ⟨m, a, hm, ha, u, rfl, hu⟩ := hz i x hxi
      have hac : ((accs rows ln).map room1)[i]? = some (room1 a) := by rw [List.getElem?_map, accs_at hm ha]; rfl
      refine ⟨u, _, rfl, sqTk0 hu k3, rfl, _, _, rfl, _, _, rfl, _, _, rfl, _, _, rfl, rfl, rfl, fun R hR => ?_⟩
      obtain ⟨lv, lo, hi, heir⟩ := a
      cases hi with
      | none => exact ⟨_, rfl, rfl, _, rfl, decT rfl (hR _ H4 Kp.r0 ⟨_, hac, rfl⟩)⟩
      | some z => exact ⟨_, rfl, rfl, _, rfl, decF (fun z => nomatch z) ⟨_, rfl, _, rfl, _, _, rfl, rfl, hR _ H4 Kp.r0 ⟨_, hac, rfl⟩⟩⟩
    · intro D2 H3 zs k3 hD2 hzs hzl hz2
      have e := opts_of (by rw [hzl, hyl, List.length_map, accs_len]) hz2
      exact ⟨D2, _, rfl, .of (by rw [hzs, e]), q H3 ((k1.trans k2).trans k3)⟩
theorem ok_stock (T : Txt K mg) (P_chain : MX P w K mg base 5 "chain" (spChain K)) (P_sum_of : Pr P w K mg base CX0 1 "sum_of" (spSum K)) : MB P w K mg base 6 "stock" (spRoom K stock1) := by
  obtain ⟨fd, F⟩ := T.f_Board_stock
  refine ((F.ok sc_Board_stock (fun vs H Q E h => ?_) (fun cdv A outer s H vs Q E hr h => ?_)).raw (F.bindsN fun _ _ _ _ _ _ us hl => match us, hl with | [_, _], _ => rfl) .nil).imp fun vs H Q E h => by rw [List.append_nil]; exact h
  · obtain ⟨_, _, _, _, rfl, _⟩ := h
    rfl
  · obtain ⟨p, n, rows, ln, rfl, hb, hch, q⟩ := h
    refine ⟨_, PSs.nox (pss_cons (ps_setLc (i := 2) (own := [("one", 3)]) (g := gName 3) (te := (tDGet (SlX.tSl K (tVar 0) "own_rows") (tVar 3))) rfl sc_Board_stock.nd rfl rfl (sw_true rfl rfl rfl (by decide +kernel)) (pi_tup (pe_methSl (E := E0) (pv 0) T.cl_Board T.m_Board_chain P_chain (hr.mono (by decide)) passL (pa_cons (pv 1) pa_nil))) (blkOk_by (own := [("one", 3)]) (N := ["self", "name", "rows", "one", "level", "low", "high", "heir"]) (sc := defScope s_Board_stock) (by decide +kernel)) (fun _ _ _ _ _ => (pg_name (i := 3) sc_Board_stock.nd rfl (Or.inl rfl))) (fun _ _ _ _ _ => pts_nil) (fun _ _ _ _ _ => (pe_dget (hu_of hr) (pe_sl (pv 0)) (pv 3) (fun _ _ => rfl)))) (pss_one (ps_ret (pe_g P_sum_of (hr.mono (by decide)) pass0 (pa_cons (pe_lc (own := [("level", 4), ("low", 5), ("high", 6), ("heir", 7)]) (g := gTup K 4 (gCons (gName 4) (gCons (gName 5) (gCons (gName 6) (gCons (gName 7) gNil))))) rfl sc_Board_stock.nd (pi_list (pv 2)) (blkOk_by (own := [("level", 4), ("low", 5), ("high", 6), ("heir", 7)]) (N := ["self", "name", "rows", "one", "level", "low", "high", "heir"]) (sc := defScope s_Board_stock) (by decide +kernel)) (fun _ _ _ _ _ => (pg_tup rfl (pgs_cons (pg_name (i := 4) sc_Board_stock.nd rfl (Or.inl rfl)) (pgs_cons (pg_name (i := 5) sc_Board_stock.nd rfl (Or.inl rfl)) (pgs_cons (pg_name (i := 6) sc_Board_stock.nd rfl (Or.inl rfl)) (pgs_cons (pg_name (i := 7) sc_Board_stock.nd rfl (Or.inl rfl)) pgs_nil)))))) (fun _ _ _ _ _ => pts_nil) (fun _ _ _ _ _ => (pe_ifExp (pt_cmpR op_isN (pv 5) pe_non (nomark _)) pe_non (pe_op op_sub (pv 4) (pv 5))))) pa_nil))))), ?_⟩
    obtain ⟨dx, l, d, kvs, xs, b, hrows, W, hlen⟩ := id hb
    have hll := ch_len hch
    refine ⟨_, rfl, p, dx, _, rfl, b.slt, _, rfl, p, n, rows, rfl, hb, fun ln' t H1 hc k1 ht => ?_, fun z => by obtain ⟨tl, e⟩ := hch.head; obtain ⟨a, ha⟩ := hch.mem n (by rw [e]; exact List.mem_cons_self ..); rw [ha] at z; cases z⟩
    cases hc.det hch
    refine ⟨t, rfl, ⟨_, ht.sq⟩, ?_⟩
    refine lc_pure (walk_tup (xs := ln.map V.str)) (fun i y H' => ∃ m a, ln[i]? = some m ∧ getR rows m = some a ∧ RowV K H' y a) (by rw [List.length_map]; unfold sizeLine; omega) tts_true (fun H' k => (ht.kp k).sq) (fun i y H1 H2 D k z => by obtain ⟨m, a, h1, h2, h3⟩ := z; exact ⟨m, a, h1, h2, h3.kp k⟩) (gName_mono 3) ?_ ?_
    · rintro i x H2 H3 hi k2 ⟨rfl, hxi⟩
      obtain ⟨m, hm, rfl⟩ := str_at hxi
      obtain ⟨a, ha⟩ := hch.mem m (List.mem_of_getElem? hm)
      have k12 := k1.trans k2
      have b2 := b.kp0 k12
      obtain ⟨u, hdg, hu⟩ := rowOf b2.hd (hrows.kp k12) ha
      exact ⟨rfl, fun R hR => ⟨_, rfl, _, _, _, _, _, _, _, rfl, b2.slt, T.cl_Board, T.sl_own_rows, rfl, _, rfl, d, _, rfl, hdg, hR _ H3 Kp.r0 ⟨m, a, hm, ha, u, rfl, hu⟩⟩⟩
    intro D H2 ys k2 hD hys hyl hz
    rw [List.length_map] at hyl
    refine ⟨_, rfl, D, rfl, ⟨_, .of hys⟩, ?_⟩
    refine lc_pure (walk_list (xs := ys)) (fun i y _ => ∃ o, ((accs rows ln).map stock1)[i]? = some o ∧ y = optV o) (by unfold sizeLine; omega) tts_true (fun H' k => .of (k.at0 hys)) (fun _ _ _ _ _ _ z => z) (gTup4_mono _ 4 5 6 7) ?_ ?_
    · rintro i x H3 H4 hi k3 ⟨rfl, hxi⟩
      obtain ⟨m, a, hm, ha, u, rfl, hu⟩ := hz i x hxi
      have hac : ((accs rows ln).map stock1)[i]? = some (stock1 a) := by rw [List.getElem?_map, accs_at hm ha]; rfl
      refine ⟨u, _, rfl, sqTk0 hu k3, rfl, _, _, rfl, _, _, rfl, _, _, rfl, _, _, rfl, rfl, rfl, fun R hR => ?_⟩
      obtain ⟨lv, lo, hi, heir⟩ := a
      cases lo with
      | none => exact ⟨_, rfl, rfl, _, rfl, decT rfl (hR _ H4 Kp.r0 ⟨_, hac, rfl⟩)⟩
      | some z => exact ⟨_, rfl, rfl, _, rfl, decF (fun z => nomatch z) ⟨_, rfl, _, rfl, _, _, rfl, rfl, hR _ H4 Kp.r0 ⟨_, hac, rfl⟩⟩⟩
    · intro D2 H3 zs k3 hD2 hzs hzl hz2
      have e := opts_of (by rw [hzl, hyl, List.length_map, accs_len]) hz2
      exact ⟨D2, _, rfl, .of (by rw [hzs, e]), q H3 ((k1.trans k2).trans k3)⟩
/-! ### what is to come -/
def gifts (rows : RowsL) (ln : List Str) (ns : List Int) : RowsL := ns.foldl (fun R r => (handR R ln r).1) rows
theorem gifts_succ {rows : RowsL} {ln : List Str} {ns : List Int} {i : Nat} {r : Int} (h : ns[i]? = some r) : gifts rows ln (ns.take (i + 1)) = (handR (gifts rows ln (ns.take i)) ln r).1 := by
  rw [List.take_add_one, h]
  unfold gifts
  rw [List.foldl_append]
  rfl
theorem gifts_keys (ln : List Str) : ∀ (ns : List Int) (rows : RowsL), (gifts rows ln ns).map (·.1) = rows.map (·.1)
  | [], _ => rfl
  | r :: ns, rows => (gifts_keys ln ns _).trans (handR_keys ln rows r)
end
end K65
set_option Elab.async false
set_option linter.all false
set_option maxRecDepth 100000
set_option maxHeartbeats 4000000
namespace K65
open PySem PySem.Spec PyProof.Rows L2 SlX He
theorem vals_of {α : Type} {f : α → V} {ys : List V} {os : List α} (hl : ys.length = os.length) (h : ∀ (i : Nat) (y : V), ys[i]? = some y → ∃ o, os[i]? = some o ∧ y = f o) : ys = os.map f := by
  refine List.ext_getElem? fun i => ?_
  rw [List.getElem?_map]
  cases e : ys[i]? with
  | none =>
    have : os.length ≤ i := by
      rw [← hl]
      exact List.getElem?_eq_none_iff.mp e
    rw [List.getElem?_eq_none_iff.mpr this]
    rfl
  | some y =>
    obtain ⟨n, h1, rfl⟩ := h i y e
    rw [h1]
    rfl
theorem ch_known {rows : RowsL} {n : Str} {ln : List Str} (h : Ch (getR rows) n ln) : ∀ m ∈ ln, getR rows m ≠ none := fun m hm z => by
  obtain ⟨a, ha⟩ := h.mem m hm
  rw [ha] at z
  cases z
theorem ch_here {rows : RowsL} {n : Str} {ln : List Str} (h : Ch (getR rows) n ln) : getR rows n ≠ none := by
  obtain ⟨tl, e⟩ := h.head
  exact ch_known h n (by rw [e]; exact List.mem_cons_self ..)
theorem known_keys {rows rows' : RowsL} {m : Str} (h : rows'.map (·.1) = rows.map (·.1)) (hm : getR rows m ≠ none) : getR rows' m ≠ none := by
  obtain ⟨a, ha⟩ := known_of h hm
  rw [ha]
  exact fun z => nomatch z
section
variable {P : Program} {w : World} {K : PySem.W.Frag} {mg : Str → Option Value} {base : Heap}
def spForesee (K : PySem.W.Frag) : Sp := fun vs H Q _ => ∃ (p g : Addr) (n : Str) (rows : RowsL) (ln : List Str) (ns : List Int), vs = [.ref p, .str n, .ref g] ∧ Bd K H p rows ∧ Ch (getR rows) n ln ∧ (SqT K H g (ns.map V.int) ∨ SqL K H g (ns.map V.int)) ∧ ∀ t H', Kp [] H H' → SqT K H' t ((accs (gifts rows ln ns) ln).map fun a => .int a.lv) → Q (.ref t) H'
theorem ok_foresee (T : Txt K mg) (P_chain : MX P w K mg base 5 "chain" (spChain K)) (P_handed_on : Pr P w K mg base CX0 2 "handed_on" (spHand K)) : MB P w K mg base 6 "foresee" (spForesee K) := by
  obtain ⟨fd, F⟩ := T.f_Board_foresee
  refine ((F.ok sc_Board_foresee (fun vs H Q E h => ?_) (fun cdv A outer s H vs Q E hr h => ?_)).raw (F.bindsN fun _ _ _ _ _ _ us hl => match us, hl with | [_, _, _], _ => rfl) .nil).imp fun vs H Q E h => by rw [List.append_nil]; exact h
  · obtain ⟨_, _, _, _, _, _, rfl, _⟩ := h
    rfl
  · obtain ⟨p, g, n, rows, ln, ns, rfl, hb, hch, hg, q⟩ := h
    obtain ⟨dx, l, d, kvs, xs, b, hrows, W, hlen⟩ := id hb
    have hll := ch_len hch
    rcases hg with hg | hg
    · refine ⟨_, PSs.nox (pss_cons (ps_asg (pe_tup (pa_cons (pe_sl (pv 0)) (pa_cons (pe_methSl (E := E0) (pv 0) T.cl_Board T.m_Board_chain P_chain (hr.mono (by decide)) passL (pa_cons (pv 1) pa_nil)) pa_nil))) (pg_tup rfl (pgs_cons (pg_name (i := 3) sc_Board_foresee.nd rfl (Or.inr rfl)) (pgs_cons (pg_name (i := 4) sc_Board_foresee.nd rfl (Or.inl rfl)) pgs_nil)))) (pss_cons (ps_for PassesOwn.never rfl (pi_tup (pv 2)) (pg_name (i := 5) sc_Board_foresee.nd rfl (Or.inl rfl)) (pss_one (ps_set (i := 3) sc_Board_foresee.nd rfl (.inr rfl) (pe_ix ix_tup (pe_g P_handed_on (hr.mono (by decide)) pass0 (pa_cons (pv 3) (pa_cons (pv 4) (pa_cons (pv 5) pa_nil)))) pe_int (fun _ _ => rfl))))) (pss_one (ps_ret (pe_callTy call_tuple_of (by rfl) T.z_tuple (by decide +kernel) (pa_cons (pe_lc (own := [("one", 6)]) (g := gName 6) (te := (tOp (rIxT K) (tDGet (tVar 3) (tVar 6)) (tC (.int 0)))) rfl sc_Board_foresee.nd (pi_tup (pv 4)) (blkOk_by (own := [("one", 6)]) (N := ["self", "name", "numbers", "rows", "chain", "number", "one"]) (sc := defScope s_Board_foresee) (by decide +kernel)) (fun _ _ _ _ _ => (pg_name (i := 6) sc_Board_foresee.nd rfl (Or.inl rfl))) (fun _ _ _ _ _ => pts_nil) (fun _ _ _ _ _ => (pe_ix ix_tup (pe_dget (hu_of hr) (pv 3) (pv 6) (fun _ _ => rfl)) pe_int (fun _ _ => rfl)))) pa_nil)))))), ?_⟩
      refine ⟨_, rfl, _, _, _, _, _, _, _, rfl, b.slt, T.cl_Board, T.sl_own_rows, rfl, _, rfl, p, dx, _, rfl, b.slt, _, rfl, p, n, rows, rfl, hb, fun ln' t H1 hc k1 ht => ?_, fun z => absurd z (ch_here hch)⟩
      cases hc.det hch
      refine ⟨Nat.le_of_ble_eq_true rfl, fun u hu => ⟨u, _, rfl, .of upd_same, rfl, _, _, rfl, _, _, rfl, rfl, ?_⟩⟩
      have k2 : Kp [] H (upd H1 u (.tup [.ref d, .ref t])) := k1.laid hu
      have ht2 := ht.kp (Kp.r0.laid (o := .tup [.ref d, .ref t]) hu)
      show tSeq _ _ _ _ (upd H1 u (.tup [.ref d, .ref t]))
      generalize (upd H1 u (.tup [.ref d, .ref t])) = H2 at k2 ht2
      have b2 := b.kp0 k2
      refine ⟨_, rfl, g, rfl, ⟨_, sqTk0 hg k2⟩, for_it (walk_tup (xs := ns.map V.int)) (fun i σ H' => Kp [] H2 H' ∧ ∃ d' kvs' o5, σ = [some (.ref p), some (.str n), some (.ref g), some (.ref d'), some (.ref t), o5, none] ∧ H' d' = some (.dK kvs') ∧ RowsAt K H' kvs' (gifts rows ln (ns.take i))) ⟨Kp.r0, d, kvs, none, rfl, b2.hd, hrows.kp k2⟩ (fun i σ H' _ z => sqTk0 hg (k2.trans z.1)) ?_ ?_⟩
      · rintro i x σ H3 H4 hi ⟨k3, d', kvs', o5, rfl, hd', hr'⟩ ⟨rfl, hxi⟩
        obtain ⟨r, hr1, rfl⟩ := map_int_at hxi
        have hk := gifts_keys ln (ns.take i) rows
        have hlen2 : (gifts rows ln (ns.take i)).length = rows.length := by
          have := congrArg List.length hk
          rw [List.length_map, List.length_map] at this
          exact this
        refine ⟨_, rfl, _, rfl, _, rfl, d', t, kvs', gifts rows ln (ns.take i), ln, r, rfl, hd', hr', by rw [hk]; exact W.nd, by omega, (ht2.kp k3).sq, (fun m hm => known_keys hk (ch_known hch m hm)), fun u' e' kvs2 H5 k5 he' hen hr5 hu' => ?_⟩
        refine ⟨_, _, _, _, rfl, rfl, hu', rfl, k3.trans k5, e', kvs2, _, rfl, he', ?_⟩
        rw [gifts_succ hr1]
        exact hr5
      · rintro σ H3 ⟨k3, d', kvs', o5, rfl, hd', hr'⟩
        rw [List.length_map, List.take_length] at hr'
        have hk := gifts_keys ln ns rows
        refine ⟨_, rfl, t, rfl, ⟨_, (ht2.kp k3).sq⟩, ?_⟩
        refine lc_pure (walk_tup (xs := ln.map V.str)) (fun i y _ => ∃ a, (accs (gifts rows ln ns) ln)[i]? = some a ∧ y = .int a.lv) (by rw [List.length_map]; unfold sizeLine; omega) tts_true (fun H' k => (ht2.kp (k3.trans k)).sq) (fun _ _ _ _ _ _ z => z) (gName_mono 6) ?_ ?_
        · rintro i x H4 H5 hi k4 ⟨rfl, hxi⟩
          obtain ⟨m, hm, rfl⟩ := str_at hxi
          obtain ⟨a, ha⟩ := known_of hk (ch_known hch m (List.mem_of_getElem? hm))
          obtain ⟨v, hdg, hv⟩ := rowOf (k4.at0 hd') (hr'.kp k4) ha
          exact ⟨rfl, fun R hR => ⟨_, rfl, _, rfl, d', _, rfl, hdg, _, _, _, _, rfl, rfl, hv, rfl, hR _ H5 Kp.r0 ⟨a, accs_at hm ha, rfl⟩⟩⟩
        · intro D H4 ys k4 hD hys hyl hz
          have e := vals_of (f := fun a : Ac => V.int a.lv) (by rw [hyl, List.length_map, accs_len]) hz
          exact ⟨D, _, rfl, .inl ⟨.of hys, fun v hv => q v _ ((k2.trans (k3.trans k4)).laid hv) (.of (by rw [upd_same, e]))⟩⟩
    · refine ⟨_, PSs.nox (pss_cons (ps_asg (pe_tup (pa_cons (pe_sl (pv 0)) (pa_cons (pe_methSl (E := E0) (pv 0) T.cl_Board T.m_Board_chain P_chain (hr.mono (by decide)) passL (pa_cons (pv 1) pa_nil)) pa_nil))) (pg_tup rfl (pgs_cons (pg_name (i := 3) sc_Board_foresee.nd rfl (Or.inr rfl)) (pgs_cons (pg_name (i := 4) sc_Board_foresee.nd rfl (Or.inl rfl)) pgs_nil)))) (pss_cons (ps_for PassesOwn.never rfl (pi_list (pv 2)) (pg_name (i := 5) sc_Board_foresee.nd rfl (Or.inl rfl)) (pss_one (ps_set (i := 3) sc_Board_foresee.nd rfl (.inr rfl) (pe_ix ix_tup (pe_g P_handed_on (hr.mono (by decide)) pass0 (pa_cons (pv 3) (pa_cons (pv 4) (pa_cons (pv 5) pa_nil)))) pe_int (fun _ _ => rfl))))) (pss_one (ps_ret (pe_callTy call_tuple_of (by rfl) T.z_tuple (by decide +kernel) (pa_cons (pe_lc (own := [("one", 6)]) (g := gName 6) (te := (tOp (rIxT K) (tDGet (tVar 3) (tVar 6)) (tC (.int 0)))) rfl sc_Board_foresee.nd (pi_tup (pv 4)) (blkOk_by (own := [("one", 6)]) (N := ["self", "name", "numbers", "rows", "chain", "number", "one"]) (sc := defScope s_Board_foresee) (by decide +kernel)) (fun _ _ _ _ _ => (pg_name (i := 6) sc_Board_foresee.nd rfl (Or.inl rfl))) (fun _ _ _ _ _ => pts_nil) (fun _ _ _ _ _ => (pe_ix ix_tup (pe_dget (hu_of hr) (pv 3) (pv 6) (fun _ _ => rfl)) pe_int (fun _ _ => rfl)))) pa_nil)))))), ?_⟩
      refine ⟨_, rfl, _, _, _, _, _, _, _, rfl, b.slt, T.cl_Board, T.sl_own_rows, rfl, _, rfl, p, dx, _, rfl, b.slt, _, rfl, p, n, rows, rfl, hb, fun ln' t H1 hc k1 ht => ?_, fun z => absurd z (ch_here hch)⟩
      cases hc.det hch
      refine ⟨Nat.le_of_ble_eq_true rfl, fun u hu => ⟨u, _, rfl, .of upd_same, rfl, _, _, rfl, _, _, rfl, rfl, ?_⟩⟩
      have k2 : Kp [] H (upd H1 u (.tup [.ref d, .ref t])) := k1.laid hu
      have ht2 := ht.kp (Kp.r0.laid (o := .tup [.ref d, .ref t]) hu)
      show tSeq _ _ _ _ (upd H1 u (.tup [.ref d, .ref t]))
      generalize (upd H1 u (.tup [.ref d, .ref t])) = H2 at k2 ht2
      have b2 := b.kp0 k2
      refine ⟨_, rfl, g, rfl, ⟨_, sqLk0 hg k2⟩, for_it (walk_list (xs := ns.map V.int)) (fun i σ H' => Kp [] H2 H' ∧ ∃ d' kvs' o5, σ = [some (.ref p), some (.str n), some (.ref g), some (.ref d'), some (.ref t), o5, none] ∧ H' d' = some (.dK kvs') ∧ RowsAt K H' kvs' (gifts rows ln (ns.take i))) ⟨Kp.r0, d, kvs, none, rfl, b2.hd, hrows.kp k2⟩ (fun i σ H' _ z => sqLk0 hg (k2.trans z.1)) ?_ ?_⟩
      · rintro i x σ H3 H4 hi ⟨k3, d', kvs', o5, rfl, hd', hr'⟩ ⟨rfl, hxi⟩
        obtain ⟨r, hr1, rfl⟩ := map_int_at hxi
        have hk := gifts_keys ln (ns.take i) rows
        have hlen2 : (gifts rows ln (ns.take i)).length = rows.length := by
          have := congrArg List.length hk
          rw [List.length_map, List.length_map] at this
          exact this
        refine ⟨_, rfl, _, rfl, _, rfl, d', t, kvs', gifts rows ln (ns.take i), ln, r, rfl, hd', hr', by rw [hk]; exact W.nd, by omega, (ht2.kp k3).sq, (fun m hm => known_keys hk (ch_known hch m hm)), fun u' e' kvs2 H5 k5 he' hen hr5 hu' => ?_⟩
        refine ⟨_, _, _, _, rfl, rfl, hu', rfl, k3.trans k5, e', kvs2, _, rfl, he', ?_⟩
        rw [gifts_succ hr1]
        exact hr5
      · rintro σ H3 ⟨k3, d', kvs', o5, rfl, hd', hr'⟩
        rw [List.length_map, List.take_length] at hr'
        have hk := gifts_keys ln ns rows
        refine ⟨_, rfl, t, rfl, ⟨_, (ht2.kp k3).sq⟩, ?_⟩
        refine lc_pure (walk_tup (xs := ln.map V.str)) (fun i y _ => ∃ a, (accs (gifts rows ln ns) ln)[i]? = some a ∧ y = .int a.lv) (by rw [List.length_map]; unfold sizeLine; omega) tts_true (fun H' k => (ht2.kp (k3.trans k)).sq) (fun _ _ _ _ _ _ z => z) (gName_mono 6) ?_ ?_
        · rintro i x H4 H5 hi k4 ⟨rfl, hxi⟩
          obtain ⟨m, hm, rfl⟩ := str_at hxi
          obtain ⟨a, ha⟩ := known_of hk (ch_known hch m (List.mem_of_getElem? hm))
          obtain ⟨v, hdg, hv⟩ := rowOf (k4.at0 hd') (hr'.kp k4) ha
          exact ⟨rfl, fun R hR => ⟨_, rfl, _, rfl, d', _, rfl, hdg, _, _, _, _, rfl, rfl, hv, rfl, hR _ H5 Kp.r0 ⟨a, accs_at hm ha, rfl⟩⟩⟩
        · intro D H4 ys k4 hD hys hyl hz
          have e := vals_of (f := fun a : Ac => V.int a.lv) (by rw [hyl, List.length_map, accs_len]) hz
          exact ⟨D, _, rfl, .inl ⟨.of hys, fun v hv => q v _ ((k2.trans (k3.trans k4)).laid hv) (.of (by rw [upd_same, e]))⟩⟩
end
end K65
set_option Elab.async false
set_option linter.all false
set_option maxRecDepth 100000
set_option maxHeartbeats 4000000
namespace K65
open PySem PySem.Spec PyProof.Rows L2 SlX He
def leastG (as : List Ac) (a : Ac) (g : Int) : Option Int := if g ≤ a.lv then some 0 else if (match a.hi with | some h => decide (h < g) | none => false) = true then none else sumO (some (g - a.lv) :: as.map room1)
def leastC (as : List Ac) (a : Ac) (g : Int) : Option Int := if a.lv ≤ g then some 0 else if (match a.lo with | some l => decide (g < l) | none => false) = true then none else sumO (some (a.lv - g) :: as.map stock1)
section
variable {P : Program} {w : World} {K : PySem.W.Frag} {mg : Str → Option Value} {base : Heap}
/-- the accounts ahead of the j-th of the chain -/
def AheadAt (K : PySem.W.Frag) (H : Hp) (rows : RowsL) (ln : List Str) (j : Nat) (ys : List V) : Prop := ys.length = j ∧ ∀ (i : Nat) (y : V), ys[i]? = some y → ∃ m ac, ln[i]? = some m ∧ getR rows m = some ac ∧ RowV K H y ac
theorem AheadAt.kp {H H' : Hp} {rows : RowsL} {ln : List Str} {j : Nat} {ys : List V} {ex : List Addr} (h : AheadAt K H rows ln j ys) (k : Kp ex H H') : AheadAt K H' rows ln j ys := ⟨h.1, fun i y hy => by obtain ⟨m, ac, h1, h2, h3⟩ := h.2 i y hy; exact ⟨m, ac, h1, h2, h3.kp k⟩⟩
def spAhead (K : PySem.W.Frag) : Sp := fun vs H Q _ => ∃ (p : Addr) (n o : Str) (rows : RowsL) (ln : List Str) (j : Nat), vs = [.ref p, .str n, .str o] ∧ Bd K H p rows ∧ Ch (getR rows) n ln ∧ ln[j]? = some o ∧ ∀ a ys H', Kp [] H H' → H' a = some (.lst ys) → H a = none → AheadAt K H' rows ln j ys → Q (.ref a) H'
theorem ok_ahead (T : Txt K mg) (P_chain : MX P w K mg base 5 "chain" (spChain K)) : MB P w K mg base 6 "rows_ahead" (spAhead K) := by
  obtain ⟨fd, F⟩ := T.f_Board_rows_ahead
  refine ((F.ok sc_Board_rows_ahead (fun vs H Q E h => ?_) (fun cdv A outer s H vs Q E hr h => ?_)).raw (F.bindsN fun _ _ _ _ _ _ us hl => match us, hl with | [_, _, _], _ => rfl) .nil).imp fun vs H Q E h => by rw [List.append_nil]; exact h
  · obtain ⟨_, _, _, _, _, _, rfl, _⟩ := h
    rfl
  · obtain ⟨p, n, o, rows, ln, j, rfl, hb, hch, hj, q⟩ := h
    refine ⟨_, PSs.nox (pss_cons (ps_set (i := 3) sc_Board_rows_ahead.nd rfl (.inl rfl) (pe_methSl (E := E0) (pv 0) T.cl_Board T.m_Board_chain P_chain (hr.mono (by decide)) passL (pa_cons (pv 1) pa_nil))) (pss_cons (ps_if (pt_cmpR op_notIn_seq (pv 2) (pv 3) rfl) (pss_one ps_never) pss_nil) (pss_one (ps_ret (pe_lc (own := [("one", 4)]) (g := gName 4) (te := (tDGet (SlX.tSl K (tVar 0) "own_rows") (tVar 4))) rfl sc_Board_rows_ahead.nd (pi_tup (pe_slice sl_tupA (pv 3) po_none (po_some (pe_mG ty_tup PySem.F.plainAttrs_tuple PySem.F.slot_tuple_index PySem.F.type_tuple_index L2.mt_tup_index (pv 3) (pa_cons (pv 2) pa_nil))))) (blkOk_by (own := [("one", 4)]) (N := ["self", "name", "other", "chain", "one"]) (sc := defScope s_Board_rows_ahead) (by decide +kernel)) (fun _ _ _ _ _ => (pg_name (i := 4) sc_Board_rows_ahead.nd rfl (Or.inl rfl))) (fun _ _ _ _ _ => pts_nil) (fun _ _ _ _ _ => (pe_dget (hu_of hr) (pe_sl (pv 0)) (pv 4) (fun _ _ => rfl)))))))), ?_⟩
    obtain ⟨dx, l, d, kvs, xs, b, hrows, W, hlen⟩ := id hb
    have hll := ch_len hch
    refine ⟨_, rfl, p, dx, _, rfl, b.slt, _, rfl, p, n, rows, rfl, hb, fun ln' t H1 hc k1 ht => ?_, fun z => absurd z (ch_here hch)⟩
    cases hc.det hch
    have hmem : o ∈ ln := List.mem_of_getElem? hj
    refine ⟨_, rfl, _, rfl, t, _, rfl, .inr ht.sq, rfl, flat_strs _, _, rfl, ?_⟩
    rw [inV_str]
    refine decNF hmem ?_
    obtain ⟨ob, hob, hpl⟩ := id ht
    refine ⟨_, rfl, ?_⟩
    unfold tNoPart
    refine ⟨_, rfl, ⟨t, ob, _, rfl, hob, hpl⟩, _, rfl, t, ln, o, j, rfl, rfl, ht.sq, hj, fun m hm z => ?_, _, rfl, ?_⟩
    · have h1 := (List.getElem?_eq_some_iff.mp z)
      have h2 := (List.getElem?_eq_some_iff.mp hj)
      have nd := hch.nodup
      exact absurd (h1.2.trans h2.2.symm) ((List.pairwise_iff_getElem.mp nd) m j h1.1 h2.1 hm)
    refine slA none (some (j : Int)) ht.sq fun u H2 k2 hu => ?_
    rw [cut_take] at hu
    have hjl : j < ln.length := (List.getElem?_eq_some_iff.mp hj).1
    refine ⟨u, rfl, ⟨_, hu⟩, ?_⟩
    have k12 := k1.trans k2
    refine lc_pure (walk_tup (xs := (ln.map V.str).take j)) (fun i y H' => ∃ m a, ln[i]? = some m ∧ getR rows m = some a ∧ RowV K H' y a) (by rw [List.length_take, List.length_map]; unfold sizeLine; omega) tts_true (fun H' k => sqTk0 hu k) (fun i y H1 H2 D k z => by obtain ⟨m, a, h1, h2, h3⟩ := z; exact ⟨m, a, h1, h2, h3.kp k⟩) (gName_mono 4) ?_ ?_
    · rintro i x H3 H4 hi k3 ⟨rfl, hxi⟩
      have hij : i < j := by rw [List.length_take] at hi; omega
      rw [List.getElem?_take_of_lt hij] at hxi
      obtain ⟨m, hm, rfl⟩ := str_at hxi
      obtain ⟨a, ha⟩ := hch.mem m (List.mem_of_getElem? hm)
      have k13 := k12.trans k3
      have b3 := b.kp0 k13
      obtain ⟨v, hdg, hv⟩ := rowOf b3.hd (hrows.kp k13) ha
      exact ⟨rfl, fun R hR => ⟨_, rfl, _, _, _, _, _, _, _, rfl, b3.slt, T.cl_Board, T.sl_own_rows, rfl, _, rfl, d, _, rfl, hdg, hR _ H4 Kp.r0 ⟨m, a, hm, ha, v, rfl, hv⟩⟩⟩
    · intro D H3 ys k3 hD hys hyl hz
      rw [List.length_take, List.length_map] at hyl
      exact q D ys H3 (k12.trans k3) hys (k12.none0 hD) ⟨by omega, hz⟩
def spLeast (K : PySem.W.Frag) (f : List Ac → Ac → Int → Option Int) : Sp := fun vs H Q _ => ∃ (p : Addr) (n o : Str) (goal : Int) (rows : RowsL) (ln : List Str) (j : Nat) (a : Ac), vs = [.ref p, .str n, .str o, .int goal] ∧ Bd K H p rows ∧ Ch (getR rows) n ln ∧ ln[j]? = some o ∧ getR rows o = some a ∧ ∀ H', Kp [] H H' → Q (optV (f (accs rows (ln.take j)) a goal)) H'
theorem ok_least_gift (T : Txt K mg) (P_rows_ahead : MB P w K mg base 6 "rows_ahead" (spAhead K)) (P_getitem : MB P w K mg base 4 "__getitem__" (spGet K)) (P_bounds : MB P w K mg base 4 "bounds" (spBoundsOf K)) (P_sum_of : Pr P w K mg base CX0 1 "sum_of" (spSum K)) : MB P w K mg base 7 "least_gift" (spLeast K leastG) := by
  obtain ⟨fd, F⟩ := T.f_Board_least_gift
  refine ((F.ok sc_Board_least_gift (fun vs H Q E h => ?_) (fun cdv A outer s H vs Q E hr h => ?_)).raw (F.bindsN fun _ _ _ _ _ _ us hl => match us, hl with | [_, _, _, _], _ => rfl) .nil).imp fun vs H Q E h => by rw [List.append_nil]; exact h
  · obtain ⟨_, _, _, _, _, _, _, _, rfl, _⟩ := h
    rfl
  · obtain ⟨p, n, o, goal, rows, ln, j, a, rfl, hb, hch, hj, ha, q⟩ := h
    refine ⟨_, PSs.nox (pss_cons (ps_set (i := 4) sc_Board_least_gift.nd rfl (.inl rfl) (pe_methSl (E := E0) (pv 0) T.cl_Board T.m_Board_rows_ahead P_rows_ahead (hr.mono (by decide)) pass0 (pa_cons (pv 1) (pa_cons (pv 2) pa_nil)))) (pss_cons (ps_par (i := 5) (j := 6) rfl sc_Board_least_gift.nd rfl rfl (by decide) rfl rfl (pa_cons (pe_subOwn (E := E0) T.d_Board_getitem T.i_Board_getitem T.n_Board_getitem P_getitem (hr.mono (by decide)) pass0 (pv 0) (pv 2)) (pa_cons (pe_ix ix_tup (pe_methSl (E := E0) (pv 0) T.cl_Board T.m_Board_bounds P_bounds (hr.mono (by decide)) pass0 (pa_cons (pv 2) pa_nil)) pe_int (fun _ _ => rfl)) pa_nil)) (by rfl)) (pss_cons (ps_if (pt_cmpR op_ge (pv 5) (pv 3) (nomark _)) (pss_one (ps_ret pe_int)) pss_nil) (pss_cons (ps_if (PW.pt (pw_and (pt_cmpR op_notN (pv 6) pe_non (nomark _)) (pw_and1 (pt_cmpR op_gt (pv 3) (pv 6) (nomark _))))) (pss_one (ps_ret pe_non)) pss_nil) (pss_one (ps_ret (pe_g P_sum_of (hr.mono (by decide)) pass0 (pa_cons (pe_lst (pa_cons (pe_op op_sub (pv 3) (pv 5)) (pa_star (pe_lc (own := [("mine", 7), ("low", 8), ("top", 9), ("heir", 10)]) (g := gTup K 4 (gCons (gName 7) (gCons (gName 8) (gCons (gName 9) (gCons (gName 10) gNil))))) rfl sc_Board_least_gift.nd (pi_list (pv 4)) (blkOk_by (own := [("mine", 7), ("low", 8), ("top", 9), ("heir", 10)]) (N := ["self", "name", "other", "level", "ahead", "there", "high", "mine", "low", "top", "heir"]) (sc := defScope s_Board_least_gift) (by decide +kernel)) (fun _ _ _ _ _ => (pg_tup rfl (pgs_cons (pg_name (i := 7) sc_Board_least_gift.nd rfl (Or.inl rfl)) (pgs_cons (pg_name (i := 8) sc_Board_least_gift.nd rfl (Or.inl rfl)) (pgs_cons (pg_name (i := 9) sc_Board_least_gift.nd rfl (Or.inl rfl)) (pgs_cons (pg_name (i := 10) sc_Board_least_gift.nd rfl (Or.inl rfl)) pgs_nil)))))) (fun _ _ _ _ _ => pts_nil) (fun _ _ _ _ _ => (pe_ifExp (pt_cmpR op_isN (pv 9) pe_non (nomark _)) pe_non (pe_op op_sub (pv 9) (pv 7))))) pa_nil))) pa_nil)))))))), ?_⟩
    obtain ⟨dx, l, d, kvs, xs, b, hrows, W, hlen⟩ := id hb
    have hll := ch_len hch
    have hjl : j < ln.length := (List.getElem?_eq_some_iff.mp hj).1
    refine ⟨_, rfl, p, dx, _, rfl, b.slt, _, rfl, _, rfl, p, n, o, rows, ln, j, rfl, hb, hch, hj, fun D ys H1 k1 hys hDn hah => ?_⟩
    refine ⟨_, rfl, _, rfl, p, dx, _, rfl, (b.kp0 k1).slt, p, o, rows, a, rfl, hb.kp k1, ha, fun H2 k2 => ?_⟩
    have k12 := k1.trans k2
    refine ⟨_, rfl, p, dx, _, rfl, (b.kp0 k12).slt, _, rfl, p, o, rows, a, rfl, hb.kp k12, ha, fun u H3 k3 hu => ⟨_, _, _, _, rfl, rfl, hu, rfl, _, _, rfl, ?_⟩⟩
    have k13 := k12.trans k3
    have hys3 := (k2.trans k3).at0 hys
    have hah3 := hah.kp (k2.trans k3)
    have fin : ∀ os : Option Int, leastG (accs rows (ln.take j)) a goal = os → Q (optV os) H3 := fun os e => e ▸ q H3 k13
    refine ⟨_, rfl, _, rfl, _, _, rfl, rfl, _, rfl, dec2 (fun h1 => ?_) (fun h1 => ?_)⟩
    · exact fin (some 0) (by unfold leastG; rw [if_pos h1])
    · have last : (match a.hi with | some z => decide (z < goal) | none => false) = false → tRet (tG (spSum K) E0 (tCons (tLst (tCons (tOp (rI0 fun i j => .int (i - j)) (tVar 3) (tVar 5)) (tStarL K (tLc (iList K (tVar 4)) (gTup K 4 (gCons (gName 7) (gCons (gName 8) (gCons (gName 9) (gCons (gName 10) gNil))))) tYes (tIf (tTest (tOp (fun x y H Q => y = V.non ∧ Q (V.bl (decide (x = V.non))) H) (tVar 9) (tC .non))) (tC .non) (tOp (rI0 fun i j => .int (i - j)) (tVar 9) (tVar 7))) [7, 8, 9, 10]) tNil))) tNil)) { nx := fun _ H' => Q .non H', rt := Q } [some (.ref p), some (.str n), some (.str o), some (.int goal), some (.ref D), some (.int a.lv), some (optV a.hi), none, none, none, none] H3 := by
        intro h2
        refine ⟨_, rfl, _, rfl, _, _, rfl, rfl, _, rfl, D, rfl, ⟨_, .of hys3⟩, ?_⟩
        refine lc_pure (walk_list (xs := ys)) (fun i y _ => ∃ z, ((accs rows (ln.take j)).map room1)[i]? = some z ∧ y = optV z) (by have := hah.1; unfold sizeLine; omega) tts_true (fun H' k => .of (k.at0 hys3)) (fun _ _ _ _ _ _ z => z) (gTup4_mono _ 7 8 9 10) ?_ ?_
        · rintro i x H4 H5 hi k4 ⟨rfl, hxi⟩
          obtain ⟨m, ac, hm, hac, v, rfl, hv⟩ := hah3.2 i x hxi
          have hij : i < j := by have := hah.1; omega
          have hac2 : ((accs rows (ln.take j)).map room1)[i]? = some (room1 ac) := by
            rw [List.getElem?_map, accs_at (by rw [List.getElem?_take_of_lt hij]; exact hm) hac]
            rfl
          refine ⟨v, _, rfl, sqTk0 hv k4, rfl, _, _, rfl, _, _, rfl, _, _, rfl, _, _, rfl, rfl, rfl, fun R hR => ?_⟩
          obtain ⟨lv, lo, hi, heir⟩ := ac
          cases hi with
          | none => exact ⟨_, rfl, rfl, _, rfl, decT rfl (hR _ H5 Kp.r0 ⟨_, hac2, rfl⟩)⟩
          | some z => exact ⟨_, rfl, rfl, _, rfl, decF (fun z => nomatch z) ⟨_, rfl, _, rfl, _, _, rfl, rfl, hR _ H5 Kp.r0 ⟨_, hac2, rfl⟩⟩⟩
        · intro D2 H4 zs k4 hD2 hzs hzl hz
          have e := opts_of (os := (accs rows (ln.take j)).map room1) (by rw [hzl, hah.1, List.length_map, accs_len, List.length_take]; omega) hz
          refine ⟨D2, zs, rfl, .of hzs, ?_, fun g hg => ⟨g, some (goal - a.lv) :: (accs rows (ln.take j)).map room1, rfl, .of ?_, ?_⟩⟩
          · have := hah.1
            unfold sizeLine
            simp only [List.length_cons, List.length_append, List.length_nil]
            omega
          · rw [upd_same, e]
            simp [optV]
          · have e2 : leastG (accs rows (ln.take j)) a goal = sumO (some (goal - a.lv) :: (accs rows (ln.take j)).map room1) := by
              unfold leastG
              rw [if_neg h1, if_neg (by rw [h2]; exact fun z => nomatch z)]
            have := q _ ((k13.trans k4).laid (o := .lst (V.int (goal - a.lv) :: (zs ++ []))) hg)
            rw [e2] at this
            exact this
      generalize hf : a.hi = fo at *
      cases fo with
      | none => exact ⟨_, rfl, rfl, _, rfl, iteF (iteF (last rfl))⟩
      | some z =>
        refine ⟨_, rfl, rfl, _, rfl, iteT ⟨_, rfl, _, rfl, _, _, rfl, rfl, _, rfl, ?_⟩⟩
        by_cases h3 : z < goal
        · refine decT h3 (fin none ?_)
          unfold leastG
          rw [if_neg h1, hf]
          exact if_pos (decide_eq_true h3)
        · exact decF h3 (last (decide_eq_false h3))
theorem ok_least_call (T : Txt K mg) (P_rows_ahead : MB P w K mg base 6 "rows_ahead" (spAhead K)) (P_getitem : MB P w K mg base 4 "__getitem__" (spGet K)) (P_bounds : MB P w K mg base 4 "bounds" (spBoundsOf K)) (P_sum_of : Pr P w K mg base CX0 1 "sum_of" (spSum K)) : MB P w K mg base 7 "least_call" (spLeast K leastC) := by
  obtain ⟨fd, F⟩ := T.f_Board_least_call
  refine ((F.ok sc_Board_least_call (fun vs H Q E h => ?_) (fun cdv A outer s H vs Q E hr h => ?_)).raw (F.bindsN fun _ _ _ _ _ _ us hl => match us, hl with | [_, _, _, _], _ => rfl) .nil).imp fun vs H Q E h => by rw [List.append_nil]; exact h
  · obtain ⟨_, _, _, _, _, _, _, _, rfl, _⟩ := h
    rfl
  · obtain ⟨p, n, o, goal, rows, ln, j, a, rfl, hb, hch, hj, ha, q⟩ := h
    refine ⟨_, PSs.nox (pss_cons (ps_set (i := 4) sc_Board_least_call.nd rfl (.inl rfl) (pe_methSl (E := E0) (pv 0) T.cl_Board T.m_Board_rows_ahead P_rows_ahead (hr.mono (by decide)) pass0 (pa_cons (pv 1) (pa_cons (pv 2) pa_nil)))) (pss_cons (ps_par (i := 5) (j := 6) rfl sc_Board_least_call.nd rfl rfl (by decide) rfl rfl (pa_cons (pe_subOwn (E := E0) T.d_Board_getitem T.i_Board_getitem T.n_Board_getitem P_getitem (hr.mono (by decide)) pass0 (pv 0) (pv 2)) (pa_cons (pe_ix ix_tup (pe_methSl (E := E0) (pv 0) T.cl_Board T.m_Board_bounds P_bounds (hr.mono (by decide)) pass0 (pa_cons (pv 2) pa_nil)) pe_int (fun _ _ => rfl)) pa_nil)) (by rfl)) (pss_cons (ps_if (pt_cmpR op_le (pv 5) (pv 3) (nomark _)) (pss_one (ps_ret pe_int)) pss_nil) (pss_cons (ps_if (PW.pt (pw_and (pt_cmpR op_notN (pv 6) pe_non (nomark _)) (pw_and1 (pt_cmpR op_lt (pv 3) (pv 6) (nomark _))))) (pss_one (ps_ret pe_non)) pss_nil) (pss_one (ps_ret (pe_g P_sum_of (hr.mono (by decide)) pass0 (pa_cons (pe_lst (pa_cons (pe_op op_sub (pv 5) (pv 3)) (pa_star (pe_lc (own := [("mine", 7), ("down", 8), ("high", 9), ("heir", 10)]) (g := gTup K 4 (gCons (gName 7) (gCons (gName 8) (gCons (gName 9) (gCons (gName 10) gNil))))) rfl sc_Board_least_call.nd (pi_list (pv 4)) (blkOk_by (own := [("mine", 7), ("down", 8), ("high", 9), ("heir", 10)]) (N := ["self", "name", "other", "level", "ahead", "there", "low", "mine", "down", "high", "heir"]) (sc := defScope s_Board_least_call) (by decide +kernel)) (fun _ _ _ _ _ => (pg_tup rfl (pgs_cons (pg_name (i := 7) sc_Board_least_call.nd rfl (Or.inl rfl)) (pgs_cons (pg_name (i := 8) sc_Board_least_call.nd rfl (Or.inl rfl)) (pgs_cons (pg_name (i := 9) sc_Board_least_call.nd rfl (Or.inl rfl)) (pgs_cons (pg_name (i := 10) sc_Board_least_call.nd rfl (Or.inl rfl)) pgs_nil)))))) (fun _ _ _ _ _ => pts_nil) (fun _ _ _ _ _ => (pe_ifExp (pt_cmpR op_isN (pv 8) pe_non (nomark _)) pe_non (pe_op op_sub (pv 7) (pv 8))))) pa_nil))) pa_nil)))))))), ?_⟩
    obtain ⟨dx, l, d, kvs, xs, b, hrows, W, hlen⟩ := id hb
    have hll := ch_len hch
    have hjl : j < ln.length := (List.getElem?_eq_some_iff.mp hj).1
    refine ⟨_, rfl, p, dx, _, rfl, b.slt, _, rfl, _, rfl, p, n, o, rows, ln, j, rfl, hb, hch, hj, fun D ys H1 k1 hys hDn hah => ?_⟩
    refine ⟨_, rfl, _, rfl, p, dx, _, rfl, (b.kp0 k1).slt, p, o, rows, a, rfl, hb.kp k1, ha, fun H2 k2 => ?_⟩
    have k12 := k1.trans k2
    refine ⟨_, rfl, p, dx, _, rfl, (b.kp0 k12).slt, _, rfl, p, o, rows, a, rfl, hb.kp k12, ha, fun u H3 k3 hu => ⟨_, _, _, _, rfl, rfl, hu, rfl, _, _, rfl, ?_⟩⟩
    have k13 := k12.trans k3
    have hys3 := (k2.trans k3).at0 hys
    have hah3 := hah.kp (k2.trans k3)
    have fin : ∀ os : Option Int, leastC (accs rows (ln.take j)) a goal = os → Q (optV os) H3 := fun os e => e ▸ q H3 k13
    refine ⟨_, rfl, _, rfl, _, _, rfl, rfl, _, rfl, dec2 (fun h1 => ?_) (fun h1 => ?_)⟩
    · exact fin (some 0) (by unfold leastC; rw [if_pos h1])
    · have last : (match a.lo with | some z => decide (goal < z) | none => false) = false → tRet (tG (spSum K) E0 (tCons (tLst (tCons (tOp (rI0 fun i j => .int (i - j)) (tVar 5) (tVar 3)) (tStarL K (tLc (iList K (tVar 4)) (gTup K 4 (gCons (gName 7) (gCons (gName 8) (gCons (gName 9) (gCons (gName 10) gNil))))) tYes (tIf (tTest (tOp (fun x y H Q => y = V.non ∧ Q (V.bl (decide (x = V.non))) H) (tVar 8) (tC .non))) (tC .non) (tOp (rI0 fun i j => .int (i - j)) (tVar 7) (tVar 8))) [7, 8, 9, 10]) tNil))) tNil)) { nx := fun _ H' => Q .non H', rt := Q } [some (.ref p), some (.str n), some (.str o), some (.int goal), some (.ref D), some (.int a.lv), some (optV a.lo), none, none, none, none] H3 := by
        intro h2
        refine ⟨_, rfl, _, rfl, _, _, rfl, rfl, _, rfl, D, rfl, ⟨_, .of hys3⟩, ?_⟩
        refine lc_pure (walk_list (xs := ys)) (fun i y _ => ∃ z, ((accs rows (ln.take j)).map stock1)[i]? = some z ∧ y = optV z) (by have := hah.1; unfold sizeLine; omega) tts_true (fun H' k => .of (k.at0 hys3)) (fun _ _ _ _ _ _ z => z) (gTup4_mono _ 7 8 9 10) ?_ ?_
        · rintro i x H4 H5 hi k4 ⟨rfl, hxi⟩
          obtain ⟨m, ac, hm, hac, v, rfl, hv⟩ := hah3.2 i x hxi
          have hij : i < j := by have := hah.1; omega
          have hac2 : ((accs rows (ln.take j)).map stock1)[i]? = some (stock1 ac) := by
            rw [List.getElem?_map, accs_at (by rw [List.getElem?_take_of_lt hij]; exact hm) hac]
            rfl
          refine ⟨v, _, rfl, sqTk0 hv k4, rfl, _, _, rfl, _, _, rfl, _, _, rfl, _, _, rfl, rfl, rfl, fun R hR => ?_⟩
          obtain ⟨lv, lo, hi, heir⟩ := ac
          cases lo with
          | none => exact ⟨_, rfl, rfl, _, rfl, decT rfl (hR _ H5 Kp.r0 ⟨_, hac2, rfl⟩)⟩
          | some z => exact ⟨_, rfl, rfl, _, rfl, decF (fun z => nomatch z) ⟨_, rfl, _, rfl, _, _, rfl, rfl, hR _ H5 Kp.r0 ⟨_, hac2, rfl⟩⟩⟩
        · intro D2 H4 zs k4 hD2 hzs hzl hz
          have e := opts_of (os := (accs rows (ln.take j)).map stock1) (by rw [hzl, hah.1, List.length_map, accs_len, List.length_take]; omega) hz
          refine ⟨D2, zs, rfl, .of hzs, ?_, fun g hg => ⟨g, some (a.lv - goal) :: (accs rows (ln.take j)).map stock1, rfl, .of ?_, ?_⟩⟩
          · have := hah.1
            unfold sizeLine
            simp only [List.length_cons, List.length_append, List.length_nil]
            omega
          · rw [upd_same, e]
            simp [optV]
          · have e2 : leastC (accs rows (ln.take j)) a goal = sumO (some (a.lv - goal) :: (accs rows (ln.take j)).map stock1) := by
              unfold leastC
              rw [if_neg h1, if_neg (by rw [h2]; exact fun z => nomatch z)]
            have := q _ ((k13.trans k4).laid (o := .lst (V.int (a.lv - goal) :: (zs ++ []))) hg)
            rw [e2] at this
            exact this
      generalize hf : a.lo = fo at *
      cases fo with
      | none => exact ⟨_, rfl, rfl, _, rfl, iteF (iteF (last rfl))⟩
      | some z =>
        refine ⟨_, rfl, rfl, _, rfl, iteT ⟨_, rfl, _, rfl, _, _, rfl, rfl, _, rfl, ?_⟩⟩
        by_cases h3 : goal < z
        · refine decT h3 (fin none ?_)
          unfold leastC
          rw [if_neg h1, hf]
          exact if_pos (decide_eq_true h3)
        · exact decF h3 (last (decide_eq_false h3))
end
end K65
set_option Elab.async false
set_option linter.all false
set_option maxRecDepth 100000
set_option maxHeartbeats 4000000
namespace K65
open PySem PySem.Spec PyProof.Rows L2 SlX He
def wayN (ns : List Int) (lo hi : Option Int) : Wy := ns.foldl (fun w r => thenW w (mkW (some r) lo hi)) way0
theorem wayN_succ {ns : List Int} {i : Nat} {r : Int} (lo hi : Option Int) (h : ns[i]? = some r) : wayN (ns.take (i + 1)) lo hi = thenW (wayN (ns.take i) lo hi) (mkW (some r) lo hi) := by
  rw [List.take_add_one, h]
  unfold wayN
  rw [List.foldl_append]
  rfl
theorem wayN_ok (lo hi : Option Int) (h : crossB lo hi = false) : ∀ ns : List Int, WOk (wayN ns lo hi) := by
  intro ns
  unfold wayN
  suffices g : ∀ w, WOk w → WOk (ns.foldl (fun w r => thenW w (mkW (some r) lo hi)) w) from g _ way0_ok
  induction ns with
  | nil => exact fun w h => h
  | cons r ns ih => exact fun w hw => ih _ (thenW_ok hw (mkW_ok ⟨h, fun z => nomatch z⟩))
theorem sums_nc {as : List Ac} (h : ∀ a ∈ as, InR a) : crossB (sumO (as.map (·.lo))) (sumO (as.map (·.hi))) = false := by
  obtain ⟨h1, h2⟩ := sum_bounds as h
  unfold crossB
  cases e1 : sumO (as.map (·.lo)) with
  | none => rfl
  | some l =>
    cases e2 : sumO (as.map (·.hi)) with
    | none => rfl
    | some u =>
      have := h1 l e1
      have := h2 u e2
      exact decide_eq_false (by omega)
theorem accs_in {rows : RowsL} {ln : List Str} (W : WF rows) (hk : ∀ m ∈ ln, getR rows m ≠ none) : ∀ a ∈ accs rows ln, InR a := by
  intro a ha
  obtain ⟨m, hm, rfl⟩ := List.mem_map.mp ha
  cases e : getR rows m with
  | none => exact absurd e (hk m hm)
  | some b => exact W.rg m b e
theorem WayAt.write {K : PySem.W.Frag} {H : Hp} {c f : Addr} {y : Wy} {zs : List V} {o : HO} (h : WayAt K H c y) (hf : H f = some (.lst zs)) : WayAt K (upd H f o) c y := by
  obtain ⟨dx, h⟩ := h
  refine ⟨dx, ?_⟩
  rcases h with ⟨_, z⟩ | ⟨z1, z2⟩
  · cases z
  · exact .inr ⟨by rw [upd_ne (ne_of z1 hf slO_lst)]; exact z1, by rw [upd_ne (ne_of z2 hf (fun z => nomatch z))]; exact z2⟩
section
variable {P : Program} {w : World} {K : PySem.W.Frag} {mg : Str → Option Value} {base : Heap}
def loN (rows : RowsL) (ln : List Str) (i : Nat) : Option Int := sumO ((accs rows (ln.take (i + 1))).map (·.lo))
def hiN (rows : RowsL) (ln : List Str) (i : Nat) : Option Int := sumO ((accs rows (ln.take (i + 1))).map (·.hi))
def spWays (K : PySem.W.Frag) : Sp := fun vs H Q _ => ∃ (p g : Addr) (n : Str) (rows : RowsL) (ln : List Str) (ns : List Int), vs = [.ref p, .str n, .ref g] ∧ Bd K H p rows ∧ Ch (getR rows) n ln ∧ SqL K H g (ns.map V.int) ∧
  ∀ t ys H', Kp [] H H' → SqT K H' t ys → ys.length = ln.length → (∀ (i : Nat) (y : V), ys[i]? = some y → ∃ c, y = .ref c ∧ WayAt K H' c (wayN ns (loN rows ln i) (hiN rows ln i)) ∧ WOk (wayN ns (loN rows ln i) (hiN rows ln i))) → Q (.ref t) H'
theorem ok_ways (T : Txt K mg) (WI : WayI P w K mg base) (P_chain : MX P w K mg base 5 "chain" (spChain K)) (P_bounds : MB P w K mg base 4 "bounds" (spBoundsOf K)) (P_sum_of : Pr P w K mg base CX0 1 "sum_of" (spSum K)) (P_rshift : FnR P w K mg base CX0 3 (ma K (ga K "Way") "__rshift__") (spWayThen K)) : MB P w K mg base 6 "ways" (spWays K) := by
  obtain ⟨fd, F⟩ := T.f_Board_ways
  refine ((F.ok sc_Board_ways (fun vs H Q E h => ?_) (fun cdv A outer s H vs Q E hr h => ?_)).raw (F.bindsN fun _ _ _ _ _ _ us hl => match us, hl with | [_, _, _], _ => rfl) .nil).imp fun vs H Q E h => by rw [List.append_nil]; exact h
  · obtain ⟨_, _, _, _, _, _, rfl, _⟩ := h
    rfl
  · obtain ⟨p, g, n, rows, ln, ns, rfl, hb, hch, hg, q⟩ := h
    obtain ⟨dx, l, d, kvs, xs, b, hrows, W, hlen⟩ := id hb
    have hll := ch_len hch
    refine ⟨_, PSs.nox (pss_cons (ps_asg (pe_tup (pa_cons (pe_lst pa_nil) (pa_cons (pe_methSl (E := E0) (pv 0) T.cl_Board T.m_Board_chain P_chain (hr.mono (by decide)) passL (pa_cons (pv 1) pa_nil)) pa_nil))) (pg_tup rfl (pgs_cons (pg_name (i := 3) sc_Board_ways.nd rfl (Or.inl rfl)) (pgs_cons (pg_name (i := 4) sc_Board_ways.nd rfl (Or.inr rfl)) pgs_nil)))) (pss_cons (ps_for PassesOwn.never rfl (pi_range2 rfl T.z_range (pa_cons pe_int (pa_cons (pe_op op_add (pe_callB call_len_seq (by rfl) T.z_len PySem.boot_len (pa_cons (pv 4) pa_nil)) pe_int) pa_nil))) (pg_name (i := 5) sc_Board_ways.nd rfl (Or.inr rfl)) (pss_cons (ps_asg (pe_lc (own := [("side", 10)]) (g := gName 10) (te := (tG _ _ (tCons (tLc (iTup K (L2.tSl (rSlA K) (tVar 4) tNoPart (tPart (tVar 5)))) (gName 11) tYes (tOp (rIxT K) (SlX.tMethSl _ _ _ (tVar 0) (tCons (tVar 11) tNil)) (tVar 10)) [11]) tNil))) rfl sc_Board_ways.nd (pi_tup (pe_tup (pa_cons pe_int (pa_cons pe_int pa_nil)))) (blkOk_by (own := [("side", 10)]) (N := ["self", "name", "numbers", "found", "chain", "many", "low", "high", "way", "number", "side", "one"]) (sc := defScope s_Board_ways) (by decide +kernel)) (fun _ _ _ _ _ => (pg_name (i := 10) sc_Board_ways.nd rfl (Or.inr rfl))) (fun _ _ _ _ _ => pts_nil) (fun _ _ _ _ _ => (pe_g P_sum_of (hr.mono (by decide)) pass0 (pa_cons (pe_lc (own := [("one", 11)]) (g := gName 11) (te := (tOp (rIxT K) (SlX.tMethSl _ _ _ (tVar 0) (tCons (tVar 11) tNil)) (tVar 10))) rfl sc_Board_ways.nd (pi_tup (pe_slice sl_tupA (pv 4) po_none (po_some (pv 5)))) (blkOk_by (own := [("one", 11)]) (N := ["self", "name", "numbers", "found", "chain", "many", "low", "high", "way", "number", "side", "one"]) (sc := relS ⟨.function, [(".0", .local), ("side", .cell), ("sum_of", .globalImplicit), ("chain", .free), ("many", .free), ("self", .free)], false, false, []⟩ (defScope s_Board_ways)) (by decide +kernel)) (fun _ _ _ _ _ => (pg_name (i := 11) sc_Board_ways.nd rfl (Or.inl rfl))) (fun _ _ _ _ _ => pts_nil) (fun _ _ _ _ _ => (pe_ix ix_tup (pe_methSl (E := E0) (pv 0) T.cl_Board T.m_Board_bounds P_bounds (hr.mono (by decide)) pass0 (pa_cons (pv 11) pa_nil)) (pv 10) (fun _ _ => rfl)))) pa_nil)))) (pg_unl rfl (pgs_cons (pg_name (i := 6) sc_Board_ways.nd rfl (Or.inl rfl)) (pgs_cons (pg_name (i := 7) sc_Board_ways.nd rfl (Or.inl rfl)) pgs_nil)))) (pss_cons (ps_set (i := 8) sc_Board_ways.nd rfl (.inl rfl) (pe_mkW1 T WI (hr.mono (by decide)) (pa_cons pe_int pa_nil))) (pss_cons (ps_for PassesOwn.never rfl (pi_list (pv 2)) (pg_name (i := 9) sc_Board_ways.nd rfl (Or.inl rfl)) (pss_one (ps_set (i := 8) sc_Board_ways.nd rfl (.inl rfl) (pe_op (op_binOwn T.sf_Way T.d_Way_rshift T.n_Way_rshift P_rshift (hr.mono (by decide)) pass0) (pv 8) (pe_mkW3 T WI (hr.mono (by decide)) (pa_cons (pv 9) (pa_cons (pv 6) (pa_cons (pv 7) pa_nil)))))))) (pss_one (ps_expr (pe_bm PySem.F.plainAttrs_list PySem.F.slot_list_append PySem.F.type_list_append mt_append (pv 3) (pa_cons (pv 8) pa_nil)))))))) (pss_one (ps_ret (pe_callTy call_tuple_of (by rfl) T.z_tuple (by decide +kernel) (pa_cons (pv 3) pa_nil)))))), ?_⟩
    refine ⟨Nat.le_of_ble_eq_true rfl, fun f hf => ?_⟩
    have kf : Kp [] H (upd H f (.lst [])) := Kp.r0.laid hf
    refine ⟨_, rfl, p, dx, _, rfl, (b.kp0 kf).slt, _, rfl, p, n, rows, rfl, hb.kp kf, fun ln' t H1 hc k1 ht => ?_, fun z => absurd z (ch_here hch)⟩
    cases hc.det hch
    refine ⟨Nat.le_of_ble_eq_true rfl, fun u hu => ⟨u, _, rfl, .of upd_same, rfl, _, _, rfl, _, _, rfl, rfl, ?_⟩⟩
    have k2 : Kp [] H (upd H1 u (.tup [.ref f, .ref t])) := (kf.trans k1).laid hu
    have hf2 : (upd H1 u (.tup [.ref f, .ref t])) f = some (.lst []) := (k1.laid hu).at0 upd_same
    have ht2 := ht.kp (Kp.r0.laid (o := .tup [.ref f, .ref t]) hu)
    show tSeq _ _ _ _ (upd H1 u (.tup [.ref f, .ref t]))
    generalize (upd H1 u (.tup [.ref f, .ref t])) = H2 at k2 hf2 ht2
    refine ⟨_, rfl, t, _, rfl, .inr ht2.sq, _, _, rfl, rfl, _, _, rfl, ⟨by decide, by decide, by omega, by rw [List.length_map]; omega⟩, ?_⟩
    have en : ((((ln.map V.str).length : Nat) : Int) + 1 - 1).toNat = ln.length := by rw [List.length_map]; omega
    rw [en]
    refine for_it (walk_range (lo := 1) (n := ln.length)) (fun i σ H' => Kp [] H H' ∧ ChT H' t ln ∧ ∃ ys o5 o6 o7 o8 o9, σ = [some (.ref p), some (.str n), some (.ref g), some (.ref f), some (.ref t), o5, o6, o7, o8, o9, none, none] ∧ H' f = some (.lst ys) ∧ ys.length = i ∧ ∀ (j : Nat) (y : V), ys[j]? = some y → ∃ c, y = .ref c ∧ WayAt K H' c (wayN ns (loN rows ln j) (hiN rows ln j)))
      ⟨k2, ht2, [], none, none, none, none, none, rfl, hf2, rfl, fun j y hj => by simp at hj⟩ (fun _ _ _ _ _ => trivial) ?_ ?_
    · rintro i x σ H3 H4 hi ⟨k3, ht3, ys, o5, o6, o7, o8, o9, rfl, hf3, hyl, hys⟩ ⟨rfl, hx⟩
      have ei : (1 + (i : Int)) = ((i + 1 : Nat) : Int) := by omega
      have hx' : x = .int ((i + 1 : Nat) : Int) := hx.trans (congrArg V.int ei)
      subst hx'
      clear hx
      have hnc : crossB (loN rows ln i) (hiN rows ln i) = false := sums_nc (accs_in W fun m hm => ch_known hch m (List.mem_of_mem_take hm))
      refine ⟨Nat.le_of_ble_eq_true rfl, fun v hv => ⟨v, rfl, ⟨_, .of upd_same⟩, ?_⟩⟩
      have k4 : Kp [] H4 (upd H4 v (.tup [.int 0, .int 1])) := Kp.r0.laid hv
      have hv4 : SqT K (upd H4 v (.tup [.int 0, .int 1])) v [.int 0, .int 1] := .of upd_same
      generalize (upd H4 v (.tup [.int 0, .int 1])) = H5 at k4 hv4
      refine lc_pure (walk_tup (xs := [.int 0, .int 1])) (fun j y _ => y = optV (if j = 0 then loN rows ln i else hiN rows ln i)) (Nat.le_of_ble_eq_true rfl) tts_true (fun H' k => sqTk0 hv4 k) (fun _ _ _ _ _ _ z => z) (gName_mono 10) ?_ ?_
      · rintro j x H6 H7 hj k6 ⟨rfl, hxj⟩
        have hx : x = .int (j : Nat) := by
          match j, hj, hxj with
          | 0, _, hxj => exact (Option.some.inj hxj).symm
          | 1, _, hxj => exact (Option.some.inj hxj).symm
        subst hx
        have k46 := k4.trans k6
        refine ⟨rfl, fun R hR => ⟨_, rfl, ?_⟩⟩
        unfold tNoPart
        refine ⟨_, rfl, _, rfl, ?_⟩
        refine slA none (some ((i + 1 : Nat) : Int)) (ht3.kp k46).sq fun w' H8 k8 hw => ?_
        rw [cut_take] at hw
        refine ⟨w', rfl, ⟨_, hw⟩, ?_⟩
        have k48 := k46.trans k8
        refine lc_pure (walk_tup (xs := (ln.map V.str).take (i + 1))) (fun m y _ => ∃ a, (accs rows (ln.take (i + 1)))[m]? = some a ∧ y = optV (if j = 0 then a.lo else a.hi)) (by rw [List.length_take, List.length_map]; unfold sizeLine; omega) tts_true (fun H' k => sqTk0 hw k) (fun _ _ _ _ _ _ z => z) (gName_mono 11) ?_ ?_
        · rintro m x H9 H10 hm k9 ⟨rfl, hxm⟩
          have hmi : m < i + 1 := by rw [List.length_take] at hm; omega
          rw [List.getElem?_take_of_lt hmi] at hxm
          obtain ⟨nm, hnm, rfl⟩ := str_at hxm
          obtain ⟨a, ha⟩ := hch.mem nm (List.mem_of_getElem? hnm)
          have k3a := (k3.trans k48).trans k9
          have hac : (accs rows (ln.take (i + 1)))[m]? = some a := accs_at (by rw [List.getElem?_take_of_lt hmi]; exact hnm) ha
          refine ⟨rfl, fun R2 hR2 => ⟨_, rfl, p, dx, _, rfl, (b.kp0 k3a).slt, _, rfl, p, nm, rows, a, rfl, hb.kp k3a, ha, fun u2 H11 k11 hu2 => ⟨_, rfl, _, _, _, _, rfl, rfl, hu2, ?_, hR2 _ H11 k11 ⟨a, hac, rfl⟩⟩⟩⟩
          match j, hj with
          | 0, _ => rfl
          | 1, _ => rfl
        · intro D H9 zs k9 hD hzs hzl hz
          have e := vals_of (f := fun a : Ac => optV (if j = 0 then a.lo else a.hi)) (by rw [hzl, List.length_take, List.length_map, accs_len, List.length_take]) hz
          refine ⟨D, (accs rows (ln.take (i + 1))).map fun a => if j = 0 then a.lo else a.hi, rfl, .of (by rw [hzs, e, List.map_map]; rfl), hR _ H9 (k8.trans k9) ?_⟩
          match j, hj with
          | 0, _ => rfl
          | 1, _ => rfl
      intro D H6 ws k6 hD hws hwl hw
      match ws, hwl with
      | [w0, w1], _ =>
      have e0 : w0 = optV (loN rows ln i) := hw 0 w0 rfl
      have e1 : w1 = optV (hiN rows ln i) := hw 1 w1 rfl
      subst e0 e1
      refine ⟨D, _, rfl, .of hws, rfl, _, _, rfl, _, _, rfl, rfl, ?_⟩
      have k36 := k3.trans (k4.trans k6)
      refine ⟨some 0, none, none, rfl, ⟨rfl, fun z => nomatch z⟩, fun c H7 k7 hc0 => ?_⟩
      have k37 := k36.trans k7
      have k47 := (k4.trans k6).trans k7
      refine ⟨_, rfl, g, rfl, ⟨_, sqLk0 hg k37⟩, for_it (walk_list (xs := ns.map V.int)) (fun m σ H' => Kp [] H7 H' ∧ ∃ c o9, σ = [some (.ref p), some (.str n), some (.ref g), some (.ref f), some (.ref t), some (.int ((i + 1 : Nat) : Int)), some (optV (loN rows ln i)), some (optV (hiN rows ln i)), some (.ref c), o9, none, none] ∧ WayAt K H' c (wayN (ns.take m) (loN rows ln i) (hiN rows ln i))) ⟨Kp.r0, c, o9, rfl, hc0⟩ (fun m σ H' _ z => sqLk0 hg (k37.trans z.1)) ?_ ?_⟩
      · rintro m x σ H8 H9 hm ⟨k8, c, o9, rfl, hcw⟩ ⟨rfl, hxm⟩
        obtain ⟨r, hr1, rfl⟩ := map_int_at hxm
        refine ⟨_, rfl, _, rfl, _, rfl, _, rfl, some r, loN rows ln i, hiN rows ln i, rfl, ⟨hnc, fun z => nomatch z⟩, fun d' H10 k10 hd' => ?_⟩
        obtain ⟨dx1, hS1⟩ := hcw.kp k10
        obtain ⟨dx2, hS2⟩ := id hd'
        refine ⟨c, dx1, _, d', dx2, _, rfl, rfl, hS1, hS2, c, d', _, _, rfl, hcw.kp k10, hd', wayN_ok _ _ hnc _, mkW_ok ⟨hnc, fun z => nomatch z⟩, fun c2 H11 k11 hc2 => ⟨k8.trans (k10.trans k11), c2, _, rfl, ?_⟩⟩
        rw [wayN_succ _ _ hr1]
        exact hc2
      · rintro σ H8 ⟨k8, c, o9, rfl, hcw⟩
        rw [List.length_map, List.take_length] at hcw
        have k48 := k47.trans k8
        have hf8 := k48.at0 hf3
        refine ⟨_, rfl, .inl ⟨rfl, _, .of hf8⟩, _, rfl, f, ys, _, rfl, rfl, hf8, by unfold sizeLine; omega, (k3.trans k48).new hf, ?_, ys ++ [.ref c], _, _, _, _, _, rfl, upd_same, by simp [hyl], fun j y hj => ?_⟩
        · refine (ht3.kp k48).kp (ex := [f]) (Kp.rfl'.out (List.mem_cons_self ..) fun o ho => by rw [hf8] at ho; cases ho; exact fun z => z)
        · by_cases hlt : j < ys.length
          · rw [List.getElem?_append_left hlt] at hj
            obtain ⟨cc, e, hw2⟩ := hys j y hj
            exact ⟨cc, e, (hw2.kp k48).write hf8⟩
          · rw [List.getElem?_append_right (by omega)] at hj
            have e1 : j - ys.length = 0 := by
              cases q : j - ys.length with
              | zero => rfl
              | succ m => rw [q] at hj; simp at hj
            rw [e1] at hj
            cases Option.some.inj hj
            have e2 : j = i := by omega
            subst e2
            exact ⟨c, rfl, hcw.write hf8⟩
    · rintro σ H3 ⟨k3, ht3, ys, o5, o6, o7, o8, o9, rfl, hf3, hyl, hys⟩
      refine ⟨_, rfl, f, _, rfl, .inl ⟨.of hf3, fun v hv => q v ys _ (k3.laid hv) (.of upd_same) hyl fun i y hy => ?_⟩⟩
      obtain ⟨c, e, hw⟩ := hys i y hy
      exact ⟨c, e, hw.kp (Kp.r0.laid hv), wayN_ok _ _ (sums_nc (accs_in W fun m hm => ch_known hch m (List.mem_of_mem_take hm))) _⟩
end
end K65
set_option Elab.async false
set_option linter.all false
set_option maxRecDepth 100000
set_option maxHeartbeats 4000000
namespace K65
open PySem PySem.Spec PyProof.Rows L2 SlX He
theorem val_self : ∀ {kvs : List (Key × V)}, (kvs.map (·.1)).Nodup → ∀ p ∈ kvs, valV kvs p.1 = some p.2
  | q :: kvs, nd, p, h => by
    obtain ⟨h1, h2⟩ := List.nodup_cons.mp nd
    rcases List.mem_cons.mp h with rfl | h
    · exact valV_pos rfl
    · have ne : ¬ q.1 = p.1 := fun z => h1 (by show q.1 ∈ _; rw [z]; exact List.mem_map_of_mem h)
      rw [valV_neg ne]
      exact val_self h2 p h
section
variable {P : Program} {w : World} {K : PySem.W.Frag} {mg : Str → Option Value} {base : Heap}
def spEqB (K : PySem.W.Frag) : Sp := fun vs H Q _ => ∃ (p dx l d p' dx' l' d' : Addr) (kvs : List (Key × V)) (xs xs' : List V) (rows : RowsL), vs = [.ref p, .ref p'] ∧ BX K H p dx l d kvs xs ∧ BX K H p' dx' l' d' kvs xs' ∧ RowsAt K H kvs rows ∧ (rows.map (·.1)).Nodup ∧ Q (.bl true) H
theorem ok_eqB (T : Txt K mg) : MB P w K mg base 1 "__eq__" (spEqB K) := by
  obtain ⟨fd, F⟩ := T.f_Board__eq
  refine ((F.ok sc_Board__eq (fun vs H Q E h => ?_) (fun cdv A outer s H vs Q E hr h => ?_)).raw (F.bindsN fun _ _ _ _ _ _ us hl => match us, hl with | [_, _], _ => rfl) .nil).imp fun vs H Q E h => by rw [List.append_nil]; exact h
  · obtain ⟨_, _, _, _, _, _, _, _, _, _, _, _, rfl, _⟩ := h
    rfl
  · obtain ⟨p, dx, l, d, p', dx', l', d', kvs, xs, xs', rows, rfl, b, b', hrows, nd, q⟩ := h
    refine ⟨_, PSs.nox (pss_one (ps_ret (pe_and (pe_callB (call_isiSl (.ref (ga K "Board"))) (by rfl) T.z_isinstance (by decide +kernel) (pa_cons (pv 1) (pa_cons (pe_glob (v := .ref (ga K "Board")) rfl T.g_Board rfl) pa_nil))) (pe_one (pe_cmpR (op_eqV hr.units) (pe_sl (pv 0)) (pe_sl (pv 1)) (nomark _)))))), ?_⟩
    refine ⟨_, rfl, p', _, dx', _, _, true, rfl, rfl, (fun _ z => z), b'.slt, T.cl_Board, T.isi_Board, T.kit_Board, _, rfl, iteT ?_⟩
    refine ⟨_, rfl, _, _, _, _, _, _, _, rfl, b.slt, T.cl_Board, T.sl_own_rows, rfl, _, rfl, _, _, _, _, _, _, _, rfl, b'.slt, T.cl_Board, T.sl_own_rows, rfl, 1, by decide, .inr ⟨d, d', kvs, kvs, rfl, rfl, b.hd, b'.hd, rfl, fun r hr' => ⟨r.2, val_self (rows_nd hrows nd) r hr', ?_⟩⟩, q⟩
    obtain ⟨i, hi, e⟩ := List.mem_iff_getElem.mp hr'
    obtain ⟨y, _, _, t, e2, _⟩ := paired_get hrows (show kvs[i]? = some r by rw [List.getElem?_eq_getElem hi, e])
    exact .inr (.inl ⟨t, e2, e2⟩)
/-! ### alike at every depth -/
theorem Pr.or {k : Nat} {x : Str} {sp1 sp2 : Sp} (a : Pr P w K mg base CX0 k x sp1) (b : Pr P w K mg base CX0 k x sp2) : Pr P w K mg base CX0 k x (fun vs H Q E => sp1 vs H Q E ∨ sp2 vs H Q E) :=
  ⟨a.hm, a.hk, fun A outer s H us vs Q E hr e0 r h => h.elim (a.F A outer s H us vs Q E hr e0 r) (b.F A outer s H us vs Q E hr e0 r)⟩
theorem Pr.mono {j k : Nat} {x : Str} {sp : Sp} (a : Pr P w K mg base CX0 j x sp) (h : j ≤ k) : Pr P w K mg base CX0 k x sp := ⟨a.hm, a.hk, a.F.mono h⟩
def Leaf (x : V) : Prop := x = .non ∨ ∃ i, x = .int i
theorem Leaf.opt (o : Option Int) : Leaf (optV o) := by
  cases o with
  | none => exact .inl rfl
  | some i => exact .inr ⟨i, rfl⟩
theorem kit_ib (K : PySem.W.Frag) : PySem.W.kitAny K (.type "int") [.type "bool", .type "str"] = some false := by kernel_rfl
theorem kit_ii (K : PySem.W.Frag) : PySem.W.kitOne K (.type "int") (.type "int") = some true := by kernel_rfl
theorem kit_ibo (K : PySem.W.Frag) : PySem.W.kitOne K (.type "int") (.type "bool") = some false := by kernel_rfl
theorem kit_nbo (K : PySem.W.Frag) : PySem.W.kitOne K (.type "NoneType") (.type "bool") = some false := by kernel_rfl
theorem kit_oll (K : PySem.W.Frag) : PySem.W.kitOne K (.type "list") (.type "list") = some true := by kernel_rfl
theorem kit_olt (K : PySem.W.Frag) : PySem.W.kitOne K (.type "list") (.type "tuple") = some false := by kernel_rfl
theorem kit_otl (K : PySem.W.Frag) : PySem.W.kitOne K (.type "tuple") (.type "list") = some false := by kernel_rfl
theorem kit_ott (K : PySem.W.Frag) : PySem.W.kitOne K (.type "tuple") (.type "tuple") = some true := by kernel_rfl
def spSame0 : Sp := fun vs H Q _ => ∃ x : V, vs = [x, x] ∧ Leaf x ∧ ∀ H', Kp [] H H' → Q (.bl true) H'
theorem ok_same0 (T : Txt K mg) : Pr P w K mg base CX0 1 "_law_same" spSame0 := by
  obtain ⟨fd, F⟩ := T.f_law_same
  refine Pr.of T.g_law_same F.kp (F.ok sc_law_same (fun vs H Q E h => ?_) (fun cdv A outer s H vs Q E hr h => ?_)) (F.bindsN fun _ _ _ _ _ _ us hl => match us, hl with | [_, _], _ => rfl)
  · obtain ⟨_, rfl, _⟩ := h
    rfl
  · obtain ⟨x, rfl, hx, q⟩ := h
    have P_law_same : Pr P w K mg base CX0 0 "_law_same" (fun _ _ _ _ => False) := ⟨T.g_law_same, F.kp, fun _ _ _ _ _ _ _ _ _ _ _ h => h.elim⟩
    refine ⟨_, PSs.nox (pss_cons (ps_if (pt_val (pe_callB call_isiT (by rfl) T.z_isinstance (by decide +kernel) (pa_cons (pv 1) (pa_cons (pe_tup (pa_cons (pe_bltn (v := .ty "list") rfl T.z_list rfl rfl) (pa_cons (pe_bltn (v := .ty "tuple") rfl T.z_tuple rfl rfl) pa_nil))) pa_nil)))) (pss_cons (ps_if (pt_cmpR op_ne (pe_callB call_isi (by rfl) T.z_isinstance (by decide +kernel) (pa_cons (pv 0) (pa_cons (pe_bltn (v := .ty "list") rfl T.z_list rfl rfl) pa_nil))) (pe_callB call_isi (by rfl) T.z_isinstance (by decide +kernel) (pa_cons (pv 1) (pa_cons (pe_bltn (v := .ty "list") rfl T.z_list rfl rfl) pa_nil))) (nomark _)) (pss_one (ps_ret pe_bl)) pss_nil) (pss_cons (ps_if (pt_cmpR op_ne (pe_callB call_isi (by rfl) T.z_isinstance (by decide +kernel) (pa_cons (pv 0) (pa_cons (pe_bltn (v := .ty "tuple") rfl T.z_tuple rfl rfl) pa_nil))) (pe_callB call_isi (by rfl) T.z_isinstance (by decide +kernel) (pa_cons (pv 1) (pa_cons (pe_bltn (v := .ty "tuple") rfl T.z_tuple rfl rfl) pa_nil))) (nomark _)) (pss_one (ps_ret pe_bl)) pss_nil) (pss_one (ps_ret (pe_and (pe_cmpR op_eq (pe_callB call_len_seq (by rfl) T.z_len PySem.boot_len (pa_cons (pv 0) pa_nil)) (pe_callB call_len_seq (by rfl) T.z_len PySem.boot_len (pa_cons (pv 1) pa_nil)) (nomark _)) (pe_one (pe_callB (cr_all rfl) (by rfl) T.z_all (by decide +kernel) (pa_cons (pe_lc (own := [("_law_mine", 2), ("_law_its", 3)]) (g := gTup K 2 (gCons (gName 2) (gCons (gName 3) gNil))) rfl sc_law_same.nd (RZ.pi_zipA rfl T.z_zip (pa_cons (pv 0) (pa_cons (pv 1) pa_nil))) (blkOk_by (own := [("_law_mine", 2), ("_law_its", 3)]) (N := ["_law_got", "_law_due", "_law_mine", "_law_its"]) (sc := defScope s_law_same) (by decide +kernel)) (fun _ _ _ _ _ => (pg_tup rfl (pgs_cons (pg_name (i := 2) sc_law_same.nd rfl (Or.inl rfl)) (pgs_cons (pg_name (i := 3) sc_law_same.nd rfl (Or.inl rfl)) pgs_nil)))) (fun _ _ _ _ _ => pts_nil) (fun _ _ _ _ _ => (pe_g P_law_same (hr.mono (by decide)) pass0 (pa_cons (pv 2) (pa_cons (pv 3) pa_nil))))) pa_nil)))))))) pss_nil) (pss_cons (ps_if (PW.pt (pw_or (pt_cmpR op_isN (pv 1) pe_non (nomark _)) (pw_or1 (pt_val (pe_callB call_isiT (by rfl) T.z_isinstance (by decide +kernel) (pa_cons (pv 1) (pa_cons (pe_tup (pa_cons (pe_bltn (v := .ty "bool") rfl T.z_bool rfl rfl) (pa_cons (pe_bltn (v := .ty "str") rfl T.z_str rfl rfl) pa_nil))) pa_nil))))))) (pss_one (ps_ret (pe_and (pe_cmpR op_eq (pv 0) (pv 1) (nomark _)) (pe_and (pe_cmpR op_eq (pe_callB call_isi (by rfl) T.z_isinstance (by decide +kernel) (pa_cons (pv 0) (pa_cons (pe_bltn (v := .ty "bool") rfl T.z_bool rfl rfl) pa_nil))) (pe_callB call_isi (by rfl) T.z_isinstance (by decide +kernel) (pa_cons (pv 1) (pa_cons (pe_bltn (v := .ty "bool") rfl T.z_bool rfl rfl) pa_nil))) (nomark _)) (pe_one (pe_cmpR op_eq (pe_cmpR op_isN (pv 0) pe_non (nomark _)) (pe_cmpR op_isN (pv 1) pe_non (nomark _)) (nomark _))))))) pss_nil) (pss_one (ps_ret (pe_and (pe_callB call_isi (by rfl) T.z_isinstance (by decide +kernel) (pa_cons (pv 0) (pa_cons (pe_bltn (v := .ty "int") rfl T.z_int rfl rfl) pa_nil))) (pe_and (pe_not (pe_callB call_isi (by rfl) T.z_isinstance (by decide +kernel) (pa_cons (pv 0) (pa_cons (pe_bltn (v := .ty "bool") rfl T.z_bool rfl rfl) pa_nil)))) (pe_one (pe_cmpR op_eq (pv 0) (pv 1) (nomark _))))))))), ?_⟩
    refine ⟨_, rfl, Nat.le_of_ble_eq_true rfl, fun p hp => ?_⟩
    have k1 : Kp [] H (upd H p (.tup [.ty "list", .ty "tuple"])) := Kp.r0.laid hp
    rcases hx with rfl | ⟨i, rfl⟩
    · refine ⟨_, p, _, _, _, false, rfl, upd_same, .cons (.ty _) (.cons (.ty _) .nil), .base .non, kit_nl K, _, rfl, iteF ?_⟩
      refine ⟨_, rfl, rfl, _, rfl, iteT (iteT ?_)⟩
      refine ⟨_, rfl, _, rfl, rfl, _, rfl, iteT ?_⟩
      refine ⟨_, rfl, _, _, _, _, false, rfl, .ty _, .base .non, kit_nbo K, _, rfl, _, _, _, _, false, rfl, .ty _, .base .non, kit_nbo K, rfl, _, rfl, iteT ?_⟩
      exact ⟨_, rfl, rfl, _, rfl, rfl, rfl, q _ k1⟩
    · refine ⟨_, p, _, _, _, false, rfl, upd_same, .cons (.ty _) (.cons (.ty _) .nil), .base (.int i), kit_il K, _, rfl, iteF ?_⟩
      refine ⟨_, rfl, rfl, _, rfl, iteF ?_⟩
      refine ⟨_, rfl, Nat.le_of_ble_eq_true rfl, fun u hu => ⟨_, u, _, _, _, false, rfl, upd_same, .cons (.ty _) (.cons (.ty _) .nil), .base (.int i), kit_ib K, _, rfl, iteF ?_⟩⟩
      refine ⟨_, rfl, _, _, _, _, true, rfl, .ty _, .base (.int i), kit_ii K, _, rfl, iteT ?_⟩
      refine ⟨_, rfl, _, _, _, _, false, rfl, .ty _, .base (.int i), kit_ibo K, _, rfl, _, rfl, iteT' rfl ?_⟩
      refine ⟨_, rfl, _, rfl, rfl, ?_⟩
      have e : decide (V.int i = V.int i) = true := decide_eq_true rfl
      rw [e]
      exact q _ (k1.laid hu)
def spSame1 (K : PySem.W.Frag) : Sp := fun vs H Q _ => ∃ (a b : Addr) (zs : List V), vs = [.ref a, .ref b] ∧ SqT K H a zs ∧ SqT K H b zs ∧ zs.length < 1000 ∧ (∀ z ∈ zs, Leaf z) ∧ ∀ H', Kp [] H H' → Q (.bl true) H'
theorem all_true : ∀ n : Nat, (List.replicate n true).all id = true
  | 0 => rfl
  | n + 1 => by rw [List.replicate_succ, List.all_cons, all_true n]; rfl
theorem bl_rep {ys : List V} (h : ∀ (i : Nat) (y : V), ys[i]? = some y → y = .bl true) : ys = (List.replicate ys.length true).map V.bl := by
  refine List.ext_getElem? fun i => ?_
  cases e : ys[i]? with
  | none =>
    have := List.getElem?_eq_none_iff.mp e
    rw [List.getElem?_eq_none_iff.mpr (by simpa using this)]
  | some y =>
    have hl := (List.getElem?_eq_some_iff.mp e).1
    rw [h i y e, List.getElem?_map, List.getElem?_replicate, if_pos hl]
    rfl
theorem ok_same1 (T : Txt K mg) (P_law_same : Pr P w K mg base CX0 1 "_law_same" spSame0) : Pr P w K mg base CX0 2 "_law_same" (spSame1 K) := by
  obtain ⟨fd, F⟩ := T.f_law_same
  refine Pr.of T.g_law_same F.kp (F.ok sc_law_same (fun vs H Q E h => ?_) (fun cdv A outer s H vs Q E hr h => ?_)) (F.bindsN fun _ _ _ _ _ _ us hl => match us, hl with | [_, _], _ => rfl)
  · obtain ⟨_, _, _, rfl, _⟩ := h
    rfl
  · obtain ⟨a, b, zs, rfl, ha, hb, hlen, hz, q⟩ := h
    refine ⟨_, PSs.nox (pss_cons (ps_if (pt_val (pe_callB call_isiT (by rfl) T.z_isinstance (by decide +kernel) (pa_cons (pv 1) (pa_cons (pe_tup (pa_cons (pe_bltn (v := .ty "list") rfl T.z_list rfl rfl) (pa_cons (pe_bltn (v := .ty "tuple") rfl T.z_tuple rfl rfl) pa_nil))) pa_nil)))) (pss_cons (ps_if (pt_cmpR op_ne (pe_callB call_isi (by rfl) T.z_isinstance (by decide +kernel) (pa_cons (pv 0) (pa_cons (pe_bltn (v := .ty "list") rfl T.z_list rfl rfl) pa_nil))) (pe_callB call_isi (by rfl) T.z_isinstance (by decide +kernel) (pa_cons (pv 1) (pa_cons (pe_bltn (v := .ty "list") rfl T.z_list rfl rfl) pa_nil))) (nomark _)) (pss_one (ps_ret pe_bl)) pss_nil) (pss_cons (ps_if (pt_cmpR op_ne (pe_callB call_isi (by rfl) T.z_isinstance (by decide +kernel) (pa_cons (pv 0) (pa_cons (pe_bltn (v := .ty "tuple") rfl T.z_tuple rfl rfl) pa_nil))) (pe_callB call_isi (by rfl) T.z_isinstance (by decide +kernel) (pa_cons (pv 1) (pa_cons (pe_bltn (v := .ty "tuple") rfl T.z_tuple rfl rfl) pa_nil))) (nomark _)) (pss_one (ps_ret pe_bl)) pss_nil) (pss_one (ps_ret (pe_and (pe_cmpR op_eq (pe_callB call_len_seq (by rfl) T.z_len PySem.boot_len (pa_cons (pv 0) pa_nil)) (pe_callB call_len_seq (by rfl) T.z_len PySem.boot_len (pa_cons (pv 1) pa_nil)) (nomark _)) (pe_one (pe_callB (cr_all rfl) (by rfl) T.z_all (by decide +kernel) (pa_cons (pe_lc (own := [("_law_mine", 2), ("_law_its", 3)]) (g := gTup K 2 (gCons (gName 2) (gCons (gName 3) gNil))) rfl sc_law_same.nd (RZ.pi_zipA rfl T.z_zip (pa_cons (pv 0) (pa_cons (pv 1) pa_nil))) (blkOk_by (own := [("_law_mine", 2), ("_law_its", 3)]) (N := ["_law_got", "_law_due", "_law_mine", "_law_its"]) (sc := defScope s_law_same) (by decide +kernel)) (fun _ _ _ _ _ => (pg_tup rfl (pgs_cons (pg_name (i := 2) sc_law_same.nd rfl (Or.inl rfl)) (pgs_cons (pg_name (i := 3) sc_law_same.nd rfl (Or.inl rfl)) pgs_nil)))) (fun _ _ _ _ _ => pts_nil) (fun _ _ _ _ _ => (pe_g P_law_same (hr.mono (by decide)) pass0 (pa_cons (pv 2) (pa_cons (pv 3) pa_nil))))) pa_nil)))))))) pss_nil) (pss_cons (ps_if (PW.pt (pw_or (pt_cmpR op_isN (pv 1) pe_non (nomark _)) (pw_or1 (pt_val (pe_callB call_isiT (by rfl) T.z_isinstance (by decide +kernel) (pa_cons (pv 1) (pa_cons (pe_tup (pa_cons (pe_bltn (v := .ty "bool") rfl T.z_bool rfl rfl) (pa_cons (pe_bltn (v := .ty "str") rfl T.z_str rfl rfl) pa_nil))) pa_nil))))))) (pss_one (ps_ret (pe_and (pe_cmpR op_eq (pv 0) (pv 1) (nomark _)) (pe_and (pe_cmpR op_eq (pe_callB call_isi (by rfl) T.z_isinstance (by decide +kernel) (pa_cons (pv 0) (pa_cons (pe_bltn (v := .ty "bool") rfl T.z_bool rfl rfl) pa_nil))) (pe_callB call_isi (by rfl) T.z_isinstance (by decide +kernel) (pa_cons (pv 1) (pa_cons (pe_bltn (v := .ty "bool") rfl T.z_bool rfl rfl) pa_nil))) (nomark _)) (pe_one (pe_cmpR op_eq (pe_cmpR op_isN (pv 0) pe_non (nomark _)) (pe_cmpR op_isN (pv 1) pe_non (nomark _)) (nomark _))))))) pss_nil) (pss_one (ps_ret (pe_and (pe_callB call_isi (by rfl) T.z_isinstance (by decide +kernel) (pa_cons (pv 0) (pa_cons (pe_bltn (v := .ty "int") rfl T.z_int rfl rfl) pa_nil))) (pe_and (pe_not (pe_callB call_isi (by rfl) T.z_isinstance (by decide +kernel) (pa_cons (pv 0) (pa_cons (pe_bltn (v := .ty "bool") rfl T.z_bool rfl rfl) pa_nil)))) (pe_one (pe_cmpR op_eq (pv 0) (pv 1) (nomark _))))))))), ?_⟩
    refine ⟨_, rfl, Nat.le_of_ble_eq_true rfl, fun p hp => ?_⟩
    have k1 : Kp [] H (upd H p (.tup [.ty "list", .ty "tuple"])) := Kp.r0.laid hp
    have ha1 := sqTk0 ha k1
    have hb1 := sqTk0 hb k1
    refine ⟨_, p, _, _, _, true, rfl, upd_same, .cons (.ty _) (.cons (.ty _) .nil), sqT_ty hb1, kit_tl K, _, rfl, iteT ?_⟩
    refine ⟨_, rfl, _, _, _, _, false, rfl, .ty _, sqT_ty ha1, kit_otl K, _, rfl, _, _, _, _, false, rfl, .ty _, sqT_ty hb1, kit_otl K, rfl, _, rfl, decNF rfl ?_⟩
    refine ⟨_, rfl, _, _, _, _, true, rfl, .ty _, sqT_ty ha1, kit_ott K, _, rfl, _, _, _, _, true, rfl, .ty _, sqT_ty hb1, kit_ott K, rfl, _, rfl, decNF rfl ?_⟩
    refine ⟨_, rfl, _, _, rfl, .inr ha1, _, rfl, _, _, rfl, .inr hb1, rfl, _, rfl, decT rfl ?_⟩
    refine ⟨_, rfl, _, rfl, a, b, _, _, rfl, .inr ⟨ha1, hb1, ?_⟩⟩
    refine lc_pure (walk_zipT (xs := zs) (ys := zs) (n := zs.length) (by omega)) (fun i y _ => y = .bl true) (by unfold sizeLine; omega) tts_true (fun H' k => ⟨sqTk0 ha1 k, sqTk0 hb1 k⟩) (fun _ _ _ _ _ _ z => z) (gTup2_mono _ 2 3) ?_ ?_
    · rintro i x H' H'' hi k ⟨t, y, z, rfl, ht, rfl, hy, hz'⟩
      have e : y = z := Option.some.inj (hy.symm.trans hz')
      subst e
      exact ⟨t, _, rfl, .of upd_same, rfl, _, _, rfl, _, _, rfl, rfl, rfl, fun R hR => ⟨_, rfl, _, rfl, y, rfl, hz y (List.mem_of_getElem? hy), fun H3 k3 => hR _ H3 ((Kp.r0.laid ht).trans k3) rfl⟩⟩
    · intro D H1 ys k2 hD hys hyl hz'
      refine ⟨D, _, rfl, .of (by rw [hys, bl_rep hz']), ?_⟩
      rw [all_true]
      exact q H1 (k1.trans k2)
/-- one item of two lists that are alike -/
def Alk (K : PySem.W.Frag) (H : Hp) (x y : V) : Prop := (x = y ∧ Leaf x) ∨ ∃ a b zs, x = .ref a ∧ y = .ref b ∧ SqT K H a zs ∧ SqT K H b zs ∧ zs.length < 1000 ∧ ∀ z ∈ zs, Leaf z
theorem Alk.kp {H H' : Hp} {ex : List Addr} {x y : V} (h : Alk K H x y) (k : Kp ex H H') : Alk K H' x y := by
  rcases h with h | ⟨a, b, zs, e1, e2, h1, h2, h3⟩
  · exact .inl h
  · exact .inr ⟨a, b, zs, e1, e2, sqTk0 h1 k, sqTk0 h2 k, h3⟩
def spSame2 (K : PySem.W.Frag) : Sp := fun vs H Q _ => ∃ (a b : Addr) (xs ys : List V), vs = [.ref a, .ref b] ∧ SqL K H a xs ∧ SqL K H b ys ∧ xs.length < 1000 ∧ Paired (Alk K H) xs ys ∧ ∀ H', Kp [] H H' → Q (.bl true) H'
theorem ok_same2 (T : Txt K mg) (P0 : Pr P w K mg base CX0 1 "_law_same" spSame0) (P1 : Pr P w K mg base CX0 2 "_law_same" (spSame1 K)) : Pr P w K mg base CX0 3 "_law_same" (spSame2 K) := by
  obtain ⟨fd, F⟩ := T.f_law_same
  have P_law_same := Pr.or (Pr.mono P0 (show 1 ≤ 2 by decide)) P1
  refine Pr.of T.g_law_same F.kp (F.ok sc_law_same (fun vs H Q E h => ?_) (fun cdv A outer s H vs Q E hr h => ?_)) (F.bindsN fun _ _ _ _ _ _ us hl => match us, hl with | [_, _], _ => rfl)
  · obtain ⟨_, _, _, _, rfl, _⟩ := h
    rfl
  · obtain ⟨a, b, xs, ys, rfl, ha, hb, hlen, hp2, q⟩ := h
    refine ⟨_, PSs.nox (pss_cons (ps_if (pt_val (pe_callB call_isiT (by rfl) T.z_isinstance (by decide +kernel) (pa_cons (pv 1) (pa_cons (pe_tup (pa_cons (pe_bltn (v := .ty "list") rfl T.z_list rfl rfl) (pa_cons (pe_bltn (v := .ty "tuple") rfl T.z_tuple rfl rfl) pa_nil))) pa_nil)))) (pss_cons (ps_if (pt_cmpR op_ne (pe_callB call_isi (by rfl) T.z_isinstance (by decide +kernel) (pa_cons (pv 0) (pa_cons (pe_bltn (v := .ty "list") rfl T.z_list rfl rfl) pa_nil))) (pe_callB call_isi (by rfl) T.z_isinstance (by decide +kernel) (pa_cons (pv 1) (pa_cons (pe_bltn (v := .ty "list") rfl T.z_list rfl rfl) pa_nil))) (nomark _)) (pss_one (ps_ret pe_bl)) pss_nil) (pss_cons (ps_if (pt_cmpR op_ne (pe_callB call_isi (by rfl) T.z_isinstance (by decide +kernel) (pa_cons (pv 0) (pa_cons (pe_bltn (v := .ty "tuple") rfl T.z_tuple rfl rfl) pa_nil))) (pe_callB call_isi (by rfl) T.z_isinstance (by decide +kernel) (pa_cons (pv 1) (pa_cons (pe_bltn (v := .ty "tuple") rfl T.z_tuple rfl rfl) pa_nil))) (nomark _)) (pss_one (ps_ret pe_bl)) pss_nil) (pss_one (ps_ret (pe_and (pe_cmpR op_eq (pe_callB call_len_seq (by rfl) T.z_len PySem.boot_len (pa_cons (pv 0) pa_nil)) (pe_callB call_len_seq (by rfl) T.z_len PySem.boot_len (pa_cons (pv 1) pa_nil)) (nomark _)) (pe_one (pe_callB (cr_all rfl) (by rfl) T.z_all (by decide +kernel) (pa_cons (pe_lc (own := [("_law_mine", 2), ("_law_its", 3)]) (g := gTup K 2 (gCons (gName 2) (gCons (gName 3) gNil))) rfl sc_law_same.nd (RZ.pi_zipA rfl T.z_zip (pa_cons (pv 0) (pa_cons (pv 1) pa_nil))) (blkOk_by (own := [("_law_mine", 2), ("_law_its", 3)]) (N := ["_law_got", "_law_due", "_law_mine", "_law_its"]) (sc := defScope s_law_same) (by decide +kernel)) (fun _ _ _ _ _ => (pg_tup rfl (pgs_cons (pg_name (i := 2) sc_law_same.nd rfl (Or.inl rfl)) (pgs_cons (pg_name (i := 3) sc_law_same.nd rfl (Or.inl rfl)) pgs_nil)))) (fun _ _ _ _ _ => pts_nil) (fun _ _ _ _ _ => (pe_g P_law_same (hr.mono (by decide)) pass0 (pa_cons (pv 2) (pa_cons (pv 3) pa_nil))))) pa_nil)))))))) pss_nil) (pss_cons (ps_if (PW.pt (pw_or (pt_cmpR op_isN (pv 1) pe_non (nomark _)) (pw_or1 (pt_val (pe_callB call_isiT (by rfl) T.z_isinstance (by decide +kernel) (pa_cons (pv 1) (pa_cons (pe_tup (pa_cons (pe_bltn (v := .ty "bool") rfl T.z_bool rfl rfl) (pa_cons (pe_bltn (v := .ty "str") rfl T.z_str rfl rfl) pa_nil))) pa_nil))))))) (pss_one (ps_ret (pe_and (pe_cmpR op_eq (pv 0) (pv 1) (nomark _)) (pe_and (pe_cmpR op_eq (pe_callB call_isi (by rfl) T.z_isinstance (by decide +kernel) (pa_cons (pv 0) (pa_cons (pe_bltn (v := .ty "bool") rfl T.z_bool rfl rfl) pa_nil))) (pe_callB call_isi (by rfl) T.z_isinstance (by decide +kernel) (pa_cons (pv 1) (pa_cons (pe_bltn (v := .ty "bool") rfl T.z_bool rfl rfl) pa_nil))) (nomark _)) (pe_one (pe_cmpR op_eq (pe_cmpR op_isN (pv 0) pe_non (nomark _)) (pe_cmpR op_isN (pv 1) pe_non (nomark _)) (nomark _))))))) pss_nil) (pss_one (ps_ret (pe_and (pe_callB call_isi (by rfl) T.z_isinstance (by decide +kernel) (pa_cons (pv 0) (pa_cons (pe_bltn (v := .ty "int") rfl T.z_int rfl rfl) pa_nil))) (pe_and (pe_not (pe_callB call_isi (by rfl) T.z_isinstance (by decide +kernel) (pa_cons (pv 0) (pa_cons (pe_bltn (v := .ty "bool") rfl T.z_bool rfl rfl) pa_nil)))) (pe_one (pe_cmpR op_eq (pv 0) (pv 1) (nomark _))))))))), ?_⟩
    have hl := Paired.length hp2
    refine ⟨_, rfl, Nat.le_of_ble_eq_true rfl, fun p hp => ?_⟩
    have k1 : Kp [] H (upd H p (.tup [.ty "list", .ty "tuple"])) := Kp.r0.laid hp
    have ha1 := sqLk0 ha k1
    have hb1 := sqLk0 hb k1
    refine ⟨_, p, _, _, _, true, rfl, upd_same, .cons (.ty _) (.cons (.ty _) .nil), sqL_ty hb1, kit_ll K, _, rfl, iteT ?_⟩
    refine ⟨_, rfl, _, _, _, _, true, rfl, .ty _, sqL_ty ha1, kit_oll K, _, rfl, _, _, _, _, true, rfl, .ty _, sqL_ty hb1, kit_oll K, rfl, _, rfl, decNF rfl ?_⟩
    refine ⟨_, rfl, _, _, _, _, false, rfl, .ty _, sqL_ty ha1, kit_olt K, _, rfl, _, _, _, _, false, rfl, .ty _, sqL_ty hb1, kit_olt K, rfl, _, rfl, decNF rfl ?_⟩
    refine ⟨_, rfl, _, _, rfl, .inl ha1, _, rfl, _, _, rfl, .inl hb1, rfl, _, rfl, decT (by rw [hl]) ?_⟩
    refine ⟨_, rfl, _, rfl, a, b, _, _, rfl, .inl ⟨ha1, hb1, ?_⟩⟩
    refine lc_pure (walk_zip (xs := xs) (ys := ys) (n := xs.length) (by omega)) (fun i y _ => y = .bl true) (by unfold sizeLine; omega) tts_true (fun H' k => ⟨sqLk0 ha1 k, sqLk0 hb1 k⟩) (fun _ _ _ _ _ _ z => z) (gTup2_mono _ 2 3) ?_ ?_
    · rintro i x H' H'' hi k ⟨t, y, z, rfl, ht, rfl, hy, hz'⟩
      obtain ⟨z2, e, hal⟩ := paired_get hp2 hy
      cases Option.some.inj (e.symm.trans hz')
      have hal2 := hal.kp (k1.trans (k.laid (o := .tup [y, z]) ht))
      refine ⟨t, _, rfl, .of upd_same, rfl, _, _, rfl, _, _, rfl, rfl, rfl, fun R hR => ⟨_, rfl, _, rfl, ?_⟩⟩
      rcases hal2 with ⟨rfl, hlf⟩ | ⟨a2, b2, zs, rfl, rfl, h1, h2, h3, h4⟩
      · exact .inl ⟨y, rfl, hlf, fun H3 k3 => hR _ H3 ((Kp.r0.laid ht).trans k3) rfl⟩
      · exact .inr ⟨a2, b2, zs, rfl, h1, h2, h3, h4, fun H3 k3 => hR _ H3 ((Kp.r0.laid ht).trans k3) rfl⟩
    · intro D H1 ws k2 hD hws hwl hz'
      refine ⟨D, _, rfl, .of (by rw [hws, bl_rep hz']), ?_⟩
      rw [all_true]
      exact q H1 (k1.trans k2)
end
end K65
set_option Elab.async false
set_option linter.all false
set_option maxRecDepth 100000
set_option maxHeartbeats 4000000
namespace K65
open PySem PySem.Spec PyProof.Rows L2 SlX
section
variable {X : Cx} {pins : List (Addr × Obj)} {σ : L2.St} {H : Hp} {s : Shared}
theorem run_fnRS {k : Nat} {f : Addr} {sp : Sp} {W : WX} {Q : VK} {us : List Value} {vs : List V} (F : FnR X.prog X.w X.K X.mg X.base (L2.CX X.prog X.w) k f sp) (hr : Room k X.A) (tk : L2.Takes X W) (I : Inv X pins σ H s) (r : Vals vs us) (h : sp vs H Q (fun cls d H' => W cls d σ H')) :
    codeAny (model X.prog X.w) X.A (.call (.ref f) ⟨us, []⟩) (fun r s' => match r with | .ok (.ret v) => EP X pins σ Q v s' | .ok _ => False | .error e => X.xe e s') s := by
  refine codeAny_mono (F X.A X.stack s H us vs Q _ hr I.env0 r h) fun r s' hq => ?_
  cases r with
  | error e => exact tk e s' (L2.XE.of_call I (fun cls d H' h => h) hq)
  | ok fl =>
    cases fl with
    | ret u => exact I.after hq
    | next => exact False.elim hq
    | brk => exact False.elim hq
    | cont => exact False.elim hq
end
section
variable {X : Cx} {o e value : Expr} {es : List Expr} {f m : Str} {pos pos' apos : Pos} {ta tv : TE} {t : TA}
/-- o.m(e, ..) whose error is taken where we are -/
def tMethSlS (C : Addr) (sp : Sp) (W : WX) (ta : TE) (t : TA) : TE := fun σ H Q => ta σ H fun x H1 => ∃ a dx vs, x = .ref a ∧ Slt H1 a C dx vs ∧ t σ H1 fun ws H2 => sp (x :: ws) H2 Q (fun cls d H' => W cls d σ H')
theorem pe_methSlS {k : Nat} {C g : Addr} {sp : Sp} {W : WX} {pl : Sem Bool} (tk : L2.Takes X W) (he : PE X o ta) (c : SCls X.K C) (hm : Meth X.K C m g) (F : FnR X.prog X.w X.K X.mg X.base (L2.CX X.prog X.w) k g sp) (hr : Room k X.A) (ha : PA X (e :: es) t)
    (hst : starEach (e :: es) X.env = (false, eval e X.env) :: starEach es X.env := by rfl) (hpl : (backTo pos (starEach es X.env)).any (·.1) = false := by rfl)
    (ht : eval (.Call (.Attribute o m apos) (e :: es) [] pos) X.env = (do
      let ov ← eval o X.env
      standAt apos.atName
      let (f, first) ← holding [ov] (getMethod ov m pl)
      callWith pos f first (backTo pos (starEach (e :: es) X.env)) (backToKw pos (keywordEach [] X.env))) := by rfl) :
    PE X (.Call (.Attribute o m apos) (e :: es) [] pos) (tMethSlS C sp W ta t) := by
  refine ⟨fun pins s σ H Q I h => ?_⟩
  refine PySem.W.methodCall_KW (pl := pl) (thn (he.run pins s σ H _ I h) fun u s1 ⟨x, H1, I1, rx, a, dx, vs, ex, hsl, q⟩ => ?_) ht
  subst ex
  obtain rfl : u = Value.ref a := rx
  refine getmethsl_ok I1 hsl c hm ?_
  refine PySem.W.callWith_K (first := [.ref a]) (h₀ := X.base) I.ok.mod.kin hm.kp (thn (ha.run pos pins s1 σ H1 _ I1 q) fun us s2 ⟨ws, H2, I2, r, q2⟩ => ⟨I2.kIn, ?_⟩) hst hpl
  exact wpAny_call (run_fnRS (us := .ref a :: us) (vs := .ref a :: ws) F hr tk I2 (.cons rfl r) q2)
end
end K65
set_option Elab.async false
set_option linter.all false
set_option maxRecDepth 100000
set_option maxHeartbeats 4000000
namespace K65
open PySem PySem.Spec PyProof.Rows L2 SlX He
section
variable {P : Program} {w : World} {K : PySem.W.Frag} {mg : Str → Option Value} {base : Heap}
def spNamed (K : PySem.W.Frag) : Sp := fun vs H Q _ => ∃ (a dd : Addr) (C : Str) (fs : List (Str × V)), vs = [.ref a] ∧ XKind C fs ∧ H a = some (exH a (.ref (ga K C)) (some dd)) ∧ H dd = some (.xd fs) ∧ ∀ v H', Kp [] H H' → Q v H'
theorem ok_named (T : Txt K mg) : Pr P w K mg base CX0 1 "_law_named" (spNamed K) := by
  obtain ⟨fd, F⟩ := T.f_law_named
  refine Pr.of T.g_law_named F.kp (F.ok sc_law_named (fun vs H Q E h => ?_) (fun cdv A outer s H vs Q E hr h => ?_)) (F.bindsN fun _ _ _ _ _ _ us hl => match us, hl with | [_], _ => rfl)
  · obtain ⟨_, _, _, _, rfl, _⟩ := h
    rfl
  · obtain ⟨a, dd, C, fs, rfl, hk, ha, hd, q⟩ := h
    refine ⟨_, PSs.nox (pss_cons (ps_if (pt_val (pe_callB call_isX (by rfl) T.z_isinstance (by decide +kernel) (pa_cons (pv 0) (pa_cons (pe_glob (v := .ref (ga K "Crossed")) rfl T.g_Crossed rfl) pa_nil)))) (pss_one (ps_ret (pe_lst (pa_cons pe_str (pa_cons (pe_xfT (pv 0)) (pa_cons (pe_xfT (pv 0)) pa_nil)))))) pss_nil) (pss_cons (ps_if (pt_val (pe_callB call_isX (by rfl) T.z_isinstance (by decide +kernel) (pa_cons (pv 0) (pa_cons (pe_glob (v := .ref (ga K "Outside")) rfl T.g_Outside rfl) pa_nil)))) (pss_one (ps_ret (pe_lst (pa_cons pe_str (pa_cons (pe_xfT (pv 0)) pa_nil))))) pss_nil) (pss_cons (ps_if (pt_val (pe_callB call_isX (by rfl) T.z_isinstance (by decide +kernel) (pa_cons (pv 0) (pa_cons (pe_glob (v := .ref (ga K "NothingDone")) rfl T.g_NothingDone rfl) pa_nil)))) (pss_one (ps_ret (pe_lst (pa_cons pe_str pa_nil)))) pss_nil) (pss_cons (ps_if (pt_val (pe_callB call_isX (by rfl) T.z_isinstance (by decide +kernel) (pa_cons (pv 0) (pa_cons (pe_glob (v := .ref (ga K "NoName")) rfl T.g_NoName rfl) pa_nil)))) (pss_one (ps_ret (pe_lst (pa_cons pe_str (pa_cons (pe_xfT (pv 0)) pa_nil))))) pss_nil) (pss_cons (ps_if (pt_val (pe_callB call_isX (by rfl) T.z_isinstance (by decide +kernel) (pa_cons (pv 0) (pa_cons (pe_glob (v := .ref (ga K "Taken")) rfl T.g_Taken rfl) pa_nil)))) (pss_one (ps_ret (pe_lst (pa_cons pe_str (pa_cons (pe_xfT (pv 0)) pa_nil))))) pss_nil) (pss_one (ps_ret (pe_lst (pa_cons (pe_ifExp (pt_val (pe_callB call_isX (by rfl) T.z_isinstance (by decide +kernel) (pa_cons (pv 0) (pa_cons (pe_glob (v := .ref (ga K "Needed")) rfl T.g_Needed rfl) pa_nil)))) pe_str pe_str) (pa_cons (pe_xfT (pv 0)) pa_nil)))))))))), ?_⟩
    rcases hk with ⟨rfl, v, rfl⟩ | ⟨rfl, v, rfl⟩ | ⟨rfl, v, rfl⟩ | ⟨rfl, v, rfl⟩ | ⟨rfl, v, rfl⟩ | ⟨rfl, v, u, rfl⟩
    · refine ⟨_, rfl, a, _, dd, _, _, _, rfl, ha, hd, T.oe_NoName, T.ky "NoName" (by decide) "Crossed" (by decide), _, rfl, iteF' (by decide) ?_⟩
      refine ⟨_, rfl, a, _, dd, _, _, _, rfl, ha, hd, T.oe_NoName, T.ky "NoName" (by decide) "Outside" (by decide), _, rfl, iteF' (by decide) ?_⟩
      refine ⟨_, rfl, a, _, dd, _, _, _, rfl, ha, hd, T.oe_NoName, T.ky "NoName" (by decide) "NothingDone" (by decide), _, rfl, iteF' (by decide) ?_⟩
      refine ⟨_, rfl, a, _, dd, _, _, _, rfl, ha, hd, T.oe_NoName, T.ky "NoName" (by decide) "NoName" (by decide), _, rfl, iteT' (by decide) ?_⟩
      refine ⟨_, rfl, a, _, dd, _, _, rfl, ha, hd, T.of_NoName, T.on_NoName_name, rfl, Nat.le_of_ble_eq_true rfl, fun l hl => q _ _ (Kp.r0.laid hl)⟩
    · refine ⟨_, rfl, a, _, dd, _, _, _, rfl, ha, hd, T.oe_Taken, T.ky "Taken" (by decide) "Crossed" (by decide), _, rfl, iteF' (by decide) ?_⟩
      refine ⟨_, rfl, a, _, dd, _, _, _, rfl, ha, hd, T.oe_Taken, T.ky "Taken" (by decide) "Outside" (by decide), _, rfl, iteF' (by decide) ?_⟩
      refine ⟨_, rfl, a, _, dd, _, _, _, rfl, ha, hd, T.oe_Taken, T.ky "Taken" (by decide) "NothingDone" (by decide), _, rfl, iteF' (by decide) ?_⟩
      refine ⟨_, rfl, a, _, dd, _, _, _, rfl, ha, hd, T.oe_Taken, T.ky "Taken" (by decide) "NoName" (by decide), _, rfl, iteF' (by decide) ?_⟩
      refine ⟨_, rfl, a, _, dd, _, _, _, rfl, ha, hd, T.oe_Taken, T.ky "Taken" (by decide) "Taken" (by decide), _, rfl, iteT' (by decide) ?_⟩
      refine ⟨_, rfl, a, _, dd, _, _, rfl, ha, hd, T.of_Taken, T.on_Taken_name, rfl, Nat.le_of_ble_eq_true rfl, fun l hl => q _ _ (Kp.r0.laid hl)⟩
    · refine ⟨_, rfl, a, _, dd, _, _, _, rfl, ha, hd, T.oe_Needed, T.ky "Needed" (by decide) "Crossed" (by decide), _, rfl, iteF' (by decide) ?_⟩
      refine ⟨_, rfl, a, _, dd, _, _, _, rfl, ha, hd, T.oe_Needed, T.ky "Needed" (by decide) "Outside" (by decide), _, rfl, iteF' (by decide) ?_⟩
      refine ⟨_, rfl, a, _, dd, _, _, _, rfl, ha, hd, T.oe_Needed, T.ky "Needed" (by decide) "NothingDone" (by decide), _, rfl, iteF' (by decide) ?_⟩
      refine ⟨_, rfl, a, _, dd, _, _, _, rfl, ha, hd, T.oe_Needed, T.ky "Needed" (by decide) "NoName" (by decide), _, rfl, iteF' (by decide) ?_⟩
      refine ⟨_, rfl, a, _, dd, _, _, _, rfl, ha, hd, T.oe_Needed, T.ky "Needed" (by decide) "Taken" (by decide), _, rfl, iteF' (by decide) ?_⟩
      refine ⟨_, rfl, a, _, dd, _, _, _, rfl, ha, hd, T.oe_Needed, T.ky "Needed" (by decide) "Needed" (by decide), _, rfl, iteT' (by decide) ?_⟩
      refine ⟨_, rfl, a, _, dd, _, _, rfl, ha, hd, T.of_Needed, T.on_Needed_name, rfl, Nat.le_of_ble_eq_true rfl, fun l hl => q _ _ (Kp.r0.laid hl)⟩
    · refine ⟨_, rfl, a, _, dd, _, _, _, rfl, ha, hd, T.oe_Ring, T.ky "Ring" (by decide) "Crossed" (by decide), _, rfl, iteF' (by decide) ?_⟩
      refine ⟨_, rfl, a, _, dd, _, _, _, rfl, ha, hd, T.oe_Ring, T.ky "Ring" (by decide) "Outside" (by decide), _, rfl, iteF' (by decide) ?_⟩
      refine ⟨_, rfl, a, _, dd, _, _, _, rfl, ha, hd, T.oe_Ring, T.ky "Ring" (by decide) "NothingDone" (by decide), _, rfl, iteF' (by decide) ?_⟩
      refine ⟨_, rfl, a, _, dd, _, _, _, rfl, ha, hd, T.oe_Ring, T.ky "Ring" (by decide) "NoName" (by decide), _, rfl, iteF' (by decide) ?_⟩
      refine ⟨_, rfl, a, _, dd, _, _, _, rfl, ha, hd, T.oe_Ring, T.ky "Ring" (by decide) "Taken" (by decide), _, rfl, iteF' (by decide) ?_⟩
      refine ⟨_, rfl, a, _, dd, _, _, _, rfl, ha, hd, T.oe_Ring, T.ky "Ring" (by decide) "Needed" (by decide), _, rfl, iteF' (by decide) ?_⟩
      refine ⟨_, rfl, a, _, dd, _, _, rfl, ha, hd, T.of_Ring, T.on_Ring_name, rfl, Nat.le_of_ble_eq_true rfl, fun l hl => q _ _ (Kp.r0.laid hl)⟩
    · refine ⟨_, rfl, a, _, dd, _, _, _, rfl, ha, hd, T.oe_Outside, T.ky "Outside" (by decide) "Crossed" (by decide), _, rfl, iteF' (by decide) ?_⟩
      refine ⟨_, rfl, a, _, dd, _, _, _, rfl, ha, hd, T.oe_Outside, T.ky "Outside" (by decide) "Outside" (by decide), _, rfl, iteT' (by decide) ?_⟩
      refine ⟨_, rfl, a, _, dd, _, _, rfl, ha, hd, T.of_Outside, T.on_Outside_number, rfl, Nat.le_of_ble_eq_true rfl, fun l hl => q _ _ (Kp.r0.laid hl)⟩
    · refine ⟨_, rfl, a, _, dd, _, _, _, rfl, ha, hd, T.oe_Crossed, T.ky "Crossed" (by decide) "Crossed" (by decide), _, rfl, iteT' (by decide) ?_⟩
      refine ⟨_, rfl, a, _, dd, _, _, rfl, ha, hd, T.of_Crossed, T.on_Crossed_low, rfl, _, rfl, a, _, dd, _, _, rfl, ha, hd, T.of_Crossed, T.on_Crossed_high, rfl, Nat.le_of_ble_eq_true rfl, fun l hl => q _ _ (Kp.r0.laid hl)⟩
end
end K65
set_option Elab.async false
set_option linter.all false
set_option maxRecDepth 100000
set_option maxHeartbeats 4000000
namespace K65
open PySem PySem.Spec PyProof.Rows L2 SlX He
/-! ### the plain law of the boards -/
theorem kept_ok {lo hi : Option Int} (h : crossOB lo hi = false) (x : Int) (heir : Option Str) : InR (⟨kept x lo hi, lo, hi, heir⟩ : Ac) := by
  unfold crossOB at h
  unfold InR kept
  cases lo <;> cases hi <;> simp only [] at h ⊢ <;> refine ⟨fun l e => ?_, fun g e => ?_⟩ <;> cases e
  · omega
  · omega
  · have := of_decide_eq_false h; omega
  · have := of_decide_eq_false h; omega
theorem hstep_wf {s : RowsL × Int} (n : Str) (W : WF s.1) : WF (hstep s n).1 := by
  unfold hstep
  cases h : getR s.1 n with
  | none => exact W
  | some a => exact W.change h (kept_inR (W.rg n a h) _) rfl
theorem handR_wf : ∀ (l : List Str) (rows : RowsL) (r : Int), WF rows → WF (handR rows l r).1 := by
  unfold handR
  intro l rows r W
  suffices h : ∀ s : RowsL × Int, WF s.1 → WF (l.foldl hstep s).1 from h _ W
  induction l with
  | nil => exact fun _ h => h
  | cons n l ih => exact fun s h => ih _ (hstep_wf n h)
/-- the same heirs and bounds -/
def Like (g g' : Str → Option Ac) : Prop := ∀ m a, g m = some a → ∃ a', g' m = some a' ∧ a'.heir = a.heir ∧ a'.lo = a.lo ∧ a'.hi = a.hi
theorem Like.rfl' {g : Str → Option Ac} : Like g g := fun m a h => ⟨a, h, rfl, rfl, rfl⟩
theorem Like.trans {g g' g'' : Str → Option Ac} (a : Like g g') (b : Like g' g'') : Like g g'' := fun m x h => by
  obtain ⟨y, h1, e1, e2, e3⟩ := a m x h
  obtain ⟨z, h2, f1, f2, f3⟩ := b m y h1
  exact ⟨z, h2, f1.trans e1, f2.trans e2, f3.trans e3⟩
theorem Like.ch {g g' : Str → Option Ac} (a : Like g g') {n : Str} {l : List Str} (h : Ch g n l) : Ch g' n l := h.keep fun m _ x e => by
  obtain ⟨y, h1, e1, _⟩ := a m x e
  exact ⟨y, h1, e1⟩
theorem hstep_like (s : RowsL × Int) (n : Str) : Like (getR s.1) (getR (hstep s n).1) := by
  intro m a h
  unfold hstep
  cases hn : getR s.1 n with
  | none => exact ⟨a, h, rfl, rfl, rfl⟩
  | some b =>
    show ∃ a', getR (putR s.1 n _) m = some a' ∧ _
    rw [getR_put]
    by_cases e : n = m
    · subst e
      rw [h] at hn
      cases Option.some.inj hn
      exact ⟨_, if_pos rfl, rfl, rfl, rfl⟩
    · exact ⟨a, by rw [if_neg e]; exact h, rfl, rfl, rfl⟩
theorem handR_like (l : List Str) (rows : RowsL) (r : Int) : Like (getR rows) (getR (handR rows l r).1) := by
  unfold handR
  suffices h : ∀ s : RowsL × Int, Like (getR s.1) (getR (l.foldl hstep s).1) from h (rows, r)
  induction l with
  | nil => exact fun _ => Like.rfl'
  | cons n l ih => exact fun s => (hstep_like s n).trans (ih _)
/-- the accounts after a gift along them -/
def handA : List Ac → Int → List Ac
  | [], _ => []
  | a :: as, r => { a with lv := kept (a.lv + r) a.lo a.hi } :: handA as (r - (kept (a.lv + r) a.lo a.hi - a.lv))
theorem handA_lv : ∀ (as : List Ac) (r : Int), (handA as r).map (·.lv) = (hand as r).1
  | [], _ => rfl
  | a :: as, r => by
    unfold handA hand
    rw [List.map_cons, handA_lv as _]
theorem hstep_other {s : RowsL × Int} {n m : Str} (h : m ≠ n) : getR (hstep s n).1 m = getR s.1 m := by
  unfold hstep
  cases hn : getR s.1 n with
  | none => rfl
  | some b =>
    show getR (putR s.1 n _) m = _
    rw [getR_put, if_neg (fun z => h z.symm)]
theorem handR_other : ∀ (l : List Str) (s : RowsL × Int) (m : Str), m ∉ l → getR (l.foldl hstep s).1 m = getR s.1 m
  | [], _, _, _ => rfl
  | n :: l, s, m, h => by
    have h1 : m ≠ n := fun z => h (by rw [z]; exact List.mem_cons_self ..)
    exact (handR_other l (hstep s n) m fun z => h (List.mem_cons_of_mem _ z)).trans (hstep_other h1)
theorem accs_congr {rows rows' : RowsL} {l : List Str} (h : ∀ m ∈ l, getR rows' m = getR rows m) : accs rows' l = accs rows l := by
  unfold accs
  exact List.map_congr_left fun m hm => by rw [h m hm]
theorem handR_accs : ∀ (l : List Str) (rows : RowsL) (r : Int), l.Nodup → (∀ m ∈ l, getR rows m ≠ none) → accs (handR rows l r).1 l = handA (accs rows l) r ∧ (handR rows l r).2 = (hand (accs rows l) r).2
  | [], _, _, _, _ => ⟨rfl, rfl⟩
  | n :: l, rows, r, nd, hk => by
    obtain ⟨h1, h2⟩ := List.nodup_cons.mp nd
    obtain ⟨a, ha⟩ : ∃ a, getR rows n = some a := by
      cases e : getR rows n with
      | none => exact absurd e (hk n (List.mem_cons_self ..))
      | some a => exact ⟨a, rfl⟩
    have hs : hstep (rows, r) n = (putR rows n { a with lv := kept (a.lv + r) a.lo a.hi }, r - (kept (a.lv + r) a.lo a.hi - a.lv)) := by
      unfold hstep
      rw [ha]
    have ho : ∀ m ∈ l, getR (hstep (rows, r) n).1 m = getR rows m := fun m hm => hstep_other (fun z => h1 (z ▸ hm))
    obtain ⟨i1, i2⟩ := handR_accs l (hstep (rows, r) n).1 (hstep (rows, r) n).2 h2 (fun m hm => by rw [ho m hm]; exact hk m (List.mem_cons_of_mem _ hm))
    have e0 : handR rows (n :: l) r = handR (hstep (rows, r) n).1 l (hstep (rows, r) n).2 := rfl
    have e1 : getR (handR rows (n :: l) r).1 n = some { a with lv := kept (a.lv + r) a.lo a.hi } := by
      rw [e0]
      refine (handR_other l _ n h1).trans ?_
      show getR (hstep (rows, r) n).1 n = _
      rw [hs, getR_put, if_pos rfl]
    have e2 : accs rows (n :: l) = a :: accs rows l := by
      show (getR rows n).getD acc0 :: _ = _
      rw [ha]
      rfl
    rw [accs_congr ho, hs] at i1 i2
    refine ⟨?_, ?_⟩
    · show (getR (handR rows (n :: l) r).1 n).getD acc0 :: accs (handR rows (n :: l) r).1 l = _
      rw [e1, e0, hs, i1, e2]
      rfl
    · rw [e0, hs, i2, e2]
      rfl
theorem handA_in : ∀ (as : List Ac) (r : Int), (∀ a ∈ as, InR a) → ∀ a ∈ handA as r, InR a
  | [], _, _, _, h => by cases h
  | a :: as, r, hi, b, h => by
    rcases List.mem_cons.mp h with e | e
    · rw [e]
      exact kept_inR (hi a (List.mem_cons_self ..)) _
    · exact handA_in as _ (fun c hc => hi c (List.mem_cons_of_mem _ hc)) b e
theorem handA_lo : ∀ (as : List Ac) (r : Int), (handA as r).map (·.lo) = as.map (·.lo)
  | [], _ => rfl
  | a :: as, r => by
    unfold handA
    rw [List.map_cons, List.map_cons, handA_lo as _]
theorem handA_hi : ∀ (as : List Ac) (r : Int), (handA as r).map (·.hi) = as.map (·.hi)
  | [], _ => rfl
  | a :: as, r => by
    unfold handA
    rw [List.map_cons, List.map_cons, handA_hi as _]
theorem room_after : ∀ (as : List Ac) (r t : Int), sumO (as.map room1) = some t → sumO ((handA as r).map room1) = some (t - (r - (hand as r).2))
  | [], r, t, h => by
    cases h
    show some 0 = some (0 - (r - r))
    rw [Int.sub_self]
    rfl
  | ⟨lv, lo, hi, heir⟩ :: as, r, t, h => by
    obtain ⟨y, z, e1, e2, rfl⟩ := sumO_cons h
    cases hi with
    | none => cases e1
    | some g =>
      have e1 : g - lv = y := Option.some.inj e1
      have ih := room_after as (r - (kept (lv + r) lo (some g) - lv)) z e2
      unfold handA hand
      show (sumO ((handA as (r - (kept (lv + r) lo (some g) - lv))).map room1)).map (g - kept (lv + r) lo (some g) + ·) = _
      rw [ih]
      refine congrArg some ?_
      show _ + _ = _
      dsimp only
      omega
theorem stock_after : ∀ (as : List Ac) (r t : Int), sumO (as.map stock1) = some t → sumO ((handA as r).map stock1) = some (t + (r - (hand as r).2))
  | [], r, t, h => by
    cases h
    show some 0 = some (0 + (r - r))
    rw [Int.sub_self]
    rfl
  | ⟨lv, lo, hi, heir⟩ :: as, r, t, h => by
    obtain ⟨y, z, e1, e2, rfl⟩ := sumO_cons h
    cases lo with
    | none => cases e1
    | some g =>
      have e1 : lv - g = y := Option.some.inj e1
      have ih := stock_after as (r - (kept (lv + r) (some g) hi - lv)) z e2
      unfold handA hand
      show (sumO ((handA as (r - (kept (lv + r) (some g) hi - lv))).map stock1)).map (kept (lv + r) (some g) hi - g + ·) = _
      rw [ih]
      refine congrArg some ?_
      show _ + _ = _
      dsimp only
      omega
/-! ### gifts along a chain -/
structure GF (rows : RowsL) (ln : List Str) : Prop where
  nd : ln.Nodup
  kn : ∀ m ∈ ln, getR rows m ≠ none
  inr : ∀ a ∈ accs rows ln, InR a
theorem GF.of {rows : RowsL} {n : Str} {ln : List Str} (W : WF rows) (h : Ch (getR rows) n ln) : GF rows ln := ⟨h.nodup, ch_known h, accs_in W (ch_known h)⟩
theorem GF.hand {rows : RowsL} {ln : List Str} (G : GF rows ln) (r : Int) : GF (handR rows ln r).1 ln := ⟨G.nd, fun m hm => known_keys (handR_keys ln rows r) (G.kn m hm), by
  rw [(handR_accs ln rows r G.nd G.kn).1]
  exact handA_in _ _ G.inr⟩
/-- what there is room for goes, and one more is lost -/
theorem room_law {rows : RowsL} {ln : List Str} (G : GF rows ln) {t : Int} (h : sumO ((accs rows ln).map room1) = some t) : (handR rows ln t).2 = 0 ∧ sumO ((accs (handR rows ln t).1 ln).map room1) = some 0 ∧ (handR (handR rows ln t).1 ln 1).2 = 1 := by
  obtain ⟨h1, h2⟩ := handR_accs ln rows t G.nd G.kn
  have e0 : (hand (accs rows ln) t).2 = 0 := by
    have := (hand_full (accs rows ln) t 0 G.inr h (Int.le_refl 0)).2
    rw [Int.add_zero] at this
    exact this
  have e1 : sumO ((accs (handR rows ln t).1 ln).map room1) = some 0 := by
    rw [h1, room_after _ _ _ h, e0]
    exact congrArg some (by omega)
  have G2 := G.hand t
  have e2 := (hand_full (accs (handR rows ln t).1 ln) 0 1 G2.inr e1 (by decide)).2
  refine ⟨h2.trans e0, e1, ?_⟩
  rw [(handR_accs ln _ 1 G2.nd G2.kn).2]
  exact e2
theorem stock_law {rows : RowsL} {ln : List Str} (G : GF rows ln) {t : Int} (h : sumO ((accs rows ln).map stock1) = some t) : (handR rows ln (-t)).2 = 0 ∧ sumO ((accs (handR rows ln (-t)).1 ln).map stock1) = some 0 ∧ (handR (handR rows ln (-t)).1 ln (-1)).2 = -1 := by
  obtain ⟨h1, h2⟩ := handR_accs ln rows (-t) G.nd G.kn
  have e0 : (hand (accs rows ln) (-t)).2 = 0 := by
    have := (hand_empty (accs rows ln) t 0 G.inr h (Int.le_refl 0)).2
    rw [Int.add_zero] at this
    exact this
  have e1 : sumO ((accs (handR rows ln (-t)).1 ln).map stock1) = some 0 := by
    rw [h1, stock_after _ _ _ h, e0]
    exact congrArg some (by omega)
  have G2 := G.hand (-t)
  have e2 := (hand_empty (accs (handR rows ln (-t)).1 ln) 0 1 G2.inr e1 (by decide)).2
  refine ⟨h2.trans e0, e1, ?_⟩
  rw [(handR_accs ln _ (-1) G2.nd G2.kn).2]
  exact e2
/-! ### the least gift, the least call -/
/-- the level of the j-th after a gift -/
def lvJ (as : List Ac) (j : Nat) (r : Int) : Int := ((hand as r).1[j]?).getD 0
theorem lvJ_at {as : List Ac} {j : Nat} {a : Ac} (h : as[j]? = some a) (r : Int) : lvJ as j r = kept (a.lv + (hand (as.take j) r).2) a.lo a.hi := by
  unfold lvJ
  obtain ⟨hj, e⟩ := List.getElem?_eq_some_iff.mp h
  have es : as = as.take j ++ a :: as.drop (j + 1) := by
    rw [← e, ← List.drop_eq_getElem_cons hj, List.take_append_drop]
  have e2 := hand_append (as.take j) (a :: as.drop (j + 1)) r
  rw [← es] at e2
  rw [e2]
  have hl : (hand (as.take j) r).1.length = j := by rw [hand_len, List.length_take]; omega
  rw [List.getElem?_append_right (by omega), hl, Nat.sub_self]
  rfl
theorem hand_zero2 {as : List Ac} (h : ∀ a ∈ as, InR a) : (hand as 0).2 = 0 := by rw [hand_zero as h]
theorem ite_some {b : Bool} {y : Option Int} {x : Int} (h : (if b = true then none else y) = some x) : b = false ∧ y = some x := by
  cases b with
  | true => rw [if_pos rfl] at h; cases h
  | false => rw [if_neg (by decide)] at h; exact ⟨rfl, h⟩
theorem leastG_law {as : List Ac} {j : Nat} {a : Ac} (hi : ∀ b ∈ as, InR b) (h : as[j]? = some a) {g x : Int} (hx : leastG (as.take j) a g = some x) : 0 ≤ x ∧ g ≤ lvJ as j x ∧ (0 < x → lvJ as j (x - 1) < g) := by
  have I := hi a (List.mem_of_getElem? h)
  have hi2 : ∀ b ∈ as.take j, InR b := fun b hb => hi b (List.mem_of_mem_take hb)
  rw [lvJ_at h, lvJ_at h]
  unfold leastG at hx
  by_cases c1 : g ≤ a.lv
  · rw [if_pos c1] at hx
    cases Option.some.inj hx
    rw [hand_zero2 hi2, Int.add_zero, kept_in I]
    exact ⟨Int.le_refl 0, c1, fun z => absurd z (by decide)⟩
  · rw [if_neg c1] at hx
    obtain ⟨c2, hx⟩ := ite_some hx
    · skip
      obtain ⟨y, t, e1, e2, rfl⟩ := sumO_cons hx
      cases Option.some.inj e1
      have ht := room_nn _ _ hi2 e2
      have f0 := (hand_full (as.take j) t (g - a.lv) hi2 e2 (by omega)).2
      have f1 := (hand_full (as.take j) t (g - a.lv - 1) hi2 e2 (by omega)).2
      have z0 : g - a.lv + t = t + (g - a.lv) := by omega
      have z1 : g - a.lv + t - 1 = t + (g - a.lv - 1) := by omega
      rw [z1, f1, z0, f0]
      obtain ⟨lv, lo, hi', heir⟩ := a
      obtain ⟨I1, I2⟩ := I
      dsimp only at *
      unfold kept
      cases lo <;> cases hi' <;> simp only [] at * <;> refine ⟨by omega, ?_, fun _ => ?_⟩
      · omega
      · omega
      · have := of_decide_eq_false c2; omega
      · have := of_decide_eq_false c2; omega
      · omega
      · have := I1 _ rfl; omega
      · have := of_decide_eq_false c2; omega
      · have := I1 _ rfl; have := of_decide_eq_false c2; omega
theorem leastC_law {as : List Ac} {j : Nat} {a : Ac} (hi : ∀ b ∈ as, InR b) (h : as[j]? = some a) {g x : Int} (hx : leastC (as.take j) a g = some x) (hp : 0 < x) : lvJ as j (-x) ≤ g ∧ g < lvJ as j (1 - x) := by
  have I := hi a (List.mem_of_getElem? h)
  have hi2 : ∀ b ∈ as.take j, InR b := fun b hb => hi b (List.mem_of_mem_take hb)
  rw [lvJ_at h, lvJ_at h]
  unfold leastC at hx
  by_cases c1 : a.lv ≤ g
  · rw [if_pos c1] at hx
    cases Option.some.inj hx
    exact absurd hp (by decide)
  · rw [if_neg c1] at hx
    obtain ⟨c2, hx⟩ := ite_some hx
    · skip
      obtain ⟨y, t, e1, e2, rfl⟩ := sumO_cons hx
      cases Option.some.inj e1
      have ht := stock_nn _ _ hi2 e2
      have f0 := (hand_empty (as.take j) t (a.lv - g) hi2 e2 (by omega)).2
      have f1 := (hand_empty (as.take j) t (a.lv - g - 1) hi2 e2 (by omega)).2
      have z0 : -(a.lv - g + t) = -(t + (a.lv - g)) := by omega
      have z1 : 1 - (a.lv - g + t) = -(t + (a.lv - g - 1)) := by omega
      rw [z1, f1, z0, f0]
      obtain ⟨lv, lo, hi', heir⟩ := a
      obtain ⟨I1, I2⟩ := I
      dsimp only at *
      unfold kept
      cases lo <;> cases hi' <;> simp only [] at * <;> refine ⟨?_, ?_⟩
      · omega
      · omega
      · have := I2 _ rfl; omega
      · have := I2 _ rfl; omega
      · have := of_decide_eq_false c2; omega
      · have := of_decide_eq_false c2; omega
      · have := I2 _ rfl; have := of_decide_eq_false c2; omega
      · have := I2 _ rfl; have := of_decide_eq_false c2; omega
/-! ### sums go by ways -/
theorem handA_take : ∀ (as : List Ac) (r : Int) (m : Nat), (handA as r).take m = handA (as.take m) r
  | [], _, m => by cases m <;> rfl
  | a :: as, r, 0 => rfl
  | a :: as, r, m + 1 => by
    unfold handA
    rw [List.take_succ_cons, List.take_succ_cons, handA_take as _ m]
theorem accs_take (rows : RowsL) (ln : List Str) (m : Nat) : accs rows (ln.take m) = (accs rows ln).take m := by
  unfold accs
  rw [List.map_take]
/-- the sum of the levels of the first ones -/
def sumN (rows : RowsL) (ln : List Str) (i : Nat) : Int := ((accs rows (ln.take (i + 1))).map (·.lv)).sum
theorem sum_hand {rows : RowsL} {ln : List Str} (G : GF rows ln) (r : Int) (i : Nat) : sumN (handR rows ln r).1 ln i = kept (sumN rows ln i + r) (loN rows ln i) (hiN rows ln i) ∧ loN (handR rows ln r).1 ln i = loN rows ln i ∧ hiN (handR rows ln r).1 ln i = hiN rows ln i := by
  unfold sumN loN hiN
  rw [accs_take, accs_take, (handR_accs ln rows r G.nd G.kn).1, handA_take, handA_lv, handA_lo, handA_hi]
  exact ⟨hand_sum _ r fun a ha => G.inr a (List.mem_of_mem_take ha), rfl, rfl⟩
theorem ways_app {lo hi : Option Int} (h : crossB lo hi = false) : ∀ (ns : List Int) (w : Wy) (s : Int), WOk w → app (ns.foldl (fun w r => thenW w (mkW (some r) lo hi)) w) s = ns.foldl (fun s r => kept (s + r) lo hi) (app w s)
  | [], w, s, _ => rfl
  | r :: ns, w, s, hw => by
    have mk : MkOk (some r) lo hi := ⟨h, fun z => nomatch z⟩
    show app (ns.foldl _ _) s = ns.foldl _ _
    rw [ways_app h ns _ s (thenW_ok hw (mkW_ok mk)), app_then hw (mkW_ok mk), app_mk mk _ r rfl]
theorem gifts_sum : ∀ (ns : List Int) (rows : RowsL) (ln : List Str), GF rows ln → ∀ i, sumN (gifts rows ln ns) ln i = ns.foldl (fun s r => kept (s + r) (loN rows ln i) (hiN rows ln i)) (sumN rows ln i)
  | [], _, _, _, _ => rfl
  | r :: ns, rows, ln, G, i => by
    obtain ⟨h1, h2, h3⟩ := sum_hand G r i
    show sumN (gifts (handR rows ln r).1 ln ns) ln i = _
    rw [gifts_sum ns _ ln (G.hand r) i, h1, h2, h3]
    rfl
theorem ways_law {rows : RowsL} {ln : List Str} (G : GF rows ln) (ns : List Int) (i : Nat) : app (wayN ns (loN rows ln i) (hiN rows ln i)) (sumN rows ln i) = sumN (gifts rows ln ns) ln i := by
  have hc : crossB (loN rows ln i) (hiN rows ln i) = false := sums_nc fun a ha => G.inr a (by rw [accs_take] at ha; exact List.mem_of_mem_take ha)
  rw [gifts_sum ns rows ln G i]
  unfold wayN
  rw [ways_app hc ns _ _ way0_ok, app_way0]
theorem gifts_gf : ∀ (ns : List Int) {rows : RowsL} {ln : List Str}, GF rows ln → GF (gifts rows ln ns) ln
  | [], _, _, G => G
  | r :: ns, _, _, G => gifts_gf ns (G.hand r)
theorem gifts_wf : ∀ (ns : List Int) {rows : RowsL} (ln : List Str), WF rows → WF (gifts rows ln ns)
  | [], _, _, W => W
  | r :: ns, _, ln, W => gifts_wf ns ln (handR_wf ln _ r W)
theorem gifts_like : ∀ (ns : List Int) (rows : RowsL) (ln : List Str), Like (getR rows) (getR (gifts rows ln ns))
  | [], _, _ => Like.rfl'
  | r :: ns, rows, ln => (handR_like ln rows r).trans (gifts_like ns _ ln)
theorem gifts_len (ns : List Int) (rows : RowsL) (ln : List Str) : (gifts rows ln ns).length = rows.length := by
  have := congrArg List.length (gifts_keys ln ns rows)
  rw [List.length_map, List.length_map] at this
  exact this
theorem handR_len (rows : RowsL) (ln : List Str) (r : Int) : (handR rows ln r).1.length = rows.length := by
  have := congrArg List.length (handR_keys ln rows r)
  rw [List.length_map, List.length_map] at this
  exact this
/-- a gift alone, as foreseen -/
theorem fore_lv {rows : RowsL} {ln : List Str} (G : GF rows ln) (r : Int) (j : Nat) (hj : j < ln.length) : ((accs (gifts rows ln [r]) ln).map fun a => a.lv)[j]? = some (lvJ (accs rows ln) j r) := by
  show ((accs (handR rows ln r).1 ln).map fun a => a.lv)[j]? = _
  rw [(handR_accs ln rows r G.nd G.kn).1, handA_lv]
  unfold lvJ
  have : j < (hand (accs rows ln) r).1.length := by rw [hand_len, accs_len]; exact hj
  rw [List.getElem?_eq_getElem this]
  rfl
end K65
set_option Elab.async false
set_option linter.all false
set_option maxRecDepth 100000
set_option maxHeartbeats 4000000
namespace K65
open PySem PySem.Spec PyProof.Rows L2 SlX He
theorem ix_tupK {X : Cx} {K : PySem.W.Frag} (h : X.K = K) : IxR X (rIxT K) := by subst h; exact ix_tup
theorem xkind_mem {C : Str} {fs : List (Str × V)} (h : XKind C fs) : C ∈ exNames := by
  rcases h with ⟨rfl, _⟩ | ⟨rfl, _⟩ | ⟨rfl, _⟩ | ⟨rfl, _⟩ | ⟨rfl, _⟩ | ⟨rfl, _⟩ <;> decide
theorem put_len (rows : RowsL) (n : Str) (a : Ac) : (putR rows n a).length ≤ rows.length + 1 := by
  have h := congrArg List.length (keys_put rows n a)
  rw [List.length_map] at h
  rw [h]
  split
  · rw [List.length_map]; omega
  · rw [List.length_append, List.length_map]; exact Nat.le_refl _
theorem admit_in {rows : RowsL} {n : Str} {lv : Int} {lo hi : Option Int} {heir : Option Str} (h : AdmOk rows n lv lo hi heir) : InR (⟨lv, lo, hi, heir⟩ : Ac) := by
  have := kept_ok h.2.1 lv heir
  rw [h.2.2.1] at this
  exact this
theorem AdmOk.known {rows : RowsL} {n : Str} {lv : Int} {lo hi : Option Int} {heir : Option Str} (h : AdmOk rows n lv lo hi heir) : ∀ m, heir = some m → ∃ b, getR rows m = some b := fun m e => by
  have := h.2.2.2 m e
  cases q : getR rows m with
  | none => exact absurd q this
  | some b => exact ⟨b, rfl⟩
/-- what a deed is -/
inductive Deed
  | admit (n : Str) (lv : Int) (lo hi : Option Int) (heir : Option Str)
  | give (n : Str) (r : Int)
  | call (n : Str) (r : Int)
  | rule (n : Str) (lo hi : Option Int)
  | leave (n : Str) (heir : Option Str)
  | shut (n : Str)
def Deed.vs : Deed → List V
  | .admit n lv lo hi heir => [.str "admit", .str n, .int lv, optV lo, optV hi, optS heir]
  | .give n r => [.str "give", .str n, .int r]
  | .call n r => [.str "call", .str n, .int r]
  | .rule n lo hi => [.str "rule", .str n, optV lo, optV hi]
  | .leave n heir => [.str "leave", .str n, optS heir]
  | .shut n => [.str "shut", .str n]
section
variable {P : Program} {w : World} {K : PySem.W.Frag} {mg : Str → Option Value} {base : Heap}
/-- a board with other accounts, or as it was -/
def Done (K : PySem.W.Frag) (H : Hp) (p dx l : Addr) (xs : List V) (rows : RowsL) (Q : VK) : Prop := ∀ v H' d' kvs' xs' rows', Kp [p, l] H H' → BX K H' p dx l d' kvs' xs' → RowsAt K H' kvs' rows' → WF rows' → rows'.length ≤ rows.length + 1 → xs'.length ≤ xs.length + 1 → Q v H'
def spDone (K : PySem.W.Frag) : Sp := fun vs H Q _ => ∃ (p t dx l d : Addr) (kvs : List (Key × V)) (xs : List V) (rows : RowsL) (D : Deed), vs = [.ref p, .ref t] ∧ SqT K H t D.vs ∧ BX K H p dx l d kvs xs ∧ RowsAt K H kvs rows ∧ WF rows ∧ rows.length < 40 ∧ xs.length < 800 ∧ Done K H p dx l xs rows Q
theorem ok_done (T : Txt K mg) (P_admit : MX P w K mg base 4 "admit" (spAdmit K)) (P_give : MX P w K mg base 6 "give" (spGive K)) (P_call : MX P w K mg base 7 "call" (spCallB K)) (P_rule : MX P w K mg base 6 "rule" (spRule K)) (P_leave_to : MX P w K mg base 6 "leave_to" (spLeave K)) (P_shut : MX P w K mg base 5 "shut" (spShut K)) (P_law_named : Pr P w K mg base CX0 1 "_law_named" (spNamed K)) : Pr P w K mg base CX0 8 "_law_done" (spDone K) := by
  obtain ⟨fd, F⟩ := T.f_law_done
  refine Pr.of T.g_law_done F.kp (F.ok sc_law_done (fun vs H Q E h => ?_) (fun cdv A outer s H vs Q E hr h => ?_)) (F.bindsN fun _ _ _ _ _ _ us hl => match us, hl with | [_, _], _ => rfl)
  · obtain ⟨_, _, _, _, _, _, _, _, _, rfl, _⟩ := h
    rfl
  · obtain ⟨p, t, dx, l, d, kvs, xs, rows, D, rfl, ht, b, hrows, W, hlen, hxs, q⟩ := h
    refine ⟨_, PSs.nox (pss_cons (ps_asg (pe_tup (pa_cons pe_non (pa_cons pe_non pa_nil))) (pg_tup rfl (pgs_cons (pg_name (i := 2) sc_law_done.nd rfl (Or.inl rfl)) (pgs_cons (pg_name (i := 3) sc_law_done.nd rfl (Or.inl rfl)) pgs_nil)))) (pss_cons (ps_try_keep (n := "error") (cs := exNames.map fun D => Value.ref (ga K D)) (i := 4) rfl rfl sc_law_done.nd rfl rfl rfl (fun _ _ z => nomatch z) (.cons ⟨_, _, rfl, rfl, rfl, T.g_Crossed⟩ (.cons ⟨_, _, rfl, rfl, rfl, T.g_Needed⟩ (.cons ⟨_, _, rfl, rfl, rfl, T.g_NoName⟩ (.cons ⟨_, _, rfl, rfl, rfl, T.g_NothingDone⟩ (.cons ⟨_, _, rfl, rfl, rfl, T.g_Outside⟩ (.cons ⟨_, _, rfl, rfl, rfl, T.g_Ring⟩ (.cons ⟨_, _, rfl, rfl, rfl, T.g_Taken⟩ .nil))))))) (Nat.le_of_ble_eq_true rfl) (fun W pn xe tk po => (pss_one (ps_if (pt_cmpR op_eq (pe_ix (ix_tupK (K := K) rfl) (pv 1) pe_int (fun _ _ => rfl)) pe_str (nomark _)) (pss_one (ps_set (i := 3) sc_law_done.nd rfl (.inl rfl) (pe_methSlS tk (pv 0) T.cl_Board T.m_Board_admit P_admit (hr.mono (by decide)) (pa_cons (pe_ix (ix_tupK (K := K) rfl) (pv 1) pe_int (fun _ _ => rfl)) (pa_cons (pe_ix (ix_tupK (K := K) rfl) (pv 1) pe_int (fun _ _ => rfl)) (pa_cons (pe_ix (ix_tupK (K := K) rfl) (pv 1) pe_int (fun _ _ => rfl)) (pa_cons (pe_ix (ix_tupK (K := K) rfl) (pv 1) pe_int (fun _ _ => rfl)) (pa_cons (pe_ix (ix_tupK (K := K) rfl) (pv 1) pe_int (fun _ _ => rfl)) pa_nil)))))))) (pss_one (ps_if (PW.pt (pw_or (pt_cmpR op_eq (pe_ix (ix_tupK (K := K) rfl) (pv 1) pe_int (fun _ _ => rfl)) pe_str (nomark _)) (pw_or1 (pt_cmpR op_eq (pe_ix (ix_tupK (K := K) rfl) (pv 1) pe_int (fun _ _ => rfl)) pe_str (nomark _))))) (pss_one (ps_set (i := 3) sc_law_done.nd rfl (.inl rfl) (pe_ifExp (pt_cmpR op_eq (pe_ix (ix_tupK (K := K) rfl) (pv 1) pe_int (fun _ _ => rfl)) pe_str (nomark _)) (pe_methSlS tk (pv 0) T.cl_Board T.m_Board_give P_give (hr.mono (by decide)) (pa_cons (pe_ix (ix_tupK (K := K) rfl) (pv 1) pe_int (fun _ _ => rfl)) (pa_cons (pe_ix (ix_tupK (K := K) rfl) (pv 1) pe_int (fun _ _ => rfl)) pa_nil))) (pe_methSlS tk (pv 0) T.cl_Board T.m_Board_call P_call (hr.mono (by decide)) (pa_cons (pe_ix (ix_tupK (K := K) rfl) (pv 1) pe_int (fun _ _ => rfl)) (pa_cons (pe_ix (ix_tupK (K := K) rfl) (pv 1) pe_int (fun _ _ => rfl)) pa_nil)))))) (pss_one (ps_if (pt_cmpR op_eq (pe_ix (ix_tupK (K := K) rfl) (pv 1) pe_int (fun _ _ => rfl)) pe_str (nomark _)) (pss_one (ps_set (i := 3) sc_law_done.nd rfl (.inl rfl) (pe_methSlS tk (pv 0) T.cl_Board T.m_Board_rule P_rule (hr.mono (by decide)) (pa_cons (pe_ix (ix_tupK (K := K) rfl) (pv 1) pe_int (fun _ _ => rfl)) (pa_cons (pe_ix (ix_tupK (K := K) rfl) (pv 1) pe_int (fun _ _ => rfl)) (pa_cons (pe_ix (ix_tupK (K := K) rfl) (pv 1) pe_int (fun _ _ => rfl)) pa_nil)))))) (pss_one (ps_if (PW.pt (pw_or (pt_cmpR op_eq (pe_ix (ix_tupK (K := K) rfl) (pv 1) pe_int (fun _ _ => rfl)) pe_str (nomark _)) (pw_or1 (pt_cmpR op_eq (pe_ix (ix_tupK (K := K) rfl) (pv 1) pe_int (fun _ _ => rfl)) pe_str (nomark _))))) (pss_one (ps_set (i := 3) sc_law_done.nd rfl (.inl rfl) (pe_ifExp (pt_cmpR op_eq (pe_ix (ix_tupK (K := K) rfl) (pv 1) pe_int (fun _ _ => rfl)) pe_str (nomark _)) (pe_methSlS tk (pv 0) T.cl_Board T.m_Board_leave_to P_leave_to (hr.mono (by decide)) (pa_cons (pe_ix (ix_tupK (K := K) rfl) (pv 1) pe_int (fun _ _ => rfl)) (pa_cons (pe_ix (ix_tupK (K := K) rfl) (pv 1) pe_int (fun _ _ => rfl)) pa_nil))) (pe_methSlS tk (pv 0) T.cl_Board T.m_Board_shut P_shut (hr.mono (by decide)) (pa_cons (pe_ix (ix_tupK (K := K) rfl) (pv 1) pe_int (fun _ _ => rfl)) pa_nil))))) (pss_one (ps_set (i := 3) sc_law_done.nd rfl (.inl rfl) pe_nev))))))))))) (fun a oe pn => (pss_one (ps_set (i := 2) sc_law_done.nd rfl (.inl rfl) (pv 4))))) (pss_one (ps_ret (pe_ifExp (pt_cmpR op_isN (pv 2) pe_non (nomark _)) (pv 3) (pe_g P_law_named (hr.mono (by decide)) pass0 (pa_cons (pv 2) pa_nil))))))), ?_⟩
    refine ⟨Nat.le_of_ble_eq_true rfl, fun u hu => ⟨u, _, rfl, .of upd_same, rfl, _, _, rfl, _, _, rfl, rfl, ?_⟩⟩
    have k1 : Kp [] H (upd H u (.tup [.non, .non])) := Kp.r0.laid hu
    have ht1 := sqTk0 ht k1
    have b1 := b.kp0 k1
    have hr1 := hrows.kp k1
    show tSeq _ _ _ _ (upd H u (.tup [.non, .non]))
    generalize (upd H u (.tup [.non, .non])) = H1 at k1 ht1 b1 hr1
    have qb : ∀ v H', Kp [] H1 H' → Q v H' := fun v H' k => q v H' d kvs xs rows (k1.trans k).all (b1.kp0 k) (hr1.kp k) W (Nat.le_succ _) (Nat.le_succ _)
    have qd : ∀ {rows' : RowsL} (v : V), WF rows' → rows'.length ≤ rows.length + 1 → ∀ d' kvs' H', Kp [p, l] H1 H' → BX K H' p dx l d' kvs' (xs ++ [.ref d]) → RowsAt K H' kvs' rows' → Q v H' := fun v W' hl d' kvs' H' k b' r' => q v H' d' kvs' _ _ (k1.all.trans k) b' r' W' hl (by rw [List.length_append]; exact Nat.le_refl _)
    have bad : ∀ D : Ends, (∀ C fs dd a H2, XKind C fs → Kp [] H1 H2 → H2 a = none → H2 dd = some (.xd fs) → D.nx [some (.ref p), some (.ref t), some (.ref a), some .non, none] (upd H2 a (exH a (.ref (ga K C)) (some dd)))) →
        XOut K H1 (fun cls d H' => wKeep K (exNames.map fun D => Value.ref (ga K D)) 4 (fun a => tAsg (tVar 4) (gName 2)) D cls d [some (.ref p), some (.ref t), some .non, some .non, none] H') := fun D hD C fs dd H2 hk k2 hn hd =>
      ⟨T.xm C (xkind_mem hk), fun a ha => ⟨_, rfl, fun σ => hD C fs dd a H2 hk k2 ha hd⟩⟩
    cases D with
    | admit n lv lo hi heir =>
      refine ⟨_, rfl, _, _, _, _, rfl, rfl, ht1, rfl, rfl, _, rfl, decT rfl ⟨_, rfl, p, dx, _, rfl, b1.slt, _, rfl, _, _, _, _, rfl, rfl, ht1, rfl, _, rfl, _, _, _, _, rfl, rfl, ht1, rfl, _, rfl, _, _, _, _, rfl, rfl, ht1, rfl, _, rfl, _, _, _, _, rfl, rfl, ht1, rfl, _, rfl, _, _, _, _, rfl, rfl, ht1, rfl, p, dx, l, d, kvs, xs, rows, n, lv, lo, hi, heir, rfl, b1, hr1, W, by omega, by omega, ?_, fun _ => ?_⟩⟩
      · intro hok
        exact fun d' kvs' H' k b' r' => ⟨_, rfl, rfl, _, rfl, decT rfl ⟨_, rfl, qd _ (W.admit hok.1 (admit_in hok) fun h e => hok.known h e) (put_len _ _ _) d' kvs' H' k b' r'⟩⟩
      · exact bad _ fun C fs dd a H2 hk k2 ha hd => ⟨_, rfl, rfl, _, rfl, decF (fun z => nomatch z) ⟨_, rfl, a, dd, C, fs, rfl, hk, upd_same, (by rw [upd_ne (ne_of_none hd ha)]; exact hd), fun v H3 k3 => qb v H3 ((k2.laid ha).trans k3)⟩⟩
    | give n r =>
      refine ⟨_, rfl, _, _, _, _, rfl, rfl, ht1, rfl, rfl, _, rfl, decF (by decide) ⟨_, rfl, _, _, _, _, rfl, rfl, ht1, rfl, rfl, _, rfl, decT rfl (iteT ⟨_, rfl, _, _, _, _, rfl, rfl, ht1, rfl, rfl, _, rfl, decT rfl ⟨_, rfl, p, dx, _, rfl, b1.slt, _, rfl, _, _, _, _, rfl, rfl, ht1, rfl, _, rfl, _, _, _, _, rfl, rfl, ht1, rfl, p, dx, l, d, kvs, xs, rows, n, r, rfl, b1, hr1, W, by omega, by omega, ?_, ?_⟩⟩)⟩⟩
      · intro ln _
        exact fun d' kvs' H' k b' r' => ⟨_, rfl, rfl, _, rfl, decT rfl ⟨_, rfl, qd _ (handR_wf ln rows r W) (by rw [handR_len]; exact Nat.le_succ _) d' kvs' H' k b' r'⟩⟩
      · exact fun _ => bad _ fun C fs dd a H2 hk k2 ha hd => ⟨_, rfl, rfl, _, rfl, decF (fun z => nomatch z) ⟨_, rfl, a, dd, C, fs, rfl, hk, upd_same, (by rw [upd_ne (ne_of_none hd ha)]; exact hd), fun v H3 k3 => qb v H3 ((k2.laid ha).trans k3)⟩⟩
    | call n r =>
      refine ⟨_, rfl, _, _, _, _, rfl, rfl, ht1, rfl, rfl, _, rfl, decF (by decide) ⟨_, rfl, _, _, _, _, rfl, rfl, ht1, rfl, rfl, _, rfl, decF (by decide) ⟨_, rfl, _, _, _, _, rfl, rfl, ht1, rfl, rfl, _, rfl, decT rfl ⟨_, rfl, _, _, _, _, rfl, rfl, ht1, rfl, rfl, _, rfl, decF (by decide) ⟨_, rfl, p, dx, _, rfl, b1.slt, _, rfl, _, _, _, _, rfl, rfl, ht1, rfl, _, rfl, _, _, _, _, rfl, rfl, ht1, rfl, p, dx, l, d, kvs, xs, rows, n, r, rfl, b1, hr1, W, by omega, by omega, ?_, ?_⟩⟩⟩⟩⟩
      · intro ln _
        exact fun d' kvs' H' k b' r' => ⟨_, rfl, rfl, _, rfl, decT rfl ⟨_, rfl, qd _ (handR_wf ln rows (-r) W) (by rw [handR_len]; exact Nat.le_succ _) d' kvs' H' k b' r'⟩⟩
      · exact fun _ => bad _ fun C fs dd a H2 hk k2 ha hd => ⟨_, rfl, rfl, _, rfl, decF (fun z => nomatch z) ⟨_, rfl, a, dd, C, fs, rfl, hk, upd_same, (by rw [upd_ne (ne_of_none hd ha)]; exact hd), fun v H3 k3 => qb v H3 ((k2.laid ha).trans k3)⟩⟩
    | rule n lo hi =>
      refine ⟨_, rfl, _, _, _, _, rfl, rfl, ht1, rfl, rfl, _, rfl, decF (by decide) ⟨_, rfl, _, _, _, _, rfl, rfl, ht1, rfl, rfl, _, rfl, decF (by decide) ⟨_, rfl, _, _, _, _, rfl, rfl, ht1, rfl, rfl, _, rfl, decF (by decide) ⟨_, rfl, _, _, _, _, rfl, rfl, ht1, rfl, rfl, _, rfl, decT rfl ⟨_, rfl, p, dx, _, rfl, b1.slt, _, rfl, _, _, _, _, rfl, rfl, ht1, rfl, _, rfl, _, _, _, _, rfl, rfl, ht1, rfl, _, rfl, _, _, _, _, rfl, rfl, ht1, rfl, p, dx, l, d, kvs, xs, rows, n, lo, hi, rfl, b1, hr1, W, by omega, by omega, ?_, ?_⟩⟩⟩⟩⟩
      · intro a ha hc
        exact fun d' kvs' H' k b' r' => ⟨_, rfl, rfl, _, rfl, decT rfl ⟨_, rfl, qd _ (W.change ha (kept_ok hc _ _) rfl) (put_len _ _ _) d' kvs' H' k b' r'⟩⟩
      · exact fun _ => bad _ fun C fs dd a H2 hk k2 ha hd => ⟨_, rfl, rfl, _, rfl, decF (fun z => nomatch z) ⟨_, rfl, a, dd, C, fs, rfl, hk, upd_same, (by rw [upd_ne (ne_of_none hd ha)]; exact hd), fun v H3 k3 => qb v H3 ((k2.laid ha).trans k3)⟩⟩
    | leave n heir =>
      refine ⟨_, rfl, _, _, _, _, rfl, rfl, ht1, rfl, rfl, _, rfl, decF (by decide) ⟨_, rfl, _, _, _, _, rfl, rfl, ht1, rfl, rfl, _, rfl, decF (by decide) ⟨_, rfl, _, _, _, _, rfl, rfl, ht1, rfl, rfl, _, rfl, decF (by decide) ⟨_, rfl, _, _, _, _, rfl, rfl, ht1, rfl, rfl, _, rfl, decF (by decide) ⟨_, rfl, _, _, _, _, rfl, rfl, ht1, rfl, rfl, _, rfl, decT rfl (iteT ⟨_, rfl, _, _, _, _, rfl, rfl, ht1, rfl, rfl, _, rfl, decT rfl ⟨_, rfl, p, dx, _, rfl, b1.slt, _, rfl, _, _, _, _, rfl, rfl, ht1, rfl, _, rfl, _, _, _, _, rfl, rfl, ht1, rfl, p, dx, l, d, kvs, xs, rows, n, heir, rfl, b1, hr1, W, by omega, by omega, ?_, ?_⟩⟩)⟩⟩⟩⟩⟩
      · intro hok a ha
        exact fun d' kvs' H' k b' r' => ⟨_, rfl, rfl, _, rfl, decT rfl ⟨_, rfl, qd _ (W.leave ha (show InR { a with heir := heir } from W.rg n a ha) hok.2) (put_len _ _ _) d' kvs' H' k b' r'⟩⟩
      · exact fun _ => bad _ fun C fs dd a H2 hk k2 ha hd => ⟨_, rfl, rfl, _, rfl, decF (fun z => nomatch z) ⟨_, rfl, a, dd, C, fs, rfl, hk, upd_same, (by rw [upd_ne (ne_of_none hd ha)]; exact hd), fun v H3 k3 => qb v H3 ((k2.laid ha).trans k3)⟩⟩
    | shut n =>
      refine ⟨_, rfl, _, _, _, _, rfl, rfl, ht1, rfl, rfl, _, rfl, decF (by decide) ⟨_, rfl, _, _, _, _, rfl, rfl, ht1, rfl, rfl, _, rfl, decF (by decide) ⟨_, rfl, _, _, _, _, rfl, rfl, ht1, rfl, rfl, _, rfl, decF (by decide) ⟨_, rfl, _, _, _, _, rfl, rfl, ht1, rfl, rfl, _, rfl, decF (by decide) ⟨_, rfl, _, _, _, _, rfl, rfl, ht1, rfl, rfl, _, rfl, decF (by decide) ⟨_, rfl, _, _, _, _, rfl, rfl, ht1, rfl, rfl, _, rfl, decT rfl ⟨_, rfl, _, _, _, _, rfl, rfl, ht1, rfl, rfl, _, rfl, decF (by decide) ⟨_, rfl, p, dx, _, rfl, b1.slt, _, rfl, _, _, _, _, rfl, rfl, ht1, rfl, p, dx, l, d, kvs, xs, rows, n, rfl, b1, hr1, W, by omega, by omega, ?_, ?_⟩⟩⟩⟩⟩⟩⟩⟩
      · intro hok
        exact fun d' kvs' H' k b' r' => ⟨_, rfl, rfl, _, rfl, decT rfl ⟨_, rfl, qd _ (W.shut hok.2) (Nat.le_succ_of_le (List.length_filter_le ..)) d' kvs' H' k b' r'⟩⟩
      · exact fun _ => bad _ fun C fs dd a H2 hk k2 ha hd => ⟨_, rfl, rfl, _, rfl, decF (fun z => nomatch z) ⟨_, rfl, a, dd, C, fs, rfl, hk, upd_same, (by rw [upd_ne (ne_of_none hd ha)]; exact hd), fun v H3 k3 => qb v H3 ((k2.laid ha).trans k3)⟩⟩
end
end K65
set_option Elab.async false
set_option linter.all false
set_option maxRecDepth 100000
set_option maxHeartbeats 4000000
namespace K65
open PySem PySem.Spec PyProof.Rows L2 SlX He
theorem optv_at {os : List (Option Int)} {i : Nat} {x : V} (h : (os.map optV)[i]? = some x) : ∃ o, x = optV o := by
  rw [List.getElem?_map] at h
  cases e : os[i]? with
  | none => rw [e] at h; cases h
  | some o =>
    rw [e] at h
    exact ⟨o, (Option.some.inj h).symm⟩
theorem opts_at {tags : List Str} {i : Nat} {x : V} (h : (V.non :: tags.map V.str)[i]? = some x) : ∃ o, x = optS o := by
  cases i with
  | zero => exact ⟨none, (Option.some.inj h).symm⟩
  | succ i =>
    rw [List.getElem?_cons_succ] at h
    obtain ⟨n, _, e⟩ := str_at h
    exact ⟨some n, e⟩
section
variable {P : Program} {w : World} {K : PySem.W.Frag} {mg : Str → Option Value} {base : Heap}
def spDeed (K : PySem.W.Frag) : Sp := fun vs H Q _ => ∃ (b g : Addr) (n : Nat) (tags : List Str), vs = [.ref b, .ref g] ∧ BoxAt H b (n + 6) ∧ g ≠ b ∧ H g = some (.lst (tags.map V.str)) ∧ 0 < tags.length ∧ tags.length < 100 ∧
  ∀ t D H', Kp [b] H H' → BoxAt H' b n → SqT K H' t (Deed.vs D) → Q (.ref t) H'
theorem ok_deed (T : Txt K mg) (P_law_take : Pr P w K mg base CX0 1 "_law_take" spTake) (P_law_of : Pr P w K mg base CX0 2 "_law_of" (spOf K)) : Pr P w K mg base CX0 3 "_law_deed" (spDeed K) := by
  obtain ⟨fd, F⟩ := T.f_law_deed
  refine Pr.of T.g_law_deed F.kp (F.ok sc_law_deed (fun vs H Q E h => ?_) (fun cdv A outer s H vs Q E hr h => ?_)) (F.bindsN fun _ _ _ _ _ _ us hl => match us, hl with | [_, _], _ => rfl)
  · obtain ⟨_, _, _, _, rfl, _⟩ := h
    rfl
  · obtain ⟨b, g, n, tags, rfl, hB, hgb, hg, hl0, hl1, q⟩ := h
    refine ⟨_, PSs.nox (pss_cons (ps_par (i := 2) (j := 3) rfl sc_law_deed.nd rfl rfl (by decide) rfl rfl (pa_cons (pe_g P_law_take (hr.mono (by decide)) pass0 (pa_cons (pv 0) (pa_cons pe_int pa_nil))) (pa_cons (pe_g P_law_of (hr.mono (by decide)) pass0 (pa_cons (pv 0) (pa_cons (pv 1) pa_nil))) pa_nil)) (by rfl)) (pss_cons (ps_par (i := 4) (j := 5) rfl sc_law_deed.nd rfl rfl (by decide) rfl rfl (pa_cons (pe_g P_law_of (hr.mono (by decide)) pass0 (pa_cons (pv 0) (pa_cons (pe_lst (pa_cons pe_non (pa_cons pe_int (pa_cons pe_int (pa_cons (pe_un un_neg pe_int) pa_nil))))) pa_nil))) (pa_cons (pe_g P_law_of (hr.mono (by decide)) pass0 (pa_cons (pv 0) (pa_cons (pe_lst (pa_cons pe_non (pa_cons pe_int (pa_cons pe_int (pa_cons pe_int (pa_cons (pe_un un_neg pe_int) pa_nil)))))) pa_nil))) pa_nil)) (by rfl)) (pss_cons (ps_par (i := 6) (j := 7) rfl sc_law_deed.nd rfl rfl (by decide) rfl rfl (pa_cons (pe_g P_law_of (hr.mono (by decide)) pass0 (pa_cons (pv 0) (pa_cons (pe_op op_cat (pe_lst (pa_cons pe_non pa_nil)) (pv 1)) pa_nil))) (pa_cons (pe_g P_law_take (hr.mono (by decide)) pass0 (pa_cons (pv 0) (pa_cons pe_int pa_nil))) pa_nil)) (by rfl)) (pss_cons (ps_if (pt_cmpR op_lt (pv 2) pe_int (nomark _)) (pss_one (ps_ret (pe_tup (pa_cons pe_str (pa_cons (pv 3) (pa_cons (pe_op op_sub (pv 7) pe_int) (pa_cons (pv 4) (pa_cons (pv 5) (pa_cons (pv 6) pa_nil))))))))) pss_nil) (pss_cons (ps_if (pt_cmpR op_lt (pv 2) pe_int (nomark _)) (pss_one (ps_ret (pe_tup (pa_cons (pe_ix ix_list (pe_lst (pa_cons pe_str (pa_cons pe_str (pa_cons pe_str pa_nil)))) (pe_op op_sub (pv 2) pe_int) (fun _ _ => rfl)) (pa_cons (pv 3) (pa_cons (pv 7) pa_nil)))))) pss_nil) (pss_cons (ps_if (pt_cmpR op_eq (pv 2) pe_int (nomark _)) (pss_one (ps_ret (pe_tup (pa_cons pe_str (pa_cons (pv 3) (pa_cons (pv 4) (pa_cons (pv 5) pa_nil))))))) pss_nil) (pss_one (ps_ret (pe_ifExp (pt_cmpR op_eq (pv 2) pe_int (nomark _)) (pe_tup (pa_cons pe_str (pa_cons (pv 3) (pa_cons (pv 6) pa_nil)))) (pe_tup (pa_cons pe_str (pa_cons (pv 3) pa_nil)))))))))))), ?_⟩
    have nb : ∀ {x : Addr}, x ≠ b → x ∉ [b] := fun h => by simpa using h
    refine ⟨_, rfl, b, n + 5, 9, rfl, hB, by decide, by decide, fun r H1 hr1 k1 hB1 => ⟨_, rfl, _, rfl, b, g, n + 4, _, rfl, hB1, hgb, SqL.of (k1.at1 hg (nb hgb)), by simpa using hl0, by simp; omega, fun i x H2 hx k2 hB2 => ⟨_, _, rfl, ?_⟩⟩⟩
    obtain ⟨nm, hnm, rfl⟩ := str_at hx
    have k02 := k1.trans k2
    refine ⟨_, rfl, _, rfl, Nat.le_of_ble_eq_true rfl, fun p hp => ⟨b, p, n + 3, ([none, some 0, some 0, some (-2)] : List (Option Int)).map optV, rfl, hB2.laid hp, fun z => hB2.nn (z ▸ hp), .of upd_same, by decide, by decide, fun i3 x3 H3 hx3 k3 hB3 => ?_⟩⟩
    obtain ⟨lo, rfl⟩ := optv_at hx3
    have k03 := (k02.laid hp).trans k3
    refine ⟨_, rfl, _, rfl, Nat.le_of_ble_eq_true rfl, fun p2 hp2 => ⟨b, p2, n + 2, ([none, some 5, some 9, some 0, some (-2)] : List (Option Int)).map optV, rfl, hB3.laid hp2, fun z => hB3.nn (z ▸ hp2), .of upd_same, by decide, by decide, fun i4 x4 H4 hx4 k4 hB4 => ⟨_, _, rfl, ?_⟩⟩⟩
    obtain ⟨hi, rfl⟩ := optv_at hx4
    have k04 := (k03.laid hp2).trans k4
    have hg4 := k04.at1 hg (nb hgb)
    refine ⟨_, rfl, Nat.le_of_ble_eq_true rfl, fun p3 hp3 => ⟨_, rfl, p3, g, [.non], tags.map V.str, rfl, rfl, upd_same, (Kp.r0.laid hp3).at0 hg4, by rw [List.length_map]; unfold sizeLine; simp; omega, fun p4 hp4 => ⟨b, p4, n + 1, _, rfl, (hB4.laid hp3).laid hp4, fun z => (hB4.laid hp3).nn (z ▸ hp4), .of upd_same, by simp, by simp; omega, fun i5 x5 H5 hx5 k5 hB5 => ?_⟩⟩⟩
    obtain ⟨heir, rfl⟩ := opts_at hx5
    have k05 := ((k04.laid hp3).laid hp4).trans k5
    refine ⟨_, rfl, b, n, 12, rfl, hB5, by decide, by decide, fun far H6 hfar k6 hB6 => ⟨_, _, rfl, ?_⟩⟩
    have k06 := k05.trans k6
    refine ⟨_, rfl, _, _, rfl, rfl, _, rfl, dec2 (fun h3 => ?_) (fun h3 => ?_)⟩
    · refine ⟨_, rfl, _, rfl, _, _, rfl, rfl, _, rfl, _, rfl, _, rfl, Nat.le_of_ble_eq_true rfl, fun t ht => q t (.admit nm (far - 2) lo hi heir) _ (k06.laid ht) (hB6.laid ht) (.of upd_same)⟩
    refine ⟨_, rfl, _, _, rfl, rfl, _, rfl, dec2 (fun h6 => ?_) (fun h6 => ?_)⟩
    · refine ⟨Nat.le_of_ble_eq_true rfl, fun p5 hp5 => ?_⟩
      have hr : r = 3 ∨ r = 4 ∨ r = 5 := by omega
      rcases hr with rfl | rfl | rfl
      · exact ⟨_, rfl, _, _, rfl, rfl, p5, _, _, _, rfl, rfl, .of upd_same, rfl, _, rfl, _, rfl, Nat.le_of_ble_eq_true rfl, fun t ht => q t (.give nm far) _ ((k06.laid hp5).laid ht) ((hB6.laid hp5).laid ht) (.of upd_same)⟩
      · exact ⟨_, rfl, _, _, rfl, rfl, p5, _, _, _, rfl, rfl, .of upd_same, rfl, _, rfl, _, rfl, Nat.le_of_ble_eq_true rfl, fun t ht => q t (.give nm far) _ ((k06.laid hp5).laid ht) ((hB6.laid hp5).laid ht) (.of upd_same)⟩
      · exact ⟨_, rfl, _, _, rfl, rfl, p5, _, _, _, rfl, rfl, .of upd_same, rfl, _, rfl, _, rfl, Nat.le_of_ble_eq_true rfl, fun t ht => q t (.call nm far) _ ((k06.laid hp5).laid ht) ((hB6.laid hp5).laid ht) (.of upd_same)⟩
    refine ⟨_, rfl, rfl, _, rfl, dec2 (fun h7 => ?_) (fun h7 => ?_)⟩
    · exact ⟨_, rfl, _, rfl, _, rfl, Nat.le_of_ble_eq_true rfl, fun t ht => q t (.rule nm lo hi) _ (k06.laid ht) (hB6.laid ht) (.of upd_same)⟩
    refine ⟨_, rfl, rfl, _, rfl, dec2 (fun h8 => ?_) (fun h8 => ?_)⟩
    · exact ⟨_, rfl, _, rfl, Nat.le_of_ble_eq_true rfl, fun t ht => q t (.leave nm heir) _ (k06.laid ht) (hB6.laid ht) (.of upd_same)⟩
    · exact ⟨_, rfl, Nat.le_of_ble_eq_true rfl, fun t ht => q t (.shut nm) _ (k06.laid ht) (hB6.laid ht) (.of upd_same)⟩
end
end K65
set_option Elab.async false
set_option linter.all false
set_option maxRecDepth 100000
set_option maxHeartbeats 4000000
namespace K65
open PySem PySem.Spec PyProof.Rows L2 SlX He
section
variable {P : Program} {w : World} {K : PySem.W.Frag} {mg : Str → Option Value} {base : Heap}
def DeedsAt (K : PySem.W.Frag) (H : Hp) (ts : List V) : Prop := ∀ x ∈ ts, ∃ t D, x = .ref t ∧ SqT K H t (Deed.vs D)
theorem DeedsAt.kp {H H' : Hp} {ex : List Addr} {ts : List V} (h : DeedsAt K H ts) (k : Kp ex H H') : DeedsAt K H' ts := fun x hx => by
  obtain ⟨t, D, e, h1⟩ := h x hx
  exact ⟨t, D, e, sqTk0 h1 k⟩
theorem DeedsAt.snoc {H : Hp} {ts : List V} (h : DeedsAt K H ts) {t : Addr} {D : Deed} (ht : SqT K H t D.vs) : DeedsAt K H (ts ++ [.ref t]) := fun x hx => by
  rcases List.mem_append.mp hx with z | z
  · exact h x z
  · exact ⟨t, D, List.mem_singleton.mp z, ht⟩
def spBegun (K : PySem.W.Frag) : Sp := fun vs H Q _ => ∃ (b g : Addr) (n : Nat) (tags : List Str), vs = [.ref b, .ref g] ∧ BoxAt H b (n + 12) ∧ g ≠ b ∧ H g = some (.lst (tags.map V.str)) ∧ tags.Nodup ∧ 3 ≤ tags.length ∧ tags.length < 100 ∧
  ∀ a ts H', Kp [b] H H' → BoxAt H' b n → H' a = some (.lst ts) → H a = none → ts.length = 3 → DeedsAt K H' ts → Q (.ref a) H'
theorem ok_begun (T : Txt K mg) (P_law_take : Pr P w K mg base CX0 1 "_law_take" spTake) (P_law_of : Pr P w K mg base CX0 2 "_law_of" (spOf K)) (P_law_pick : Pr P w K mg base CX0 2 "_law_pick" (spPick K)) : Pr P w K mg base CX0 3 "_law_begun" (spBegun K) := by
  obtain ⟨fd, F⟩ := T.f_law_begun
  refine Pr.of T.g_law_begun F.kp (F.ok sc_law_begun (fun vs H Q E h => ?_) (fun cdv A outer s H vs Q E hr h => ?_)) (F.bindsN fun _ _ _ _ _ _ us hl => match us, hl with | [_, _], _ => rfl)
  · obtain ⟨_, _, _, _, rfl, _⟩ := h
    rfl
  · obtain ⟨b, g, n, tags, rfl, hB, hgb, hg, nd, hl0, hl1, q⟩ := h
    refine ⟨_, PSs.nox (pss_cons (ps_set (i := 2) sc_law_begun.nd rfl (.inl rfl) (pe_g P_law_pick (hr.mono (by decide)) pass0 (pa_cons (pv 0) (pa_cons (pv 1) (pa_cons pe_int pa_nil))))) (pss_cons (ps_set (i := 3) sc_law_begun.nd rfl (.inl rfl) (pe_lst (pa_cons (pe_tup (pa_cons pe_str (pa_cons (pe_ix ix_list (pv 2) pe_int (fun _ _ => rfl)) (pa_cons (pe_g P_law_take (hr.mono (by decide)) pass0 (pa_cons (pv 0) (pa_cons pe_int pa_nil))) (pa_cons (pe_g P_law_of (hr.mono (by decide)) pass0 (pa_cons (pv 0) (pa_cons (pe_lst (pa_cons pe_non (pa_cons pe_int (pa_cons (pe_un un_neg pe_int) pa_nil)))) pa_nil))) (pa_cons (pe_g P_law_of (hr.mono (by decide)) pass0 (pa_cons (pv 0) (pa_cons (pe_lst (pa_cons pe_non (pa_cons pe_int (pa_cons pe_int pa_nil)))) pa_nil))) (pa_cons pe_non pa_nil))))))) pa_nil))) (pss_cons (ps_expr (pe_bm PySem.F.plainAttrs_list PySem.F.slot_list_append PySem.F.type_list_append mt_append (pv 3) (pa_cons (pe_tup (pa_cons pe_str (pa_cons (pe_ix ix_list (pv 2) pe_int (fun _ _ => rfl)) (pa_cons (pe_g P_law_take (hr.mono (by decide)) pass0 (pa_cons (pv 0) (pa_cons pe_int pa_nil))) (pa_cons (pe_g P_law_of (hr.mono (by decide)) pass0 (pa_cons (pv 0) (pa_cons (pe_lst (pa_cons pe_int (pa_cons pe_int (pa_cons (pe_un un_neg pe_int) pa_nil)))) pa_nil))) (pa_cons (pe_g P_law_of (hr.mono (by decide)) pass0 (pa_cons (pv 0) (pa_cons (pe_lst (pa_cons pe_int (pa_cons pe_int (pa_cons pe_non pa_nil)))) pa_nil))) (pa_cons (pe_ix ix_list (pv 2) pe_int (fun _ _ => rfl)) pa_nil))))))) pa_nil))) (pss_cons (ps_expr (pe_bm PySem.F.plainAttrs_list PySem.F.slot_list_append PySem.F.type_list_append mt_append (pv 3) (pa_cons (pe_tup (pa_cons pe_str (pa_cons (pe_ix ix_list (pv 2) pe_int (fun _ _ => rfl)) (pa_cons (pe_g P_law_take (hr.mono (by decide)) pass0 (pa_cons (pv 0) (pa_cons pe_int pa_nil))) (pa_cons pe_int (pa_cons (pe_g P_law_of (hr.mono (by decide)) pass0 (pa_cons (pv 0) (pa_cons (pe_lst (pa_cons pe_int (pa_cons pe_int pa_nil))) pa_nil))) (pa_cons (pe_g P_law_of (hr.mono (by decide)) pass0 (pa_cons (pv 0) (pa_cons (pe_lst (pa_cons (pe_ix ix_list (pv 2) pe_int (fun _ _ => rfl)) (pa_cons (pe_ix ix_list (pv 2) pe_int (fun _ _ => rfl)) (pa_cons (pe_ix ix_list (pv 2) pe_int (fun _ _ => rfl)) (pa_cons pe_non pa_nil))))) pa_nil))) pa_nil))))))) pa_nil))) (pss_one (ps_ret (pv 3))))))), ?_⟩
    have nb : ∀ {x : Addr}, x ≠ b → x ∉ [b] := fun h => by simpa using h
    have nds : (tags.map V.str).Nodup := List.Pairwise.map (S := (· ≠ ·)) V.str (fun a b z e => z (V.str.inj e)) nd
    refine ⟨_, rfl, _, rfl, b, g, n + 9, 3, tags.map V.str, rfl, hB, hgb, .of hg, nds, by simpa using hl0, by simp; omega, fun o ys H1 hyl hynd hys k1 hB1 hon ho => ?_⟩
    match ys, hyl with
    | [y0, y1, y2], _ =>
    obtain ⟨n0, _, e0⟩ := List.mem_map.mp (hys y0 (by simp))
    obtain ⟨n1, _, e1⟩ := List.mem_map.mp (hys y1 (by simp))
    obtain ⟨n2, _, e2⟩ := List.mem_map.mp (hys y2 (by simp))
    subst e0 e1 e2
    have hob : o ≠ b := fun z => hB.nn (z ▸ hon)
    -- the first
    refine ⟨_, rfl, _, _, _, _, rfl, rfl, .of ho, rfl, _, rfl, b, n + 8, 6, rfl, hB1, by decide, by decide, fun r1 H2 hr1 k2 hB2 => ?_⟩
    refine ⟨_, rfl, _, rfl, Nat.le_of_ble_eq_true rfl, fun p hp => ⟨b, p, n + 7, ([none, some 0, some (-2)] : List (Option Int)).map optV, rfl, hB2.laid hp, fun z => hB2.nn (z ▸ hp), .of upd_same, by decide, by decide, fun i3 x3 H3 hx3 k3 hB3 => ?_⟩⟩
    obtain ⟨lo1, rfl⟩ := optv_at hx3
    have k13 := (k2.laid hp).trans k3
    refine ⟨_, rfl, Nat.le_of_ble_eq_true rfl, fun p2 hp2 => ⟨b, p2, n + 6, ([none, some 5, some 9] : List (Option Int)).map optV, rfl, hB3.laid hp2, fun z => hB3.nn (z ▸ hp2), .of upd_same, by decide, by decide, fun i4 x4 H4 hx4 k4 hB4 => ?_⟩⟩
    obtain ⟨hi1, rfl⟩ := optv_at hx4
    have k14 := (k13.laid hp2).trans k4
    refine ⟨Nat.le_of_ble_eq_true rfl, fun t ht => ⟨Nat.le_of_ble_eq_true rfl, fun f hf => ?_⟩⟩
    have k16 := (k14.laid (o := .tup (Deed.vs (.admit n0 r1 lo1 hi1 none))) ht).laid (o := .lst [.ref t]) hf
    have hB6 := (hB4.laid (o := .tup (Deed.vs (.admit n0 r1 lo1 hi1 none))) ht).laid (o := .lst [.ref t]) hf
    have hf6 : (upd (upd H4 t (.tup (Deed.vs (.admit n0 r1 lo1 hi1 none)))) f (.lst [.ref t])) f = some (.lst [.ref t]) := upd_same
    have ht6 : DeedsAt K (upd (upd H4 t (.tup (Deed.vs (.admit n0 r1 lo1 hi1 none)))) f (.lst [.ref t])) [.ref t] := fun x hx => ⟨t, .admit n0 r1 lo1 hi1 none, List.mem_singleton.mp hx, sqTk0 (SqT.of upd_same) (Kp.r0.laid hf)⟩
    have hfo : H1 f = none := by
      have : f ≠ b := fun z => (hB4.laid (o := .tup (Deed.vs (.admit n0 r1 lo1 hi1 none))) ht).nn (z ▸ hf)
      exact (k14.laid (o := .tup (Deed.vs (.admit n0 r1 lo1 hi1 none))) ht).none hf (nb this)
    show tSeq _ _ _ _ (upd (upd H4 t (.tup (Deed.vs (.admit n0 r1 lo1 hi1 none)))) f (.lst [.ref t]))
    generalize (upd (upd H4 t (.tup (Deed.vs (.admit n0 r1 lo1 hi1 none)))) f (.lst [.ref t])) = H6 at k16 hB6 hf6 ht6
    have hfb : f ≠ b := fun z => hB1.nn (z ▸ hfo)
    have hof : o ≠ f := ne_of_none ho hfo
    -- the second
    have ho6 := k16.at1 ho (nb hob)
    refine ⟨_, rfl, .inl ⟨rfl, _, .of hf6⟩, _, rfl, _, _, _, _, rfl, rfl, .of ho6, rfl, _, rfl, b, n + 5, 5, rfl, hB6, by decide, by decide, fun r2 H7 hr2 k7 hB7 => ?_⟩
    refine ⟨_, rfl, _, rfl, Nat.le_of_ble_eq_true rfl, fun p3 hp3 => ⟨b, p3, n + 4, ([some 0, some 0, some (-3)] : List (Option Int)).map optV, rfl, hB7.laid hp3, fun z => hB7.nn (z ▸ hp3), .of upd_same, by decide, by decide, fun i5 x5 H8 hx5 k8 hB8 => ?_⟩⟩
    obtain ⟨lo2, rfl⟩ := optv_at hx5
    have k68 := (k7.laid hp3).trans k8
    refine ⟨_, rfl, Nat.le_of_ble_eq_true rfl, fun p4 hp4 => ⟨b, p4, n + 3, ([some 4, some 5, none] : List (Option Int)).map optV, rfl, hB8.laid hp4, fun z => hB8.nn (z ▸ hp4), .of upd_same, by decide, by decide, fun i6 x6 H9 hx6 k9 hB9 => ?_⟩⟩
    obtain ⟨hi2, rfl⟩ := optv_at hx6
    have k69 := (k68.laid hp4).trans k9
    have ho9 := k69.at1 ho6 (nb hob)
    have hf9 := k69.at1 hf6 (nb hfb)
    refine ⟨_, rfl, _, _, _, _, rfl, rfl, .of ho9, rfl, Nat.le_of_ble_eq_true rfl, fun t2 ht2 => ⟨f, _, _, rfl, rfl, (Kp.r0.laid ht2).at0 hf9, Nat.le_of_ble_eq_true rfl, ?_⟩⟩
    have kf : Kp [f] (upd H9 t2 (.tup (Deed.vs (.admit n1 r2 lo2 hi2 (some n0))))) (upd (upd H9 t2 (.tup (Deed.vs (.admit n1 r2 lo2 hi2 (some n0))))) f (.lst ([.ref t] ++ [.ref t2]))) := Kp.rfl'.out (List.mem_cons_self ..) fun o ho => by
      rw [(Kp.r0.laid (o := .tup (Deed.vs (.admit n1 r2 lo2 hi2 (some n0)))) ht2).at0 hf9] at ho
      cases ho
      exact fun z => z
    have k1A : Kp [b] H1 (upd (upd H9 t2 (.tup (Deed.vs (.admit n1 r2 lo2 hi2 (some n0))))) f (.lst ([.ref t] ++ [.ref t2]))) := ((k16.trans k69).laid (o := .tup (Deed.vs (.admit n1 r2 lo2 hi2 (some n0)))) ht2).new hfo
    have hBA : BoxAt (upd (upd H9 t2 (.tup (Deed.vs (.admit n1 r2 lo2 hi2 (some n0))))) f (.lst ([.ref t] ++ [.ref t2]))) b (n + 3) := (hB9.laid (o := .tup (Deed.vs (.admit n1 r2 lo2 hi2 (some n0)))) ht2).kp1 kf (by simpa using hfb.symm)
    have hfA : (upd (upd H9 t2 (.tup (Deed.vs (.admit n1 r2 lo2 hi2 (some n0))))) f (.lst ([.ref t] ++ [.ref t2]))) f = some (.lst ([.ref t] ++ [.ref t2])) := upd_same
    have htA : DeedsAt K (upd (upd H9 t2 (.tup (Deed.vs (.admit n1 r2 lo2 hi2 (some n0))))) f (.lst ([.ref t] ++ [.ref t2]))) ([.ref t] ++ [.ref t2]) := ((ht6.kp k69).kp (Kp.r0.laid (o := .tup (Deed.vs (.admit n1 r2 lo2 hi2 (some n0)))) ht2) |>.snoc (SqT.of upd_same)).kp kf
    show tSeq _ _ _ _ (upd (upd H9 t2 (.tup (Deed.vs (.admit n1 r2 lo2 hi2 (some n0))))) f (.lst ([.ref t] ++ [.ref t2])))
    generalize (upd (upd H9 t2 (.tup (Deed.vs (.admit n1 r2 lo2 hi2 (some n0))))) f (.lst ([.ref t] ++ [.ref t2]))) = HA at k1A hBA hfA htA
    -- the third
    have hoA := k1A.at1 ho (nb hob)
    refine ⟨_, rfl, .inl ⟨rfl, _, .of hfA⟩, _, rfl, _, _, _, _, rfl, rfl, .of hoA, rfl, _, rfl, b, n + 2, 3, rfl, hBA, by decide, by decide, fun r3 HB hr3 kB hBB => ?_⟩
    refine ⟨_, rfl, Nat.le_of_ble_eq_true rfl, fun p5 hp5 => ⟨b, p5, n + 1, ([some 2, some 6] : List (Option Int)).map optV, rfl, hBB.laid hp5, fun z => hBB.nn (z ▸ hp5), .of upd_same, by decide, by decide, fun i7 x7 HC hx7 kC hBC => ?_⟩⟩
    obtain ⟨hi3, rfl⟩ := optv_at hx7
    have kAC := (kB.laid hp5).trans kC
    have hoC := kAC.at1 hoA (nb hob)
    refine ⟨_, rfl, _, rfl, _, _, _, _, rfl, rfl, .of hoC, rfl, _, rfl, _, _, _, _, rfl, rfl, .of hoC, rfl, _, rfl, _, _, _, _, rfl, rfl, .of hoC, rfl, Nat.le_of_ble_eq_true rfl, fun p6 hp6 => ⟨b, p6, n, [.str n1, .str n1, .str n0, .non], rfl, hBC.laid hp6, fun z => hBC.nn (z ▸ hp6), .of upd_same, by simp, by simp, fun i8 x8 HD hx8 kD hBD => ?_⟩⟩
    have hx : ∃ e : Option Str, x8 = optS e := by
      have := List.mem_of_getElem? hx8
      simp only [List.mem_cons, List.not_mem_nil, or_false] at this
      rcases this with e | e | e | e
      · exact ⟨some n1, e⟩
      · exact ⟨some n1, e⟩
      · exact ⟨some n0, e⟩
      · exact ⟨none, e⟩
    obtain ⟨heir3, rfl⟩ := hx
    have kAD := (kAC.laid hp6).trans kD
    have hfD := kAD.at1 hfA (nb hfb)
    refine ⟨Nat.le_of_ble_eq_true rfl, fun t3 ht3 => ⟨f, _, _, rfl, rfl, (Kp.r0.laid ht3).at0 hfD, Nat.le_of_ble_eq_true rfl, ?_⟩⟩
    have kf3 : Kp [f] (upd HD t3 (.tup (Deed.vs (.admit n2 r3 (some 0) hi3 heir3)))) (upd (upd HD t3 (.tup (Deed.vs (.admit n2 r3 (some 0) hi3 heir3)))) f (.lst (([.ref t] ++ [.ref t2]) ++ [.ref t3]))) := Kp.rfl'.out (List.mem_cons_self ..) fun o ho => by
      rw [(Kp.r0.laid (o := .tup (Deed.vs (.admit n2 r3 (some 0) hi3 heir3))) ht3).at0 hfD] at ho
      cases ho
      exact fun z => z
    have hfH : H f = none := k1.none hfo (nb hfb)
    refine ⟨_, rfl, q f (([.ref t] ++ [.ref t2]) ++ [.ref t3]) _ (((k1.trans (k1A.trans kAD)).laid ht3).new hfH) ?_ upd_same hfH rfl ?_⟩
    · exact (hBD.laid (o := .tup (Deed.vs (.admit n2 r3 (some 0) hi3 heir3))) ht3).kp1 kf3 (by simpa using hfb.symm)
    · exact ((htA.kp kAD).kp (Kp.r0.laid (o := .tup (Deed.vs (.admit n2 r3 (some 0) hi3 heir3))) ht3) |>.snoc (SqT.of upd_same)).kp kf3
end
end K65
set_option Elab.async false
set_option linter.all false
set_option maxRecDepth 100000
set_option maxHeartbeats 4000000
namespace K65
open PySem PySem.Spec PyProof.Rows L2 SlX He
section
variable {P : Program} {w : World} {K : PySem.W.Frag} {mg : Str → Option Value} {base : Heap}
/-! ### the sums along a chain -/
def spSums (K : PySem.W.Frag) : Sp := fun vs H Q _ => ∃ (p t : Addr) (rows : RowsL) (ln : List Str), vs = [.ref p, .ref t] ∧ Bd K H p rows ∧ ChT H t ln ∧ (∀ m ∈ ln, getR rows m ≠ none) ∧ ln.length < 100 ∧
  ∀ a ys H', Kp [] H H' → H' a = some (.lst ys) → H a = none → ys.length = ln.length → (∀ (i : Nat) (y : V), ys[i]? = some y → y = .int (sumN rows ln i)) → Q (.ref a) H'
theorem ok_sums (T : Txt K mg) (P_getitem : MB P w K mg base 4 "__getitem__" (spGet K)) : Pr P w K mg base CX0 6 "_law_sums" (spSums K) := by
  obtain ⟨fd, F⟩ := T.f_law_sums
  refine Pr.of T.g_law_sums F.kp (F.ok sc_law_sums (fun vs H Q E h => ?_) (fun cdv A outer s H vs Q E hr h => ?_)) (F.bindsN fun _ _ _ _ _ _ us hl => match us, hl with | [_, _], _ => rfl)
  · obtain ⟨_, _, _, _, rfl, _⟩ := h
    rfl
  · obtain ⟨p, t, rows, ln, rfl, hb, ht, hk, hlen, q⟩ := h
    refine ⟨_, PSs.nox (pss_one (ps_ret (pe_lc (own := [("_law_k", 2)]) (g := gName 2) (te := (tCB (rSum K) (tCons (tLc (iTup K (L2.tSl (rSlA K) (tVar 1) tNoPart (tPart (tOp (rI0 fun i j => .int (i + j)) (tVar 2) (tC (.int 1)))))) (gName 3) tYes (tSubOwn _ _ _ (tVar 0) (tVar 3)) [3]) tNil))) rfl sc_law_sums.nd (pi_range1 rfl T.z_range (pa_cons (pe_callB call_len_seq (by rfl) T.z_len PySem.boot_len (pa_cons (pv 1) pa_nil)) pa_nil)) (blkOk_by (own := [("_law_k", 2)]) (N := ["_law_board", "_law_line_so", "_law_k", "_law_far"]) (sc := defScope s_law_sums) (by decide +kernel)) (fun _ _ _ _ _ => (pg_name (i := 2) sc_law_sums.nd rfl (Or.inl rfl))) (fun _ _ _ _ _ => pts_nil) (fun _ _ _ _ _ => (pe_callB (cr_sum rfl) (by rfl) T.z_sum boot_sum (pa_cons (pe_lc (own := [("_law_far", 3)]) (g := gName 3) (te := (tSubOwn _ _ _ (tVar 0) (tVar 3))) rfl sc_law_sums.nd (pi_tup (pe_slice sl_tupA (pv 1) po_none (po_some (pe_op op_add (pv 2) pe_int)))) (blkOk_by (own := [("_law_far", 3)]) (N := ["_law_board", "_law_line_so", "_law_k", "_law_far"]) (sc := relS ⟨.function, [(".0", .local), ("_law_k", .local), ("sum", .globalImplicit), ("_law_board", .free), ("_law_line_so", .free)], false, false, []⟩ (defScope s_law_sums)) (by decide +kernel)) (fun _ _ _ _ _ => (pg_name (i := 3) sc_law_sums.nd rfl (Or.inl rfl))) (fun _ _ _ _ _ => pts_nil) (fun _ _ _ _ _ => (pe_subOwn (E := E0) T.d_Board_getitem T.i_Board_getitem T.n_Board_getitem P_getitem (hr.mono (by decide)) pass0 (pv 0) (pv 3)))) pa_nil)))))), ?_⟩
    obtain ⟨dx, l, d, kvs, xs, b, hrows, W, hrl⟩ := id hb
    refine ⟨_, rfl, t, _, rfl, .inr ht.sq, _, rfl, by rw [List.length_map]; omega, by rw [List.length_map]; omega, ?_⟩
    have en : (((ln.map V.str).length : Nat) : Int).toNat = ln.length := by rw [List.length_map]; omega
    rw [en]
    refine lc_pure (walk_range (lo := 0) (n := ln.length)) (fun i y _ => y = .int (sumN rows ln i)) (by unfold sizeLine; omega) tts_true (fun _ _ => trivial) (fun _ _ _ _ _ _ z => z) (gName_mono 2) ?_ ?_
    · rintro i x H1 H2 hi k ⟨rfl, hx⟩
      have hx' : x = .int (i : Nat) := hx.trans (congrArg V.int (by omega))
      subst hx'
      clear hx
      refine ⟨rfl, fun R hR => ⟨_, rfl, ?_⟩⟩
      unfold tNoPart
      refine ⟨_, rfl, _, _, rfl, rfl, _, rfl, ?_⟩
      have e1 : ((i : Nat) : Int) + 1 = ((i + 1 : Nat) : Int) := by omega
      rw [e1]
      refine slA none (some ((i + 1 : Nat) : Int)) (ht.kp k).sq fun u H3 k3 hu => ?_
      rw [cut_take] at hu
      refine ⟨u, rfl, ⟨_, hu⟩, ?_⟩
      have k13 := k.trans k3
      refine lc_pure (walk_tup (xs := (ln.map V.str).take (i + 1))) (fun m y _ => ∃ a, (accs rows (ln.take (i + 1)))[m]? = some a ∧ y = .int a.lv) (by rw [List.length_take, List.length_map]; unfold sizeLine; omega) tts_true (fun H' k => sqTk0 hu k) (fun _ _ _ _ _ _ z => z) (gName_mono 3) ?_ ?_
      · rintro m x H4 H5 hm k4 ⟨rfl, hxm⟩
        have hmi : m < i + 1 := by rw [List.length_take] at hm; omega
        rw [List.getElem?_take_of_lt hmi] at hxm
        obtain ⟨nm, hnm, rfl⟩ := str_at hxm
        obtain ⟨a, ha⟩ : ∃ a, getR rows nm = some a := by
          cases e : getR rows nm with
          | none => exact absurd e (hk nm (List.mem_of_getElem? hnm))
          | some a => exact ⟨a, rfl⟩
        have hac : (accs rows (ln.take (i + 1)))[m]? = some a := accs_at (by rw [List.getElem?_take_of_lt hmi]; exact hnm) ha
        have k14 := k13.trans k4
        exact ⟨rfl, fun R2 hR2 => ⟨_, rfl, _, rfl, p, dx, _, rfl, (b.kp0 k14).slt, p, nm, rows, a, rfl, hb.kp k14, ha, fun H6 k6 => hR2 _ H6 k6 ⟨a, hac, rfl⟩⟩⟩
      · intro D H4 zs k4 hD hzs hzl hz
        have e := vals_of (f := fun a : Ac => V.int a.lv) (by rw [hzl, List.length_take, List.length_map, accs_len, List.length_take]) hz
        refine ⟨D, (accs rows (ln.take (i + 1))).map (·.lv), rfl, .of (by rw [hzs, e, List.map_map]; rfl), hR _ H4 (k3.trans k4) rfl⟩
    · intro D H1 ys k hD hys hyl hz
      exact q D ys H1 k hys hD hyl hz
end
end K65
set_option Elab.async false
set_option linter.all false
set_option maxRecDepth 100000
set_option maxHeartbeats 4000000
namespace K65
open PySem PySem.Spec PyProof.Rows L2 SlX He
theorem eqvAll_ints : ∀ ns : List Int, PyData.eqvAll (ns.map .int) (ns.map .int) = true
  | [] => by rw [List.map_nil, PyData.eqvAll]
  | n :: ns => by
    rw [List.map_cons, PyData.eqvAll, eqvAll_ints ns, PyData.eqv]
    simp
theorem shaped_lst (ns : List Int) : SeqAt.shaped (.list (ns.map .int)) = true := by
  have h : PyData.depth (.list (ns.map .int)) ≤ 64 := by
    show PyData.depthAll (ns.map .int) + 1 ≤ 64
    have := dep_ints ns
    omega
  unfold SeqAt.shaped
  rw [decide_eq_true h]
  show (PyData.canLayAll0 (ns.map .int) && true) = true
  rw [lay_ints]
  rfl
theorem shaped_tpl (ns : List Int) : SeqAt.shaped (.tuple (ns.map .int)) = true := by
  have h : PyData.depth (.tuple (ns.map .int)) ≤ 64 := by
    show PyData.depthAll (ns.map .int) + 1 ≤ 64
    have := dep_ints ns
    omega
  unfold SeqAt.shaped
  rw [decide_eq_true h]
  show (PyData.canLayAll0 (ns.map .int) && true) = true
  rw [lay_ints]
  rfl
theorem neD_lst {K : PySem.W.Frag} {H : Hp} {a b : Addr} {ns : List Int} {Q : VK} (ha : SqL K H a (ns.map V.int)) (hb : SqL K H b (ns.map V.int)) (q : Q (.bl false) H) : rNeD K (.ref a) (.ref b) H Q :=
  ⟨.list (ns.map .int), .list (ns.map .int), .lst ha (dp_ints ns), .lst hb (dp_ints ns), shaped_lst ns, shaped_lst ns, by rw [PyData.eqv, eqvAll_ints]; exact q⟩
theorem eqD_lst {K : PySem.W.Frag} {H : Hp} {a b : Addr} {ns : List Int} {Q : VK} (ha : SqL K H a (ns.map V.int)) (hb : SqL K H b (ns.map V.int)) (q : Q (.bl true) H) : rEqD K (.ref a) (.ref b) H Q :=
  ⟨.list (ns.map .int), .list (ns.map .int), .lst ha (dp_ints ns), .lst hb (dp_ints ns), shaped_lst ns, shaped_lst ns, by rw [PyData.eqv, eqvAll_ints]; exact q⟩
theorem neD_tup {K : PySem.W.Frag} {H : Hp} {a b : Addr} {ns : List Int} {Q : VK} (ha : SqT K H a (ns.map V.int)) (hb : SqT K H b (ns.map V.int)) (q : Q (.bl false) H) : rNeD K (.ref a) (.ref b) H Q :=
  ⟨.tuple (ns.map .int), .tuple (ns.map .int), .tup ha (dp_ints ns), .tup hb (dp_ints ns), shaped_tpl ns, shaped_tpl ns, by rw [PyData.eqv, eqvAll_ints]; exact q⟩
/-- what was not there may go -/
theorem kpSkip {ex : List Addr} {H H1 H2 : Hp} (a : Kp [] H H1) (b : Kp ex H1 H2) (h : ∀ c ∈ ex, H c = none) : Kp [] H H2 := fun c o _ e => b c o (.inl fun z => by rw [h c z] at e; cases e) (a.at0 e)
theorem kpSkip2 {x l : Addr} {H H1 H2 : Hp} (a : Kp [] H H1) (b : Kp [x, l] H1 H2) (hx : H x = none) (hl : H l = none) : Kp [] H H2 := kpSkip a b fun c hc => by
  rcases List.mem_cons.mp hc with e | e
  · rw [e]; exact hx
  · rw [List.mem_singleton.mp e]; exact hl
section
variable {P : Program} {w : World} {K : PySem.W.Frag} {mg : Str → Option Value} {base : Heap}
/-! ### what can be given and called -/
def spFree (K : PySem.W.Frag) : Sp := fun vs H Q _ => ∃ (p : Addr) (n : Str) (rows : RowsL), vs = [.ref p, .str n] ∧ Bd K H p rows ∧ getR rows n ≠ none ∧ ∀ H', Kp [] H H' → Q (.bl true) H'
theorem ok_free (T : Txt K mg) (P_twin : MB P w K mg base 3 "twin" (spTwin K)) (P_room : MB P w K mg base 6 "room" (spRoom K room1)) (P_stock : MB P w K mg base 6 "stock" (spRoom K stock1)) (P_give : MX P w K mg base 6 "give" (spGive K)) (P_call : MX P w K mg base 7 "call" (spCallB K)) : Pr P w K mg base CX0 8 "_law_free_right" (spFree K) := by
  obtain ⟨fd, F⟩ := T.f_law_free_right
  refine Pr.of T.g_law_free_right F.kp (F.ok sc_law_free_right (fun vs H Q E h => ?_) (fun cdv A outer s H vs Q E hr h => ?_)) (F.bindsN fun _ _ _ _ _ _ us hl => match us, hl with | [_, _], _ => rfl)
  · obtain ⟨_, _, _, rfl, _⟩ := h
    rfl
  · obtain ⟨p, n, rows, rfl, hb, hk, q⟩ := h
    refine ⟨_, PSs.nox (pss_cons (ps_par (i := 2) (j := 3) rfl sc_law_free_right.nd rfl rfl (by decide) rfl rfl (pa_cons (pe_methSl0 (E := E0) (pv 0) T.cl_Board T.m_Board_twin P_twin (hr.mono (by decide)) pass0) (pa_cons (pe_methSl (E := E0) (pv 0) T.cl_Board T.m_Board_room P_room (hr.mono (by decide)) pass0 (pa_cons (pv 1) pa_nil)) pa_nil)) (by rfl)) (pss_cons (ps_if (pt_cmpR op_notN (pv 3) pe_non (nomark _)) (pss_cons (ps_set (i := 4) sc_law_free_right.nd rfl (.inl rfl) (pe_lst (pa_cons (pe_methSl (E := E0) (pv 2) T.cl_Board T.m_Board_give P_give (hr.mono (by decide)) passL (pa_cons (pv 1) (pa_cons (pv 3) pa_nil))) (pa_cons (pe_methSl (E := E0) (pv 2) T.cl_Board T.m_Board_room P_room (hr.mono (by decide)) pass0 (pa_cons (pv 1) pa_nil)) (pa_cons (pe_methSl (E := E0) (pv 2) T.cl_Board T.m_Board_give P_give (hr.mono (by decide)) passL (pa_cons (pv 1) (pa_cons pe_int pa_nil))) pa_nil))))) (pss_one (ps_if (pt_cmpR (op_neD hr.units) (pv 4) (pe_lst (pa_cons pe_int (pa_cons pe_int (pa_cons pe_int pa_nil)))) (nomark _)) (pss_one (ps_ret pe_bl)) pss_nil))) pss_nil) (pss_cons (ps_par (i := 2) (j := 3) rfl sc_law_free_right.nd rfl rfl (by decide) rfl rfl (pa_cons (pe_methSl0 (E := E0) (pv 0) T.cl_Board T.m_Board_twin P_twin (hr.mono (by decide)) pass0) (pa_cons (pe_methSl (E := E0) (pv 0) T.cl_Board T.m_Board_stock P_stock (hr.mono (by decide)) pass0 (pa_cons (pv 1) pa_nil)) pa_nil)) (by rfl)) (pss_cons (ps_if (pt_cmpR op_isN (pv 3) pe_non (nomark _)) (pss_one (ps_ret pe_bl)) pss_nil) (pss_cons (ps_set (i := 4) sc_law_free_right.nd rfl (.inl rfl) (pe_lst (pa_cons (pe_methSl (E := E0) (pv 2) T.cl_Board T.m_Board_call P_call (hr.mono (by decide)) passL (pa_cons (pv 1) (pa_cons (pv 3) pa_nil))) (pa_cons (pe_methSl (E := E0) (pv 2) T.cl_Board T.m_Board_stock P_stock (hr.mono (by decide)) pass0 (pa_cons (pv 1) pa_nil)) (pa_cons (pe_methSl (E := E0) (pv 2) T.cl_Board T.m_Board_call P_call (hr.mono (by decide)) passL (pa_cons (pv 1) (pa_cons pe_int pa_nil))) pa_nil))))) (pss_one (ps_ret (pe_cmpR (op_eqD hr.units) (pv 4) (pe_lst (pa_cons pe_int (pa_cons pe_int (pa_cons pe_int pa_nil)))) (nomark _))))))))), ?_⟩
    obtain ⟨dx, l, d, kvs, xs, b, hrows, W, hrl⟩ := id hb
    obtain ⟨a0, ha0⟩ : ∃ a, getR rows n = some a := by
      cases e : getR rows n with
      | none => exact absurd e hk
      | some a => exact ⟨a, rfl⟩
    obtain ⟨ln, hch⟩ := W.ch n a0 ha0
    have G := GF.of W hch
    have nd := rows_nd hrows W.nd
    refine ⟨_, rfl, p, dx, _, rfl, b.slt, p, dx, l, d, kvs, xs, rfl, b, nd, fun x dx' l' d' H1 k1 b1 n1 n2 n3 n4 => ?_⟩
    refine ⟨_, rfl, p, dx, _, rfl, (b.kp0 k1).slt, _, rfl, p, n, rows, ln, rfl, hb.kp k1, hch, fun H2 k2 => ⟨_, _, rfl, ?_⟩⟩
    have k12 := k1.trans k2
    have b2 := b1.kp0 k2
    have r2 := hrows.kp k12
    cases e : sumO ((accs rows ln).map room1) with
    | none =>
      refine ⟨_, rfl, rfl, _, rfl, decNF rfl ?_⟩
      have b4 := b.kp0 k12
      refine ⟨_, rfl, p, dx, _, rfl, b4.slt, p, dx, l, d, kvs, xs, rfl, b4, nd, fun y dy ly dyk H6 k6 b6 m1' m2' m3' m4' => ?_⟩
      have m1 := (k12).none0 m1'
      have m3 := (k12).none0 m3'
      have k06 := (k12).trans k6
      refine ⟨_, rfl, p, dx, _, rfl, (b.kp0 k06).slt, _, rfl, p, n, rows, ln, rfl, hb.kp k06, hch, fun H7 k7 => ⟨_, _, rfl, ?_⟩⟩
      have k07 := k06.trans k7
      have b7 := b6.kp0 k7
      have r7 := hrows.kp k07
      cases e : sumO ((accs rows ln).map stock1) with
      | none => exact ⟨_, rfl, rfl, _, rfl, decT rfl (q _ k07)⟩
      | some t =>
        refine ⟨_, rfl, rfl, _, rfl, decF (fun z => nomatch z) ?_⟩
        refine ⟨_, rfl, y, dy, _, rfl, b7.slt, _, rfl, _, rfl, y, dy, ly, dyk, kvs, [], rows, n, t, rfl, b7, r7, W, hrl, by decide, fun ln' hc' d2 kvs2 H3 k3 b3 r3 => ?_, fun z => absurd z hk⟩
        cases hc'.det hch
        obtain ⟨g1, g2, g3⟩ := stock_law G e
        have w3 := handR_wf ln rows (-t) W
        have l3 : (handR rows ln (-t)).1.length < 50 := by rw [handR_len]; exact hrl
        have bd3 : Bd K H3 y (handR rows ln (-t)).1 := ⟨dy, ly, d2, kvs2, _, b3, r3, w3, l3⟩
        have hch3 := (handR_like ln rows (-t)).ch hch
        refine ⟨_, rfl, y, dy, _, rfl, b3.slt, _, rfl, y, n, _, ln, rfl, bd3, hch3, fun H4 k4 => ?_⟩
        rw [g2]
        refine ⟨_, rfl, y, dy, _, rfl, (b3.kp0 k4).slt, _, rfl, y, dy, ly, d2, kvs2, _, _, n, 1, rfl, b3.kp0 k4, r3.kp k4, w3, l3, Nat.le_of_ble_eq_true rfl, fun ln'' hc'' d3 kvs3 H5 k5 b5 r5 => ?_, fun z => absurd z (ch_here hch3)⟩
        cases hc''.det hch3
        rw [g1, g3]
        have kA := kpSkip2 k07 ((k3.trans k4.all).trans k5) m1 m3
        refine ⟨Nat.le_of_ble_eq_true rfl, fun u hu => ?_⟩
        exact ⟨_, rfl, Nat.le_of_ble_eq_true rfl, fun v hv => eqD_lst (ns := [0, 0, 1]) (.of ((Kp.r0.laid hv).at0 upd_same)) (.of upd_same) (q _ ((kA.laid hu).laid hv))⟩
    | some t =>
      refine ⟨_, rfl, rfl, _, rfl, decNT (fun z => nomatch z) ?_⟩
      refine ⟨_, rfl, x, dx', _, rfl, b2.slt, _, rfl, _, rfl, x, dx', l', d', kvs, [], rows, n, t, rfl, b2, r2, W, hrl, by decide, fun ln' hc' d2 kvs2 H3 k3 b3 r3 => ?_, fun z => absurd z hk⟩
      cases hc'.det hch
      obtain ⟨g1, g2, g3⟩ := room_law G e
      have w3 := handR_wf ln rows (t) W
      have l3 : (handR rows ln (t)).1.length < 50 := by rw [handR_len]; exact hrl
      have bd3 : Bd K H3 x (handR rows ln (t)).1 := ⟨dx', l', d2, kvs2, _, b3, r3, w3, l3⟩
      have hch3 := (handR_like ln rows (t)).ch hch
      refine ⟨_, rfl, x, dx', _, rfl, b3.slt, _, rfl, x, n, _, ln, rfl, bd3, hch3, fun H4 k4 => ?_⟩
      rw [g2]
      refine ⟨_, rfl, x, dx', _, rfl, (b3.kp0 k4).slt, _, rfl, x, dx', l', d2, kvs2, _, _, n, 1, rfl, b3.kp0 k4, r3.kp k4, w3, l3, Nat.le_of_ble_eq_true rfl, fun ln'' hc'' d3 kvs3 H5 k5 b5 r5 => ?_, fun z => absurd z (ch_here hch3)⟩
      cases hc''.det hch3
      rw [g1, g3]
      have kA := kpSkip2 k12 ((k3.trans k4.all).trans k5) n1 n3
      refine ⟨Nat.le_of_ble_eq_true rfl, fun u hu => ?_⟩
      refine ⟨_, rfl, Nat.le_of_ble_eq_true rfl, fun v hv => neD_lst (ns := [0, 0, 1]) (.of ((Kp.r0.laid hv).at0 upd_same)) (.of upd_same) ⟨_, rfl, iteF ?_⟩⟩
      have kB := (kA.laid (o := .lst [.int (absI 0), optV (some 0), .int (absI 1)]) hu).laid (o := .lst [.int 0, .int 0, .int 1]) hv
      clear e
      have b4 := b.kp0 kB
      refine ⟨_, rfl, p, dx, _, rfl, b4.slt, p, dx, l, d, kvs, xs, rfl, b4, nd, fun y dy ly dyk H6 k6 b6 m1' m2' m3' m4' => ?_⟩
      have m1 := (kB).none0 m1'
      have m3 := (kB).none0 m3'
      have k06 := (kB).trans k6
      refine ⟨_, rfl, p, dx, _, rfl, (b.kp0 k06).slt, _, rfl, p, n, rows, ln, rfl, hb.kp k06, hch, fun H7 k7 => ⟨_, _, rfl, ?_⟩⟩
      have k07 := k06.trans k7
      have b7 := b6.kp0 k7
      have r7 := hrows.kp k07
      cases e : sumO ((accs rows ln).map stock1) with
      | none => exact ⟨_, rfl, rfl, _, rfl, decT rfl (q _ k07)⟩
      | some t =>
        refine ⟨_, rfl, rfl, _, rfl, decF (fun z => nomatch z) ?_⟩
        refine ⟨_, rfl, y, dy, _, rfl, b7.slt, _, rfl, _, rfl, y, dy, ly, dyk, kvs, [], rows, n, t, rfl, b7, r7, W, hrl, by decide, fun ln' hc' d2 kvs2 H3 k3 b3 r3 => ?_, fun z => absurd z hk⟩
        cases hc'.det hch
        obtain ⟨g1, g2, g3⟩ := stock_law G e
        have w3 := handR_wf ln rows (-t) W
        have l3 : (handR rows ln (-t)).1.length < 50 := by rw [handR_len]; exact hrl
        have bd3 : Bd K H3 y (handR rows ln (-t)).1 := ⟨dy, ly, d2, kvs2, _, b3, r3, w3, l3⟩
        have hch3 := (handR_like ln rows (-t)).ch hch
        refine ⟨_, rfl, y, dy, _, rfl, b3.slt, _, rfl, y, n, _, ln, rfl, bd3, hch3, fun H4 k4 => ?_⟩
        rw [g2]
        refine ⟨_, rfl, y, dy, _, rfl, (b3.kp0 k4).slt, _, rfl, y, dy, ly, d2, kvs2, _, _, n, 1, rfl, b3.kp0 k4, r3.kp k4, w3, l3, Nat.le_of_ble_eq_true rfl, fun ln'' hc'' d3 kvs3 H5 k5 b5 r5 => ?_, fun z => absurd z (ch_here hch3)⟩
        cases hc''.det hch3
        rw [g1, g3]
        have kA := kpSkip2 k07 ((k3.trans k4.all).trans k5) m1 m3
        refine ⟨Nat.le_of_ble_eq_true rfl, fun u hu => ?_⟩
        exact ⟨_, rfl, Nat.le_of_ble_eq_true rfl, fun v hv => eqD_lst (ns := [0, 0, 1]) (.of ((Kp.r0.laid hv).at0 upd_same)) (.of upd_same) (q _ ((kA.laid hu).laid hv))⟩
end
end K65
set_option Elab.async false
set_option linter.all false
set_option maxRecDepth 100000
set_option maxHeartbeats 4000000
namespace K65
open PySem PySem.Spec PyProof.Rows L2 SlX
/-- f(e, ..), f an expression that gives an instance of C; no context in it -/
def tCallS (C : Addr) (sp : Sp) (E : XK) (tf : TE) (t : TA) : TE := fun σ H Q => tf σ H fun y H1 => ∃ a, y = V.ref a ∧ t σ H1 fun vs H2 => ((∃ dx vs, SlX.Slt H2 a C dx vs) ∨ ∃ dx fs, H2 a = some (.ins C dx fs)) ∧ sp (V.ref a :: vs) H2 Q E
theorem pe_callS {X : Cx} {CX : CXT} {k : Nat} {C g : Addr} {sp : Sp} {E : XK} {fe e : Expr} {es : List Expr} {pos : Pos} {tf : TE} {t : TA} (hf : PE X fe tf) (c : StX.CallO X.K C g) (F : FnR X.prog X.w X.K X.mg X.base CX k g sp) (hr : Room k X.A) (hx : Passes CX X E) (ha : PA X (e :: es) t)
    (ht : eval (.Call fe (e :: es) [] pos) X.env = (do callWith pos (← eval fe X.env) [] (backTo pos (starEach (e :: es) X.env)) (backToKw pos (keywordEach [] X.env))) := by rfl)
    (he : starEach (e :: es) X.env = (false, eval e X.env) :: starEach es X.env := by rfl) (hpl : (backTo pos (starEach es X.env)).any (·.1) = false := by rfl) : PE X (.Call fe (e :: es) [] pos) (tCallS C sp E tf t) :=
  StX.pe_callO hf c F hr hx ha ht he hpl
end K65
set_option Elab.async false
set_option linter.all false
set_option maxRecDepth 100000
set_option maxHeartbeats 4000000
namespace K65
open PySem PySem.Spec PyProof.Rows L2 SlX He
theorem gName_mid {a r : TS} {D : Ends} {i : Nat} {v : V} {σ : L2.St} {H : Hp} {b : VK} {c d : L2.St → Hp → Prop} (h : tSeq a r D (σ.set i (some v)) H) : gName i v σ H (Ends.nx ⟨tSeq a r D, b, c, d⟩) := h
theorem seq_mid {a r : TS} {D : Ends} {σ : L2.St} {H : Hp} (Mid : L2.St → Hp → Prop) (h : ∀ R : L2.St → Hp → Prop, (∀ σ' H', Mid σ' H' → R σ' H') → a { D with nx := R } σ H) (h2 : ∀ σ' H', Mid σ' H' → r D σ' H') : tSeq a r D σ H := h (r D) h2
theorem fore_at {rows : RowsL} {ln : List Str} (G : GF rows ln) (r : Int) (j : Nat) (hj : j < ln.length) : ((accs (gifts rows ln [r]) ln).map fun a => V.int a.lv)[j]? = some (.int (lvJ (accs rows ln) j r)) := by
  have h := fore_lv G r j hj
  rw [List.getElem?_map] at h ⊢
  cases e : (accs (gifts rows ln [r]) ln)[j]? with
  | none => rw [e] at h; cases h
  | some a =>
    rw [e] at h
    exact congrArg (fun z => some (V.int z)) (Option.some.inj h)
theorem ints_any : ∀ {ys : List V}, (∀ (i : Nat) (y : V), ys[i]? = some y → ∃ r : Int, y = .int r) → ∃ ns : List Int, ys = ns.map V.int
  | [], _ => ⟨[], rfl⟩
  | y :: ys, h => by
    obtain ⟨r, rfl⟩ := h 0 y rfl
    obtain ⟨ns, e⟩ := ints_any (ys := ys) fun i y hy => h (i + 1) y hy
    exact ⟨r :: ns, by rw [e]; rfl⟩
theorem kpSkipE {ex ex' : List Addr} {H H1 H2 : Hp} (a : Kp ex H H1) (b : Kp ex' H1 H2) (h : ∀ c ∈ ex', H c = none) : Kp ex H H2 := fun c o n e => b c o (.inl fun z => by rw [h c z] at e; cases e) (a c o n e)
/-- the dicts behind: each in its place, back to the first -/
inductive Past (H : Hp) (kb : List (Key × V)) : List V → List (Key × V) → Prop
  | nil : Past H kb [] kb
  | snoc {xs : List V} {kv kv0 : List (Key × V)} {d0 : Addr} (h : Past H kb xs kv0) (hd : H d0 = some (.dK kv0)) : Past H kb (xs ++ [.ref d0]) kv
theorem Past.kp {H H' : Hp} {ex : List Addr} {kb : List (Key × V)} {xs : List V} {kv : List (Key × V)} (h : Past H kb xs kv) (k : Kp ex H H') (hex : ∀ (c : Addr) (kv0 : List (Key × V)), c ∈ ex → H c ≠ some (.dK kv0)) : Past H' kb xs kv := by
  induction h with
  | nil => exact .nil
  | snoc h hd ih => exact .snoc ih (k _ _ (.inl fun z => hex _ _ z hd) hd)
theorem fl_of {y : Wy} (h : WOk y) (z : y.sh = none) : y.fl ≠ none := fun e => by
  have := h.fx.mp z
  rw [e] at this
  cases this
theorem Past.nil_of {H : Hp} {kb kv : List (Key × V)} (h : Past H kb [] kv) : kb = kv := by
  generalize hz : ([] : List V) = zs at h
  cases h with
  | nil => rfl
  | snoc _ _ => exact absurd (congrArg List.length hz) (by simp)
section
variable {P : Program} {w : World} {K : PySem.W.Frag} {mg : Str → Option Value} {base : Heap}
/-! ### what is told of one account -/
def spAcct (K : PySem.W.Frag) : Sp := fun vs H Q _ => ∃ (bx p dx l d : Addr) (n : Str) (kvs : List (Key × V)) (xs : List V) (rows : RowsL) (m : Nat), vs = [.ref bx, .ref p, .str n] ∧ BoxAt H bx (m + 6) ∧ BX K H p dx l d kvs xs ∧ l ≠ bx ∧ RowsAt K H kvs rows ∧ WF rows ∧ rows.length < 50 ∧ getR rows n ≠ none ∧
  ∀ H', Kp [bx] H H' → BoxAt H' bx m → Q (.bl true) H'
theorem ok_acct (T : Txt K mg) (P_chain : MX P w K mg base 5 "chain" (spChain K)) (P_law_take : Pr P w K mg base CX0 1 "_law_take" spTake) (P_twin : MB P w K mg base 3 "twin" (spTwin K)) (P_least_gift : MB P w K mg base 7 "least_gift" (spLeast K leastG)) (P_least_call : MB P w K mg base 7 "least_call" (spLeast K leastC)) (P_foresee : MB P w K mg base 6 "foresee" (spForesee K)) (P_give : MX P w K mg base 6 "give" (spGive K)) (P_call : MX P w K mg base 7 "call" (spCallB K)) (P_ways : MB P w K mg base 6 "ways" (spWays K)) (P_law_sums : Pr P w K mg base CX0 6 "_law_sums" (spSums K)) (P_way_call : FnR P w K mg base CX0 2 (ma K (ga K "Way") "__call__") (spWayCall K)) (P_law_same : Pr P w K mg base CX0 3 "_law_same" (spSame2 K)) (P_getitem : MB P w K mg base 4 "__getitem__" (spGet K)) (P_back : MB P w K mg base 1 "back" (spBack K)) (P_eq : MB P w K mg base 1 "__eq__" (spEqB K)) : Pr P w K mg base CX0 9 "_law_account_right" (spAcct K) := by
  obtain ⟨fd, F⟩ := T.f_law_account_right
  refine Pr.of T.g_law_account_right F.kp (F.ok sc_law_account_right (fun vs H Q E h => ?_) (fun cdv A outer s H vs Q E hr h => ?_)) (F.bindsN fun _ _ _ _ _ _ us hl => match us, hl with | [_, _, _], _ => rfl)
  · obtain ⟨_, _, _, _, _, _, _, _, _, _, rfl, _⟩ := h
    rfl
  · obtain ⟨bx, p, dx, l, d, n, kvs, xs, rows, m, rfl, hB, b, hlb, hrows, W, hrl, hk, q⟩ := h
    refine ⟨_, PSs.nox (pss_cons (ps_par (i := 3) (j := 4) rfl sc_law_account_right.nd rfl rfl (by decide) rfl rfl (pa_cons (pe_methSl (E := E0) (pv 1) T.cl_Board T.m_Board_chain P_chain (hr.mono (by decide)) passL (pa_cons (pv 2) pa_nil)) (pa_cons (pe_op op_sub (pe_g P_law_take (hr.mono (by decide)) pass0 (pa_cons (pv 0) (pa_cons pe_int pa_nil))) pe_int) pa_nil)) (by rfl)) (pss_cons (ps_asg (pe_tup (pa_cons (pe_methSl0 (E := E0) (pv 1) T.cl_Board T.m_Board_twin P_twin (hr.mono (by decide)) pass0) (pa_cons (pe_g P_law_take (hr.mono (by decide)) pass0 (pa_cons (pv 0) (pa_cons (pe_callB call_len_seq (by rfl) T.z_len PySem.boot_len (pa_cons (pv 3) pa_nil)) pa_nil))) pa_nil))) (pg_tup rfl (pgs_cons (pg_name (i := 5) sc_law_account_right.nd rfl (Or.inr rfl)) (pgs_cons (pg_name (i := 6) sc_law_account_right.nd rfl (Or.inr rfl)) pgs_nil)))) (pss_cons (ps_set (i := 7) sc_law_account_right.nd rfl (.inr rfl) (pe_methSl (E := E0) (pv 1) T.cl_Board T.m_Board_least_gift P_least_gift (hr.mono (by decide)) pass0 (pa_cons (pv 2) (pa_cons (pe_ix ix_tup (pv 3) (pv 6) (fun _ _ => rfl)) (pa_cons (pv 4) pa_nil))))) (pss_cons (ps_if (pt_cmpR op_notN (pv 7) pe_non (nomark _)) (pss_cons (ps_setLc (i := 8) (own := [("_law_k", 13)]) (g := gName 13) (te := (tOp (rIxT K) (SlX.tMethSl _ _ _ (tVar 1) (tCons (tVar 2) (tCons (tTup (tCons (tCB _ (tCons (tC (.int 0)) (tCons (tOp (rI0 fun i j => .int (i - j)) (tVar 7) (tVar 13)) tNil))) tNil)) tNil))) (tVar 6))) rfl sc_law_account_right.nd rfl rfl (sw_true rfl rfl rfl (by decide +kernel)) (pi_range1 rfl T.z_range (pa_cons pe_int pa_nil)) (blkOk_by (own := [("_law_k", 13)]) (N := ["_law_box_here", "_law_board", "_law_own", "_law_line_so", "_law_goal_so", "_law_copy", "_law_spot", "_law_far", "_law_told", "_law_numbers_so", "_law_ways_so", "_law_starts_so", "_law_got", "_law_k", "_law_turn"]) (sc := defScope s_law_account_right) (by decide +kernel)) (fun _ _ _ _ _ => (pg_name (i := 13) sc_law_account_right.nd rfl (Or.inl rfl))) (fun _ _ _ _ _ => pts_nil) (fun _ _ _ _ _ => (pe_ix ix_tup (pe_methSl (E := E0) (pv 1) T.cl_Board T.m_Board_foresee P_foresee (hr.mono (by decide)) pass0 (pa_cons (pv 2) (pa_cons (pe_tup (pa_cons (pe_callB (call_max2 rfl) (by rfl) T.z_max boot_max (pa_cons pe_int (pa_cons (pe_op op_sub (pv 7) (pv 13)) pa_nil))) pa_nil)) pa_nil))) (pv 6) (fun _ _ => rfl)))) (pss_one (ps_if (PW.pt (pw_or (pt_cmpR op_lt (pe_ix ix_list (pv 8) pe_int (fun _ _ => rfl)) (pv 4) (nomark _)) (pw_or1 (PW.pt (pw_and (pt_cmpR op_gt (pv 7) pe_int (nomark _)) (pw_and1 (pt_cmpR op_ge (pe_ix ix_list (pv 8) pe_int (fun _ _ => rfl)) (pv 4) (nomark _)))))))) (pss_one (ps_ret pe_bl)) pss_nil))) pss_nil) (pss_cons (ps_set (i := 7) sc_law_account_right.nd rfl (.inr rfl) (pe_methSl (E := E0) (pv 1) T.cl_Board T.m_Board_least_call P_least_call (hr.mono (by decide)) pass0 (pa_cons (pv 2) (pa_cons (pe_ix ix_tup (pv 3) (pv 6) (fun _ _ => rfl)) (pa_cons (pv 4) pa_nil))))) (pss_cons (ps_if (PW.pt (pw_and (pt_cmpR op_notN (pv 7) pe_non (nomark _)) (pw_and1 (pt_cmpR op_gt (pv 7) pe_int (nomark _))))) (pss_cons (ps_setLc (i := 8) (own := [("_law_k", 13)]) (g := gName 13) (te := (tOp (rIxT K) (SlX.tMethSl _ _ _ (tVar 1) (tCons (tVar 2) (tCons (tTup (tCons (tOp (rI0 fun i j => .int (i - j)) (tVar 13) (tVar 7)) tNil)) tNil))) (tVar 6))) rfl sc_law_account_right.nd rfl rfl (sw_true rfl rfl rfl (by decide +kernel)) (pi_range1 rfl T.z_range (pa_cons pe_int pa_nil)) (blkOk_by (own := [("_law_k", 13)]) (N := ["_law_box_here", "_law_board", "_law_own", "_law_line_so", "_law_goal_so", "_law_copy", "_law_spot", "_law_far", "_law_told", "_law_numbers_so", "_law_ways_so", "_law_starts_so", "_law_got", "_law_k", "_law_turn"]) (sc := defScope s_law_account_right) (by decide +kernel)) (fun _ _ _ _ _ => (pg_name (i := 13) sc_law_account_right.nd rfl (Or.inl rfl))) (fun _ _ _ _ _ => pts_nil) (fun _ _ _ _ _ => (pe_ix ix_tup (pe_methSl (E := E0) (pv 1) T.cl_Board T.m_Board_foresee P_foresee (hr.mono (by decide)) pass0 (pa_cons (pv 2) (pa_cons (pe_tup (pa_cons (pe_op op_sub (pv 13) (pv 7)) pa_nil)) pa_nil))) (pv 6) (fun _ _ => rfl)))) (pss_one (ps_if (pt_not (pt_chain op_le op_lt (pe_ix ix_list (pv 8) pe_int (fun _ _ => rfl)) (pv 4) (pe_ix ix_list (pv 8) pe_int (fun _ _ => rfl)))) (pss_one (ps_ret pe_bl)) pss_nil))) pss_nil) (pss_cons (ps_setLc (i := 9) (own := [("_law_turn", 14)]) (g := gName 14) rfl sc_law_account_right.nd rfl rfl (sw_true rfl rfl rfl (by decide +kernel)) (pi_range1 rfl T.z_range (pa_cons pe_int pa_nil)) (blkOk_by (own := [("_law_turn", 14)]) (N := ["_law_box_here", "_law_board", "_law_own", "_law_line_so", "_law_goal_so", "_law_copy", "_law_spot", "_law_far", "_law_told", "_law_numbers_so", "_law_ways_so", "_law_starts_so", "_law_got", "_law_k", "_law_turn"]) (sc := defScope s_law_account_right) (by decide +kernel)) (fun _ _ _ _ _ => (pg_name (i := 14) sc_law_account_right.nd rfl (Or.inl rfl))) (fun _ _ _ _ _ => pts_nil) (fun _ _ _ _ _ => (pe_op op_sub (pe_g P_law_take (hr.mono (by decide)) pass0 (pa_cons (pv 0) (pa_cons pe_int pa_nil))) pe_int))) (pss_cons (ps_for PassesOwn.never rfl (pi_list (pv 9)) (pg_name (i := 7) sc_law_account_right.nd rfl (Or.inr rfl)) (pss_one (ps_set (i := 8) sc_law_account_right.nd rfl (.inl rfl) (pe_ifExp (pt_cmpR op_ge (pv 7) pe_int (nomark _)) (pe_methSl (E := E0) (pv 5) T.cl_Board T.m_Board_give P_give (hr.mono (by decide)) passL (pa_cons (pv 2) (pa_cons (pv 7) pa_nil))) (pe_methSl (E := E0) (pv 5) T.cl_Board T.m_Board_call P_call (hr.mono (by decide)) passL (pa_cons (pv 2) (pa_cons (pe_op op_sub pe_int (pv 7)) pa_nil))))))) (pss_cons (ps_asg (pe_tup (pa_cons (pe_methSl (E := E0) (pv 1) T.cl_Board T.m_Board_ways P_ways (hr.mono (by decide)) pass0 (pa_cons (pv 2) (pa_cons (pv 9) pa_nil))) (pa_cons (pe_g P_law_sums (hr.mono (by decide)) pass0 (pa_cons (pv 1) (pa_cons (pv 3) pa_nil))) pa_nil))) (pg_tup rfl (pgs_cons (pg_name (i := 10) sc_law_account_right.nd rfl (Or.inr rfl)) (pgs_cons (pg_name (i := 11) sc_law_account_right.nd rfl (Or.inr rfl)) pgs_nil)))) (pss_cons (ps_setLc (i := 12) (own := [("_law_k", 13)]) (g := gName 13) (te := (tCallS _ _ _ (tOp (rIxT K) (tVar 10) (tVar 13)) (tCons (tOp (rIxL K) (tVar 11) (tVar 13)) tNil))) rfl sc_law_account_right.nd rfl rfl (sw_true rfl rfl rfl (by decide +kernel)) (pi_range1 rfl T.z_range (pa_cons (pe_callB call_len_seq (by rfl) T.z_len PySem.boot_len (pa_cons (pv 3) pa_nil)) pa_nil)) (blkOk_by (own := [("_law_k", 13)]) (N := ["_law_box_here", "_law_board", "_law_own", "_law_line_so", "_law_goal_so", "_law_copy", "_law_spot", "_law_far", "_law_told", "_law_numbers_so", "_law_ways_so", "_law_starts_so", "_law_got", "_law_k", "_law_turn"]) (sc := defScope s_law_account_right) (by decide +kernel)) (fun _ _ _ _ _ => (pg_name (i := 13) sc_law_account_right.nd rfl (Or.inl rfl))) (fun _ _ _ _ _ => pts_nil) (fun _ _ _ _ _ => (pe_callS (pe_ix ix_tup (pv 10) (pv 13) (fun _ _ => rfl)) ⟨T.d_Way_call, T.n_Way_call, T.i_Way_call⟩ P_way_call (hr.mono (by decide)) pass0 (pa_cons (pe_ix ix_list (pv 11) (pv 13) (fun _ _ => rfl)) pa_nil)))) (pss_cons (ps_if (pt_not (pt_val (pe_g P_law_same (hr.mono (by decide)) pass0 (pa_cons (pv 12) (pa_cons (pe_g P_law_sums (hr.mono (by decide)) pass0 (pa_cons (pv 5) (pa_cons (pv 3) pa_nil))) pa_nil))))) (pss_one (ps_ret pe_bl)) pss_nil) (pss_cons (ps_if (pt_cmpR (op_neD hr.units) (pe_methSl (E := E0) (pv 1) T.cl_Board T.m_Board_foresee P_foresee (hr.mono (by decide)) pass0 (pa_cons (pv 2) (pa_cons (pv 9) pa_nil))) (pe_callTy call_tuple_of (by rfl) T.z_tuple (by decide +kernel) (pa_cons (pe_lc (own := [("_law_far", 7)]) (g := gName 7) (te := (tSubOwn _ _ _ (tVar 5) (tVar 7))) rfl sc_law_account_right.nd (pi_tup (pv 3)) (blkOk_by (own := [("_law_far", 7)]) (N := ["_law_box_here", "_law_board", "_law_own", "_law_line_so", "_law_goal_so", "_law_copy", "_law_spot", "_law_far", "_law_told", "_law_numbers_so", "_law_ways_so", "_law_starts_so", "_law_got", "_law_k", "_law_turn"]) (sc := defScope s_law_account_right) (by decide +kernel)) (fun _ _ _ _ _ => (pg_name (i := 7) sc_law_account_right.nd rfl (Or.inl rfl))) (fun _ _ _ _ _ => pts_nil) (fun _ _ _ _ _ => (pe_subOwn (E := E0) T.d_Board_getitem T.i_Board_getitem T.n_Board_getitem P_getitem (hr.mono (by decide)) pass0 (pv 5) (pv 7)))) pa_nil)) (nomark _)) (pss_one (ps_ret pe_bl)) pss_nil) (pss_one (ps_ret (pe_and (pe_cmpR (op_eqV hr.units) (pe_lc (own := [("_law_far", 7)]) (g := gName 7) rfl sc_law_account_right.nd (pi_list (pv 9)) (blkOk_by (own := [("_law_far", 7)]) (N := ["_law_box_here", "_law_board", "_law_own", "_law_line_so", "_law_goal_so", "_law_copy", "_law_spot", "_law_far", "_law_told", "_law_numbers_so", "_law_ways_so", "_law_starts_so", "_law_got", "_law_k", "_law_turn"]) (sc := defScope s_law_account_right) (by decide +kernel)) (fun _ _ _ _ _ => (pg_name (i := 7) sc_law_account_right.nd rfl (Or.inl rfl))) (fun _ _ _ _ _ => pts_nil) (fun _ _ _ _ _ => (pe_methSl0 (E := E0) (pv 5) T.cl_Board T.m_Board_back P_back (hr.mono (by decide)) pass0))) (pe_op op_rep (pe_lst (pa_cons pe_non pa_nil)) pe_int) (nomark _)) (pe_one (pe_cmpR (op_own (op := .Eq) (fun _ _ => rfl) T.d_Board_eq T.n_Board_eq P_eq (hr.mono (by decide)) pass0) (pv 5) (pv 1) (nomark _)))))))))))))))))), ?_⟩
    obtain ⟨a0, ha0⟩ : ∃ a, getR rows n = some a := by
      cases e : getR rows n with
      | none => exact absurd e hk
      | some a => exact ⟨a, rfl⟩
    obtain ⟨ln, hch⟩ := W.ch n a0 ha0
    have G := GF.of W hch
    have hll := ch_len hch
    have nd := rows_nd hrows W.nd
    have hlp : 0 < ln.length := by obtain ⟨tl, e⟩ := hch.head; rw [e]; exact Nat.succ_pos _
    have nbx : ∀ {y : Addr} {o : HO}, H y = some o → (∀ zs, o ≠ .lst zs) → y ∉ [bx] := fun h1 h2 z => by
      obtain ⟨c1, c2, c3, c4, _⟩ := hB
      rw [List.mem_singleton.mp z, c4] at h1
      exact h2 _ (Option.some.inj h1).symm
    have bK : ∀ {H' : Hp}, Kp [bx] H H' → BX K H' p dx l d kvs xs := fun k => b.kp k (nbx b.hp fun zs => slO_lst) (nbx b.hx fun zs z => nomatch z) (by simpa using hlb) (nbx b.hd fun zs z => nomatch z)
    have bdK : ∀ {H' : Hp}, Kp [bx] H H' → Bd K H' p rows := fun k => ⟨dx, l, d, kvs, xs, bK k, hrows.kp k, W, hrl⟩
    refine ⟨_, rfl, p, dx, _, rfl, b.slt, _, rfl, p, n, rows, rfl, bdK Kp.rfl', fun ln' t H1 hc k1 ht => ?_, fun z => absurd z hk⟩
    cases hc.det hch
    refine ⟨_, rfl, bx, m + 5, 20, rfl, hB.kp k1, by decide, by decide, fun r0 H2 hr0 k2 hB2 => ⟨_, _, rfl, rfl, _, _, rfl, ?_⟩⟩
    have k02 : Kp [bx] H H2 := k1.all.trans k2
    have ht2 := ht.kp k2
    refine ⟨_, rfl, p, dx, _, rfl, (bK k02).slt, p, dx, l, d, kvs, xs, rfl, bK k02, nd, fun x dx' l' d' H3 k3 b3 n1 n2 n3 n4 => ⟨_, rfl, _, rfl, t, _, rfl, .inr (ht2.kp k3).sq, bx, m + 4, ln.length, ?_, hB2.kp k3, hlp, by omega, fun j H4 hj k4 hB4 => ⟨Nat.le_of_ble_eq_true rfl, fun u hu => ⟨u, _, rfl, .of upd_same, rfl, _, _, rfl, _, _, rfl, rfl, ?_⟩⟩⟩⟩
    · rw [List.length_map]
    have k04 : Kp [bx] H (upd H4 u (.tup [.ref x, .int (j : Nat)])) := ((k02.trans k3.all).trans k4).laid hu
    have nf : ∀ {y : Addr}, H2 y = none → y ∉ [bx] := fun h1 z => by
      rw [List.mem_singleton.mp z] at h1
      exact hB2.nn h1
    have b5 : BX K (upd H4 u (.tup [.ref x, .int (j : Nat)])) x dx' l' d' kvs [] := b3.kp (ex := [bx]) (k4.laid hu) (nf n1) (nf n2) (nf n3) (nf n4)
    have hB5 : BoxAt (upd H4 u (.tup [.ref x, .int (j : Nat)])) bx (m + 4) := hB4.laid hu
    have ht5 : ChT (upd H4 u (.tup [.ref x, .int (j : Nat)])) t ln := ht2.kp ((k3.all.trans k4).laid hu)
    show tSeq _ _ _ _ (upd H4 u (.tup [.ref x, .int (j : Nat)]))
    generalize (upd H4 u (.tup [.ref x, .int (j : Nat)])) = H5 at k04 b5 hB5 ht5
    have hjn : ln[j]? = some ln[j] := List.getElem?_eq_getElem hj
    generalize ln[j] = nm at hjn
    obtain ⟨aj, haj⟩ := hch.mem nm (List.mem_of_getElem? hjn)
    have hac : (accs rows ln)[j]? = some aj := accs_at hjn haj
    have hat : atI (ln.map V.str) (j : Nat) = some (.str nm) := atI_nat (by rw [List.getElem?_map, hjn]; rfl)
    -- the least gift
    refine ⟨_, rfl, p, dx, _, rfl, (bK k04).slt, _, rfl, _, rfl, _, rfl, _, _, _, _, rfl, rfl, ht5.sq, hat, _, rfl, p, n, nm, (r0 : Int) - 6, rows, ln, j, aj, rfl, bdK k04, hch, hjn, haj, fun H6 k6 => ?_⟩
    have k06 := k04.trans k6.all
    have ht6 := ht5.kp k6
    have b6 := b5.kp0 k6
    have hB6 := hB5.kp k6
    refine gName_mid (seq_mid (fun σ' H' => Kp [] H6 H' ∧ ∃ o7 o8, σ' = [some (.ref bx), some (.ref p), some (.str n), some (.ref t), some (.int ((r0 : Int) - 6)), some (.ref x), some (.int (j : Nat)), o7, o8, none, none, none, none, none, none]) (fun R hR => ?_) ?_)
    · cases e : leastG (accs rows (ln.take j)) aj ((r0 : Int) - 6) with
      | none => exact ⟨_, rfl, rfl, _, rfl, decNF rfl (hR _ _ ⟨Kp.r0, _, _, rfl⟩)⟩
      | some g =>
        refine ⟨_, rfl, rfl, _, rfl, decNT (fun z => nomatch z) ?_⟩
        rw [accs_take] at e
        obtain ⟨e0, e1, e2⟩ := leastG_law G.inr hac e
        refine ⟨2, rfl, by decide, by decide, ?_⟩
        refine lc_pure (walk_range (lo := 0) (n := 2)) (fun i y _ => y = .int (lvJ (accs rows ln) j (if g - (i : Int) > 0 then g - (i : Int) else 0))) (Nat.le_of_ble_eq_true rfl) tts_true (fun _ _ => trivial) (fun _ _ _ _ _ _ z => z) (gName_mono 13) ?_ ?_
        · rintro i x1 H7 H8 hi k7 ⟨rfl, hx⟩
          have hx' : x1 = .int (i : Nat) := hx.trans (congrArg V.int (by omega))
          subst hx'
          clear hx
          have k08 := k06.trans k7.all
          refine ⟨rfl, fun R2 hR2 => ⟨_, rfl, p, dx, _, rfl, (bK k08).slt, _, rfl, _, rfl, _, rfl, _, _, rfl, rfl, _, _, rfl, Nat.le_of_ble_eq_true rfl, fun u hu => ?_⟩⟩
          have ku : Kp [] H8 (upd H8 u (.tup [.int (if g - (i : Int) > 0 then g - (i : Int) else 0)])) := Kp.r0.laid hu
          refine ⟨p, u, n, rows, ln, [if g - (i : Int) > 0 then g - (i : Int) else 0], rfl, (bdK k08).kp ku, hch, .inl (.of upd_same), fun tt H9 k9 ht9 => ⟨_, rfl, _, _, _, _, rfl, rfl, ht9, atI_nat (fore_at G _ j hj), hR2 _ H9 (ku.trans k9) rfl⟩⟩
        intro D H7 ys k7 hD hys hyl hz
        match ys, hyl with
        | [y0, y1], _ =>
        have z0 := hz 0 y0 rfl
        have z1 := hz 1 y1 rfl
        subst z0 z1
        have m0 : (if g - ((0 : Nat) : Int) > 0 then g - ((0 : Nat) : Int) else 0) = g := by split <;> omega
        rw [m0] at hys
        refine ⟨_, rfl, _, _, _, _, rfl, rfl, .of hys, rfl, _, rfl, _, _, rfl, rfl, _, rfl, decF (Int.not_lt.mpr e1) ?_⟩
        refine ⟨_, rfl, _, _, rfl, rfl, _, rfl, dec2 (fun hp => ?_) (fun hn => ?_)⟩
        · have m1 : (if g - ((1 : Nat) : Int) > 0 then g - ((1 : Nat) : Int) else 0) = g - 1 := by split <;> omega
          rw [m1] at hys
          exact ⟨_, rfl, _, _, _, _, rfl, rfl, .of hys, rfl, _, rfl, _, _, rfl, rfl, _, rfl, decF (Int.not_le.mpr (e2 hp)) (hR _ _ ⟨k7, _, _, rfl⟩)⟩
        · exact hR _ _ ⟨k7, _, _, rfl⟩
    rintro σ7 H7 ⟨k67, o7, o8, rfl⟩
    clear hB5 b5 ht5
    have k07 := k06.trans k67.all
    have ht7 := ht6.kp k67
    have b7 := b6.kp0 k67
    have hB7 := hB6.kp k67
    -- the least call
    refine ⟨_, rfl, p, dx, _, rfl, (bK k07).slt, _, rfl, _, rfl, _, rfl, _, _, _, _, rfl, rfl, ht7.sq, hat, _, rfl, p, n, nm, (r0 : Int) - 6, rows, ln, j, aj, rfl, bdK k07, hch, hjn, haj, fun H8 k8 => ?_⟩
    have k08 := k07.trans k8.all
    have ht8 := ht7.kp k8
    have b8 := b7.kp0 k8
    have hB8 := hB7.kp k8
    refine gName_mid (seq_mid (fun σ' H' => Kp [] H8 H' ∧ ∃ o7 o8, σ' = [some (.ref bx), some (.ref p), some (.str n), some (.ref t), some (.int ((r0 : Int) - 6)), some (.ref x), some (.int (j : Nat)), o7, o8, none, none, none, none, none, none]) (fun R hR => ?_) ?_)
    · cases e : leastC (accs rows (ln.take j)) aj ((r0 : Int) - 6) with
      | none => exact ⟨_, rfl, rfl, _, rfl, decNF rfl (hR _ _ ⟨Kp.r0, _, _, rfl⟩)⟩
      | some g =>
        refine ⟨_, rfl, rfl, _, rfl, decNT (fun z => nomatch z) ?_⟩
        refine ⟨_, rfl, _, _, rfl, rfl, _, rfl, dec2 (fun hp => ?_) (fun hn => ?_)⟩
        · rw [accs_take] at e
          obtain ⟨e1, e2⟩ := leastC_law G.inr hac e hp
          refine ⟨2, rfl, by decide, by decide, ?_⟩
          refine lc_pure (walk_range (lo := 0) (n := 2)) (fun i y _ => y = .int (lvJ (accs rows ln) j ((i : Int) - g))) (Nat.le_of_ble_eq_true rfl) tts_true (fun _ _ => trivial) (fun _ _ _ _ _ _ z => z) (gName_mono 13) ?_ ?_
          · rintro i x1 H9 H10 hi k9 ⟨rfl, hx⟩
            have hx' : x1 = .int (i : Nat) := hx.trans (congrArg V.int (by omega))
            subst hx'
            clear hx
            have k010 := k08.trans k9.all
            refine ⟨rfl, fun R2 hR2 => ⟨_, rfl, p, dx, _, rfl, (bK k010).slt, _, rfl, _, rfl, _, rfl, _, _, rfl, rfl, Nat.le_of_ble_eq_true rfl, fun u hu => ?_⟩⟩
            have ku : Kp [] H10 (upd H10 u (.tup [.int ((i : Int) - g)])) := Kp.r0.laid hu
            refine ⟨p, u, n, rows, ln, [(i : Int) - g], rfl, (bdK k010).kp ku, hch, .inl (.of upd_same), fun tt H11 k11 ht11 => ⟨_, rfl, _, _, _, _, rfl, rfl, ht11, atI_nat (fore_at G _ j hj), hR2 _ H11 (ku.trans k11) rfl⟩⟩
          intro D H9 ys k9 hD hys hyl hz
          match ys, hyl with
          | [y0, y1], _ =>
          have z0 := hz 0 y0 rfl
          have z1 := hz 1 y1 rfl
          have m0 : ((0 : Nat) : Int) - g = -g := by omega
          have m1 : ((1 : Nat) : Int) - g = 1 - g := rfl
          rw [m0] at z0
          rw [m1] at z1
          subst z0 z1
          exact ⟨_, rfl, _, _, _, _, rfl, rfl, .of hys, rfl, _, rfl, _, _, rfl, rfl, _, rfl, decT e1 ⟨_, rfl, _, _, _, _, rfl, rfl, .of hys, rfl, _, _, rfl, rfl, _, rfl, decNF e2 (hR _ _ ⟨k9, _, _, rfl⟩)⟩⟩
        · exact hR _ _ ⟨Kp.r0, _, _, rfl⟩
    rintro σ9 H9 ⟨k89, o7, o8, rfl⟩
    clear hB7 hB6 b6 b7 ht6 ht7
    have k09 := k08.trans k89.all
    have ht9 := ht8.kp k89
    have b9 := b8.kp0 k89
    have hB9 := hB8.kp k89
    clear k3 b3 hB4 k4 k6 k67 k8 k89 hB8 b8 ht8 k06 k07 k08 hu k04
    have hxn : H x = none := k02.none n1 (nf n1)
    have hln : H l' = none := k02.none n3 (nf n3)
    -- the numbers
    refine ⟨4, rfl, by decide, by decide, ?_⟩
    refine lc_gen (walk_range (lo := 0) (n := 4)) [bx] (fun i H' => BoxAt H' bx (m + (4 - i))) (fun i y _ => ∃ r : Int, y = .int r) (Nat.le_of_ble_eq_true rfl) tts_true (fun c hc => by rw [List.mem_singleton.mp hc]; exact hB9.nn) hB9 (fun i D H' o hD h => ?_) (fun _ _ _ _ _ => trivial) (fun _ _ _ _ _ _ _ z => z) ?_ (gName_mono 14) ?_
    · obtain ⟨z1, z2, z3, z0, zr⟩ := h
      exact ⟨z1, z2, z3, by rw [upd_ne (fun z : bx = D => hB9.nn (z ▸ hD))]; exact z0, zr⟩
    · rintro i x1 H10 H11 hi k hI ⟨rfl, rfl⟩
      exact ⟨rfl, fun R hR => ⟨_, rfl, bx, m + (4 - (i + 1)), 19, rfl, by
        have e : m + (4 - (i + 1)) + 1 = m + (4 - i) := by omega
        rw [e]; exact hI, by decide, by decide, fun r H11 hr k' hB' => ⟨_, _, rfl, rfl, hR _ H11 k' hB' ⟨_, rfl⟩⟩⟩⟩
    intro D H10 ys k910 hDn hD hB10 hyl hz
    obtain ⟨ns, rfl⟩ := ints_any hz
    rw [List.length_map] at hyl
    have k010 := k09.trans k910
    have ht10 := ht9.kp k910
    have b10 := b9.kp k910 (nf n1) (nf n2) (nf n3) (nf n4)
    have hB10 : BoxAt H10 bx m := hB10
    have hDx : D ∉ [x, l'] := fun z => by
      rcases List.mem_cons.mp z with e | e
      · rw [e, b9.hp] at hDn; cases hDn
      · rw [List.mem_singleton.mp e, b9.hl] at hDn; cases hDn
    have hpx : ∀ {y : Addr} {o : HO}, H y = some o → y ∉ [x, l'] := fun h1 z => by
      rcases List.mem_cons.mp z with e | e
      · rw [e, hxn] at h1; cases h1
      · rw [List.mem_singleton.mp e, hln] at h1; cases h1
    have bKx : ∀ {H' : Hp}, Kp [x, l'] H10 H' → BX K H' p dx l d kvs xs := fun k => (bK k010).kp k (hpx b.hp) (hpx b.hx) (hpx b.hl) (hpx b.hd)
    have bdKx : ∀ {H' : Hp}, Kp [x, l'] H10 H' → Bd K H' p rows := fun k => ⟨dx, l, d, kvs, xs, bKx k, (hrows.kp k010).kp k, W, hrl⟩
    have hBx : ∀ {H' : Hp}, Kp [x, l'] H10 H' → BoxAt H' bx m := fun k => hB10.kp1 k (fun z => by
      rcases List.mem_cons.mp z with e | e
      · exact nf n1 (e ▸ List.mem_singleton.mpr rfl)
      · exact nf n3 (List.mem_singleton.mp e ▸ List.mem_singleton.mpr rfl))
    have hDk : ∀ {H' : Hp}, Kp [x, l'] H10 H' → SqL K H' D (ns.map V.int) := fun k => .of (k.at1 hD hDx)
    clear b9 hB9 ht9 k910 hDn hz
    -- the gifts, on the copy
    refine ⟨_, rfl, D, rfl, ⟨_, .of hD⟩, for_it (walk_list (xs := ns.map V.int)) (fun i σ H' => Kp [x, l'] H10 H' ∧ (∃ d2 kvs2 xs2, BX K H' x dx' l' d2 kvs2 xs2 ∧ RowsAt K H' kvs2 (gifts rows ln (ns.take i)) ∧ xs2.length = i ∧ Past H' kvs xs2 kvs2) ∧ ∃ o7 o8, σ = [some (.ref bx), some (.ref p), some (.str n), some (.ref t), some (.int ((r0 : Int) - 6)), some (.ref x), some (.int (j : Nat)), o7, o8, some (.ref D), none, none, none, none, none]) ⟨Kp.rfl', ⟨d', kvs, [], b10, hrows.kp k010, rfl, .nil⟩, _, _, rfl⟩ (fun i σ H' _ z => hDk z.1) ?_ ?_⟩
    · rintro i x1 σ H11 H12 hi ⟨kA, ⟨d2, kvs2, xs2, c2, r2, l2, pst⟩, o7, o8, rfl⟩ ⟨rfl, hxi⟩
      obtain ⟨r, hr1, rfl⟩ := map_int_at hxi
      rw [List.length_map, hyl] at hi
      have W2 := gifts_wf (ns.take i) ln W
      have L2 : (gifts rows ln (ns.take i)).length < 50 := by rw [gifts_len]; exact hrl
      have ch2 := (gifts_like (ns.take i) rows ln).ch hch
      have k2' := ch_here ch2
      have step : ∀ (d3 : Addr) (kvs3 : List (Key × V)) (H13 : Hp) (s : Int), s = r → Kp [x, l'] H12 H13 → BX K H13 x dx' l' d3 kvs3 (xs2 ++ [.ref d2]) → RowsAt K H13 kvs3 (handR (gifts rows ln (ns.take i)) ln s).1 →
          Kp [x, l'] H10 H13 ∧ (∃ d2 kvs2 xs2, BX K H13 x dx' l' d2 kvs2 xs2 ∧ RowsAt K H13 kvs2 (gifts rows ln (ns.take (i + 1))) ∧ xs2.length = i + 1 ∧ Past H13 kvs xs2 kvs2) := by
        rintro d3 kvs3 H13 s rfl k b3 r3
        refine ⟨kA.trans k, d3, kvs3, _, b3, by rw [gifts_succ hr1]; exact r3, by rw [List.length_append, l2]; rfl, (Past.snoc pst c2.hd).kp k fun c kv0 hc e => ?_⟩
        rcases List.mem_cons.mp hc with z | z
        · rw [z, c2.hp] at e
          exact slO_dK (Option.some.inj e)
        · rw [List.mem_singleton.mp z, c2.hl] at e
          cases e
      refine ⟨_, rfl, _, _, rfl, rfl, _, rfl, dec2 (fun h => ?_) (fun h => ?_)⟩
      · refine ⟨_, rfl, x, dx', _, rfl, c2.slt, _, rfl, _, rfl, x, dx', l', d2, kvs2, xs2, gifts rows ln (ns.take i), n, r, rfl, c2, r2, W2, L2, by omega, fun ln' hc' d3 kvs3 H12 k3 b3 r3 => ?_, fun z => absurd z k2'⟩
        cases hc'.det ch2
        obtain ⟨s1, s2⟩ := step d3 kvs3 H12 r rfl k3 b3 r3
        exact ⟨s1, s2, _, _, rfl⟩
      · refine ⟨_, rfl, x, dx', _, rfl, c2.slt, _, rfl, _, rfl, _, _, rfl, rfl, x, dx', l', d2, kvs2, xs2, gifts rows ln (ns.take i), n, 0 - r, rfl, c2, r2, W2, L2, by omega, fun ln' hc' d3 kvs3 H12 k3 b3 r3 => ?_, fun z => absurd z k2'⟩
        cases hc'.det ch2
        obtain ⟨s1, s2⟩ := step d3 kvs3 H12 (-(0 - r)) (by omega) k3 b3 r3
        exact ⟨s1, s2, _, _, rfl⟩
    rintro σ11 H11 ⟨kA, ⟨d2, kvs2, xs2, c2, r2, l2, pst⟩, o7, o8, rfl⟩
    have e4 : ns.take ((ns.map V.int).length) = ns := by rw [List.length_map, List.take_length]
    rw [e4] at r2
    rw [List.length_map, hyl] at l2
    clear e4
    have W2 := gifts_wf ns ln W
    have L2 : (gifts rows ln ns).length < 50 := by rw [gifts_len]; exact hrl
    have ch2 := (gifts_like ns rows ln).ch hch
    have bd2 : Bd K H11 x (gifts rows ln ns) := ⟨dx', l', d2, kvs2, xs2, c2, r2, W2, L2⟩
    have ht11 := ht10.kp kA
    -- the ways, the sums
    refine ⟨_, rfl, p, dx, _, rfl, (bKx kA).slt, _, rfl, _, rfl, p, D, n, rows, ln, ns, rfl, bdKx kA, hch, hDk kA, fun tw yw H12 k12 htw hwl hwp => ⟨_, rfl, _, rfl, p, t, rows, ln, rfl, bdKx (kA.trans k12.all), ht11.kp k12, G.kn, by omega, fun as ys H13 k13 hys hasn hsl hsv => ⟨Nat.le_of_ble_eq_true rfl, fun u hu => ⟨u, _, rfl, .of upd_same, rfl, _, _, rfl, _, _, rfl, rfl, ?_⟩⟩⟩⟩
    have hwl2 : yw.length = ln.length := hwl
    have kB : Kp [] H11 (upd H13 u (.tup [.ref tw, .ref as])) := (k12.trans k13).laid hu
    have kC : Kp [] H12 (upd H13 u (.tup [.ref tw, .ref as])) := k13.laid hu
    have htw2 : SqT K (upd H13 u (.tup [.ref tw, .ref as])) tw yw := sqTk0 htw kC
    have hys2 : (upd H13 u (.tup [.ref tw, .ref as])) as = some (.lst ys) := (Kp.r0.laid (o := .tup [.ref tw, .ref as]) hu).at0 hys
    show tSeq _ _ _ _ (upd H13 u (.tup [.ref tw, .ref as]))
    generalize (upd H13 u (.tup [.ref tw, .ref as])) = H14 at kB kC htw2 hys2
    have kA14 := kA.trans kB.all
    -- what the ways tell
    refine ⟨_, rfl, t, _, rfl, .inr (ht11.kp kB).sq, _, rfl, by rw [List.length_map]; omega, by rw [List.length_map]; omega, ?_⟩
    have en : (((ln.map V.str).length : Nat) : Int).toNat = ln.length := by rw [List.length_map]; omega
    rw [en]
    refine lc_pure (walk_range (lo := 0) (n := ln.length)) (fun i y _ => y = .int (sumN (gifts rows ln ns) ln i)) (by unfold sizeLine; omega) tts_true (fun _ _ => trivial) (fun _ _ _ _ _ _ z => z) (gName_mono 13) ?_ ?_
    · rintro i x1 H15 H16 hi k15 ⟨rfl, hx⟩
      have hx' : x1 = .int (i : Nat) := hx.trans (congrArg V.int (by omega))
      subst hx'
      clear hx
      have hi2 : i < yw.length := by omega
      have hi3 : i < ys.length := by omega
      obtain ⟨c, hc, hway, hok⟩ := hwp i yw[i] (List.getElem?_eq_getElem hi2)
      have hs := hsv i ys[i] (List.getElem?_eq_getElem hi3)
      refine ⟨rfl, fun R hR => ⟨_, rfl, _, rfl, _, _, _, _, rfl, rfl, sqTk0 htw2 k15, atI_nat (List.getElem?_eq_getElem hi2), c, hc, _, rfl, _, rfl, _, _, _, _, rfl, rfl, .of (k15.at0 hys2), atI_nat (List.getElem?_eq_getElem hi3), ?_⟩⟩
      have hway2 := (hway.kp kC).kp k15
      obtain ⟨dw, hdw⟩ := id hway2
      rw [hs]
      exact ⟨.inl ⟨dw, _, hdw⟩, c, _, _, rfl, hway2, fun z => fl_of hok z, hR _ _ Kp.r0 (congrArg V.int (ways_law G ns i))⟩
    intro D2 H15 yg k15 hD2n hD2 hygl hyg
    have kD := kA14.trans k15.all
    -- the same as on the copy
    refine ⟨_, rfl, _, rfl, _, rfl, x, t, gifts rows ln ns, ln, rfl, bd2.kp (kB.trans k15), (ht11.kp kB).kp k15, fun m hm => known_keys (gifts_keys ln ns rows) (G.kn m hm), by omega, fun a2 y2 H16 k16 ha2 ha2n hy2l hy2 => ?_⟩
    refine ⟨D2, a2, yg, y2, rfl, .of (k16.at0 hD2), .of ha2, by omega, paired_of (by omega) (fun i y hy => ?_), fun H17 k17 => ⟨_, rfl, iteF ?_⟩⟩
    · have hi : i < ln.length := by have := (List.getElem?_eq_some_iff.mp hy).1; omega
      have hi2 : i < y2.length := by omega
      refine ⟨y2[i], List.getElem?_eq_getElem hi2, .inl ⟨?_, .inr ⟨_, hyg i y hy⟩⟩⟩
      rw [hyg i y hy]
      exact (hy2 i _ (List.getElem?_eq_getElem hi2)).symm
    have kE : Kp [] H11 H17 := ((kB.trans k15).trans k16).trans k17
    have kF : Kp [x, l'] H10 H17 := kA.trans kE.all
    have c17 := c2.kp0 kE
    have r17 := r2.kp kE
    have bd17 := bd2.kp kE
    have ht17 := ht11.kp kE
    have pst17 := pst.kp (ex := []) kE fun _ _ z => nomatch z
    clear kA kA14 kB kC kD k12 k13 k15 k16 k17 kE htw htw2 hys hys2 hsv hwp hyg hy2 ha2 hD2 bd2 c2 r2 pst
    -- foreseen
    refine ⟨_, rfl, p, dx, _, rfl, (bKx kF).slt, _, rfl, _, rfl, p, D, n, rows, ln, ns, rfl, bdKx kF, hch, .inr (hDk kF), fun tf H18 k18 htf => ⟨_, rfl, t, rfl, ⟨_, (ht17.kp k18).sq⟩, ?_⟩⟩
    refine lc_pure (walk_tup (xs := ln.map V.str)) (fun i y _ => ∃ a, (accs (gifts rows ln ns) ln)[i]? = some a ∧ y = .int a.lv) (by rw [List.length_map]; unfold sizeLine; omega) tts_true (fun H' k => (ht17.kp (k18.trans k)).sq) (fun _ _ _ _ _ _ z => z) (gName_mono 7) ?_ ?_
    · rintro i x1 H19 H20 hi k19 ⟨rfl, hxi⟩
      obtain ⟨nm2, hnm, rfl⟩ := str_at hxi
      obtain ⟨a, ha⟩ := ch2.mem nm2 (List.mem_of_getElem? hnm)
      have kk := k18.trans k19
      exact ⟨rfl, fun R hR => ⟨_, rfl, _, rfl, x, dx', _, rfl, (c17.kp0 kk).slt, x, nm2, _, a, rfl, bd17.kp kk, ha, fun H21 k21 => hR _ H21 k21 ⟨a, accs_at hnm ha, rfl⟩⟩⟩
    intro D3 H19 y3 k19 hD3n hD3 hy3l hy3
    have e3 := vals_of (f := fun a : Ac => V.int a.lv) (by rw [hy3l, List.length_map, accs_len]) hy3
    have em : ((accs (gifts rows ln ns) ln).map (fun a => a.lv)).map V.int = (accs (gifts rows ln ns) ln).map fun a => V.int a.lv := by rw [List.map_map]; rfl
    refine ⟨D3, _, rfl, .inl ⟨.of hD3, fun u3 hu3 => ?_⟩⟩
    have kG : Kp [] H17 (upd H19 u3 (.tup y3)) := (k18.trans k19).laid hu3
    refine neD_tup (ns := (accs (gifts rows ln ns) ln).map (fun a => a.lv)) (by rw [em]; exact sqTk0 (sqTk0 htf k19) (Kp.r0.laid hu3)) (by rw [em, ← e3]; exact .of upd_same) ⟨_, rfl, iteF ?_⟩
    have c20 := c17.kp0 kG
    have r20 := r17.kp kG
    have pst20 := pst17.kp (ex := []) kG fun _ _ z => nomatch z
    have k20 : Kp [x, l'] H10 (upd H19 u3 (.tup y3)) := kF.trans kG.all
    show tNext _ _ (upd H19 u3 (.tup y3))
    generalize (upd H19 u3 (.tup y3)) = H20 at c20 r20 pst20 k20
    clear kG kF c17 r17 pst17 bd17 ht17 k18 k19 htf hD3 hu3 hD3n
    -- all back
    refine ⟨_, rfl, D, rfl, ⟨_, hDk k20⟩, ?_⟩
    refine lc_gen (walk_list (xs := ns.map V.int)) [x, l'] (fun i H' => ∃ d3 kv zs, zs.length = 4 - i ∧ BX K H' x dx' l' d3 kv zs ∧ Past H20 kvs zs kv ∧ H20 d3 = some (.dK kv)) (fun i y _ => y = .non) (by rw [List.length_map, hyl]; exact Nat.le_of_ble_eq_true rfl) tts_true (fun c hc => ?_) ⟨d2, kvs2, xs2, l2, c20, pst20, c20.hd⟩ (fun i D H' o hD h => ?_) (fun i H' _ k _ => hDk (k20.trans k)) (fun _ _ _ _ _ _ _ z => z) ?_ (gName_mono 7) ?_
    · rcases List.mem_cons.mp hc with e | e
      · rw [e, c20.hp]; exact fun z => nomatch z
      · rw [List.mem_singleton.mp e, c20.hl]; exact fun z => nomatch z
    · obtain ⟨d3, kv, zs, h1, h2, h3, h4⟩ := h
      have ne : ∀ {y : Addr} {o : HO}, H20 y = some o → y ≠ D := fun h e => by rw [e, hD] at h; cases h
      exact ⟨d3, kv, zs, h1, ⟨by rw [upd_ne (ne c20.hp)]; exact h2.hp, by rw [upd_ne (ne c20.hx)]; exact h2.hx, by rw [upd_ne (ne h4)]; exact h2.hd, by rw [upd_ne (ne c20.hl)]; exact h2.hl⟩, h3, h4⟩
    · rintro i x1 H21 H22 hi k ⟨d3, kv, zs, h1, h2, h3, h4⟩ ⟨rfl, hxi⟩
      rw [List.length_map, hyl] at hi
      refine ⟨rfl, fun R hR => ?_⟩
      cases h3 with
      | nil =>
        have h1 : 0 = 4 - i := h1
        omega
      | @snoc zs2 _ kv0 d0 h3 hd =>
        rw [List.length_append] at h1
        have h1 : zs2.length + 1 = 4 - i := h1
        have hd2 := k.at1 hd fun z => by
          rcases List.mem_cons.mp z with e | e
          · rw [e, c20.hp] at hd; exact slO_dK (Option.some.inj hd)
          · rw [List.mem_singleton.mp e, c20.hl] at hd; cases hd
        exact ⟨_, rfl, x, dx', _, rfl, h2.slt, x, dx', l', d3, d0, _, kv0, zs2, rfl, h2, hd2, by omega, fun H23 k23 b23 => hR _ H23 k23 ⟨d0, kv0, zs2, by omega, b23, h3, hd⟩ rfl⟩
    rintro D4 H21 ys4 k21 hD4n hD4 ⟨d3, kv, zs, h1, h2, h3, h4⟩ hy4l hy4
    rw [List.length_map, hyl] at h1 hy4l
    have hzs : zs = [] := List.length_eq_zero_iff.mp h1
    subst hzs
    cases h3.nil_of
    refine ⟨Nat.le_of_ble_eq_true rfl, fun a ha => ⟨a, 4, [.non], rfl, rfl, upd_same, by decide, by decide, Nat.le_of_ble_eq_true rfl, fun c hc => ?_⟩⟩
    have kH : Kp [] H21 (upd (upd H21 a (.lst [.non])) c (.lst (List.replicate (4 : Int).toNat [V.non]).flatten)) := (Kp.r0.laid ha).laid hc
    refine ⟨1, by decide, .inl ⟨D4, c, ys4, _, rfl, rfl, .of (kH.at0 hD4), .of upd_same, paired_of (hy4l.trans rfl) fun i y hy => ?_⟩, ?_⟩
    · have hi : i < 4 := by have := (List.getElem?_eq_some_iff.mp hy).1; omega
      refine ⟨.non, ?_, .inl ⟨hy4 i y hy, by rw [hy4 i y hy]; rfl⟩⟩
      match i, hi with
      | 0, _ => rfl
      | 1, _ => rfl
      | 2, _ => rfl
      | 3, _ => rfl
    have kZ : Kp [x, l'] H10 (upd (upd H21 a (.lst [.non])) c (.lst (List.replicate (4 : Int).toNat [V.non]).flatten)) := (k20.trans k21).trans kH.all
    refine ⟨_, rfl, iteT' rfl ⟨_, rfl, _, rfl, x, dx', _, p, _, dx, _, rfl, rfl, (h2.kp0 kH).slt, (bKx kZ).slt, T.nf_Board, x, dx', l', d3, p, dx, l, d, kvs, [], xs, rows, rfl, h2.kp0 kH, bKx kZ, (hrows.kp k010).kp kZ, W.nd, ?_⟩⟩
    refine q _ (kpSkipE k010 kZ fun y hy => ?_) (hBx kZ)
    rcases List.mem_cons.mp hy with e | e
    · rw [e]; exact hxn
    · rw [List.mem_singleton.mp e]; exact hln
end
end K65
set_option linter.all false
set_option maxRecDepth 100000
namespace K65
/-! ### the plain law of what is given by hand -/
def farN : Nat := 1000000000000000000000000000000
def farI : Int := 1000000000000000000000000000000
def rowH : List Ev := [(.add, farI), (.cap, 5), (.floor, -farI), (.add, -farI)]
def prH : List Int := [1, 2, 9, 3, 7]
theorem hand_span : spanOf .add (partsAt rowH 1 0 (-farI) (5 - farI)).1 (partsAt rowH 1 0 (-farI) (5 - farI)).2 = some (some (-farI), none) := by decide +kernel
theorem hand_cap {r : Option Int} (h : LeastCap rowH 0 (5 - farI) r) : r = some 5 := by
  have h5 : LeastCap rowH 0 (5 - farI) (some 5) := by
    unfold LeastCap
    decide +kernel
  cases r with
  | none =>
    have h : endOf rowH 0 < 5 - farI := h
    exact absurd h (by decide +kernel)
  | some c => rw [leastCap_unique h h5]
theorem hand_floor {r : Option Int} (h : GreatFloor rowH 0 (4 - farI) r) : r = none := by
  cases r with
  | none => rfl
  | some c =>
    have h : endOf rowH 0 ≤ 4 - farI ∧ _ := h
    exact absurd h.1 (by decide +kernel)
theorem prH_nn : ∀ p ∈ prH, 0 ≤ p := by decide
theorem hand_end {a b c d e : Int} (ha : 0 ≤ a) (hb : 0 ≤ b) (hc : 0 ≤ c) (hd : 0 ≤ d) (he : 0 ≤ e) : endOf (withAdds rowH [a, b, c, d, e]) 0 ≤ 5 - farI + c + d + e := by
  unfold rowH
  rw [end_with_cons _ _ _ _ _ ha, end_with_cons _ _ _ _ _ hb, end_with_cons _ _ _ _ _ hc, end_with_cons _ _ _ _ _ hd, end_with_nil _ _ he]
  unfold behind farI
  simp only []
  omega
theorem hand_price (a b c d e : Int) : price [a, b, c, d, e] prH = a + b * 2 + c * 9 + d * 3 + e * 7 := by
  unfold prH
  rw [price_cons, price_cons, price_cons, price_cons, price_cons]
  show _ + (_ + (_ + (_ + (_ + 0)))) = _
  omega
theorem five {p : List Int} (h : p.length = 5) : ∃ a b c d e, p = [a, b, c, d, e] := by
  match p, h with
  | [a, b, c, d, e], _ => exact ⟨a, b, c, d, e, rfl⟩
theorem hand_cheapest {p : List Int} (h : Cheapest rowH prH 0 farI p) : price p prH = 3 * (2 * farI - 5) := by
  obtain ⟨l, n, r⟩ := plan_reaches (row := rowH) (prices := prH) rfl prH_nn h.1
  obtain ⟨a, b, c, d, e, rfl⟩ := five l
  have n0 : 0 ≤ a := n a (by simp)
  have n1 : 0 ≤ b := n b (by simp)
  have n2 : 0 ≤ c := n c (by simp)
  have n3 : 0 ≤ d := n d (by simp)
  have n4 : 0 ≤ e := n e (by simp)
  have h1 := hand_end n0 n1 n2 n3 n4
  have h2 := plan_least (row := rowH) (prices := prH) rfl prH_nn h (a := [0, 0, 0, 2 * farI - 5, 0]) rfl (by decide +kernel) (by decide +kernel)
  rw [hand_price, hand_price] at h2
  rw [hand_price]
  omega
theorem hand_amounts {p : List Int} (h : Cheapest rowH prH 0 (7 - farI) p) : p = [0, 0, 0, 2, 0] := by
  obtain ⟨l, n, r⟩ := plan_reaches (row := rowH) (prices := prH) rfl prH_nn h.1
  obtain ⟨a, b, c, d, e, rfl⟩ := five l
  have n0 : 0 ≤ a := n a (by simp)
  have n1 : 0 ≤ b := n b (by simp)
  have n2 : 0 ≤ c := n c (by simp)
  have n3 : 0 ≤ d := n d (by simp)
  have n4 : 0 ≤ e := n e (by simp)
  have h1 := hand_end n0 n1 n2 n3 n4
  have h2 := plan_least (row := rowH) (prices := prH) rfl prH_nn h (a := [0, 0, 0, 2, 0]) rfl (by decide +kernel) (by decide +kernel)
  rw [hand_price, hand_price] at h2
  have e0 : a = 0 := by omega
  have e1 : b = 0 := by omega
  have e2 : c = 0 := by omega
  have e3 : e = 0 := by omega
  have e4 : d = 2 := by omega
  subst e0 e1 e2 e3 e4
  rfl
end K65
set_option Elab.async false
set_option linter.all false
set_option maxRecDepth 100000
set_option maxHeartbeats 4000000
namespace K65
open PySem PySem.Spec PyProof.Rows L2 SlX He
def nSink : Str := "sink"
def nCup : Str := "cup"
def aSink : Ac := ⟨0, some (-farI), none, none⟩
def aCup : Ac := ⟨farI, some 0, some farI, some nSink⟩
def hRows1 : RowsL := putR [] nSink aSink
def hRows2 : RowsL := putR hRows1 nCup aCup
def hLn : List Str := [nCup, nSink]
def hRows3 : RowsL := (handR hRows2 hLn farI).1
def hRows4 : RowsL := (handR hRows3 hLn (-farI)).1
theorem adm1 : AdmOk [] nSink 0 (some (-farI)) none none := ⟨rfl, by decide +kernel, by decide +kernel, fun _ z => nomatch z⟩
theorem adm2 : AdmOk hRows1 nCup farI (some 0) (some farI) (some nSink) := ⟨by
  cases e : getR hRows1 nCup with
  | none => rfl
  | some a => exact absurd (show (getR hRows1 nCup).isSome = true by rw [e]; rfl) (by decide +kernel), by decide +kernel, by decide +kernel, fun h e => by
  cases e
  exact fun z => absurd (show (getR hRows1 nSink).isSome = false by rw [z]; rfl) (by decide +kernel)⟩
theorem hW1 : WF hRows1 := WF.nil.admit adm1.1 (admit_in adm1) fun h e => adm1.known h e
theorem hW2 : WF hRows2 := hW1.admit adm2.1 (admit_in adm2) fun h e => adm2.known h e
theorem hCh : Ch (getR hRows2) nCup hLn := .step (a := aCup) (h := nSink) (by rfl) rfl (.last (a := aSink) (by rfl) rfl)
theorem hRoom : sumO ((accs hRows2 hLn).map room1) = none := by decide +kernel
theorem hStock : sumO ((accs hRows2 hLn).map stock1) = some (2 * farI) := by decide +kernel
theorem hGive : absI (handR hRows2 hLn farI).2 = 0 := by decide +kernel
theorem hCall : absI (handR hRows3 hLn (-farI)).2 = 0 := by decide +kernel
theorem hW3 : WF hRows3 := handR_wf _ _ _ hW2
theorem hW4 : WF hRows4 := handR_wf _ _ _ hW3
theorem hCh3 : Ch (getR hRows3) nCup hLn := (handR_like _ _ _).ch hCh
theorem hCh4 : Ch (getR hRows4) nCup hLn := (handR_like _ _ _).ch hCh3
theorem hSink3 : ∃ a, getR hRows3 nSink = some a ∧ a.lv = farI := by
  cases e : getR hRows3 nSink with
  | none => exact absurd (show (getR hRows3 nSink).isSome = false by rw [e]; rfl) (by decide +kernel)
  | some a => exact ⟨a, rfl, Option.some.inj ((show (getR hRows3 nSink).map (·.lv) = some a.lv by rw [e]; rfl).symm.trans (by decide +kernel))⟩
theorem hCup4 : ∃ a, getR hRows4 nCup = some a ∧ a.lv = 0 := by
  cases e : getR hRows4 nCup with
  | none => exact absurd (show (getR hRows4 nCup).isSome = false by rw [e]; rfl) (by decide +kernel)
  | some a => exact ⟨a, rfl, Option.some.inj ((show (getR hRows4 nCup).map (·.lv) = some a.lv by rw [e]; rfl).symm.trans (by decide +kernel))⟩
theorem hSink4 : ∃ a, getR hRows4 nSink = some a ∧ leastG (accs hRows4 (hLn.take 1)) a farI = some 0 := by
  cases e : getR hRows4 nSink with
  | none => exact absurd (show (getR hRows4 nSink).isSome = false by rw [e]; rfl) (by decide +kernel)
  | some a =>
    refine ⟨a, rfl, ?_⟩
    have : a.lv = farI := Option.some.inj ((show (getR hRows4 nSink).map (·.lv) = some a.lv by rw [e]; rfl).symm.trans (by decide +kernel))
    unfold leastG
    rw [if_pos (by rw [this]; exact Int.le_refl _)]
end K65
set_option Elab.async false
set_option linter.all false
set_option maxRecDepth 100000
set_option maxHeartbeats 4000000
namespace K65
open PySem PySem.Spec PyProof.Rows L2 SlX He
/-! ### given by hand -/
section
variable {P : Program} {w : World} {K : PySem.W.Frag} {mg : Str → Option Value} {base : Heap}
def spAdmit3 (K : PySem.W.Frag) : Sp := fun vs H Q E => spAdmit K (vs ++ [V.non, V.non]) H Q E
def spHandR : Sp := fun vs H Q _ => vs = [] ∧ ∀ H', Kp [] H H' → Q (.bl true) H'
theorem ok_by_hand (T : Txt K mg) (BI : BoardI P w K mg base) (P_adds_between : Pr P w K mg base CX0 6 "adds_between" (spSpan K .add)) (P_least_cap : Pr P w K mg base CX0 3 "least_cap" (spCap K)) (P_greatest_floor : Pr P w K mg base CX0 4 "greatest_floor" (spFloor K)) (P_cheapest_amounts : Pr P w K mg base CX0 4 "cheapest_amounts" (spAmounts K)) (P_cheapest : Pr P w K mg base CX0 5 "cheapest" (spCheapest K))
    (P_admit3 : MX P w K mg base 4 "admit" (spAdmit3 K)) (P_admit : MX P w K mg base 4 "admit" (spAdmit K)) (P_room : MB P w K mg base 6 "room" (spRoom K room1)) (P_stock : MB P w K mg base 6 "stock" (spRoom K stock1)) (P_give : MX P w K mg base 6 "give" (spGive K)) (P_call : MX P w K mg base 7 "call" (spCallB K)) (P_getitem : MB P w K mg base 4 "__getitem__" (spGet K)) (P_least_gift : MB P w K mg base 7 "least_gift" (spLeast K leastG)) (P_law_same : Pr P w K mg base CX0 3 "_law_same" (spSame2 K)) : Pr P w K mg base CX0 8 "_law_by_hand_right" spHandR := by
  obtain ⟨fd, F⟩ := T.f_law_by_hand_right
  refine Pr.of T.g_law_by_hand_right F.kp (F.ok sc_law_by_hand_right (fun vs H Q E h => ?_) (fun cdv A outer s H vs Q E hr h => ?_)) (F.bindsN fun _ _ _ _ _ _ us hl => match us, hl with | [], _ => rfl)
  · obtain ⟨rfl, _⟩ := h
    rfl
  · obtain ⟨rfl, q⟩ := h
    refine ⟨_, PSs.nox (pss_cons (ps_set (i := 0) sc_law_by_hand_right.nd rfl (.inl rfl) (pe_op op_pow pe_int pe_int)) (pss_cons (ps_set (i := 1) sc_law_by_hand_right.nd rfl (.inl rfl) (pe_tup (pa_cons (pe_tup (pa_cons pe_str (pa_cons (pv 0) pa_nil))) (pa_cons (pe_tup (pa_cons pe_str (pa_cons pe_int pa_nil))) (pa_cons (pe_tup (pa_cons pe_str (pa_cons (pe_un un_neg (pv 0)) pa_nil))) (pa_cons (pe_tup (pa_cons pe_str (pa_cons (pe_un un_neg (pv 0)) pa_nil))) pa_nil)))))) (pss_cons (ps_set (i := 2) sc_law_by_hand_right.nd rfl (.inl rfl) (pe_lst (pa_cons (pe_g P_adds_between (hr.mono (by decide)) pass0 (pa_cons (pv 1) (pa_cons pe_int (pa_cons pe_int (pa_cons (pe_un un_neg (pv 0)) (pa_cons (pe_op op_sub pe_int (pv 0)) pa_nil)))))) (pa_cons (pe_g P_least_cap (hr.mono (by decide)) pass0 (pa_cons (pv 1) (pa_cons pe_int (pa_cons (pe_op op_sub pe_int (pv 0)) pa_nil)))) (pa_cons (pe_g P_greatest_floor (hr.mono (by decide)) pass0 (pa_cons (pv 1) (pa_cons pe_int (pa_cons (pe_op op_sub pe_int (pv 0)) pa_nil)))) pa_nil))))) (pss_cons (ps_set (i := 3) sc_law_by_hand_right.nd rfl (.inl rfl) (pe_lst (pa_cons (pe_tup (pa_cons (pe_un un_neg (pv 0)) (pa_cons pe_non pa_nil))) (pa_cons pe_int (pa_cons pe_non pa_nil))))) (pss_cons (ps_set (i := 2) sc_law_by_hand_right.nd rfl (.inl rfl) (pe_op op_cat (pv 2) (pe_lst (pa_cons (pe_g P_cheapest (hr.mono (by decide)) pass0 (pa_cons (pv 1) (pa_cons (pe_tup (pa_cons pe_int (pa_cons pe_int (pa_cons pe_int (pa_cons pe_int (pa_cons pe_int pa_nil)))))) (pa_cons pe_int (pa_cons (pv 0) pa_nil))))) (pa_cons (pe_g P_cheapest_amounts (hr.mono (by decide)) pass0 (pa_cons (pv 1) (pa_cons (pe_tup (pa_cons pe_int (pa_cons pe_int (pa_cons pe_int (pa_cons pe_int (pa_cons pe_int pa_nil)))))) (pa_cons pe_int (pa_cons (pe_op op_sub pe_int (pv 0)) pa_nil))))) pa_nil))))) (pss_cons (ps_set (i := 3) sc_law_by_hand_right.nd rfl (.inl rfl) (pe_op op_cat (pv 3) (pe_lst (pa_cons (pe_op op_mul pe_int (pe_op op_sub (pe_op op_mul pe_int (pv 0)) pe_int)) (pa_cons (pe_tup (pa_cons pe_int (pa_cons pe_int (pa_cons pe_int (pa_cons pe_int (pa_cons pe_int pa_nil)))))) pa_nil))))) (pss_cons (ps_set (i := 4) sc_law_by_hand_right.nd rfl (.inl rfl) (pe_mkB0 T BI (hr.mono (by decide)))) (pss_cons (ps_set (i := 2) sc_law_by_hand_right.nd rfl (.inl rfl) (pe_op op_cat (pv 2) (pe_lst (pa_cons (pe_methSl (E := E0) (pv 4) T.cl_Board T.m_Board_admit P_admit3 (hr.mono (by decide)) passL (pa_cons pe_str (pa_cons pe_int (pa_cons (pe_un un_neg (pv 0)) pa_nil)))) (pa_cons (pe_methSl (E := E0) (pv 4) T.cl_Board T.m_Board_admit P_admit (hr.mono (by decide)) passL (pa_cons pe_str (pa_cons (pv 0) (pa_cons pe_int (pa_cons (pv 0) (pa_cons pe_str pa_nil)))))) (pa_cons (pe_methSl (E := E0) (pv 4) T.cl_Board T.m_Board_room P_room (hr.mono (by decide)) pass0 (pa_cons pe_str pa_nil)) (pa_cons (pe_methSl (E := E0) (pv 4) T.cl_Board T.m_Board_stock P_stock (hr.mono (by decide)) pass0 (pa_cons pe_str pa_nil)) pa_nil))))))) (pss_cons (ps_set (i := 3) sc_law_by_hand_right.nd rfl (.inl rfl) (pe_op op_cat (pv 3) (pe_lst (pa_cons pe_non (pa_cons pe_non (pa_cons pe_non (pa_cons (pe_op op_mul pe_int (pv 0)) pa_nil))))))) (pss_cons (ps_set (i := 2) sc_law_by_hand_right.nd rfl (.inl rfl) (pe_op op_cat (pv 2) (pe_lst (pa_cons (pe_methSl (E := E0) (pv 4) T.cl_Board T.m_Board_give P_give (hr.mono (by decide)) passL (pa_cons pe_str (pa_cons (pv 0) pa_nil))) (pa_cons (pe_subOwn (E := E0) T.d_Board_getitem T.i_Board_getitem T.n_Board_getitem P_getitem (hr.mono (by decide)) pass0 (pv 4) pe_str) (pa_cons (pe_methSl (E := E0) (pv 4) T.cl_Board T.m_Board_call P_call (hr.mono (by decide)) passL (pa_cons pe_str (pa_cons (pv 0) pa_nil))) (pa_cons (pe_subOwn (E := E0) T.d_Board_getitem T.i_Board_getitem T.n_Board_getitem P_getitem (hr.mono (by decide)) pass0 (pv 4) pe_str) (pa_cons (pe_methSl (E := E0) (pv 4) T.cl_Board T.m_Board_least_gift P_least_gift (hr.mono (by decide)) pass0 (pa_cons pe_str (pa_cons pe_str (pa_cons (pv 0) pa_nil)))) pa_nil)))))))) (pss_one (ps_ret (pe_g P_law_same (hr.mono (by decide)) pass0 (pa_cons (pv 2) (pa_cons (pe_op op_cat (pv 3) (pe_lst (pa_cons pe_int (pa_cons (pv 0) (pa_cons pe_int (pa_cons pe_int (pa_cons pe_int pa_nil))))))) pa_nil))))))))))))))), ?_⟩
    have ef : (10 : Int) ^ (30 : Int).toNat = farI := by decide +kernel
    refine ⟨_, _, rfl, rfl, ⟨by decide, by decide, by decide⟩, ?_⟩
    show gName 0 (V.int ((10 : Int) ^ (30 : Int).toNat)) _ _ _
    rw [ef]
    clear ef
    refine gName_mid (seq_mid (fun σ' H' => Kp [] H H' ∧ ∃ r, RowT K H' r rowH ∧ σ' = [some (.int farI), some (.ref r), none, none, none]) (fun R hR => ?_) ?_)
    · refine ⟨_, rfl, Nat.le_of_ble_eq_true rfl, fun u1 h1 => ⟨Nat.le_of_ble_eq_true rfl, fun u2 h2 => ⟨_, rfl, _, rfl, Nat.le_of_ble_eq_true rfl, fun u3 h3 => ⟨_, rfl, _, rfl, Nat.le_of_ble_eq_true rfl, fun u4 h4 => ⟨Nat.le_of_ble_eq_true rfl, fun r hr2 => hR _ _ ⟨((((Kp.r0.laid h1).laid h2).laid h3).laid h4).laid hr2, r, ⟨_, .of upd_same, ?_⟩, rfl⟩⟩⟩⟩⟩⟩
      exact .cons ⟨u1, rfl, sqTk0 (.of upd_same) ((((Kp.r0.laid h2).laid h3).laid h4).laid hr2)⟩ (.cons ⟨u2, rfl, sqTk0 (.of upd_same) (((Kp.r0.laid h3).laid h4).laid hr2)⟩ (.cons ⟨u3, rfl, sqTk0 (.of upd_same) ((Kp.r0.laid h4).laid hr2)⟩ (.cons ⟨u4, rfl, sqTk0 (.of upd_same) (Kp.r0.laid hr2)⟩ .nil)))
    rintro σ1 H1 ⟨k1, r, hrow, rfl⟩
    -- the span, the cap, the floor
    refine seq_mid (fun σ' H' => Kp [] H1 H' ∧ ∃ g t, H' g = some (.lst [.ref t, .int 5, .non]) ∧ SqT K H' t [.int (-farI), .non] ∧ σ' = [some (.int farI), some (.ref r), some (.ref g), none, none]) (fun R hR => ?_) ?_
    · refine ⟨_, rfl, _, rfl, _, rfl, _, rfl, _, _, rfl, rfl, r, rowH, 1, 0, -farI, 5 - farI, rfl, hrow, by decide, fun v H2 k2 hv => ?_⟩
      rw [hand_span] at hv
      obtain ⟨t, rfl, ht⟩ := hv
      refine ⟨_, rfl, _, rfl, _, _, rfl, rfl, r, 0, 5 - farI, rowH, rfl, .inl (hrow.kp k2), (fun z => nomatch z), by decide, fun o H3 k3 ho => ?_⟩
      rw [hand_cap ho]
      refine ⟨_, rfl, _, rfl, _, _, rfl, rfl, r, 0, 4 - farI, rowH, rfl, (hrow.kp k2).kp k3, (fun z => nomatch z), by decide, fun o2 H4 k4 ho2 => ?_⟩
      rw [hand_floor ho2]
      exact ⟨Nat.le_of_ble_eq_true rfl, fun g hg => hR _ _ ⟨((k2.trans k3).trans k4).laid hg, g, t, upd_same, sqTk0 ht ((k3.trans k4).laid hg), rfl⟩⟩
    rintro σ2 H2 ⟨k2, g, t1, hg, ht1, rfl⟩
    have hrow2 := hrow.kp k2
    have k02 := k1.trans k2
    -- what is due
    refine seq_mid (fun σ' H' => Kp [] H2 H' ∧ ∃ d t, H' d = some (.lst [.ref t, .int 5, .non]) ∧ SqT K H' t [.int (-farI), .non] ∧ σ' = [some (.int farI), some (.ref r), some (.ref g), some (.ref d), none]) (fun R hR => ?_) ?_
    · exact ⟨_, rfl, _, rfl, Nat.le_of_ble_eq_true rfl, fun t ht => ⟨Nat.le_of_ble_eq_true rfl, fun d hd => hR _ _ ⟨(Kp.r0.laid ht).laid hd, d, t, upd_same, sqTk0 (.of upd_same) (Kp.r0.laid hd), rfl⟩⟩⟩
    rintro σ3 H3 ⟨k3, d, t2, hd, ht2, rfl⟩
    have hg3 := k3.at0 hg
    have ht13 := sqTk0 ht1 k3
    have hrow3 := hrow2.kp k3
    have k03 := k02.trans k3
    clear k1 k2 k3 hg ht1 hrow hrow2 k02
    -- the cheapest
    refine seq_mid (fun σ' H' => Kp [] H3 H' ∧ ∃ g c, H' g = some (.lst [.ref t1, .int 5, .non, .int (3 * (2 * farI - 5)), .ref c]) ∧ IntsT K H' c [0, 0, 0, 2, 0] ∧ σ' = [some (.int farI), some (.ref r), some (.ref g), some (.ref d), none]) (fun R hR => ?_) ?_
    · refine ⟨_, rfl, _, rfl, Nat.le_of_ble_eq_true rfl, fun u1 h1 => ⟨_, rfl, r, u1, rowH, prH, 0, farI, rfl, hrow3.kp (Kp.r0.laid h1), (show SqT K _ u1 _ from .of upd_same), rfl, by decide, (by decide), fun p H4 k4 hC => ?_⟩⟩
      rw [hand_cheapest hC]
      have k34 := (Kp.r0.laid (o := .tup [.int 1, .int 2, .int 9, .int 3, .int 7]) h1).trans k4
      refine ⟨_, rfl, Nat.le_of_ble_eq_true rfl, fun u2 h2 => ⟨_, rfl, _, _, rfl, rfl, r, u2, rowH, prH, 0, 7 - farI, rfl, (hrow3.kp k34).kp (Kp.r0.laid h2), (show SqT K _ u2 _ from .of upd_same), rfl, by decide, (by decide), fun c p2 H5 k5 hc hC2 => ?_⟩⟩
      rw [hand_amounts hC2] at hc
      have k35 := (k34.laid h2).trans k5
      exact ⟨Nat.le_of_ble_eq_true rfl, fun l hl => ⟨g, l, _, _, rfl, rfl, (k35.laid hl).at0 hg3, upd_same, Nat.le_of_ble_eq_true rfl, fun g2 hg2 => hR _ _ ⟨(k35.laid hl).laid hg2, g2, c, upd_same, sqTk0 hc ((Kp.r0.laid hl).laid hg2), rfl⟩⟩⟩
    rintro σ4 H4 ⟨k4, g2, c1, hg4, hc1, rfl⟩
    have hd4 := k4.at0 hd
    have ht14 := sqTk0 ht13 k4
    have ht24 := sqTk0 ht2 k4
    have k04 := k03.trans k4
    clear hg3 ht13 hrow3 k03 k4 hd ht2
    refine seq_mid (fun σ' H' => Kp [] H4 H' ∧ ∃ d c, H' d = some (.lst [.ref t2, .int 5, .non, .int (3 * (2 * farI - 5)), .ref c]) ∧ IntsT K H' c [0, 0, 0, 2, 0] ∧ σ' = [some (.int farI), some (.ref r), some (.ref g2), some (.ref d), none]) (fun R hR => ?_) ?_
    · refine ⟨_, rfl, _, rfl, _, _, rfl, rfl, .inl ⟨by decide, by decide⟩, _, _, rfl, rfl, _, _, rfl, rfl, .inl ⟨by decide, by decide⟩, ?_⟩
      exact ⟨Nat.le_of_ble_eq_true rfl, fun u hu => ⟨Nat.le_of_ble_eq_true rfl, fun l hl => ⟨d, l, _, _, rfl, rfl, ((Kp.r0.laid hu).laid hl).at0 hd4, upd_same, Nat.le_of_ble_eq_true rfl, fun d2 hd2 => hR _ _ ⟨((Kp.r0.laid hu).laid hl).laid hd2, d2, u, upd_same, sqTk0 (.of upd_same) ((Kp.r0.laid hl).laid hd2), rfl⟩⟩⟩⟩
    rintro σ5 H5 ⟨k5, d2, c2, hd5, hc2, rfl⟩
    have hg5 := k5.at0 hg4
    have hc15 := sqTk0 hc1 k5
    have ht15 := sqTk0 ht14 k5
    have ht25 := sqTk0 ht24 k5
    have k05 := k04.trans k5
    clear k04 k5 hg4 hc1 ht14 ht24 hd4
    -- the board
    refine fun p dx l d0 H6 k6 b6 n1 n2 n3 n4 => ?_
    have hg6 := k6.at0 hg5
    have hd6 := k6.at0 hd5
    have k06 := k05.trans k6
    have hpn := k05.none0 n1
    have hln := k05.none0 n3
    have gx : g2 ∉ [p, l] := fun z => by
      rcases List.mem_cons.mp z with e | e
      · rw [e, n1] at hg5; cases hg5
      · rw [List.mem_singleton.mp e, n3] at hg5; cases hg5
    have dxx : d2 ∉ [p, l] := fun z => by
      rcases List.mem_cons.mp z with e | e
      · rw [e, n1] at hd5; cases hd5
      · rw [List.mem_singleton.mp e, n3] at hd5; cases hd5
    refine gName_mid (seq_mid (fun σ' H' => Kp [p, l] H6 H' ∧ ∃ g d1 kvs1 xs1, BX K H' p dx l d1 kvs1 xs1 ∧ RowsAt K H' kvs1 hRows2 ∧ xs1.length ≤ 2 ∧ H' g = some (.lst [.ref t1, .int 5, .non, .int (3 * (2 * farI - 5)), .ref c1, .non, .non, .non, .int (2 * farI)]) ∧ g ∉ [p, l] ∧ σ' = [some (.int farI), some (.ref r), some (.ref g), some (.ref d2), some (.ref p)]) (fun R hR => ?_) ?_)
    · refine ⟨_, rfl, _, rfl, p, dx, _, rfl, b6.slt, _, rfl, _, rfl, p, dx, l, d0, [], [], [], nSink, 0, some (-farI), none, none, rfl, b6, .nil, .nil, by decide, by decide, fun _ d1 kvs1 H7 k7 b7 r7 => ?_, fun no => absurd adm1 no⟩
      refine ⟨_, rfl, p, dx, _, rfl, b7.slt, _, rfl, _, rfl, p, dx, l, d1, kvs1, _, hRows1, nCup, farI, some 0, some farI, some nSink, rfl, b7, r7, hW1, by decide +kernel, Nat.le_of_ble_eq_true rfl, fun _ d3 kvs3 H8 k8 b8 r8 => ?_, fun no => absurd adm2 no⟩
      have bd8 : Bd K H8 p hRows2 := ⟨dx, l, d3, kvs3, _, b8, r8, hW2, by decide +kernel⟩
      refine ⟨_, rfl, p, dx, _, rfl, b8.slt, p, nCup, hRows2, hLn, rfl, bd8, hCh, fun H9 k9 => ?_⟩
      rw [hRoom]
      refine ⟨_, rfl, p, dx, _, rfl, (b8.kp0 k9).slt, p, nCup, hRows2, hLn, rfl, bd8.kp k9, hCh, fun H10 k10 => ?_⟩
      rw [hStock]
      have kA : Kp [p, l] H6 H10 := (k7.trans k8).trans (k9.trans k10).all
      refine ⟨Nat.le_of_ble_eq_true rfl, fun u hu => ⟨g2, u, _, _, rfl, rfl, (kA.laid hu).at1 hg6 gx, upd_same, Nat.le_of_ble_eq_true rfl, fun g3 hg3 => ?_⟩⟩
      have kB := (((k9.trans k10).laid (o := .lst [.non, .non, optV none, optV (some (2 * farI))]) hu).laid (o := .lst ([.ref t1, .int 5, .non, .int (3 * (2 * farI - 5)), .ref c1] ++ [.non, .non, optV none, optV (some (2 * farI))])) hg3)
      refine hR _ _ ⟨(kA.laid hu).laid hg3, g3, d3, kvs3, _, b8.kp0 kB, r8.kp kB, Nat.le_of_ble_eq_true rfl, upd_same, fun z => ?_, rfl⟩
      have kC := ((k9.trans k10).laid (o := .lst [.non, .non, optV none, optV (some (2 * farI))]) hu)
      rcases List.mem_cons.mp z with e | e
      · rw [e, (b8.kp0 kC).hp] at hg3; cases hg3
      · rw [List.mem_singleton.mp e, (b8.kp0 kC).hl] at hg3; cases hg3
    rintro σ7 H7 ⟨k7, g3, d1, kvs1, xs1, b7, r7, l7, hg7, gx7, rfl⟩
    have hd7 := k7.at1 hd6 dxx
    refine seq_mid (fun σ' H' => Kp [] H7 H' ∧ ∃ d, H' d = some (.lst [.ref t2, .int 5, .non, .int (3 * (2 * farI - 5)), .ref c2, .non, .non, .non, .int (2 * farI)]) ∧ d ∉ [p, l] ∧ σ' = [some (.int farI), some (.ref r), some (.ref g3), some (.ref d), some (.ref p)]) (fun R hR => ?_) ?_
    · refine ⟨_, rfl, _, rfl, _, _, rfl, rfl, .inl ⟨by decide, by decide⟩, Nat.le_of_ble_eq_true rfl, fun u hu => ⟨d2, u, _, _, rfl, rfl, (Kp.r0.laid hu).at0 hd7, upd_same, Nat.le_of_ble_eq_true rfl, fun d3 hd3 => hR _ _ ⟨(Kp.r0.laid hu).laid hd3, d3, upd_same, fun z => ?_, rfl⟩⟩⟩
      have kC : Kp [] H7 (upd H7 u (.lst [.non, .non, .non, .int (2 * farI)])) := Kp.r0.laid hu
      rcases List.mem_cons.mp z with e | e
      · rw [e, (b7.kp0 kC).hp] at hd3; cases hd3
      · rw [List.mem_singleton.mp e, (b7.kp0 kC).hl] at hd3; cases hd3
    rintro σ8 H8 ⟨k8, d3, hd8, dx8, rfl⟩
    have hg8 := k8.at0 hg7
    have b8 := b7.kp0 k8
    have r8 := r7.kp k8
    have k68 : Kp [p, l] H6 H8 := k7.trans k8.all
    have ht18 := sqTk0 (sqTk0 ht15 k6) k68
    have ht28 := sqTk0 (sqTk0 ht25 k6) k68
    have hc18 := sqTk0 (sqTk0 hc15 k6) k68
    have hc28 := sqTk0 (sqTk0 hc2 k6) k68
    clear ht15 ht25 hc15 hc2 hg5 hd5 b6 hg6 hd6 gx dxx k7 b7 r7 hg7 hd7 k8 k05 k6
    refine ⟨_, rfl, _, rfl, p, dx, _, rfl, b8.slt, _, rfl, p, dx, l, d1, kvs1, xs1, hRows2, nCup, farI, rfl, b8, r8, hW2, by decide +kernel, by omega, fun ln hc d4 kvs4 H9 k9 b9 r9 => ?_, fun z => absurd z (ch_here hCh)⟩
    cases hc.det hCh
    rw [hGive]
    obtain ⟨aS, haS, hvS⟩ := hSink3
    have bd9 : Bd K H9 p hRows3 := ⟨dx, l, d4, kvs4, _, b9, r9, hW3, by decide +kernel⟩
    refine ⟨_, rfl, p, dx, _, rfl, b9.slt, p, nSink, hRows3, aS, rfl, bd9, haS, fun H10 k10 => ?_⟩
    rw [hvS]
    have b10 := b9.kp0 k10
    refine ⟨_, rfl, p, dx, _, rfl, b10.slt, _, rfl, p, dx, l, d4, kvs4, _, hRows3, nCup, farI, rfl, b10, r9.kp k10, hW3, by decide +kernel, ?_, fun ln hc d5 kvs5 H11 k11 b11 r11 => ?_, fun z => absurd z (ch_here hCh3)⟩
    · rw [List.length_append]
      show xs1.length + 1 < 900
      omega
    cases hc.det hCh3
    rw [hCall]
    obtain ⟨aC, haC, hvC⟩ := hCup4
    have bd11 : Bd K H11 p hRows4 := ⟨dx, l, d5, kvs5, _, b11, r11, hW4, by decide +kernel⟩
    refine ⟨_, rfl, p, dx, _, rfl, b11.slt, p, nCup, hRows4, aC, rfl, bd11, haC, fun H12 k12 => ?_⟩
    rw [hvC]
    obtain ⟨aL, haL, hvL⟩ := hSink4
    refine ⟨_, rfl, p, dx, _, rfl, (b11.kp0 k12).slt, _, rfl, p, nCup, nSink, farI, hRows4, hLn, 1, aL, rfl, bd11.kp k12, hCh4, rfl, haL, fun H13 k13 => ?_⟩
    rw [hvL]
    have kA : Kp [p, l] H8 H13 := ((k9.trans k10.all).trans k11).trans (k12.trans k13).all
    refine ⟨Nat.le_of_ble_eq_true rfl, fun u hu => ⟨g3, u, _, _, rfl, rfl, (kA.laid hu).at1 hg8 gx7, upd_same, Nat.le_of_ble_eq_true rfl, fun g4 hg4 => ?_⟩⟩
    have hg5 : (upd (upd H13 u (.lst [.int 0, .int farI, .int 0, .int 0, optV (some 0)])) g4 (.lst ([.ref t1, .int 5, .non, .int (3 * (2 * farI - 5)), .ref c1, .non, .non, .non, .int (2 * farI)] ++ [.int 0, .int farI, .int 0, .int 0, optV (some 0)]))) g4 = some (.lst [.ref t1, .int 5, .non, .int (3 * (2 * farI - 5)), .ref c1, .non, .non, .non, .int (2 * farI), .int 0, .int farI, .int 0, .int 0, .int 0]) := upd_same
    have kB : Kp [p, l] H8 (upd (upd H13 u (.lst [.int 0, .int farI, .int 0, .int 0, optV (some 0)])) g4 (.lst ([.ref t1, .int 5, .non, .int (3 * (2 * farI - 5)), .ref c1, .non, .non, .non, .int (2 * farI)] ++ [.int 0, .int farI, .int 0, .int 0, optV (some 0)]))) := (kA.laid hu).laid hg4
    show gName 2 (.ref g4) _ (upd (upd H13 u (.lst [.int 0, .int farI, .int 0, .int 0, optV (some 0)])) g4 (.lst ([.ref t1, .int 5, .non, .int (3 * (2 * farI - 5)), .ref c1, .non, .non, .non, .int (2 * farI)] ++ [.int 0, .int farI, .int 0, .int 0, optV (some 0)]))) _
    generalize (upd (upd H13 u (.lst [.int 0, .int farI, .int 0, .int 0, optV (some 0)])) g4 (.lst ([.ref t1, .int 5, .non, .int (3 * (2 * farI - 5)), .ref c1, .non, .non, .non, .int (2 * farI)] ++ [.int 0, .int farI, .int 0, .int 0, optV (some 0)]))) = H14 at hg5 kB
    refine ⟨_, rfl, _, rfl, _, rfl, Nat.le_of_ble_eq_true rfl, fun v hv => ⟨d3, v, _, _, rfl, rfl, (kB.laid hv).at1 hd8 dx8, upd_same, Nat.le_of_ble_eq_true rfl, fun w2 hw => ?_⟩⟩
    have kC := ((Kp.r0 (H := H14)).laid (o := .lst [.int 0, .int farI, .int 0, .int 0, .int 0]) hv).laid (o := .lst ([.ref t2, .int 5, .non, .int (3 * (2 * farI - 5)), .ref c2, .non, .non, .non, .int (2 * farI)] ++ [.int 0, .int farI, .int 0, .int 0, .int 0])) hw
    have kD := kB.trans kC.all
    have lf : ∀ i : Int, Alk K (upd (upd H14 v (.lst [.int 0, .int farI, .int 0, .int 0, .int 0])) w2 (.lst ([.ref t2, .int 5, .non, .int (3 * (2 * farI - 5)), .ref c2, .non, .non, .non, .int (2 * farI)] ++ [.int 0, .int farI, .int 0, .int 0, .int 0]))) (.int i) (.int i) := fun i => .inl ⟨rfl, .inr ⟨i, rfl⟩⟩
    have lf0 : Alk K (upd (upd H14 v (.lst [.int 0, .int farI, .int 0, .int 0, .int 0])) w2 (.lst ([.ref t2, .int 5, .non, .int (3 * (2 * farI - 5)), .ref c2, .non, .non, .non, .int (2 * farI)] ++ [.int 0, .int farI, .int 0, .int 0, .int 0]))) .non .non := .inl ⟨rfl, .inl rfl⟩
    refine ⟨g4, w2, _, _, rfl, .of (kC.at0 hg5), .of upd_same, Nat.le_of_ble_eq_true rfl, ?_, fun H15 k15 => q H15 (kpSkip2 k06 ((k68.trans kD).trans k15.all) hpn hln)⟩
    refine .cons (.inr ⟨t1, t2, _, rfl, rfl, sqTk0 ht18 kD, sqTk0 ht28 kD, Nat.le_of_ble_eq_true rfl, fun z hz => ?_⟩) (.cons (lf _) (.cons lf0 (.cons (lf _) (.cons (.inr ⟨c1, c2, _, rfl, rfl, sqTk0 hc18 kD, sqTk0 hc28 kD, Nat.le_of_ble_eq_true rfl, fun z hz => ?_⟩) (.cons lf0 (.cons lf0 (.cons lf0 (.cons (lf _) (.cons (lf _) (.cons (lf _) (.cons (lf _) (.cons (lf _) (.cons (lf _) .nil)))))))))))))
    · rcases List.mem_cons.mp hz with e | e
      · exact .inr ⟨_, e⟩
      · exact .inl (List.mem_singleton.mp e)
    · obtain ⟨i, _, rfl⟩ := List.mem_map.mp hz
      exact .inr ⟨i, rfl⟩
end
end K65
set_option Elab.async false
set_option linter.all false
set_option maxRecDepth 100000
set_option maxHeartbeats 4000000
namespace K65
open PySem PySem.Spec PyProof.Rows L2 SlX He
theorem kpSkipF {ex ex' : List Addr} {H H1 H2 : Hp} (a : Kp ex H H1) (b : Kp ex' H1 H2) (h : ∀ c ∈ ex', c ∈ ex ∨ H c = none) : Kp ex H H2 := fun c o n e => b c o (n.imp (fun n z => (h c z).elim n fun z2 => by rw [z2] at e; cases e) id) (a c o n e)
section
variable {P : Program} {w : World} {K : PySem.W.Frag} {mg : Str → Option Value} {base : Heap}
/-! ### all of one box -/
def spRight : Sp := fun vs H Q _ => ∃ (b : Addr) (n : Nat), vs = [.ref b] ∧ BoxAt H b (n + 200) ∧ ∀ H', Kp [b] H H' → BoxAt H' b n → Q (.bl true) H'
theorem ok_right (T : Txt K mg) (BI : BoardI P w K mg base) (P_law_needs_right : Pr P w K mg base CX0 8 "_law_needs_right" spNeeds) (P_law_begun : Pr P w K mg base CX0 3 "_law_begun" (spBegun K)) (P_law_deed : Pr P w K mg base CX0 3 "_law_deed" (spDeed K)) (P_law_done : Pr P w K mg base CX0 8 "_law_done" (spDone K)) (P_Board_names : FnR P w K mg base CX0 1 (pg K "Board" "names") (spNames K)) (P_law_free_right : Pr P w K mg base CX0 8 "_law_free_right" (spFree K)) (P_law_account_right : Pr P w K mg base CX0 9 "_law_account_right" (spAcct K)) : Pr P w K mg base CX0 10 "_law_right" spRight := by
  obtain ⟨fd, F⟩ := T.f_law_right
  refine Pr.of T.g_law_right F.kp (F.ok sc_law_right (fun vs H Q E h => ?_) (fun cdv A outer s H vs Q E hr h => ?_)) (F.bindsN fun _ _ _ _ _ _ us hl => match us, hl with | [_], _ => rfl)
  · obtain ⟨_, _, rfl, _⟩ := h
    rfl
  · obtain ⟨b, n, rfl, hB, q⟩ := h
    refine ⟨_, PSs.nox (pss_cons (ps_if (pt_not (pt_val (pe_g P_law_needs_right (hr.mono (by decide)) pass0 (pa_cons (pv 0) pa_nil)))) (pss_one (ps_ret pe_bl)) pss_nil) (pss_cons (ps_set (i := 1) sc_law_right.nd rfl (.inl rfl) (pe_lst (pa_cons pe_str (pa_cons pe_str (pa_cons pe_str (pa_cons pe_str pa_nil)))))) (pss_cons (ps_asg (pe_tup (pa_cons (pe_mkB0 T BI (hr.mono (by decide))) (pa_cons (pe_g P_law_begun (hr.mono (by decide)) pass0 (pa_cons (pv 0) (pa_cons (pv 1) pa_nil))) pa_nil))) (pg_tup rfl (pgs_cons (pg_name (i := 2) sc_law_right.nd rfl (Or.inr rfl)) (pgs_cons (pg_name (i := 3) sc_law_right.nd rfl (Or.inl rfl)) pgs_nil)))) (pss_cons (ps_for PassesOwn.never rfl (pi_range1 rfl T.z_range (pa_cons pe_int pa_nil)) (pg_name (i := 4) sc_law_right.nd rfl (Or.inl rfl)) (pss_one (ps_set (i := 5) sc_law_right.nd rfl (.inl rfl) (pe_g P_law_done (hr.mono (by decide)) pass0 (pa_cons (pv 2) (pa_cons (pe_ifExp (pt_cmpR op_lt (pv 4) pe_int (nomark _)) (pe_ix ix_list (pv 3) (pv 4) (fun _ _ => rfl)) (pe_g P_law_deed (hr.mono (by decide)) pass0 (pa_cons (pv 0) (pa_cons (pv 1) pa_nil)))) pa_nil)))))) (pss_one (ps_ret (pe_callB (cr_all rfl) (by rfl) T.z_all (by decide +kernel) (pa_cons (pe_lc (own := [("_law_own", 6)]) (g := gName 6) rfl sc_law_right.nd (pi_tup (pe_propSl (E := E0) (pv 2) T.cl_Board T.p_Board_names.at_ T.p_Board_names.get T.p_Board_names.tk T.p_Board_names.rc P_Board_names (hr.mono (by decide)) (fun _ _ _ _ z => z))) (blkOk_by (own := [("_law_own", 6)]) (N := ["_law_box_here", "_law_tags_so", "_law_board", "_law_first_so", "_law_turn", "_law_told", "_law_own"]) (sc := defScope s_law_right) (by decide +kernel)) (fun _ _ _ _ _ => (pg_name (i := 6) sc_law_right.nd rfl (Or.inl rfl))) (fun _ _ _ _ _ => pts_nil) (fun _ _ _ _ _ => (pe_and (pe_g P_law_free_right (hr.mono (by decide)) pass0 (pa_cons (pv 2) (pa_cons (pv 6) pa_nil))) (pe_one (pe_g P_law_account_right (hr.mono (by decide)) pass0 (pa_cons (pv 0) (pa_cons (pv 2) (pa_cons (pv 6) pa_nil)))))))) pa_nil)))))))), ?_⟩
    refine ⟨_, rfl, b, n + 160, rfl, hB, fun H1 k1 hB1 => ⟨_, rfl, iteF ?_⟩⟩
    refine ⟨Nat.le_of_ble_eq_true rfl, fun g hg => ?_⟩
    obtain ⟨tags, htags⟩ : ∃ tags : List Str, tags = [("a" : Str), ("b" : Str), ("cup" : Str), ("tank" : Str)] := ⟨_, rfl⟩
    have hg2 : (upd H1 g (.lst [.str "a", .str "b", .str "cup", .str "tank"])) g = some (.lst (tags.map V.str)) := by rw [upd_same, htags]; rfl
    have k2 : Kp [b] H (upd H1 g (.lst [.str "a", .str "b", .str "cup", .str "tank"])) := k1.laid hg
    have hB2 : BoxAt (upd H1 g (.lst [.str "a", .str "b", .str "cup", .str "tank"])) b (n + 160) := hB1.laid hg
    have hgb : g ≠ b := fun z => hB1.nn (z ▸ hg)
    have htn : tags.Nodup := by rw [htags]; decide
    have htl : tags.length = 4 := by rw [htags]; rfl
    have hgn : H g = none := k1.none hg (by simpa using hgb)
    show tSeq _ _ _ _ (upd H1 g (.lst [.str "a", .str "b", .str "cup", .str "tank"]))
    generalize (upd H1 g (.lst [.str "a", .str "b", .str "cup", .str "tank"])) = H2 at k2 hB2 hg2
    refine fun p dx l d H3 k3 b3 n1 n2 n3 n4 => ?_
    refine ⟨_, rfl, _, rfl, b, g, n + 148, tags, rfl, (hB2.kp k3), hgb, k3.at0 hg2, htn, by omega, by omega, fun a ts H4 k4 hB4 ha hna hts hds => ⟨Nat.le_of_ble_eq_true rfl, fun u hu => ⟨u, _, rfl, .of upd_same, rfl, _, _, rfl, _, _, rfl, rfl, ?_⟩⟩⟩
    have hpb : p ≠ b := fun z => hB2.nn (z ▸ n1)
    have hlb : l ≠ b := fun z => hB2.nn (z ▸ n3)
    have hgp : g ≠ p := fun z => by rw [z, n1] at hg2; cases hg2
    have hgl : g ≠ l := fun z => by rw [z, n3] at hg2; cases hg2
    have hap : a ≠ p := fun z => by rw [z, b3.hp] at hna; cases hna
    have hal : a ≠ l := fun z => by rw [z, b3.hl] at hna; cases hna
    have hab : a ≠ b := fun z => (hB2.kp k3).nn (z ▸ hna)
    have hdxb : dx ≠ b := fun z => hB2.nn (z ▸ n2)
    have hdb : d ≠ b := fun z => hB2.nn (z ▸ n4)
    have hpn : H p = none := k2.none n1 (by simpa using hpb)
    have hln : H l = none := k2.none n3 (by simpa using hlb)
    have b4 := b3.kp k4 (by simpa using hpb) (by simpa using hdxb) (by simpa using hlb) (by simpa using hdb)
    have hg4 : H4 g = some (.lst (tags.map V.str)) := k4.at1 (k3.at0 hg2) (by simpa using hgb)
    have kL : Kp [] H4 (upd H4 u (.tup [.ref p, .ref a])) := Kp.r0.laid hu
    have k5 : Kp [b] H (upd H4 u (.tup [.ref p, .ref a])) := ((k2.trans k3.all).trans k4).trans kL.all
    have b5 := b4.kp0 kL
    have hg5 := kL.at0 hg4
    have ha5 := kL.at0 ha
    have hds5 := hds.kp kL
    have hB5 := hB4.kp kL
    show tSeq _ _ _ _ (upd H4 u (.tup [.ref p, .ref a]))
    generalize (upd H4 u (.tup [.ref p, .ref a])) = H5 at k5 b5 hg5 ha5 hds5 hB5
    clear kL b4 hg4 b3 k3 k4 k2 k1 hg hg2 hB1 hB2 hB4 hu hna ha hds
    have hgx : g ∉ [b, p, l] := by simp [hgb, hgp, hgl]
    have hax : a ∉ [b, p, l] := by simp [hab, hap, hal]
    have hbx : b ∉ [p, l] := by simp [hpb.symm, hlb.symm]
    refine ⟨10, rfl, by decide, by decide, ?_⟩
    refine for_it (walk_range (lo := 0) (n := 10)) (fun i σ H' => Kp [b, p, l] H5 H' ∧ BoxAt H' b (n + 80 + 6 * (10 - i)) ∧ (∃ d2 kvs2 xs2 rows2, BX K H' p dx l d2 kvs2 xs2 ∧ RowsAt K H' kvs2 rows2 ∧ WF rows2 ∧ rows2.length ≤ i ∧ xs2.length ≤ i) ∧ ∃ o4 o5, σ = [some (.ref b), some (.ref g), some (.ref p), some (.ref a), o4, o5, none])
      ⟨Kp.rfl', hB5.mono (by omega), ⟨d, [], [], [], b5, .nil, .nil, Nat.le_refl _, Nat.le_refl _⟩, _, _, rfl⟩ (fun _ _ _ _ _ => trivial) ?_ ?_
    · rintro i x σ H6 H7 hi ⟨k6, hB6, ⟨d2, kvs2, xs2, rows2, b6, r6, W6, l6, x6⟩, o4, o5, rfl⟩ ⟨rfl, hx⟩
      have hx' : x = .int (i : Nat) := hx.trans (congrArg V.int (by omega))
      subst hx'
      clear hx
      refine ⟨_, rfl, _, rfl, _, _, rfl, rfl, _, rfl, dec2 (fun h => ?_) (fun h => ?_)⟩
      · have hi2 : i < ts.length := by omega
        obtain ⟨t, D, et, ht⟩ := hds5 ts[i] (List.getElem_mem hi2)
        refine ⟨_, rfl, _, rfl, _, _, _, _, rfl, rfl, .of (k6.at1 ha5 hax), atI_nat (List.getElem?_eq_getElem hi2), ?_⟩
        rw [et]
        refine ⟨p, t, dx, l, d2, kvs2, xs2, rows2, D, rfl, sqTk0 ht k6, b6, r6, W6, by omega, by omega, fun v H8 d3 kvs3 xs3 rows3 k8 b8 r8 W8 l8 x8 => ?_⟩
        exact ⟨k6.trans (k8.mono fun c hc => List.mem_cons_of_mem _ hc), (hB6.kp1 k8 hbx).mono (by omega), ⟨d3, kvs3, xs3, rows3, b8, r8, W8, by omega, by omega⟩, _, _, rfl⟩
      · refine ⟨_, rfl, _, rfl, b, g, n + 80 + 6 * (10 - (i + 1)), tags, rfl, hB6.mono (by omega), hgb, k6.at1 hg5 hgx, by omega, by omega, fun t D H8 k8 hB8 ht => ?_⟩
        have b8 := b6.kp k8 (by simpa using hpb) (by simpa using hdxb) (by simpa using hlb) (fun z => by
          obtain ⟨c1, c2, c3, c4, _⟩ := hB6
          have e := b6.hd
          rw [List.mem_singleton.mp z, c4] at e
          cases e)
        refine ⟨p, t, dx, l, d2, kvs2, xs2, rows2, D, rfl, ht, b8, r6.kp k8, W6, by omega, by omega, fun v H9 d3 kvs3 xs3 rows3 k9 b9 r9 W9 l9 x9 => ?_⟩
        exact ⟨(k6.trans (k8.mono fun c hc => by rw [List.mem_singleton.mp hc]; exact List.mem_cons_self ..)).trans (k9.mono fun c hc => List.mem_cons_of_mem _ hc), (hB8.kp1 k9 hbx), ⟨d3, kvs3, xs3, rows3, b9, r9, W9, by omega, by omega⟩, _, _, rfl⟩
    rintro σ6 H6 ⟨k6, hB6, ⟨d2, kvs2, xs2, rows2, b6, r6, W6, l6, x6⟩, o4, o5, rfl⟩
    have bd6 : Bd K H6 p rows2 := ⟨dx, l, d2, kvs2, xs2, b6, r6, W6, by omega⟩
    have k06 : Kp [b] H H6 := kpSkipF k5 k6 fun c hc => by
      rcases List.mem_cons.mp hc with e | hc
      · exact .inl (by rw [e]; exact List.mem_cons_self ..)
      · rcases List.mem_cons.mp hc with e | e
        · exact .inr (by rw [e]; exact hpn)
        · exact .inr (by rw [List.mem_singleton.mp e]; exact hln)
    refine ⟨_, rfl, p, dx, _, rfl, b6.slt, p, rows2, rfl, bd6, fun t ys H7 k7 hperm ht => ⟨t, rfl, ⟨_, ht⟩, ?_⟩⟩
    have hyl : ys.length = rows2.length := by rw [hperm.length_eq, List.length_map]
    have b7 := b6.kp0 k7
    have hB7 : BoxAt H7 b (n + 6 * (10 - 0)) := (hB6.kp k7).mono (by omega)
    have k07 := k06.trans k7.all
    have b7' : ∀ {H' : Hp}, Kp [b] H7 H' → BX K H' p dx l d2 kvs2 xs2 := fun k => b7.kp k (by simpa using hpb) (by simpa using hdxb) (by simpa using hlb) (fun z => by
          obtain ⟨c1, c2, c3, c4, _⟩ := hB7
          have e := b7.hd
          rw [List.mem_singleton.mp z, c4] at e
          cases e)
    have r7 := r6.kp k7
    refine lc_gen (walk_tup (xs := ys.map V.str)) [b] (fun i H' => BoxAt H' b (n + 6 * (10 - i))) (fun i y _ => y = .bl true) (by rw [List.length_map]; unfold sizeLine; omega) tts_true (fun c hc => by rw [List.mem_singleton.mp hc]; exact hB7.nn) hB7 (fun i D H' o hD h => ?_) (fun _ _ _ k _ => sqTk0 ht k) (fun _ _ _ _ _ _ _ z => z) ?_ (gName_mono 6) ?_
    · obtain ⟨z1, z2, z3, z0, zr⟩ := h
      exact ⟨z1, z2, z3, by rw [upd_ne (fun z : b = D => hB7.nn (z ▸ hD))]; exact z0, zr⟩
    · rintro i x H8 H9 hi k8 hB8 ⟨rfl, hxi⟩
      rw [List.length_map] at hi
      obtain ⟨nm, hnm, rfl⟩ := str_at hxi
      have b8 := b7' k8
      have bd8 : Bd K H9 p rows2 := ⟨dx, l, d2, kvs2, xs2, b8, r7.kp k8, W6, by omega⟩
      have hmem : getR rows2 nm ≠ none := fun z => by
        have := getR_some.mpr (hperm.mem_iff.mp (List.mem_of_getElem? hnm))
        rw [z] at this
        cases this
      refine ⟨rfl, fun R hR => ⟨_, rfl, _, rfl, p, nm, rows2, rfl, bd8, hmem, fun H10 k10 => ⟨_, rfl, iteT' rfl ⟨_, rfl, _, rfl, _, rfl, b, p, dx, l, d2, nm, kvs2, xs2, rows2, n + 6 * (10 - (i + 1)), rfl, (hB8.kp k10).mono (by omega), b8.kp0 k10, hlb, (r7.kp k8).kp k10, W6, by omega, hmem, fun H11 k11 hB11 => hR _ H11 (k10.all.trans k11) hB11 rfl⟩⟩⟩⟩
    · intro D H8 zs k8 hDn hD hB8 hzl hz
      refine ⟨D, _, rfl, .of (by rw [hD, bl_rep hz]), ?_⟩
      rw [all_true]
      exact q H8 (k07.trans k8) (hB8.mono (by omega))
end
end K65
set_option Elab.async false
set_option linter.all false
set_option maxRecDepth 100000
set_option maxHeartbeats 4000000
namespace K65
open PySem PySem.Spec PyProof.Rows L2 SlX He
theorem walk_enum {K : PySem.W.Frag} {a : Addr} {xs : List V} : Walk (Ite K a) xs.length (fun H => SqL K H a xs) (fun i H v H' => ∃ T x, v = .ref T ∧ H T = none ∧ H' = upd H T (.tup [.int (i : Nat), x]) ∧ xs[i]? = some x) :=
  ⟨fun i _ hi q => ⟨xs, xs[i], q, by simp [hi]⟩, fun _ q => ⟨xs, q, Nat.le_refl _⟩, fun _ _ _ _ _ q ⟨T, x, e1, e2, e3, y⟩ => ⟨T, x, e1, e2, e3, y xs q⟩⟩
theorem cut_ints (ns : List Int) (lo hi : Option Int) : ∃ ms : List Int, cutV (ns.map V.int) lo hi = ms.map V.int := by
  unfold cutV
  rw [← List.map_drop, ← List.map_take]
  exact ⟨_, rfl⟩
theorem cut_len (xs : List V) (j k : Nat) : (cutV xs (some (j : Int)) (some (k : Int))).length ≤ xs.length - min j xs.length := by
  unfold cutV
  rw [HT.sIx_nat, HT.sIx_nat, List.length_take, List.length_drop]
  omega
section
variable {P : Program} {w : World} {K : PySem.W.Frag} {mg : Str → Option Value} {base : Heap}
/-! ### the first numbers, with the later ones added -/
def spCells (K : PySem.W.Frag) : Sp := fun vs H Q _ => ∃ (a : Addr) (ns : List Int), vs = [.ref a, .int 3] ∧ SqL K H a (ns.map V.int) ∧ ns.length < 1000 ∧ ∀ (c : Addr) (cs : List Int) H', Kp [] H H' → H' c = some (.lst (cs.map V.int)) → cs.length ≤ 3 → Q (.ref c) H'
theorem ok_cells (T : Txt K mg) : Pr P w K mg base CX0 1 "_law_cells" (spCells K) := by
  obtain ⟨fd, F⟩ := T.f_law_cells
  refine Pr.of T.g_law_cells F.kp (F.ok sc_law_cells (fun vs H Q E h => ?_) (fun cdv A outer s H vs Q E hr h => ?_)) (F.bindsN fun _ _ _ _ _ _ us hl => match us, hl with | [_, _], _ => rfl)
  · obtain ⟨_, _, rfl, _⟩ := h
    rfl
  · obtain ⟨a, ns, rfl, ha, hl, q⟩ := h
    refine ⟨_, PSs.nox (pss_cons (ps_set (i := 2) sc_law_cells.nd rfl (.inl rfl) (pe_orT (pe_callTy call_list_of (by rfl) T.z_list (by decide +kernel) (pa_cons (pe_slice sl_list (pv 0) po_none (po_some (pv 1))) pa_nil)) (pe_one (pe_lst (pa_cons pe_int pa_nil))))) (pss_cons (ps_for PassesOwn.never rfl (pi_enum rfl T.z_enumerate (pa_cons (pe_slice sl_list (pv 0) (po_some (pv 1)) (po_some pe_int)) pa_nil)) (pg_tup rfl (pgs_cons (pg_name (i := 3) sc_law_cells.nd rfl (Or.inl rfl)) (pgs_cons (pg_name (i := 4) sc_law_cells.nd rfl (Or.inl rfl)) pgs_nil))) (pss_cons (ps_set (i := 5) sc_law_cells.nd rfl (.inl rfl) (pe_op op_mod (pe_callTy call_int1 (by rfl) T.z_int (by decide +kernel) (pa_cons (pv 3) pa_nil)) (pv 1))) (pss_one (ps_asg (pe_op op_add (pe_ix ix_list (pv 2) (pv 5) (fun _ _ => rfl)) (pe_op op_mul (pv 4) (pe_op op_add (pv 3) pe_int))) (pg_sub (pv 2) (pv 5) set_list))))) (pss_one (ps_ret (pv 2))))), ?_⟩
    obtain ⟨xs, hxs⟩ : ∃ xs, xs = ns.map V.int := ⟨_, rfl⟩
    rw [← hxs] at ha
    have hxl : xs.length = ns.length := by rw [hxs, List.length_map]
    refine seq_mid (fun σ' H' => ∃ (c : Addr) (cs : List Int), Kp [] H H' ∧ H' c = some (.lst (cs.map V.int)) ∧ H c = none ∧ cs.length ≤ 3 ∧ (3 < ns.length → cs.length = 3) ∧ σ' = [some (.ref a), some (.int 3), some (.ref c), none, none, none]) (fun R hR => ?_) ?_
    · refine ⟨_, rfl, ?_⟩
      unfold tNoPart
      refine ⟨_, rfl, _, rfl, a, xs, rfl, ha, fun p1 hp1 => ⟨p1, _, rfl, .inl (.of upd_same), fun c hc => ?_⟩⟩
      have e3 : cutV xs none (some ((3 : Nat) : Int)) = xs.take 3 := cut_take xs 3
      have e3' : cutV xs none (some (3 : Int)) = xs.take 3 := e3
      rw [e3'] at hc ⊢
      have k1 : Kp [] H (upd (upd H p1 (.lst (xs.take 3))) c (.lst (xs.take 3))) := (Kp.r0.laid hp1).laid hc
      have hcn : H c = none := (Kp.r0.laid (o := .lst (xs.take 3)) hp1).none0 hc
      have hc2 : (upd (upd H p1 (.lst (xs.take 3))) c (.lst (xs.take 3))) c = some (.lst (xs.take 3)) := upd_same
      have htk : xs.take 3 = (ns.take 3).map V.int := by rw [hxs, List.map_take]
      cases hns : ns with
      | nil =>
        have e0 : xs.take 3 = [] := by rw [htk, hns]; rfl
        rw [e0] at hc2 ⊢
        refine ⟨false, .inl ⟨_, .of upd_same, rfl⟩, iteF' rfl ⟨Nat.le_of_ble_eq_true rfl, fun c3 hc3 => hR _ _ ⟨c3, [0], ?_, upd_same, ?_, by decide, fun z => absurd z (by rw [hns]; decide), rfl⟩⟩⟩
        · rw [e0] at k1
          exact k1.laid hc3
        · rw [e0] at k1
          exact k1.none0 hc3
      | cons n0 nr =>
        rw [hns] at htk
        refine ⟨true, .inl ⟨_, .of upd_same, by rw [htk]; rfl⟩, iteT' rfl (hR _ _ ⟨c, (n0 :: nr).take 3, k1, by rw [← htk]; exact hc2, hcn, by rw [List.length_take]; omega, fun z => by rw [hns] at z; rw [List.length_take]; omega, rfl⟩)⟩
    rintro σ1 H1 ⟨c, cs, k1, hc, hcn, hcl, hc3, rfl⟩
    refine ⟨_, rfl, _, rfl, _, rfl, _, rfl, a, xs, rfl, sqLk0 ha k1, fun p2 hp2 => ?_⟩
    obtain ⟨ms, hms⟩ := cut_ints ns (some 3) (some 63)
    have hml : ms.length ≤ ns.length - min 3 ns.length := by
      have h1 := cut_len (ns.map V.int) 3 63
      have h2 : cutV (ns.map V.int) (some ((3 : Nat) : Int)) (some ((63 : Nat) : Int)) = ms.map V.int := hms
      rw [h2, List.length_map, List.length_map] at h1
      exact h1
    rw [hxs, hms]
    have k2 : Kp [] H1 (upd H1 p2 (.lst (ms.map V.int))) := Kp.r0.laid hp2
    have hp22 : (upd H1 p2 (.lst (ms.map V.int))) p2 = some (.lst (ms.map V.int)) := upd_same
    have hc2 := k2.at0 hc
    have hpc : p2 ≠ c := fun z => by rw [z, hc] at hp2; cases hp2
    have k12 := k1.trans k2
    show tNil _ (upd H1 p2 (.lst (ms.map V.int))) _
    generalize (upd H1 p2 (.lst (ms.map V.int))) = H2 at k2 hp22 hc2 k12
    refine ⟨p2, _, rfl, .of hp22, for_it (walk_enum (xs := ms.map V.int)) (fun i σ H' => Kp [c] H2 H' ∧ (∃ cs' : List Int, H' c = some (.lst (cs'.map V.int)) ∧ cs'.length = cs.length) ∧ ∃ o3 o4 o5, σ = [some (.ref a), some (.int 3), some (.ref c), o3, o4, o5]) ⟨Kp.rfl', ⟨cs, hc2, rfl⟩, _, _, _, rfl⟩ (fun i σ H' _ z => .of (z.1.at1 hp22 (by simpa using hpc))) ?_ ?_⟩
    · rintro i x σ H3 H4 hi ⟨k, ⟨cs2, hcs, hcl2⟩, o3, o4, o5, rfl⟩ ⟨t, y, rfl, ht, rfl, hy⟩
      obtain ⟨z, hz, rfl⟩ := map_int_at hy
      rw [List.length_map] at hi
      have hcs3 : cs2.length = 3 := by rw [hcl2]; exact hc3 (by omega)
      refine ⟨t, _, rfl, .of upd_same, rfl, _, _, rfl, _, _, rfl, rfl, ?_⟩
      have kt : Kp [] H3 (upd H3 t (.tup [.int (i : Nat), .int z])) := Kp.r0.laid ht
      have hcs4 := kt.at0 hcs
      refine ⟨_, rfl, .inl ⟨_, rfl, _, rfl, _, _, rfl, rfl, (show (0 : Int) < 3 by decide), ?_⟩⟩
      have em : ((i : Nat) : Int) % 3 = ((i % 3 : Nat) : Int) := by omega
      have hi3 : i % 3 < cs2.length := by omega
      have hat : atI (cs2.map V.int) (((i : Nat) : Int) % 3) = some (.int cs2[i % 3]) := by
        rw [em]
        exact atI_nat (by rw [List.getElem?_map, List.getElem?_eq_getElem hi3]; rfl)
      have hix : ixN (cs2.map V.int).length (((i : Nat) : Int) % 3) = some (i % 3) := by
        rw [em]
        exact ixN_nat (by rw [List.length_map]; exact hi3)
      refine ⟨_, rfl, _, rfl, _, _, _, _, rfl, rfl, .of hcs4, hat, _, rfl, _, rfl, _, _, rfl, rfl, _, _, rfl, rfl, .inr ⟨by omega, by omega⟩, _, _, rfl, rfl, ?_⟩
      refine ⟨_, rfl, _, rfl, c, _, _, i % 3, rfl, rfl, hcs4, hix, (k.trans kt.all).out (List.mem_cons_self ..) (fun o ho => ?_), ⟨cs2.set (i % 3) (cs2[i % 3] + z * (((i : Nat) : Int) + 2)), ?_, by rw [List.length_set]; exact hcl2⟩, _, _, _, rfl⟩
      · rw [hc2] at ho
        cases ho
        exact fun z => z
      · rw [upd_same, List.map_set]
    · rintro σ3 H3 ⟨k, ⟨cs2, hcs, hcl2⟩, o3, o4, o5, rfl⟩
      exact ⟨_, rfl, q c cs2 H3 (kpSkipE k12 k fun y hy => by rw [List.mem_singleton.mp hy]; exact hcn) hcs (by omega)⟩
end
end K65
set_option Elab.async false
set_option linter.all false
set_option maxRecDepth 100000
set_option maxHeartbeats 4000000
namespace K65
open PySem PySem.Spec PyProof.Rows L2 SlX He
section
variable {X : Cx} {CX : CXT} {k : Nat} {x : Str} {sp : Sp} {E : XK} {p pos : Pos}
theorem pe_g0 (q : Pr X.prog X.w X.K X.mg X.base CX k x sp) (hr : Room k X.A) (hx : Passes CX X E) (hg : Gl X x := by rfl) (hd : (x == ("__debug__" : Str)) = false := by decide) : PE X (.Call (.Name x p) [] [] pos) (tG sp E tNil) := by
  refine ⟨fun pins s σ H Q I h => ?_⟩
  refine wpAny_Call_Name_kw (ld_glob I hg q.hm ?_ hd)
  exact PySem.W.callWith_K0 I.kIn q.hk (wpAny_call (run_fnR (us := []) q.F hr hx I .nil h))
end
section
variable {P : Program} {w : World} {K : PySem.W.Frag} {mg : Str → Option Value} {base : Heap}
/-! ### the law -/
def spLaw (K : PySem.W.Frag) : Sp := fun vs H Q _ => ∃ (a : Addr) (ns : List Int), vs = [.ref a] ∧ SqL K H a (ns.map V.int) ∧ ns.length < 1000 ∧ ∀ H', Q (.bl true) H'
theorem ok_law (T : Txt K mg) (P_law_by_hand_right : Pr P w K mg base CX0 8 "_law_by_hand_right" spHandR) (P_law_cells : Pr P w K mg base CX0 1 "_law_cells" (spCells K)) (P_law_box : Pr P w K mg base CX0 1 "_law_box" (spBox K)) (P_law_right : Pr P w K mg base CX0 10 "_law_right" spRight) : ∃ fd, FunD K "law" "law" (defArgs s_law) (defBody s_law) (defScope s_law) [] [] (ga K "law") fd ∧ FnOk P w K mg base CX0 11 (ga K "law") fd ["_law_script"] (spLaw K) := by
  obtain ⟨fd, F⟩ := T.f_law
  refine ⟨fd, F, F.ok sc_law (fun vs H Q E h => ?_) (fun cdv A outer s H vs Q E hr h => ?_)⟩
  · obtain ⟨_, _, rfl, _⟩ := h
    rfl
  · obtain ⟨a, ns, rfl, ha, hl, q⟩ := h
    refine ⟨_, PSs.nox (pss_cons (ps_if (pt_not (pt_val (pe_g0 P_law_by_hand_right (hr.mono (by decide)) pass0))) (pss_one (ps_ret pe_bl)) pss_nil) (pss_cons (ps_set (i := 1) sc_law.nd rfl (.inl rfl) (pe_g P_law_cells (hr.mono (by decide)) pass0 (pa_cons (pv 0) (pa_cons pe_int pa_nil)))) (pss_cons (ps_for PassesOwn.never rfl (pi_range1 rfl T.z_range (pa_cons (pe_callB call_len_seq (by rfl) T.z_len PySem.boot_len (pa_cons (pv 1) pa_nil)) pa_nil)) (pg_name (i := 2) sc_law.nd rfl (Or.inl rfl)) (pss_cons (ps_set (i := 3) sc_law.nd rfl (.inr rfl) (pe_g P_law_box (hr.mono (by decide)) pass0 (pa_cons (pv 1) (pa_cons (pv 2) pa_nil)))) (pss_one (ps_if (pt_not (pt_val (pe_callB (cr_all rfl) (by rfl) T.z_all (by decide +kernel) (pa_cons (pe_lc (own := [("_law_turn", 4)]) (g := gName 4) rfl sc_law.nd (pi_range1 rfl T.z_range (pa_cons pe_int pa_nil)) (blkOk_by (own := [("_law_turn", 4)]) (N := ["_law_script", "_law_cells_so", "_law_k", "_law_box_here", "_law_turn"]) (sc := defScope s_law) (by decide +kernel)) (fun _ _ _ _ _ => (pg_name (i := 4) sc_law.nd rfl (Or.inl rfl))) (fun _ _ _ _ _ => pts_nil) (fun _ _ _ _ _ => (pe_g P_law_right (hr.mono (by decide)) pass0 (pa_cons (pv 3) pa_nil)))) pa_nil)))) (pss_one (ps_ret pe_bl)) pss_nil)))) (pss_one (ps_ret pe_bl))))), ?_⟩
    refine ⟨rfl, fun H1 k1 => ⟨_, rfl, iteF ?_⟩⟩
    refine ⟨_, rfl, a, ns, rfl, sqLk0 ha k1, hl, fun c cs H2 k2 hc hcl => ?_⟩
    have hcl2 : ((cs.map V.int).length : Int) = cs.length := by rw [List.length_map]
    refine ⟨_, rfl, c, _, rfl, .inl (.of hc), _, rfl, by omega, by omega, ?_⟩
    have en : (((cs.map V.int).length : Nat) : Int).toNat = cs.length := by rw [List.length_map]; omega
    rw [en]
    refine for_it (walk_range (lo := 0) (n := cs.length)) (fun i σ H' => Kp [] H2 H' ∧ ∃ o2 o3, σ = [some (.ref a), some (.ref c), o2, o3, none]) ⟨Kp.r0, _, _, rfl⟩ (fun _ _ _ _ _ => trivial) ?_ ?_
    · rintro i x σ H3 H4 hi ⟨k, o2, o3, rfl⟩ ⟨rfl, hx⟩
      have hx' : x = .int (i : Nat) := hx.trans (congrArg V.int (by omega))
      subst hx'
      clear hx
      refine ⟨_, rfl, _, rfl, c, cs, i, rfl, .of (k.at0 hc), by omega, fun b H5 k5 hB hbn => ?_⟩
      refine ⟨4, rfl, by decide, by decide, ?_⟩
      have hB0 : BoxAt H5 b (200 * (4 - 0)) := hB.mono (by decide)
      refine lc_gen (walk_range (lo := 0) (n := 4)) [b] (fun i H' => BoxAt H' b (200 * (4 - i))) (fun i y _ => y = .bl true) (Nat.le_of_ble_eq_true rfl) tts_true (fun c hc => by rw [List.mem_singleton.mp hc]; exact hB0.nn) hB0 (fun i D H' o hD h => ?_) (fun _ _ _ _ _ => trivial) (fun _ _ _ _ _ _ _ z => z) ?_ (gName_mono 4) ?_
      · obtain ⟨z1, z2, z3, z0, zr⟩ := h
        exact ⟨z1, z2, z3, by rw [upd_ne (fun z : b = D => hB0.nn (z ▸ hD))]; exact z0, zr⟩
      · rintro j x1 H6 H7 hj k6 hI ⟨rfl, rfl⟩
        exact ⟨rfl, fun R hR => ⟨_, rfl, b, 200 * (4 - (j + 1)), rfl, by
          have e : 200 * (4 - (j + 1)) + 200 = 200 * (4 - j) := by omega
          rw [e]; exact hI, fun H8 k8 hB8 => hR _ H8 k8 hB8 rfl⟩⟩
      · intro D H6 ys k6 hDn hD hB6 hyl hz
        refine ⟨D, _, rfl, .of (by rw [hD, bl_rep hz]), ?_⟩
        rw [all_true]
        exact ⟨_, rfl, iteF ⟨k.trans (kpSkipE k5 k6 fun y hy => by rw [List.mem_singleton.mp hy]; exact hbn), _, _, rfl⟩⟩
    · rintro σ3 H3 ⟨k, o2, o3, rfl⟩
      exact q H3
end
end K65
set_option Elab.async false
set_option linter.all false
set_option maxRecDepth 100000
set_option maxHeartbeats 4000000
namespace K65
open PySem PySem.Spec PyProof.Rows L2 SlX He
section
variable {P : Program} {w : World} {K : PySem.W.Frag} {mg : Str → Option Value} {base : Heap}
/-! ### all of it -/
theorem law_all (T : Txt K mg) (M : ∀ wd, KDct K w (ga K "MIRRORED") (wdS wd) (.str (wdS (swapW wd)))) : ∃ fd, FunD K "law" "law" (defArgs s_law) (defBody s_law) (defScope s_law) [] [] (ga K "law") fd ∧ FnOk P w K mg base CX0 11 (ga K "law") fd ["_law_script"] (spLaw K) := by
  have about : Pr P w K mg base _ _ _ _ := ok_about T
  have after : Pr P w K mg base _ _ _ _ := ok_after T
  have back : MB P w K mg base 1 "back" (spBack K) := ok_back T
  have behind : Pr P w K mg base _ _ _ _ := ok_behind T
  have BI : BoardI P w K mg base := ok_board_init T
  have WI : WayI P w K mg base := ok_way_init T
  have bought : Pr P w K mg base _ _ _ _ := ok_bought T
  have box : Pr P w K mg base _ _ _ _ := ok_box T
  have cells : Pr P w K mg base _ _ _ _ := ok_cells T
  have cross : Pr P w K mg base _ _ _ _ := ok_cross T
  have eqB : MB P w K mg base 1 "__eq__" (spEqB K) := ok_eqB T
  have has : MB P w K mg base 1 "__contains__" (spHas K) := ok_has T
  have inside : Pr P w K mg base _ _ _ _ := ok_inside T
  have keep : MB P w K mg base 1 "keep" (spKeep K) := ok_keep T
  have kept : Pr P w K mg base _ _ _ _ := ok_kept T
  have many : Pr P w K mg base _ _ _ _ := ok_many T
  have named : Pr P w K mg base _ _ _ _ := ok_named T
  have names : FnR P w K mg base CX0 1 (pg K "Board" "names") (spNames K) := ok_names T
  have price : Pr P w K mg base _ _ _ _ := ok_price T
  have same0 : Pr P w K mg base _ _ _ _ := ok_same0 T
  have sum : Pr P w K mg base _ _ _ _ := ok_sum T
  have take : Pr P w K mg base _ _ _ _ := ok_take T
  have tup1 : Pr P w K mg base _ _ _ _ := ok_tup_leaf T
  have under : Pr P w K mg base _ _ _ _ := ok_under T
  have wcap : FnR P w K mg base CX0 1 (pg K "Way" "cap") (spWayF K (·.cp)) := ok_way_cap T
  have wfloor : FnR P w K mg base CX0 1 (pg K "Way" "floor") (spWayF K (·.fl)) := ok_way_floor T
  have wshift : FnR P w K mg base CX0 1 (pg K "Way" "shift") (spWayF K (·.sh)) := ok_way_shift T
  have xNoName : XI1 P w K mg base "NoName" "name" := xi_NoName T
  have xTaken : XI1 P w K mg base "Taken" "name" := xi_Taken T
  have xOutside : XI1 P w K mg base "Outside" "number" := xi_Outside T
  have xNeeded : XI1 P w K mg base "Needed" "name" := xi_Needed T
  have xRing : XI1 P w K mg base "Ring" "name" := xi_Ring T
  have xCrossed : XI2 P w K mg base := xi_Crossed T
  have wcall := ok_way_call T kept
  have wthen := ok_way_then T WI kept wshift wfloor wcap
  have starts := ok_starts T wshift wfloor wcap
  have wayof := ok_way_of T WI wthen
  have endof := ok_end T behind
  have levels := ok_levels T behind
  have parts := ok_parts T endof wayof starts
  have adds := ok_adds T parts
  have floors := ok_floors T parts
  have caps := ok_caps T parts
  have cap := ok_cap T endof levels under
  have floor := ok_floor T M cap
  have tup2 := ok_tup_ev T tup1
  have tup3 := ok_tup_row T tup2
  have adds2 := ok_adds2 T many tup3
  have amounts := ok_amounts T many bought price
  have cheapest := ok_cheapest T amounts price
  have of_ := ok_of T take
  have pick := ok_pick T take
  have event := ok_event T take of_
  have final := ok_final T after
  have great := ok_great T take of_ event
  have put := ok_put T final
  have gap := ok_gap T adds floors caps about put inside
  have keptend := ok_kept_end T after
  have bounds := ok_bounds T final cap floor keptend
  have needs := ok_needs T take great final gap bounds amounts cheapest adds2 price
  have same1 := ok_same1 T same0
  have same2 := ok_same2 T same0 same1
  have check : MX P w K mg base 3 "check" (spCheck K) := ok_check T has xNoName
  have getitem := ok_getitem T check
  have heir := ok_heir T check
  have boundsof := ok_bounds_of T check
  have chain := ok_chain T check heir
  have hand := ok_hand T kept
  have give := ok_give T hand chain keep
  have callB := ok_callB T give
  have rule := ok_rule T check cross kept getitem heir keep xCrossed
  have leave := ok_leave T check chain keep xRing
  have shut := ok_shut T check names heir keep xNeeded
  have admits : MX P w K mg base 4 "admit" (spAdmit K) ∧ MX P w K mg base 4 "admit" (spAdmit3 K) := by
    obtain ⟨fdA, FA, okA⟩ := okf_admit T has cross kept check keep xTaken xOutside xCrossed
    constructor
    · obtain ⟨ds, hv, hb⟩ := FA.binds1 (ps := ["self", "name", "level", "low", "high", "heir"]) 6 3 (by decide) rfl fun _ _ _ _ _ _ _ us its hu hi => match us, hu, its, hi with | [_, _, _, _, _, _], _, [_, _, _], _ => ⟨_, rfl, rfl⟩
      exact (okA.raw hb hv).imp fun vs H Q E h => by
        show spAdmit K (vs ++ []) H Q E
        rw [List.append_nil]
        exact h
    · obtain ⟨ds, hv, hb⟩ := FA.binds1 (ps := ["self", "name", "level", "low", "high", "heir"]) 4 1 (by decide) rfl fun _ _ _ _ _ _ _ us its hu hi => match us, hu, its, hi with | [_, _, _, _], _, [_, _, _], _ => ⟨_, rfl, rfl⟩
      exact (okA.raw hb hv).imp fun vs H Q E h => h
  obtain ⟨admit, admit3⟩ := admits
  have twin := ok_twin T BI
  have room := ok_room T chain sum
  have stock := ok_stock T chain sum
  have foresee := ok_foresee T chain hand
  have ahead := ok_ahead T chain
  have leastg := ok_least_gift T ahead getitem boundsof sum
  have leastc := ok_least_call T ahead getitem boundsof sum
  have ways := ok_ways T WI chain boundsof sum wthen
  have done_ := ok_done T admit give callB rule leave shut named
  have deed := ok_deed T take of_
  have begun := ok_begun T take of_ pick
  have sums := ok_sums T getitem
  have free := ok_free T twin room stock give callB
  have acct := ok_acct T chain take twin leastg leastc foresee give callB ways sums wcall same2 getitem back eqB
  have right := ok_right T BI needs begun deed done_ names free acct
  have byhand := ok_by_hand T BI adds cap floor amounts cheapest admit3 admit room stock give callB getitem leastg same2
  exact ok_law T byhand cells box right
end
end K65
set_option Elab.async false
set_option linter.all false
set_option maxRecDepth 100000
set_option maxHeartbeats 0
namespace K65
open PySem PySem.Spec PyProof.Rows L2 SlX He
theorem fd_eq {K : PySem.W.Frag} {x qual : Str} {params : Arguments} {body : List Stmt} {scope : Scope} {dvs : List V} {kws : List (Str × V)} {f : Addr} {fd fd2 : FuncData} (F : FunD K x qual params body scope dvs kws f fd) (F2 : FunD K x qual params body scope dvs kws f fd2) : fd2 = fd := by
  obtain ⟨_, _, _, _, _, _, _, _, _, _, _, lk, _⟩ := F.ex
  obtain ⟨_, _, _, _, _, _, _, _, _, _, _, lk2, _⟩ := F2.ex
  rw [lk] at lk2
  cases lk2
  rfl
theorem mir_all {K : PySem.W.Frag} {w : World} (c : obsO K = valK w) (wd : Wd) : KDct K w (ga K "MIRRORED") (wdS wd) (.str (wdS (swapW wd))) := by
  obtain ⟨es, n, hk⟩ := mir_of c
  have hb := mirB_of c
  unfold mirB at hb
  have step : ∀ (a b : String), (a, b) ∈ [("add", "add"), ("floor", "cap"), ("cap", "floor")] → KDct K w (ga K "MIRRORED") (Str.ofString a) (.str (Str.ofString b)) := by
    intro a b hm
    have h := List.all_eq_true.mp hb (a, b) hm
    dsimp only at h
    split at h
    · rename_i u e
      exact ⟨es, n, u, hk.at_, hk.lit, e, He.relB_ok h⟩
    · cases h
  cases wd with
  | add => exact step "add" "add" (by simp)
  | floor => exact step "floor" "cap" (by simp)
  | cap => exact step "cap" "floor" (by simp)
theorem facts {P : Program} {w : World} {K : PySem.W.Frag} {h : Heap} {mg : Str → Option Value} {f : Addr} (X : K.In h) (G : h.Ns mainGlobals mg) (hfa : mg ("law" : Str) = some (.ref f)) (c : obsO K = valK w) :
    ∃ fd : FuncData, (∀ (s : Shared) (v : Value), BindsTo s fd ⟨[v], []⟩ [("_law_script", v)]) ∧ ∀ base : Heap, K.In base → base.Ns mainGlobals mg → FnOk P w K mg base CX0 11 f fd ["_law_script"] (spLaw K) := by
  have T := txt_of X G c
  have e := hfa.symm.trans T.g_law
  cases e
  obtain ⟨fd, F⟩ := T.f_law
  have b := FunD.bindsA (ps := ["_law_script"]) F fun _ _ _ _ _ _ us hl => match us, hl with | [_], _ => rfl
  refine ⟨fd, fun s v => b s [v] rfl, fun base _ _ => ?_⟩
  obtain ⟨fd2, F2, ok⟩ := law_all (P := P) (w := w) (base := base) T (mir_all c)
  exact fd_eq F F2 ▸ ok
end K65
open PySem PySem.W PySem.Calls PyProof.Rows
theorem PySem.Challenge.cw_boundedlevels_k65_whole_boards_and_what_holds : PySem.Challenge.rw_boundedlevels_k65_whole_boards_and_what.Holds := by
  w_on; o_law
  refine HandSHeadRun.head_any (r := K65.RR) (q := K65.qv) (H := K65.hookK) (ob := K65.obK) (M := 7000) (loose := K65.names) (d := HandSHeadRun.topDef K65.RR.prog 74) (kwd := []) K65.obK_eq
    (by kernel_rfl) (fun s => by kernel_rfl) K65.run (by kernel_rfl) (by kernel_rfl) (by kernel_rfl) (by rfl) (by first | assumption | decide +kernel) (by decide +kernel) ⟨rfl, rfl, rfl, rfl, rfl, by decide +kernel⟩ ?hw ?hc
  case hw => w_witness2
  case hc =>
    refine L2.walk_ofE (l := PySem.Challenge.rw_boundedlevels_k65_whole_boards_and_what) (n := 63) (k := 11) (x := "_law_script") (CX := L2.CX0) rfl (by decide) (by kernel_rfl) ⟨rfl, by decide, by decide⟩ ?F (fun _ _ _ _ z => z)
    intro w mg fa h Y G hmg0
    obtain ⟨K, KX, c⟩ := Y
    have hmg : mg ("law" : PySem.Str) = some (.ref fa) := by
      have e : (HandSHeadRun.topDef K65.RR.prog 74).name = ("law" : PySem.Str) := by kernel_rfl
      rw [← e]
      exact hmg0
    obtain ⟨fd, hb, hF⟩ := K65.facts (P := (PySem.Challenge.rw_boundedlevels_k65_whole_boards_and_what).prog) (w := w) KX G hmg c
    exact ⟨K, fd, K65.spLaw K, KX, hb, fun H a ns hl _ hS => ⟨a, ns, rfl, hS, by omega, fun _ => rfl⟩, hF⟩
