import PyProof.Rows.All
import Wide.All
import OpenK.AllK
import Wide.FinOn
import HandS.ForMost
import HandS.ForExc
import HandS.More
import HandS.Defaults
import HandS.MakeKw
import HandS.MakeKwOnly
import HandS.Codes
import HandS.HeadHook1
import HandS.HeadHook2
import HandS.HeadHook3
import KE.KExcInit
import PySem.Challenge.RW_wordkept_k76_whole_answers_and_verdicts
import KE.KStateDown
import HandS.Head0
import HandS.Head1
import HandS.Head2
import HandS.HeadEnd
import HandS.CallLocal
import HandS.IsInst
import HandS.Zip
import HandS.Deep
import HandS.TupAny
import HandS.TryOnly
import HandS.Walk
import HandS.TupLe
import HandS.SortKw
import KE.DataMinMax
import HandS.SetFor
import HandS.Strs
import HandS.Iter
import KE.GoesMore
import HandS.Conv
import HandS.ExcValue
import KE.GoesZip
import KE.GoesEnum
import KE.KDictItemsList
import HandS.Exc
import HandS.ExcInit
import HandS.WordsDict
import KE.SortData
import KE.SortKeyHeap
section
set_option Elab.async false
set_option linter.all false
set_option maxRecDepth 100000
/-! The text by places, the scopes of the defs that the law reaches, the facts of the written part (printed by gen_txt.py). -/
namespace Wk
open PySem L2
def top (i : Nat) : Stmt := PySem.Challenge.pw_wordkept_k76_whole_answers_and_verdicts.main.body.getD i (.Pass ⟨0, 0, 0, 0⟩)
abbrev s_NoSuch_init : Stmt := inClass (top 3) 0
abbrev N_NoSuch_init : List Str := ["self", "what", "name"]
theorem sc_NoSuch_init : FnScope N_NoSuch_init ["self", "what", "name"] (defScope s_NoSuch_init) := ⟨rfl, rfl, rfl, by decide +kernel, rfl, by decide +kernel, by decide +kernel⟩
def d_NoSuch_init : He.DefD := ⟨("NoSuch", some "__init__"), "__init__", "NoSuch.__init__", defArgs s_NoSuch_init, defBody s_NoSuch_init, defScope s_NoSuch_init, [], []⟩
abbrev s_is_whole : Stmt := top 13
abbrev N_is_whole : List Str := ["thing", "least", "most"]
theorem sc_is_whole : FnScope N_is_whole ["thing", "least", "most"] (defScope s_is_whole) := ⟨rfl, rfl, rfl, by decide +kernel, rfl, by decide +kernel, by decide +kernel⟩
def d_is_whole : He.DefD := ⟨("is_whole", none), "is_whole", "is_whole", defArgs s_is_whole, defBody s_is_whole, defScope s_is_whole, [.int 1000000], []⟩
abbrev s_is_name : Stmt := top 14
abbrev N_is_name : List Str := ["thing", "sign"]
theorem sc_is_name : FnScope N_is_name ["thing"] (defScope s_is_name) := ⟨rfl, rfl, rfl, by decide +kernel, rfl, by decide +kernel, by decide +kernel⟩
def d_is_name : He.DefD := ⟨("is_name", none), "is_name", "is_name", defArgs s_is_name, defBody s_is_name, defScope s_is_name, [], []⟩
abbrev s_is_day : Stmt := top 15
abbrev N_is_day : List Str := ["thing"]
theorem sc_is_day : FnScope N_is_day ["thing"] (defScope s_is_day) := ⟨rfl, rfl, rfl, by decide +kernel, rfl, by decide +kernel, by decide +kernel⟩
def d_is_day : He.DefD := ⟨("is_day", none), "is_day", "is_day", defArgs s_is_day, defBody s_is_day, defScope s_is_day, [], []⟩
abbrev s_is_meter : Stmt := top 16
abbrev N_is_meter : List Str := ["thing", "one"]
theorem sc_is_meter : FnScope N_is_meter ["thing"] (defScope s_is_meter) := ⟨rfl, rfl, rfl, by decide +kernel, rfl, by decide +kernel, by decide +kernel⟩
def d_is_meter : He.DefD := ⟨("is_meter", none), "is_meter", "is_meter", defArgs s_is_meter, defBody s_is_meter, defScope s_is_meter, [], []⟩
abbrev s_need_gone : Stmt := top 20
abbrev N_need_gone : List Str := ["given", "name", "number"]
theorem sc_need_gone : FnScope N_need_gone ["given"] (defScope s_need_gone) := ⟨rfl, rfl, rfl, by decide +kernel, rfl, by decide +kernel, by decide +kernel⟩
def d_need_gone : He.DefD := ⟨("need_gone", none), "need_gone", "need_gone", defArgs s_need_gone, defBody s_need_gone, defScope s_need_gone, [], []⟩
abbrev s_Promise_init : Stmt := inClass (top 21) 0
abbrev N_Promise_init : List Str := ["self", "days", "miles", "turns", "name", "number"]
theorem sc_Promise_init : FnScope N_Promise_init ["self", "days", "miles", "turns"] (defScope s_Promise_init) := ⟨rfl, rfl, rfl, by decide +kernel, rfl, by decide +kernel, by decide +kernel⟩
def d_Promise_init : He.DefD := ⟨("Promise", some "__init__"), "__init__", "Promise.__init__", defArgs s_Promise_init, defBody s_Promise_init, defScope s_Promise_init, [.non, .non, .non], []⟩
abbrev s_Promise_bounds : Stmt := inClass (top 21) 1
abbrev N_Promise_bounds : List Str := ["self"]
theorem sc_Promise_bounds : FnScope N_Promise_bounds ["self"] (defScope s_Promise_bounds) := ⟨rfl, rfl, rfl, by decide +kernel, rfl, by decide +kernel, by decide +kernel⟩
def d_Promise_bounds : He.DefD := ⟨("Promise", some "bounds"), "bounds", "Promise.bounds", defArgs s_Promise_bounds, defBody s_Promise_bounds, defScope s_Promise_bounds, [], []⟩
abbrev s_Promise_beyond : Stmt := inClass (top 21) 2
abbrev N_Promise_beyond : List Str := ["self", "given", "rows", "name", "limit", "number"]
theorem sc_Promise_beyond : FnScope N_Promise_beyond ["self", "given"] (defScope s_Promise_beyond) := ⟨rfl, rfl, rfl, by decide +kernel, rfl, by decide +kernel, by decide +kernel⟩
def d_Promise_beyond : He.DefD := ⟨("Promise", some "beyond"), "beyond", "Promise.beyond", defArgs s_Promise_beyond, defBody s_Promise_beyond, defScope s_Promise_beyond, [], []⟩
abbrev s_Promise_passed : Stmt := inClass (top 21) 3
abbrev N_Promise_passed : List Str := ["self", "days", "miles", "turns"]
theorem sc_Promise_passed : FnScope N_Promise_passed ["self", "days", "miles", "turns"] (defScope s_Promise_passed) := ⟨rfl, rfl, rfl, by decide +kernel, rfl, by decide +kernel, by decide +kernel⟩
def d_Promise_passed : He.DefD := ⟨("Promise", some "passed"), "passed", "Promise.passed", defArgs s_Promise_passed, defBody s_Promise_passed, defScope s_Promise_passed, [.int 0, .int 0], []⟩
abbrev s_Promise_holds : Stmt := inClass (top 21) 4
abbrev N_Promise_holds : List Str := ["self", "days", "miles", "turns"]
theorem sc_Promise_holds : FnScope N_Promise_holds ["self", "days", "miles", "turns"] (defScope s_Promise_holds) := ⟨rfl, rfl, rfl, by decide +kernel, rfl, by decide +kernel, by decide +kernel⟩
def d_Promise_holds : He.DefD := ⟨("Promise", some "holds"), "holds", "Promise.holds", defArgs s_Promise_holds, defBody s_Promise_holds, defScope s_Promise_holds, [.int 0, .int 0], []⟩
abbrev s_need_promise : Stmt := top 22
abbrev N_need_promise : List Str := ["thing"]
theorem sc_need_promise : FnScope N_need_promise ["thing"] (defScope s_need_promise) := ⟨rfl, rfl, rfl, by decide +kernel, rfl, by decide +kernel, by decide +kernel⟩
def d_need_promise : He.DefD := ⟨("need_promise", none), "need_promise", "need_promise", defArgs s_need_promise, defBody s_need_promise, defScope s_need_promise, [], []⟩
abbrev s_is_row : Stmt := top 27
abbrev N_is_row : List Str := ["thing", "one"]
theorem sc_is_row : FnScope N_is_row ["thing"] (defScope s_is_row) := ⟨rfl, rfl, rfl, by decide +kernel, rfl, by decide +kernel, by decide +kernel⟩
def d_is_row : He.DefD := ⟨("is_row", none), "is_row", "is_row", defArgs s_is_row, defBody s_is_row, defScope s_is_row, [], []⟩
abbrev s_are_parts : Stmt := top 28
abbrev N_are_parts : List Str := ["thing", "one", "other"]
theorem sc_are_parts : FnScope N_are_parts ["thing"] (defScope s_are_parts) := ⟨rfl, rfl, rfl, by decide +kernel, rfl, by decide +kernel, by decide +kernel⟩
def d_are_parts : He.DefD := ⟨("are_parts", none), "are_parts", "are_parts", defArgs s_are_parts, defBody s_are_parts, defScope s_are_parts, [], []⟩
abbrev s_are_barred : Stmt := top 29
abbrev N_are_barred : List Str := ["thing", "names", "pair", "one", "other"]
theorem sc_are_barred : FnScope N_are_barred ["thing", "names"] (defScope s_are_barred) := ⟨rfl, rfl, rfl, by decide +kernel, rfl, by decide +kernel, by decide +kernel⟩
def d_are_barred : He.DefD := ⟨("are_barred", none), "are_barred", "are_barred", defArgs s_are_barred, defBody s_are_barred, defScope s_are_barred, [], []⟩
abbrev s_Sort_init : Stmt := inClass (top 30) 0
abbrev N_Sort_init : List Str := ["self", "name", "promise", "parts", "barred", "row"]
theorem sc_Sort_init : FnScope N_Sort_init ["self", "name", "promise", "parts", "barred"] (defScope s_Sort_init) := ⟨rfl, rfl, rfl, by decide +kernel, rfl, by decide +kernel, by decide +kernel⟩
def d_Sort_init : He.DefD := ⟨("Sort", some "__init__"), "__init__", "Sort.__init__", defArgs s_Sort_init, defBody s_Sort_init, defScope s_Sort_init, [.non, .non], []⟩
abbrev s_Sort_named : Stmt := inClass (top 30) 1
abbrev N_Sort_named : List Str := ["self"]
theorem sc_Sort_named : FnScope N_Sort_named ["self"] (defScope s_Sort_named) := ⟨rfl, rfl, rfl, by decide +kernel, rfl, by decide +kernel, by decide +kernel⟩
def d_Sort_named : He.DefD := ⟨("Sort", some "named"), "named", "Sort.named", defArgs s_Sort_named, defBody s_Sort_named, defScope s_Sort_named, [], []⟩
abbrev s_Sort_part_names : Stmt := inClass (top 30) 3
abbrev N_Sort_part_names : List Str := ["self", "row"]
theorem sc_Sort_part_names : FnScope N_Sort_part_names ["self"] (defScope s_Sort_part_names) := ⟨rfl, rfl, rfl, by decide +kernel, rfl, by decide +kernel, by decide +kernel⟩
def d_Sort_part_names : He.DefD := ⟨("Sort", some "part_names"), "part_names", "Sort.part_names", defArgs s_Sort_part_names, defBody s_Sort_part_names, defScope s_Sort_part_names, [], []⟩
abbrev s_Sort_row_of : Stmt := inClass (top 30) 4
abbrev N_Sort_row_of : List Str := ["self", "part", "row"]
theorem sc_Sort_row_of : FnScope N_Sort_row_of ["self", "part"] (defScope s_Sort_row_of) := ⟨rfl, rfl, rfl, by decide +kernel, rfl, by decide +kernel, by decide +kernel⟩
def d_Sort_row_of : He.DefD := ⟨("Sort", some "row_of"), "row_of", "Sort.row_of", defArgs s_Sort_row_of, defBody s_Sort_row_of, defScope s_Sort_row_of, [], []⟩
abbrev s_Sort_held_by : Stmt := inClass (top 30) 5
abbrev N_Sort_held_by : List Str := ["self", "part", "own"]
theorem sc_Sort_held_by : FnScope N_Sort_held_by ["self", "part"] (defScope s_Sort_held_by) := ⟨rfl, rfl, rfl, by decide +kernel, rfl, by decide +kernel, by decide +kernel⟩
def d_Sort_held_by : He.DefD := ⟨("Sort", some "held_by"), "held_by", "Sort.held_by", defArgs s_Sort_held_by, defBody s_Sort_held_by, defScope s_Sort_held_by, [], []⟩
abbrev s_Sort_mended_by : Stmt := inClass (top 30) 6
abbrev N_Sort_mended_by : List Str := ["self", "part"]
theorem sc_Sort_mended_by : FnScope N_Sort_mended_by ["self", "part"] (defScope s_Sort_mended_by) := ⟨rfl, rfl, rfl, by decide +kernel, rfl, by decide +kernel, by decide +kernel⟩
def d_Sort_mended_by : He.DefD := ⟨("Sort", some "mended_by"), "mended_by", "Sort.mended_by", defArgs s_Sort_mended_by, defBody s_Sort_mended_by, defScope s_Sort_mended_by, [], []⟩
abbrev s_Sort_is_barred : Stmt := inClass (top 30) 7
abbrev N_Sort_is_barred : List Str := ["self", "misuse", "part"]
theorem sc_Sort_is_barred : FnScope N_Sort_is_barred ["self", "misuse", "part"] (defScope s_Sort_is_barred) := ⟨rfl, rfl, rfl, by decide +kernel, rfl, by decide +kernel, by decide +kernel⟩
def d_Sort_is_barred : He.DefD := ⟨("Sort", some "is_barred"), "is_barred", "Sort.is_barred", defArgs s_Sort_is_barred, defBody s_Sort_is_barred, defScope s_Sort_is_barred, [], []⟩
abbrev s_need_sort : Stmt := top 31
abbrev N_need_sort : List Str := ["thing"]
theorem sc_need_sort : FnScope N_need_sort ["thing"] (defScope s_need_sort) := ⟨rfl, rfl, rfl, by decide +kernel, rfl, by decide +kernel, by decide +kernel⟩
def d_need_sort : He.DefD := ⟨("need_sort", none), "need_sort", "need_sort", defArgs s_need_sort, defBody s_need_sort, defScope s_need_sort, [], []⟩
abbrev s_Book_init : Stmt := inClass (top 32) 0
abbrev N_Book_init : List Str := ["self"]
theorem sc_Book_init : FnScope N_Book_init ["self"] (defScope s_Book_init) := ⟨rfl, rfl, rfl, by decide +kernel, rfl, by decide +kernel, by decide +kernel⟩
def d_Book_init : He.DefD := ⟨("Book", some "__init__"), "__init__", "Book.__init__", defArgs s_Book_init, defBody s_Book_init, defScope s_Book_init, [], []⟩
abbrev s_Book_add : Stmt := inClass (top 32) 1
abbrev N_Book_add : List Str := ["self", "sort"]
theorem sc_Book_add : FnScope N_Book_add ["self", "sort"] (defScope s_Book_add) := ⟨rfl, rfl, rfl, by decide +kernel, rfl, by decide +kernel, by decide +kernel⟩
def d_Book_add : He.DefD := ⟨("Book", some "add"), "add", "Book.add", defArgs s_Book_add, defBody s_Book_add, defScope s_Book_add, [], []⟩
abbrev s_Book_sort_of : Stmt := inClass (top 32) 2
abbrev N_Book_sort_of : List Str := ["self", "name"]
theorem sc_Book_sort_of : FnScope N_Book_sort_of ["self", "name"] (defScope s_Book_sort_of) := ⟨rfl, rfl, rfl, by decide +kernel, rfl, by decide +kernel, by decide +kernel⟩
def d_Book_sort_of : He.DefD := ⟨("Book", some "sort_of"), "sort_of", "Book.sort_of", defArgs s_Book_sort_of, defBody s_Book_sort_of, defScope s_Book_sort_of, [], []⟩
abbrev s_is_triple : Stmt := top 34
abbrev N_is_triple : List Str := ["thing", "one"]
theorem sc_is_triple : FnScope N_is_triple ["thing"] (defScope s_is_triple) := ⟨rfl, rfl, rfl, by decide +kernel, rfl, by decide +kernel, by decide +kernel⟩
def d_is_triple : He.DefD := ⟨("is_triple", none), "is_triple", "is_triple", defArgs s_is_triple, defBody s_is_triple, defScope s_is_triple, [], []⟩
abbrev s_is_at_most : Stmt := top 35
abbrev N_is_at_most : List Str := ["one", "other", "mine", "its"]
theorem sc_is_at_most : FnScope N_is_at_most ["one", "other"] (defScope s_is_at_most) := ⟨rfl, rfl, rfl, by decide +kernel, rfl, by decide +kernel, by decide +kernel⟩
def d_is_at_most : He.DefD := ⟨("is_at_most", none), "is_at_most", "is_at_most", defArgs s_is_at_most, defBody s_is_at_most, defScope s_is_at_most, [], []⟩
abbrev s_Question_init : Stmt := inClass (top 36) 0
abbrev N_Question_init : List Str := ["self", "sort", "part", "since", "again", "misuse", "gone"]
theorem sc_Question_init : FnScope N_Question_init ["self", "sort", "part", "since", "again", "misuse"] (defScope s_Question_init) := ⟨rfl, rfl, rfl, by decide +kernel, rfl, by decide +kernel, by decide +kernel⟩
def d_Question_init : He.DefD := ⟨("Question", some "__init__"), "__init__", "Question.__init__", defArgs s_Question_init, defBody s_Question_init, defScope s_Question_init, [.non, .non, .non], []⟩
abbrev s_Question_asked : Stmt := inClass (top 36) 1
abbrev N_Question_asked : List Str := ["self"]
theorem sc_Question_asked : FnScope N_Question_asked ["self"] (defScope s_Question_asked) := ⟨rfl, rfl, rfl, by decide +kernel, rfl, by decide +kernel, by decide +kernel⟩
def d_Question_asked : He.DefD := ⟨("Question", some "asked"), "asked", "Question.asked", defArgs s_Question_asked, defBody s_Question_asked, defScope s_Question_asked, [], []⟩
abbrev s_need_book : Stmt := top 37
abbrev N_need_book : List Str := ["thing"]
theorem sc_need_book : FnScope N_need_book ["thing"] (defScope s_need_book) := ⟨rfl, rfl, rfl, by decide +kernel, rfl, by decide +kernel, by decide +kernel⟩
def d_need_book : He.DefD := ⟨("need_book", none), "need_book", "need_book", defArgs s_need_book, defBody s_need_book, defScope s_need_book, [], []⟩
abbrev s_promises_on : Stmt := top 38
abbrev N_promises_on : List Str := ["book", "sort", "part", "own"]
theorem sc_promises_on : FnScope N_promises_on ["book", "sort", "part"] (defScope s_promises_on) := ⟨rfl, rfl, rfl, by decide +kernel, rfl, by decide +kernel, by decide +kernel⟩
def d_promises_on : He.DefD := ⟨("promises_on", none), "promises_on", "promises_on", defArgs s_promises_on, defBody s_promises_on, defScope s_promises_on, [], []⟩
abbrev s_is_kept : Stmt := top 39
abbrev N_is_kept : List Str := ["promises", "since", "again", "held", "mended"]
theorem sc_is_kept : FnScope N_is_kept ["promises", "since", "again"] (defScope s_is_kept) := ⟨rfl, rfl, rfl, by decide +kernel, rfl, by decide +kernel, by decide +kernel⟩
def d_is_kept : He.DefD := ⟨("is_kept", none), "is_kept", "is_kept", defArgs s_is_kept, defBody s_is_kept, defScope s_is_kept, [], []⟩
abbrev s_answer : Stmt := top 40
abbrev N_answer : List Str := ["book", "question", "sort", "part", "since", "again", "misuse", "found"]
theorem sc_answer : FnScope N_answer ["book", "question"] (defScope s_answer) := ⟨rfl, rfl, rfl, by decide +kernel, rfl, by decide +kernel, by decide +kernel⟩
def d_answer : He.DefD := ⟨("answer", none), "answer", "answer", defArgs s_answer, defBody s_answer, defScope s_answer, [], []⟩
abbrev s_is_named : Stmt := top 44
abbrev N_is_named : List Str := ["sort", "rest"]
theorem sc_is_named : FnScope N_is_named ["sort", "rest"] (defScope s_is_named) := ⟨rfl, rfl, rfl, by decide +kernel, rfl, by decide +kernel, by decide +kernel⟩
def d_is_named : He.DefD := ⟨("is_named", none), "is_named", "is_named", defArgs s_is_named, defBody s_is_named, defScope s_is_named, [], []⟩
abbrev s_is_bare : Stmt := top 45
abbrev N_is_bare : List Str := ["sort", "rest"]
theorem sc_is_bare : FnScope N_is_bare ["sort", "rest"] (defScope s_is_bare) := ⟨rfl, rfl, rfl, by decide +kernel, rfl, by decide +kernel, by decide +kernel⟩
def d_is_bare : He.DefD := ⟨("is_bare", none), "is_bare", "is_bare", defArgs s_is_bare, defBody s_is_bare, defScope s_is_bare, [], []⟩
abbrev s_is_of_part : Stmt := top 46
abbrev N_is_of_part : List Str := ["sort", "rest"]
theorem sc_is_of_part : FnScope N_is_of_part ["sort", "rest"] (defScope s_is_of_part) := ⟨rfl, rfl, rfl, by decide +kernel, rfl, by decide +kernel, by decide +kernel⟩
def d_is_of_part : He.DefD := ⟨("is_of_part", none), "is_of_part", "is_of_part", defArgs s_is_of_part, defBody s_is_of_part, defScope s_is_of_part, [], []⟩
abbrev s_is_claim : Stmt := top 47
abbrev N_is_claim : List Str := ["sort", "rest"]
theorem sc_is_claim : FnScope N_is_claim ["sort", "rest"] (defScope s_is_claim) := ⟨rfl, rfl, rfl, by decide +kernel, rfl, by decide +kernel, by decide +kernel⟩
def d_is_claim : He.DefD := ⟨("is_claim", none), "is_claim", "is_claim", defArgs s_is_claim, defBody s_is_claim, defScope s_is_claim, [], []⟩
abbrev s_is_page : Stmt := top 49
abbrev N_is_page : List Str := ["sort", "thing", "looks"]
theorem sc_is_page : FnScope N_is_page ["sort", "thing"] (defScope s_is_page) := ⟨rfl, rfl, rfl, by decide +kernel, rfl, by decide +kernel, by decide +kernel⟩
def d_is_page : He.DefD := ⟨("is_page", none), "is_page", "is_page", defArgs s_is_page, defBody s_is_page, defScope s_is_page, [], []⟩
abbrev s_page_rank : Stmt := top 50
abbrev N_page_rank : List Str := ["page"]
theorem sc_page_rank : FnScope N_page_rank ["page"] (defScope s_page_rank) := ⟨rfl, rfl, rfl, by decide +kernel, rfl, by decide +kernel, by decide +kernel⟩
def d_page_rank : He.DefD := ⟨("page_rank", none), "page_rank", "page_rank", defArgs s_page_rank, defBody s_page_rank, defScope s_page_rank, [], []⟩
abbrev s_is_not_more : Stmt := top 51
abbrev N_is_not_more : List Str := ["one", "other"]
theorem sc_is_not_more : FnScope N_is_not_more ["one", "other"] (defScope s_is_not_more) := ⟨rfl, rfl, rfl, by decide +kernel, rfl, by decide +kernel, by decide +kernel⟩
def d_is_not_more : He.DefD := ⟨("is_not_more", none), "is_not_more", "is_not_more", defArgs s_is_not_more, defBody s_is_not_more, defScope s_is_not_more, [], []⟩
abbrev s_do_fit : Stmt := top 52
abbrev N_do_fit : List Str := ["one", "other", "earlier", "later"]
theorem sc_do_fit : FnScope N_do_fit ["one", "other"] (defScope s_do_fit) := ⟨rfl, rfl, rfl, by decide +kernel, rfl, by decide +kernel, by decide +kernel⟩
def d_do_fit : He.DefD := ⟨("do_fit", none), "do_fit", "do_fit", defArgs s_do_fit, defBody s_do_fit, defScope s_do_fit, [], []⟩
abbrev s_gone_between : Stmt := top 53
abbrev N_gone_between : List Str := ["one", "other"]
theorem sc_gone_between : FnScope N_gone_between ["one", "other"] (defScope s_gone_between) := ⟨rfl, rfl, rfl, by decide +kernel, rfl, by decide +kernel, by decide +kernel⟩
def d_gone_between : He.DefD := ⟨("gone_between", none), "gone_between", "gone_between", defArgs s_gone_between, defBody s_gone_between, defScope s_gone_between, [], []⟩
abbrev s_Rule_init : Stmt := inClass (top 54) 0
abbrev N_Rule_init : List Str := ["self", "word", "promise", "page"]
theorem sc_Rule_init : FnScope N_Rule_init ["self", "word", "promise", "page"] (defScope s_Rule_init) := ⟨rfl, rfl, rfl, by decide +kernel, rfl, by decide +kernel, by decide +kernel⟩
def d_Rule_init : He.DefD := ⟨("Rule", some "__init__"), "__init__", "Rule.__init__", defArgs s_Rule_init, defBody s_Rule_init, defScope s_Rule_init, [], []⟩
abbrev s_Rule_ended : Stmt := inClass (top 54) 1
abbrev N_Rule_ended : List Str := ["self", "pages", "day", "found", "limit", "page"]
theorem sc_Rule_ended : FnScope N_Rule_ended ["self", "pages", "day"] (defScope s_Rule_ended) := ⟨rfl, rfl, rfl, by decide +kernel, rfl, by decide +kernel, by decide +kernel⟩
def d_Rule_ended : He.DefD := ⟨("Rule", some "ended"), "ended", "Rule.ended", defArgs s_Rule_ended, defBody s_Rule_ended, defScope s_Rule_ended, [], []⟩
abbrev s_Rule_is_over : Stmt := inClass (top 54) 2
abbrev N_Rule_is_over : List Str := ["self", "page"]
theorem sc_Rule_is_over : FnScope N_Rule_is_over ["self", "page"] (defScope s_Rule_is_over) := ⟨rfl, rfl, rfl, by decide +kernel, rfl, by decide +kernel, by decide +kernel⟩
def d_Rule_is_over : He.DefD := ⟨("Rule", some "is_over"), "is_over", "Rule.is_over", defArgs s_Rule_is_over, defBody s_Rule_is_over, defScope s_Rule_is_over, [], []⟩
abbrev s_Life_init : Stmt := inClass (top 55) 0
abbrev N_Life_init : List Str := ["self", "sort", "number"]
theorem sc_Life_init : FnScope N_Life_init ["self", "sort", "number"] (defScope s_Life_init) := ⟨rfl, rfl, rfl, by decide +kernel, rfl, by decide +kernel, by decide +kernel⟩
def d_Life_init : He.DefD := ⟨("Life", some "__init__"), "__init__", "Life.__init__", defArgs s_Life_init, defBody s_Life_init, defScope s_Life_init, [], []⟩
abbrev s_Life_put : Stmt := inClass (top 55) 3
abbrev N_Life_put : List Str := ["self", "page", "other"]
theorem sc_Life_put : FnScope N_Life_put ["self", "page"] (defScope s_Life_put) := ⟨rfl, rfl, rfl, by decide +kernel, rfl, by decide +kernel, by decide +kernel⟩
def d_Life_put : He.DefD := ⟨("Life", some "put"), "put", "Life.put", defArgs s_Life_put, defBody s_Life_put, defScope s_Life_put, [], []⟩
abbrev s_Life_days : Stmt := inClass (top 55) 5
abbrev N_Life_days : List Str := ["self", "page"]
theorem sc_Life_days : FnScope N_Life_days ["self"] (defScope s_Life_days) := ⟨rfl, rfl, rfl, by decide +kernel, rfl, by decide +kernel, by decide +kernel⟩
def d_Life_days : He.DefD := ⟨("Life", some "days"), "days", "Life.days", defArgs s_Life_days, defBody s_Life_days, defScope s_Life_days, [], []⟩
abbrev s_Life_up_to : Stmt := inClass (top 55) 6
abbrev N_Life_up_to : List Str := ["self", "day", "page"]
theorem sc_Life_up_to : FnScope N_Life_up_to ["self", "day"] (defScope s_Life_up_to) := ⟨rfl, rfl, rfl, by decide +kernel, rfl, by decide +kernel, by decide +kernel⟩
def d_Life_up_to : He.DefD := ⟨("Life", some "up_to"), "up_to", "Life.up_to", defArgs s_Life_up_to, defBody s_Life_up_to, defScope s_Life_up_to, [], []⟩
abbrev s_Life_need_asked : Stmt := inClass (top 55) 10
abbrev N_Life_need_asked : List Str := ["self", "part", "day"]
theorem sc_Life_need_asked : FnScope N_Life_need_asked ["self", "part", "day"] (defScope s_Life_need_asked) := ⟨rfl, rfl, rfl, by decide +kernel, rfl, by decide +kernel, by decide +kernel⟩
def d_Life_need_asked : He.DefD := ⟨("Life", some "need_asked"), "need_asked", "Life.need_asked", defArgs s_Life_need_asked, defBody s_Life_need_asked, defScope s_Life_need_asked, [], []⟩
abbrev s_Life_rules_on : Stmt := inClass (top 55) 11
abbrev N_Life_rules_on : List Str := ["self", "part", "day", "pages", "sold", "word", "promise", "found", "mended", "page"]
theorem sc_Life_rules_on : FnScope N_Life_rules_on ["self", "part", "day"] (defScope s_Life_rules_on) := ⟨rfl, rfl, rfl, by decide +kernel, rfl, by decide +kernel, by decide +kernel⟩
def d_Life_rules_on : He.DefD := ⟨("Life", some "rules_on"), "rules_on", "Life.rules_on", defArgs s_Life_rules_on, defBody s_Life_rules_on, defScope s_Life_rules_on, [], []⟩
abbrev s_Life_rules : Stmt := inClass (top 55) 12
abbrev N_Life_rules : List Str := ["self", "part", "day", "pages", "rule"]
theorem sc_Life_rules : FnScope N_Life_rules ["self", "part", "day"] (defScope s_Life_rules) := ⟨rfl, rfl, rfl, by decide +kernel, rfl, by decide +kernel, by decide +kernel⟩
def d_Life_rules : He.DefD := ⟨("Life", some "rules"), "rules", "Life.rules", defArgs s_Life_rules, defBody s_Life_rules, defScope s_Life_rules, [], []⟩
abbrev s_Life_misused_on : Stmt := inClass (top 55) 13
abbrev N_Life_misused_on : List Str := ["self", "part", "day", "pages", "page"]
theorem sc_Life_misused_on : FnScope N_Life_misused_on ["self", "part", "day"] (defScope s_Life_misused_on) := ⟨rfl, rfl, rfl, by decide +kernel, rfl, by decide +kernel, by decide +kernel⟩
def d_Life_misused_on : He.DefD := ⟨("Life", some "misused_on"), "misused_on", "Life.misused_on", defArgs s_Life_misused_on, defBody s_Life_misused_on, defScope s_Life_misused_on, [], []⟩
abbrev s_Life_verdict : Stmt := inClass (top 55) 14
abbrev N_Life_verdict : List Str := ["self", "part", "day", "called", "rules", "misused", "holding", "last", "word", "begun", "ended", "rule"]
theorem sc_Life_verdict : FnScope N_Life_verdict ["self", "part", "day", "called"] (defScope s_Life_verdict) := ⟨rfl, rfl, rfl, by decide +kernel, rfl, by decide +kernel, by decide +kernel⟩
def d_Life_verdict : He.DefD := ⟨("Life", some "verdict"), "verdict", "Life.verdict", defArgs s_Life_verdict, defBody s_Life_verdict, defScope s_Life_verdict, [.non], []⟩
abbrev s_law_mixed : Stmt := top 57
abbrev N_law_mixed : List Str := ["_law_cell", "_law_k", "_law_number"]
theorem sc_law_mixed : FnScope N_law_mixed ["_law_cell", "_law_k"] (defScope s_law_mixed) := ⟨rfl, rfl, rfl, by decide +kernel, rfl, by decide +kernel, by decide +kernel⟩
def d_law_mixed : He.DefD := ⟨("_law_mixed", none), "_law_mixed", "_law_mixed", defArgs s_law_mixed, defBody s_law_mixed, defScope s_law_mixed, [], []⟩
abbrev s_law_folded : Stmt := top 58
abbrev N_law_folded : List Str := ["_law_script", "_law_found", "_law_k", "_law_cell"]
theorem sc_law_folded : FnScope N_law_folded ["_law_script"] (defScope s_law_folded) := ⟨rfl, rfl, rfl, by decide +kernel, rfl, by decide +kernel, by decide +kernel⟩
def d_law_folded : He.DefD := ⟨("_law_folded", none), "_law_folded", "_law_folded", defArgs s_law_folded, defBody s_law_folded, defScope s_law_folded, [], []⟩
abbrev s_law_draw : Stmt := top 59
abbrev N_law_draw : List Str := ["_law_m", "_law_many", "_law_k", "_law_at", "_law_cell"]
theorem sc_law_draw : FnScope N_law_draw ["_law_m", "_law_many"] (defScope s_law_draw) := ⟨rfl, rfl, rfl, by decide +kernel, rfl, by decide +kernel, by decide +kernel⟩
def d_law_draw : He.DefD := ⟨("_law_draw", none), "_law_draw", "_law_draw", defArgs s_law_draw, defBody s_law_draw, defScope s_law_draw, [], []⟩
abbrev s_law_begun : Stmt := top 60
abbrev N_law_begun : List Str := ["_law_script", "_law_m", "_law_cell"]
theorem sc_law_begun : FnScope N_law_begun ["_law_script"] (defScope s_law_begun) := ⟨rfl, rfl, rfl, by decide +kernel, rfl, by decide +kernel, by decide +kernel⟩
def d_law_begun : He.DefD := ⟨("_law_begun", none), "_law_begun", "_law_begun", defArgs s_law_begun, defBody s_law_begun, defScope s_law_begun, [], []⟩
abbrev s_law_called : Stmt := top 61
abbrev N_law_called : List Str := ["_law_m", "_law_many", "_law_letters", "_law_found", "_law_shift", "_law_stride", "_law_k", "_law_said", "_law_j"]
theorem sc_law_called : FnScope N_law_called ["_law_m", "_law_many"] (defScope s_law_called) := ⟨rfl, rfl, rfl, by decide +kernel, rfl, by decide +kernel, by decide +kernel⟩
def d_law_called : He.DefD := ⟨("_law_called", none), "_law_called", "_law_called", defArgs s_law_called, defBody s_law_called, defScope s_law_called, [], []⟩
abbrev s_law_limit : Stmt := top 62
abbrev N_law_limit : List Str := ["_law_m", "_law_top"]
theorem sc_law_limit : FnScope N_law_limit ["_law_m", "_law_top"] (defScope s_law_limit) := ⟨rfl, rfl, rfl, by decide +kernel, rfl, by decide +kernel, by decide +kernel⟩
def d_law_limit : He.DefD := ⟨("_law_limit", none), "_law_limit", "_law_limit", defArgs s_law_limit, defBody s_law_limit, defScope s_law_limit, [], []⟩
abbrev s_law_limits : Stmt := top 63
abbrev N_law_limits : List Str := ["_law_m"]
theorem sc_law_limits : FnScope N_law_limits ["_law_m"] (defScope s_law_limits) := ⟨rfl, rfl, rfl, by decide +kernel, rfl, by decide +kernel, by decide +kernel⟩
def d_law_limits : He.DefD := ⟨("_law_limits", none), "_law_limits", "_law_limits", defArgs s_law_limits, defBody s_law_limits, defScope s_law_limits, [], []⟩
abbrev s_law_plain_sort : Stmt := top 64
abbrev N_law_plain_sort : List Str := ["_law_m", "_law_w", "_law_rows", "_law_pairs", "_law_one", "_law_first", "_law_bad", "_law_row"]
theorem sc_law_plain_sort : FnScope N_law_plain_sort ["_law_m", "_law_w"] (defScope s_law_plain_sort) := ⟨rfl, rfl, rfl, by decide +kernel, rfl, by decide +kernel, by decide +kernel⟩
def d_law_plain_sort : He.DefD := ⟨("_law_plain_sort", none), "_law_plain_sort", "_law_plain_sort", defArgs s_law_plain_sort, defBody s_law_plain_sort, defScope s_law_plain_sort, [], []⟩
abbrev s_law_promise : Stmt := top 65
abbrev N_law_promise : List Str := ["_law_three"]
theorem sc_law_promise : FnScope N_law_promise ["_law_three"] (defScope s_law_promise) := ⟨rfl, rfl, rfl, by decide +kernel, rfl, by decide +kernel, by decide +kernel⟩
def d_law_promise : He.DefD := ⟨("_law_promise", none), "_law_promise", "_law_promise", defArgs s_law_promise, defBody s_law_promise, defScope s_law_promise, [], []⟩
abbrev s_law_sort : Stmt := top 66
abbrev N_law_sort : List Str := ["_law_plain", "_law_rows", "_law_one", "_law_first", "_law_last"]
theorem sc_law_sort : FnScope N_law_sort ["_law_plain"] (defScope s_law_sort) := ⟨rfl, rfl, rfl, by decide +kernel, rfl, by decide +kernel, by decide +kernel⟩
def d_law_sort : He.DefD := ⟨("_law_sort", none), "_law_sort", "_law_sort", defArgs s_law_sort, defBody s_law_sort, defScope s_law_sort, [], []⟩
abbrev s_law_mixed_up : Stmt := top 67
abbrev N_law_mixed_up : List Str := ["_law_m", "_law_things", "_law_left", "_law_found", "_law_at"]
theorem sc_law_mixed_up : FnScope N_law_mixed_up ["_law_m", "_law_things"] (defScope s_law_mixed_up) := ⟨rfl, rfl, rfl, by decide +kernel, rfl, by decide +kernel, by decide +kernel⟩
def d_law_mixed_up : He.DefD := ⟨("_law_mixed_up", none), "_law_mixed_up", "_law_mixed_up", defArgs s_law_mixed_up, defBody s_law_mixed_up, defScope s_law_mixed_up, [], []⟩
abbrev s_law_worded : Stmt := top 68
abbrev N_law_worded : List Str := ["_law_m", "_law_w", "_law_some", "_law_at", "_law_said", "_law_k"]
theorem sc_law_worded : FnScope N_law_worded ["_law_m", "_law_w"] (defScope s_law_worded) := ⟨rfl, rfl, rfl, by decide +kernel, rfl, by decide +kernel, by decide +kernel⟩
def d_law_worded : He.DefD := ⟨("_law_worded", none), "_law_worded", "_law_worded", defArgs s_law_worded, defBody s_law_worded, defScope s_law_worded, [], []⟩
abbrev s_law_gone : Stmt := top 69
abbrev N_law_gone : List Str := ["_law_m", "_law_three", "_law_top", "_law_found", "_law_k", "_law_limit_here", "_law_near", "_law_some"]
theorem sc_law_gone : FnScope N_law_gone ["_law_m", "_law_three", "_law_top"] (defScope s_law_gone) := ⟨rfl, rfl, rfl, by decide +kernel, rfl, by decide +kernel, by decide +kernel⟩
def d_law_gone : He.DefD := ⟨("_law_gone", none), "_law_gone", "_law_gone", defArgs s_law_gone, defBody s_law_gone, defScope s_law_gone, [], []⟩
abbrev s_law_life : Stmt := top 70
abbrev N_law_life : List Str := ["_law_m", "_law_kind", "_law_one", "_law_since", "_law_again", "_law_bad", "_law_first", "_law_life_here", "_law_start", "_law_last", "_law_pages", "_law_meter", "_law_page"]
theorem sc_law_life : FnScope N_law_life ["_law_m", "_law_kind", "_law_one", "_law_since", "_law_again", "_law_bad"] (defScope s_law_life) := ⟨rfl, rfl, rfl, by decide +kernel, rfl, by decide +kernel, by decide +kernel⟩
def d_law_life : He.DefD := ⟨("_law_life", none), "_law_life", "_law_life", defArgs s_law_life, defBody s_law_life, defScope s_law_life, [], []⟩
abbrev s_law_one_right : Stmt := top 71
abbrev N_law_one_right : List Str := ["_law_m", "_law_book", "_law_plain", "_law_row", "_law_w", "_law_one", "_law_first", "_law_second", "_law_kind", "_law_three", "_law_since", "_law_again", "_law_bad", "_law_life_here", "_law_day", "_law_told", "_law_holding", "_law_is_barred", "_law_asked", "_law_rule", "_law_question"]
theorem sc_law_one_right : FnScope N_law_one_right ["_law_m", "_law_book", "_law_plain", "_law_row", "_law_w"] (defScope s_law_one_right) := ⟨rfl, rfl, rfl, by decide +kernel, rfl, by decide +kernel, by decide +kernel⟩
def d_law_one_right : He.DefD := ⟨("_law_one_right", none), "_law_one_right", "_law_one_right", defArgs s_law_one_right, defBody s_law_one_right, defScope s_law_one_right, [], []⟩
abbrev s_law : Stmt := top 72
abbrev N_law : List Str := ["_law_script", "_law_m", "_law_turn", "_law_w", "_law_book", "_law_plain", "_law_k", "_law_rows", "_law_row"]
theorem sc_law : FnScope N_law ["_law_script"] (defScope s_law) := ⟨rfl, rfl, rfl, by decide +kernel, rfl, by decide +kernel, by decide +kernel⟩
def d_law : He.DefD := ⟨("law", none), "law", "law", defArgs s_law, defBody s_law, defScope s_law, [], []⟩
def fnL : List He.DefD := [d_NoSuch_init, d_is_whole, d_is_name, d_is_day, d_is_meter, d_need_gone, d_Promise_init, d_Promise_bounds, d_Promise_beyond, d_Promise_passed, d_Promise_holds, d_need_promise, d_is_row, d_are_parts, d_are_barred, d_Sort_init, d_Sort_named, d_Sort_part_names, d_Sort_row_of, d_Sort_held_by, d_Sort_mended_by, d_Sort_is_barred, d_need_sort, d_Book_init, d_Book_add, d_Book_sort_of, d_is_triple, d_is_at_most, d_Question_init, d_Question_asked, d_need_book, d_promises_on, d_is_kept, d_answer, d_is_named, d_is_bare, d_is_of_part, d_is_claim, d_is_page, d_page_rank, d_is_not_more, d_do_fit, d_gone_between, d_Rule_init, d_Rule_ended, d_Rule_is_over, d_Life_init, d_Life_put, d_Life_days, d_Life_up_to, d_Life_need_asked, d_Life_rules_on, d_Life_rules, d_Life_misused_on, d_Life_verdict, d_law_mixed, d_law_folded, d_law_draw, d_law_begun, d_law_called, d_law_limit, d_law_limits, d_law_plain_sort, d_law_promise, d_law_sort, d_law_mixed_up, d_law_worded, d_law_gone, d_law_life, d_law_one_right, d_law]
def faL : List He.Fa := [.glo "is_whole", .glo "is_name", .glo "is_day", .glo "is_meter", .glo "need_gone", .glo "need_promise", .glo "is_row", .glo "are_parts", .glo "are_barred", .glo "need_sort", .glo "is_triple", .glo "is_at_most", .glo "need_book", .glo "promises_on", .glo "is_kept", .glo "answer", .glo "is_named", .glo "is_bare", .glo "is_of_part", .glo "is_claim", .glo "is_page", .glo "page_rank", .glo "is_not_more", .glo "do_fit", .glo "gone_between", .glo "_law_mixed", .glo "_law_folded", .glo "_law_draw", .glo "_law_begun", .glo "_law_called", .glo "_law_limit", .glo "_law_limits", .glo "_law_plain_sort", .glo "_law_promise", .glo "_law_sort", .glo "_law_mixed_up", .glo "_law_worded", .glo "_law_gone", .glo "_law_life", .glo "_law_one_right", .glo "law", .glo "Promise", .glo "Sort", .glo "Book", .glo "Question", .glo "Rule", .glo "Life", .glo "NoSuch", .glo "BARRED_WORDS", .glo "BOUNDS", .glo "MOST_OF", .glo "RESTS", .free "isinstance", .free "len", .free "all", .free "zip", .free "list", .free "min", .free "max", .free "sorted", .free "set", .free "enumerate", .free "range", .free "tuple", .free "int", .free "str", .free "bool", .int "MOST_LETTERS" 8, .int "LAST_DAY" 9999, .int "MOST_METER" 1000000, .int "MOST_GONE" 10000000, .int "MOST_PARTS" 12, .int "MOST_BARRED" 30, .int "MOST_SORTS" 40, .int "MOST_PAGES" 200, .int "MOST_NUMBER" 99999, .str "LETTERS" "abcdefghijklmnopqrstuvwxyz", .cls "Promise", .mkr "Promise", .meth "Promise" "__init__", .meth "Promise" "bounds", .meth "Promise" "beyond", .meth "Promise" "passed", .meth "Promise" "holds", .noat "Promise" "limits", .cls "Sort", .mkr "Sort", .meth "Sort" "__init__", .meth "Sort" "named", .meth "Sort" "part_names", .meth "Sort" "row_of", .meth "Sort" "held_by", .meth "Sort" "mended_by", .meth "Sort" "is_barred", .noat "Sort" "called", .noat "Sort" "promised", .noat "Sort" "part_rows", .noat "Sort" "barred_pairs", .cls "Book", .mkr "Book", .meth "Book" "__init__", .meth "Book" "add", .meth "Book" "sort_of", .noat "Book" "sorts", .cls "Question", .mkr "Question", .meth "Question" "__init__", .meth "Question" "asked", .noat "Question" "things_asked", .cls "Rule", .mkr "Rule", .meth "Rule" "__init__", .meth "Rule" "ended", .meth "Rule" "is_over", .noat "Rule" "told_word", .noat "Rule" "kept", .noat "Rule" "since", .cls "Life", .mkr "Life", .meth "Life" "__init__", .meth "Life" "put", .meth "Life" "days", .meth "Life" "up_to", .meth "Life" "need_asked", .meth "Life" "rules_on", .meth "Life" "rules", .meth "Life" "misused_on", .meth "Life" "verdict", .noat "Life" "of_sort", .noat "Life" "serial", .noat "Life" "told", .noat "NoSuch" "what", .noat "NoSuch" "name"]
def tsL : List He.Tab := [(fun K => He.ga K "MOST_OF", ["days", "miles", "turns"]), (fun K => He.ga K "RESTS", ["sold", "read", "mended", "misused", "claimed"])]
def barW : List Str := ["sort", "part", "own", "mended", "barred", "days", "miles", "turns", "endless", "whole", "in"]
def insB (K : PySem.W.Frag) (x : Str) : Bool := He.eqO (PySem.W.findIn K (.ref (He.ga K x)) "__class__") (some (some (.builtin "object.__class__"))) &&
  (He.eqO (PySem.W.specialIn K (.builtin "object.__class__") "__get__") (some (some (.builtin "getset_descriptor.__get__"))) && (decide (PySem.W.takesIn K (.builtin "object.__class__") = some true) &&
  (decide (PySem.W.mroIn K (He.ga K x) (.type "object") = some true) && decide (PySem.W.kitOne K (.ref (He.ga K x)) (.ref (He.ga K x)) = some true))))
/-- the class NoSuch: an own class over KeyError with an __init__ -/
def keTail : List Value := [.type "KeyError", .type "LookupError", .type "Exception", .type "BaseException", .type "object"]
def nsB (K : PySem.W.Frag) : Bool := PySem.W.excInitIn K (He.ga K "NoSuch") keTail "LookupError.__new__" && ((PySem.W.clsIn K (He.ga K "NoSuch")).any (fun cd => cd.hasDict) && (He.eqO (PySem.W.findIn K (.ref (He.ga K "NoSuch")) "__setattr__") (some (some (.builtin "object.__setattr__"))) &&
  (decide (PySem.W.subIn K (.ref (He.ga K "NoSuch")) (.type "BaseException") = some true) && (decide (PySem.W.typeIn K (.ref (He.ga K "NoSuch")) = some (.type "type")) && (PySem.W.keepIn K (.ref (He.ga K "NoSuch")) &&
  (decide (PySem.W.exmOne K (.ref (He.ga K "NoSuch")) (.ref (He.ga K "NoSuch")) = some true) && (He.eqO (PySem.W.findIn K (.ref (He.ga K "NoSuch")) "__init__") (some (some (.ref (He.ma K (He.ga K "NoSuch") "__init__")))) &&
  decide (PySem.W.typeIn K (.ref (He.ma K (He.ga K "NoSuch") "__init__")) = some (.type "function")))))))))
def mostKV : List (Str × He.Dv) := [("days", .int 9999), ("miles", .int 1000000), ("turns", .int 1000000)]
def restKV : List (Str × He.Dv) := [("sold", .glo "is_named"), ("read", .glo "is_bare"), ("mended", .glo "is_of_part"), ("misused", .glo "is_named"), ("claimed", .glo "is_claim")]
def exB (K : PySem.W.Frag) : Bool := He.tupB K "BARRED_WORDS" (barW.map He.Dv.str) && (He.tupB K "BOUNDS" [.str "days", .str "miles", .str "turns"] && (He.valsB K (He.ga K "MOST_OF") mostKV && (He.valsB K (He.ga K "RESTS") restKV &&
  (insB K "Promise" && (insB K "Sort" && (insB K "Book" && (insB K "Question" && nsB K)))))))
/-- what the walk leans on: the head tells it -/
structure Tx (w : World) (K : PySem.W.Frag) (mg : Str → Option Value) : Prop where
  hd : ∃ h : Heap, K.In h ∧ h.Ns mainGlobals mg
  st : He.SaysT faL fnL tsL w K
  ex : exB K = true
section
variable {w : World} {K : PySem.W.Frag} {mg : Str → Option Value}
theorem Tx.fact (T : Tx w K mg) (i : Nat) {f : He.Fa} (h : faL[i]? = some f := by rfl) : f.ok K = true := T.st.d.fact i h
theorem Tx.def_ (T : Tx w K mg) (i : Nat) {d : He.DefD} (h : fnL[i]? = some d := by rfl) : ∃ fd, FunD K d.name d.qual d.params d.body d.scope (d.dvs K) (d.kws K) (He.fAd K d.at_) fd := T.st.d.def_ i h
theorem Tx.glo (T : Tx w K mg) {x : Str} (c : (He.Fa.glo x).ok K = true) : mg x = some (.ref (He.ga K x)) := by
  obtain ⟨h, X, G⟩ := T.hd
  exact He.glo_ok X G c
theorem Tx.free (T : Tx w K mg) {x : Str} (c : (He.Fa.free x).ok K = true) : mg x = none := by
  obtain ⟨h, X, G⟩ := T.hd
  exact He.free_ok X G c
theorem Tx.int_ (T : Tx w K mg) {x : Str} {i : Int} (c : (He.Fa.int x i).ok K = true) : ∃ u, mg x = some u ∧ RelV (.int i) u := by
  obtain ⟨h, X, G⟩ := T.hd
  obtain ⟨t, e⟩ := He.int_ok X G c
  exact ⟨_, e, t, rfl⟩
theorem Tx.str_ (T : Tx w K mg) {x z : Str} (c : (He.Fa.str x z).ok K = true) : ∃ u, mg x = some u ∧ RelV (.str z) u := by
  obtain ⟨h, X, G⟩ := T.hd
  obtain ⟨t, e⟩ := He.str_ok X G c
  exact ⟨_, e, t, rfl⟩
theorem Tx.bar (T : Tx w K mg) (H : Hp) : SqT K H (He.ga K "BARRED_WORDS") (barW.map V.str) := by
  have e := He.tupB_ok (He.ba T.ex).1 H
  rwa [List.map_map] at e
theorem Tx.bnd (T : Tx w K mg) (H : Hp) : SqT K H (He.ga K "BOUNDS") [.str "days", .str "miles", .str "turns"] := He.tupB_ok (He.ba (He.ba T.ex).2).1 H
theorem Tx.most (T : Tx w K mg) {q : Str × He.Dv} (hq : q ∈ mostKV) : ∃ u, PySem.W.nsIn K (He.ga K "MOST_OF") q.1 = some (some u) ∧ RelV (q.2.v K) u := He.valsB_ok (He.ba (He.ba (He.ba T.ex).2).2).1 hq
theorem Tx.rest (T : Tx w K mg) {q : Str × He.Dv} (hq : q ∈ restKV) : ∃ u, PySem.W.nsIn K (He.ga K "RESTS") q.1 = some (some u) ∧ RelV (q.2.v K) u := He.valsB_ok (He.ba (He.ba (He.ba (He.ba T.ex).2).2).2).1 hq
theorem Tx.dMost (T : Tx w K mg) : ∃ es n, KDict K w (He.ga K "MOST_OF") es n := T.st.tab 0
theorem Tx.dRest (T : Tx w K mg) : ∃ es n, KDict K w (He.ga K "RESTS") es n := T.st.tab 1
theorem ins_of {x : Str} (c : Cls K (He.ga K x)) (h : insB K x = true) : C8.InsC K (He.ga K x) := by
  obtain ⟨h1, h⟩ := He.ba h
  obtain ⟨h2, h⟩ := He.ba h
  obtain ⟨h3, h⟩ := He.ba h
  obtain ⟨h4, h5⟩ := He.ba h
  exact ⟨c, He.eqO_ok h1, He.eqO_ok h2, of_decide_eq_true h3, of_decide_eq_true h4, of_decide_eq_true h5⟩
theorem Tx.g_is_whole (T : Tx w K mg) : mg "is_whole" = some (.ref (He.ga K "is_whole")) := T.glo (T.fact 0)
theorem Tx.g_is_name (T : Tx w K mg) : mg "is_name" = some (.ref (He.ga K "is_name")) := T.glo (T.fact 1)
theorem Tx.g_is_day (T : Tx w K mg) : mg "is_day" = some (.ref (He.ga K "is_day")) := T.glo (T.fact 2)
theorem Tx.g_is_meter (T : Tx w K mg) : mg "is_meter" = some (.ref (He.ga K "is_meter")) := T.glo (T.fact 3)
theorem Tx.g_need_gone (T : Tx w K mg) : mg "need_gone" = some (.ref (He.ga K "need_gone")) := T.glo (T.fact 4)
theorem Tx.g_need_promise (T : Tx w K mg) : mg "need_promise" = some (.ref (He.ga K "need_promise")) := T.glo (T.fact 5)
theorem Tx.g_is_row (T : Tx w K mg) : mg "is_row" = some (.ref (He.ga K "is_row")) := T.glo (T.fact 6)
theorem Tx.g_are_parts (T : Tx w K mg) : mg "are_parts" = some (.ref (He.ga K "are_parts")) := T.glo (T.fact 7)
theorem Tx.g_are_barred (T : Tx w K mg) : mg "are_barred" = some (.ref (He.ga K "are_barred")) := T.glo (T.fact 8)
theorem Tx.g_need_sort (T : Tx w K mg) : mg "need_sort" = some (.ref (He.ga K "need_sort")) := T.glo (T.fact 9)
theorem Tx.g_is_triple (T : Tx w K mg) : mg "is_triple" = some (.ref (He.ga K "is_triple")) := T.glo (T.fact 10)
theorem Tx.g_is_at_most (T : Tx w K mg) : mg "is_at_most" = some (.ref (He.ga K "is_at_most")) := T.glo (T.fact 11)
theorem Tx.g_need_book (T : Tx w K mg) : mg "need_book" = some (.ref (He.ga K "need_book")) := T.glo (T.fact 12)
theorem Tx.g_promises_on (T : Tx w K mg) : mg "promises_on" = some (.ref (He.ga K "promises_on")) := T.glo (T.fact 13)
theorem Tx.g_is_kept (T : Tx w K mg) : mg "is_kept" = some (.ref (He.ga K "is_kept")) := T.glo (T.fact 14)
theorem Tx.g_answer (T : Tx w K mg) : mg "answer" = some (.ref (He.ga K "answer")) := T.glo (T.fact 15)
theorem Tx.g_is_named (T : Tx w K mg) : mg "is_named" = some (.ref (He.ga K "is_named")) := T.glo (T.fact 16)
theorem Tx.g_is_bare (T : Tx w K mg) : mg "is_bare" = some (.ref (He.ga K "is_bare")) := T.glo (T.fact 17)
theorem Tx.g_is_of_part (T : Tx w K mg) : mg "is_of_part" = some (.ref (He.ga K "is_of_part")) := T.glo (T.fact 18)
theorem Tx.g_is_claim (T : Tx w K mg) : mg "is_claim" = some (.ref (He.ga K "is_claim")) := T.glo (T.fact 19)
theorem Tx.g_is_page (T : Tx w K mg) : mg "is_page" = some (.ref (He.ga K "is_page")) := T.glo (T.fact 20)
theorem Tx.g_page_rank (T : Tx w K mg) : mg "page_rank" = some (.ref (He.ga K "page_rank")) := T.glo (T.fact 21)
theorem Tx.g_is_not_more (T : Tx w K mg) : mg "is_not_more" = some (.ref (He.ga K "is_not_more")) := T.glo (T.fact 22)
theorem Tx.g_do_fit (T : Tx w K mg) : mg "do_fit" = some (.ref (He.ga K "do_fit")) := T.glo (T.fact 23)
theorem Tx.g_gone_between (T : Tx w K mg) : mg "gone_between" = some (.ref (He.ga K "gone_between")) := T.glo (T.fact 24)
theorem Tx.g_law_mixed (T : Tx w K mg) : mg "_law_mixed" = some (.ref (He.ga K "_law_mixed")) := T.glo (T.fact 25)
theorem Tx.g_law_folded (T : Tx w K mg) : mg "_law_folded" = some (.ref (He.ga K "_law_folded")) := T.glo (T.fact 26)
theorem Tx.g_law_draw (T : Tx w K mg) : mg "_law_draw" = some (.ref (He.ga K "_law_draw")) := T.glo (T.fact 27)
theorem Tx.g_law_begun (T : Tx w K mg) : mg "_law_begun" = some (.ref (He.ga K "_law_begun")) := T.glo (T.fact 28)
theorem Tx.g_law_called (T : Tx w K mg) : mg "_law_called" = some (.ref (He.ga K "_law_called")) := T.glo (T.fact 29)
theorem Tx.g_law_limit (T : Tx w K mg) : mg "_law_limit" = some (.ref (He.ga K "_law_limit")) := T.glo (T.fact 30)
theorem Tx.g_law_limits (T : Tx w K mg) : mg "_law_limits" = some (.ref (He.ga K "_law_limits")) := T.glo (T.fact 31)
theorem Tx.g_law_plain_sort (T : Tx w K mg) : mg "_law_plain_sort" = some (.ref (He.ga K "_law_plain_sort")) := T.glo (T.fact 32)
theorem Tx.g_law_promise (T : Tx w K mg) : mg "_law_promise" = some (.ref (He.ga K "_law_promise")) := T.glo (T.fact 33)
theorem Tx.g_law_sort (T : Tx w K mg) : mg "_law_sort" = some (.ref (He.ga K "_law_sort")) := T.glo (T.fact 34)
theorem Tx.g_law_mixed_up (T : Tx w K mg) : mg "_law_mixed_up" = some (.ref (He.ga K "_law_mixed_up")) := T.glo (T.fact 35)
theorem Tx.g_law_worded (T : Tx w K mg) : mg "_law_worded" = some (.ref (He.ga K "_law_worded")) := T.glo (T.fact 36)
theorem Tx.g_law_gone (T : Tx w K mg) : mg "_law_gone" = some (.ref (He.ga K "_law_gone")) := T.glo (T.fact 37)
theorem Tx.g_law_life (T : Tx w K mg) : mg "_law_life" = some (.ref (He.ga K "_law_life")) := T.glo (T.fact 38)
theorem Tx.g_law_one_right (T : Tx w K mg) : mg "_law_one_right" = some (.ref (He.ga K "_law_one_right")) := T.glo (T.fact 39)
theorem Tx.g_law (T : Tx w K mg) : mg "law" = some (.ref (He.ga K "law")) := T.glo (T.fact 40)
theorem Tx.g_Promise (T : Tx w K mg) : mg "Promise" = some (.ref (He.ga K "Promise")) := T.glo (T.fact 41)
theorem Tx.g_Sort (T : Tx w K mg) : mg "Sort" = some (.ref (He.ga K "Sort")) := T.glo (T.fact 42)
theorem Tx.g_Book (T : Tx w K mg) : mg "Book" = some (.ref (He.ga K "Book")) := T.glo (T.fact 43)
theorem Tx.g_Question (T : Tx w K mg) : mg "Question" = some (.ref (He.ga K "Question")) := T.glo (T.fact 44)
theorem Tx.g_Rule (T : Tx w K mg) : mg "Rule" = some (.ref (He.ga K "Rule")) := T.glo (T.fact 45)
theorem Tx.g_Life (T : Tx w K mg) : mg "Life" = some (.ref (He.ga K "Life")) := T.glo (T.fact 46)
theorem Tx.g_NoSuch (T : Tx w K mg) : mg "NoSuch" = some (.ref (He.ga K "NoSuch")) := T.glo (T.fact 47)
theorem Tx.g_BARRED_WORDS (T : Tx w K mg) : mg "BARRED_WORDS" = some (.ref (He.ga K "BARRED_WORDS")) := T.glo (T.fact 48)
theorem Tx.g_BOUNDS (T : Tx w K mg) : mg "BOUNDS" = some (.ref (He.ga K "BOUNDS")) := T.glo (T.fact 49)
theorem Tx.g_MOST_OF (T : Tx w K mg) : mg "MOST_OF" = some (.ref (He.ga K "MOST_OF")) := T.glo (T.fact 50)
theorem Tx.g_RESTS (T : Tx w K mg) : mg "RESTS" = some (.ref (He.ga K "RESTS")) := T.glo (T.fact 51)
theorem Tx.f_isinstance (T : Tx w K mg) : mg "isinstance" = none := T.free (T.fact 52)
theorem Tx.f_len (T : Tx w K mg) : mg "len" = none := T.free (T.fact 53)
theorem Tx.f_all (T : Tx w K mg) : mg "all" = none := T.free (T.fact 54)
theorem Tx.f_zip (T : Tx w K mg) : mg "zip" = none := T.free (T.fact 55)
theorem Tx.f_list (T : Tx w K mg) : mg "list" = none := T.free (T.fact 56)
theorem Tx.f_min (T : Tx w K mg) : mg "min" = none := T.free (T.fact 57)
theorem Tx.f_max (T : Tx w K mg) : mg "max" = none := T.free (T.fact 58)
theorem Tx.f_sorted (T : Tx w K mg) : mg "sorted" = none := T.free (T.fact 59)
theorem Tx.f_set (T : Tx w K mg) : mg "set" = none := T.free (T.fact 60)
theorem Tx.f_enumerate (T : Tx w K mg) : mg "enumerate" = none := T.free (T.fact 61)
theorem Tx.f_range (T : Tx w K mg) : mg "range" = none := T.free (T.fact 62)
theorem Tx.f_tuple (T : Tx w K mg) : mg "tuple" = none := T.free (T.fact 63)
theorem Tx.f_int (T : Tx w K mg) : mg "int" = none := T.free (T.fact 64)
theorem Tx.f_str (T : Tx w K mg) : mg "str" = none := T.free (T.fact 65)
theorem Tx.f_bool (T : Tx w K mg) : mg "bool" = none := T.free (T.fact 66)
theorem Tx.i_MOST_LETTERS (T : Tx w K mg) : ∃ u, mg "MOST_LETTERS" = some u ∧ RelV (.int 8) u := T.int_ (T.fact 67)
theorem Tx.i_LAST_DAY (T : Tx w K mg) : ∃ u, mg "LAST_DAY" = some u ∧ RelV (.int 9999) u := T.int_ (T.fact 68)
theorem Tx.i_MOST_METER (T : Tx w K mg) : ∃ u, mg "MOST_METER" = some u ∧ RelV (.int 1000000) u := T.int_ (T.fact 69)
theorem Tx.i_MOST_GONE (T : Tx w K mg) : ∃ u, mg "MOST_GONE" = some u ∧ RelV (.int 10000000) u := T.int_ (T.fact 70)
theorem Tx.i_MOST_PARTS (T : Tx w K mg) : ∃ u, mg "MOST_PARTS" = some u ∧ RelV (.int 12) u := T.int_ (T.fact 71)
theorem Tx.i_MOST_BARRED (T : Tx w K mg) : ∃ u, mg "MOST_BARRED" = some u ∧ RelV (.int 30) u := T.int_ (T.fact 72)
theorem Tx.i_MOST_SORTS (T : Tx w K mg) : ∃ u, mg "MOST_SORTS" = some u ∧ RelV (.int 40) u := T.int_ (T.fact 73)
theorem Tx.i_MOST_PAGES (T : Tx w K mg) : ∃ u, mg "MOST_PAGES" = some u ∧ RelV (.int 200) u := T.int_ (T.fact 74)
theorem Tx.i_MOST_NUMBER (T : Tx w K mg) : ∃ u, mg "MOST_NUMBER" = some u ∧ RelV (.int 99999) u := T.int_ (T.fact 75)
theorem Tx.z_LETTERS (T : Tx w K mg) : ∃ u, mg "LETTERS" = some u ∧ RelV (.str "abcdefghijklmnopqrstuvwxyz") u := T.str_ (T.fact 76)
theorem Tx.c_Promise (T : Tx w K mg) : Cls K (He.ga K "Promise") := He.cls_ok (T.fact 77)
theorem Tx.k_Promise (T : Tx w K mg) : Mk K (He.ga K "Promise") (He.ma K (He.ga K "Promise") "__init__") := He.mkr_ok (T.fact 78)
theorem Tx.m_Promise_init (T : Tx w K mg) : Meth K (He.ga K "Promise") "__init__" (He.ma K (He.ga K "Promise") "__init__") := He.meth_ok (T.fact 79)
theorem Tx.m_Promise_bounds (T : Tx w K mg) : Meth K (He.ga K "Promise") "bounds" (He.ma K (He.ga K "Promise") "bounds") := He.meth_ok (T.fact 80)
theorem Tx.m_Promise_beyond (T : Tx w K mg) : Meth K (He.ga K "Promise") "beyond" (He.ma K (He.ga K "Promise") "beyond") := He.meth_ok (T.fact 81)
theorem Tx.m_Promise_passed (T : Tx w K mg) : Meth K (He.ga K "Promise") "passed" (He.ma K (He.ga K "Promise") "passed") := He.meth_ok (T.fact 82)
theorem Tx.m_Promise_holds (T : Tx w K mg) : Meth K (He.ga K "Promise") "holds" (He.ma K (He.ga K "Promise") "holds") := He.meth_ok (T.fact 83)
theorem Tx.n_Promise_limits (T : Tx w K mg) : NoAttr K (He.ga K "Promise") "limits" := He.noat_ok (T.fact 84)
theorem Tx.c_Sort (T : Tx w K mg) : Cls K (He.ga K "Sort") := He.cls_ok (T.fact 85)
theorem Tx.k_Sort (T : Tx w K mg) : Mk K (He.ga K "Sort") (He.ma K (He.ga K "Sort") "__init__") := He.mkr_ok (T.fact 86)
theorem Tx.m_Sort_init (T : Tx w K mg) : Meth K (He.ga K "Sort") "__init__" (He.ma K (He.ga K "Sort") "__init__") := He.meth_ok (T.fact 87)
theorem Tx.m_Sort_named (T : Tx w K mg) : Meth K (He.ga K "Sort") "named" (He.ma K (He.ga K "Sort") "named") := He.meth_ok (T.fact 88)
theorem Tx.m_Sort_part_names (T : Tx w K mg) : Meth K (He.ga K "Sort") "part_names" (He.ma K (He.ga K "Sort") "part_names") := He.meth_ok (T.fact 89)
theorem Tx.m_Sort_row_of (T : Tx w K mg) : Meth K (He.ga K "Sort") "row_of" (He.ma K (He.ga K "Sort") "row_of") := He.meth_ok (T.fact 90)
theorem Tx.m_Sort_held_by (T : Tx w K mg) : Meth K (He.ga K "Sort") "held_by" (He.ma K (He.ga K "Sort") "held_by") := He.meth_ok (T.fact 91)
theorem Tx.m_Sort_mended_by (T : Tx w K mg) : Meth K (He.ga K "Sort") "mended_by" (He.ma K (He.ga K "Sort") "mended_by") := He.meth_ok (T.fact 92)
theorem Tx.m_Sort_is_barred (T : Tx w K mg) : Meth K (He.ga K "Sort") "is_barred" (He.ma K (He.ga K "Sort") "is_barred") := He.meth_ok (T.fact 93)
theorem Tx.n_Sort_called (T : Tx w K mg) : NoAttr K (He.ga K "Sort") "called" := He.noat_ok (T.fact 94)
theorem Tx.n_Sort_promised (T : Tx w K mg) : NoAttr K (He.ga K "Sort") "promised" := He.noat_ok (T.fact 95)
theorem Tx.n_Sort_part_rows (T : Tx w K mg) : NoAttr K (He.ga K "Sort") "part_rows" := He.noat_ok (T.fact 96)
theorem Tx.n_Sort_barred_pairs (T : Tx w K mg) : NoAttr K (He.ga K "Sort") "barred_pairs" := He.noat_ok (T.fact 97)
theorem Tx.c_Book (T : Tx w K mg) : Cls K (He.ga K "Book") := He.cls_ok (T.fact 98)
theorem Tx.k_Book (T : Tx w K mg) : Mk K (He.ga K "Book") (He.ma K (He.ga K "Book") "__init__") := He.mkr_ok (T.fact 99)
theorem Tx.m_Book_init (T : Tx w K mg) : Meth K (He.ga K "Book") "__init__" (He.ma K (He.ga K "Book") "__init__") := He.meth_ok (T.fact 100)
theorem Tx.m_Book_add (T : Tx w K mg) : Meth K (He.ga K "Book") "add" (He.ma K (He.ga K "Book") "add") := He.meth_ok (T.fact 101)
theorem Tx.m_Book_sort_of (T : Tx w K mg) : Meth K (He.ga K "Book") "sort_of" (He.ma K (He.ga K "Book") "sort_of") := He.meth_ok (T.fact 102)
theorem Tx.n_Book_sorts (T : Tx w K mg) : NoAttr K (He.ga K "Book") "sorts" := He.noat_ok (T.fact 103)
theorem Tx.c_Question (T : Tx w K mg) : Cls K (He.ga K "Question") := He.cls_ok (T.fact 104)
theorem Tx.k_Question (T : Tx w K mg) : Mk K (He.ga K "Question") (He.ma K (He.ga K "Question") "__init__") := He.mkr_ok (T.fact 105)
theorem Tx.m_Question_init (T : Tx w K mg) : Meth K (He.ga K "Question") "__init__" (He.ma K (He.ga K "Question") "__init__") := He.meth_ok (T.fact 106)
theorem Tx.m_Question_asked (T : Tx w K mg) : Meth K (He.ga K "Question") "asked" (He.ma K (He.ga K "Question") "asked") := He.meth_ok (T.fact 107)
theorem Tx.n_Question_things_asked (T : Tx w K mg) : NoAttr K (He.ga K "Question") "things_asked" := He.noat_ok (T.fact 108)
theorem Tx.c_Rule (T : Tx w K mg) : Cls K (He.ga K "Rule") := He.cls_ok (T.fact 109)
theorem Tx.k_Rule (T : Tx w K mg) : Mk K (He.ga K "Rule") (He.ma K (He.ga K "Rule") "__init__") := He.mkr_ok (T.fact 110)
theorem Tx.m_Rule_init (T : Tx w K mg) : Meth K (He.ga K "Rule") "__init__" (He.ma K (He.ga K "Rule") "__init__") := He.meth_ok (T.fact 111)
theorem Tx.m_Rule_ended (T : Tx w K mg) : Meth K (He.ga K "Rule") "ended" (He.ma K (He.ga K "Rule") "ended") := He.meth_ok (T.fact 112)
theorem Tx.m_Rule_is_over (T : Tx w K mg) : Meth K (He.ga K "Rule") "is_over" (He.ma K (He.ga K "Rule") "is_over") := He.meth_ok (T.fact 113)
theorem Tx.n_Rule_told_word (T : Tx w K mg) : NoAttr K (He.ga K "Rule") "told_word" := He.noat_ok (T.fact 114)
theorem Tx.n_Rule_kept (T : Tx w K mg) : NoAttr K (He.ga K "Rule") "kept" := He.noat_ok (T.fact 115)
theorem Tx.n_Rule_since (T : Tx w K mg) : NoAttr K (He.ga K "Rule") "since" := He.noat_ok (T.fact 116)
theorem Tx.c_Life (T : Tx w K mg) : Cls K (He.ga K "Life") := He.cls_ok (T.fact 117)
theorem Tx.k_Life (T : Tx w K mg) : Mk K (He.ga K "Life") (He.ma K (He.ga K "Life") "__init__") := He.mkr_ok (T.fact 118)
theorem Tx.m_Life_init (T : Tx w K mg) : Meth K (He.ga K "Life") "__init__" (He.ma K (He.ga K "Life") "__init__") := He.meth_ok (T.fact 119)
theorem Tx.m_Life_put (T : Tx w K mg) : Meth K (He.ga K "Life") "put" (He.ma K (He.ga K "Life") "put") := He.meth_ok (T.fact 120)
theorem Tx.m_Life_days (T : Tx w K mg) : Meth K (He.ga K "Life") "days" (He.ma K (He.ga K "Life") "days") := He.meth_ok (T.fact 121)
theorem Tx.m_Life_up_to (T : Tx w K mg) : Meth K (He.ga K "Life") "up_to" (He.ma K (He.ga K "Life") "up_to") := He.meth_ok (T.fact 122)
theorem Tx.m_Life_need_asked (T : Tx w K mg) : Meth K (He.ga K "Life") "need_asked" (He.ma K (He.ga K "Life") "need_asked") := He.meth_ok (T.fact 123)
theorem Tx.m_Life_rules_on (T : Tx w K mg) : Meth K (He.ga K "Life") "rules_on" (He.ma K (He.ga K "Life") "rules_on") := He.meth_ok (T.fact 124)
theorem Tx.m_Life_rules (T : Tx w K mg) : Meth K (He.ga K "Life") "rules" (He.ma K (He.ga K "Life") "rules") := He.meth_ok (T.fact 125)
theorem Tx.m_Life_misused_on (T : Tx w K mg) : Meth K (He.ga K "Life") "misused_on" (He.ma K (He.ga K "Life") "misused_on") := He.meth_ok (T.fact 126)
theorem Tx.m_Life_verdict (T : Tx w K mg) : Meth K (He.ga K "Life") "verdict" (He.ma K (He.ga K "Life") "verdict") := He.meth_ok (T.fact 127)
theorem Tx.n_Life_of_sort (T : Tx w K mg) : NoAttr K (He.ga K "Life") "of_sort" := He.noat_ok (T.fact 128)
theorem Tx.n_Life_serial (T : Tx w K mg) : NoAttr K (He.ga K "Life") "serial" := He.noat_ok (T.fact 129)
theorem Tx.n_Life_told (T : Tx w K mg) : NoAttr K (He.ga K "Life") "told" := He.noat_ok (T.fact 130)
theorem Tx.n_NoSuch_what (T : Tx w K mg) : NoAttr K (He.ga K "NoSuch") "what" := He.noat_ok (T.fact 131)
theorem Tx.n_NoSuch_name (T : Tx w K mg) : NoAttr K (He.ga K "NoSuch") "name" := He.noat_ok (T.fact 132)
theorem Tx.o_Promise (T : Tx w K mg) : C8.InsC K (He.ga K "Promise") := ins_of T.c_Promise (He.ba (He.ba (He.ba (He.ba (He.ba T.ex).2).2).2).2).1
theorem Tx.o_Sort (T : Tx w K mg) : C8.InsC K (He.ga K "Sort") := ins_of T.c_Sort (He.ba (He.ba (He.ba (He.ba (He.ba (He.ba T.ex).2).2).2).2).2).1
theorem Tx.o_Book (T : Tx w K mg) : C8.InsC K (He.ga K "Book") := ins_of T.c_Book (He.ba (He.ba (He.ba (He.ba (He.ba (He.ba (He.ba T.ex).2).2).2).2).2).2).1
theorem Tx.o_Question (T : Tx w K mg) : C8.InsC K (He.ga K "Question") := ins_of T.c_Question (He.ba (He.ba (He.ba (He.ba (He.ba (He.ba (He.ba (He.ba T.ex).2).2).2).2).2).2).2).1
theorem Tx.noSuch (T : Tx w K mg) : nsB K = true := (He.ba (He.ba (He.ba (He.ba (He.ba (He.ba (He.ba (He.ba T.ex).2).2).2).2).2).2).2).2
theorem Tx.F_NoSuch_init (T : Tx w K mg) : ∃ fd, FunD K d_NoSuch_init.name d_NoSuch_init.qual d_NoSuch_init.params d_NoSuch_init.body d_NoSuch_init.scope (d_NoSuch_init.dvs K) (d_NoSuch_init.kws K) (He.fAd K d_NoSuch_init.at_) fd := T.def_ 0
theorem Tx.F_is_whole (T : Tx w K mg) : ∃ fd, FunD K d_is_whole.name d_is_whole.qual d_is_whole.params d_is_whole.body d_is_whole.scope (d_is_whole.dvs K) (d_is_whole.kws K) (He.fAd K d_is_whole.at_) fd := T.def_ 1
theorem Tx.F_is_name (T : Tx w K mg) : ∃ fd, FunD K d_is_name.name d_is_name.qual d_is_name.params d_is_name.body d_is_name.scope (d_is_name.dvs K) (d_is_name.kws K) (He.fAd K d_is_name.at_) fd := T.def_ 2
theorem Tx.F_is_day (T : Tx w K mg) : ∃ fd, FunD K d_is_day.name d_is_day.qual d_is_day.params d_is_day.body d_is_day.scope (d_is_day.dvs K) (d_is_day.kws K) (He.fAd K d_is_day.at_) fd := T.def_ 3
theorem Tx.F_is_meter (T : Tx w K mg) : ∃ fd, FunD K d_is_meter.name d_is_meter.qual d_is_meter.params d_is_meter.body d_is_meter.scope (d_is_meter.dvs K) (d_is_meter.kws K) (He.fAd K d_is_meter.at_) fd := T.def_ 4
theorem Tx.F_need_gone (T : Tx w K mg) : ∃ fd, FunD K d_need_gone.name d_need_gone.qual d_need_gone.params d_need_gone.body d_need_gone.scope (d_need_gone.dvs K) (d_need_gone.kws K) (He.fAd K d_need_gone.at_) fd := T.def_ 5
theorem Tx.F_Promise_init (T : Tx w K mg) : ∃ fd, FunD K d_Promise_init.name d_Promise_init.qual d_Promise_init.params d_Promise_init.body d_Promise_init.scope (d_Promise_init.dvs K) (d_Promise_init.kws K) (He.fAd K d_Promise_init.at_) fd := T.def_ 6
theorem Tx.F_Promise_bounds (T : Tx w K mg) : ∃ fd, FunD K d_Promise_bounds.name d_Promise_bounds.qual d_Promise_bounds.params d_Promise_bounds.body d_Promise_bounds.scope (d_Promise_bounds.dvs K) (d_Promise_bounds.kws K) (He.fAd K d_Promise_bounds.at_) fd := T.def_ 7
theorem Tx.F_Promise_beyond (T : Tx w K mg) : ∃ fd, FunD K d_Promise_beyond.name d_Promise_beyond.qual d_Promise_beyond.params d_Promise_beyond.body d_Promise_beyond.scope (d_Promise_beyond.dvs K) (d_Promise_beyond.kws K) (He.fAd K d_Promise_beyond.at_) fd := T.def_ 8
theorem Tx.F_Promise_passed (T : Tx w K mg) : ∃ fd, FunD K d_Promise_passed.name d_Promise_passed.qual d_Promise_passed.params d_Promise_passed.body d_Promise_passed.scope (d_Promise_passed.dvs K) (d_Promise_passed.kws K) (He.fAd K d_Promise_passed.at_) fd := T.def_ 9
theorem Tx.F_Promise_holds (T : Tx w K mg) : ∃ fd, FunD K d_Promise_holds.name d_Promise_holds.qual d_Promise_holds.params d_Promise_holds.body d_Promise_holds.scope (d_Promise_holds.dvs K) (d_Promise_holds.kws K) (He.fAd K d_Promise_holds.at_) fd := T.def_ 10
theorem Tx.F_need_promise (T : Tx w K mg) : ∃ fd, FunD K d_need_promise.name d_need_promise.qual d_need_promise.params d_need_promise.body d_need_promise.scope (d_need_promise.dvs K) (d_need_promise.kws K) (He.fAd K d_need_promise.at_) fd := T.def_ 11
theorem Tx.F_is_row (T : Tx w K mg) : ∃ fd, FunD K d_is_row.name d_is_row.qual d_is_row.params d_is_row.body d_is_row.scope (d_is_row.dvs K) (d_is_row.kws K) (He.fAd K d_is_row.at_) fd := T.def_ 12
theorem Tx.F_are_parts (T : Tx w K mg) : ∃ fd, FunD K d_are_parts.name d_are_parts.qual d_are_parts.params d_are_parts.body d_are_parts.scope (d_are_parts.dvs K) (d_are_parts.kws K) (He.fAd K d_are_parts.at_) fd := T.def_ 13
theorem Tx.F_are_barred (T : Tx w K mg) : ∃ fd, FunD K d_are_barred.name d_are_barred.qual d_are_barred.params d_are_barred.body d_are_barred.scope (d_are_barred.dvs K) (d_are_barred.kws K) (He.fAd K d_are_barred.at_) fd := T.def_ 14
theorem Tx.F_Sort_init (T : Tx w K mg) : ∃ fd, FunD K d_Sort_init.name d_Sort_init.qual d_Sort_init.params d_Sort_init.body d_Sort_init.scope (d_Sort_init.dvs K) (d_Sort_init.kws K) (He.fAd K d_Sort_init.at_) fd := T.def_ 15
theorem Tx.F_Sort_named (T : Tx w K mg) : ∃ fd, FunD K d_Sort_named.name d_Sort_named.qual d_Sort_named.params d_Sort_named.body d_Sort_named.scope (d_Sort_named.dvs K) (d_Sort_named.kws K) (He.fAd K d_Sort_named.at_) fd := T.def_ 16
theorem Tx.F_Sort_part_names (T : Tx w K mg) : ∃ fd, FunD K d_Sort_part_names.name d_Sort_part_names.qual d_Sort_part_names.params d_Sort_part_names.body d_Sort_part_names.scope (d_Sort_part_names.dvs K) (d_Sort_part_names.kws K) (He.fAd K d_Sort_part_names.at_) fd := T.def_ 17
theorem Tx.F_Sort_row_of (T : Tx w K mg) : ∃ fd, FunD K d_Sort_row_of.name d_Sort_row_of.qual d_Sort_row_of.params d_Sort_row_of.body d_Sort_row_of.scope (d_Sort_row_of.dvs K) (d_Sort_row_of.kws K) (He.fAd K d_Sort_row_of.at_) fd := T.def_ 18
theorem Tx.F_Sort_held_by (T : Tx w K mg) : ∃ fd, FunD K d_Sort_held_by.name d_Sort_held_by.qual d_Sort_held_by.params d_Sort_held_by.body d_Sort_held_by.scope (d_Sort_held_by.dvs K) (d_Sort_held_by.kws K) (He.fAd K d_Sort_held_by.at_) fd := T.def_ 19
theorem Tx.F_Sort_mended_by (T : Tx w K mg) : ∃ fd, FunD K d_Sort_mended_by.name d_Sort_mended_by.qual d_Sort_mended_by.params d_Sort_mended_by.body d_Sort_mended_by.scope (d_Sort_mended_by.dvs K) (d_Sort_mended_by.kws K) (He.fAd K d_Sort_mended_by.at_) fd := T.def_ 20
theorem Tx.F_Sort_is_barred (T : Tx w K mg) : ∃ fd, FunD K d_Sort_is_barred.name d_Sort_is_barred.qual d_Sort_is_barred.params d_Sort_is_barred.body d_Sort_is_barred.scope (d_Sort_is_barred.dvs K) (d_Sort_is_barred.kws K) (He.fAd K d_Sort_is_barred.at_) fd := T.def_ 21
theorem Tx.F_need_sort (T : Tx w K mg) : ∃ fd, FunD K d_need_sort.name d_need_sort.qual d_need_sort.params d_need_sort.body d_need_sort.scope (d_need_sort.dvs K) (d_need_sort.kws K) (He.fAd K d_need_sort.at_) fd := T.def_ 22
theorem Tx.F_Book_init (T : Tx w K mg) : ∃ fd, FunD K d_Book_init.name d_Book_init.qual d_Book_init.params d_Book_init.body d_Book_init.scope (d_Book_init.dvs K) (d_Book_init.kws K) (He.fAd K d_Book_init.at_) fd := T.def_ 23
theorem Tx.F_Book_add (T : Tx w K mg) : ∃ fd, FunD K d_Book_add.name d_Book_add.qual d_Book_add.params d_Book_add.body d_Book_add.scope (d_Book_add.dvs K) (d_Book_add.kws K) (He.fAd K d_Book_add.at_) fd := T.def_ 24
theorem Tx.F_Book_sort_of (T : Tx w K mg) : ∃ fd, FunD K d_Book_sort_of.name d_Book_sort_of.qual d_Book_sort_of.params d_Book_sort_of.body d_Book_sort_of.scope (d_Book_sort_of.dvs K) (d_Book_sort_of.kws K) (He.fAd K d_Book_sort_of.at_) fd := T.def_ 25
theorem Tx.F_is_triple (T : Tx w K mg) : ∃ fd, FunD K d_is_triple.name d_is_triple.qual d_is_triple.params d_is_triple.body d_is_triple.scope (d_is_triple.dvs K) (d_is_triple.kws K) (He.fAd K d_is_triple.at_) fd := T.def_ 26
theorem Tx.F_is_at_most (T : Tx w K mg) : ∃ fd, FunD K d_is_at_most.name d_is_at_most.qual d_is_at_most.params d_is_at_most.body d_is_at_most.scope (d_is_at_most.dvs K) (d_is_at_most.kws K) (He.fAd K d_is_at_most.at_) fd := T.def_ 27
theorem Tx.F_Question_init (T : Tx w K mg) : ∃ fd, FunD K d_Question_init.name d_Question_init.qual d_Question_init.params d_Question_init.body d_Question_init.scope (d_Question_init.dvs K) (d_Question_init.kws K) (He.fAd K d_Question_init.at_) fd := T.def_ 28
theorem Tx.F_Question_asked (T : Tx w K mg) : ∃ fd, FunD K d_Question_asked.name d_Question_asked.qual d_Question_asked.params d_Question_asked.body d_Question_asked.scope (d_Question_asked.dvs K) (d_Question_asked.kws K) (He.fAd K d_Question_asked.at_) fd := T.def_ 29
theorem Tx.F_need_book (T : Tx w K mg) : ∃ fd, FunD K d_need_book.name d_need_book.qual d_need_book.params d_need_book.body d_need_book.scope (d_need_book.dvs K) (d_need_book.kws K) (He.fAd K d_need_book.at_) fd := T.def_ 30
theorem Tx.F_promises_on (T : Tx w K mg) : ∃ fd, FunD K d_promises_on.name d_promises_on.qual d_promises_on.params d_promises_on.body d_promises_on.scope (d_promises_on.dvs K) (d_promises_on.kws K) (He.fAd K d_promises_on.at_) fd := T.def_ 31
theorem Tx.F_is_kept (T : Tx w K mg) : ∃ fd, FunD K d_is_kept.name d_is_kept.qual d_is_kept.params d_is_kept.body d_is_kept.scope (d_is_kept.dvs K) (d_is_kept.kws K) (He.fAd K d_is_kept.at_) fd := T.def_ 32
theorem Tx.F_answer (T : Tx w K mg) : ∃ fd, FunD K d_answer.name d_answer.qual d_answer.params d_answer.body d_answer.scope (d_answer.dvs K) (d_answer.kws K) (He.fAd K d_answer.at_) fd := T.def_ 33
theorem Tx.F_is_named (T : Tx w K mg) : ∃ fd, FunD K d_is_named.name d_is_named.qual d_is_named.params d_is_named.body d_is_named.scope (d_is_named.dvs K) (d_is_named.kws K) (He.fAd K d_is_named.at_) fd := T.def_ 34
theorem Tx.F_is_bare (T : Tx w K mg) : ∃ fd, FunD K d_is_bare.name d_is_bare.qual d_is_bare.params d_is_bare.body d_is_bare.scope (d_is_bare.dvs K) (d_is_bare.kws K) (He.fAd K d_is_bare.at_) fd := T.def_ 35
theorem Tx.F_is_of_part (T : Tx w K mg) : ∃ fd, FunD K d_is_of_part.name d_is_of_part.qual d_is_of_part.params d_is_of_part.body d_is_of_part.scope (d_is_of_part.dvs K) (d_is_of_part.kws K) (He.fAd K d_is_of_part.at_) fd := T.def_ 36
theorem Tx.F_is_claim (T : Tx w K mg) : ∃ fd, FunD K d_is_claim.name d_is_claim.qual d_is_claim.params d_is_claim.body d_is_claim.scope (d_is_claim.dvs K) (d_is_claim.kws K) (He.fAd K d_is_claim.at_) fd := T.def_ 37
theorem Tx.F_is_page (T : Tx w K mg) : ∃ fd, FunD K d_is_page.name d_is_page.qual d_is_page.params d_is_page.body d_is_page.scope (d_is_page.dvs K) (d_is_page.kws K) (He.fAd K d_is_page.at_) fd := T.def_ 38
theorem Tx.F_page_rank (T : Tx w K mg) : ∃ fd, FunD K d_page_rank.name d_page_rank.qual d_page_rank.params d_page_rank.body d_page_rank.scope (d_page_rank.dvs K) (d_page_rank.kws K) (He.fAd K d_page_rank.at_) fd := T.def_ 39
theorem Tx.F_is_not_more (T : Tx w K mg) : ∃ fd, FunD K d_is_not_more.name d_is_not_more.qual d_is_not_more.params d_is_not_more.body d_is_not_more.scope (d_is_not_more.dvs K) (d_is_not_more.kws K) (He.fAd K d_is_not_more.at_) fd := T.def_ 40
theorem Tx.F_do_fit (T : Tx w K mg) : ∃ fd, FunD K d_do_fit.name d_do_fit.qual d_do_fit.params d_do_fit.body d_do_fit.scope (d_do_fit.dvs K) (d_do_fit.kws K) (He.fAd K d_do_fit.at_) fd := T.def_ 41
theorem Tx.F_gone_between (T : Tx w K mg) : ∃ fd, FunD K d_gone_between.name d_gone_between.qual d_gone_between.params d_gone_between.body d_gone_between.scope (d_gone_between.dvs K) (d_gone_between.kws K) (He.fAd K d_gone_between.at_) fd := T.def_ 42
theorem Tx.F_Rule_init (T : Tx w K mg) : ∃ fd, FunD K d_Rule_init.name d_Rule_init.qual d_Rule_init.params d_Rule_init.body d_Rule_init.scope (d_Rule_init.dvs K) (d_Rule_init.kws K) (He.fAd K d_Rule_init.at_) fd := T.def_ 43
theorem Tx.F_Rule_ended (T : Tx w K mg) : ∃ fd, FunD K d_Rule_ended.name d_Rule_ended.qual d_Rule_ended.params d_Rule_ended.body d_Rule_ended.scope (d_Rule_ended.dvs K) (d_Rule_ended.kws K) (He.fAd K d_Rule_ended.at_) fd := T.def_ 44
theorem Tx.F_Rule_is_over (T : Tx w K mg) : ∃ fd, FunD K d_Rule_is_over.name d_Rule_is_over.qual d_Rule_is_over.params d_Rule_is_over.body d_Rule_is_over.scope (d_Rule_is_over.dvs K) (d_Rule_is_over.kws K) (He.fAd K d_Rule_is_over.at_) fd := T.def_ 45
theorem Tx.F_Life_init (T : Tx w K mg) : ∃ fd, FunD K d_Life_init.name d_Life_init.qual d_Life_init.params d_Life_init.body d_Life_init.scope (d_Life_init.dvs K) (d_Life_init.kws K) (He.fAd K d_Life_init.at_) fd := T.def_ 46
theorem Tx.F_Life_put (T : Tx w K mg) : ∃ fd, FunD K d_Life_put.name d_Life_put.qual d_Life_put.params d_Life_put.body d_Life_put.scope (d_Life_put.dvs K) (d_Life_put.kws K) (He.fAd K d_Life_put.at_) fd := T.def_ 47
theorem Tx.F_Life_days (T : Tx w K mg) : ∃ fd, FunD K d_Life_days.name d_Life_days.qual d_Life_days.params d_Life_days.body d_Life_days.scope (d_Life_days.dvs K) (d_Life_days.kws K) (He.fAd K d_Life_days.at_) fd := T.def_ 48
theorem Tx.F_Life_up_to (T : Tx w K mg) : ∃ fd, FunD K d_Life_up_to.name d_Life_up_to.qual d_Life_up_to.params d_Life_up_to.body d_Life_up_to.scope (d_Life_up_to.dvs K) (d_Life_up_to.kws K) (He.fAd K d_Life_up_to.at_) fd := T.def_ 49
theorem Tx.F_Life_need_asked (T : Tx w K mg) : ∃ fd, FunD K d_Life_need_asked.name d_Life_need_asked.qual d_Life_need_asked.params d_Life_need_asked.body d_Life_need_asked.scope (d_Life_need_asked.dvs K) (d_Life_need_asked.kws K) (He.fAd K d_Life_need_asked.at_) fd := T.def_ 50
theorem Tx.F_Life_rules_on (T : Tx w K mg) : ∃ fd, FunD K d_Life_rules_on.name d_Life_rules_on.qual d_Life_rules_on.params d_Life_rules_on.body d_Life_rules_on.scope (d_Life_rules_on.dvs K) (d_Life_rules_on.kws K) (He.fAd K d_Life_rules_on.at_) fd := T.def_ 51
theorem Tx.F_Life_rules (T : Tx w K mg) : ∃ fd, FunD K d_Life_rules.name d_Life_rules.qual d_Life_rules.params d_Life_rules.body d_Life_rules.scope (d_Life_rules.dvs K) (d_Life_rules.kws K) (He.fAd K d_Life_rules.at_) fd := T.def_ 52
theorem Tx.F_Life_misused_on (T : Tx w K mg) : ∃ fd, FunD K d_Life_misused_on.name d_Life_misused_on.qual d_Life_misused_on.params d_Life_misused_on.body d_Life_misused_on.scope (d_Life_misused_on.dvs K) (d_Life_misused_on.kws K) (He.fAd K d_Life_misused_on.at_) fd := T.def_ 53
theorem Tx.F_Life_verdict (T : Tx w K mg) : ∃ fd, FunD K d_Life_verdict.name d_Life_verdict.qual d_Life_verdict.params d_Life_verdict.body d_Life_verdict.scope (d_Life_verdict.dvs K) (d_Life_verdict.kws K) (He.fAd K d_Life_verdict.at_) fd := T.def_ 54
theorem Tx.F_law_mixed (T : Tx w K mg) : ∃ fd, FunD K d_law_mixed.name d_law_mixed.qual d_law_mixed.params d_law_mixed.body d_law_mixed.scope (d_law_mixed.dvs K) (d_law_mixed.kws K) (He.fAd K d_law_mixed.at_) fd := T.def_ 55
theorem Tx.F_law_folded (T : Tx w K mg) : ∃ fd, FunD K d_law_folded.name d_law_folded.qual d_law_folded.params d_law_folded.body d_law_folded.scope (d_law_folded.dvs K) (d_law_folded.kws K) (He.fAd K d_law_folded.at_) fd := T.def_ 56
theorem Tx.F_law_draw (T : Tx w K mg) : ∃ fd, FunD K d_law_draw.name d_law_draw.qual d_law_draw.params d_law_draw.body d_law_draw.scope (d_law_draw.dvs K) (d_law_draw.kws K) (He.fAd K d_law_draw.at_) fd := T.def_ 57
theorem Tx.F_law_begun (T : Tx w K mg) : ∃ fd, FunD K d_law_begun.name d_law_begun.qual d_law_begun.params d_law_begun.body d_law_begun.scope (d_law_begun.dvs K) (d_law_begun.kws K) (He.fAd K d_law_begun.at_) fd := T.def_ 58
theorem Tx.F_law_called (T : Tx w K mg) : ∃ fd, FunD K d_law_called.name d_law_called.qual d_law_called.params d_law_called.body d_law_called.scope (d_law_called.dvs K) (d_law_called.kws K) (He.fAd K d_law_called.at_) fd := T.def_ 59
theorem Tx.F_law_limit (T : Tx w K mg) : ∃ fd, FunD K d_law_limit.name d_law_limit.qual d_law_limit.params d_law_limit.body d_law_limit.scope (d_law_limit.dvs K) (d_law_limit.kws K) (He.fAd K d_law_limit.at_) fd := T.def_ 60
theorem Tx.F_law_limits (T : Tx w K mg) : ∃ fd, FunD K d_law_limits.name d_law_limits.qual d_law_limits.params d_law_limits.body d_law_limits.scope (d_law_limits.dvs K) (d_law_limits.kws K) (He.fAd K d_law_limits.at_) fd := T.def_ 61
theorem Tx.F_law_plain_sort (T : Tx w K mg) : ∃ fd, FunD K d_law_plain_sort.name d_law_plain_sort.qual d_law_plain_sort.params d_law_plain_sort.body d_law_plain_sort.scope (d_law_plain_sort.dvs K) (d_law_plain_sort.kws K) (He.fAd K d_law_plain_sort.at_) fd := T.def_ 62
theorem Tx.F_law_promise (T : Tx w K mg) : ∃ fd, FunD K d_law_promise.name d_law_promise.qual d_law_promise.params d_law_promise.body d_law_promise.scope (d_law_promise.dvs K) (d_law_promise.kws K) (He.fAd K d_law_promise.at_) fd := T.def_ 63
theorem Tx.F_law_sort (T : Tx w K mg) : ∃ fd, FunD K d_law_sort.name d_law_sort.qual d_law_sort.params d_law_sort.body d_law_sort.scope (d_law_sort.dvs K) (d_law_sort.kws K) (He.fAd K d_law_sort.at_) fd := T.def_ 64
theorem Tx.F_law_mixed_up (T : Tx w K mg) : ∃ fd, FunD K d_law_mixed_up.name d_law_mixed_up.qual d_law_mixed_up.params d_law_mixed_up.body d_law_mixed_up.scope (d_law_mixed_up.dvs K) (d_law_mixed_up.kws K) (He.fAd K d_law_mixed_up.at_) fd := T.def_ 65
theorem Tx.F_law_worded (T : Tx w K mg) : ∃ fd, FunD K d_law_worded.name d_law_worded.qual d_law_worded.params d_law_worded.body d_law_worded.scope (d_law_worded.dvs K) (d_law_worded.kws K) (He.fAd K d_law_worded.at_) fd := T.def_ 66
theorem Tx.F_law_gone (T : Tx w K mg) : ∃ fd, FunD K d_law_gone.name d_law_gone.qual d_law_gone.params d_law_gone.body d_law_gone.scope (d_law_gone.dvs K) (d_law_gone.kws K) (He.fAd K d_law_gone.at_) fd := T.def_ 67
theorem Tx.F_law_life (T : Tx w K mg) : ∃ fd, FunD K d_law_life.name d_law_life.qual d_law_life.params d_law_life.body d_law_life.scope (d_law_life.dvs K) (d_law_life.kws K) (He.fAd K d_law_life.at_) fd := T.def_ 68
theorem Tx.F_law_one_right (T : Tx w K mg) : ∃ fd, FunD K d_law_one_right.name d_law_one_right.qual d_law_one_right.params d_law_one_right.body d_law_one_right.scope (d_law_one_right.dvs K) (d_law_one_right.kws K) (He.fAd K d_law_one_right.at_) fd := T.def_ 69
theorem Tx.F_law (T : Tx w K mg) : ∃ fd, FunD K d_law.name d_law.qual d_law.params d_law.body d_law.scope (d_law.dvs K) (d_law.kws K) (He.fAd K d_law.at_) fd := T.def_ 70
end
end Wk
end

section
set_option Elab.async false
set_option linter.all false
set_option maxRecDepth 100000
/-! The head: the top's run, with the facts. -/
namespace Wk
open PySem PySem.W PySem.Calls PyProof.Rows
abbrev hR : OpenRow := OpenLaw.row PySem.Challenge.rw_wordkept_k76_whole_answers_and_verdicts
abbrev hQ : Program := view hR.prog [72]
def looseL : List PySem.Str := (["_wall", "BadValue", "NoSuch", "OutOfOrder", "Full", "LETTERS", "MOST_LETTERS", "LAST_DAY", "MOST_METER", "MOST_GONE", "BARRED_WORDS", "is_whole", "is_name", "is_day", "is_meter", "BOUNDS", "MOST_OF", "need_gone", "Promise", "need_promise", "MOST_PARTS", "MOST_BARRED", "MOST_SORTS", "is_row", "are_parts", "are_barred", "Sort", "need_sort", "Book"] : List PySem.Str) ++
  (["is_triple", "is_at_most", "Question", "need_book", "promises_on", "is_kept", "answer", "MOST_PAGES", "MOST_NUMBER", "is_named", "is_bare", "is_of_part", "is_claim", "RESTS", "is_page", "page_rank", "is_not_more", "do_fit", "gone_between", "Rule", "Life"] : List PySem.Str) ++
  (["_law_mixed", "_law_folded", "_law_draw", "_law_begun", "_law_called", "_law_limit", "_law_limits", "_law_plain_sort", "_law_promise", "_law_sort", "_law_mixed_up", "_law_worded", "_law_gone", "_law_life", "_law_one_right"] : List PySem.Str)
def gl1 : List PySem.Str := ["Promise", "Sort", "Book", "Question", "Rule", "Life", "NoSuch", "BARRED_WORDS", "BOUNDS", "MOST_OF", "RESTS"]
def refsW (o : Obj) : List Addr := match o.data with
  | .func fd => He.refV fd.code ++ He.refV fd.defaults
  | .cls cd => [cd.ns]
  | _ => []
def valsW (o : Obj) : List Addr := match o.data with
  | .dict es _ => es.toList.flatMap fun e => He.refV e.val
  | _ => []
def nextW (f : Obj → List Addr) (g : Addr → Option Obj) (as : List Addr) : List Addr := as.flatMap fun a => match g a with
  | some o => f o
  | none => []
def asW2 (g : Addr → Option Obj) (cs fs : List Addr) : List Addr := mainGlobals :: (cs ++ (nextW refsW g cs ++ (nextW valsW g (nextW refsW g cs) ++ (nextW refsW g (nextW valsW g (nextW refsW g cs)) ++ (fs ++ nextW refsW g fs)))))
def asW (g : Addr → Option Obj) : List Addr := asW2 g (gl1.map (He.ga (He.frG g [mainGlobals]))) (fnL.filterMap fun d => match d.at_.2 with
  | none => some (He.ga (He.frG g [mainGlobals]) d.at_.1)
  | some _ => none)
abbrev AlW : Type := He.AlT × Bool
def obsW (g : Addr → Option Obj) : AlW := (He.obsT faL fnL tsL (He.frG g (asW g)), exB (He.frG g (asW g)))
def valW (w : World) : AlW := (He.valT fnL tsL w, true)
theorem two_of {α β : Type} {a a' : α} {b b' : β} (h : (a, b) = (a', b')) : a = a' ∧ b = b' := Prod.mk.inj h
theorem obsW_of {g : Addr → Option Obj} {w : World} (e : obsW g = valW w) : He.SaysT faL fnL tsL w (He.frG g (asW g)) ∧ exB (He.frG g (asW g)) = true := by
  unfold obsW valW at e
  exact two_of e
def hkW : Hook where
  α := AlW
  obs := fun s => obsW s.heap.get?
  val := fun w => valW w
  says := fun w h => ∃ K : Frag, K.In h ∧ He.SaysT faL fnL tsL w K ∧ exB K = true
  of := fun _ _ e => ⟨_, He.frG_in, obsW_of e⟩
  keeps := fun _ _ _ ⟨K, hK, c⟩ k => ⟨K, Frag.In.keeps hK k, c⟩
def obW (s : SharedT) : AlW := obsW (HandSHeadRun.getT s)
theorem obW_eq (s : SharedT) : obW s = hkW.obs s.abs := by
  have e : HandSHeadRun.getT s = s.abs.heap.get? := funext (HandSHeadRun.getT_eq s)
  show obsW (HandSHeadRun.getT s) = obsW s.abs.heap.get?
  rw [e]
set_option maxHeartbeats 0 in
theorem runWf (w : World) : HandSHeadRun.RunEq hR hQ hkW obW 8000 looseL (w.withFollow "special-get-raises" false) := by
  intro os
  kernel_rfl
set_option maxHeartbeats 0 in
theorem runWt (w : World) : HandSHeadRun.RunEq hR hQ hkW obW 8000 looseL (w.withFollow "special-get-raises" true) := by
  intro os
  kernel_rfl
theorem runW (w : World) : HandSHeadRun.RunEq hR hQ hkW obW 8000 looseL w := byRow2 "special-get-raises" (P := fun w => HandSHeadRun.RunEq hR hQ hkW obW 8000 looseL w) runWf runWt w
end Wk
end

section
set_option Elab.async false
set_option linter.all false
set_option maxRecDepth 100000
/-! Calls with keywords of methods, types as values, small words. -/
namespace Wk
open PySem PySem.Spec PyProof.Rows L2 RZ
section
variable {X : Cx}
/-! ### built-in classes as values -/
theorem pe_ty_str {pos : Pos} (hm : X.mg "str" = none) (hg : Gl X "str" := by rfl) : PE X (.Name "str" pos) (tC (.ty "str")) := pe_bltn (u := .type "str") hg hm (by decide +kernel) rfl
theorem pe_ty_int {pos : Pos} (hm : X.mg "int" = none) (hg : Gl X "int" := by rfl) : PE X (.Name "int" pos) (tC (.ty "int")) := pe_bltn (u := .type "int") hg hm (by decide +kernel) rfl
theorem pe_ty_bool {pos : Pos} (hm : X.mg "bool" = none) (hg : Gl X "bool" := by rfl) : PE X (.Name "bool" pos) (tC (.ty "bool")) := pe_bltn (u := .type "bool") hg hm (by decide +kernel) rfl
theorem pe_ty_tuple {pos : Pos} (hm : X.mg "tuple" = none) (hg : Gl X "tuple" := by rfl) : PE X (.Name "tuple" pos) (tC (.ty "tuple")) := pe_bltn (u := .type "tuple") hg hm (by decide +kernel) rfl
end

/-! ### defs called with keywords -/
structure CalN (P : Program) (w : World) (K : PySem.W.Frag) (mg : Str → Option Value) (base : Heap) (k : Nat) (x : Str) (sp : Sp) (n : Nat) (ks : List Str) (gV : List V → List V → List V) : Prop where
  ex : ∃ (f : Addr) (fd : FuncData) (ps : List Str) (g : List Value → List Value → List Value), FnOk P w K mg base CX0 k f fd ps sp ∧ mg x = some (.ref f) ∧ PySem.W.keepIn K (.ref f) = true ∧ KBn K fd ps n ks g gV
structure MetN (P : Program) (w : World) (K : PySem.W.Frag) (mg : Str → Option Value) (base : Heap) (k : Nat) (C : Addr) (m : Str) (sp : Sp) (n : Nat) (ks : List Str) (gV : List V → List V → List V) : Prop where
  ex : ∃ (f : Addr) (fd : FuncData) (ps : List Str) (g : List Value → List Value → List Value), Cls K C ∧ Meth K C m f ∧ FnOk P w K mg base CX0 k f fd ps sp ∧ KBn K fd ps (n + 1) ks g gV
structure MakN (P : Program) (w : World) (K : PySem.W.Frag) (mg : Str → Option Value) (base : Heap) (k : Nat) (x : Str) (C : Addr) (sp : Sp) (n : Nat) (ks : List Str) (gV : List V → List V → List V) : Prop where
  ex : ∃ (f : Addr) (fd : FuncData) (ps : List Str) (g : List Value → List Value → List Value), Mk K C f ∧ FnOk P w K mg base CX0 k f fd ps sp ∧ mg x = some (.ref C) ∧ KBn K fd ps (n + 1) ks g gV
/-- o.m(e, .., k = v, ..) -/
def tMethN (C : Addr) (m : Str) (n c : Nat) (sp : Sp) (gV : List V → List V → List V) (E : XK) (ta : TE) (t tk : TA) : TE := fun σ H Q => ta σ H fun x H1 => ∃ a dx fs, x = .ref a ∧ H1 a = some (.ins C dx fs) ∧ fs.lookup m = none ∧
  t σ H1 fun vs H2 => tk σ H2 fun zs H3 => vs.length = n ∧ zs.length = c ∧ sp (gV (x :: vs) zs) H3 Q E
section
variable {X : Cx} {k j n : Nat} {C : Addr} {x m : Str} {sp : Sp} {p pos apos : Pos} {e o : Expr} {es : List Expr} {kws : List Keyword} {ta : TE} {t tk : TA} {ks : List Str} {gV : List V → List V → List V}
theorem pe_cn (c : CalN X.prog X.w X.K X.mg X.base k x sp n ks gV) (hr : Room j X.A) (hk : k ≤ j) (hg : Gl X x) (ha : PA X (e :: es) t) (hkw : PK X kws tk)
    (hall : (backToKw pos (keywordEach kws X.env)).all (·.1.isSome) = true := by rfl) (hks : (backToKw pos (keywordEach kws X.env)).filterMap (·.1) = ks := by rfl)
    (hdb : (x == ("__debug__" : Str)) = false := by decide) (he : starEach (e :: es) X.env = (false, eval e X.env) :: starEach es X.env := by rfl)
    (hpl : ((backTo pos (starEach (e :: es) X.env)).any (·.1) || (backToKw pos (keywordEach kws X.env)).any (·.1.isNone)) = false := by rfl) :
    PE X (.Call (.Name x p) (e :: es) kws pos) (tCallN n ks.length sp gV E0 t tk) := by
  obtain ⟨f, fd, ps, g, F, hm, kp, b⟩ := c.ex
  exact pe_callN F (hr.mono hk) hg hm kp b pass0 ha hkw hall hks hdb he hpl
theorem pe_mkn (c : MakN X.prog X.w X.K X.mg X.base k x C sp n ks gV) (hr : Room j X.A) (hk : k + 1 ≤ j) (hg : Gl X x) (ha : PA X (e :: es) t) (hkw : PK X kws tk)
    (hall : (backToKw pos (keywordEach kws X.env)).all (·.1.isSome) = true := by rfl) (hks : (backToKw pos (keywordEach kws X.env)).filterMap (·.1) = ks := by rfl) (hdb : (x == ("__debug__" : Str)) = false := by decide)
    (he : starEach (e :: es) X.env = (false, eval e X.env) :: starEach es X.env := by rfl) (hpl : ((backTo pos (starEach (e :: es) X.env)).any (·.1) || (backToKw pos (keywordEach kws X.env)).any (·.1.isNone)) = false := by rfl) :
    PE X (.Call (.Name x p) (e :: es) kws pos) (tMakeK C n ks.length sp gV E0 t tk) := by
  obtain ⟨f, fd, ps, g, M, F, hm, b⟩ := c.ex
  exact pe_makeK M F (hr.mono hk) hg hm b pass0 ha hkw hall hks hdb he hpl
theorem pe_mkn0 (c : MakN X.prog X.w X.K X.mg X.base k x C sp 0 ks gV) (hr : Room j X.A) (hk : k + 1 ≤ j) (hg : Gl X x) (hkw : PK X kws tk)
    (hall : (backToKw pos (keywordEach kws X.env)).all (·.1.isSome) = true := by rfl) (hks : (backToKw pos (keywordEach kws X.env)).filterMap (·.1) = ks := by rfl) (hdb : (x == ("__debug__" : Str)) = false := by decide)
    (hpl : ((backTo pos (starEach [] X.env)).any (·.1) || (backToKw pos (keywordEach kws X.env)).any (·.1.isNone)) = false := by rfl) :
    PE X (.Call (.Name x p) [] kws pos) (tMakeK C 0 ks.length sp gV E0 tNil tk) := by
  obtain ⟨f, fd, ps, g, M, F, hm, b⟩ := c.ex
  exact pe_makeK0 M F (hr.mono hk) hg hm b pass0 hkw hall hks hdb hpl
theorem pe_mtn {pl : Sem Bool} (c : MetN X.prog X.w X.K X.mg X.base k C m sp n ks gV) (hr : Room j X.A) (hk : k ≤ j) (he : PE X o ta) (ha : PA X (e :: es) t) (hkw : PK X kws tk)
    (hall : (backToKw pos (keywordEach kws X.env)).all (·.1.isSome) = true := by rfl) (hks : (backToKw pos (keywordEach kws X.env)).filterMap (·.1) = ks := by rfl)
    (hst : starEach (e :: es) X.env = (false, eval e X.env) :: starEach es X.env := by rfl)
    (hpl : ((backTo pos (starEach (e :: es) X.env)).any (·.1) || (backToKw pos (keywordEach kws X.env)).any (·.1.isNone)) = false := by rfl)
    (ht : eval (.Call (.Attribute o m apos) (e :: es) kws pos) X.env = (do
      let ov ← eval o X.env
      standAt apos.atName
      let (f, first) ← holding [ov] (getMethod ov m pl)
      callWith pos f first (backTo pos (starEach (e :: es) X.env)) (backToKw pos (keywordEach kws X.env))) := by rfl) :
    PE X (.Call (.Attribute o m apos) (e :: es) kws pos) (tMethN C m n ks.length sp gV E0 ta t tk) := by
  obtain ⟨f, fd, ps, g, hc, hm, F, b⟩ := c.ex
  refine ⟨fun pins s σ H Q I h => ?_⟩
  refine PySem.W.methodCall_KW (pl := pl) (thn (he.run pins s σ H _ I h) fun u s1 ⟨x, H1, I1, rx, a, dx, fs, ex, ea, l, q⟩ => ?_) ht
  subst ex
  obtain rfl : u = Value.ref a := rx
  refine getmeth_ok I1 ea hc hm l ?_
  refine PySem.W.callWith_KW (first := [.ref a]) (h₀ := X.base) I.ok.mod.kin hm.kp hall (thn (ha.run pos pins s1 σ H1 _ I1 q) fun us s2 ⟨vs, H2, I2, r, q2⟩ => ?_) hpl hst
  refine thn (hkw.run pos pins s2 σ H2 _ I2 q2) fun ws s3 ⟨zs, H3, I3, rz, l1, l2, q3⟩ => ⟨I3.kIn, ?_⟩
  rw [hks]
  exact run_fnN (us := .ref a :: us) (vs := .ref a :: vs) F (hr.mono hk) b pass0 I3 (.cons rfl r) rz (congrArg Nat.succ l1) l2 q3
end

/-! ### small words -/
theorem isi_ty {X : Cx} {ok : V → Hp → Prop} {n m : String} {b : Bool} (ty : ∀ x H, ok x H → TyX X.K H x (.type n)) (h : kitB n m = some b) :
    CallR X (.builtin "isinstance") (fun xs H Q => ∃ x, xs = [x, .ty m] ∧ ok x H ∧ Q (.bl b) H) := by
  intro pins s σ H xs us Q I r h'
  obtain ⟨x, rfl, hx, q⟩ := h'
  exact call_isi pins s σ H _ us Q I r ⟨x, .ty m, .type n, .type m, b, rfl, .ty m, ty x H hx, kit_ty h, q⟩
theorem call_isInt {X : Cx} : CallR X (.builtin "isinstance") (fun xs H Q => ∃ x, xs = [x, .ty "int"] ∧ (∃ i, x = .int i) ∧ Q (.bl true) H) :=
  isi_ty (ok := fun x _ => ∃ i, x = .int i) (n := "int") (fun x H ⟨i, e⟩ => e ▸ .base (.int i)) (by decide)
theorem call_isIntB {X : Cx} : CallR X (.builtin "isinstance") (fun xs H Q => ∃ x, xs = [x, .ty "bool"] ∧ (∃ i, x = .int i) ∧ Q (.bl false) H) :=
  isi_ty (ok := fun x _ => ∃ i, x = .int i) (n := "int") (fun x H ⟨i, e⟩ => e ▸ .base (.int i)) (by decide)
theorem call_isStr {X : Cx} : CallR X (.builtin "isinstance") (fun xs H Q => ∃ x, xs = [x, .ty "str"] ∧ (∃ i, x = .str i) ∧ Q (.bl true) H) :=
  isi_ty (ok := fun x _ => ∃ i, x = .str i) (n := "str") (fun x H ⟨i, e⟩ => e ▸ .base (.str i)) (by decide)
theorem call_isTup {X : Cx} : CallR X (.builtin "isinstance") (fun xs H Q => ∃ x, xs = [x, .ty "tuple"] ∧ (∃ a ys, x = .ref a ∧ H a = some (.tup ys)) ∧ Q (.bl true) H) :=
  isi_ty (ok := fun x H => ∃ a ys, x = .ref a ∧ H a = some (.tup ys)) (n := "tuple") (fun x H ⟨a, ys, e, h⟩ => e ▸ .base (.tup h)) (by decide)
theorem pe_gr {X : Cx} {x : Str} {a : Addr} {pos : Pos} (hg : Gl X x) (hm : X.mg x = some (.ref a)) (hd : (x == ("__debug__" : Str)) = false := by decide) : PE X (.Name x pos) (tC (.ref a)) := pe_glob hg hm rfl hd
theorem Same.new {H : Hp} {p : Addr} {o : HO} (h : H p = none) : Same H (upd H p o) := fun a u e => by
  rw [upd_ne (ne_of_none e h)]
  exact e
theorem Same.mut {H H' : Hp} {p : Addr} {o : HO} (e : Same H H') (h : H p = none) : Same H (upd H' p o) := fun a u ha => by
  rw [upd_ne (ne_of_none ha h)]
  exact e a u ha
theorem ite2b {b : Bool} {A B : Prop} (h1 : b = true → A) (h2 : b = false → B) : if b = true then A else B := by
  cases b with
  | true => exact iteT (h1 rfl)
  | false => exact iteF (h2 rfl)
/-! ### frames: what stays -/
/-- all that was tracked stays, but what S tells -/
def SBut (S : Addr → Prop) (H H' : Hp) : Prop := ∀ a o, ¬ S a → H a = some o → H' a = some o
/-- tuples and instances stay -/
structure ISame (H H' : Hp) : Prop where
  tup : ∀ a xs, H a = some (.tup xs) → H' a = some (.tup xs)
  ins : ∀ a C dx fs, H a = some (.ins C dx fs) → H' a = some (.ins C dx fs)
theorem ISame.refl (H : Hp) : ISame H H := ⟨fun _ _ h => h, fun _ _ _ _ h => h⟩
theorem ISame.trans {H H1 H2 : Hp} (a : ISame H H1) (b : ISame H1 H2) : ISame H H2 := ⟨fun p xs h => b.tup p xs (a.tup p xs h), fun p C dx fs h => b.ins p C dx fs (a.ins p C dx fs h)⟩
theorem ISame.of {H H' : Hp} (e : Same H H') : ISame H H' := ⟨fun a _ h => e a _ h, fun a _ _ _ h => e a _ h⟩
theorem ISame.lst {H : Hp} {D : Addr} {xs : List V} {o : HO} (h : H D = some (.lst xs)) : ISame H (upd H D o) :=
  ⟨fun a ys q => by rw [upd_ne (ne_of q h (fun z => by cases z))]; exact q, fun a C dx fs q => by rw [upd_ne (ne_of q h (fun z => by cases z))]; exact q⟩
theorem ISame.dK {H : Hp} {D : Addr} {xs : List (Key × V)} {o : HO} (h : H D = some (.dK xs)) : ISame H (upd H D o) :=
  ⟨fun a ys q => by rw [upd_ne (ne_of q h (fun z => by cases z))]; exact q, fun a C dx fs q => by rw [upd_ne (ne_of q h (fun z => by cases z))]; exact q⟩
theorem SBut.refl {S : Addr → Prop} (H : Hp) : SBut S H H := fun _ _ _ h => h
theorem SBut.trans {S : Addr → Prop} {H H1 H2 : Hp} (a : SBut S H H1) (b : SBut S H1 H2) : SBut S H H2 := fun x o n h => b x o n (a x o n h)
theorem SBut.of {S : Addr → Prop} {H H' : Hp} (e : Same H H') : SBut S H H' := fun a o _ h => e a o h
theorem SBut.same {H H' : Hp} (e : SBut (fun _ => False) H H') : Same H H' := fun a o h => e a o (fun z => z) h
theorem SBut.mut {S : Addr → Prop} {H H' : Hp} {p : Addr} {o : HO} (e : SBut S H H') (h : H p = none) : SBut S H (upd H' p o) := fun a u n ha => by
  rw [upd_ne (ne_of_none ha h)]
  exact e a u n ha
theorem Same.free' {H H' : Hp} (e : Same H H') {l : Addr} (h : H' l = Option.none) : H l = Option.none := e.free h

/-! ### comprehensions -/
section
variable {J : It} {n : Nat} {G : Hp → Prop} {Y : Nat → Hp → V → Hp → Prop} {g : TG} {tt : TT} {te : TE} {vs : List Nat} {σ : L2.St} {H1 : Hp} {D : Addr} {Qd : Hp → Prop}
/-- the list so far, the heap: P; what S tells may change on the way -/
theorem lc_b (w : Walk J n G Y) (S : Addr → Prop) (P : Nat → List V → Hp → Prop) (hn : n ≤ 100000) (hD : H1 D = none) (hS : ∀ a, S a → ∃ o, H1 a = some o)
    (Pm : ∀ i acc H ys ys', H D = some (.lst ys) → P i acc H → P i acc (upd H D (.lst ys'))) (h0 : P 0 [] (upd H1 D (.lst []))) (hG : ∀ i acc H, SBut S H1 H → P i acc H → G H)
    (hs : ∀ i acc x Ha Hb, i < n → acc.length ≤ i → SBut S H1 Ha → Ha D = some (.lst acc) → P i acc Ha → Y i Ha x Hb → ∀ (Qt : VK) (Qf : Hp → Prop), (∀ y Hc, SBut S Ha Hc → P (i + 1) (acc ++ [y]) Hc → Qt y Hc) → (∀ Hc, SBut S Ha Hc → P (i + 1) acc Hc → Qf Hc) →
      g x (wipe σ vs) Hb fun σ2 H2 => wipe σ2 vs = wipe σ vs ∧ tt σ2 H2 fun b H3 => if b = true then te σ2 H3 Qt else Qf H3)
    (hd : ∀ ys H, SBut S H1 H → H D = some (.lst ys) → ys.length ≤ n → P n ys H → Qd H) :
    ∃ W : Nat → Nat → Hp → Prop, (∃ m, W 0 m (upd H1 D (.lst []))) ∧ ∀ i m H, W i m H →
      (J.stop i H ∧ Qd H) ∨ (J.go i H ∧ ∃ Nx : Hp → Prop, (∀ H', Nx H' → ∃ m', m' < m ∧ W (i + 1) m' H') ∧ ∀ x H', J.yld i H x H' → g x (wipe σ vs) H' fun σ2 H2 => wipe σ2 vs = wipe σ vs ∧ tt σ2 H2 fun b H3 =>
        if b = true then te σ2 H3 fun y H4 => ∃ acc, H4 D = some (.lst acc) ∧ acc.length < sizeLine ∧ Nx (upd H4 D (.lst (acc ++ [y]))) else Nx H3) := by
  have nS : ¬ S D := fun z => by
    obtain ⟨o, e⟩ := hS D z
    rw [hD] at e
    cases e
  refine lc_it w (fun i H => ∃ acc, acc.length ≤ i ∧ SBut S H1 H ∧ H D = some (.lst acc) ∧ P i acc H) ⟨[], Nat.le_refl _, (SBut.refl H1).mut hD, upd_same, h0⟩ (fun i H _ ⟨acc, _, e, _, p⟩ => hG i acc H e p) ?_ ?_
  · rintro i x Ha Hb hi ⟨acc, hl, e, hacc, p⟩ y
    refine hs i acc x Ha Hb hi hl e hacc p y _ _ (fun v Hc ec pc => ?_) (fun Hc ec pc => ?_)
    · have h4 := ec D _ nS hacc
      refine ⟨acc, h4, Nat.lt_of_le_of_lt (Nat.le_trans hl (Nat.le_trans (Nat.le_of_lt hi) hn)) (by decide), acc ++ [v], ?_, (e.trans ec).mut hD, upd_same, Pm _ _ _ _ _ h4 pc⟩
      rw [List.length_append, List.length_singleton]
      omega
    · exact ⟨acc, Nat.le_succ_of_le hl, e.trans ec, ec D _ nS hacc, pc⟩
  · rintro H ⟨acc, hl, e, hacc, p⟩
    exact hd acc H e hacc hl p
/-- nothing that was tracked changes -/
theorem lc_p (w : Walk J n G Y) (P : Nat → List V → Hp → Prop) (hn : n ≤ 100000) (hD : H1 D = none) (Pm : ∀ i acc H H', ISame H H' → P i acc H → P i acc H') (h0 : P 0 [] (upd H1 D (.lst []))) (hG : ∀ H, Same H1 H → G H)
    (hs : ∀ i acc x Ha Hb, i < n → acc.length ≤ i → Same H1 Ha → P i acc Ha → Y i Ha x Hb → ∀ (Qt : VK) (Qf : Hp → Prop), (∀ y Hc, Same Ha Hc → P (i + 1) (acc ++ [y]) Hc → Qt y Hc) → (∀ Hc, Same Ha Hc → P (i + 1) acc Hc → Qf Hc) →
      g x (wipe σ vs) Hb fun σ2 H2 => wipe σ2 vs = wipe σ vs ∧ tt σ2 H2 fun b H3 => if b = true then te σ2 H3 Qt else Qf H3)
    (hd : ∀ ys H, Same H1 H → H D = some (.lst ys) → ys.length ≤ n → P n ys H → Qd H) :
    ∃ W : Nat → Nat → Hp → Prop, (∃ m, W 0 m (upd H1 D (.lst []))) ∧ ∀ i m H, W i m H →
      (J.stop i H ∧ Qd H) ∨ (J.go i H ∧ ∃ Nx : Hp → Prop, (∀ H', Nx H' → ∃ m', m' < m ∧ W (i + 1) m' H') ∧ ∀ x H', J.yld i H x H' → g x (wipe σ vs) H' fun σ2 H2 => wipe σ2 vs = wipe σ vs ∧ tt σ2 H2 fun b H3 =>
        if b = true then te σ2 H3 fun y H4 => ∃ acc, H4 D = some (.lst acc) ∧ acc.length < sizeLine ∧ Nx (upd H4 D (.lst (acc ++ [y]))) else Nx H3) :=
  lc_b w (fun _ => False) P hn hD (fun _ z => z.elim) (fun i acc H ys ys' h p => Pm i acc H _ (ISame.lst h) p) h0 (fun i acc H e _ => hG H e.same)
    (fun i acc x Ha Hb hi hl e _ p y Qt Qf ht hf => hs i acc x Ha Hb hi hl e.same p y Qt Qf (fun v Hc ec => ht v Hc (SBut.of ec)) (fun Hc ec => hf Hc (SBut.of ec))) (fun ys H e h hl p => hd ys H e.same h hl p)
/-- all([..]): each element is True -/
theorem lc_all {K : PySem.W.Frag} {Q : VK} (w : Walk J n G Y) (hn : n ≤ 100000) (hD : H1 D = none) (hG : ∀ H, Same H1 H → G H)
    (hs : ∀ i x Ha Hb, i < n → Same H1 Ha → Y i Ha x Hb → ∀ (Qt : VK), (∀ Hc, Same Ha Hc → Qt (.bl true) Hc) → g x (wipe σ vs) Hb fun σ2 H2 => wipe σ2 vs = wipe σ vs ∧ te σ2 H2 Qt)
    (hd : ∀ H, Same H1 H → Q (.bl true) H) :
    ∃ W : Nat → Nat → Hp → Prop, (∃ m, W 0 m (upd H1 D (.lst []))) ∧ ∀ i m H, W i m H →
      (J.stop i H ∧ rAll K [.ref D] H Q) ∨ (J.go i H ∧ ∃ Nx : Hp → Prop, (∀ H', Nx H' → ∃ m', m' < m ∧ W (i + 1) m' H') ∧ ∀ x H', J.yld i H x H' → g x (wipe σ vs) H' fun σ2 H2 => wipe σ2 vs = wipe σ vs ∧ tYes σ2 H2 fun b H3 =>
        if b = true then te σ2 H3 fun y H4 => ∃ acc, H4 D = some (.lst acc) ∧ acc.length < sizeLine ∧ Nx (upd H4 D (.lst (acc ++ [y]))) else Nx H3) := by
  refine lc_p w (fun i acc _ => ∃ bs : List Bool, acc = bs.map V.bl ∧ bs.all id = true) hn hD (fun _ _ _ _ _ p => p) ⟨[], rfl, rfl⟩ hG ?_ ?_
  · rintro i acc x Ha Hb hi hl e ⟨bs, rfl, hb⟩ y Qt Qf ht _
    refine hs i x Ha Hb hi e y Qt fun Hc ec => ht _ Hc ec ⟨bs ++ [true], by simp, by simp [List.all_append, hb]⟩
  · rintro ys H e h hl ⟨bs, rfl, hb⟩
    refine ⟨D, bs, rfl, SqL.of h, ?_⟩
    rw [hb]
    exact hd H e
/-- zip of two tuples -/
theorem walk_zipT {K : PySem.W.Frag} {a b : Addr} {xs ys : List V} {m : Nat} (hm : m = min xs.length ys.length) : Walk (ItzT K a b) m (fun H => SqT K H a xs ∧ SqT K H b ys) (YPair (fun i => xs[i]?) (fun i => ys[i]?)) := by
  subst hm
  exact ⟨fun _ _ lt q => ⟨xs, ys, _, _, q.1, q.2, List.getElem?_eq_getElem (Nat.lt_of_lt_of_le lt (Nat.min_le_left ..)), List.getElem?_eq_getElem (Nat.lt_of_lt_of_le lt (Nat.min_le_right ..))⟩, fun _ q => ⟨xs, ys, q.1, q.2, by omega⟩,
    fun _ _ _ _ _ q ⟨T, x, y, e1, e2, e3, e4, e5⟩ => ⟨T, x, y, e1, e2, e3, e4 xs q.1, e5 ys q.2⟩⟩
end
theorem szn {n : Nat} (h : n ≤ 1000) : n ≤ sizeLine := Nat.le_trans h (by decide)
theorem sz3 {a b c : V} : ([a, b, c] : List V).length ≤ sizeLine := szn (n := 3) (by decide)
theorem sz2 {a b : V} : ([a, b] : List V).length ≤ sizeLine := szn (n := 2) (by decide)
theorem q_b {Q : VK} {b : Bool} {H : Hp} (e : b = true) (q : Q (.bl true) H) : Q (.bl b) H := by rw [e]; exact q
theorem q_f {Q : VK} {b : Bool} {H : Hp} (e : b = false) (q : Q (.bl false) H) : Q (.bl b) H := by rw [e]; exact q
theorem ifd {p : Prop} [Decidable p] {A B : Prop} (h : p) (a : A) : if decide p = true then A else B := by
  rw [decide_eq_true h]
  exact iteT a
theorem ifn {p : Prop} [Decidable p] {A B : Prop} (h : ¬ p) (a : B) : if decide p = true then A else B := by
  rw [decide_eq_false h]
  exact iteF a
theorem ifb {b : Bool} {A B : Prop} (h : b = true) (a : A) : if b = true then A else B := by
  rw [h]
  exact iteT a
theorem ifc {b : Bool} {A B : Prop} (h : b = false) (a : B) : if b = true then A else B := by
  rw [h]
  exact iteF a
theorem inV_strs (x : Str) : ∀ ws : List Str, inV (.str x) (ws.map V.str) = decide (x ∈ ws)
  | [] => rfl
  | y :: r => by
    have ih := inV_strs x r
    unfold inV at ih ⊢
    rw [List.map_cons, List.any_cons, ih]
    show ((y == x) || decide (x ∈ r)) = decide (x ∈ y :: r)
    by_cases h : x = y
    · subst h
      simp
    · have h' : (y == x) = false := beq_eq_false_iff_ne.mpr (fun z => h z.symm)
      rw [h', Bool.false_or]
      simp [h]
theorem flat_strs : ∀ ws : List Str, (ws.map V.str).all flatV = true
  | [] => rfl
  | y :: r => by
    rw [List.map_cons, List.all_cons, flat_strs r] <;> rfl
theorem pe_mk0 {X : Cx} {k j : Nat} {C : Addr} {x : Str} {sp : Sp} {dvs : List V} {p pos : Pos} (c : C8.Mak X.prog X.w X.K X.mg X.base k x C sp dvs) (hr : Room j X.A) (hk : k + 1 ≤ j) (hg : Gl X x) (hdb : (x == ("__debug__" : Str)) = false := by decide) :
    PE X (.Call (.Name x p) [] [] pos) (tMake C sp dvs E0 tNil) := by
  obtain ⟨f, fd, ps, ds, M, F, hm, b, d⟩ := c.ex
  exact pe_make0 M F (hr.mono hk) hg hm b d pass0 hdb
theorem ps_nox {X : Cx} {st : Stmt} {t : TS} (h : PS X.nox st t) : PS X st t := ⟨fun pins s σ H D I hw =>
  wpAny_mono (h.run pins s σ H D (I.wish _) hw) (fun _ _ q => q.unwish) fun _ _ z => False.elim z⟩
theorem takes0 {X : Cx} : Takes X (fun _ _ _ _ => False) := fun _ _ x => by
  obtain ⟨_, _, _, _, _, _, _, _, _, _, _, _, _, _, _, _, z⟩ := x
  exact z.elim
/-- if test: raise ..; the rest: the test comes out False -/
theorem seq_if {c : TT} {t u : TS} {D : Ends} {σ : L2.St} {H : Hp} (hc : ∀ k : Bool → Hp → Prop, (∀ H', Same H H' → k false H') → c σ H k) (hu : ∀ H', Same H H' → u D σ H') : tSeq (tIfS c t tNext) u D σ H :=
  hc _ fun H' e => iteF (hu H' e)
/-! ### within a comprehension: K is named -/
section
variable {X : Cx} {K : PySem.W.Frag}
theorem ix_tupK (h : X.K = K := by rfl) : IxR X (rIxT K) := by subst h; exact ix_tup
theorem ix_listK (h : X.K = K := by rfl) : IxR X (rIxL K) := by subst h; exact ix_list
theorem op_in_seqK (h : X.K = K := by rfl) : OpR X (compareOp .In) (rIn K false) := by subst h; exact op_in_seq
theorem op_notIn_seqK (h : X.K = K := by rfl) : OpR X (compareOp .NotIn) (rIn K true) := by subst h; exact op_notIn_seq
theorem sl_tupAK (h : X.K = K := by rfl) : SlR X (rSlA K) := by subst h; exact sl_tupA
theorem call_len_seqK (h : X.K = K := by rfl) : CallR X (.builtin "len") (fun xs H Q => ∃ p ys, xs = [.ref p] ∧ (SqL K H p ys ∨ SqT K H p ys) ∧ Q (.int ys.length) H) := by subst h; exact call_len_seq
theorem pe_fldK {e : Expr} {f : Str} {pos : Pos} {ta : TE} (ha : PE X e ta) (hb : attributeBase e f X.env (eval e X.env) = eval e X.env) (h : X.K = K := by rfl) : PE X (.Attribute e f pos) (tFld K ta f) := by subst h; exact pe_fld ha hb
end
end Wk
end

section
set_option Elab.async false
set_option linter.all false
set_option maxRecDepth 100000
/-! t < u of tuples of texts -/
namespace Wk
open PySem PySem.Spec PyProof.Rows L2 RZ
def lexS : List Str → List Str → Bool
  | [], [] => false
  | [], _ :: _ => true
  | _ :: _, [] => false
  | x :: xs, y :: ys => if x = y then lexS xs ys else decide (x.cps.toList < y.cps.toList)
/-- the library's reading, place by place -/
def sameAt (ns ms : List Str) (j : Nat) : Bool := ns.getD j "" == ms.getD j ""
def lessAt (ns ms : List Str) (j : Nat) : Bool := decide ((ns.getD j "").cps.toList < (ms.getD j "").cps.toList)
theorem lexAt_shift {e r : Nat → Bool} {z : Bool} : ∀ k i, Ob.lexAt e r z (i + 1) k = Ob.lexAt (fun j => e (j + 1)) (fun j => r (j + 1)) z i k
  | 0, _ => rfl
  | k + 1, i => by rw [Ob.lexAt_succ, Ob.lexAt_succ, lexAt_shift k]
theorem lexAt_S : ∀ ns ms : List Str, Ob.lexAt (sameAt ns ms) (lessAt ns ms) (decide (ns.length < ms.length)) 0 (min ns.length ms.length) = lexS ns ms
  | [], [] => rfl
  | [], _ :: ms => by simp [Ob.lexAt_zero, lexS]
  | _ :: ns, [] => by simp [Ob.lexAt_zero, lexS]
  | x :: ns, y :: ms => by
    have ih := lexAt_S ns ms
    have len : min (x :: ns).length (y :: ms).length = min ns.length ms.length + 1 := by
      simp only [List.length_cons]
      omega
    have shorter : decide ((x :: ns).length < (y :: ms).length) = decide (ns.length < ms.length) := by simp
    rw [len, shorter, Ob.lexAt_succ, lexAt_shift]
    show (if (x == y) = true then Ob.lexAt (sameAt ns ms) (lessAt ns ms) (decide (ns.length < ms.length)) 0 (min ns.length ms.length) else decide (x.cps.toList < y.cps.toList)) = _
    rw [ih]
    by_cases h : x = y
    · simp [lexS, h]
    · simp [lexS, h]
theorem str_at {ns : List Str} {its : List Value} (r : Vals (ns.map V.str) its) (j : Nat) (h : j < its.toArray.size) : ∃ t, its.toArray[j] = .str (ns.getD j "") t := by
  have hj : j < its.length := by simpa using h
  have hn : j < ns.length := by
    have := r.length
    rw [List.length_map] at this
    omega
  obtain ⟨u, hu, t, ru⟩ := r.get (i := j) (x := V.str ns[j]) (by simp [hn])
  refine ⟨t, ?_⟩
  rw [List.getElem_toArray, (List.getElem?_eq_some_iff.mp hu).2, ru]
  simp [List.getD_eq_getElem?_getD, hn]
def rLtTS (K : PySem.W.Frag) : R2 := fun x y H Q => ∃ (a b : Addr) (ns ms : List Str), x = .ref a ∧ y = .ref b ∧ SqT K H a (ns.map V.str) ∧ SqT K H b (ms.map V.str) ∧ Q (.bl (lexS ns ms)) H
theorem op_ltTS {X : Cx} (hu : X.A.units + 64 < cLine) : OpR X (compareOp .Lt) (rLtTS X.K) := by
  rintro pins s σ H x y v u Q I rx ry ⟨a, b, ns, ms, rfl, rfl, ha, hb, q⟩
  cases rx
  cases ry
  obtain ⟨its, r1, p1, _⟩ := I.tuple ha
  obtain ⟨its2, r2, p2, _⟩ := I.tuple hb
  have done : its.toArray.size = ns.length ∧ its2.toArray.size = ms.length := by
    have h1 := r1.length
    have h2 := r2.length
    simp only [List.length_map] at h1 h2
    simp [h1, h2]
  have lt := Ob.RcOp.tuples_lt (A := X.A) (s := s) (e := sameAt ns ms) (r := lessAt ns ms) p1 p2 (by omega)
    (fun j h1 h2 => by
      obtain ⟨t, e1⟩ := str_at r1 j h1
      obtain ⟨t', e2⟩ := str_at r2 j h2
      rw [e1, e2]
      exact SeqAt.EqAt.str_str _ t _ t')
    (fun j h1 h2 _ prog w E Q h => by
      obtain ⟨t, e1⟩ := str_at r1 j h1
      obtain ⟨t', e2⟩ := str_at r2 j h2
      rw [e1, e2]
      exact PyProof.Rows.lt_str h)
  rw [done.1, done.2, lexAt_S] at lt
  exact lt X.prog X.w _ _ ⟨.bl (lexS ns ms), H, I, rfl, q⟩
end Wk
end

section
set_option Elab.async false
set_option linter.all false
set_option maxRecDepth 100000
/-! min(xs, default=None) -/
namespace Wk
open PySem PySem.Spec PyProof.Rows L2 RZ
def rMinD (K : PySem.W.Frag) : List V → List V → Hp → VK → Prop := fun vs zs H Q => ∃ (a : Addr) (ns : List Int), vs = [V.ref a] ∧ zs = [.non] ∧ SqL K H a (ns.map V.int) ∧ (ns = [] → Q .non H) ∧ (ns ≠ [] → ∀ m : Int, True → True → Q (.int m) H)
theorem dpi {K : PySem.W.Frag} {H : Hp} : ∀ ns : List Int, DpAll K H (ns.map V.int) (ns.map PyData.int)
  | [] => .nil
  | a :: r => .cons (.int a) (dpi r)
theorem depi : ∀ ns : List Int, PyData.depthAll (ns.map PyData.int) = 0
  | [] => by simp [PyData.depthAll]
  | a :: r => by simp [PyData.depthAll, PyData.depth, depi r]
theorem vals_int : ∀ {ns : List Int} {its : List Value} {v : Value}, Vals (ns.map V.int) its → v ∈ its → ∃ m t, v = .int m t
  | [], _, _, .nil, h => by cases h
  | a :: r, _, v, .cons (b := u) ra rr, h => by
    rcases List.mem_cons.mp h with rfl | h
    · obtain ⟨t, rfl⟩ := ra
      exact ⟨a, t, rfl⟩
    · exact vals_int rr h
theorem cr_minD {X : Cx} (hc : X.calm = true) (hu : X.A.units + 65 < cLine) : CallRK X (.builtin "min") [Str.ofString "default"] (rMinD X.K) := by
  intro pins s σ H vs zs us ws Q I r rz h
  obtain ⟨a, ns, rfl, rfl, hs, q0, q1⟩ := h
  obtain rfl := Vals.ref1 r
  obtain ⟨w1, rfl, e1⟩ := vals1 rz
  obtain rfl : w1 = Value.none := e1
  obtain ⟨its, rv, hl, _⟩ := I.list hs
  obtain ⟨as, hr⟩ := Dp.readsAll I _ _ _ (dpi (K := X.K) (H := H) ns) rv
  refine PySem.W.min_list_default (I.ok.hd hc) hl.isList (by rw [List.toList_toArray]; exact hr) ?_ (by rw [depi]; omega) (fun e h' tk hk => ?_) (fun y ys i v h' tk bs e hi hrd hk => ?_)
  · refine ⟨fun x hx y hy => ?_, fun x hx z => ?_⟩
    · obtain ⟨i, _, rfl⟩ := List.mem_map.mp hx
      obtain ⟨j, _, rfl⟩ := List.mem_map.mp hy
      simp [PySem.W.alike]
    · obtain ⟨i, _, rfl⟩ := List.mem_map.mp hx
      cases z
  · have : ns = [] := by cases ns with | nil => rfl | cons a b => cases e
    exact ⟨.non, H, I.kept hk, rfl, q0 this⟩
  · have hne : ns ≠ [] := fun z => by rw [z] at e; cases e
    obtain ⟨m, t, rfl⟩ : ∃ m t, v = .int m t := by
      have hm : v ∈ its := by
        have := List.mem_of_getElem? (l := its) (i := i) (by simpa using hi)
        exact this
      exact vals_int rv hm
    exact ⟨.int m, H, I.kept hk, ⟨t, rfl⟩, q1 hne m trivial trivial⟩
end Wk
end

section
set_option Elab.async false
set_option linter.all false
set_option maxRecDepth 100000
set_option maxHeartbeats 4000000
/-! sorted(set(xs)), xs a list of whole numbers. -/
namespace Wk
open PySem PySem.Spec PyProof.Rows L2 RZ
section
variable {P : Program} {w : World} {A : Around} {E : Value → Shared → Prop} {R : Result → Shared → Prop} {s : Shared}
/-- the set as it is born -/
abbrev bornSet (w : World) : Obj := { cls := .type "set", dict := none, data := .set #[] 0 (.fresh 0 0 (!w.params.followText "set-order")) }
/-- set(v): a set is born, then filled -/
theorem wset_of {v : Value} {Q : Value → Shared → Prop}
    (fill : codeAny (model P w) A.in1 (.call (.builtin "set.__init__") ⟨[.ref s.heap.objs.size, v], []⟩) (wants (fun r s' => r = .none ∧ Q (.ref s.heap.objs.size) s') E) { s with heap := s.heap.push (bornSet w) }) :
    wpAny (model P w) A (call (.type "set") [v]) Q E s := by
  have T := F.called_set
  obtain ⟨_, _, t0⟩ := T.mro
  have t1 := T.made
  have t2 := T.sub
  have t3 := T.notType
  have t4 := T.canCreate
  have t5 := F.typeCall_set_1 v
  have t6 := T.init.lookup
  have t7 := T.init.bind (.ref s.heap.objs.size)
  refine wpAny_call (codeAny_of_tree ?_)
  change wpAny _ _ (callAny (.type "set") _) _ _ _
  refine wpAny_pure ⟨Code.quiet_builtin _ (by decide +kernel), codeAny_builtin F.entry_type_call ?_⟩
  rw [Around.under_plain (weight_type_call_type _ [v] []) rfl]
  repeat any_goals (first
    | assumption
    | wp_step)
  refine codeAny_mono (code_set_led1 v (E := E) (Q₁ := fun x s' => x = .ref s.heap.objs.size ∧ s' = { s with heap := s.heap.push (bornSet w) }) ⟨rfl, rfl⟩) fun r s' z => ?_
  rcases r with e | (x | _ | _ | _) <;> try exact z
  obtain ⟨ex, es⟩ := z
  subst ex es
  have t8 : Shared.TypeIs { s with heap := s.heap.push (bornSet w) } (.ref s.heap.objs.size) "set" := ⟨_, Heap.get?_push_size _ rfl, rfl⟩
  repeat any_goals (first
    | assumption
    | wp_step)
  refine codeAny_mono fill fun r s' z => ?_
  rcases r with e | (x | _ | _ | _) <;> try exact z
  obtain ⟨ex, q⟩ := z
  subst ex
  repeat any_goals (first
    | assumption
    | wp_step)
end
section
variable {P : Program} {w : World} {A : Around} {E : Value → Shared → Prop} {R : Result → Shared → Prop} {s : Shared}
theorem int_there {items : Array Value} {ns : List Int} (hi : IntsAre items.toList ns) (i : Nat) (v : Value) (e : items[i]? = some v) : ∃ k t, ns[i]? = some k ∧ v = .int k t := by
  have lt : i < ns.length := by
    rw [← IntsAre.length hi, Array.length_toList]
    exact (Array.getElem?_eq_some_iff.mp e).1
  obtain ⟨t, ev⟩ := IntsAre.int_at hi i v (by rw [Array.getElem?_toList]; exact e)
  have en : ns[i]? = some (ns.getD i 0) := by simp [List.getD_eq_getElem?_getD, lt]
  exact ⟨_, t, en, ev⟩
/-- the set born at S, filled from the list at l -/
theorem wset_fill {S l : Addr} {items : Array Value} {ns : List Int} (hh : A.handled = none) (born : s.heap.get? S = some (bornSet w)) (hl : s.heap.IsList l items) (hi : IntsAre items.toList ns) (small : ns.length + 1 < scanBound)
    (go : ∀ (h' : Heap) (tk c : Nat), SetR w h' S (fun j => decide (j ∈ ns)) c → c ≤ ns.length → (∀ b o, b ≠ S → s.heap.get? b = some o → h'.get? b = some o) → R (.ok (.ret .none)) { s with heap := h', toks := tk }) :
    codeAny (model P w) A (.call (.builtin "set.__init__") ⟨[.ref S, .ref l], []⟩) R s := by
  refine codeAny_call_builtin F.called_set.init.plain F.entry_set_init (check_set_init_1 ⟨_, born, rfl⟩ ?_)
  have size : items.size = ns.length := by rw [← IntsAre.length hi, Array.length_toList]
  have lS := Heap.lt_size born
  obtain ⟨ol, ho, hc, n, hd⟩ := id hl
  have lL := Heap.lt_size ho
  have nLS : l ≠ S := fun z => by
    rw [z, born] at ho
    cases ho
    cases hd
  obtain ⟨_, dd, _, sl⟩ := ol
  cases hc
  cases hd
  have u1 := F.sub_list_set
  have u2 := F.sub_list_frozenset
  have u3 : (Value.type "list" == Value.type "dict") = false := by decide
  unfold Builtin.«set.__init__» noKeywords Builtin.Frozenset.updateFrom
  generalize keep_ : pyIter = it
  wp_walk
  subst keep_
  refine wpAny_pyIter_list hl (wpAny_bind (wpAny_runValue ?_))
  refine set_update_ints ((Walks.list (by simp [hh]) _ l (Nat.ne_of_lt lL) items).toS) S ?_ ns size small (int_there hi) items.size 0 _ (Nat.sub_zero _) (Nat.zero_le _) ⟨⟨_, Heap.get?_push_size _ rfl, rfl, rfl⟩, hl.push _⟩
    ⟨0, Nat.le_refl 0, setR_new_at (Heap.get?_push_of_some _ born)⟩ fun s' c mv hc' hS' => ?_
  · simp only [List.mem_cons, List.not_mem_nil, or_false, not_or]
    exact ⟨Nat.ne_of_lt lS, Ne.symm nLS⟩
  · have q := go s'.heap s'.toks c hS' (by omega) fun b o nb e => mv.heap b o (by
      simp only [List.mem_cons, List.not_mem_nil, or_false, not_or]
      exact ⟨nb, Nat.ne_of_lt (Heap.lt_size e)⟩) (Heap.get?_push_of_some _ e)
    obtain ⟨h', g', d', tk', os'⟩ := s'
    cases (show g' = s.gens from mv.gens)
    cases (show d' = s.drawn from mv.drawn)
    cases (show os' = s.os from mv.os)
    exact wpAny_pure (wpAny_pure q)
/-- set(xs) -/
theorem wset_list {l : Addr} {items : Array Value} {ns : List Int} {Q : Value → Shared → Prop} (hh : A.handled = none) (hl : s.heap.IsList l items) (hi : IntsAre items.toList ns) (small : ns.length + 1 < scanBound)
    (go : ∀ (h' : Heap) (tk c : Nat), SetR w h' s.heap.objs.size (fun j => decide (j ∈ ns)) c → c ≤ ns.length → (∀ b o, s.heap.get? b = some o → h'.get? b = some o) → Q (.ref s.heap.objs.size) { s with heap := h', toks := tk }) :
    wpAny (model P w) A (call (.type "set") [.ref l]) Q E s :=
  wset_of (wset_fill (by simp [hh]) (Heap.get?_push_size _ rfl) (hl.push _) hi small fun h' tk c r hc k => ⟨rfl, go h' tk c r hc fun b o e => k b o (Nat.ne_of_lt (Heap.lt_size e)) (Heap.get?_push_of_some _ e)⟩)
end
/-- set(xs) of whole numbers -/
def rSetL (K : PySem.W.Frag) (w : World) : List V → Hp → VK → Prop := fun vs H Q => ∃ (a : Addr) (ns : List Int), vs = [V.ref a] ∧ SqL K H a (ns.map V.int) ∧ ns.length ≤ 40 ∧
  ∀ p c, H p = none → c ≤ ns.length → Q (.ref p) (upd H p (SetO w p (fun j => decide (j ∈ ns)) c))
theorem cr_setL {X : Cx} (hc : X.calm = true) : CallR X (.type "set") (rSetL X.K X.w) := by
  intro pins s σ H vs us Q I r h
  obtain ⟨a, ns, rfl, hq, hl, q⟩ := h
  rw [Vals.ref1 r]
  obtain ⟨its, rv, p, hz⟩ := I.list hq
  have hi : IntsAre its.toArray.toList ns := ints_of_vals rv
  refine wset_list (I.ok.hd hc) (show s.heap.IsList a its.toArray from p.isList) hi (by unfold scanBound; omega) fun h' tk c R1 hcn k => ?_
  have hn : H s.heap.objs.size = none := I.hok.fresh (Nat.le_refl _)
  exact ⟨.ref _, upd H s.heap.objs.size (SetO X.w s.heap.objs.size (fun j => decide (j ∈ ns)) c), I.laid (t' := tk) k (Nat.le_refl _) (setO_new R1), rfl, q _ _ hn hcn⟩
def tSortSet (K : PySem.W.Frag) (te : TE) : TE := fun σ H Q => te σ H fun x H1 => ∃ (a : Addr) (ns : List Int), x = .ref a ∧ SqL K H1 a (ns.map V.int) ∧ ns.length ≤ 40 ∧ ∀ (H' : Hp) (p : Addr) (out : List Int), Same H1 H' → H1 p = none → H' p = some (.lst (out.map V.int)) → (∀ k, k ∈ out ↔ k ∈ ns) → Q (.ref p) H'
theorem pe_sortSet {X : Cx} {e : Expr} {te : TE} {p p2 pos pos2 : Pos} (hc : X.calm = true) (hg : Gl X "sorted") (hm : X.mg "sorted" = none) (hgs : Gl X "set") (hms : X.mg "set" = none) (he : PE X e te)
    (na : starEach [e] X.env = (false, eval e X.env) :: starEach [] X.env := by rfl) :
    PE X (.Call (.Name "sorted" p) [.Call (.Name "set" p2) [e] [] pos2] [] pos) (tSortSet X.K te) := by
  refine ⟨fun pins s σ H Q I h => ?_⟩
  refine Call_ (ld_blt I hg hm PyProof.Rows.boot_sorted ?_)
  refine PyProof.Rows.callWith_builtin1 (PyProof.Rows.args_cons ?_ rfl) rfl rfl
  refine Call_ (ld_blt I hgs hms PyProof.Rows.boot_set ?_)
  refine PyProof.Rows.callWith_type1 (PyProof.Rows.args_cons (thn (he.run pins s σ H _ I h) fun v s1 ⟨x, H1, I1, r1, q1⟩ => PyProof.Rows.args_nil ?_) na) na rfl
  obtain ⟨a, ns, rfl, hq, hl, q⟩ := q1
  refine thn (cr_setL hc pins s1 σ H1 [.ref a] [v] (fun y H2 => ∃ p c, y = .ref p ∧ H1 p = none ∧ c ≤ ns.length ∧ H2 = upd H1 p (SetO X.w p (fun j => decide (j ∈ ns)) c)) I1 (.cons r1 .nil) ⟨a, ns, rfl, hq, hl, fun p c hp hcn => ⟨p, c, rfl, hp, hcn, rfl⟩⟩) fun u s2 ⟨y, H2, I2, r2, p, c, ey, hp, hcn, eH⟩ => PyProof.Rows.args_nil ?_
  subst ey
  subst eH
  have hat : upd H1 p (SetO X.w p (fun j => decide (j ∈ ns)) c) p = some (SetO X.w p (fun j => decide (j ∈ ns)) c) := upd_same
  refine cr_sortedSet hc pins s2 σ _ [.ref p] [u] Q I2 (.cons r2 .nil) ⟨p, _, c, rfl, hat, by omega, fun out b _ hmem _ hb => ?_⟩
  have hbp : b ≠ p := fun z => by rw [z, hat] at hb; cases hb
  have hb1 : H1 b = none := by rw [upd_ne hbp] at hb; exact hb
  refine q _ b out (fun d o hd => ?_) hb1 upd_same fun k => ?_
  · have h1 : d ≠ b := fun z => by rw [z, hb1] at hd; cases hd
    have h2 : d ≠ p := fun z => by rw [z, hp] at hd; cases hd
    rw [upd_ne h1, upd_ne h2]
    exact hd
  · rw [hmem, decide_eq_true_eq]
end Wk
end

section
set_option Elab.async false
set_option linter.all false
set_option maxRecDepth 100000
/-! enumerate(t), t a tuple. -/
namespace PySem
open Sem (wp)
/-- an enumerate as it is born, over the iterator at it -/
abbrev bornEnum (it : Addr) : Obj := { cls := .type "enumerate", data := .fields #[.none, .bool false, .ref it, rawInt 0, .none, .none] }
set_option maxHeartbeats 1000000 in
/-- enumerate(v): the iterator o of v, and the enumerate over it -/
theorem enum_of {prog : Program} {w : World} {A : Around} {E : Value → Shared → Prop} {s : Shared} {v : Value} {o : Obj} {ok : Heap → Prop} {Q : Value → Shared → Prop} (B : Begins v o ok) (h : ok s.heap)
    (k : Q (.ref (s.heap.objs.size + 1)) { s with heap := (s.heap.push o).push (bornEnum s.heap.objs.size) }) : wpAny (model prog w) A (call (.type "enumerate") [v]) Q E s := by
  have M : Meets (Builtin.«enumerate.__new__» ⟨[.type "enumerate", v], []⟩) (fun _ R s => ok s.heap ∧ R (.ok (.ret (.ref (s.heap.push o).objs.size))) { s with heap := (s.heap.push o).push (bornEnum s.heap.objs.size) }) :=
    .of_wp fun prog w A R s z => by
      obtain ⟨h0, gn, dn, tk, os⟩ := s
      obtain ⟨c, z⟩ := z
      have sub := sub_enumerate
      have it : ∀ {A' : Around} {E : Value → Shared → Prop} {Q : Value → Shared → Prop}, Q (.ref h0.objs.size) ⟨h0.push o, gn, dn, tk, os⟩ → wpAny (model prog w) A' (pyIter v) Q E ⟨h0, gn, dn, tk, os⟩ := fun q => B.iter prog w _ _ ⟨h0, gn, dn, tk, os⟩ _ c q
      wp_walk using it
      refine wpAny_stack_any fun _ => wpAny_pure ?_
      split
      · rename_i cl _ _ _ _ _
        cases (cl == Value.type "enumerate") <;> (wp_walk using it; exact ⟨_, rfl, z⟩)
      · wp_walk using it
        exact ⟨_, rfl, z⟩
  refine callType_new F.called_enumerate (by decide) (F.typeCall_enumerate_1 v) (F.newCall_enumerate_1 v) (F.args_object_init_2 · v) F.entry_enumerate_new M ⟨h, ?_⟩
  rw [Heap.size_push]
  refine ⟨⟨bornEnum s.heap.objs.size, ?_, rfl⟩, k⟩
  rw [← Heap.size_push s.heap o]
  exact Heap.get?_push_size _ rfl
end PySem
namespace Wk
open PySem PySem.Spec PyProof.Rows L2 RZ
/-- the tuple at a, each item in a new pair -/
def IteT (K : PySem.W.Frag) (a : Addr) : It :=
  ⟨fun i H => ∃ (xs : List V) (x : V), SqT K H a xs ∧ xs[i]? = some x, fun i H v H' => ∃ T x, v = .ref T ∧ H T = none ∧ H' = upd H T (.tup [.int (i : Nat), x]) ∧ ∀ xs, SqT K H a xs → xs[i]? = some x, fun i H => ∃ xs : List V, SqT K H a xs ∧ xs.length ≤ i⟩
/-- at turn i: the enumerate at e, its iterator at it, the tuple at a -/
structure EnT (a e it : Addr) (i : Nat) (h : Heap) : Prop where
  en : ∃ old, IsEnum h e it ((i : Nat) : Int) old
  tup : h.IsTupleIter it a i
  n1 : e ≠ it
  n2 : e ≠ a
  n3 : a ≠ it
theorem of_two {b e it : Addr} {φ : Addr → Prop} (m : b ∈ [e, it]) (he : φ e) (hi : φ it) : φ b := by
  simp only [List.mem_cons, List.not_mem_nil, or_false] at m
  rcases m with rfl | rfl
  · exact he
  · exact hi
theorem turn_enumT {P : Program} {w : World} {K : PySem.W.Frag} {elts : List Expr} {kk : Nat} {tpos : Pos} (a e it : Addr) : Turn P w K (.Tuple elts kk tpos) (IteT K a) [e, it] e (EnT a e it) where
  mem := List.mem_cons_self ..
  self := fun _ _ _ _ _ st h => st.en.elim fun _ he => wpAny_pyIter_enum he h
  obj := fun _ h st _ m => of_two (φ := fun b => ∃ o, h.get? b = some o ∧ ∀ v, o.data ≠ .cell v) m (st.en.elim fun _ he => ⟨_, he, fun _ z => nomatch z⟩) (by
    obtain ⟨o, ho, _, hd⟩ := st.tup
    exact ⟨o, ho, fun _ z => by rw [hd] at z; cases z⟩)
  keep := fun _ _ _ st k => { st with
    en := st.en.imp fun _ he => k e (by simp) _ he
    tup := st.tup.at fun o q => k it (by simp) o q }
  item := by
    rintro X rfl rfl rfl hc i pins s σ H E I hf st ⟨xs, x, hq, hx⟩
    obtain ⟨old, he⟩ := st.en
    obtain ⟨its, rv, p, _⟩ := I.tuple hq
    obtain ⟨u, hu, ru⟩ := rv.get hx
    have here : i < its.toArray.size := by
      rw [List.size_toArray]
      exact (List.getElem?_eq_some_iff.mp hu).1
    have le : e < s.heap.objs.size := Heap.lt_size he
    have li : it < s.heap.objs.size := st.tup.elim fun _ q => Heap.lt_size q.1
    refine wpAny_pyNext_enum_itemD (Draws.tuple (A := X.A.in1) (by simp [I.ok.hd hc]) it a st.n3 its.toArray) he ⟨st.tup, p⟩ here st.n1 (by simp [st.n1, st.n2]) fun y h' tk hy out nx hT _ hk => ?_
    have ey : y = u := Option.some.inj ((show its[i]? = some y by simpa using hy).symm.trans hu)
    subst ey
    refine ⟨_, rfl, wpAny_letOwnedTupleGo_enum (s := { s with heap := h', toks := tk + 1 }) out fun h2 he2 sb => ?_⟩
    have nT : H s.heap.objs.size = none := I.hok.fresh (Nat.le_refl _)
    have pair : h2.get? s.heap.objs.size = some { cls := .type "tuple", data := .seq #[.int i tk, y] } := (sb.2 _ (Nat.ne_of_gt le)).trans hT
    have J : Inv X pins σ (upd H s.heap.objs.size (.tup [.int (i : Nat), x])) { s with heap := h2, toks := tk + 1 } :=
      I.turnedNew (ch := [e, it]) (fun b o nb q => (sb.2 b (fun z => nb (z ▸ List.mem_cons_self ..))).trans (hk b o (fun z => nb (z ▸ List.mem_cons_self ..)) (fun z => nb (by rw [z]; simp)) q)) hf (Nat.le_refl _)
        ⟨by show 2 ≤ sizeLine; decide, [.int i tk, y], .cons ⟨_, rfl⟩ (.cons ru .nil), ⟨_, pair, rfl, _, rfl⟩⟩
    refine ⟨.ref s.heap.objs.size, _, J, rfl, ⟨_, x, rfl, nT, rfl, fun ys hy => by rw [I.tuple_inj hy hq]; exact hx⟩,
      { st with
        en := ⟨y, by rw [show ((i + 1 : Nat) : Int) = (i : Int) + 1 by omega]; exact he2⟩
        tup := nx.1.at fun o q => (sb.2 it (Ne.symm st.n1)).trans q }, fun b hb => ?_⟩
    rw [upd_ne (Nat.ne_of_lt (of_two (φ := fun b => b < s.heap.objs.size) hb le li))]
    exact (hf b hb).1
  done := by
    rintro X rfl rfl rfl hc i pins s σ H E I hf st ⟨xs, hq, hx⟩
    obtain ⟨old, he⟩ := st.en
    obtain ⟨its, rv, p, _⟩ := I.tuple hq
    obtain ⟨f0, f1, _, f3, f4, f5⟩ := hf it (by simp)
    have len := rv.length
    have ty : s.TypeIs (.ref e) "enumerate" := ⟨_, he, rfl⟩
    unfold pyNext
    refine wpAny_bind (wpAny_attempt (wpAny_callSpecial?_slot (name := Str.ofString "__next__") ty F.slot_enumerate_next (wpAny_call_entry F.slot_enumerate_next ty F.entry_enumerate_next ?_ (F.args_enumerate_next_1 _))))
    change wpAny _ _ (field (.ref e) 2 >>= _) _ _ _
    refine wpAny_bind (wpAny_field he rfl (x := .ref it) rfl (wpAny_bind (wpAny_nextOf_tuple_end (by simp [I.ok.hd hc]) st.tup p (by simp; omega) fun h' x k hx' => ?_)))
    obtain ⟨o, ho, cl⟩ := hx'
    exact wpAny_bind (wpAny_isInstance (T := "StopIteration") (b := true) ⟨o, ho, cl⟩ isSubtype_stop (wpAny_pure ⟨rfl, I.turned (t' := s.toks) k f0 f1 f3 f4 f5⟩))
def iEnumT (K : PySem.W.Frag) (ta : TA) : TI := fun σ H R => ta σ H fun vs H1 => ∃ a xs, vs = [.ref a] ∧ SqT K H1 a xs ∧ R (IteT K a) H1
theorem pi_enumT {X : Cx} {e : Expr} {ta : TA} {p pos tpos : Pos} {elts : List Expr} {kk : Nat} (hg : Gl X "enumerate") (hm : X.mg "enumerate" = none) (ha : PA X [e] ta)
    (hs : starEach [e] X.env = [(false, eval e X.env)] := by rfl) : PI X (.Tuple elts kk tpos) (.Call (.Name "enumerate" p) [e] [] pos) (iEnumT X.K ta) := by
  refine ⟨fun pins s σ H R I h => Call_ (ld_blt I hg hm boot_enumerate (PyProof.Rows.callWith_type1 (thn (ha.run pos pins s σ H _ I h) fun us s1 ⟨vs, H1, I1, r1, a, xs, ev, hq, q⟩ => ?_) hs rfl))⟩
  subst ev
  cases Vals.ref1 r1
  obtain ⟨its, _, p', _⟩ := I1.tuple hq
  have la : a < s1.heap.objs.size := p'.elim fun _ z => Heap.lt_size z.1
  refine enum_of (begins_tuple a its.toArray) p' ?_
  have he : IsEnum ((s1.heap.push { cls := .type "tuple_iterator", data := .fields #[.ref a, .int 0 0] }).push (bornEnum s1.heap.objs.size)) (s1.heap.objs.size + 1) s1.heap.objs.size ((0 : Nat) : Int) .none := by
    show _ = _
    rw [← Heap.size_push s1.heap { cls := .type "tuple_iterator", data := .fields #[.ref a, .int 0 0] }]
    exact Heap.get?_push_size _ rfl
  refine wpAny_pyIter_enum he ⟨s1.heap.objs.size + 1, [s1.heap.objs.size + 1, s1.heap.objs.size], EnT a (s1.heap.objs.size + 1) s1.heap.objs.size, _, H1, rfl, I1.kept (t' := s1.toks) fun _ _ z => Heap.get?_push_of_some _ (Heap.get?_push_of_some _ z), turn_enumT a (s1.heap.objs.size + 1) s1.heap.objs.size,
    ⟨⟨_, he⟩, ⟨_, Heap.get?_push_of_some _ (Heap.get?_push_size _ rfl), rfl, rfl⟩, Nat.succ_ne_self _, Nat.ne_of_gt (Nat.lt_succ_of_lt la), Nat.ne_of_lt la⟩, fun b hb => ?_, q⟩
  have up : s1.heap.objs.size ≤ b := of_two (φ := fun b => s1.heap.objs.size ≤ b) hb (Nat.le_succ _) (Nat.le_refl _)
  exact I1.fpOk up (I1.hok.fresh up)
end Wk
end

section
set_option Elab.async false
set_option linter.all false
set_option maxRecDepth 100000
/-! list(zip(a, b, c)), three tuples. -/
namespace PySem
open Sem (wp)
section
variable {prog : Program} {w : World} {A : Around} {E : Value → Shared → Prop} {s : Shared}
/-- a zip whose own tuple was handed out and lives on, at T; f: whether it is known to be held -/
abbrev IsZipH (h : Heap) (z TI TO T : Addr) (f : Bool) : Prop := h.get? z = some { cls := .type "zip", data := .fields #[rawInt T, .bool f, .bool false, .ref TI, .ref TO] }
/-- that tuple isn't free -/
theorem z3_own {z TI TO T : Addr} {f : Bool} {o : Obj} {Q : Bool → Shared → Prop} (hz : IsZipH s.heap z TI TO T f) (hT : s.heap.get? T = some o)
    (h : ∀ h', IsZipH h' z TI TO T true → Heap.SameBut z s.heap h' → Q false { s with heap := h' }) : wpAny (model prog w) A (Builtin.SmallTypes.ownedTupleIsFree (.ref z)) Q E s := by
  refine wpAny_bind (wpAny_field hz rfl (x := rawInt T) rfl ?_)
  change wpAny _ _ (loadIfAlive (Int.toNat T) >>= _) _ _ _
  rw [Int.toNat_natCast]
  refine wpAny_bind (PySem.W.kdx_alive hT (wpAny_bind (wpAny_field hz rfl (x := .bool f) rfl ?_)))
  cases f with
  | true => exact wpAny_pure (h s.heap hz ⟨rfl, fun _ _ => rfl⟩)
  | false => exact wpAny_bind (wpAny_setField_rec hz (by simp) fun h1 hz1 hs1 => wpAny_pure (h h1 hz1 hs1))
variable {z TI TO T i1 i2 i3 : Addr} {f : Bool} {o : Obj} {fp1 fp2 fp3 : List Addr} {n1 n2 n3 i : Nat} {P1 P2 P3 : Nat → Value → Prop} {St1 St2 St3 : Nat → Heap → Prop}
/-- next: a new tuple of the three items, or the end, where the first one ends -/
theorem z3_next {Q : Fin → Shared → Prop} (S : ZipSep3 z TI TO i1 i2 i3 fp1 fp2 fp3) (D1 : Draws prog w A i1 fp1 n1 P1 St1) (D2 : Draws prog w A i2 fp2 n2 P2 St2) (D3 : Draws prog w A i3 fp3 n3 P3 St3)
    (hz : IsZipH s.heap z TI TO T f) (hT : s.heap.get? T = some o) (hTI : IsTupOf3 s.heap TI (.ref i1) (.ref i2) (.ref i3)) (st1 : St1 i s.heap) (st2 : St2 i s.heap) (st3 : St3 i s.heap)
    (go : ((i < n1 ∧ i < n2 ∧ i < n3) ∧ ∀ x1 x2 x3 h' tk, P1 i x1 → P2 i x2 → P3 i x3 → IsZipH h' z TI TO T true → St1 (i + 1) h' → St2 (i + 1) h' → St3 (i + 1) h' → IsTupOf3 h' s.heap.objs.size x1 x2 x3 → h'.objs.size = s.heap.objs.size + 1 →
        (∀ c o, c ≠ z → c ≠ i1 → c ≠ i2 → c ≠ i3 → s.heap.get? c = some o → h'.get? c = some o) → Q (.done (.ret (.ref s.heap.objs.size))) { s with heap := h', toks := tk }) ∨
      (i = n1 ∧ ∀ h' e, (∀ c o, c ≠ z → c ≠ i1 → s.heap.get? c = some o → h'.get? c = some o) → (∃ o, h'.get? e = some o ∧ o.cls = .type "StopIteration") → E (.ref e) { s with heap := h' })) :
    wpAny (model prog w) A (Builtin.«zip.__next__» ⟨[.ref z], []⟩) Q E s := by
  obtain ⟨h0, gn, dn, t0, os⟩ := s
  change wpAny _ _ (field (.ref z) 2 >>= fun _ => field (.ref z) 3 >>= _) _ _ _
  refine wpAny_bind (wpAny_field hz rfl (x := .bool false) rfl (wpAny_bind (wpAny_field hz rfl (x := .ref TI) rfl (wpAny_bind (wpAny_seqItems hTI rfl ?_)))))
  change wpAny _ _ (Builtin.SmallTypes.ownedTupleIsFree _ >>= _) _ _ _
  refine wpAny_bind (z3_own hz hT fun ha hza (sa : Heap.SameBut z h0 ha) => wpAny_bind ?_)
  simp only [List.forIn_cons, List.forIn_nil, Array.forIn_toList, ← Array.forIn_toList]
  refine wpAny_bind (wpAny_bind (wpAny_holding ?_))
  rcases go with ⟨⟨lt1, lt2, lt3⟩, go⟩ | ⟨rfl, go⟩
  · refine wpAny_bind (D1.item i ⟨ha, gn, dn, t0, os⟩ _ _ lt1 (D1.over st1 sa S.zf1) fun x1 hb t1 p1 st1' (sb : Heap.SameBut i1 ha hb) => wpAny_pure (wpAny_pure (wpAny_bind (wpAny_bind (wpAny_holding ?_)))))
    refine wpAny_bind (D2.item i ⟨hb, gn, dn, t1, os⟩ _ _ lt2 (D2.over (D2.over st2 sa S.zf2) sb S.sep1_2) fun x2 hc t2 p2 st2' (sc : Heap.SameBut i2 hb hc) => wpAny_pure (wpAny_pure (wpAny_bind (wpAny_bind (wpAny_holding ?_)))))
    refine wpAny_bind (D3.item i ⟨hc, gn, dn, t2, os⟩ _ _ lt3 (D3.over (D3.over (D3.over st3 sa S.zf3) sb S.sep1_3) sc S.sep2_3) fun x3 hd t3 p3 st3' (sd : Heap.SameBut i3 hc hd) => wpAny_pure (wpAny_pure (wpAny_pure ?_)))
    change wpAny _ _ (newTuple [x1, x2, x3] >>= _) _ _ ⟨hd, gn, dn, t3, os⟩
    refine wpAny_bind (wpAny_newTuple (wpAny_pure ?_))
    have size : hd.objs.size = h0.objs.size := sd.1.trans (sc.1.trans (sb.1.trans sa.1))
    have up : ∀ c u, hd.get? c = some u → (hd.push { cls := .type "tuple", data := .seq #[x1, x2, x3] }).get? c = some u := fun _ _ e => Heap.get?_push_of_some _ e
    have top : IsTupOf3 (hd.push { cls := .type "tuple", data := .seq #[x1, x2, x3] }) hd.objs.size x1 x2 x3 := Heap.get?_push_size _ rfl
    have q := go x1 x2 x3 (hd.push { cls := .type "tuple", data := .seq #[x1, x2, x3] }) t3 p1 p2 p3 (up _ _ (sd.extBut _ _ S.zi3 (sc.extBut _ _ S.zi2 (sb.extBut _ _ S.zi1 hza))))
      (D1.frame _ _ _ (D1.over (D1.over st1' sc S.sep2_1) sd S.sep3_1) fun b _ u e => up b u e) (D2.frame _ _ _ (D2.over st2' sd S.sep3_2) fun b _ u e => up b u e) (D3.frame _ _ _ st3' fun b _ u e => up b u e)
      (by rw [size] at top; exact top) (by rw [Heap.size_push, size]) fun c u cz c1 c2 c3 e => up _ _ (sd.extBut _ _ c3 (sc.extBut _ _ c2 (sb.extBut _ _ c1 (sa.extBut _ _ cz e))))
    change Q (.done (.ret (.ref hd.objs.size))) ⟨hd.push { cls := .type "tuple", data := .seq #[x1, x2, x3] }, gn, dn, t3, os⟩
    rw [size]
    exact q
  · exact wpAny_bind (D1.done ⟨ha, gn, dn, t0, os⟩ _ _ (D1.over st1 sa S.zf1) fun hb e (sb : Heap.ExtBut i1 ha hb) he => go hb e (fun c u cz c1 x => sb c u c1 (sa.extBut _ _ cz x)) he)
end

theorem F.wk_zip_no_len : typeLookup (.type "zip") "__len__" = pure none := by rw [typeLookup_type, builtinLookup_eq_fast]; kernel_rfl
theorem F.wk_zip_no_hint : typeLookup (.type "zip") "__length_hint__" = pure none := by rw [typeLookup_type, builtinLookup_eq_fast]; kernel_rfl
/-! ### list(..) of an iterator that lays a new object at each turn -/
/-- all but `wr` stands -/
def Kp (wr : List Addr) (h h' : Heap) : Prop := ∀ b o, b ∉ wr → h.get? b = some o → h'.get? b = some o
/-- at S the list of these objects -/
def RefsAt (h : Heap) (S : Addr) (as : List Addr) : Prop := ∃ ep, h.get? S = some { cls := .type "list", dict := none, data := .seq (as.map Value.ref).toArray ep, slots := #[] }
/-- the objects laid so far, rising, from N on -/
def Laid (ob : Nat → Obj) (N : Nat) (h : Heap) (as : List Addr) : Prop := as.Pairwise (· < ·) ∧ ∀ (j : Nat) (a : Addr), as[j]? = some a → N ≤ a ∧ h.get? a = some (ob j)
section
variable {ob : Nat → Obj} {N : Nat} {h h' : Heap} {as : List Addr}
theorem Laid.keep (L : Laid ob N h as) (k : ∀ b o, N ≤ b → h.get? b = some o → h'.get? b = some o) : Laid ob N h' as :=
  ⟨L.1, fun j a e => ⟨(L.2 j a e).1, k a _ (L.2 j a e).1 (L.2 j a e).2⟩⟩
theorem Laid.lt (L : Laid ob N h as) {a : Addr} (m : a ∈ as) : a < h.objs.size := by
  obtain ⟨j, e⟩ := List.mem_iff_getElem?.mp m
  exact Heap.lt_size (L.2 j a e).2
theorem Laid.snoc (L : Laid ob N h as) {c : Addr} (up : N ≤ c) (top : ∀ a ∈ as, a < c) (e : h.get? c = some (ob as.length)) : Laid ob N h (as ++ [c]) := by
  refine ⟨List.pairwise_append.mpr ⟨L.1, List.pairwise_singleton _ _, fun a ha b hb => ?_⟩, fun j a ha => ?_⟩
  · cases List.mem_singleton.mp hb
    exact top a ha
  · rw [List.getElem?_append] at ha
    split at ha
    · exact L.2 j a ha
    · cases hj : j - as.length with
      | zero =>
        rw [hj] at ha
        cases ha
        have ej : j = as.length := by omega
        exact ⟨up, ej ▸ e⟩
      | succ k =>
        rw [hj] at ha
        cases ha
end
/-- what such an iterator I does: at turn i < n the object `ob i` comes to lie on top, St goes on; at n it ends -/
structure Feeds (prog : Program) (w : World) (A : Around) (I S : Addr) (n : Nat) (wr : List Addr) (St : Nat → Heap → Prop) (ob : Nat → Obj) : Prop where
  item : ∀ (i : Nat) (s : Shared) (Q : Option Value → Shared → Prop) (E : Value → Shared → Prop), i < n → St i s.heap → S < s.heap.objs.size →
    (∀ h' tk, St (i + 1) h' → h'.get? s.heap.objs.size = some (ob i) → Kp wr s.heap h' → Q (some (.ref s.heap.objs.size)) { s with heap := h', toks := tk }) → wpAny (model prog w) A (pyNext (.ref I)) Q E s
  done : ∀ (s : Shared) (Q : Option Value → Shared → Prop) (E : Value → Shared → Prop), St n s.heap → (∀ h' tk, Kp wr s.heap h' → Q none { s with heap := h', toks := tk }) → wpAny (model prog w) A (pyNext (.ref I)) Q E s
  keep : ∀ i h h', St i h → (∀ b o, b ≠ S → h.get? b = some o → h'.get? b = some o) → St i h'
section
variable {prog : Program} {w : World} {A : Around} {s : Shared} {R : Result → Shared → Prop} {S I : Addr} {N n : Nat} {wr : List Addr} {St : Nat → Heap → Prop} {ob : Nat → Obj} {v : Value}
theorem feeds_loop (F : Feeds prog w A.in1 I S n wr St ob) (SN : S < N) (wN : ∀ b ∈ wr, b < N) (nS : S ∉ wr) (small : n ≤ 100) {h₀ : Heap}
    (go : ∀ h' tk as, Kp (S :: wr) h₀ h' → RefsAt h' S as → Laid ob N h' as → as.length = n → R (.ok (.ret v)) { s with heap := h', toks := tk }) (m : Nat) :
    ∀ (h : Heap) (tk : Nat) (as : List Addr), as.length + m = n → St as.length h → Kp (S :: wr) h₀ h → RefsAt h S as → Laid ob N h as → N ≤ h.objs.size →
      codeAny (model prog w) A (.builtin "list.extend.loop" ⟨[.ref S, .ref I, v], []⟩) R { s with heap := h, toks := tk } := by
  have out : ∀ {b : Addr}, N ≤ b → b ∉ wr := fun hb m => absurd (wN _ m) (Nat.not_lt.mpr hb)
  induction m with
  | zero =>
    intro h tk as e st kp ra ld up
    obtain ⟨ep, at_⟩ := ra
    have en : as.length = n := e
    refine codeAny_builtin PySem.F.entry_extend_loop ?_
    rw [Around.under_plainId PySem.F.plain_extend_loop _]
    change wpAny _ A.in1 (pyNext (.ref I) >>= _) _ _ _
    refine wpAny_bind (F.done _ _ _ (by rw [en] at st; exact st) fun h' tk' k => wpAny_pure (go h' tk' as ?_ ⟨ep, k S _ nS at_⟩ (ld.keep fun b o hb q => k b o (out hb) q) en))
    exact fun b o nb q => k b o (fun z => nb (List.mem_cons_of_mem _ z)) (kp b o nb q)
  | succ m ih =>
    intro h tk as e st kp ra ld up
    obtain ⟨ep, at_⟩ := ra
    have lS := Heap.lt_size at_
    refine codeAny_builtin PySem.F.entry_extend_loop ?_
    rw [Around.under_plainId PySem.F.plain_extend_loop _]
    change wpAny _ A.in1 (pyNext (.ref I) >>= _) _ _ _
    refine wpAny_bind (F.item as.length _ _ _ (by omega) st lS fun h' tk' st' new k => ?_)
    have at' := k S _ nS at_
    have other : ∀ b o, b ≠ S → h'.get? b = some o → (h'.update S (Obj.mapSeq (·.push (Value.ref h.objs.size)))).get? b = some o := fun b o nb q => (Heap.get?_update_other _ _ (Ne.symm nb)).trans q
    have ld' := ld.keep (h' := h'.update S (Obj.mapSeq (·.push (Value.ref h.objs.size)))) fun b o hb q => other b o (Nat.ne_of_gt (Nat.lt_of_lt_of_le SN hb)) (k b o (out hb) q)
    have new' := other _ _ (Nat.ne_of_gt lS) new
    change wpAny _ A.in1 (updateSeq S (·.push (Value.ref h.objs.size)) >>= _) _ _ _
    refine wpAny_bind (wpAny_updateSeq at' rfl (wpAny_pure ⟨plainId_quiet PySem.F.plain_extend_loop _, ih _ tk' (as ++ [h.objs.size]) ?_ ?_ ?_ ?_ (ld'.snoc up (fun _ => ld.lt) new') (Nat.le_of_lt (Nat.lt_of_le_of_lt up (Heap.lt_size new')))⟩) ?_ ?_)
    · rw [List.length_append, List.length_singleton]
      omega
    · rw [List.length_append, List.length_singleton]
      exact F.keep _ _ _ st' other
    · intro b o nb q
      simp only [List.mem_cons, not_or] at nb
      exact other b o nb.1 (k b o nb.2 (kp b o (by simp only [List.mem_cons, not_or]; exact nb) q))
    · have grown : ((as ++ [h.objs.size]).map Value.ref).toArray = (as.map Value.ref).toArray.push (.ref h.objs.size) := by simp
      unfold RefsAt
      rw [grown]
      exact ⟨_, Heap.get?_update_self _ at' rfl⟩
    · rw [List.size_toArray, List.length_map, sizeLine_eq]
      omega
    · show ((as.map Value.ref).toArray.push _).size ≤ sizeLine + 1
      rw [Array.size_push, List.size_toArray, List.length_map, sizeLine_eq]
      omega
/-- the new list at S goes through the zip I -/
theorem feeds_extend (F : Feeds prog w A.in1 I S n wr St ob) (SN : S < N) (wN : ∀ b ∈ wr, b < N) (nS : S ∉ wr) (small : n ≤ 100) {TI TO : Addr} (hz : IsZip s.heap I TI TO .none) (SI : S ≠ I) (st : St 0 s.heap) (ra : RefsAt s.heap S []) (up : N ≤ s.heap.objs.size)
    (go : ∀ h' tk as, Kp (S :: wr) s.heap h' → RefsAt h' S as → Laid ob N h' as → as.length = n → R (.ok (.ret v)) { s with heap := h', toks := tk }) :
    wpAny (model prog w) A.in1 (Builtin.List.listExtendWith (.ref S) (.ref I) v) (fun fin s' => match fin with
      | .done f => R (.ok f) s'
      | .again c' => c'.quiet = true ∧ codeAny (model prog w) A c' R s') (fun e s' => R (.error e) s') s := by
  have ty : s.TypeIs (.ref I) "zip" := ⟨_, hz, rfl⟩
  have unlike : Builtin.List.listSameRef (.ref S) (.ref I) = false := by simp [Builtin.List.listSameRef, SI]
  have c1 : (Value.type "zip" == Value.type "list") = false := by decide
  have c2 : (Value.type "zip" == Value.type "tuple") = false := by decide
  obtain ⟨ep, at0⟩ := ra
  unfold Builtin.List.listExtendWith
  refine wpAny_bind (wpAny_typeOf ty ?_)
  simp only [unlike, c1, c2, Bool.or_false, Bool.false_eq_true, if_false]
  refine wpAny_bind (wpAny_pyIter_zip hz (wpAny_bind (wpAny_holding ?_)))
  unfold Builtin.List.listLengthHint
  refine wpAny_bind (wpAny_specialOf ty PySem.F.wk_zip_no_len ?_)
  change wpAny _ A.in1 (specialOf (Value.ref I) (Str.ofString "__length_hint__") >>= _) _ _ _
  refine wpAny_bind (wpAny_specialOf ty PySem.F.wk_zip_no_hint (wpAny_pure ?_))
  change wpAny _ A.in1 (rule "list.extend.makes-room" >>= fun _ => Builtin.List.listTouch (.ref S) >>= fun _ => again _) _ _ _
  refine wpAny_bind (wpAny_rule (wpAny_bind ?_))
  change wpAny _ A.in1 (updateSeq S (·.push .none) >>= fun _ => updateSeq S (·.pop)) _ _ _
  have at1 := Heap.get?_update_self (Obj.mapSeq (·.push Value.none)) at0 rfl
  have at2 := Heap.get?_update_self (Obj.mapSeq (·.pop)) at1 rfl
  refine wpAny_bind (wpAny_updateSeq at0 rfl (wpAny_updateSeq (hz := by seq_fits) at1 rfl (wpAny_pure ⟨plainId_quiet PySem.F.plain_extend_loop _, ?_⟩)))
  have other : ∀ b o, b ≠ S → s.heap.get? b = some o → ((s.heap.update S (Obj.mapSeq (·.push Value.none))).update S (Obj.mapSeq (·.pop))).get? b = some o := fun b o nb q => by
    rw [Heap.get?_update_other _ _ (Ne.symm nb), Heap.get?_update_other _ _ (Ne.symm nb)]
    exact q
  exact feeds_loop F SN wN nS small (h₀ := s.heap) go n _ _ [] (Nat.zero_add n) (F.keep _ _ _ st other) (fun b o nb q => other b o (fun z => nb (by simp [z])) q) ⟨_, at2⟩ ⟨List.Pairwise.nil, fun j a e => by cases e⟩
    (by rw [(Heap.SameBut.update ..).1, (Heap.SameBut.update ..).1]; exact up)
/-- list(I), I a zip -/
theorem feeds_list {E : Value → Shared → Prop} {Q : Value → Shared → Prop} {TI TO : Addr} (F : Feeds prog w A.in1.in1 I s.heap.objs.size n wr St ob) (wN : ∀ b ∈ wr, b < s.heap.objs.size) (small : n ≤ 100) (hz : IsZip s.heap I TI TO .none) (st : St 0 s.heap)
    (go : ∀ h' tk as, Kp wr s.heap h' → RefsAt h' s.heap.objs.size as → Laid ob (s.heap.objs.size + 1) h' as → as.length = n → Q (.ref s.heap.objs.size) { s with heap := h', toks := tk }) :
    wpAny (model prog w) A (call (.type "list") [.ref I]) Q E s := by
  refine callType_codes (Q₁ := fun x s' => x = .ref s.heap.objs.size ∧ s' = { s with heap := s.heap.push { cls := .type "list", data := .seq #[] } }) PySem.F.called_list (PySem.F.typeCall_list_1 _) PySem.F.entry_list_init (code_list_new _ ⟨rfl, rfl⟩) fun x s' z => ?_
  obtain ⟨ex, es⟩ := z
  subst ex es
  have at0 : (s.heap.push { cls := .type "list", data := .seq #[] }).get? s.heap.objs.size = some { cls := .type "list", data := .seq #[] } := Heap.get?_push_size _ rfl
  have at1 := Heap.get?_update_self (Obj.mapSeq fun _ => (#[] : Array Value)) at0 rfl
  have all : ∀ b o, s.heap.get? b = some o → ((s.heap.push { cls := .type "list", data := .seq #[] }).update s.heap.objs.size (Obj.mapSeq fun _ => (#[] : Array Value))).get? b = some o := fun b o q => by
    rw [Heap.get?_update_other _ _ (Nat.ne_of_gt (Heap.lt_size q))]
    exact Heap.get?_push_of_some _ q
  refine ⟨⟨_, at0, rfl⟩, PySem.F.args_list_init_2 _ _, ?_⟩
  change wpAny _ A.in1.in1 (Builtin.List.listItems (.ref s.heap.objs.size) >>= fun old => Builtin.List.listUpdate (.ref s.heap.objs.size) (fun _ => #[]) >>= fun _ => letGo old.toList.reverse >>= fun _ => Builtin.List.listExtendWith (.ref s.heap.objs.size) (.ref I) .none) _ _ _
  unfold Builtin.List.listItems
  refine wpAny_bind (wpAny_bind (wpAny_seqItems at0 rfl (wpAny_pure ?_)))
  change wpAny _ _ (updateSeq s.heap.objs.size (fun _ => #[]) >>= fun _ => letGo (#[] : Array Value).toList.reverse >>= fun _ => Builtin.List.listExtendWith (.ref s.heap.objs.size) (.ref I) .none) _ _ _
  refine wpAny_bind (wpAny_updateSeq at0 rfl (wpAny_bind (wpAny_letGo ?_)))
  refine feeds_extend (A := A.in1) (N := s.heap.objs.size + 1) F (Nat.lt_succ_self _) (fun b hb => Nat.lt_succ_of_lt (wN b hb)) (fun m => Nat.lt_irrefl _ (wN _ m)) small (all _ _ hz) (Nat.ne_of_gt (Heap.lt_size hz)) (F.keep _ _ _ st fun b o _ q => all b o q) ⟨_, at1⟩ ?_ fun h' tk as k ra ld e => ⟨rfl, go h' tk as (fun b o nb q => k b o ?_ (all b o q)) ra ld e⟩
  · show s.heap.objs.size + 1 ≤ ((s.heap.push { cls := .type "list", data := .seq #[] }).update s.heap.objs.size _).objs.size
    rw [(Heap.SameBut.update ..).1, Heap.size_push]
    exact Nat.le_refl _
  · simp only [List.mem_cons, not_or]
    exact ⟨Nat.ne_of_lt (Heap.lt_size q), nb⟩
end
end PySem
namespace Wk
open PySem PySem.Spec PyProof.Rows L2 RZ
/-- the zip of three tuples, at turn i; at S the new list -/
def Z3St (S z TI TO i1 i2 i3 a b c : Addr) (xs ys zs : Array Value) (i : Nat) (h : Heap) : Prop :=
  IsTupOf3 h TI (.ref i1) (.ref i2) (.ref i3) ∧ (∃ u v x, IsTupOf3 h TO u v x) ∧ (h.IsTupleIter i1 a i ∧ h.IsTuple a xs) ∧ (h.IsTupleIter i2 b i ∧ h.IsTuple b ys) ∧ (h.IsTupleIter i3 c i ∧ h.IsTuple c zs) ∧
    ((i = 0 ∧ IsZip h z TI TO .none) ∨ ∃ T f o, IsZipH h z TI TO T f ∧ h.get? T = some o ∧ T ≠ S ∧ T ∉ [z, TO, i1, i2, i3])
theorem z3St_keep {S z TI TO i1 i2 i3 a b c : Addr} {xs ys zs : Array Value} {i : Nat} {h h' : Heap} (hS : ∀ d ∈ [z, TI, TO, i1, i2, i3, a, b, c], d ≠ S) (st : Z3St S z TI TO i1 i2 i3 a b c xs ys zs i h)
    (k : ∀ d o, d ≠ S → h.get? d = some o → h'.get? d = some o) : Z3St S z TI TO i1 i2 i3 a b c xs ys zs i h' := by
  obtain ⟨hTI, ⟨u, v, x, hTO⟩, ⟨p1, q1⟩, ⟨p2, q2⟩, ⟨p3, q3⟩, hz⟩ := st
  refine ⟨k _ _ (hS TI (by simp)) hTI, ⟨u, v, x, k _ _ (hS TO (by simp)) hTO⟩, ⟨p1.at fun o e => k _ _ (hS i1 (by simp)) e, q1.at fun o e => k _ _ (hS a (by simp)) e⟩, ⟨p2.at fun o e => k _ _ (hS i2 (by simp)) e, q2.at fun o e => k _ _ (hS b (by simp)) e⟩,
    ⟨p3.at fun o e => k _ _ (hS i3 (by simp)) e, q3.at fun o e => k _ _ (hS c (by simp)) e⟩, ?_⟩
  rcases hz with ⟨e, hz⟩ | ⟨T, f, o, hz, hT, n1, n2⟩
  · exact .inl ⟨e, k _ _ (hS z (by simp)) hz⟩
  · exact .inr ⟨T, f, o, k _ _ (hS z (by simp)) hz, k _ _ n1 hT, n1, n2⟩
section
variable {prog : Program} {w : World} {A : Around} {s : Shared} {S z TI TO i1 i2 i3 a b c : Addr} {xs ys zs : Array Value} {i : Nat} {Q : Option Value → Shared → Prop} {E : Value → Shared → Prop}
theorem z3_item (hh : A.handled = none) (D : ZipSep3 z TI TO i1 i2 i3 [i1, a] [i2, b] [i3, c]) (ha : a ≠ i1) (hb : b ≠ i2) (hcc : c ≠ i3) (h3 : xs.size = 3) (h4 : ys.size = 3) (h5 : zs.size = 3) (hi : i < 3)
    (st : Z3St S z TI TO i1 i2 i3 a b c xs ys zs i s.heap) (hSl : S < s.heap.objs.size) (hTIT : TI ∉ [z, TO, i1, i2, i3])
    (hQ : ∀ h' tk, Z3St S z TI TO i1 i2 i3 a b c xs ys zs (i + 1) h' → h'.get? s.heap.objs.size = some { cls := .type "tuple", data := .seq #[xs.getD i .none, ys.getD i .none, zs.getD i .none] } →
      (∀ d o, d ∉ [z, TO, i1, i2, i3] → s.heap.get? d = some o → h'.get? d = some o) → Q (some (.ref s.heap.objs.size)) { s with heap := h', toks := tk }) : wpAny (model prog w) A (pyNext (.ref z)) Q E s := by
  obtain ⟨hTI, ⟨u, v, x, hTO⟩, st1, st2, st3, hz⟩ := st
  have hh1 : A.in1.handled = none := by simp [hh]
  have D1 : Draws prog w A.in1 i1 [i1, a] xs.size _ _ := Draws.tuple hh1 i1 a ha xs
  have D2 : Draws prog w A.in1 i2 [i2, b] ys.size _ _ := Draws.tuple hh1 i2 b hb ys
  have D3 : Draws prog w A.in1 i3 [i3, c] zs.size _ _ := Draws.tuple hh1 i3 c hcc zs
  have gx : ∀ {ws : Array Value} {x : Value}, ws[i]? = some x → x = ws.getD i .none := fun {ws x} e => by
    have := Array.getElem?_eq_some_iff.mp e
    obtain ⟨q, e'⟩ := this
    simp [Array.getD, q, e']
  have lt : ∀ {d o}, s.heap.get? d = some o → s.heap.objs.size ≠ d := fun e => Nat.ne_of_gt (Heap.lt_size e)
  have l1 : s.heap.objs.size ≠ i1 := by obtain ⟨_, e⟩ := D1.live _ _ st1; exact lt e
  have l2 : s.heap.objs.size ≠ i2 := by obtain ⟨_, e⟩ := D2.live _ _ st2; exact lt e
  have l3 : s.heap.objs.size ≠ i3 := by obtain ⟨_, e⟩ := D3.live _ _ st3; exact lt e
  rcases hz with ⟨hi0, hz⟩ | ⟨T, f, o, hz, hT, n1, n2⟩
  · refine wpAny_pyNext_zipD3_item D D1 D2 D3 hz hTI hTO st1 st2 st3 (by omega) (by omega) (by omega) fun x1 x2 x3 h' tk y1 y2 y3 b1 b2 d1 d2 d3 b5 b6 hk => ?_
    have hk' : ∀ d o, d ∉ [z, TO, i1, i2, i3] → s.heap.get? d = some o → h'.get? d = some o := fun d o hd e => hk d o (fun q => hd (by simp [q])) (fun q => hd (by simp [q])) (fun q => hd (by simp [q])) (fun q => hd (by simp [q])) (fun q => hd (by simp [q])) e
    refine hQ h' tk ⟨hk' _ _ hTIT hTI, ⟨_, _, _, b2⟩, d1, d2, d3, .inr ⟨_, _, _, b1, b5, Nat.ne_of_gt hSl, ?_⟩⟩ ?_ hk'
    · have l4 := lt hz
      have l5 := lt hTO
      simp only [List.mem_cons, List.not_mem_nil, or_false, not_or]
      exact ⟨l4, l5, l1, l2, l3⟩
    · rw [← gx y1, ← gx y2, ← gx y3]
      exact b5
  · have hTy : s.TypeIs (.ref z) "zip" := ⟨_, hz, rfl⟩
    unfold pyNext
    refine wpAny_bind (wpAny_attempt (wpAny_callSpecial?_slot (name := Str.ofString "__next__") hTy F.slot_zip_next
      (wpAny_call_entry F.slot_zip_next hTy F.entry_zip_next
        (z3_next D D1 D2 D3 hz hT hTI st1 st2 st3 (.inl ⟨⟨by omega, by omega, by omega⟩, fun x1 x2 x3 h' tk y1 y2 y3 b1 d1 d2 d3 b5 b6 hk => ⟨_, rfl, wpAny_pure ?_⟩⟩)) (F.args_zip_next_1 _))))
    have hk' : ∀ d o, d ∉ [z, TO, i1, i2, i3] → s.heap.get? d = some o → h'.get? d = some o := fun d o hd e => hk d o (fun q => hd (by simp [q])) (fun q => hd (by simp [q])) (fun q => hd (by simp [q])) (fun q => hd (by simp [q])) e
    refine hQ h' tk ⟨hk' _ _ hTIT hTI, ⟨u, v, x, hk _ _ D.TOz (fun q => D.Tf1 (by simp [q])) (fun q => D.Tf2 (by simp [q])) (fun q => D.Tf3 (by simp [q])) hTO⟩, d1, d2, d3, .inr ⟨T, _, o, b1, hk' _ _ n2 hT, n1, n2⟩⟩ ?_ hk'
    rw [← gx y1, ← gx y2, ← gx y3]
    exact b5
theorem z3_done (hh : A.handled = none) (D : ZipSep3 z TI TO i1 i2 i3 [i1, a] [i2, b] [i3, c]) (ha : a ≠ i1) (hb : b ≠ i2) (hcc : c ≠ i3) (h3 : xs.size = 3)
    (st : Z3St S z TI TO i1 i2 i3 a b c xs ys zs 3 s.heap)
    (hQ : ∀ h' tk, (∀ d o, d ∉ [z, TO, i1, i2, i3] → s.heap.get? d = some o → h'.get? d = some o) → Q none { s with heap := h', toks := tk }) : wpAny (model prog w) A (pyNext (.ref z)) Q E s := by
  obtain ⟨hTI, ⟨u, v, x, hTO⟩, st1, st2, st3, hz⟩ := st
  have hh1 : A.in1.handled = none := by simp [hh]
  have D1 : Draws prog w A.in1 i1 [i1, a] xs.size _ _ := Draws.tuple hh1 i1 a ha xs
  have D2 : Draws prog w A.in1 i2 [i2, b] ys.size _ _ := Draws.tuple hh1 i2 b hb ys
  have D3 : Draws prog w A.in1 i3 [i3, c] zs.size _ _ := Draws.tuple hh1 i3 c hcc zs
  rcases hz with ⟨hi0, hz⟩ | ⟨T, f, o, hz, hT, n1, n2⟩
  · exact absurd hi0 (by decide)
  · have hTy : s.TypeIs (.ref z) "zip" := ⟨_, hz, rfl⟩
    unfold pyNext
    refine wpAny_bind (wpAny_attempt (wpAny_callSpecial?_slot (name := Str.ofString "__next__") hTy F.slot_zip_next
      (wpAny_call_entry F.slot_zip_next hTy F.entry_zip_next (z3_next D D1 D2 D3 hz hT hTI st1 st2 st3 (.inr ⟨h3.symm, fun h' e hk he => ?_⟩)) (F.args_zip_next_1 _))))
    obtain ⟨o', ho, hc'⟩ := he
    refine wpAny_bind (wpAny_isInstance (T := "StopIteration") (b := true) ⟨o', ho, hc'⟩ isSubtype_stop ?_)
    exact wpAny_pure (hQ h' s.toks fun d o hd e => hk d o (fun q => hd (by simp [q])) (fun q => hd (by simp [q])) e)
end
def tZip3 (K : PySem.W.Frag) (ta tb tc : TE) : TE := fun σ H Q => ta σ H fun x H1 => tb σ H1 fun y H2 => tc σ H2 fun z H3 => ∃ (a b c : Addr) (xs ys zs : List V), x = .ref a ∧ y = .ref b ∧ z = .ref c ∧ SqT K H3 a xs ∧ SqT K H3 b ys ∧ SqT K H3 c zs ∧
  xs.length = 3 ∧ ys.length = 3 ∧ zs.length = 3 ∧ ∀ (H' : Hp) (p : Addr) (ts : List Addr), Same H3 H' → H3 p = none → H' p = some (.lst (ts.map V.ref)) → ts.length = 3 →
    (∀ (i : Nat) (t : Addr), ts[i]? = some t → ∃ x y z, xs[i]? = some x ∧ ys[i]? = some y ∧ zs[i]? = some z ∧ H' t = some (.tup [x, y, z])) → Q (.ref p) H'
theorem z3_lays {X : Cx} {pins : List (Addr × Obj)} {σ : L2.St} {H : Hp} {s : Shared} {h' : Heap} {tk : Nat} {S : Addr} {t0 t1 t2 : Addr} {o0 o1 o2 oS : HO} (I : Inv X pins σ H s) (k : ∀ d o, s.heap.get? d = some o → h'.get? d = some o)
    (lS : s.heap.objs.size ≤ S) (l0 : S < t0) (l1 : t0 < t1) (l2 : t1 < t2) (w0 : ∀ G, ObjOk X.prog X.w G h' t0 o0) (w1 : ∀ G, ObjOk X.prog X.w G h' t1 o1) (w2 : ∀ G, ObjOk X.prog X.w G h' t2 o2) (wS : ∀ G, ObjOk X.prog X.w G h' S oS) :
    Inv X pins σ (upd (upd (upd (upd H t0 o0) t1 o1) t2 o2) S oS) { s with heap := h', toks := tk } := by
  have L0 : s.heap.objs.size ≤ t0 := Nat.le_of_lt (Nat.lt_of_le_of_lt lS l0)
  have L1 : s.heap.objs.size ≤ t1 := Nat.le_trans L0 (Nat.le_of_lt l1)
  have L2' : s.heap.objs.size ≤ t2 := Nat.le_trans L1 (Nat.le_of_lt l2)
  have nS := I.hok.fresh lS
  have n0 := I.hok.fresh L0
  have n1 := I.hok.fresh L1
  have n2 := I.hok.fresh L2'
  have m1 : upd H t0 o0 t1 = none := by rw [upd_ne (Nat.ne_of_gt l1)]; exact n1
  have m2 : upd (upd H t0 o0) t1 o1 t2 = none := by rw [upd_ne (Nat.ne_of_gt l2), upd_ne (Nat.ne_of_gt (Nat.lt_trans l1 l2))]; exact n2
  have mS : upd (upd (upd H t0 o0) t1 o1) t2 o2 S = none := by
    rw [upd_ne (Nat.ne_of_lt (Nat.lt_trans l0 (Nat.lt_trans l1 l2))), upd_ne (Nat.ne_of_lt (Nat.lt_trans l0 l1)), upd_ne (Nat.ne_of_lt l0)]; exact nS
  have ex : ∀ d, d ≠ t0 → d ≠ t1 → d ≠ t2 → d ≠ S → upd (upd (upd (upd H t0 o0) t1 o1) t2 o2) S oS d = H d := fun d a b c e => by rw [upd_ne e, upd_ne c, upd_ne b, upd_ne a]
  have U : Un X.fs [] H (upd (upd (upd (upd H t0 o0) t1 o1) t2 o2) S oS) s.heap h' := {
    keep := fun b u q _ _ _ => k b u q
    slot := fun b u q _ _ _ => ⟨u.slots, k b u q⟩
    free := fun b u q n _ => by
      have z := Heap.lt_size q
      rw [ex b (Nat.ne_of_lt (Nat.lt_of_lt_of_le z L0)) (Nat.ne_of_lt (Nat.lt_of_lt_of_le z L1)) (Nat.ne_of_lt (Nat.lt_of_lt_of_le z L2')) (Nat.ne_of_lt (Nat.lt_of_lt_of_le z lS))]
      exact n
    there := fun b u q _ => ⟨u, k b u q⟩
    tups := fun b xs q => by rw [ex b (ne_of_none q n0) (ne_of_none q n1) (ne_of_none q n2) (ne_of_none q nS)]; exact q
    frzs := fun b u xs q => by rw [ex b (ne_of_none q n0) (ne_of_none q n1) (ne_of_none q n2) (ne_of_none q nS)]; exact q
    tbls := fun b ps q => ⟨#[], by rw [ex b (ne_of_none q n0) (ne_of_none q n1) (ne_of_none q n2) (ne_of_none q nS), q]; simp⟩ }
  exact I.un U (L2.HOk.laidN (L2.HOk.laidN (L2.HOk.laidN (L2.HOk.laidN I.hok k n0 (w0 _)) (fun _ _ e => e) m1 (w1 _)) (fun _ _ e => e) m2 (w2 _)) (fun _ _ e => e) mS (wS _))
def z3Q (K : PySem.W.Frag) (Q : VK) : List V → Hp → Prop
  | [x, y, z], H3 => ∃ (a b c : Addr) (xs ys zs : List V), x = .ref a ∧ y = .ref b ∧ z = .ref c ∧ SqT K H3 a xs ∧ SqT K H3 b ys ∧ SqT K H3 c zs ∧
    xs.length = 3 ∧ ys.length = 3 ∧ zs.length = 3 ∧ ∀ (H' : Hp) (p : Addr) (ts : List Addr), Same H3 H' → H3 p = none → H' p = some (.lst (ts.map V.ref)) → ts.length = 3 →
      (∀ (i : Nat) (t : Addr), ts[i]? = some t → ∃ x y z, xs[i]? = some x ∧ ys[i]? = some y ∧ zs[i]? = some z ∧ H' t = some (.tup [x, y, z])) → Q (.ref p) H'
  | _, _ => False
theorem z3Q_of {K : PySem.W.Frag} {Q : VK} {vs : List V} {H : Hp} (h : z3Q K Q vs H) : ∃ x y z, vs = [x, y, z] := by
  rcases vs with _ | ⟨x, _ | ⟨y, _ | ⟨z, _ | ⟨_, _⟩⟩⟩⟩
  · exact h.elim
  · exact h.elim
  · exact h.elim
  · exact ⟨x, y, z, rfl⟩
  · exact h.elim
theorem vals3 {x y z : V} {us : List Value} (h : Vals [x, y, z] us) : ∃ u v w, us = [u, v, w] ∧ RelV x u ∧ RelV y v ∧ RelV z w := by
  cases h with
  | cons h0 r =>
    cases r with
    | cons h1 r =>
      cases r with
      | cons h2 r =>
        cases r
        exact ⟨_, _, _, rfl, h0, h1, h2⟩
theorem len3 {α : Type} {l : List α} (h : l.length = 3) : ∃ x y z, l = [x, y, z] := by
  rcases l with _ | ⟨x, _ | ⟨y, _ | ⟨z, _ | ⟨_, _⟩⟩⟩⟩
  · simp at h
  · simp at h
  · simp at h
  · exact ⟨x, y, z, rfl⟩
  · simp at h
theorem pe_listZip3 {X : Cx} {a b c : Expr} {ta tb tc : TE} {p p2 pos pos2 : Pos} (hc : X.calm = true) (hg : Gl X "list") (hm : X.mg "list" = none) (hgz : Gl X "zip") (hmz : X.mg "zip" = none) (h1 : PE X a ta) (h2 : PE X b tb) (h3 : PE X c tc)
    (na : starEach [a, b, c] X.env = (false, eval a X.env) :: starEach [b, c] X.env := by rfl) (nb : starEach [b, c] X.env = (false, eval b X.env) :: starEach [c] X.env := by rfl) (nc : starEach [c] X.env = (false, eval c X.env) :: starEach [] X.env := by rfl)
    (npl : (backTo pos2 (starEach [b, c] X.env)).any (·.1) = false := by rfl) :
    PE X (.Call (.Name "list" p) [.Call (.Name "zip" p2) [a, b, c] [] pos2] [] pos) (tZip3 X.K ta tb tc) := by
  refine ⟨fun pins s σ H Q I h => ?_⟩
  refine Call_ (ld_blt I hg hm PyProof.Rows.boot_list ?_)
  refine PyProof.Rows.callWith_type1 (PyProof.Rows.args_cons ?_ rfl) rfl rfl
  refine Call_ (ld_blt I hgz hmz PyProof.Rows.boot_zip ?_)
  have PA3 : PA X [a, b, c] (tCons ta (tCons tb (tCons tc tNil))) := pa_cons h1 (pa_cons h2 (pa_cons h3 pa_nil nc) nb) na
  refine PyProof.Rows.callWith_type1 (thn (PA3.run pos2 pins s σ H (z3Q X.K Q) I h) fun us s1 ⟨vs, H3, I1, r1, q1⟩ => ?_) na npl
  obtain ⟨x, y, z, rfl⟩ := z3Q_of q1
  obtain ⟨a', b', c', xs, ys, zs, rfl, rfl, rfl, sx, sy, sz, lx, ly, lz, q⟩ := q1
  obtain ⟨_, _, _, rfl, ra, rb, rc⟩ := vals3 r1
  cases ra
  cases rb
  cases rc
  obtain ⟨x0, x1, x2, rfl⟩ := len3 lx
  obtain ⟨y0, y1, y2, rfl⟩ := len3 ly
  obtain ⟨z0, z1, z2, rfl⟩ := len3 lz
  obtain ⟨its1, rv1, pt1, hz1⟩ := I1.tuple sx
  obtain ⟨its2, rv2, pt2, hz2⟩ := I1.tuple sy
  obtain ⟨its3, rv3, pt3, hz3⟩ := I1.tuple sz
  obtain ⟨u0, u1, u2, rfl, ru0, ru1, ru2⟩ := vals3 rv1
  obtain ⟨v0, v1, v2, rfl, rv0, rv1, rv2⟩ := vals3 rv2
  obtain ⟨w0, w1, w2, rfl, rw0, rw1, rw2⟩ := vals3 rv3
  have t1 : s1.heap.IsTuple a' #[u0, u1, u2] := pt1
  have t2 : s1.heap.IsTuple b' #[v0, v1, v2] := pt2
  have t3 : s1.heap.IsTuple c' #[w0, w1, w2] := pt3
  have la : a' < s1.heap.objs.size := by obtain ⟨o, ho, _⟩ := t1; exact Heap.lt_size ho
  have lb : b' < s1.heap.objs.size := by obtain ⟨o, ho, _⟩ := t2; exact Heap.lt_size ho
  have lc : c' < s1.heap.objs.size := by obtain ⟨o, ho, _⟩ := t3; exact Heap.lt_size ho
  have hd := I1.ok.hd hc
  have D : ZipSep3 (s1.heap.objs.size + 5) (s1.heap.objs.size + 3) (s1.heap.objs.size + 4) s1.heap.objs.size (s1.heap.objs.size + 1) (s1.heap.objs.size + 2) [s1.heap.objs.size, a'] [s1.heap.objs.size + 1, b'] [s1.heap.objs.size + 2, c'] :=
    zip_sep3 (fun b hb => by rw [List.mem_singleton.mp hb]; exact la) (fun b hb => by rw [List.mem_singleton.mp hb]; exact lb) (fun b hb => by rw [List.mem_singleton.mp hb]; exact lc)
  refine zip_begins3 (begins_tuple a' #[u0, u1, u2]) (begins_tuple b' #[v0, v1, v2]) (begins_tuple c' #[w0, w1, w2]) t1 t2 t3 fun h2 hz hTI hTO g1 g2 g3 hsz hk => PyProof.Rows.args_nil ?_
  have hS : ∀ d ∈ [s1.heap.objs.size + 5, s1.heap.objs.size + 3, s1.heap.objs.size + 4, s1.heap.objs.size, s1.heap.objs.size + 1, s1.heap.objs.size + 2, a', b', c'], d ≠ h2.objs.size := fun d hd' => by
    have hsz' : (h2.objs.size : Nat) = s1.heap.objs.size + 6 := hsz
    have key : (d : Nat) < h2.objs.size := by
      simp only [List.mem_cons, List.not_mem_nil, or_false] at hd'
      rw [hsz']
      rcases hd' with e | e | e | e | e | e | e | e | e
      · rw [e]; omega
      · rw [e]; omega
      · rw [e]; omega
      · rw [e]; omega
      · rw [e]; omega
      · rw [e]; omega
      · rw [e]; exact Nat.lt_of_lt_of_le la (Nat.le_add_right _ 6)
      · rw [e]; exact Nat.lt_of_lt_of_le lb (Nat.le_add_right _ 6)
      · rw [e]; exact Nat.lt_of_lt_of_le lc (Nat.le_add_right _ 6)
    exact Nat.ne_of_lt key
  have hTIT : (s1.heap.objs.size + 3 : Addr) ∉ [s1.heap.objs.size + 5, s1.heap.objs.size + 4, s1.heap.objs.size, s1.heap.objs.size + 1, s1.heap.objs.size + 2] := by
    simp only [List.mem_cons, List.not_mem_nil, or_false, not_or]
    exact ⟨D.TIz, D.TITO, D.TIi1, D.TIi2, D.TIi3⟩
  have hge : ∀ d ∈ [s1.heap.objs.size + 5, s1.heap.objs.size + 4, s1.heap.objs.size, s1.heap.objs.size + 1, s1.heap.objs.size + 2], (s1.heap.objs.size : Nat) ≤ d ∧ (d : Nat) < s1.heap.objs.size + 6 := fun d hd' => by
    simp only [List.mem_cons, List.not_mem_nil, or_false] at hd'
    rcases hd' with e | e | e | e | e <;> rw [e] <;> constructor <;> omega
  refine feeds_list (s := { s1 with heap := h2 }) (n := 3) (wr := [s1.heap.objs.size + 5, s1.heap.objs.size + 4, s1.heap.objs.size, s1.heap.objs.size + 1, s1.heap.objs.size + 2])
    (St := Z3St h2.objs.size (s1.heap.objs.size + 5) (s1.heap.objs.size + 3) (s1.heap.objs.size + 4) s1.heap.objs.size (s1.heap.objs.size + 1) (s1.heap.objs.size + 2) a' b' c' #[u0, u1, u2] #[v0, v1, v2] #[w0, w1, w2])
    (ob := fun i => { cls := .type "tuple", data := .seq #[(#[u0, u1, u2] : Array Value).getD i .none, (#[v0, v1, v2] : Array Value).getD i .none, (#[w0, w1, w2] : Array Value).getD i .none] })
    { item := fun i s' Q E hi st hl hQ => z3_item (by simp [hd]) D (Nat.ne_of_lt la) (Nat.ne_of_lt (Nat.lt_succ_of_lt lb)) (Nat.ne_of_lt (Nat.lt_succ_of_lt (Nat.lt_succ_of_lt lc))) rfl rfl rfl hi st hl hTIT hQ
      done := fun s' Q E st hQ => z3_done (by simp [hd]) D (Nat.ne_of_lt la) (Nat.ne_of_lt (Nat.lt_succ_of_lt lb)) (Nat.ne_of_lt (Nat.lt_succ_of_lt (Nat.lt_succ_of_lt lc))) rfl st hQ
      keep := fun i h h' st k => z3St_keep hS st k }
    (fun b hb => by show b < h2.objs.size; rw [hsz]; exact (hge b hb).2) (by decide) hz
    ⟨hTI, ⟨_, _, _, hTO⟩, ⟨⟨_, g1, rfl, rfl⟩, t1.at fun o e => hk _ _ e⟩, ⟨⟨_, g2, rfl, rfl⟩, t2.at fun o e => hk _ _ e⟩, ⟨⟨_, g3, rfl, rfl⟩, t3.at fun o e => hk _ _ e⟩, .inl ⟨rfl, hz⟩⟩
    fun h' tk as hk' hRS hG hl => ?_
  obtain ⟨c0, hSl⟩ := hRS
  obtain ⟨q0, q1, q2, rfl⟩ := len3 hl
  have G0 := hG.2 0 q0 rfl
  have G1 := hG.2 1 q1 rfl
  have G2 := hG.2 2 q2 rfl
  have rise := hG.1
  simp only [List.pairwise_cons, List.mem_cons, List.not_mem_nil, or_false, forall_eq_or_imp, forall_eq] at rise
  have R01 : q0 < q1 := rise.1.1
  have R12 : q1 < q2 := rise.2.1
  have kall : ∀ d o, s1.heap.get? d = some o → h'.get? d = some o := fun d o e => hk' d o (fun hm => absurd (Heap.lt_size e) (Nat.not_lt.mpr (hge d hm).1)) (hk d o e)
  have lS : s1.heap.objs.size ≤ h2.objs.size := by rw [hsz]; exact Nat.le_add_right _ _
  have J : Inv X pins σ (upd (upd (upd (upd H3 q0 (.tup [x0, y0, z0])) q1 (.tup [x1, y1, z1])) q2 (.tup [x2, y2, z2])) h2.objs.size (.lst ([q0, q1, q2].map V.ref))) { s1 with heap := h', toks := tk } := by
    refine z3_lays I1 kall lS G0.1 R01 R12 (fun G => ?_) (fun G => ?_) (fun G => ?_) (fun G => ?_)
    · exact ⟨by show 3 ≤ sizeLine; decide, [u0, v0, w0], .cons ru0 (.cons rv0 (.cons rw0 .nil)), ⟨_, G0.2, rfl, _, rfl⟩⟩
    · exact ⟨by show 3 ≤ sizeLine; decide, [u1, v1, w1], .cons ru1 (.cons rv1 (.cons rw1 .nil)), ⟨_, G1.2, rfl, _, rfl⟩⟩
    · exact ⟨by show 3 ≤ sizeLine; decide, [u2, v2, w2], .cons ru2 (.cons rv2 (.cons rw2 .nil)), ⟨_, G2.2, rfl, _, rfl⟩⟩
    · exact ⟨by show 3 ≤ sizeLine; decide, [q0, q1, q2].map Value.ref, c0, vals_refs _, hSl⟩
  have nS := I1.hok.fresh lS
  have S0 : (h2.objs.size : Nat) < q0 := G0.1
  have n0 : H3 q0 = none := I1.hok.fresh (Nat.le_of_lt (Nat.lt_of_le_of_lt lS G0.1))
  have n1 : H3 q1 = none := I1.hok.fresh (Nat.le_of_lt (Nat.lt_trans (Nat.lt_of_le_of_lt lS G0.1) R01))
  have n2 : H3 q2 = none := I1.hok.fresh (Nat.le_of_lt (Nat.lt_trans (Nat.lt_trans (Nat.lt_of_le_of_lt lS G0.1) R01) R12))
  have S0' : h2.objs.size < q0 := G0.1
  refine ⟨.ref _, _, J, rfl, q _ _ [q0, q1, q2] (fun d o e => ?_) nS upd_same rfl fun i t hi => ?_⟩
  · rw [upd_ne (ne_of_none e nS), upd_ne (ne_of_none e n2), upd_ne (ne_of_none e n1), upd_ne (ne_of_none e n0)]
    exact e
  · match i, hi with
    | 0, hi =>
      cases hi
      exact ⟨x0, y0, z0, rfl, rfl, rfl, by rw [upd_ne (Nat.ne_of_gt S0'), upd_ne (Nat.ne_of_lt (Nat.lt_trans R01 R12)), upd_ne (Nat.ne_of_lt R01), upd_same]⟩
    | 1, hi =>
      cases hi
      exact ⟨x1, y1, z1, rfl, rfl, rfl, by rw [upd_ne (Nat.ne_of_gt (Nat.lt_trans S0' R01)), upd_ne (Nat.ne_of_lt R12), upd_same]⟩
    | 2, hi =>
      cases hi
      exact ⟨x2, y2, z2, rfl, rfl, rfl, by rw [upd_ne (Nat.ne_of_gt (Nat.lt_trans (Nat.lt_trans S0' R01) R12)), upd_same]⟩
    | n + 3, hi => simp at hi
end Wk
end

section
set_option Elab.async false
set_option linter.all false
set_option maxRecDepth 100000
set_option maxHeartbeats 4000000
/-! raise NoSuch(word, e): an own class over KeyError, whose __init__ stores two fields. -/
namespace Wk
open PySem
/-! ### the class is called: __new__, then the own __init__ -/
section
variable {prog : Program} {w : World} {A : Around} {R : Result → Shared → Prop} {hp : Heap} {gs : Array GenState} {dr : Drawn} {tk : Nat} {os : OsState}
/-- at C stands an own class over `up`, made by nw -/
def ExAt (hp : Heap) (C : Addr) (up : List Value) (nw : String) : Prop := ∃ nm q N bs hd sn sub ab col dd k0 k1 k2 k3 k5, hp.get? C = some (excClassObj nm q C N bs up hd sn sub ab col dd k0 k1 k2 k3 k5 nw)
/-- the heap with the arguments and the bare object -/
abbrev laidEx (hp : Heap) (C : Addr) (us : List Value) : Heap := (hp.push (PySem.W.kdv_tup us)).push (PySem.HandSPX.excO C hp.objs.size)
theorem laidEx_old {C : Addr} {us : List Value} {b : Addr} {o : Obj} (e : hp.get? b = some o) : (laidEx hp C us).get? b = some o := Heap.get?_push_of_some _ (Heap.get?_push_of_some _ e)
theorem laidEx_new {C : Addr} {us : List Value} : (laidEx hp C us).get? (hp.objs.size + 1) = some (PySem.HandSPX.excO C hp.objs.size) := by heap_get
theorem ex_has {C : Addr} {up : List Value} {T : String} {b : Bool} (e : up.contains (.type T) = b) : (Value.ref C :: up).contains (.type T) = b := by
  rw [List.contains_cons, e]
  exact Bool.false_or b
/-- the built-in one's __new__, given the own class; of `up` only three names are asked -/
theorem ex_new {B nw ini : String} {bb up us : List Value} {C : Addr} (F : ExcBaseFacts B nw ini bb) (hB : up.contains (.type B) = true) (hA : up.contains (.type "AttributeError") = false) (hN : up.contains (.type "NameError") = false)
    (at_ : ExAt hp C up nw) (small : us.length ≤ sizeLine) (go : R (.ok (.ret (.ref (hp.objs.size + 1)))) ⟨laidEx hp C us, gs, dr, tk, os⟩) :
    codeAny (model prog w) A (.call (.builtin nw) ⟨.ref C :: us, []⟩) R ⟨hp, gs, dr, tk, os⟩ := by
  obtain ⟨_, _, _, _, _, _, _, _, _, _, _, _, _, _, _, c0⟩ := at_
  have yB := ex_has (C := C) hB
  have yA := ex_has (C := C) hA
  have yN := ex_has (C := C) hN
  have s1 := F.noStar
  have s2 := F.ends
  refine codeAny_call_builtin_code (Code.quiet_builtin _ F.quiet) ?_
  · simp only [checkBuiltinCall, F.newKind, F.newSplit, F.newRow]
    repeat (first
      | refine wpAny_loadPart_at c0 ?_
      | (refine wpAny_isSubtype_exc c0 ?_
         rw [yB])
      | refine wpAny_staticBase_exc c0 ?_
      | refine wpAny_madeBy_exc c0 ?_
      | simp only [bne_self_eq_false, Bool.false_eq_true, if_false]
      | wp_step)
    refine codeAny_builtinAt F.entry ?_
    unfold Builtin.«BaseException.__new__»
    refine PySem.wpAt_bind ?_
    change PySem.wpAt _ _ _ (stack >>= _) _ _ _
    refine PySem.wpAt_bind (wpAt_stack fun _ _ => PySem.wpAt_of_wpAny ?_)
    wp_walk
    refine PySem.wpAt_of_wpAny ?_
    rw [F.owner]
    repeat (first
      | with_reducible refine wpAny_madeHere_exc F.canon c0 ?_
      | with_reducible refine wpAny_loadPart_at c0 ?_
      | (with_reducible refine wpAny_isSubtype_exc c0 ?_
         first | rw [yB] | rw [yA] | rw [yN])
      | wp_step)
    change R _ _
    rw [Heap.size_push]
    exact go
/-- C(us): the bare object, then the own __init__ at i -/
theorem ex_call {B nw ini : String} {bb up us : List Value} {C i : Addr} (F : ExcBaseFacts B nw ini bb) (hB : up.contains (.type B) = true) (hA : up.contains (.type "AttributeError") = false) (hN : up.contains (.type "NameError") = false)
    (at_ : ExAt hp C up nw) (small : us.length ≤ sizeLine) (look : PySem.W.Looks (model prog w) hp (typeLookup (.ref C) "__init__") (some (.ref i))) (bound : ∀ me, PySem.W.Looks (model prog w) hp (bindSpecial (.ref i) me) (.ref i, [me]))
    (go : codeAny (model prog w) (A.under (.builtin "type.__call__" ⟨.ref C :: us, []⟩)) (.call (.ref i) ⟨.ref (hp.objs.size + 1) :: us, []⟩) (PySem.W.InitBack (hp.objs.size + 1) R) ⟨laidEx hp C us, gs, dr, tk, os⟩) :
    codeAny (model prog w) A (.call (.ref C) ⟨us, []⟩) R ⟨hp, gs, dr, tk, os⟩ := by
  have at0 := at_
  obtain ⟨_, _, _, _, _, _, _, _, _, _, _, _, _, _, _, c0⟩ := at_
  have u1 := tc_lookup
  have u2 := tc_bind (.ref C)
  have u3 : (⟨hp, gs, dr, tk, os⟩ : Shared).TypeIs (.ref C) "type" := ⟨_, c0, rfl⟩
  refine codeAny_of_tree ?_
  change wpAny _ _ (callAny (.ref C) _) _ _ _
  repeat (any_goals (first
    | assumption
    | with_reducible refine wpAny_loadPart_at c0 ?_
    | wp_step))
  refine ⟨rfl, codeAny_call_builtin_at (Code.quiet_builtin _ (by decide +kernel)) entry_typeCall (wpAny_check_type_call_sub c0 ?_)⟩
  repeat (first
    | with_reducible refine wpAny_loadPart_at c0 ?_
    | with_reducible refine wpAny_madeBy_exc c0 ?_
    | wp_step)
  refine ex_new (us := us) F hB hA hN at0 small ?_
  change wpAny _ _ _ _ _ _
  have c1 := laidEx_old (C := C) (us := us) c0
  have n1 := laidEx_new (hp := hp) (C := C) (us := us)
  have me : (Value.ref C :: up).contains (.ref C) = true := by simp
  unfold isInstance
  repeat (first
    | with_reducible refine wpAny_loadPart_at n1 ?_
    | (with_reducible refine wpAny_isSubtype_exc c1 ?_
       rw [me])
    | wp_step)
  change wpAny _ _ (typeLookup (.ref C) "__init__") _ _ _
  refine (look.keeps fun _ _ => laidEx_old).at ?_
  refine wpAny_holding (wpAny_bind (((bound (.ref (hp.objs.size + 1))).keeps fun _ _ => laidEx_old).at ?_))
  refine wpAny_bind (wpAny_call (codeAny_mono go fun r s' z => ?_))
  cases r with
  | error _ => exact z
  | ok fl =>
    cases fl with
    | ret v =>
      obtain ⟨ev, z⟩ := z
      subst ev
      exact wpAny_pure (wpAny_pure z)
    | _ => exact z.elim
end
end Wk
namespace Wk
open PySem PySem.Spec PyProof.Rows L2 RZ
/-! ### what the head tells of NoSuch -/
theorem sfKe : StoreFacts "KeyError" keTail "object.__setattr__" "object" :=
  { mro := by kernel_rfl
    slot := .of (owner := "object") (n := "__setattr__")
      (by
        rw [typeLookup_type, builtinLookup_eq_fast]
        kernel_rfl)
      (by decide +kernel) (by decide +kernel) (by decide +kernel)
      (by first
        | exact .inl (by decide +kernel)
        | exact .inr (by decide +kernel))
      (by
        rw [isSubtype_type]
        kernel_rfl)
    entry := PySem.F.store_LookupError.entry
    kind := PySem.F.store_LookupError.kind
    split := PySem.F.store_LookupError.split
    hasOwner := by decide +kernel
    args := PySem.F.store_LookupError.args
    passes := fun _ => by kernel_rfl }
/-- the row of facts `nsB`, taken apart -/
structure NsC (K : PySem.W.Frag) : Prop where
  made : PySem.W.excInitIn K (He.ga K "NoSuch") keTail "LookupError.__new__" = true
  dict : PySem.W.hasDictIn K (He.ga K "NoSuch") = true
  puts : PySem.W.findIn K (.ref (He.ga K "NoSuch")) "__setattr__" = some (some (.builtin "object.__setattr__"))
  isEx : PySem.W.subIn K (.ref (He.ga K "NoSuch")) (.type "BaseException") = some true
  ty : PySem.W.typeIn K (.ref (He.ga K "NoSuch")) = some (.type "type")
  keep : PySem.W.keepIn K (.ref (He.ga K "NoSuch")) = true
  init : PySem.W.findIn K (.ref (He.ga K "NoSuch")) "__init__" = some (some (.ref (He.ma K (He.ga K "NoSuch") "__init__")))
  isFn : PySem.W.typeIn K (.ref (He.ma K (He.ga K "NoSuch") "__init__")) = some (.type "function")
theorem nsC_of {K : PySem.W.Frag} (h : nsB K = true) : NsC K := by
  unfold nsB at h
  simp only [Bool.and_eq_true, decide_eq_true_eq] at h
  obtain ⟨a1, a2, a3, a4, a5, a6, _, a8, a9⟩ := h
  exact ⟨a1, a2, He.eqO_ok a3, a4, a5, a6, He.eqO_ok a8, a9⟩
theorem over_of {K : PySem.W.Frag} {C : Addr} {bb : List Value} {nw : String} (q : PySem.W.excInitIn K C bb nw = true) : PySem.W.excOver K C bb = true := by
  unfold PySem.W.excInitIn at q
  unfold PySem.W.excOver PySem.W.clsIn
  split at q
  · rename_i e
    rw [e]
    split at q
    · rename_i e2 _
      simp only [Bool.and_eq_true, beq_iff_eq] at q
      simp only [Option.any_some, e2, q.1.1.1, beq_self_eq_true, q.2, Bool.and_self]
    · cases q
  · cases q
section
variable {X : Cx} {pins : List (Addr × Obj)} {σ : L2.St} {H : Hp} {s : Shared} {a dx : Addr} {f : Str} {y : V} {u : Value} {fs : List (Str × V)} {Q : Unit → Shared → Prop} {E : Value → Shared → Prop} {A : Around}
theorem takes_none {K : PySem.W.Frag} {C : Addr} (e : PySem.W.findIn K (.ref C) f = some none) : PySem.W.takerIn K C f = some none := by
  unfold PySem.W.takerIn
  rw [e]
  rfl
/-- the first field: the object gets its dict -/
theorem ns_put1 (T : NsC X.K) (I : Inv X pins σ H s) (e : H a = some (exo a (He.ga X.K "NoSuch") none)) (no : PySem.W.findIn X.K (.ref (He.ga X.K "NoSuch")) f = some none) (ry : RelV y u)
    (k : ∀ dx s', H dx = none → dx ≠ a → Inv X pins σ (upd (upd (upd H dx (exd dx [])) a (exo a (He.ga X.K "NoSuch") (some dx))) dx (exd dx [(f, y)])) s' → Q () s') :
    wpAny (model X.prog X.w) A (setAttr (.ref a) f u) Q E s := by
  obtain ⟨t1, ho⟩ := exo_at I.hok e
  have lt := Heap.lt_size ho
  refine PySem.W.set_plain (od := none) I.kIn ⟨ho, rfl, rfl, trivial⟩ T.puts ?_
  refine PySem.W.osa_openX (od := none) sfKe I.kIn ⟨ho, rfl, rfl, trivial⟩ (over_of T.made) (takes_none no) fun _ => ?_
  obtain ⟨cd, hc, hd⟩ := PySem.W.any_some T.dict
  refine wpAny_bind (wpAny_pure (wpAny_bind (PySem.W.instanceDict_exc ho (PySem.W.looks_clsIn I.kIn hc) hd ?_)))
  show wpAny _ _ (Builtin.ObjectAttr.storeInDict s.heap.objs.size (.str f _) f u) _ _ _
  have nd : H s.heap.objs.size = none := I.hok.fresh (Nat.le_refl _)
  have ne : s.heap.objs.size ≠ a := Nat.ne_of_gt lt
  have em : (s.heap.push (PySem.W.dictOf [] 0)).Ns s.heap.objs.size fun _ => none := ⟨_, #[], _, Heap.get?_push_at rfl rfl, rfl, fun _ h => absurd h (by simp), fun _ => rfl⟩
  have J1 := I.laid (t' := s.toks + 1) (a := s.heap.objs.size) (o := exd s.heap.objs.size []) (fun _ _ h => Heap.get?_push_of_some _ h) (Nat.le_refl _) (exd_ok (Heap.Ns1.of_empty em) fun _ => trivial)
  have ho1 : (s.heap.push (PySem.W.dictOf [] 0)).get? a = _ := Heap.get?_push_of_some _ ho
  have at2 := Heap.get?_update_self (fun o : Obj => { o with dict := some s.heap.objs.size }) ho1 rfl
  have J2 := J1.write (t' := s.toks + 1) (x := a) (e := a) (o := exo a (He.ga X.K "NoSuch") (some s.heap.objs.size)) (h' := (s.heap.push (PySem.W.dictOf [] 0)).update a fun o => { o with dict := some s.heap.objs.size })
    (by rw [upd_ne (Ne.symm ne), e]; exact trivial) (.inl rfl) (fun b _ hb h => (Heap.get?_update_ne _ _ _ _ hb).trans h) ⟨_, at2⟩ (exo_ok at2)
  have em2 : ((s.heap.push (PySem.W.dictOf [] 0)).update a fun o => { o with dict := some s.heap.objs.size }).Ns s.heap.objs.size fun _ => none := ⟨_, #[], _, (Heap.get?_update_ne _ _ _ _ ne).trans (Heap.get?_push_at rfl rfl), rfl, fun _ h => absurd h (by simp), fun _ => rfl⟩
  refine PySem.HandSPX.store_in_new em2 fun h' tk' hn hs => k _ _ nd ne (J2.write (t' := tk') (x := s.heap.objs.size) (e := s.heap.objs.size) (o := exd s.heap.objs.size [(f, y)]) (h' := h') ?_ (.inl rfl) (fun b _ hb h => (hs.2 b hb).trans h) ?_ (exd_ok hn (relO_put (fs := []) ry fun _ => trivial)))
  · rw [upd_ne ne, upd_same]
    exact trivial
  · obtain ⟨o, _, _, h, _⟩ := hn
    exact ⟨o, h⟩
/-- a further field -/
theorem ns_put2 (T : NsC X.K) (I : Inv X pins σ H s) (e : H a = some (exo a (He.ga X.K "NoSuch") (some dx))) (ed : H dx = some (exd dx fs)) (small : fs.length ≤ 900) (no : PySem.W.findIn X.K (.ref (He.ga X.K "NoSuch")) f = some none) (ry : RelV y u)
    (k : ∀ s', Inv X pins σ (upd H dx (exd dx ((f, y) :: fs))) s' → Q () s') : wpAny (model X.prog X.w) A (setAttr (.ref a) f u) Q E s := by
  obtain ⟨t1, ho⟩ := exo_at I.hok e
  obtain ⟨mA, hn, rel⟩ := exd_at I.hok ed
  obtain ⟨oD, _, _, hoD, _⟩ := hn.count (within_of rel)
  refine PySem.W.set_plain (od := some oD) I.kIn ⟨ho, rfl, rfl, hoD⟩ T.puts ?_
  refine PySem.W.osa_openX (od := some oD) sfKe I.kIn ⟨ho, rfl, rfl, hoD⟩ (over_of T.made) (takes_none no) fun _ => ?_
  obtain ⟨cd, hc, hd⟩ := PySem.W.any_some T.dict
  refine wpAny_bind (wpAny_pure (wpAny_bind (wpAny_bind (wpAny_loadPart ho (wpAny_bind ((PySem.W.looks_clsIn I.kIn hc).at ?_))))))
  rw [hd]
  refine wpAny_pure (a := some dx) ?_
  refine PySem.OEX.store_in_old hn (within_of rel) (by rw [List.length_map]; omega) fun h' tk' hn' hs => k _ (I.write (t' := tk') (x := dx) (e := dx) (o := exd dx ((f, y) :: fs)) (h' := h') ?_ (.inl rfl) (fun b _ hb h => (hs.2 b hb).trans h) ?_ (exd_ok hn' (relO_put ry rel)))
  · rw [ed]
    exact trivial
  · obtain ⟨o, _, _, h, _⟩ := hn'
    exact ⟨o, h⟩
end
end Wk
namespace Wk
open PySem PySem.Spec PyProof.Rows L2 RZ
section
variable {X : Cx} {o e : Expr} {to te : TE} {f : Str} {p' pos : Pos}
/-- self.f = e, the first one -/
theorem ps_put1 (N : NsC X.K) (no : PySem.W.findIn X.K (.ref (He.ga X.K "NoSuch")) f = some none) (ho : PE X o to) (he : PE X e te) (sw : swapsWith e (some (.Attribute o f p')) pos.line X.env = pure false := by rfl) :
    PS X (.Assign [.Attribute o f p'] e pos) (fun D σ H => te σ H fun y H1 => to σ H1 fun x H2 => ∃ a, x = .ref a ∧ H2 a = some (exo a (He.ga X.K "NoSuch") none) ∧
      ∀ dx, H2 dx = none → dx ≠ a → D.nx σ (upd (upd (upd H2 dx (exd dx [])) a (exo a (He.ga X.K "NoSuch") (some dx))) dx (exd dx [(f, y)]))) :=
  ⟨fun pins s σ H D I h => plainObj_wpAny_Assign_Attribute (thn (he.run pins s σ H _ I h) fun v s1 ⟨y, H1, I1, ry, h1⟩ => thn (ho.run pins s1 σ H1 _ I1 h1) fun u s2 ⟨x, H2, I2, rx, a, ex, ea, q⟩ => by
    subst ex
    cases (show u = Value.ref a from rx)
    exact ns_put1 N I2 ea no ry fun dx s' n ne J => ⟨σ, _, J, q dx n ne⟩) sw⟩
/-- self.f = e, a further one -/
theorem ps_put2 (N : NsC X.K) (no : PySem.W.findIn X.K (.ref (He.ga X.K "NoSuch")) f = some none) (ho : PE X o to) (he : PE X e te) (sw : swapsWith e (some (.Attribute o f p')) pos.line X.env = pure false := by rfl) :
    PS X (.Assign [.Attribute o f p'] e pos) (fun D σ H => te σ H fun y H1 => to σ H1 fun x H2 => ∃ a dx fs, x = .ref a ∧ H2 a = some (exo a (He.ga X.K "NoSuch") (some dx)) ∧ H2 dx = some (exd dx fs) ∧ fs.length ≤ 900 ∧ D.nx σ (upd H2 dx (exd dx ((f, y) :: fs)))) :=
  ⟨fun pins s σ H D I h => plainObj_wpAny_Assign_Attribute (thn (he.run pins s σ H _ I h) fun v s1 ⟨y, H1, I1, ry, h1⟩ => thn (ho.run pins s1 σ H1 _ I1 h1) fun u s2 ⟨x, H2, I2, rx, a, dx, fs, ex, ea, ed, small, q⟩ => by
    subst ex
    cases (show u = Value.ref a from rx)
    exact ns_put2 N I2 ea ed small no ry fun s' J => ⟨σ, _, J, q⟩) sw⟩
end
/-- the def: both fields are there, all else stands -/
def sp_NoSuch_init (K : PySem.W.Frag) : Sp := fun vs H Q _ => ∃ (x : Addr) (y z : V), vs = [.ref x, y, z] ∧ H x = some (exo x (He.ga K "NoSuch") none) ∧
  ∀ (dx : Addr) (H' : Hp), H dx = none → dx ≠ x → H' x = some (exo x (He.ga K "NoSuch") (some dx)) → H' dx = some (exd dx [("name", z), ("what", y)]) → (∀ b, b ≠ x → b ≠ dx → H' b = H b) → Q .non H'
theorem fn_NoSuch_init {P : Program} {w : World} {K : PySem.W.Frag} {mg : Str → Option Value} {base : Heap} (T : Tx w K mg) {fd : FuncData} (F : FunD K d_NoSuch_init.name d_NoSuch_init.qual d_NoSuch_init.params d_NoSuch_init.body d_NoSuch_init.scope (d_NoSuch_init.dvs K) (d_NoSuch_init.kws K) (He.fAd K d_NoSuch_init.at_) fd) :
    FnOk P w K mg base CX0 1 (He.fAd K d_NoSuch_init.at_) fd ["self", "what", "name"] (sp_NoSuch_init K) := by
  have N := nsC_of T.noSuch
  refine F.ok sc_NoSuch_init (fun vs H Q E h => ?_) (fun cdv A outer s H vs Q E hr h => ?_)
  · obtain ⟨x, y, z, rfl, _⟩ := h
    rfl
  · obtain ⟨x, y, z, rfl, hx, k⟩ := h
    refine ⟨_, PSs.nox (pss_cons (ps_put1 (f := "what") N T.n_NoSuch_what (pv 0) (pv 1)) (pss_one (ps_put2 (f := "name") N T.n_NoSuch_name (pv 0) (pv 2)))), ?_⟩
    refine ⟨_, rfl, _, rfl, x, rfl, hx, fun dx hn hne => ⟨_, rfl, _, rfl, x, dx, [("what", y)], rfl, ?_, upd_same, by show 1 ≤ 900; decide, ?_⟩⟩
    · rw [upd_ne (Ne.symm hne), upd_same]
    · refine k dx _ hn hne ?_ upd_same fun b h1 h2 => ?_
      · rw [upd_ne (Ne.symm hne), upd_ne (Ne.symm hne), upd_same]
        rfl
      · rw [upd_ne h2, upd_ne h2, upd_ne h1, upd_ne h2]
/-- of just two values -/
def onTwo (R : Hp → Prop) : List V → Hp → Prop
  | [_, _], H => R H
  | _, _ => False
theorem onTwo_of {R : Hp → Prop} {H : Hp} : ∀ {vs : List V}, onTwo R vs H → ∃ y z, vs = [y, z] ∧ R H
  | [y, z], h => ⟨y, z, rfl, h⟩
  | [], h => h.elim
  | [_], h => h.elim
  | _ :: _ :: _ :: _, h => h.elim
section
variable {X : Cx} {e1 e2 : Expr} {ta : TA} {p cp : Pos}
/-- NoSuch(e1, e2) -/
theorem pmk_ns (T : Tx X.w X.K X.mg) (hr : Room 2 X.A) (hg : Gl X "NoSuch") (ha : PA X [e1, e2] ta) (st : starEach [e1, e2] X.env = (false, eval e1 X.env) :: starEach [e2] X.env := by rfl) (pl : (backTo cp (starEach [e2] X.env)).any (·.1) = false := by rfl) :
    PMk X (.Call (.Name "NoSuch" p) [e1, e2] [] cp) (fun σ H Q => ta σ H (onTwo fun H1 => ∀ (d : Addr) (H2 : Hp), Same H1 H2 → Q (.ref (He.ga X.K "NoSuch")) (some d) H2)) := by
  intro pins s σ H Q I h
  obtain ⟨fd, F⟩ := T.F_NoSuch_init
  have N := nsC_of T.noSuch
  have G := fn_NoSuch_init (P := X.prog) (base := X.base) T F
  refine wpAny_Call_Name_kw (ld_glob I hg T.g_NoSuch ?_ (by decide))
  refine PySem.W.callWith_K (h₀ := X.base) I.ok.mod.kin N.keep (thn (ha.run cp pins s σ H _ I h) fun us s1 ⟨vs, H1, I1, r1, h1⟩ => ⟨I1.kIn, ?_⟩) st pl
  obtain ⟨y, z, rfl, q⟩ := onTwo_of h1
  obtain ⟨hp, g, dr, tk, os⟩ := s1
  obtain ⟨nm, N', qn, bs, bm, hdct, sn, sub, ab, col, dd, k0, k1, k2, k3, k5, c0, same⟩ := PySem.W.excInit_of I1.kIn N.made
  have free : H1 (hp.objs.size + 1) = none := I1.hok.fresh (Nat.le_succ _)
  have lus : us.length = 2 := (Paired.length r1).symm
  have I2 := I1.laid (t' := tk) (a := hp.objs.size + 1) (o := exo (hp.objs.size + 1) (He.ga X.K "NoSuch") none) (h' := laidEx hp (He.ga X.K "NoSuch") us) (fun _ _ => laidEx_old) (Nat.le_succ _) (exo_ok laidEx_new)
  have bind := F.bindsN (ps := ["self", "what", "name"]) fun _ _ _ _ _ _ us hl => match us, hl with | [_, _, _], _ => rfl
  show wpAny _ _ (call (.ref _) us) _ _ _
  refine wpAny_call (ex_call PySem.F.excBase_LookupError ((same "LookupError").trans (by decide +kernel)) ((same "AttributeError").trans (by decide +kernel)) ((same "NameError").trans (by decide +kernel))
    ⟨_, _, _, _, _, _, _, _, _, _, _, _, _, _, _, c0⟩ (by rw [lus, sizeLine_eq]; omega) (PySem.W.looks_findIn I1.kIn N.init) (fun me => PySem.W.bind_fn I1.kIn me N.isFn) ?_)
  refine codeAny_mono (G.run _ X.stack _ _ ⟨.ref (hp.objs.size + 1) :: us, []⟩ (.ref (hp.objs.size + 1) :: (us ++ [])) [.ref (hp.objs.size + 1), y, z]
    (fun v H2 => v = .non ∧ ∃ d, H2 (hp.objs.size + 1) = some (exo (hp.objs.size + 1) (He.ga X.K "NoSuch") (some d)) ∧ H2 d = some (exd d [("name", z), ("what", y)]) ∧ H1 d = none ∧ Q (.ref (He.ga X.K "NoSuch")) (some d) (upd (del H2 (hp.objs.size + 1)) d (.xd [("name", z), ("what", y)])))
    (fun _ _ _ => False) (hr.make _ us []) (I2.env0.make _ us []) (bind _ _ I2.kIn (by rw [List.append_nil, List.length_cons, lus]; rfl)) (.cons rfl (by rw [List.append_nil]; exact r1)) ?_) fun r s' z => ?_
  · refine ⟨_, y, z, rfl, upd_same, fun d H2 hd hne ea ed same2 => ⟨rfl, d, ea, ed, ?_, ?_⟩⟩
    · rw [upd_ne hne] at hd
      exact hd
    · rw [upd_ne hne] at hd
      refine q d _ fun b o hb => ?_
      have n1 : b ≠ hp.objs.size + 1 := fun z => by rw [z, free] at hb; cases hb
      have n2 : b ≠ d := fun z => by rw [z, hd] at hb; cases hb
      rw [upd_ne n2, del_ne n1, same2 b n1 n2, upd_ne n1]
      exact hb
  · cases r with
    | error er => exact pass0 pins σ _ _ er s' I2 z
    | ok fl =>
      cases fl with
      | ret u =>
        obtain ⟨v, H2, os2, bare2, un2, hok2, rv, rfl, d, ea, ed, hd1, q2⟩ := z
        obtain ⟨h2, g2, d2, t2, os'⟩ := s'
        exact ⟨rv, mk_end (raises_own N.isEx N.ty) I1 (Nat.le_succ _) (fun _ _ => laidEx_old) un2 hok2 os2 bare2 ea ed hd1 q2⟩
      | _ => exact z.elim
end
/-- raise NoSuch("..", e) -/
theorem ps_raiseNS {X : Cx} {W : WX} {z : Str} {e : Expr} {te : TE} {p p2 cp pos : Pos} {j : Nat} (T : Tx X.w X.K X.mg) (hc : X.calm = true) (hr : Room 2 X.A) (tk : Takes X W) (hg : Gl X "NoSuch") (he : PE X e te)
    (s1 : starEach [.Constant (.str z) j p2, e] X.env = (false, eval (.Constant (.str z) j p2) X.env) :: starEach [e] X.env := by rfl) (s2 : starEach [e] X.env = [(false, eval e X.env)] := by rfl)
    (pl : (backTo cp (starEach [e] X.env)).any (·.1) = false := by rfl) :
    PS X (.Raise (some (.Call (.Name "NoSuch" p) [.Constant (.str z) j p2, e] [] cp)) none pos) (fun _ σ H => te σ H fun _ H1 => ∀ (d : Addr) (H2 : Hp), Same H1 H2 → W (.ref (He.ga X.K "NoSuch")) (some d) σ H2) :=
  ⟨fun pins s σ H D I h => (ps_raise hc tk (pmk_ns (p := p) T hr hg (pa_cons (pe_str (x := z)) (pa_cons he pa_nil s2) s1) s1 pl)).run pins s σ H D I h⟩
end Wk
end

section
set_option Elab.async false
set_option linter.all false
set_option maxRecDepth 100000
/-! is_whole, is_name, is_day, is_meter -/
namespace Wk
open PySem L2 RZ
/-- a name -/
structure Nm (x : Str) : Prop where
  pos : 1 ≤ x.length
  le : x.length ≤ 8
  low : ∀ c ∈ x.cps.toList, 97 ≤ c ∧ c ≤ 122
  nob : x ∉ barW
def sp_is_whole : Sp := fun vs H Q _ => ∃ i lo hi : Int, vs = [.int i, .int lo, .int hi] ∧ lo ≤ i ∧ i ≤ hi ∧ Q (.bl true) H
def sp_is_name : Sp := fun vs H Q _ => ∃ x : Str, vs = [.str x] ∧ Nm x ∧ ∀ H', Same H H' → Q (.bl true) H'
def sp_is_day : Sp := fun vs H Q _ => ∃ i : Int, vs = [.int i] ∧ 0 ≤ i ∧ i ≤ 9999 ∧ Q (.bl true) H
def sp_is_meter : Sp := fun vs H Q _ => ∃ (a : Addr) (x y : Int), vs = [.ref a] ∧ H a = some (.tup [.int x, .int y]) ∧ 0 ≤ x ∧ x ≤ 1000000 ∧ 0 ≤ y ∧ y ≤ 1000000 ∧ ∀ H', Same H H' → Q (.bl true) H'
section
variable {P : Program} {w : World} {K : PySem.W.Frag} {mg : Str → Option Value} {base : Heap}
theorem fn_is_whole {fd : FuncData} (T : Tx w K mg) (F : FunD K d_is_whole.name d_is_whole.qual d_is_whole.params d_is_whole.body d_is_whole.scope (d_is_whole.dvs K) (d_is_whole.kws K) (He.fAd K d_is_whole.at_) fd) :
    FnOk P w K mg base CX0 1 (He.ga K "is_whole") fd ["thing", "least", "most"] sp_is_whole := by
  refine F.ok sc_is_whole (fun vs H Q E h => ?_) (fun cdv A outer s H vs Q E hr h => ?_)
  · obtain ⟨i, lo, hi, rfl, _⟩ := h
    rfl
  · obtain ⟨i, lo, hi, rfl, h1, h2, k⟩ := h
    refine ⟨_, PSs.nox (pss_one (ps_ret (pe_and (pe_callB call_isInt (by rfl) T.f_isinstance (by decide +kernel) (pa_cons (pv 0) (pa_cons (pe_ty_int T.f_int) pa_nil))) (pe_and (pe_not (pe_callB call_isIntB (by rfl) T.f_isinstance (by decide +kernel) (pa_cons (pv 0) (pa_cons (pe_ty_bool T.f_bool) pa_nil)))) (pe_one (pe_chain op_le op_le (pv 1) (pv 0) (pv 2))))))), ?_⟩
    refine ⟨_, rfl, _, rfl, ⟨_, rfl⟩, _, rfl, iteT ?_⟩
    refine ⟨_, rfl, _, rfl, ⟨_, rfl⟩, _, rfl, _, rfl, iteT ?_⟩
    refine ⟨_, rfl, _, rfl, _, _, rfl, rfl, _, rfl, ifd h1 ?_⟩
    refine ⟨_, rfl, _, _, rfl, rfl, ?_⟩
    exact q_b (Q := Q) (decide_eq_true h2) k
/-- is_whole(x, least): most is 1000000 -/
theorem c_is_whole2 (T : Tx w K mg) : C8.Cal P w K mg base 1 "is_whole" sp_is_whole [.int 1000000] := by
  obtain ⟨fd, F⟩ := T.F_is_whole
  obtain ⟨ds, hd, b⟩ := F.binds1 (ps := ["thing", "least", "most"]) 2 0 (by simp [d_is_whole, He.DefD.dvs]) rfl (fun T kV doc pm an cdv ct us its h1 h2 => by
    match us, its, h1, h2 with
    | [_, _], [_], _, _ => exact ⟨_, rfl, rfl⟩)
  exact ⟨_, fd, _, ds, fn_is_whole T F, T.g_is_whole, F.kp, b, hd⟩
theorem cn_is_whole (T : Tx w K mg) : CalN P w K mg base 1 "is_whole" sp_is_whole 2 ["most"] (fun vs zs => vs ++ zs) := by
  obtain ⟨fd, F⟩ := T.F_is_whole
  obtain ⟨its, b⟩ := F.kbindsD (ps := ["thing", "least", "most"]) 2 ["most"] (fun us _ ws => us ++ ws) (by simp [d_is_whole, He.DefD.dvs]) (fun r1 _ r3 => r1.append r3) (fun T kV doc pm an cdv ct us its ws h1 h2 h3 => by
    match us, its, ws, h1, h2, h3 with
    | [_, _], [_], [_], _, _, _ => exact ⟨_, rfl, rfl⟩)
  exact ⟨_, fd, _, _, fn_is_whole T F, T.g_is_whole, F.kp, b⟩
theorem c_is_name (T : Tx w K mg) : C8.Cal P w K mg base 1 "is_name" sp_is_name [] := by
  obtain ⟨fd, F⟩ := T.F_is_name
  refine ⟨_, fd, ["thing"], [], F.ok sc_is_name (fun vs H Q E h => ?_) (fun cdv A outer s H vs Q E hr h => ?_), T.g_is_name, F.kp, F.bindsN fun _ _ _ _ _ _ us hl => match us, hl with | [_], _ => rfl, .nil⟩
  · obtain ⟨x, rfl, _⟩ := h
    rfl
  · obtain ⟨x, rfl, hx, k⟩ := h
    have hz : x.length ≤ sizeLine := Nat.le_trans hx.le (by decide)
    refine ⟨_, PSs.nox (pss_cons (ps_if (PW.pt (pw_or (pt_not (pt_val (pe_callB call_isStr (by rfl) T.f_isinstance (by decide +kernel) (pa_cons (pv 0) (pa_cons (pe_ty_str T.f_str) pa_nil))))) (pw_or (pt_not (pt_chain op_le op_le pe_int (pe_callB call_len_str (by rfl) T.f_len (by decide +kernel) (pa_cons (pv 0) pa_nil)) (C8.pe_gc rfl T.i_MOST_LETTERS))) (pw_or1 (pt_cmpR op_in_seq (pv 0) (pe_gr rfl T.g_BARRED_WORDS) (by with_unfolding_all rfl)))))) (pss_one (ps_ret pe_bl)) pss_nil)
      (pss_one (ps_ret (pe_callB (cr_all rfl) (by rfl) T.f_all (by decide +kernel) (pa_cons (pe_lc (own := [("sign", 1)]) (g := gName 1) rfl sc_is_name.nd (pi_str (pv 0)) (blkOk_by (own := [("sign", 1)]) (N := N_is_name) (sc := defScope s_is_name) (by decide +kernel)) (fun _ _ _ _ _ => (pg_name (i := 1) sc_is_name.nd rfl (Or.inl rfl))) (fun _ _ _ _ _ => pts_nil) (fun _ _ _ _ _ => (pe_cmpR op_in_sign (pv 1) (C8.pe_gc rfl T.z_LETTERS) (by with_unfolding_all rfl)))) pa_nil))))), ?_⟩
    refine ⟨_, rfl, _, rfl, ⟨_, rfl⟩, _, rfl, iteF ?_⟩
    refine ⟨_, rfl, _, rfl, hz, _, _, rfl, rfl, _, rfl, ifd (by have := hx.pos; omega) ?_⟩
    refine ⟨_, _, rfl, rfl, _, rfl, iteNS (by have := hx.le; omega) ?_⟩
    refine ⟨_, rfl, _, _, rfl, .inr (T.bar H), rfl, flat_strs _, _, rfl, ?_⟩
    refine ifc ?_ ?_
    · show (if false = true then _ else inV (V.str x) (barW.map V.str)) = false
      rw [if_neg Bool.false_ne_true, inV_strs]
      exact decide_eq_false hx.nob
    refine ⟨_, rfl, _, rfl, fun D hD => ?_⟩
    refine lc_all walk_str (Nat.le_trans hx.le (by decide)) hD (fun _ _ => trivial) (fun i v Ha Hb hi e y Qt ht => ?_) fun H' e => k H' e
    obtain ⟨rfl, c, hc, rfl⟩ := y
    refine ⟨rfl, _, rfl, c, _, rfl, rfl, ?_⟩
    refine q_b (Q := Qt) ?_ (ht _ (Same.refl _))
    have hm : c ∈ x.cps.toList := Array.mem_toList_iff.mpr (Array.mem_of_getElem? hc)
    obtain ⟨h1, h2⟩ := hx.low c hm
    have all26 : ∀ c : Nat, 97 ≤ c → c ≤ 122 → c ∈ ("abcdefghijklmnopqrstuvwxyz" : Str).cps.toList := by
      intro c h1 h2
      have e : ("abcdefghijklmnopqrstuvwxyz" : Str).cps.toList = (List.range 26).map (· + 97) := by decide +kernel
      rw [e]
      exact List.mem_map.mpr ⟨c - 97, List.mem_range.mpr (by omega), by omega⟩
    exact decide_eq_true (all26 c h1 h2)
theorem c_is_day (T : Tx w K mg) : C8.Cal P w K mg base 2 "is_day" sp_is_day [] := by
  obtain ⟨fd, F⟩ := T.F_is_day
  refine ⟨_, fd, ["thing"], [], F.ok sc_is_day (fun vs H Q E h => ?_) (fun cdv A outer s H vs Q E hr h => ?_), T.g_is_day, F.kp, F.bindsN fun _ _ _ _ _ _ us hl => match us, hl with | [_], _ => rfl, .nil⟩
  · obtain ⟨x, rfl, _⟩ := h
    rfl
  · obtain ⟨i, rfl, h1, h2, k⟩ := h
    refine ⟨_, PSs.nox (pss_one (ps_ret (pe_cn (cn_is_whole T) hr (by decide) rfl (pa_cons (pv 0) (pa_cons pe_int pa_nil)) (pk_cons (C8.pe_gc rfl T.i_LAST_DAY) pk_nil)))), ?_⟩
    exact ⟨_, rfl, rfl, rfl, i, 0, 9999, rfl, h1, h2, k⟩
theorem c_is_meter (T : Tx w K mg) : C8.Cal P w K mg base 2 "is_meter" sp_is_meter [] := by
  obtain ⟨fd, F⟩ := T.F_is_meter
  refine ⟨_, fd, ["thing"], [], F.ok sc_is_meter (fun vs H Q E h => ?_) (fun cdv A outer s H vs Q E hr h => ?_), T.g_is_meter, F.kp, F.bindsN fun _ _ _ _ _ _ us hl => match us, hl with | [_], _ => rfl, .nil⟩
  · obtain ⟨a, x, y, rfl, _⟩ := h
    rfl
  · obtain ⟨a, x, y, rfl, ha, h1, h2, h3, h4, k⟩ := h
    refine ⟨_, PSs.nox (pss_one (ps_ret (pe_and (pe_callB call_isTup (by rfl) T.f_isinstance (by decide +kernel) (pa_cons (pv 0) (pa_cons (pe_ty_tuple T.f_tuple) pa_nil))) (pe_and (pe_cmpR op_eq (pe_callB call_len_seq (by rfl) T.f_len (by decide +kernel) (pa_cons (pv 0) pa_nil)) pe_int (nomark _)) (pe_one (pe_callB (cr_all rfl) (by rfl) T.f_all (by decide +kernel) (pa_cons (pe_lc (own := [("one", 1)]) (g := gName 1) rfl sc_is_meter.nd (pi_tup (pv 0)) (blkOk_by (own := [("one", 1)]) (N := N_is_meter) (sc := defScope s_is_meter) (by decide +kernel)) (fun _ _ _ _ _ => (pg_name (i := 1) sc_is_meter.nd rfl (Or.inl rfl))) (fun _ _ _ _ _ => pts_nil) (fun _ _ _ _ _ => (C8.pe_c (c_is_whole2 T) hr (by decide) rfl (pa_cons (pv 1) (pa_cons pe_int pa_nil))))) pa_nil))))))), ?_⟩
    refine ⟨_, rfl, _, rfl, ⟨_, _, rfl, ha⟩, _, rfl, iteT ?_⟩
    refine ⟨_, rfl, a, _, rfl, .inr (SqT.of ha), rfl, _, rfl, iteT ?_⟩
    refine ⟨_, rfl, a, rfl, ⟨_, SqT.of ha⟩, fun D hD => ?_⟩
    refine lc_all (walk_tup (K := K) (a := a) (xs := [V.int x, V.int y])) (by simp) hD (fun _ e => SqT.of (e _ _ ha)) (fun i v Ha Hb hi e y Qt ht => ?_) fun H' e => k H' e
    obtain ⟨rfl, hc⟩ := y
    match i, hi, hc with
    | 0, _, hc => cases hc; exact ⟨rfl, _, rfl, _, _, _, rfl, h1, h2, ht _ (Same.refl _)⟩
    | 1, _, hc => cases hc; exact ⟨rfl, _, rfl, _, _, _, rfl, h3, h4, ht _ (Same.refl _)⟩
end
end Wk
end

section
set_option Elab.async false
set_option linter.all false
set_option maxRecDepth 100000
/-! Rules that the layer lacks (proved in texts of their own; stated here). -/
namespace Wk
open PySem PySem.Spec PyProof.Rows L2 RZ
/-! ### enumerate(a tuple) -/
theorem walk_enumT {K : PySem.W.Frag} {a : Addr} {xs : List V} : Walk (IteT K a) xs.length (fun H => SqT K H a xs) (YPair (fun i => some (.int (i : Nat))) (fun i => xs[i]?)) :=
  ⟨fun _ _ lt q => ⟨xs, _, q, List.getElem?_eq_getElem lt⟩, fun _ q => ⟨xs, q, Nat.le_refl _⟩, fun _ _ _ _ _ q ⟨T, x, e1, e2, e3, e4⟩ => ⟨T, _, x, e1, e2, e3, rfl, e4 xs q⟩⟩
/-! ### t < u of tuples of texts -/
theorem op_ltTSK {X : Cx} {K : PySem.W.Frag} (hu : X.A.units + 64 < cLine) (h : X.K = K := by rfl) : OpR X (compareOp .Lt) (rLtTS K) := by subst h; exact op_ltTS hu
/-! ### x in a tuple of data -/
def rInDT (K : PySem.W.Frag) : R2 := fun x y H Q => ∃ d ds, Dp K H x d ∧ Dp K H y (.tuple ds) ∧ SeqAt.shaped d = true ∧ SeqAt.shaped (.tuple ds) = true ∧ Q (.bl (ds.any fun z => PyData.eqv z d)) H
theorem op_inDT {X : Cx} (hu : X.A.units + 65 < cLine) : OpR X (compareOp .In) (rInDT X.K) := by
  intro pins s σ H x y v u Q I rx ry h
  obtain ⟨d, ds, hd, he, sd, se, q⟩ := h
  obtain ⟨as, r1⟩ := Dp.reads I d x v hd rx
  obtain ⟨bs, r2⟩ := Dp.reads I (.tuple ds) y u he ry
  have sl : SeqAt.shaped (.list ds) = true := by
    unfold SeqAt.shaped at se ⊢
    rw [Bool.and_eq_true] at se ⊢
    refine ⟨by simpa [PyData.canLay0] using se.1, ?_⟩
    have := of_decide_eq_true se.2
    simp only [PyData.depth] at this
    exact decide_eq_true (by simp only [PyData.depth]; omega)
  exact SeqAt.in_tuple_reads r2 r1 (SeqAt.canLay_of_shaped (d := .list ds) sl) (SeqAt.canLay_of_shaped sd) (room_in_shaped sd hu) ⟨.bl _, H, I, rfl, q⟩
/-! ### methods that may raise -/
structure MetX (P : Program) (w : World) (K : PySem.W.Frag) (mg : Str → Option Value) (base : Heap) (k : Nat) (C : Addr) (m : Str) (sp : Sp) : Prop where
  ex : ∃ (f : Addr) (fd : FuncData) (ps : List Str), Cls K C ∧ Meth K C m f ∧ FnOk P w K mg base (L2.CX P w) k f fd ps sp ∧ Binds K fd ps []
def tMethE (C : Addr) (m : Str) (sp : Sp) (E : L2.St → XK) (ta : TE) (t : TA) : TE := fun σ H Q => ta σ H fun x H1 => ∃ a dx fs, x = .ref a ∧ H1 a = some (.ins C dx fs) ∧ fs.lookup m = none ∧ t σ H1 fun vs H2 => sp (x :: vs) H2 Q (E σ)
section
variable {X : Cx} {k j : Nat} {C : Addr} {m : Str} {sp : Sp} {pos apos : Pos} {e o : Expr} {es : List Expr} {ta : TE} {t : TA}
theorem pe_mtx {pl : Sem Bool} (c : MetX X.prog X.w X.K X.mg X.base k C m sp) (hr : Room j X.A) (hk : k ≤ j) (he : PE X o ta) (ha : PA X (e :: es) t)
    (hst : starEach (e :: es) X.env = (false, eval e X.env) :: starEach es X.env := by rfl) (hpl : (backTo pos (starEach es X.env)).any (·.1) = false := by rfl)
    (ht : eval (.Call (.Attribute o m apos) (e :: es) [] pos) X.env = (do
      let ov ← eval o X.env
      standAt apos.atName
      let (f, first) ← holding [ov] (getMethod ov m pl)
      callWith pos f first (backTo pos (starEach (e :: es) X.env)) (backToKw pos (keywordEach [] X.env))) := by rfl) :
    PE X (.Call (.Attribute o m apos) (e :: es) [] pos) (tMeth C m sp [] E0 ta t) := by
  obtain ⟨f, fd, ps, hc, hm, F, b⟩ := c.ex
  exact pe_meth (pl := pl) he hc hm F (hr.mono hk) b .nil passL ha hst hpl ht
theorem pe_mtE {E : L2.St → XK} {pl : Sem Bool} (c : MetX X.prog X.w X.K X.mg X.base k C m sp) (hx : ∀ σ, PassesAt (L2.CX X.prog X.w) X σ (E σ)) (hr : Room j X.A) (hk : k ≤ j) (he : PE X o ta) (ha : PA X (e :: es) t)
    (hst : starEach (e :: es) X.env = (false, eval e X.env) :: starEach es X.env := by rfl) (hpl : (backTo pos (starEach es X.env)).any (·.1) = false := by rfl)
    (ht : eval (.Call (.Attribute o m apos) (e :: es) [] pos) X.env = (do
      let ov ← eval o X.env
      standAt apos.atName
      let (f, first) ← holding [ov] (getMethod ov m pl)
      callWith pos f first (backTo pos (starEach (e :: es) X.env)) (backToKw pos (keywordEach [] X.env))) := by rfl) :
    PE X (.Call (.Attribute o m apos) (e :: es) [] pos) (tMethE C m sp E ta t) := by
  obtain ⟨f, fd, ps, hc, hm, F, b⟩ := c.ex
  refine ⟨fun pins s σ H Q I h => ?_⟩
  refine PySem.W.methodCall_KW (pl := pl) (thn (he.run pins s σ H _ I h) fun u s1 ⟨x, H1, I1, rx, a, dx, fs, ex, ea, l, q⟩ => ?_) ht
  subst ex
  obtain rfl : u = Value.ref a := rx
  refine getmeth_ok I1 ea hc hm l ?_
  refine PySem.W.callWith_K (first := [.ref a]) (h₀ := X.base) I.ok.mod.kin hm.kp (thn (ha.run pos pins s1 σ H1 _ I1 q) fun us s2 ⟨vs, H2, I2, r, q2⟩ => ⟨I2.kIn, ?_⟩) hst hpl
  exact run_fnS (us := .ref a :: us) (vs := .ref a :: vs) F (hr.mono hk) b (hx σ) I2 (.cons rfl r) q2
end
/-! ### a local name that holds a def -/
def tCallH (P : Program) (w : World) (K : PySem.W.Frag) (mg : Str → Option Value) (base : Heap) (k i : Nat) (t : TA) : TE := fun σ H Q => ∃ f sp, σ[i]? = some (some (.ref f)) ∧ Held P w K mg base k f sp ∧ t σ H fun vs H1 => sp vs H1 Q (fun _ _ _ => False)
theorem pe_callH {X : Cx} {k j i : Nat} {x : Str} {p pos : Pos} {e : Expr} {es : List Expr} {t : TA} (hr : Room j X.A) (hk : k ≤ j) (hN : X.N[i]? = some x) (ha : PA X (e :: es) t) (hv : Vis X.env.scope x := by exact Or.inl rfl)
    (hdb : (x == ("__debug__" : Str)) = false := by decide) (hcd : (x == ("__classdict__" : Str)) = false := by decide)
    (he : starEach (e :: es) X.env = (false, eval e X.env) :: starEach es X.env := by rfl) (hpl : (backTo pos (starEach es X.env)).any (·.1) = false := by rfl) : PE X (.Call (.Name x p) (e :: es) [] pos) (tCallH X.prog X.w X.K X.mg X.base k i t) := by
  exact ⟨fun pins s σ H Q I ⟨f, sp, hs, hS, ht⟩ => (pe_callA (i := i) (S := fun a => if a = f then some sp else none) (fun a sp' e => by
    split at e
    · rename_i ea
      cases e
      rw [ea]
      exact hS
    · cases e) (hr.mono hk) hN hv ha hdb hcd he hpl).run pins s σ H Q I ⟨f, sp, hs, if_pos rfl, ht⟩⟩
/-! ### pages -/
inductive PK where
  | sold (n : Str)
  | claimed (p : Str) (c : Int)
  | mended (p : Str)
  | misused (m : Str)
  deriving DecidableEq
structure PageD where
  day : Int
  m1 : Int
  m2 : Int
  k : PK
  deriving DecidableEq
def PK.word : PK → Str
  | .sold _ => "sold"
  | .claimed _ _ => "claimed"
  | .mended _ => "mended"
  | .misused _ => "misused"
def PK.rest : PK → List V
  | .sold n => [.str n]
  | .claimed p c => [.str p, .int c]
  | .mended p => [.str p]
  | .misused m => [.str m]
structure AllAt {α : Type} (F : V → α → Prop) (vs : List V) (rs : List α) : Prop where
  len : vs.length = rs.length
  at_ : ∀ (i : Nat) (v : V) (r : α), vs[i]? = some v → rs[i]? = some r → F v r
def PageAt (H : Hp) (v : V) (g : PageD) : Prop := ∃ a ma, v = .ref a ∧ H a = some (.tup (.str g.k.word :: .int g.day :: .ref ma :: g.k.rest)) ∧ H ma = some (.tup [.int g.m1, .int g.m2])
end Wk
end

section
set_option Elab.async false
set_option linter.all false
set_option maxRecDepth 100000
/-! need_gone, Promise, need_promise -/
namespace Wk
open PySem L2 RZ
/-! ### data -/
abbrev B3 := Option Int × Option Int × Option Int
abbrev T3 := Int × Int × Int
def ov : Option Int → V
  | none => .non
  | some i => .int i
def B3At (H : Hp) (v : V) (b : B3) : Prop := ∃ a, v = .ref a ∧ H a = some (.tup [ov b.1, ov b.2.1, ov b.2.2])
def T3At (H : Hp) (v : V) (t : T3) : Prop := ∃ a, v = .ref a ∧ H a = some (.tup [.int t.1, .int t.2.1, .int t.2.2])
def optLe (o : Option Int) (m : Int) : Prop := ∀ i, o = some i → 0 ≤ i ∧ i ≤ m
structure B3ok (b : B3) : Prop where
  d : optLe b.1 9999
  m : optLe b.2.1 1000000
  t : optLe b.2.2 1000000
structure T3ok (t : T3) : Prop where
  d : 0 ≤ t.1 ∧ t.1 ≤ 10000000
  m : 0 ≤ t.2.1 ∧ t.2.1 ≤ 10000000
  t : 0 ≤ t.2.2 ∧ t.2.2 ≤ 10000000
def okB : Option Int → Int → Bool
  | none, _ => true
  | some l, n => !decide (l < n)
/-- a promise of these bounds holds when so much has gone -/
def holds3 (b : B3) (g : T3) : Bool := okB b.1 g.1 && (okB b.2.1 g.2.1 && okB b.2.2 g.2.2)
structure PromAt (K : PySem.W.Frag) (H : Hp) (a : Addr) (b : B3) : Prop where
  ex : ∃ dx t, H a = some (.ins (He.ga K "Promise") dx [("limits", .ref t)]) ∧ H t = some (.tup [ov b.1, ov b.2.1, ov b.2.2])
theorem B3At.mono {H H' : Hp} {v : V} {b : B3} (e : ISame H H') : B3At H v b → B3At H' v b := fun ⟨a, h1, h2⟩ => ⟨a, h1, e.tup _ _ h2⟩
theorem T3At.mono {H H' : Hp} {v : V} {b : T3} (e : ISame H H') : T3At H v b → T3At H' v b := fun ⟨a, h1, h2⟩ => ⟨a, h1, e.tup _ _ h2⟩
theorem PromAt.mono {K : PySem.W.Frag} {H H' : Hp} {a : Addr} {b : B3} (e : ISame H H') : PromAt K H a b → PromAt K H' a b := fun ⟨dx, t, h1, h2⟩ => ⟨dx, t, e.ins _ _ _ _ h1, e.tup _ _ h2⟩
/-! ### promises -/
def sp_need_gone : Sp := fun vs H Q _ => ∃ v t, vs = [v] ∧ T3At H v t ∧ T3ok t ∧ ∀ H', Same H H' → Q .non H'
def sp_Promise_init (K : PySem.W.Frag) : Sp := fun vs H Q _ => ∃ (x dx : Addr) (b : B3), vs = [.ref x, ov b.1, ov b.2.1, ov b.2.2] ∧ H x = some (.ins (He.ga K "Promise") dx []) ∧ B3ok b ∧
  ∀ (H' : Hp) (t : Addr), (∀ a o, H a = some o → a ≠ x → H' a = some o) → H t = none → H' t = some (.tup [ov b.1, ov b.2.1, ov b.2.2]) → H' x = some (.ins (He.ga K "Promise") dx [("limits", .ref t)]) → Q .non H'
def sp_Promise_bounds (K : PySem.W.Frag) : Sp := fun vs H Q _ => ∃ (x : Addr) (b : B3), vs = [.ref x] ∧ PromAt K H x b ∧ ∀ v, B3At H v b → Q v H
def sp_Promise_beyond (K : PySem.W.Frag) : Sp := fun vs H Q _ => ∃ (x : Addr) (b : B3) (v : V) (t : T3), vs = [.ref x, v] ∧ PromAt K H x b ∧ T3At H v t ∧
  ∀ (H' : Hp) (p : Addr) (ys : List Str), Same H H' → H p = none → H' p = some (.lst (ys.map V.str)) → (∀ y ∈ ys, PyData.strOk y = true) → ys.isEmpty = holds3 b t → Q (.ref p) H'
def sp_Promise_passed (K : PySem.W.Frag) : Sp := fun vs H Q _ => ∃ (x : Addr) (b : B3) (t : T3), vs = [.ref x, .int t.1, .int t.2.1, .int t.2.2] ∧ PromAt K H x b ∧ T3ok t ∧
  ∀ (H' : Hp) (p : Addr) (ys : List Str), Same H H' → H p = none → H' p = some (.lst (ys.map V.str)) → (∀ y ∈ ys, PyData.strOk y = true) → ys.isEmpty = holds3 b t → Q (.ref p) H'
def sp_Promise_holds (K : PySem.W.Frag) : Sp := fun vs H Q _ => ∃ (x : Addr) (b : B3) (t : T3), vs = [.ref x, .int t.1, .int t.2.1, .int t.2.2] ∧ PromAt K H x b ∧ T3ok t ∧ ∀ H', Same H H' → Q (.bl (holds3 b t)) H'
def sp_need_promise (K : PySem.W.Frag) : Sp := fun vs H Q _ => ∃ (x : Addr) (b : B3), vs = [.ref x] ∧ PromAt K H x b ∧ Q .non H
section
variable {P : Program} {w : World} {K : PySem.W.Frag} {mg : Str → Option Value} {base : Heap}
theorem c_need_gone (T : Tx w K mg) : C8.Cal P w K mg base 2 "need_gone" sp_need_gone [] := by
  obtain ⟨fd, F⟩ := T.F_need_gone
  refine ⟨_, fd, ["given"], [], F.ok sc_need_gone (fun vs H Q E h => ?_) (fun cdv A outer s H vs Q E hr h => ?_), T.g_need_gone, F.kp, F.bindsN fun _ _ _ _ _ _ us hl => match us, hl with | [_], _ => rfl, .nil⟩
  · obtain ⟨x, t, rfl, _⟩ := h
    rfl
  · obtain ⟨v, t, rfl, ⟨a, rfl, ha⟩, ht, k⟩ := h
    refine ⟨_, PSs.nox (pss_one (ps_for PassesOwn.never rfl (pi_zipA (by rfl) T.f_zip (pa_cons (pe_gr rfl T.g_BOUNDS) (pa_cons (pv 0) pa_nil))) (pg_tup rfl (pgs_cons (pg_name (i := 1) sc_need_gone.nd rfl (Or.inl rfl)) (pgs_cons (pg_name (i := 2) sc_need_gone.nd rfl (Or.inl rfl)) pgs_nil))) (pss_one (ps_if (pt_not (pt_val (pe_cn (cn_is_whole T) hr (by decide) rfl (pa_cons (pv 2) (pa_cons pe_int pa_nil)) (pk_cons (C8.pe_gc rfl T.i_MOST_GONE) pk_nil)))) (pss_one ps_never) pss_nil)))), ?_⟩
    refine ⟨_, rfl, _, a, _, [.int t.1, .int t.2.1, .int t.2.2], rfl, .inr ⟨T.bnd H, SqT.of ha, ?_⟩⟩
    refine for_it (walk_zipT (K := K) (xs := [.str "days", .str "miles", .str "turns"]) (ys := [.int t.1, .int t.2.1, .int t.2.2]) rfl) (fun i σ H' => ∃ x y, σ = [some (.ref a), x, y] ∧ Same H H') ⟨_, _, rfl, Same.refl _⟩
      (fun i σ H' _ ⟨_, _, _, e⟩ => ⟨T.bnd H', SqT.of (e _ _ ha)⟩) ?_ ?_
    · rintro i x σ Ha Hb hi ⟨x0, y0, rfl, e⟩ ⟨p, nm, y, rfl, hp, rfl, hx, hy⟩
      refine ⟨p, _, rfl, SqT.of upd_same, rfl, _, _, rfl, _, _, rfl, rfl, ?_⟩
      have num : ∃ n : Int, y = .int n ∧ 0 ≤ n ∧ n ≤ 10000000 := by
        match i, hi, hy with
        | 0, _, hy => exact ⟨t.1, (Option.some.inj hy).symm, ht.d⟩
        | 1, _, hy => exact ⟨t.2.1, (Option.some.inj hy).symm, ht.m⟩
        | 2, _, hy => exact ⟨t.2.2, (Option.some.inj hy).symm, ht.t⟩
      obtain ⟨n, rfl, n1, n2⟩ := num
      refine ⟨_, rfl, rfl, rfl, n, 0, 10000000, rfl, n1, n2, _, rfl, iteF ?_⟩
      exact ⟨_, _, rfl, e.trans (Same.new hp)⟩
    · rintro σ H' ⟨_, _, rfl, e⟩
      exact k H' e
theorem kd_most (T : Tx w K mg) {q : Str × He.Dv} (hq : q ∈ mostKV) : KDct K w (He.ga K "MOST_OF") q.1 (q.2.v K) := by
  obtain ⟨es, n, D⟩ := T.dMost
  obtain ⟨u, e, r⟩ := T.most hq
  exact ⟨es, n, u, D.at_, D.lit, e, r⟩
theorem fn_Promise_init (T : Tx w K mg) {fd : FuncData} (F : FunD K d_Promise_init.name d_Promise_init.qual d_Promise_init.params d_Promise_init.body d_Promise_init.scope (d_Promise_init.dvs K) (d_Promise_init.kws K) (He.fAd K d_Promise_init.at_) fd) :
    FnOk P w K mg base CX0 2 (He.fAd K d_Promise_init.at_) fd ["self", "days", "miles", "turns"] (sp_Promise_init K) := by
  refine F.ok sc_Promise_init (fun vs H Q E h => ?_) (fun cdv A outer s H vs Q E hr h => ?_)
  · obtain ⟨x, dx, b, rfl, _⟩ := h
    rfl
  · obtain ⟨x, dx, b, rfl, hx, hb, k⟩ := h
    refine ⟨_, PSs.nox (pss_cons (ps_for PassesOwn.never rfl (pi_zipA (by rfl) T.f_zip (pa_cons (pe_gr rfl T.g_BOUNDS) (pa_cons (pe_tup (pa_cons (pv 1) (pa_cons (pv 2) (pa_cons (pv 3) pa_nil)))) pa_nil))) (pg_tup rfl (pgs_cons (pg_name (i := 4) sc_Promise_init.nd rfl (Or.inl rfl)) (pgs_cons (pg_name (i := 5) sc_Promise_init.nd rfl (Or.inl rfl)) pgs_nil))) (pss_one (ps_if (PW.pt (pw_and (pt_cmpR op_notN (pv 5) pe_non (nomark _)) (pw_and1 (pt_not (pt_val (pe_cn (cn_is_whole T) hr (by decide) rfl (pa_cons (pv 5) (pa_cons pe_int pa_nil)) (pk_cons (pe_ix ix_kdict (pe_gr rfl T.g_MOST_OF) (pv 4) (fun _ _ => rfl)) pk_nil))))))) (pss_one ps_never) pss_nil)))
      (pss_one (ps_fld (pv 0) (pe_tup (pa_cons (pv 1) (pa_cons (pv 2) (pa_cons (pv 3) pa_nil)))) rfl))), ?_⟩
    refine ⟨_, rfl, _, rfl, _, rfl, sz3, fun g hg => ?_⟩
    refine ⟨_, g, _, [ov b.1, ov b.2.1, ov b.2.2], rfl, .inr ⟨T.bnd _, SqT.of upd_same, ?_⟩⟩
    refine for_it (walk_zipT (K := K) (xs := [.str "days", .str "miles", .str "turns"]) (ys := [ov b.1, ov b.2.1, ov b.2.2]) rfl)
      (fun i σ H' => ∃ y z, σ = [some (.ref x), some (ov b.1), some (ov b.2.1), some (ov b.2.2), y, z] ∧ Same (upd H g (.tup [ov b.1, ov b.2.1, ov b.2.2])) H') ⟨_, _, rfl, Same.refl _⟩
      (fun i σ H' _ ⟨_, _, _, e⟩ => ⟨T.bnd H', SqT.of (e _ _ upd_same)⟩) ?_ ?_
    · rintro i v σ Ha Hb hi ⟨x0, y0, rfl, e⟩ ⟨p, nm, y, rfl, hp, rfl, hxx, hy⟩
      refine ⟨p, _, rfl, SqT.of upd_same, rfl, _, _, rfl, _, _, rfl, rfl, ?_⟩
      have num : ∃ (o : Option Int) (m : Int) (z : Str), y = ov o ∧ nm = .str z ∧ optLe o m ∧ KDct K w (He.ga K "MOST_OF") z (.int m) := by
        match i, hi, hy, hxx with
        | 0, _, hy, hxx => exact ⟨b.1, 9999, "days", (Option.some.inj hy).symm, (Option.some.inj hxx).symm, hb.d, kd_most T (q := ("days", .int 9999)) (by simp [mostKV])⟩
        | 1, _, hy, hxx => exact ⟨b.2.1, 1000000, "miles", (Option.some.inj hy).symm, (Option.some.inj hxx).symm, hb.m, kd_most T (q := ("miles", .int 1000000)) (by simp [mostKV])⟩
        | 2, _, hy, hxx => exact ⟨b.2.2, 1000000, "turns", (Option.some.inj hy).symm, (Option.some.inj hxx).symm, hb.t, kd_most T (q := ("turns", .int 1000000)) (by simp [mostKV])⟩
      obtain ⟨o, m, z, rfl, rfl, ho, hk⟩ := num
      have nxt := e.trans (Same.new (o := .tup [.str z, ov o]) hp)
      cases o with
      | none =>
        refine ⟨_, rfl, rfl, _, rfl, iteF (iteF ?_)⟩
        exact ⟨_, _, rfl, nxt⟩
      | some n =>
        obtain ⟨n1, n2⟩ := ho n rfl
        refine ⟨_, rfl, rfl, _, rfl, iteT ?_⟩
        refine ⟨_, rfl, _, rfl, _, z, _, rfl, rfl, hk, rfl, rfl, n, 0, m, rfl, n1, n2, _, rfl, iteF ?_⟩
        exact ⟨_, _, rfl, nxt⟩
    · rintro σ H' ⟨y, z, rfl, e⟩
      have hx' : H' x = some (.ins (He.ga K "Promise") dx []) := e _ _ (by rw [upd_ne (ne_of_none hx hg)]; exact hx)
      refine ⟨_, rfl, _, rfl, _, rfl, sz3, fun p hp => ?_⟩
      have nxp := ne_of_none hx' hp
      refine ⟨_, rfl, x, _, dx, [], rfl, (by rw [upd_ne nxp]; exact hx'), T.c_Promise, T.n_Promise_limits, (by decide), ?_⟩
      refine k _ p (fun a o ha hne => ?_) ?_ ?_ upd_same
      · have ha' := e a o (by rw [upd_ne (ne_of_none ha hg)]; exact ha)
        rw [upd_ne hne, upd_ne (ne_of_none ha' hp)]
        exact ha'
      · have h1 := e.free hp
        by_cases q : p = g
        · rw [q, upd_same] at h1
          cases h1
        · rw [upd_ne q] at h1
          exact h1
      · rw [upd_ne nxp.symm, upd_same]
/-- Promise(days=.., miles=.., turns=..) -/
theorem kn_Promise (T : Tx w K mg) : MakN P w K mg base 2 "Promise" (He.ga K "Promise") (sp_Promise_init K) 0 ["days", "miles", "turns"] (fun vs zs => vs ++ zs) := by
  obtain ⟨fd, F⟩ := T.F_Promise_init
  obtain ⟨its, b⟩ := F.kbindsD (ps := ["self", "days", "miles", "turns"]) 1 ["days", "miles", "turns"] (fun us _ ws => us ++ ws) (by simp [d_Promise_init, He.DefD.dvs]) (fun r1 _ r3 => r1.append r3) (fun T kV doc pm an cdv ct us its ws h1 h2 h3 => by
    match us, its, ws, h1, h2, h3 with
    | [_], [_, _, _], [_, _, _], _, _, _ => exact ⟨_, rfl, rfl⟩)
  exact ⟨_, fd, _, _, T.k_Promise, fn_Promise_init T F, T.g_Promise, b⟩
theorem m_Promise_bounds (T : Tx w K mg) : C8.Met P w K mg base 1 (He.ga K "Promise") "bounds" (sp_Promise_bounds K) [] := by
  obtain ⟨fd, F⟩ := T.F_Promise_bounds
  refine ⟨_, fd, ["self"], [], T.c_Promise, T.m_Promise_bounds, F.ok sc_Promise_bounds (fun vs H Q E h => ?_) (fun cdv A outer s H vs Q E hr h => ?_), F.bindsN fun _ _ _ _ _ _ us hl => match us, hl with | [_], _ => rfl, .nil⟩
  · obtain ⟨x, b, rfl, _⟩ := h
    rfl
  · obtain ⟨x, b, rfl, ⟨dx, t, h1, h2⟩, k⟩ := h
    refine ⟨_, PSs.nox (pss_one (ps_ret (pe_fld (pv 0) rfl))), ?_⟩
    exact ⟨_, rfl, x, _, dx, _, _, rfl, h1, T.c_Promise, T.n_Promise_limits, rfl, k _ ⟨t, rfl, h2⟩⟩
theorem okb_cases (o : Option Int) (n : Int) : (decide (ov o ≠ .non) && (match o with | some l => decide (l < n) | none => false)) = !okB o n := by
  cases o <;> simp [okB, ov]
theorem m_Promise_beyond (T : Tx w K mg) : C8.Met P w K mg base 1 (He.ga K "Promise") "beyond" (sp_Promise_beyond K) [] := by
  obtain ⟨fd, F⟩ := T.F_Promise_beyond
  refine ⟨_, fd, ["self", "given"], [], T.c_Promise, T.m_Promise_beyond, F.ok sc_Promise_beyond (fun vs H Q E h => ?_) (fun cdv A outer s H vs Q E hr h => ?_), F.bindsN fun _ _ _ _ _ _ us hl => match us, hl with | [_, _], _ => rfl, .nil⟩
  · obtain ⟨x, b, v, t, rfl, _⟩ := h
    rfl
  · obtain ⟨x, b, v, t, rfl, ⟨dx, lt, h1, h2⟩, ⟨a, rfl, ha⟩, k⟩ := h
    refine ⟨_, PSs.nox (pss_cons (ps_set (i := 2) sc_Promise_beyond.nd rfl (Or.inl rfl) (pe_listZip3 rfl rfl T.f_list rfl T.f_zip (pe_gr rfl T.g_BOUNDS) (pe_fld (pv 0) rfl) (pv 1)))
      (pss_one (ps_ret (pe_lc (own := [("name", 3), ("limit", 4), ("number", 5)]) (g := gTup K 3 (gCons (gName 3) (gCons (gName 4) (gCons (gName 5) gNil)))) rfl sc_Promise_beyond.nd (pi_list (pv 2)) (blkOk_by (own := [("name", 3), ("limit", 4), ("number", 5)]) (N := N_Promise_beyond) (sc := defScope s_Promise_beyond) (by decide +kernel)) (fun _ _ _ _ _ => (pg_tup rfl (pgs_cons (pg_name (i := 3) sc_Promise_beyond.nd rfl (Or.inl rfl)) (pgs_cons (pg_name (i := 4) sc_Promise_beyond.nd rfl (Or.inl rfl)) (pgs_cons (pg_name (i := 5) sc_Promise_beyond.nd rfl (Or.inl rfl)) pgs_nil))))) (fun _ _ _ _ _ => (pts_one (PW.pt (pw_and (pt_cmpR op_notN (pv 4) pe_non (nomark _)) (pw_and1 (pt_cmpR op_gt (pv 5) (pv 4) (nomark _))))))) (fun _ _ _ _ _ => (pv 3)))))), ?_⟩
    refine ⟨_, rfl, x, _, dx, _, _, rfl, h1, T.c_Promise, T.n_Promise_limits, rfl, _, rfl, _, lt, a, _, _, _, rfl, rfl, rfl, T.bnd H, SqT.of h2, SqT.of ha, rfl, rfl, rfl, fun H1 p ts e1 hp hl htl hts => ?_⟩
    obtain ⟨t1, t2, t3, rfl⟩ : ∃ t1 t2 t3, ts = [t1, t2, t3] := by
      match ts, htl with
      | [t1, t2, t3], _ => exact ⟨t1, t2, t3, rfl⟩
    obtain ⟨_, _, _, q1, q2, q3, e11⟩ := hts 0 t1 rfl
    cases q1
    cases q2
    cases q3
    obtain ⟨_, _, _, q1, q2, q3, e22⟩ := hts 1 t2 rfl
    cases q1
    cases q2
    cases q3
    obtain ⟨_, _, _, q1, q2, q3, e33⟩ := hts 2 t3 rfl
    cases q1
    cases q2
    cases q3
    refine ⟨_, rfl, p, rfl, ⟨_, SqL.of hl⟩, fun D hD => ?_⟩
    refine lc_p (walk_list (K := K) (a := p) (xs := [.ref t1, .ref t2, .ref t3])) (fun i acc H' => ∃ ys : List Str, acc = ys.map V.str ∧ (∀ y ∈ ys, PyData.strOk y = true) ∧
      (H' t1 = some (.tup [.str "days", ov b.1, .int t.1]) ∧ H' t2 = some (.tup [.str "miles", ov b.2.1, .int t.2.1]) ∧ H' t3 = some (.tup [.str "turns", ov b.2.2, .int t.2.2])) ∧
      ys.isEmpty = (match i with | 0 => true | 1 => okB b.1 t.1 | 2 => okB b.1 t.1 && okB b.2.1 t.2.1 | _ => holds3 b t)) (by simp) hD ?_ ?_ (fun H' e => SqL.of (e _ _ hl)) ?_ ?_
    · rintro i acc Ha Hb e ⟨ys, rfl, so, ⟨u1, u2, u3⟩, z⟩
      exact ⟨ys, rfl, so, ⟨e.tup _ _ u1, e.tup _ _ u2, e.tup _ _ u3⟩, z⟩
    · refine ⟨[], rfl, (fun _ z => by cases z), ⟨?_, ?_, ?_⟩, rfl⟩
      · rw [upd_ne (ne_of_none e11 hD)]
        exact e11
      · rw [upd_ne (ne_of_none e22 hD)]
        exact e22
      · rw [upd_ne (ne_of_none e33 hD)]
        exact e33
    · rintro i acc y Ha Hb hi hal e ⟨ys, rfl, so, ⟨u1, u2, u3⟩, z⟩ ⟨rfl, hy⟩ Qt Qf kt kf
      have step : ∃ (tt : Addr) (nm : Str) (o : Option Int) (n : Int), PyData.strOk nm = true ∧ y = .ref tt ∧ Hb tt = some (.tup [.str nm, ov o, .int n]) ∧
          (∀ zs : List Str, zs.isEmpty = (ys.isEmpty && okB o n) → zs.isEmpty = (match i + 1 with | 0 => true | 1 => okB b.1 t.1 | 2 => okB b.1 t.1 && okB b.2.1 t.2.1 | _ => holds3 b t)) := by
        match i, hi, hy, z with
        | 0, _, hy, z => exact ⟨t1, _, _, _, (by decide +kernel), (Option.some.inj hy).symm, u1, fun zs q => by rw [q, z] <;> rfl⟩
        | 1, _, hy, z => exact ⟨t2, _, _, _, (by decide +kernel), (Option.some.inj hy).symm, u2, fun zs q => by rw [q, z] <;> rfl⟩
        | 2, _, hy, z => exact ⟨t3, _, _, _, (by decide +kernel), (Option.some.inj hy).symm, u3, fun zs q => by rw [q, z]; exact Bool.and_assoc _ _ _⟩
      obtain ⟨tt, nm, o, n, snm, rfl, htt, stp⟩ := step
      refine ⟨tt, _, rfl, SqT.of htt, rfl, _, _, rfl, _, _, rfl, _, _, rfl, rfl, rfl, ?_⟩
      cases o with
      | none =>
        refine ⟨_, rfl, rfl, _, rfl, iteF (iteF ?_)⟩
        exact kf _ (Same.refl _) ⟨ys, rfl, so, ⟨u1, u2, u3⟩, stp ys (by simp [okB])⟩
      | some l =>
        refine ⟨_, rfl, rfl, _, rfl, iteT ?_⟩
        refine ⟨_, rfl, _, rfl, _, _, rfl, rfl, _, rfl, ite2b (fun hb => ?_) (fun hb => ?_)⟩
        · refine ⟨_, rfl, kt _ _ (Same.refl _) ⟨ys ++ [nm], by simp, (fun y hy => (List.mem_append.mp hy).elim (so y) fun z => by rw [List.mem_singleton.mp z]; exact snm), ⟨u1, u2, u3⟩, stp _ ?_⟩⟩
          show (ys ++ [nm]).isEmpty = (ys.isEmpty && !decide (l < n))
          rw [hb]
          cases ys <;> rfl
        · refine kf _ (Same.refl _) ⟨ys, rfl, so, ⟨u1, u2, u3⟩, stp ys ?_⟩
          show ys.isEmpty = (ys.isEmpty && !decide (l < n))
          rw [hb]
          cases ys <;> rfl
    · rintro zs H' e h hzl ⟨ys, rfl, so, _, z⟩
      exact k H' D ys (e1.trans e) (e1.free hD) h so z
theorem fn_Promise_passed (T : Tx w K mg) {fd : FuncData} (F : FunD K d_Promise_passed.name d_Promise_passed.qual d_Promise_passed.params d_Promise_passed.body d_Promise_passed.scope (d_Promise_passed.dvs K) (d_Promise_passed.kws K) (He.fAd K d_Promise_passed.at_) fd) :
    FnOk P w K mg base CX0 3 (He.fAd K d_Promise_passed.at_) fd ["self", "days", "miles", "turns"] (sp_Promise_passed K) := by
  refine F.ok sc_Promise_passed (fun vs H Q E h => ?_) (fun cdv A outer s H vs Q E hr h => ?_)
  · obtain ⟨x, b, t, rfl, _⟩ := h
    rfl
  · obtain ⟨x, b, t, rfl, hp, ht, k⟩ := h
    refine ⟨_, PSs.nox (pss_cons (ps_expr (C8.pe_c (c_need_gone T) hr (by decide) rfl (pa_cons (pe_tup (pa_cons (pv 1) (pa_cons (pv 2) (pa_cons (pv 3) pa_nil)))) pa_nil)))
      (pss_one (ps_ret (C8.pe_mt (m_Promise_beyond T) hr (by decide) (pv 0) (pa_cons (pe_tup (pa_cons (pv 1) (pa_cons (pv 2) (pa_cons (pv 3) pa_nil)))) pa_nil))))), ?_⟩
    refine ⟨_, rfl, _, rfl, _, rfl, sz3, fun g hg => ?_⟩
    refine ⟨_, t, rfl, ⟨g, rfl, upd_same⟩, ht, fun H1 e1 => ?_⟩
    have e2 : Same H H1 := (Same.new hg).trans e1
    obtain ⟨dx, l, h1, h2⟩ := id hp
    refine ⟨_, rfl, x, dx, _, rfl, e2 _ _ h1, rfl, _, rfl, _, rfl, _, rfl, sz3, fun p hp' => ?_⟩
    refine ⟨x, b, _, t, rfl, hp.mono (ISame.of (e2.trans (Same.new hp'))), ⟨p, rfl, upd_same⟩, fun H2 q ys e3 hq hl so z => ?_⟩
    have e4 : Same H H2 := (e2.trans (Same.new hp')).trans e3
    exact k H2 q ys e4 ((e2.trans (Same.new hp')).free hq) hl so z
theorem n_Promise_passed (T : Tx w K mg) : MetN P w K mg base 3 (He.ga K "Promise") "passed" (sp_Promise_passed K) 1 ["miles", "turns"] (fun vs zs => vs ++ zs) := by
  obtain ⟨fd, F⟩ := T.F_Promise_passed
  obtain ⟨its, b⟩ := F.kbindsD (ps := ["self", "days", "miles", "turns"]) 2 ["miles", "turns"] (fun us _ ws => us ++ ws) (by simp [d_Promise_passed, He.DefD.dvs]) (fun r1 _ r3 => r1.append r3) (fun T kV doc pm an cdv ct us its ws h1 h2 h3 => by
    match us, its, ws, h1, h2, h3 with
    | [_, _], [_, _], [_, _], _, _, _ => exact ⟨_, rfl, rfl⟩)
  exact ⟨_, fd, _, _, T.c_Promise, T.m_Promise_passed, fn_Promise_passed T F, b⟩
/-- a list of texts, as data -/
theorem dp_strs {K : PySem.W.Frag} {H : Hp} : ∀ ys : List Str, DpAll K H (ys.map V.str) (ys.map PyData.str)
  | [] => .nil
  | y :: r => .cons (.str y) (dp_strs r)
theorem lay_strs : ∀ ys : List Str, (∀ y ∈ ys, PyData.strOk y = true) → PyData.canLayAll0 (ys.map PyData.str) = true
  | [], _ => by simp [PyData.canLayAll0]
  | y :: r, h => by simp [PyData.canLayAll0, PyData.canLay0, h y (List.mem_cons_self ..), lay_strs r (fun z hz => h z (List.mem_cons_of_mem _ hz))]
theorem dep_strs : ∀ ys : List Str, PyData.depthAll (ys.map PyData.str) = 0
  | [] => by simp [PyData.depthAll]
  | y :: r => by simp [PyData.depthAll, PyData.depth, dep_strs r]
theorem shp_strs (ys : List Str) (h : ∀ y ∈ ys, PyData.strOk y = true) : SeqAt.shaped (.list (ys.map PyData.str)) = true := by
  unfold SeqAt.shaped
  rw [Bool.and_eq_true]
  exact ⟨by simp [PyData.canLay0, lay_strs ys h], decide_eq_true (by simp [PyData.depth, dep_strs])⟩
theorem shp_nil : SeqAt.shaped (.list []) = true := shp_strs [] (fun _ z => by cases z)
theorem eqv_nil (ds : List PyData) : PyData.eqv (.list ds) (.list []) = ds.isEmpty := by
  cases ds <;> simp [PyData.eqv, PyData.eqvAll]
theorem fn_Promise_holds (T : Tx w K mg) {fd : FuncData} (F : FunD K d_Promise_holds.name d_Promise_holds.qual d_Promise_holds.params d_Promise_holds.body d_Promise_holds.scope (d_Promise_holds.dvs K) (d_Promise_holds.kws K) (He.fAd K d_Promise_holds.at_) fd) :
    FnOk P w K mg base CX0 4 (He.fAd K d_Promise_holds.at_) fd ["self", "days", "miles", "turns"] (sp_Promise_holds K) := by
  refine F.ok sc_Promise_holds (fun vs H Q E h => ?_) (fun cdv A outer s H vs Q E hr h => ?_)
  · obtain ⟨x, b, t, rfl, _⟩ := h
    rfl
  · obtain ⟨x, b, t, rfl, hp, ht, k⟩ := h
    refine ⟨_, PSs.nox (pss_one (ps_ret (pe_cmpR (op_eqD hr.units) (pe_mtn (n_Promise_passed T) hr (by decide) (pv 0) (pa_cons (pv 1) pa_nil) (pk_cons (pv 2) (pk_cons (pv 3) pk_nil))) (pe_lst pa_nil) (nomark _)))), ?_⟩
    obtain ⟨dx, l, h1, h2⟩ := id hp
    refine ⟨_, rfl, x, dx, _, rfl, h1, rfl, _, rfl, _, rfl, _, rfl, rfl, rfl, x, b, t, rfl, hp, ht, fun H1 p ys e1 hp1 hl so z => ?_⟩
    refine ⟨szn (Nat.zero_le _), fun q hq => ?_⟩
    have hl2 : (upd H1 q (.lst [])) p = some (.lst (ys.map V.str)) := by rw [upd_ne (ne_of_none hl hq)]; exact hl
    refine ⟨_, _, .lst (SqL.of hl2) (dp_strs ys), .lst (SqL.of upd_same) .nil, shp_strs ys so, shp_nil, ?_⟩
    have eb : PyData.eqv (.list (ys.map PyData.str)) (.list []) = holds3 b t := by
      rw [eqv_nil, ← z]
      cases ys <;> rfl
    show Q (.bl (PyData.eqv (.list (ys.map PyData.str)) (.list []))) _
    rw [eb]
    exact k _ (e1.trans (Same.new hq))
theorem n_Promise_holds (T : Tx w K mg) : MetN P w K mg base 4 (He.ga K "Promise") "holds" (sp_Promise_holds K) 1 ["miles", "turns"] (fun vs zs => vs ++ zs) := by
  obtain ⟨fd, F⟩ := T.F_Promise_holds
  obtain ⟨its, b⟩ := F.kbindsD (ps := ["self", "days", "miles", "turns"]) 2 ["miles", "turns"] (fun us _ ws => us ++ ws) (by simp [d_Promise_holds, He.DefD.dvs]) (fun r1 _ r3 => r1.append r3) (fun T kV doc pm an cdv ct us its ws h1 h2 h3 => by
    match us, its, ws, h1, h2, h3 with
    | [_, _], [_, _], [_, _], _, _, _ => exact ⟨_, rfl, rfl⟩)
  exact ⟨_, fd, _, _, T.c_Promise, T.m_Promise_holds, fn_Promise_holds T F, b⟩
theorem c_need_promise (T : Tx w K mg) : C8.Cal P w K mg base 1 "need_promise" (sp_need_promise K) [] := by
  obtain ⟨fd, F⟩ := T.F_need_promise
  refine ⟨_, fd, ["thing"], [], F.ok sc_need_promise (fun vs H Q E h => ?_) (fun cdv A outer s H vs Q E hr h => ?_), T.g_need_promise, F.kp, F.bindsN fun _ _ _ _ _ _ us hl => match us, hl with | [_], _ => rfl, .nil⟩
  · obtain ⟨x, t, rfl, _⟩ := h
    rfl
  · obtain ⟨x, b, rfl, ⟨dx, l, h1, h2⟩, k⟩ := h
    refine ⟨_, PSs.nox (pss_one (ps_if (pt_not (pt_val (pe_callB (C8.call_isC T.o_Promise) (by rfl) T.f_isinstance (by decide +kernel) (pa_cons (pv 0) (pa_cons (pe_gr rfl T.g_Promise) pa_nil))))) (pss_one ps_never) pss_nil)), ?_⟩
    exact ⟨_, rfl, x, dx, _, rfl, h1, _, rfl, iteF k⟩
end
end Wk
end

section
set_option Elab.async false
set_option linter.all false
set_option maxRecDepth 100000
/-! is_row, are_parts, are_barred, Sort, Book -/
namespace Wk
open PySem PySem.Spec L2 RZ
theorem hu65 {A : Around} {k : Nat} (hr : Room k A) : A.units + 65 < cLine := by have := hr.un; omega
/-! ### lists whose elements are so -/
theorem AllAt.nil {α : Type} {F : V → α → Prop} : AllAt F [] [] := ⟨rfl, fun i v r h _ => by simp at h⟩
theorem AllAt.mono {α : Type} {F G : V → α → Prop} {vs : List V} {rs : List α} (h : AllAt F vs rs) (k : ∀ v r, F v r → G v r) : AllAt G vs rs := ⟨h.len, fun i v r h1 h2 => k _ _ (h.at_ i v r h1 h2)⟩
theorem AllAt.get {α : Type} {F : V → α → Prop} {vs : List V} {rs : List α} (h : AllAt F vs rs) {i : Nat} {v : V} (e : vs[i]? = some v) : ∃ r, rs[i]? = some r ∧ F v r := by
  obtain ⟨hi, _⟩ := List.getElem?_eq_some_iff.mp e
  have hi' : i < rs.length := by rw [← h.len]; exact hi
  exact ⟨rs[i], by simp [hi'], h.at_ i v _ e (by simp [hi'])⟩
theorem AllAt.snoc {α : Type} {F : V → α → Prop} {vs : List V} {rs : List α} {v : V} {r : α} (h : AllAt F vs rs) (k : F v r) : AllAt F (vs ++ [v]) (rs ++ [r]) := by
  refine ⟨by simp [h.len], fun i u s h1 h2 => ?_⟩
  by_cases hi : i < vs.length
  · rw [List.getElem?_append_left hi] at h1
    rw [List.getElem?_append_left (by rw [← h.len]; exact hi)] at h2
    exact h.at_ i u s h1 h2
  · have hi2 : ¬ i < rs.length := by rw [← h.len]; exact hi
    rw [List.getElem?_append_right (by omega)] at h1 h2
    rw [h.len] at h1
    cases e : i - rs.length with
    | zero =>
      rw [e] at h1 h2
      simp at h1 h2
      subst h1 h2
      exact k
    | succ n =>
      rw [e] at h1
      simp at h1
/-- neighbours are so -/
def Chain {α : Type} (lt : α → α → Bool) (rs : List α) : Prop := ∀ (i : Nat) (a b : α), rs[i]? = some a → rs[i + 1]? = some b → lt a b = true
def ltS (x y : Str) : Bool := decide (x.cps.toList < y.cps.toList)
/-! ### slices -/
theorem sl_from {K : PySem.W.Frag} {H : Hp} {a : Addr} {vs : List V} {Q : VK} (n : Nat) (h : H a = some (.tup vs)) (k : ∀ (p : Addr) (H' : Hp), Same H H' → H' p = some (.tup (vs.drop n)) → Q (.ref p) H') : rSlA K (.ref a) (some (n : Int)) none H Q := by
  refine ⟨a, vs, rfl, SqT.of h, fun e => ?_, fun e p hp => ?_⟩
  · rw [HT.sIx_nat] at e
    obtain ⟨e, _⟩ := e
    refine k a H (Same.refl _) ?_
    have : vs.drop n = vs := by
      by_cases z : n = 0
      · subst z; rfl
      · have : vs.length = 0 := by omega
        rw [List.eq_nil_of_length_eq_zero this]; simp
    rw [this]
    exact h
  · refine k p _ (Same.new hp) ?_
    rw [upd_same]
    congr 2
    unfold cutV
    rw [HT.sIx_nat, HT.sIx_none]
    by_cases z : n ≤ vs.length
    · rw [Nat.min_eq_left z, List.take_of_length_le (by simp)]
    · rw [Nat.min_eq_right (by omega), Nat.sub_self, List.take_zero, List.drop_of_length_le (by omega)]
/-! ### data -/
def PromO (K : PySem.W.Frag) (H : Hp) (v : V) : Option B3 → Prop
  | none => v = .non
  | some b => ∃ a, v = .ref a ∧ PromAt K H a b
abbrev RowD := Str × Option B3 × Option B3
def RowAt (K : PySem.W.Frag) (H : Hp) (v : V) (r : RowD) : Prop := ∃ a v1 v2, v = .ref a ∧ H a = some (.tup [.str r.1, v1, v2]) ∧ PromO K H v1 r.2.1 ∧ PromO K H v2 r.2.2
def RowsAt (K : PySem.W.Frag) (H : Hp) (t : Addr) (rs : List RowD) : Prop := ∃ vs, H t = some (.tup vs) ∧ AllAt (RowAt K H) vs rs
def PairAt (H : Hp) (v : V) (p : Str × Str) : Prop := ∃ a, v = .ref a ∧ H a = some (.tup [.str p.1, .str p.2])
def PairsAt (H : Hp) (t : Addr) (ps : List (Str × Str)) : Prop := ∃ vs, H t = some (.tup vs) ∧ AllAt (PairAt H) vs ps
structure SortD where
  name : Str
  prom : B3
  rows : List RowD
  barred : List (Str × Str)
structure RowsOk (rs : List RowD) : Prop where
  len : rs.length ≤ 12
  nm : ∀ r ∈ rs, Nm r.1
  asc : Chain (fun a b => ltS a.1 b.1) rs
def lt2 (p q : Str × Str) : Bool := lexS [p.1, p.2] [q.1, q.2]
structure PairsOk (names : List Str) (ps : List (Str × Str)) : Prop where
  len : ps.length ≤ 30
  n1 : ∀ p ∈ ps, Nm p.1
  n2 : ∀ p ∈ ps, Nm p.2
  mem : ∀ p ∈ ps, p.2 ∈ names
  asc : Chain lt2 ps
structure SortOk (s : SortD) : Prop where
  nm : Nm s.name
  rows : RowsOk s.rows
  pairs : PairsOk (s.rows.map (·.1)) s.barred
structure SortAt (K : PySem.W.Frag) (H : Hp) (x : Addr) (s : SortD) : Prop where
  ex : ∃ dx p t u, H x = some (.ins (He.ga K "Sort") dx [("called", .str s.name), ("promised", .ref p), ("part_rows", .ref t), ("barred_pairs", .ref u)]) ∧ PromAt K H p s.prom ∧ RowsAt K H t s.rows ∧ PairsAt H u s.barred
/-- instances whose first field is not f stay, and the tuples -/
def okF (f : Str) (fs : List (Str × V)) : Prop := ∃ g v r, fs = (g, v) :: r ∧ g ≠ f
structure FSame (f : Str) (H H' : Hp) : Prop where
  tup : ∀ a xs, H a = some (.tup xs) → H' a = some (.tup xs)
  ins : ∀ a C dx fs, H a = some (.ins C dx fs) → okF f fs → H' a = some (.ins C dx fs)
theorem ISame.fs {f : Str} {H H' : Hp} (e : ISame H H') : FSame f H H' := ⟨e.tup, fun a C dx fs h _ => e.ins a C dx fs h⟩
theorem FSame.trans {f : Str} {H H1 H2 : Hp} (a : FSame f H H1) (b : FSame f H1 H2) : FSame f H H2 := ⟨fun p xs h => b.tup p xs (a.tup p xs h), fun p C dx fs h o => b.ins p C dx fs (a.ins p C dx fs h o) o⟩
theorem okF.nil {f : Str} : ¬ okF f [] := fun ⟨g, v, r, e, _⟩ => by cases e
theorem okF.self {f : Str} {v : V} {r : List (Str × V)} : ¬ okF f ((f, v) :: r) := fun ⟨g, v, r, e, n⟩ => by cases e; exact n rfl
theorem okF.mk {f g : Str} {v : V} {r : List (Str × V)} (h : g ≠ f) : okF f ((g, v) :: r) := ⟨g, v, r, rfl, h⟩
abbrev SX (x : Addr) := SBut (fun a => a = x)
theorem SX.upd {x : Addr} {H : Hp} {o : HO} : SX x H (upd H x o) := fun a u n h => by rw [upd_ne n]; exact h
theorem SX.fs {f : Str} {x C dx : Addr} {fs : List (Str × V)} {H H' : Hp} (e : SX x H H') (h : H x = some (.ins C dx fs)) (n : ¬ okF f fs) : FSame f H H' := by
  refine ⟨fun a xs q => e a _ (fun z => ?_) q, fun a C' dx' fs' q o => e a _ (fun z => ?_) q⟩
  · rw [z, h] at q
    cases q
  · rw [z, h] at q
    cases q
    exact n o
theorem PromAt.monoF {K : PySem.W.Frag} {f : Str} {H H' : Hp} {a : Addr} {b : B3} (e : FSame f H H') (n : ("limits" : Str) ≠ f := by decide) : PromAt K H a b → PromAt K H' a b := fun ⟨dx, t, h1, h2⟩ => ⟨dx, t, e.ins _ _ _ _ h1 (.mk n), e.tup _ _ h2⟩
theorem PromO.monoF {K : PySem.W.Frag} {f : Str} {H H' : Hp} {v : V} {b : Option B3} (e : FSame f H H') (h : PromO K H v b) (n : ("limits" : Str) ≠ f := by decide) : PromO K H' v b := by
  cases b with
  | none => exact h
  | some b => obtain ⟨a, h1, h2⟩ := h; exact ⟨a, h1, h2.monoF e n⟩
theorem RowAt.monoF {K : PySem.W.Frag} {f : Str} {H H' : Hp} {v : V} {r : RowD} (e : FSame f H H') (h : RowAt K H v r) (n : ("limits" : Str) ≠ f := by decide) : RowAt K H' v r := by
  obtain ⟨a, v1, v2, h1, h2, h3, h4⟩ := h
  exact ⟨a, v1, v2, h1, e.tup _ _ h2, h3.monoF e n, h4.monoF e n⟩
theorem RowsAt.monoF {K : PySem.W.Frag} {f : Str} {H H' : Hp} {t : Addr} {r : List RowD} (e : FSame f H H') (h : RowsAt K H t r) (n : ("limits" : Str) ≠ f := by decide) : RowsAt K H' t r := by
  obtain ⟨vs, h1, h2⟩ := h
  exact ⟨vs, e.tup _ _ h1, h2.mono fun _ _ q => q.monoF e n⟩
theorem PairAt.monoF {f : Str} {H H' : Hp} {v : V} {p : Str × Str} (e : FSame f H H') : PairAt H v p → PairAt H' v p := fun ⟨a, h1, h2⟩ => ⟨a, h1, e.tup _ _ h2⟩
theorem PairsAt.monoF {f : Str} {H H' : Hp} {t : Addr} {r : List (Str × Str)} (e : FSame f H H') : PairsAt H t r → PairsAt H' t r := fun ⟨vs, h1, h2⟩ => ⟨vs, e.tup _ _ h1, h2.mono fun _ _ => PairAt.monoF e⟩
theorem SortAt.monoF {K : PySem.W.Frag} {f : Str} {H H' : Hp} {x : Addr} {s : SortD} (e : FSame f H H') (h : SortAt K H x s) (n : ("limits" : Str) ≠ f := by decide) (m : ("called" : Str) ≠ f := by decide) : SortAt K H' x s := by
  obtain ⟨dx, p, t, u, h1, h2, h3, h4⟩ := h
  exact ⟨dx, p, t, u, e.ins _ _ _ _ h1 (.mk m), h2.monoF e n, h3.monoF e n, h4.monoF e⟩
theorem PromO.mono {K : PySem.W.Frag} {H H' : Hp} {v : V} {b : Option B3} (e : ISame H H') (h : PromO K H v b) : PromO K H' v b := h.monoF (e.fs (f := "")) (by decide)
theorem RowAt.mono {K : PySem.W.Frag} {H H' : Hp} {v : V} {r : RowD} (e : ISame H H') (h : RowAt K H v r) : RowAt K H' v r := h.monoF (e.fs (f := "")) (by decide)
theorem RowsAt.mono {K : PySem.W.Frag} {H H' : Hp} {t : Addr} {r : List RowD} (e : ISame H H') (h : RowsAt K H t r) : RowsAt K H' t r := h.monoF (e.fs (f := "")) (by decide)
theorem PairAt.mono {H H' : Hp} {v : V} {p : Str × Str} (e : ISame H H') (h : PairAt H v p) : PairAt H' v p := h.monoF (e.fs (f := ""))
theorem PairsAt.mono {H H' : Hp} {t : Addr} {r : List (Str × Str)} (e : ISame H H') (h : PairsAt H t r) : PairsAt H' t r := h.monoF (e.fs (f := ""))
theorem SortAt.mono {K : PySem.W.Frag} {H H' : Hp} {x : Addr} {s : SortD} (e : ISame H H') (h : SortAt K H x s) : SortAt K H' x s := h.monoF (e.fs (f := "")) (by decide) (by decide)
theorem take_snoc {α : Type} {rs : List α} {i : Nat} {r : α} (h : rs[i]? = some r) : rs.take (i + 1) = rs.take i ++ [r] := by
  rw [List.take_add_one, h]
  rfl
def rowOf (rs : List RowD) (p : Str) : Option RowD := rs.find? fun r => r.1 == p
/-! ### promises -/
def sp_is_row (K : PySem.W.Frag) : Sp := fun vs H Q _ => ∃ v r, vs = [v] ∧ RowAt K H v r ∧ Nm r.1 ∧ ∀ H', Same H H' → Q (.bl true) H'
def sp_are_parts (K : PySem.W.Frag) : Sp := fun vs H Q _ => ∃ t rs, vs = [.ref t] ∧ RowsAt K H t rs ∧ RowsOk rs ∧ ∀ H', Same H H' → Q (.bl true) H'
def sp_are_barred : Sp := fun vs H Q _ => ∃ t nl names ps, vs = [.ref t, .ref nl] ∧ PairsAt H t ps ∧ H nl = some (.lst (names.map V.str)) ∧ PairsOk names ps ∧ ∀ H', Same H H' → Q (.bl true) H'
def sp_need_sort (K : PySem.W.Frag) : Sp := fun vs H Q _ => ∃ (x : Addr) (s : SortD), vs = [.ref x] ∧ SortAt K H x s ∧ Q .non H
def sp_Sort_init (K : PySem.W.Frag) : Sp := fun vs H Q _ => ∃ (x dx p t u : Addr) (s : SortD), vs = [.ref x, .str s.name, .ref p, .ref t, .ref u] ∧ H x = some (.ins (He.ga K "Sort") dx []) ∧ SortOk s ∧ PromAt K H p s.prom ∧ RowsAt K H t s.rows ∧ PairsAt H u s.barred ∧
  ∀ H' : Hp, (∀ a o, H a = some o → a ≠ x → H' a = some o) → SortAt K H' x s → Q .non H'
def sp_Sort_named (K : PySem.W.Frag) : Sp := fun vs H Q _ => ∃ (x : Addr) (s : SortD), vs = [.ref x] ∧ SortAt K H x s ∧ Q (.str s.name) H
def sp_Sort_part_names (K : PySem.W.Frag) : Sp := fun vs H Q _ => ∃ (x : Addr) (s : SortD), vs = [.ref x] ∧ SortAt K H x s ∧ s.rows.length ≤ 12 ∧ ∀ (H' : Hp) (p : Addr), Same H H' → H' p = some (.lst ((s.rows.map (·.1)).map V.str)) → Q (.ref p) H'
section
variable {P : Program} {w : World} {K : PySem.W.Frag} {mg : Str → Option Value} {base : Heap}
theorem c_is_row (T : Tx w K mg) : C8.Cal P w K mg base 2 "is_row" (sp_is_row K) [] := by
  obtain ⟨fd, F⟩ := T.F_is_row
  refine ⟨_, fd, ["thing"], [], F.ok sc_is_row (fun vs H Q E h => ?_) (fun cdv A outer s H vs Q E hr h => ?_), T.g_is_row, F.kp, F.bindsN fun _ _ _ _ _ _ us hl => match us, hl with | [_], _ => rfl, .nil⟩
  · obtain ⟨x, r, rfl, _⟩ := h
    rfl
  · obtain ⟨v, r, rfl, ⟨a, v1, v2, rfl, ha, h1, h2⟩, hn, k⟩ := h
    refine ⟨_, PSs.nox (pss_cons (ps_if (PW.pt (pw_or (pt_not (pt_val (pe_callB call_isTup (by rfl) T.f_isinstance (by decide +kernel) (pa_cons (pv 0) (pa_cons (pe_ty_tuple T.f_tuple) pa_nil))))) (pw_or (pt_cmpR op_ne (pe_callB call_len_seq (by rfl) T.f_len (by decide +kernel) (pa_cons (pv 0) pa_nil)) pe_int (nomark _)) (pw_or1 (pt_not (pt_val (C8.pe_c (c_is_name T) hr (by decide) rfl (pa_cons (pe_ix ix_tup (pv 0) pe_int (fun _ _ => rfl)) pa_nil)))))))) (pss_one (ps_ret pe_bl)) pss_nil)
      (pss_one (ps_ret (pe_callB (cr_all rfl) (by rfl) T.f_all (by decide +kernel) (pa_cons (pe_lc (own := [("one", 1)]) (g := gName 1) rfl sc_is_row.nd (pi_tup (pe_slice sl_tupA (pv 0) (po_some pe_int) po_none)) (blkOk_by (own := [("one", 1)]) (N := N_is_row) (sc := defScope s_is_row) (by decide +kernel)) (fun _ _ _ _ _ => (pg_name (i := 1) sc_is_row.nd rfl (Or.inl rfl))) (fun _ _ _ _ _ => pts_nil) (fun _ _ _ _ _ => (pe_or (pe_cmpR op_isN (pv 1) pe_non (nomark _)) (pe_one (pe_callB (C8.call_isC T.o_Promise) (by rfl) T.f_isinstance (by decide +kernel) (pa_cons (pv 1) (pa_cons (pe_gr rfl T.g_Promise) pa_nil))))))) pa_nil))))), ?_⟩
    refine ⟨_, rfl, _, rfl, ⟨_, _, rfl, ha⟩, _, rfl, iteF ?_⟩
    refine ⟨_, rfl, a, _, rfl, .inr (SqT.of ha), rfl, _, rfl, iteF ?_⟩
    refine ⟨_, rfl, a, _, 0, _, rfl, rfl, SqT.of ha, rfl, r.1, rfl, hn, fun H1 e1 => ?_⟩
    refine ⟨_, rfl, iteF ?_⟩
    refine ⟨_, rfl, _, rfl, ?_⟩
    dsimp only [tNoPart]
    refine sl_from 1 (e1 _ _ ha) fun p H2 e2 hp => ?_
    refine ⟨p, rfl, ⟨_, SqT.of hp⟩, fun D hD => ?_⟩
    have e12 := e1.trans e2
    refine lc_p (walk_tup (K := K) (a := p) (xs := [v1, v2])) (fun i acc H' => (∃ bs : List Bool, acc = bs.map V.bl ∧ bs.all id = true)) (by simp) hD (fun _ _ _ _ _ p => p) ⟨[], rfl, rfl⟩ ?_ ?_ ?_
    · exact fun H' e => SqT.of (e _ _ hp)
    · rintro i acc x Ha Hb hi hl e ⟨bs, rfl, hb⟩ ⟨rfl, hx⟩ Qt Qf kt kf
      have fin : ∀ Hc, Same Hb Hc → Qt (.bl true) Hc := fun Hc ec => kt _ Hc ec ⟨bs ++ [true], by simp, by simp [List.all_append, hb]⟩
      have e3 := e12.trans e
      have done : ∀ o, PromO K H x o → tOrV (tOp (fun x y H Q => y = V.non ∧ Q (V.bl (decide (x = V.non))) H) (tVar 1) (tC V.non)) (tCB (fun xs H Q => ∃ a dx fs, xs = [V.ref a, V.ref (He.ga K "Promise")] ∧ H a = some (HO.ins (He.ga K "Promise") dx fs) ∧ Q (V.bl true) H) (tCons (tVar 1) (tCons (tC (V.ref (He.ga K "Promise"))) tNil))) [some (.ref a), some x] Hb Qt := by
        intro o ho
        cases o with
        | none =>
          obtain rfl : x = .non := ho
          exact ⟨_, rfl, rfl, _, rfl, iteT (fin _ (Same.refl _))⟩
        | some b =>
          obtain ⟨pa, rfl, ⟨dx, lt, q1, q2⟩⟩ := ho
          exact ⟨_, rfl, rfl, _, rfl, iteF ⟨_, rfl, pa, dx, _, rfl, e3 _ _ q1, fin _ (Same.refl _)⟩⟩
      refine ⟨rfl, ?_⟩
      match i, hi, hx with
      | 0, _, hx => cases hx; exact done _ h1
      | 1, _, hx => cases hx; exact done _ h2
    · rintro ys H' e h _ ⟨bs, rfl, hb⟩
      refine ⟨D, bs, rfl, SqL.of h, ?_⟩
      rw [hb]
      exact k H' (e12.trans e)
theorem c_are_parts (T : Tx w K mg) : C8.Cal P w K mg base 3 "are_parts" (sp_are_parts K) [] := by
  obtain ⟨fd, F⟩ := T.F_are_parts
  refine ⟨_, fd, ["thing"], [], F.ok sc_are_parts (fun vs H Q E h => ?_) (fun cdv A outer s H vs Q E hr h => ?_), T.g_are_parts, F.kp, F.bindsN fun _ _ _ _ _ _ us hl => match us, hl with | [_], _ => rfl, .nil⟩
  · obtain ⟨x, r, rfl, _⟩ := h
    rfl
  · obtain ⟨t, rs, rfl, ⟨vs, ht, hv⟩, ok, k⟩ := h
    have hl : vs.length ≤ 12 := by rw [hv.len]; exact ok.len
    refine ⟨_, PSs.nox (pss_cons (ps_if (PW.pt (pw_or (pt_not (pt_val (pe_callB call_isTup (by rfl) T.f_isinstance (by decide +kernel) (pa_cons (pv 0) (pa_cons (pe_ty_tuple T.f_tuple) pa_nil))))) (pw_or (pt_cmpR op_gt (pe_callB call_len_seq (by rfl) T.f_len (by decide +kernel) (pa_cons (pv 0) pa_nil)) (C8.pe_gc rfl T.i_MOST_PARTS) (nomark _)) (pw_or1 (pt_not (pt_val (pe_callB (cr_all rfl) (by rfl) T.f_all (by decide +kernel) (pa_cons (pe_lc (own := [("one", 1)]) (g := gName 1) rfl sc_are_parts.nd (pi_tup (pv 0)) (blkOk_by (own := [("one", 1)]) (N := N_are_parts) (sc := defScope s_are_parts) (by decide +kernel)) (fun _ _ _ _ _ => (pg_name (i := 1) sc_are_parts.nd rfl (Or.inl rfl))) (fun _ _ _ _ _ => pts_nil) (fun _ _ _ _ _ => (C8.pe_c (c_is_row T) hr (by decide) rfl (pa_cons (pv 1) pa_nil)))) pa_nil)))))))) (pss_one (ps_ret pe_bl)) pss_nil)
      (pss_one (ps_ret (pe_callB (cr_all rfl) (by rfl) T.f_all (by decide +kernel) (pa_cons (pe_lc (own := [("one", 1), ("other", 2)]) (g := gTup K 2 (gCons (gName 1) (gCons (gName 2) gNil))) rfl sc_are_parts.nd (pi_zipA (by rfl) T.f_zip (pa_cons (pv 0) (pa_cons (pe_slice sl_tupA (pv 0) (po_some pe_int) po_none) pa_nil))) (blkOk_by (own := [("one", 1), ("other", 2)]) (N := N_are_parts) (sc := defScope s_are_parts) (by decide +kernel)) (fun _ _ _ _ _ => (pg_tup rfl (pgs_cons (pg_name (i := 1) sc_are_parts.nd rfl (Or.inl rfl)) (pgs_cons (pg_name (i := 2) sc_are_parts.nd rfl (Or.inl rfl)) pgs_nil)))) (fun _ _ _ _ _ => pts_nil) (fun _ _ _ _ _ => (pe_cmpR op_lt_str (pe_ix (ix_tupK (K := K)) (pv 1) pe_int (fun _ _ => rfl)) (pe_ix (ix_tupK (K := K)) (pv 2) pe_int (fun _ _ => rfl)) (nomark _)))) pa_nil))))), ?_⟩
    refine ⟨_, rfl, _, rfl, ⟨_, _, rfl, ht⟩, _, rfl, iteF ?_⟩
    refine ⟨_, rfl, t, _, rfl, .inr (SqT.of ht), _, _, rfl, rfl, _, rfl, ifn (by omega) ?_⟩
    refine ⟨_, rfl, t, rfl, ⟨_, SqT.of ht⟩, fun D hD => ?_⟩
    dsimp only [tNil]
    refine lc_all (walk_tup (K := K) (a := t) (xs := vs)) (by omega) hD (fun _ e => SqT.of (e _ _ ht)) (fun i v Ha Hb hi e y Qt kt => ?_) fun H1 e1 => ?_
    · obtain ⟨rfl, hx⟩ := y
      obtain ⟨r, hr1, hr2⟩ := hv.get hx
      exact ⟨rfl, _, rfl, v, r, rfl, hr2.mono (ISame.of e), ok.nm _ (List.mem_of_getElem? hr1), kt⟩
    · refine ⟨_, rfl, iteF ?_⟩
      refine ⟨_, rfl, _, rfl, _, rfl, ?_⟩
      dsimp only [tNoPart]
      refine sl_from 1 (e1 _ _ ht) fun p H2 e2 hp => ?_
      have e12 := e1.trans e2
      refine ⟨t, p, _, _, rfl, .inr ⟨SqT.of (e12 _ _ ht), SqT.of hp, fun D hD => ?_⟩⟩
      refine lc_all (walk_zipT (K := K) (a := t) (b := p) (xs := vs) (ys := vs.drop 1) rfl) (by omega) hD (fun _ e => ⟨SqT.of (e _ _ (e12 _ _ ht)), SqT.of (e _ _ hp)⟩) (fun i v Ha Hb hi e y Qt kt => ?_) fun H3 e3 => k H3 (e12.trans e3)
      obtain ⟨q, x, y, rfl, hq, rfl, hx, hy⟩ := y
      replace hy : vs[1 + i]? = some y := by rw [← List.getElem?_drop]; exact hy
      obtain ⟨r1, hr1, a1, v1, v2, rfl, g1, _⟩ := hv.get hx
      obtain ⟨r2, hr2, a2, w1, w2, rfl, g2, _⟩ := hv.get hy
      have g1' := e _ _ (e12 _ _ g1)
      have g2' := e _ _ (e12 _ _ g2)
      refine ⟨q, _, rfl, SqT.of upd_same, rfl, _, _, rfl, _, _, rfl, rfl, rfl, ?_⟩
      refine ⟨_, rfl, a1, _, 0, _, rfl, rfl, SqT.of (by rw [upd_ne (ne_of_none g1' hq)]; exact g1'), rfl, _, rfl, a2, _, 0, _, rfl, rfl, SqT.of (by rw [upd_ne (ne_of_none g2' hq)]; exact g2'), rfl, _, _, rfl, rfl, ?_⟩
      rw [Nat.add_comm] at hr2
      exact q_b (Q := Qt) (ok.asc i r1 r2 hr1 hr2) (kt _ (Same.new hq))
theorem c_are_barred (T : Tx w K mg) : C8.Cal P w K mg base 2 "are_barred" sp_are_barred [] := by
  obtain ⟨fd, F⟩ := T.F_are_barred
  refine ⟨_, fd, ["thing", "names"], [], F.ok sc_are_barred (fun vs H Q E h => ?_) (fun cdv A outer s H vs Q E hr h => ?_), T.g_are_barred, F.kp, F.bindsN fun _ _ _ _ _ _ us hl => match us, hl with | [_, _], _ => rfl, .nil⟩
  · obtain ⟨x, nl, r, z, rfl, _⟩ := h
    rfl
  · obtain ⟨t, nl, names, ps, rfl, ⟨vs, ht, hv⟩, hn, ok, k⟩ := h
    have hl : vs.length ≤ 30 := by rw [hv.len]; exact ok.len
    refine ⟨_, PSs.nox (pss_cons (ps_if (PW.pt (pw_or (pt_not (pt_val (pe_callB call_isTup (by rfl) T.f_isinstance (by decide +kernel) (pa_cons (pv 0) (pa_cons (pe_ty_tuple T.f_tuple) pa_nil))))) (pw_or1 (pt_cmpR op_gt (pe_callB call_len_seq (by rfl) T.f_len (by decide +kernel) (pa_cons (pv 0) pa_nil)) (C8.pe_gc rfl T.i_MOST_BARRED) (nomark _))))) (pss_one (ps_ret pe_bl)) pss_nil)
      (pss_cons (ps_for PassesOwn.never rfl (pi_tup (pv 0)) (pg_name (i := 2) sc_are_barred.nd rfl (Or.inl rfl)) (pss_one (ps_if (PW.pt (pw_or (pt_not (pt_val (pe_callB call_isTup (by rfl) T.f_isinstance (by decide +kernel) (pa_cons (pv 2) (pa_cons (pe_ty_tuple T.f_tuple) pa_nil))))) (pw_or (pt_cmpR op_ne (pe_callB call_len_seq (by rfl) T.f_len (by decide +kernel) (pa_cons (pv 2) pa_nil)) pe_int (nomark _)) (pw_or (pt_not (pt_val (C8.pe_c (c_is_name T) hr (by decide) rfl (pa_cons (pe_ix ix_tup (pv 2) pe_int (fun _ _ => rfl)) pa_nil)))) (pw_or1 (pt_not (pt_val (C8.pe_c (c_is_name T) hr (by decide) rfl (pa_cons (pe_ix ix_tup (pv 2) pe_int (fun _ _ => rfl)) pa_nil))))))))) (pss_one (ps_ret pe_bl)) pss_nil)))
      (pss_cons (ps_if (pt_not (pt_val (pe_callB (cr_all rfl) (by rfl) T.f_all (by decide +kernel) (pa_cons (pe_lc (own := [("pair", 2)]) (g := gName 2) rfl sc_are_barred.nd (pi_tup (pv 0)) (blkOk_by (own := [("pair", 2)]) (N := N_are_barred) (sc := defScope s_are_barred) (by decide +kernel)) (fun _ _ _ _ _ => (pg_name (i := 2) sc_are_barred.nd rfl (Or.inl rfl))) (fun _ _ _ _ _ => pts_nil) (fun _ _ _ _ _ => (pe_cmpR (op_in_seqK (K := K)) (pe_ix (ix_tupK (K := K)) (pv 2) pe_int (fun _ _ => rfl)) (pv 1) (by with_unfolding_all rfl)))) pa_nil)))) (pss_one (ps_ret pe_bl)) pss_nil)
      (pss_one (ps_ret (pe_callB (cr_all rfl) (by rfl) T.f_all (by decide +kernel) (pa_cons (pe_lc (own := [("one", 3), ("other", 4)]) (g := gTup K 2 (gCons (gName 3) (gCons (gName 4) gNil))) rfl sc_are_barred.nd (pi_zipA (by rfl) T.f_zip (pa_cons (pv 0) (pa_cons (pe_slice sl_tupA (pv 0) (po_some pe_int) po_none) pa_nil))) (blkOk_by (own := [("one", 3), ("other", 4)]) (N := N_are_barred) (sc := defScope s_are_barred) (by decide +kernel)) (fun _ _ _ _ _ => (pg_tup rfl (pgs_cons (pg_name (i := 3) sc_are_barred.nd rfl (Or.inl rfl)) (pgs_cons (pg_name (i := 4) sc_are_barred.nd rfl (Or.inl rfl)) pgs_nil)))) (fun _ _ _ _ _ => pts_nil) (fun _ _ _ _ _ => (pe_cmpR (op_ltTSK (K := K) hr.units) (pv 3) (pv 4) (nomark _)))) pa_nil))))))), ?_⟩
    refine ⟨_, rfl, _, rfl, ⟨_, _, rfl, ht⟩, _, rfl, iteF ?_⟩
    refine ⟨_, rfl, t, _, rfl, .inr (SqT.of ht), _, _, rfl, rfl, _, rfl, ifn (by omega) ?_⟩
    refine ⟨_, rfl, t, rfl, ⟨_, SqT.of ht⟩, ?_⟩
    refine for_it (walk_tup (K := K) (a := t) (xs := vs)) (fun i σ H' => ∃ x, σ = [some (.ref t), some (.ref nl), x, none, none] ∧ Same H H') ⟨_, rfl, Same.refl _⟩ (fun i σ H' _ ⟨_, _, e⟩ => SqT.of (e _ _ ht)) ?_ ?_
    · rintro i v σ Ha Hb hi ⟨x0, rfl, e⟩ ⟨rfl, hx⟩
      obtain ⟨p, hp1, a, rfl, ha⟩ := hv.get hx
      have hm := List.mem_of_getElem? hp1
      have ha1 := e _ _ ha
      refine ⟨_, rfl, _, rfl, ⟨_, _, rfl, ha1⟩, _, rfl, iteF ?_⟩
      refine ⟨_, rfl, a, _, rfl, .inr (SqT.of ha1), rfl, _, rfl, iteF ?_⟩
      refine ⟨_, rfl, a, _, 0, _, rfl, rfl, SqT.of ha1, rfl, p.1, rfl, ok.n1 _ hm, fun H1 e1 => ⟨_, rfl, iteF ?_⟩⟩
      refine ⟨_, rfl, a, _, 1, _, rfl, rfl, SqT.of (e1 _ _ ha1), rfl, p.2, rfl, ok.n2 _ hm, fun H2 e2 => ⟨_, rfl, iteF ?_⟩⟩
      exact ⟨_, rfl, (e.trans e1).trans e2⟩
    · rintro σ H1 ⟨x0, rfl, e1⟩
      refine ⟨_, rfl, t, rfl, ⟨_, SqT.of (e1 _ _ ht)⟩, fun D hD => ?_⟩
      dsimp only [tNil]
      refine lc_all (walk_tup (K := K) (a := t) (xs := vs)) (by omega) hD (fun _ e => SqT.of (e _ _ (e1 _ _ ht))) (fun i v Ha Hb hi e y Qt kt => ?_) fun H2 e2 => ?_
      · obtain ⟨rfl, hx⟩ := y
        obtain ⟨p, hp1, a, rfl, ha⟩ := hv.get hx
        have hm := List.mem_of_getElem? hp1
        refine ⟨rfl, _, rfl, a, _, 1, _, rfl, rfl, SqT.of (e _ _ (e1 _ _ ha)), rfl, _, rfl, nl, _, rfl, .inl (SqL.of (e _ _ (e1 _ _ hn))), rfl, flat_strs _, ?_⟩
        refine q_b (Q := Qt) ?_ (kt _ (Same.refl _))
        show (if false = true then _ else inV (V.str p.2) (names.map V.str)) = true
        rw [if_neg Bool.false_ne_true, inV_strs]
        exact decide_eq_true (ok.mem _ hm)
      · have e12 := e1.trans e2
        refine ⟨_, rfl, iteF ?_⟩
        refine ⟨_, rfl, _, rfl, _, rfl, ?_⟩
        dsimp only [tNoPart]
        refine sl_from 1 (e12 _ _ ht) fun p H3 e3 hp => ?_
        have e13 := e12.trans e3
        refine ⟨t, p, _, _, rfl, .inr ⟨SqT.of (e13 _ _ ht), SqT.of hp, fun D hD => ?_⟩⟩
        refine lc_all (walk_zipT (K := K) (a := t) (b := p) (xs := vs) (ys := vs.drop 1) rfl) (by omega) hD (fun _ e => ⟨SqT.of (e _ _ (e13 _ _ ht)), SqT.of (e _ _ hp)⟩) (fun i v Ha Hb hi e y Qt kt => ?_) fun H3 e3 => k H3 (e13.trans e3)
        obtain ⟨q, x, y, rfl, hq, rfl, hx, hy⟩ := y
        replace hy : vs[1 + i]? = some y := by rw [← List.getElem?_drop]; exact hy
        obtain ⟨r1, hr1, a1, rfl, g1⟩ := hv.get hx
        obtain ⟨r2, hr2, a2, rfl, g2⟩ := hv.get hy
        have g1' := e _ _ (e13 _ _ g1)
        have g2' := e _ _ (e13 _ _ g2)
        refine ⟨q, _, rfl, SqT.of upd_same, rfl, _, _, rfl, _, _, rfl, rfl, rfl, ?_⟩
        refine ⟨_, rfl, _, rfl, a1, a2, [r1.1, r1.2], [r2.1, r2.2], rfl, rfl, SqT.of (by rw [upd_ne (ne_of_none g1' hq)]; exact g1'), SqT.of (by rw [upd_ne (ne_of_none g2' hq)]; exact g2'), ?_⟩
        rw [Nat.add_comm] at hr2
        exact q_b (Q := Qt) (ok.asc i r1 r2 hr1 hr2) (kt _ (Same.new hq))
theorem c_need_sort (T : Tx w K mg) : C8.Cal P w K mg base 1 "need_sort" (sp_need_sort K) [] := by
  obtain ⟨fd, F⟩ := T.F_need_sort
  refine ⟨_, fd, ["thing"], [], F.ok sc_need_sort (fun vs H Q E h => ?_) (fun cdv A outer s H vs Q E hr h => ?_), T.g_need_sort, F.kp, F.bindsN fun _ _ _ _ _ _ us hl => match us, hl with | [_], _ => rfl, .nil⟩
  · obtain ⟨x, t, rfl, _⟩ := h
    rfl
  · obtain ⟨x, b, rfl, ⟨dx, p, t, u, h1, h2⟩, k⟩ := h
    refine ⟨_, PSs.nox (pss_one (ps_if (pt_not (pt_val (pe_callB (C8.call_isC T.o_Sort) (by rfl) T.f_isinstance (by decide +kernel) (pa_cons (pv 0) (pa_cons (pe_gr rfl T.g_Sort) pa_nil))))) (pss_one ps_never) pss_nil)), ?_⟩
    exact ⟨_, rfl, x, dx, _, rfl, h1, _, rfl, iteF k⟩
theorem m_Sort_named (T : Tx w K mg) : C8.Met P w K mg base 1 (He.ga K "Sort") "named" (sp_Sort_named K) [] := by
  obtain ⟨fd, F⟩ := T.F_Sort_named
  refine ⟨_, fd, ["self"], [], T.c_Sort, T.m_Sort_named, F.ok sc_Sort_named (fun vs H Q E h => ?_) (fun cdv A outer s H vs Q E hr h => ?_), F.bindsN fun _ _ _ _ _ _ us hl => match us, hl with | [_], _ => rfl, .nil⟩
  · obtain ⟨x, b, rfl, _⟩ := h
    rfl
  · obtain ⟨x, b, rfl, ⟨dx, p, t, u, h1, h2⟩, k⟩ := h
    refine ⟨_, PSs.nox (pss_one (ps_ret (pe_fld (pv 0) rfl))), ?_⟩
    exact ⟨_, rfl, x, _, dx, _, _, rfl, h1, T.c_Sort, T.n_Sort_called, rfl, k⟩
theorem m_Sort_part_names (T : Tx w K mg) : C8.Met P w K mg base 1 (He.ga K "Sort") "part_names" (sp_Sort_part_names K) [] := by
  obtain ⟨fd, F⟩ := T.F_Sort_part_names
  refine ⟨_, fd, ["self"], [], T.c_Sort, T.m_Sort_part_names, F.ok sc_Sort_part_names (fun vs H Q E h => ?_) (fun cdv A outer s H vs Q E hr h => ?_), F.bindsN fun _ _ _ _ _ _ us hl => match us, hl with | [_], _ => rfl, .nil⟩
  · obtain ⟨x, b, rfl, _⟩ := h
    rfl
  · obtain ⟨x, b, rfl, ⟨dx, p, t, u, h1, h2, ⟨vs, ht, hv⟩, h4⟩, hl, k⟩ := h
    refine ⟨_, PSs.nox (pss_one (ps_ret (pe_lc (own := [("row", 1)]) (g := gName 1) rfl sc_Sort_part_names.nd (pi_tup (pe_fld (pv 0) rfl)) (blkOk_by (own := [("row", 1)]) (N := N_Sort_part_names) (sc := defScope s_Sort_part_names) (by decide +kernel)) (fun _ _ _ _ _ => (pg_name (i := 1) sc_Sort_part_names.nd rfl (Or.inl rfl))) (fun _ _ _ _ _ => pts_nil) (fun _ _ _ _ _ => (pe_ix (ix_tupK (K := K)) (pv 1) pe_int (fun _ _ => rfl)))))), ?_⟩
    refine ⟨_, rfl, x, _, dx, _, _, rfl, h1, T.c_Sort, T.n_Sort_part_rows, rfl, t, rfl, ⟨_, SqT.of ht⟩, fun D hD => ?_⟩
    refine lc_p (walk_tup (K := K) (a := t) (xs := vs)) (fun i acc H' => acc = ((b.rows.take i).map (·.1)).map V.str) (by have := hv.len; omega) hD (fun _ _ _ _ _ p => p) rfl (fun H' e => SqT.of (e _ _ ht)) ?_ ?_
    · rintro i acc v Ha Hb hi hl e rfl ⟨rfl, hx⟩ Qt Qf kt kf
      obtain ⟨r, hr1, a1, v1, v2, rfl, g1, _⟩ := hv.get hx
      refine ⟨rfl, _, rfl, a1, _, 0, _, rfl, rfl, SqT.of (e _ _ g1), rfl, ?_⟩
      exact kt _ _ (Same.refl _) (by rw [take_snoc hr1]; simp)
    · rintro zs H' e h _ rfl
      rw [hv.len, List.take_length] at h
      exact k H' D e h
theorem fn_Sort_init (T : Tx w K mg) {fd : FuncData} (F : FunD K d_Sort_init.name d_Sort_init.qual d_Sort_init.params d_Sort_init.body d_Sort_init.scope (d_Sort_init.dvs K) (d_Sort_init.kws K) (He.fAd K d_Sort_init.at_) fd) :
    FnOk P w K mg base CX0 4 (He.fAd K d_Sort_init.at_) fd ["self", "name", "promise", "parts", "barred"] (sp_Sort_init K) := by
  refine F.ok sc_Sort_init (fun vs H Q E h => ?_) (fun cdv A outer s H vs Q E hr h => ?_)
  · obtain ⟨x, dx, p, t, u, b, rfl, _⟩ := h
    rfl
  · obtain ⟨x, dx, p, t, u, b, rfl, hx, ok, hp, ht, hu, k⟩ := h
    refine ⟨_, PSs.nox (pss_cons (ps_if (pt_not (pt_val (C8.pe_c (c_is_name T) hr (by decide) rfl (pa_cons (pv 1) pa_nil)))) (pss_one ps_never) pss_nil)
      (pss_cons (ps_expr (C8.pe_c (c_need_promise T) hr (by decide) rfl (pa_cons (pv 2) pa_nil)))
      (pss_cons (ps_fld (pv 0) (pv 1) rfl)
      (pss_cons (ps_fld (pv 0) (pv 2) rfl)
      (pss_cons (ps_fld (pv 0) (pe_ifExp (pt_cmpR op_isN (pv 3) pe_non (nomark _)) (pe_tup pa_nil) (pv 3)) rfl)
      (pss_cons (ps_if (pt_not (pt_val (C8.pe_c (c_are_parts T) hr (by decide) rfl (pa_cons (pe_fld (pv 0) rfl) pa_nil)))) (pss_one ps_never) pss_nil)
      (pss_cons (ps_fld (pv 0) (pe_ifExp (pt_cmpR op_isN (pv 4) pe_non (nomark _)) (pe_tup pa_nil) (pv 4)) rfl)
      (pss_one (ps_if (pt_not (pt_val (C8.pe_c (c_are_barred T) hr (by decide) rfl (pa_cons (pe_fld (pv 0) rfl) (pa_cons (pe_lc (own := [("row", 5)]) (g := gName 5) rfl sc_Sort_init.nd (pi_tup (pe_fld (pv 0) rfl)) (blkOk_by (own := [("row", 5)]) (N := N_Sort_init) (sc := defScope s_Sort_init) (by decide +kernel)) (fun _ _ _ _ _ => (pg_name (i := 5) sc_Sort_init.nd rfl (Or.inl rfl))) (fun _ _ _ _ _ => pts_nil) (fun _ _ _ _ _ => (pe_ix (ix_tupK (K := K)) (pv 5) pe_int (fun _ _ => rfl)))) pa_nil))))) (pss_one ps_never) pss_nil))))))))), ?_⟩
    refine ⟨_, rfl, b.name, rfl, ok.nm, fun H1 e1 => ⟨_, rfl, iteF ?_⟩⟩
    refine ⟨_, rfl, p, b.prom, rfl, hp.mono (.of e1), ?_⟩
    have s1 : SX x H H1 := SBut.of e1
    refine ⟨_, rfl, _, rfl, x, _, dx, [], rfl, e1 _ _ hx, T.c_Sort, T.n_Sort_called, (by decide), ?_⟩
    refine ⟨_, rfl, _, rfl, x, _, dx, _, rfl, upd_same, T.c_Sort, T.n_Sort_promised, (show 1 < 1000 by decide), ?_⟩
    refine ⟨_, rfl, rfl, _, rfl, iteF ⟨_, rfl, _, rfl, x, _, dx, _, rfl, upd_same, T.c_Sort, T.n_Sort_part_rows, (show 2 < 1000 by decide), ?_⟩⟩
    have s2 := ((s1.trans (SX.upd (o := .ins (He.ga K "Sort") dx [("called", .str b.name)]))).trans (SX.upd (o := .ins (He.ga K "Sort") dx [("called", .str b.name), ("promised", .ref p)]))).trans (SX.upd (o := .ins (He.ga K "Sort") dx [("called", .str b.name), ("promised", .ref p), ("part_rows", .ref t)]))
    refine ⟨_, rfl, x, _, dx, _, _, rfl, upd_same, T.c_Sort, T.n_Sort_part_rows, rfl, t, b.rows, rfl, ht.monoF (SX.fs (f := "called") s2 hx okF.nil), ok.rows, fun H2 e2 => ⟨_, rfl, iteF ?_⟩⟩
    have hx2 := e2 x _ upd_same
    refine ⟨_, rfl, rfl, _, rfl, iteF ⟨_, rfl, _, rfl, x, _, dx, _, rfl, hx2, T.c_Sort, T.n_Sort_barred_pairs, (show 3 < 1000 by decide), ?_⟩⟩
    have s3 := (s2.trans (SBut.of e2)).trans (SX.upd (o := .ins (He.ga K "Sort") dx [("called", .str b.name), ("promised", .ref p), ("part_rows", .ref t), ("barred_pairs", .ref u)]))
    have f3 := SX.fs (f := "called") s3 hx okF.nil
    obtain ⟨vs, ht', hv⟩ := ht.monoF f3
    refine ⟨_, rfl, x, _, dx, _, _, rfl, upd_same, T.c_Sort, T.n_Sort_barred_pairs, rfl, ?_⟩
    refine ⟨_, rfl, x, _, dx, _, _, rfl, upd_same, T.c_Sort, T.n_Sort_part_rows, rfl, t, rfl, ⟨_, SqT.of ht'⟩, fun D hD => ?_⟩
    dsimp only [tNil]
    refine lc_p (walk_tup (K := K) (a := t) (xs := vs)) (fun i acc H' => acc = ((b.rows.take i).map (·.1)).map V.str) (by have := hv.len; have := ok.rows.len; omega) hD (fun _ _ _ _ _ p => p) rfl (fun H' e => SqT.of (e _ _ ht')) ?_ ?_
    · rintro i acc v Ha Hb hi hl e rfl ⟨rfl, hx⟩ Qt Qf kt kf
      obtain ⟨r, hr1, a1, v1, v2, rfl, g1, _⟩ := hv.get hx
      refine ⟨rfl, _, rfl, a1, _, 0, _, rfl, rfl, SqT.of (e _ _ g1), rfl, ?_⟩
      exact kt _ _ (Same.refl _) (by rw [take_snoc hr1]; simp)
    · rintro zs H4 e h _ rfl
      rw [hv.len, List.take_length] at h
      have s4 := s3.trans (SBut.of e)
      have f4 := SX.fs (f := "called") s4 hx okF.nil
      refine ⟨u, D, _, b.barred, rfl, hu.monoF f4, h, ok.pairs, fun H5 e5 => ⟨_, rfl, iteF ?_⟩⟩
      have s5 := s4.trans (SBut.of e5)
      have f5 := SX.fs (f := "called") s5 hx okF.nil
      refine k H5 (fun a o ha hn => s5 a o hn ha) ⟨dx, p, t, u, ?_, hp.monoF f5, ht.monoF f5, hu.monoF f5⟩
      exact e5 _ _ (e _ _ upd_same)
end
end Wk
end

section
set_option Elab.async false
set_option linter.all false
set_option maxRecDepth 100000
/-! what a sort tells; Book -/
namespace Wk
open PySem PySem.Spec L2 RZ
/-- a book of one sort -/
structure BookAt (K : PySem.W.Frag) (H : Hp) (x d : Addr) (s : SortD) : Prop where
  ex : ∃ dx a, H x = some (.ins (He.ga K "Book") dx [("sorts", .ref d)]) ∧ H d = some (.dK [(Sum.inr s.name, .ref a)]) ∧ SortAt K H a s
def heldB (s : SortD) (r : RowD) : B3 := r.2.1.getD s.prom
def heldW (r : RowD) : Str := match r.2.1 with
  | none => "whole"
  | some _ => "own"
abbrev NsE (K : PySem.W.Frag) (E : XK) (H : Hp) : Prop := ∀ (d : Addr) (H' : Hp), Same H H' → E (.ref (He.ga K "NoSuch")) (some d) H'
def sp_row_of (K : PySem.W.Frag) : Sp := fun vs H Q E => ∃ (x : Addr) (p : Str) (s : SortD), vs = [.ref x, .str p] ∧ SortAt K H x s ∧ SortOk s ∧ Nm p ∧ (∀ r, rowOf s.rows p = some r → ∀ H' v, Same H H' → RowAt K H' v r → Q v H') ∧ (rowOf s.rows p = none → NsE K E H)
def sp_held_by (K : PySem.W.Frag) : Sp := fun vs H Q E => ∃ (x : Addr) (p : Str) (s : SortD), vs = [.ref x, .str p] ∧ SortAt K H x s ∧ SortOk s ∧ Nm p ∧
  (∀ r, rowOf s.rows p = some r → ∀ (H' : Hp) (t pa : Addr), Same H H' → H' t = some (.tup [.str (heldW r), .ref pa]) → PromAt K H' pa (heldB s r) → Q (.ref t) H') ∧ (rowOf s.rows p = none → NsE K E H)
def sp_mended_by (K : PySem.W.Frag) : Sp := fun vs H Q E => ∃ (x : Addr) (p : Str) (s : SortD), vs = [.ref x, .str p] ∧ SortAt K H x s ∧ SortOk s ∧ Nm p ∧
  (∀ r, rowOf s.rows p = some r → ∀ (H' : Hp) (v : V), Same H H' → PromO K H' v r.2.2 → Q v H') ∧ (rowOf s.rows p = none → NsE K E H)
def sp_is_barred (K : PySem.W.Frag) : Sp := fun vs H Q _ => ∃ (x : Addr) (m p : Str) (s : SortD), vs = [.ref x, .str m, .str p] ∧ SortAt K H x s ∧ SortOk s ∧ Nm m ∧ Nm p ∧ ∀ H', Same H H' → Q (.bl (decide ((m, p) ∈ s.barred))) H'
def sp_Book_init (K : PySem.W.Frag) : Sp := fun vs H Q _ => ∃ (x dx : Addr), vs = [.ref x] ∧ H x = some (.ins (He.ga K "Book") dx []) ∧
  ∀ (H' : Hp) (d : Addr), (∀ a o, H a = some o → a ≠ x → H' a = some o) → H d = none → H' d = some (.dK []) → H' x = some (.ins (He.ga K "Book") dx [("sorts", .ref d)]) → Q .non H'
def sp_Book_add (K : PySem.W.Frag) : Sp := fun vs H Q _ => ∃ (x dx d a : Addr) (s : SortD), vs = [.ref x, .ref a] ∧ H x = some (.ins (He.ga K "Book") dx [("sorts", .ref d)]) ∧ H d = some (.dK []) ∧ SortAt K H a s ∧
  (∀ H', SX d H H' → BookAt K H' x d s → Q .non H')
def sp_sort_of (K : PySem.W.Frag) : Sp := fun vs H Q E => ∃ (x d : Addr) (s : SortD) (n : Str), vs = [.ref x, .str n] ∧ BookAt K H x d s ∧ Nm n ∧ (n = s.name → ∀ H' a, Same H H' → SortAt K H' a s → Q (.ref a) H') ∧ (n ≠ s.name → NsE K E H)
section
variable {P : Program} {w : World} {K : PySem.W.Frag} {mg : Str → Option Value} {base : Heap}
theorem kn_Sort (T : Tx w K mg) : MakN P w K mg base 4 "Sort" (He.ga K "Sort") (sp_Sort_init K) 2 ["parts", "barred"] (fun vs zs => vs ++ zs) := by
  obtain ⟨fd, F⟩ := T.F_Sort_init
  obtain ⟨its, b⟩ := F.kbindsD (ps := ["self", "name", "promise", "parts", "barred"]) 3 ["parts", "barred"] (fun us _ ws => us ++ ws) (by simp [d_Sort_init, He.DefD.dvs]) (fun r1 _ r3 => r1.append r3) (fun T kV doc pm an cdv ct us its ws h1 h2 h3 => by
    match us, its, ws, h1, h2, h3 with
    | [_, _, _], [_, _], [_, _], _, _, _ => exact ⟨_, rfl, rfl⟩)
  exact ⟨_, fd, _, _, T.k_Sort, fn_Sort_init T F, T.g_Sort, b⟩
theorem rowOf_some {rs : List RowD} {p : Str} {i : Nat} {r : RowD} (h : rs[i]? = some r) (e : r.1 = p) (n : ∀ j, j < i → ∀ q, rs[j]? = some q → q.1 ≠ p) : rowOf rs p = some r := by
  unfold rowOf
  obtain ⟨hi, hr⟩ := List.getElem?_eq_some_iff.mp h
  rw [List.find?_eq_some_iff_getElem]
  refine ⟨by simp [e], i, hi, hr, fun j hj => ?_⟩
  have := n j hj rs[j] (by simp [Nat.lt_trans hj hi])
  simpa using this
theorem rowOf_none {rs : List RowD} {p : Str} (n : ∀ q ∈ rs, q.1 ≠ p) : rowOf rs p = none := by
  unfold rowOf
  rw [List.find?_eq_none]
  intro q hq
  simpa using n q hq
theorem rowOf_fst {rs : List RowD} {p : Str} {r : RowD} (h : rowOf rs p = some r) : r.1 = p := by
  have := List.find?_some h
  simpa using this
theorem m_Sort_row_of (T : Tx w K mg) : MetX P w K mg base 3 (He.ga K "Sort") "row_of" (sp_row_of K) := by
  obtain ⟨fd, F⟩ := T.F_Sort_row_of
  refine ⟨_, fd, ["self", "part"], T.c_Sort, T.m_Sort_row_of, F.ok sc_Sort_row_of (fun vs H Q E h => ?_) (fun cdv A outer s H vs Q E hr h => ?_), F.bindsN fun _ _ _ _ _ _ us hl => match us, hl with | [_, _], _ => rfl⟩
  · obtain ⟨x, p, s, rfl, _⟩ := h
    rfl
  · obtain ⟨x, p, s, rfl, ⟨dx, pr, t, u, h1, h2, ⟨vs, ht, hv⟩, h4⟩, ok, hp, k1, k2⟩ := h
    refine ⟨_, (pss_cons (ps_nox (ps_if (pt_val (C8.pe_c (c_is_name T) hr (by decide) rfl (pa_cons (pv 1) pa_nil))) (pss_one (ps_for PassesOwn.never rfl (pi_tup (pe_fld (pv 0) rfl)) (pg_name (i := 2) sc_Sort_row_of.nd rfl (Or.inl rfl)) (pss_one (ps_if (pt_cmpR op_eq (pe_ix ix_tup (pv 2) pe_int (fun _ _ => rfl)) (pv 1) (nomark _)) (pss_one (ps_ret (pv 2))) pss_nil)))) pss_nil))
      (pss_one (ps_raiseNS T rfl (hr.mono (by decide)) (takes_of rfl rfl rfl rfl) rfl (pv 1)))), ?_⟩
    refine ⟨_, rfl, p, rfl, hp, fun H1 e1 => ⟨_, rfl, iteT ?_⟩⟩
    refine ⟨_, rfl, x, _, dx, _, _, rfl, e1 _ _ h1, T.c_Sort, T.n_Sort_part_rows, rfl, t, rfl, ⟨_, SqT.of (e1 _ _ ht)⟩, ?_⟩
    refine for_it (walk_tup (K := K) (a := t) (xs := vs)) (fun i σ H' => ∃ y, σ = [some (.ref x), some (.str p), y] ∧ Same H H' ∧ ∀ j, j < i → ∀ q, s.rows[j]? = some q → q.1 ≠ p) ⟨_, rfl, e1, fun j hj => by omega⟩ (fun i σ H' _ ⟨_, _, e, _⟩ => SqT.of (e _ _ ht)) ?_ ?_
    · rintro i v σ Ha Hb hi ⟨x0, rfl, e, n⟩ ⟨rfl, hx⟩
      obtain ⟨r, hr1, a1, v1, v2, rfl, g1, g2, g3⟩ := hv.get hx
      refine ⟨_, rfl, a1, _, 0, _, rfl, rfl, SqT.of (e _ _ g1), rfl, _, rfl, rfl, _, rfl, ite2b (fun hb => ?_) (fun hb => ?_)⟩
      · have hb' : r.1 = p := by
          have := of_decide_eq_true hb
          injection this
        exact ⟨_, rfl, k1 r (rowOf_some hr1 hb' n) _ _ e ⟨a1, v1, v2, rfl, e _ _ g1, g2.mono (.of e), g3.mono (.of e)⟩⟩
      · refine ⟨_, rfl, e, fun j hj q hq => ?_⟩
        by_cases z : j = i
        · subst z
          rw [hr1] at hq
          cases hq
          exact fun z => of_decide_eq_false hb (by rw [z])
        · exact n j (by omega) q hq
    · rintro σ H2 ⟨y, rfl, e, n⟩
      refine ⟨_, rfl, fun d H3 e3 => k2 (rowOf_none fun q hq => ?_) d H3 (e.trans e3)⟩
      obtain ⟨j, hj⟩ := List.getElem?_of_mem hq
      exact n j (by
        obtain ⟨hj', _⟩ := List.getElem?_eq_some_iff.mp hj
        rw [hv.len]
        exact hj') q hj
theorem m_Sort_held_by (T : Tx w K mg) : MetX P w K mg base 4 (He.ga K "Sort") "held_by" (sp_held_by K) := by
  obtain ⟨fd, F⟩ := T.F_Sort_held_by
  refine ⟨_, fd, ["self", "part"], T.c_Sort, T.m_Sort_held_by, F.ok sc_Sort_held_by (fun vs H Q E h => ?_) (fun cdv A outer s H vs Q E hr h => ?_), F.bindsN fun _ _ _ _ _ _ us hl => match us, hl with | [_, _], _ => rfl⟩
  · obtain ⟨x, p, s, rfl, _⟩ := h
    rfl
  · obtain ⟨x, p, s, rfl, hs, ok, hp, k1, k2⟩ := h
    obtain ⟨dx, pr, t, u, h1, h2, h3, h4⟩ := id hs
    refine ⟨_, (pss_cons (ps_set (i := 2) sc_Sort_held_by.nd rfl (Or.inl rfl) (pe_ix ix_tup (pe_mtE (m_Sort_row_of T) (fun σ => passAt (takes_of rfl rfl rfl rfl) σ) hr (by decide) (pv 0) (pa_cons (pv 1) pa_nil)) pe_int (fun _ _ => rfl)))
      (pss_one (ps_ret (pe_ifExp (pt_cmpR op_isN (pv 2) pe_non (nomark _)) (pe_tup (pa_cons pe_str (pa_cons (pe_fld (pv 0) rfl) pa_nil))) (pe_tup (pa_cons pe_str (pa_cons (pv 2) pa_nil))))))), ?_⟩
    refine ⟨_, rfl, x, dx, _, rfl, h1, rfl, _, rfl, x, p, s, rfl, hs, ok, hp, fun r hr' H1 v e1 ra => ?_, fun hn d H1 e1 => k2 hn d H1 e1⟩
    obtain ⟨a, v1, v2, rfl, g1, g2, g3⟩ := ra
    refine ⟨a, _, 1, _, rfl, rfl, SqT.of g1, rfl, ?_⟩
    have h1' := e1 _ _ h1
    cases hq : r.2.1 with
    | none =>
      rw [hq] at g2
      obtain rfl : v1 = .non := g2
      refine ⟨_, rfl, rfl, _, rfl, iteT ?_⟩
      refine ⟨_, rfl, x, _, dx, _, _, rfl, h1', T.c_Sort, T.n_Sort_promised, rfl, sz2, fun q hq' => ?_⟩
      refine k1 r hr' _ q pr (e1.trans (Same.new hq')) ?_ ?_
      · rw [upd_same, heldW, hq]
      · rw [heldB, hq]
        exact h2.mono (.of (e1.trans (Same.new hq')))
    | some b =>
      rw [hq] at g2
      obtain ⟨pa, rfl, hpa⟩ := g2
      refine ⟨_, rfl, rfl, _, rfl, iteF ?_⟩
      refine ⟨_, rfl, sz2, fun q hq' => ?_⟩
      refine k1 r hr' _ q pa (e1.trans (Same.new hq')) ?_ ?_
      · rw [upd_same, heldW, hq]
      · rw [heldB, hq]
        exact hpa.mono (.of (Same.new hq'))
theorem m_Sort_mended_by (T : Tx w K mg) : MetX P w K mg base 4 (He.ga K "Sort") "mended_by" (sp_mended_by K) := by
  obtain ⟨fd, F⟩ := T.F_Sort_mended_by
  refine ⟨_, fd, ["self", "part"], T.c_Sort, T.m_Sort_mended_by, F.ok sc_Sort_mended_by (fun vs H Q E h => ?_) (fun cdv A outer s H vs Q E hr h => ?_), F.bindsN fun _ _ _ _ _ _ us hl => match us, hl with | [_, _], _ => rfl⟩
  · obtain ⟨x, p, s, rfl, _⟩ := h
    rfl
  · obtain ⟨x, p, s, rfl, hs, ok, hp, k1, k2⟩ := h
    obtain ⟨dx, pr, t, u, h1, h2, h3, h4⟩ := id hs
    refine ⟨_, (pss_one (ps_ret (pe_ix ix_tup (pe_mtE (m_Sort_row_of T) (fun σ => passAt (takes_of rfl rfl rfl rfl) σ) hr (by decide) (pv 0) (pa_cons (pv 1) pa_nil)) pe_int (fun _ _ => rfl)))), ?_⟩
    refine ⟨_, rfl, x, dx, _, rfl, h1, rfl, _, rfl, x, p, s, rfl, hs, ok, hp, fun r hr' H1 v e1 ra => ?_, fun hn d H1 e1 => k2 hn d H1 e1⟩
    obtain ⟨a, v1, v2, rfl, g1, g2, g3⟩ := ra
    exact ⟨a, _, 2, _, rfl, rfl, SqT.of g1, rfl, k1 r hr' H1 v2 e1 g3⟩
/-! ### data of pairs -/
theorem Nm.ok {x : Str} (h : Nm x) : PyData.strOk x = true := by
  unfold PyData.strOk
  rw [Array.all_eq_true']
  intro c hc
  have := h.low c (Array.mem_toList_iff.mpr hc)
  exact decide_eq_true (by omega)
def prD2 (p : Str × Str) : PyData := .tuple [.str p.1, .str p.2]
theorem dp_pair {K : PySem.W.Frag} {H : Hp} {v : V} {p : Str × Str} (h : PairAt H v p) : Dp K H v (prD2 p) := by
  obtain ⟨a, rfl, ha⟩ := h
  exact .tup (SqT.of ha) (.cons (.str _) (.cons (.str _) .nil))
theorem dp_all {α : Type} {K : PySem.W.Frag} {H : Hp} {F : V → α → Prop} {g : α → PyData} (k : ∀ v r, F v r → Dp K H v (g r)) : ∀ (vs : List V) (rs : List α), AllAt F vs rs → DpAll K H vs (rs.map g)
  | [], [], _ => .nil
  | [], _ :: _, h => by have := h.len; simp at this
  | _ :: _, [], h => by have := h.len; simp at this
  | v :: vs, r :: rs, h => .cons (k v r (h.at_ 0 v r rfl rfl)) (dp_all k vs rs ⟨by have := h.len; simpa using this, fun i v r h1 h2 => h.at_ (i + 1) v r (by simpa using h1) (by simpa using h2)⟩)
theorem shp_pair {p : Str × Str} (h1 : Nm p.1) (h2 : Nm p.2) : SeqAt.shaped (prD2 p) = true := by
  unfold SeqAt.shaped prD2
  rw [Bool.and_eq_true]
  exact ⟨by simp [PyData.canLay0, PyData.canLayAll0, h1.ok, h2.ok], decide_eq_true (by simp [PyData.depth, PyData.depthAll])⟩
theorem lay_pairs : ∀ ps : List (Str × Str), (∀ p ∈ ps, Nm p.1 ∧ Nm p.2) → PyData.canLayAll0 (ps.map prD2) = true ∧ PyData.depthAll (ps.map prD2) ≤ 1
  | [], _ => by simp [PyData.canLayAll0, PyData.depthAll]
  | p :: r, h => by
    obtain ⟨i1, i2⟩ := lay_pairs r (fun z hz => h z (List.mem_cons_of_mem _ hz))
    obtain ⟨h1, h2⟩ := h p (List.mem_cons_self ..)
    refine ⟨?_, ?_⟩
    · simp [PyData.canLayAll0, prD2, PyData.canLay0, h1.ok, h2.ok]
      exact i1
    · simp [PyData.depthAll, prD2, PyData.depth]
      exact Nat.max_le.mpr ⟨Nat.le_refl _, i2⟩
theorem shp_pairs (ps : List (Str × Str)) (h : ∀ p ∈ ps, Nm p.1 ∧ Nm p.2) : SeqAt.shaped (.tuple (ps.map prD2)) = true := by
  obtain ⟨i1, i2⟩ := lay_pairs ps h
  unfold SeqAt.shaped
  rw [Bool.and_eq_true]
  exact ⟨by simpa [PyData.canLay0] using i1, decide_eq_true (by simp only [PyData.depth]; omega)⟩
theorem any_pairs (q : Str × Str) (ps : List (Str × Str)) : ((ps.map prD2).any fun z => PyData.eqv z (prD2 q)) = decide (q ∈ ps) := by
  rw [List.any_map, Bool.eq_iff_iff, List.any_eq_true, decide_eq_true_iff]
  constructor
  · rintro ⟨p, hp, e⟩
    simp [prD2, PyData.eqv, PyData.eqvAll] at e
    have : p = q := Prod.ext e.1 e.2
    exact this ▸ hp
  · intro h
    exact ⟨q, h, by simp [prD2, PyData.eqv, PyData.eqvAll]⟩
theorem m_Sort_is_barred (T : Tx w K mg) : C8.Met P w K mg base 2 (He.ga K "Sort") "is_barred" (sp_is_barred K) [] := by
  obtain ⟨fd, F⟩ := T.F_Sort_is_barred
  refine ⟨_, fd, ["self", "misuse", "part"], [], T.c_Sort, T.m_Sort_is_barred, F.ok sc_Sort_is_barred (fun vs H Q E h => ?_) (fun cdv A outer s H vs Q E hr h => ?_), F.bindsN fun _ _ _ _ _ _ us hl => match us, hl with | [_, _, _], _ => rfl, .nil⟩
  · obtain ⟨x, m, p, b, rfl, _⟩ := h
    rfl
  · obtain ⟨x, m, p, s, rfl, ⟨dx, pr, t, u, h1, h2, h3, ⟨vs, hu, hv⟩⟩, ok, hm, hp, k⟩ := h
    refine ⟨_, PSs.nox (pss_one (ps_ret (pe_and (C8.pe_c (c_is_name T) hr (by decide) rfl (pa_cons (pv 1) pa_nil)) (pe_and (C8.pe_c (c_is_name T) hr (by decide) rfl (pa_cons (pv 2) pa_nil)) (pe_one (pe_cmpR (op_inDT (hu65 hr)) (pe_tup (pa_cons (pv 1) (pa_cons (pv 2) pa_nil))) (pe_fld (pv 0) rfl) (by with_unfolding_all rfl))))))), ?_⟩
    refine ⟨_, rfl, m, rfl, hm, fun H1 e1 => ⟨_, rfl, iteT ?_⟩⟩
    refine ⟨_, rfl, p, rfl, hp, fun H2 e2 => ⟨_, rfl, iteT ?_⟩⟩
    have e12 := e1.trans e2
    refine ⟨_, rfl, _, rfl, sz2, fun q hq => ?_⟩
    have e3 := e12.trans (Same.new (o := .tup [.str m, .str p]) hq)
    refine ⟨_, rfl, x, _, dx, _, _, rfl, e3 _ _ h1, T.c_Sort, T.n_Sort_barred_pairs, rfl, prD2 (m, p), s.barred.map prD2, dp_pair ⟨q, rfl, upd_same⟩, .tup (SqT.of (e3 _ _ hu)) (dp_all (fun v r h => dp_pair h) _ _ (hv.mono fun _ _ => PairAt.mono (.of e3))), shp_pair hm hp, shp_pairs _ (fun p hp => ⟨ok.pairs.n1 p hp, ok.pairs.n2 p hp⟩), ?_⟩
    rw [any_pairs]
    exact k _ e3
/-! ### Book -/
theorem k_Book (T : Tx w K mg) : C8.Mak P w K mg base 1 "Book" (He.ga K "Book") (sp_Book_init K) [] := by
  obtain ⟨fd, F⟩ := T.F_Book_init
  refine ⟨_, fd, ["self"], [], T.k_Book, F.ok sc_Book_init (fun vs H Q E h => ?_) (fun cdv A outer s H vs Q E hr h => ?_), T.g_Book, F.bindsN fun _ _ _ _ _ _ us hl => match us, hl with | [_], _ => rfl, .nil⟩
  · obtain ⟨x, b, rfl, _⟩ := h
    rfl
  · obtain ⟨x, dx, rfl, h1, k⟩ := h
    refine ⟨_, PSs.nox (pss_one (ps_fld (pv 0) pe_dnewK rfl)), ?_⟩
    refine fun d hd => ⟨_, rfl, x, _, dx, [], rfl, (by rw [upd_ne (ne_of_none h1 hd)]; exact h1), T.c_Book, T.n_Book_sorts, (by decide), ?_⟩
    refine k _ d (fun a o ha hn => ?_) hd ?_ upd_same
    · rw [upd_ne hn, upd_ne (ne_of_none ha hd)]
      exact ha
    · rw [upd_ne (ne_of_none h1 hd).symm, upd_same]
theorem m_Book_add (T : Tx w K mg) : C8.Met P w K mg base 2 (He.ga K "Book") "add" (sp_Book_add K) [] := by
  obtain ⟨fd, F⟩ := T.F_Book_add
  refine ⟨_, fd, ["self", "sort"], [], T.c_Book, T.m_Book_add, F.ok sc_Book_add (fun vs H Q E h => ?_) (fun cdv A outer s H vs Q E hr h => ?_), F.bindsN fun _ _ _ _ _ _ us hl => match us, hl with | [_, _], _ => rfl, .nil⟩
  · obtain ⟨x, dx, d, a, b, rfl, _⟩ := h
    rfl
  · obtain ⟨x, dx, d, a, b, rfl, h1, hd, hs, k⟩ := h
    obtain ⟨dx2, pr, t, u, g1, g2, g3, g4⟩ := id hs
    have hu := hu_of hr
    refine ⟨_, PSs.nox (pss_cons (ps_expr (C8.pe_c (c_need_sort T) hr (by decide) rfl (pa_cons (pv 1) pa_nil)))
      (pss_cons (ps_if (pt_cmp (pc_din hu (C8.pe_mt0 (m_Sort_named T) hr (by decide) (pv 1)) (pe_fld (pv 0) rfl))) (pss_one ps_never) pss_nil)
      (pss_cons (ps_if (pt_cmpR op_eq (pe_callB call_lenD (by rfl) T.f_len (by decide +kernel) (pa_cons (pe_fld (pv 0) rfl) pa_nil)) (C8.pe_gc rfl T.i_MOST_SORTS) (nomark _)) (pss_one ps_never) pss_nil)
      (pss_one (ps_dput hu (pe_fld (pv 0) rfl) (C8.pe_mt0 (m_Sort_named T) hr (by decide) (pv 1)) (pv 1) rfl))))), ?_⟩
    refine ⟨_, rfl, a, b, rfl, hs, ?_⟩
    refine ⟨_, rfl, a, dx2, _, rfl, g1, rfl, a, b, rfl, hs, ?_⟩
    refine ⟨_, rfl, x, _, dx, _, _, rfl, h1, T.c_Book, T.n_Book_sorts, rfl, d, _, rfl, DGet.k (k := Sum.inr b.name) hd, _, rfl, iteF ?_⟩
    refine ⟨_, rfl, x, _, dx, _, _, rfl, h1, T.c_Book, T.n_Book_sorts, rfl, d, _, rfl, hd, rfl, _, rfl, iteF ?_⟩
    refine ⟨_, rfl, _, rfl, x, _, dx, _, _, rfl, h1, T.c_Book, T.n_Book_sorts, rfl, ?_⟩
    refine ⟨_, rfl, a, dx2, _, rfl, g1, rfl, a, b, rfl, hs, d, _, rfl, DPut.k (k := Sum.inr b.name) hd (by decide), ?_⟩
    have nxd : x ≠ d := ne_of h1 hd (fun z => by cases z)
    refine k _ SX.upd ⟨dx, a, ?_, upd_same, hs.mono (ISame.dK hd)⟩
    rw [upd_ne nxd]
    exact h1
theorem m_Book_sort_of (T : Tx w K mg) : MetX P w K mg base 3 (He.ga K "Book") "sort_of" (sp_sort_of K) := by
  obtain ⟨fd, F⟩ := T.F_Book_sort_of
  refine ⟨_, fd, ["self", "name"], T.c_Book, T.m_Book_sort_of, F.ok sc_Book_sort_of (fun vs H Q E h => ?_) (fun cdv A outer s H vs Q E hr h => ?_), F.bindsN fun _ _ _ _ _ _ us hl => match us, hl with | [_, _], _ => rfl⟩
  · obtain ⟨x, d, p, s, rfl, _⟩ := h
    rfl
  · obtain ⟨x, d, s, n, rfl, ⟨dx, a, h1, hd, hs⟩, hn, k1, k2⟩ := h
    have hu := hu_of hr
    refine ⟨_, (pss_cons (ps_if (PW.pt (pw_or (pt_not (pt_val (C8.pe_c (c_is_name T) hr (by decide) rfl (pa_cons (pv 1) pa_nil)))) (pw_or1 (pt_cmp (pc_dnotin hu (pv 1) (pe_fld (pv 0) rfl)))))) (pss_one (ps_raiseNS T rfl (hr.mono (by decide)) (takes_of rfl rfl rfl rfl) rfl (pv 1))) pss_nil)
      (pss_one (ps_ret (pe_dget hu (pe_fld (pv 0) rfl) (pv 1) (fun _ _ => rfl))))), ?_⟩
    refine ⟨_, rfl, n, rfl, hn, fun H1 e1 => ⟨_, rfl, iteF ?_⟩⟩
    have hd1 := e1 _ _ hd
    refine ⟨_, rfl, _, rfl, x, _, dx, _, _, rfl, e1 _ _ h1, T.c_Book, T.n_Book_sorts, rfl, d, _, rfl, DGet.k (k := Sum.inr n) hd1, ?_⟩
    by_cases e : n = s.name
    · subst e
      have hv : valV [((Sum.inr s.name : Key), V.ref a)] (Sum.inr s.name) = some (.ref a) := valV_pos rfl
      rw [hv]
      refine ⟨_, rfl, iteF ?_⟩
      refine ⟨_, rfl, x, _, dx, _, _, rfl, e1 _ _ h1, T.c_Book, T.n_Book_sorts, rfl, _, rfl, d, .ref a, rfl, ?_, k1 rfl H1 a e1 (hs.mono (.of e1))⟩
      rw [← hv]
      exact DGet.k (k := Sum.inr s.name) hd1
    · have hv : valV [((Sum.inr s.name : Key), V.ref a)] (Sum.inr n) = none := valV_neg (fun z => e (Sum.inr.inj z).symm)
      rw [hv]
      refine ⟨_, rfl, iteT ?_⟩
      exact ⟨_, rfl, fun d' H2 e2 => k2 e d' H2 (e1.trans e2)⟩
end
end Wk
end

section
set_option Elab.async false
set_option linter.all false
set_option maxRecDepth 100000
/-! questions and answers -/
namespace Wk
open PySem PySem.Spec L2 RZ
def sv : Option Str → V
  | none => .non
  | some m => .str m
def T3O (H : Hp) (v : V) : Option T3 → Prop
  | none => v = .non
  | some t => T3At H v t
structure QD where
  sort : Str
  part : Str
  since : T3
  again : Option T3
  mis : Option Str
def le3 (a b : T3) : Prop := a.1 ≤ b.1 ∧ a.2.1 ≤ b.2.1 ∧ a.2.2 ≤ b.2.2
structure QOk (q : QD) : Prop where
  sort : Nm q.sort
  part : Nm q.part
  since : T3ok q.since
  again : ∀ a, q.again = some a → T3ok a ∧ le3 a q.since
  mis : ∀ m, q.mis = some m → Nm m
structure QuestAt (K : PySem.W.Frag) (H : Hp) (x : Addr) (q : QD) : Prop where
  ex : ∃ dx t v va, H x = some (.ins (He.ga K "Question") dx [("things_asked", .ref t)]) ∧ H t = some (.tup [.str q.sort, .str q.part, v, va, sv q.mis]) ∧ T3At H v q.since ∧ T3O H va q.again
theorem T3O.mono {H H' : Hp} {v : V} {b : Option T3} (e : ISame H H') (h : T3O H v b) : T3O H' v b := by
  cases b with
  | none => exact h
  | some b => exact T3At.mono e h
theorem QuestAt.mono {K : PySem.W.Frag} {H H' : Hp} {x : Addr} {q : QD} (e : ISame H H') : QuestAt K H x q → QuestAt K H' x q := fun ⟨dx, t, v, va, h1, h2, h3, h4⟩ => ⟨dx, t, v, va, e.ins _ _ _ _ h1, e.tup _ _ h2, h3.mono e, h4.mono e⟩
def keptBy : Option B3 → Option T3 → Bool
  | some m, some a => holds3 m a
  | _, _ => false
def barBy (s : SortD) (p : Str) : Option Str → Bool
  | none => false
  | some m => decide ((m, p) ∈ s.barred)
def ansOf (s : SortD) (q : QD) : Str :=
  if q.sort = s.name then match rowOf s.rows q.part with
    | none => "unknown"
    | some r => if barBy s q.part q.mis = true then "falls" else if (holds3 (heldB s r) q.since || keptBy r.2.2 q.again) = true then "stands" else "falls"
  else "unknown"
def sp_is_triple : Sp := fun vs H Q _ => ∃ v t, vs = [v] ∧ T3At H v t ∧ T3ok t ∧ ∀ H', Same H H' → Q (.bl true) H'
def sp_is_at_most : Sp := fun vs H Q _ => ∃ v u s t, vs = [v, u] ∧ T3At H v s ∧ T3At H u t ∧ le3 s t ∧ ∀ H', Same H H' → Q (.bl true) H'
def sp_Question_init (K : PySem.W.Frag) : Sp := fun vs H Q _ => ∃ (x dx : Addr) (v va : V) (q : QD), vs = [.ref x, .str q.sort, .str q.part, v, va, sv q.mis] ∧ H x = some (.ins (He.ga K "Question") dx []) ∧ QOk q ∧ T3At H v q.since ∧ T3O H va q.again ∧
  ∀ H' : Hp, (∀ a o, H a = some o → a ≠ x → H' a = some o) → QuestAt K H' x q → Q .non H'
def sp_asked (K : PySem.W.Frag) : Sp := fun vs H Q _ => ∃ (x dx t : Addr), vs = [.ref x] ∧ H x = some (.ins (He.ga K "Question") dx [("things_asked", .ref t)]) ∧ Q (.ref t) H
def sp_need_book (K : PySem.W.Frag) : Sp := fun vs H Q _ => ∃ (x d : Addr) (s : SortD), vs = [.ref x] ∧ BookAt K H x d s ∧ Q .non H
def sp_promises_on (K : PySem.W.Frag) : Sp := fun vs H Q _ => ∃ (x d : Addr) (s : SortD) (n p : Str), vs = [.ref x, .str n, .str p] ∧ BookAt K H x d s ∧ SortOk s ∧ Nm n ∧ Nm p ∧
  (n = s.name → ∀ r, rowOf s.rows p = some r → ∀ (H' : Hp) (t pa : Addr) (v : V), Same H H' → H' t = some (.tup [.ref pa, v]) → PromAt K H' pa (heldB s r) → PromO K H' v r.2.2 → Q (.ref t) H') ∧
  (n ≠ s.name ∨ rowOf s.rows p = none → ∀ H', Same H H' → Q .non H')
def sp_is_kept (K : PySem.W.Frag) : Sp := fun vs H Q _ => ∃ (t pa : Addr) (vm v va : V) (b : B3) (mo : Option B3) (s : T3) (ao : Option T3), vs = [.ref t, v, va] ∧ H t = some (.tup [.ref pa, vm]) ∧ PromAt K H pa b ∧ PromO K H vm mo ∧ T3At H v s ∧ T3ok s ∧ T3O H va ao ∧ (∀ a, ao = some a → T3ok a) ∧
  ∀ H', Same H H' → Q (.bl (holds3 b s || keptBy mo ao)) H'
def sp_answer (K : PySem.W.Frag) : Sp := fun vs H Q _ => ∃ (x d qa : Addr) (s : SortD) (q : QD), vs = [.ref x, .ref qa] ∧ BookAt K H x d s ∧ SortOk s ∧ QuestAt K H qa q ∧ QOk q ∧ ∀ H', Same H H' → Q (.str (ansOf s q)) H'
theorem exm_ns {w : World} {K : PySem.W.Frag} {mg : Str → Option Value} (T : Tx w K mg) : PySem.W.exmOne K (.ref (He.ga K "NoSuch")) (.ref (He.ga K "NoSuch")) = some true := by
  have h := T.noSuch
  unfold nsB at h
  obtain ⟨_, h⟩ := He.ba h
  obtain ⟨_, h⟩ := He.ba h
  obtain ⟨_, h⟩ := He.ba h
  obtain ⟨_, h⟩ := He.ba h
  obtain ⟨_, h⟩ := He.ba h
  obtain ⟨_, h⟩ := He.ba h
  obtain ⟨h, _⟩ := He.ba h
  exact of_decide_eq_true h
theorem BookAt.mono {K : PySem.W.Frag} {H H' : Hp} {x d : Addr} {s : SortD} (e : Same H H') : BookAt K H x d s → BookAt K H' x d s := fun ⟨dx, a, h1, h2, h3⟩ => ⟨dx, a, e _ _ h1, e _ _ h2, h3.mono (.of e)⟩
theorem BookAt.keep {K : PySem.W.Frag} {H H' : Hp} {x d : Addr} {s : SortD} (e : ISame H H') (hd : H' d = H d) : BookAt K H x d s → BookAt K H' x d s := fun ⟨dx, a, h1, h2, h3⟩ => ⟨dx, a, e.ins _ _ _ _ h1, hd.trans h2, h3.mono e⟩
section
variable {P : Program} {w : World} {K : PySem.W.Frag} {mg : Str → Option Value} {base : Heap}
theorem c_is_triple (T : Tx w K mg) : C8.Cal P w K mg base 2 "is_triple" sp_is_triple [] := by
  obtain ⟨fd, F⟩ := T.F_is_triple
  refine ⟨_, fd, ["thing"], [], F.ok sc_is_triple (fun vs H Q E h => ?_) (fun cdv A outer s H vs Q E hr h => ?_), T.g_is_triple, F.kp, F.bindsN fun _ _ _ _ _ _ us hl => match us, hl with | [_], _ => rfl, .nil⟩
  · obtain ⟨x, r, rfl, _⟩ := h
    rfl
  · obtain ⟨v, t, rfl, ⟨a, rfl, ha⟩, ht, k⟩ := h
    refine ⟨_, PSs.nox (pss_one (ps_ret (pe_and (pe_callB call_isTup (by rfl) T.f_isinstance (by decide +kernel) (pa_cons (pv 0) (pa_cons (pe_ty_tuple T.f_tuple) pa_nil))) (pe_and (pe_cmpR op_eq (pe_callB call_len_seq (by rfl) T.f_len (by decide +kernel) (pa_cons (pv 0) pa_nil)) pe_int (nomark _)) (pe_one (pe_callB (cr_all rfl) (by rfl) T.f_all (by decide +kernel) (pa_cons (pe_lc (own := [("one", 1)]) (g := gName 1) rfl sc_is_triple.nd (pi_tup (pv 0)) (blkOk_by (own := [("one", 1)]) (N := N_is_triple) (sc := defScope s_is_triple) (by decide +kernel)) (fun _ _ _ _ _ => (pg_name (i := 1) sc_is_triple.nd rfl (Or.inl rfl))) (fun _ _ _ _ _ => pts_nil) (fun _ _ _ _ _ => (pe_cn (cn_is_whole T) hr (by decide) rfl (pa_cons (pv 1) (pa_cons pe_int pa_nil)) (pk_cons (C8.pe_gc rfl T.i_MOST_GONE) pk_nil)))) pa_nil))))))), ?_⟩
    refine ⟨_, rfl, _, rfl, ⟨_, _, rfl, ha⟩, _, rfl, iteT ?_⟩
    refine ⟨_, rfl, a, _, rfl, .inr (SqT.of ha), rfl, _, rfl, iteT ?_⟩
    refine ⟨_, rfl, a, rfl, ⟨_, SqT.of ha⟩, fun D hD => ?_⟩
    dsimp only [tNil]
    refine lc_all (walk_tup (K := K) (a := a) (xs := [V.int t.1, V.int t.2.1, V.int t.2.2])) (by simp) hD (fun _ e => SqT.of (e _ _ ha)) (fun i v Ha Hb hi e y Qt kt => ?_) fun H' e => k H' e
    obtain ⟨rfl, hc⟩ := y
    match i, hi, hc with
    | 0, _, hc => cases hc; exact ⟨rfl, _, rfl, rfl, rfl, _, _, _, rfl, ht.d.1, ht.d.2, kt _ (Same.refl _)⟩
    | 1, _, hc => cases hc; exact ⟨rfl, _, rfl, rfl, rfl, _, _, _, rfl, ht.m.1, ht.m.2, kt _ (Same.refl _)⟩
    | 2, _, hc => cases hc; exact ⟨rfl, _, rfl, rfl, rfl, _, _, _, rfl, ht.t.1, ht.t.2, kt _ (Same.refl _)⟩
theorem c_is_at_most (T : Tx w K mg) : C8.Cal P w K mg base 1 "is_at_most" sp_is_at_most [] := by
  obtain ⟨fd, F⟩ := T.F_is_at_most
  refine ⟨_, fd, ["one", "other"], [], F.ok sc_is_at_most (fun vs H Q E h => ?_) (fun cdv A outer s H vs Q E hr h => ?_), T.g_is_at_most, F.kp, F.bindsN fun _ _ _ _ _ _ us hl => match us, hl with | [_, _], _ => rfl, .nil⟩
  · obtain ⟨x, y, z, r, rfl, _⟩ := h
    rfl
  · obtain ⟨v, u, s, t, rfl, ⟨a, rfl, ha⟩, ⟨b, rfl, hb⟩, hl, k⟩ := h
    refine ⟨_, PSs.nox (pss_one (ps_ret (pe_callB (cr_all rfl) (by rfl) T.f_all (by decide +kernel) (pa_cons (pe_lc (own := [("mine", 2), ("its", 3)]) (g := gTup K 2 (gCons (gName 2) (gCons (gName 3) gNil))) rfl sc_is_at_most.nd (pi_zipA (by rfl) T.f_zip (pa_cons (pv 0) (pa_cons (pv 1) pa_nil))) (blkOk_by (own := [("mine", 2), ("its", 3)]) (N := N_is_at_most) (sc := defScope s_is_at_most) (by decide +kernel)) (fun _ _ _ _ _ => (pg_tup rfl (pgs_cons (pg_name (i := 2) sc_is_at_most.nd rfl (Or.inl rfl)) (pgs_cons (pg_name (i := 3) sc_is_at_most.nd rfl (Or.inl rfl)) pgs_nil)))) (fun _ _ _ _ _ => pts_nil) (fun _ _ _ _ _ => (pe_cmpR op_le (pv 2) (pv 3) (nomark _)))) pa_nil)))), ?_⟩
    refine ⟨_, rfl, _, rfl, a, b, _, _, rfl, .inr ⟨SqT.of ha, SqT.of hb, fun D hD => ?_⟩⟩
    dsimp only [tNil]
    refine lc_all (walk_zipT (K := K) (a := a) (b := b) (xs := [V.int s.1, V.int s.2.1, V.int s.2.2]) (ys := [V.int t.1, V.int t.2.1, V.int t.2.2]) rfl) (by simp) hD (fun _ e => ⟨SqT.of (e _ _ ha), SqT.of (e _ _ hb)⟩) (fun i v Ha Hb hi e y Qt kt => ?_) fun H' e => k H' e
    obtain ⟨q, x, y, rfl, hq, rfl, hx, hy⟩ := y
    refine ⟨q, _, rfl, SqT.of upd_same, rfl, _, _, rfl, _, _, rfl, rfl, rfl, ?_⟩
    have num : ∃ m n : Int, x = .int m ∧ y = .int n ∧ m ≤ n := by
      match i, hi, hx, hy with
      | 0, _, hx, hy => exact ⟨_, _, (Option.some.inj hx).symm, (Option.some.inj hy).symm, hl.1⟩
      | 1, _, hx, hy => exact ⟨_, _, (Option.some.inj hx).symm, (Option.some.inj hy).symm, hl.2.1⟩
      | 2, _, hx, hy => exact ⟨_, _, (Option.some.inj hx).symm, (Option.some.inj hy).symm, hl.2.2⟩
    obtain ⟨m, n, rfl, rfl, hmn⟩ := num
    refine ⟨_, rfl, _, rfl, _, _, rfl, rfl, ?_⟩
    exact q_b (Q := Qt) (decide_eq_true hmn) (kt _ (Same.new hq))
theorem m_Question_asked (T : Tx w K mg) : C8.Met P w K mg base 1 (He.ga K "Question") "asked" (sp_asked K) [] := by
  obtain ⟨fd, F⟩ := T.F_Question_asked
  refine ⟨_, fd, ["self"], [], T.c_Question, T.m_Question_asked, F.ok sc_Question_asked (fun vs H Q E h => ?_) (fun cdv A outer s H vs Q E hr h => ?_), F.bindsN fun _ _ _ _ _ _ us hl => match us, hl with | [_], _ => rfl, .nil⟩
  · obtain ⟨x, d, b, rfl, _⟩ := h
    rfl
  · obtain ⟨x, dx, t, rfl, h1, k⟩ := h
    refine ⟨_, PSs.nox (pss_one (ps_ret (pe_fld (pv 0) rfl))), ?_⟩
    exact ⟨_, rfl, x, _, dx, _, _, rfl, h1, T.c_Question, T.n_Question_things_asked, rfl, k⟩
theorem c_need_book (T : Tx w K mg) : C8.Cal P w K mg base 1 "need_book" (sp_need_book K) [] := by
  obtain ⟨fd, F⟩ := T.F_need_book
  refine ⟨_, fd, ["thing"], [], F.ok sc_need_book (fun vs H Q E h => ?_) (fun cdv A outer s H vs Q E hr h => ?_), T.g_need_book, F.kp, F.bindsN fun _ _ _ _ _ _ us hl => match us, hl with | [_], _ => rfl, .nil⟩
  · obtain ⟨x, t, s, rfl, _⟩ := h
    rfl
  · obtain ⟨x, d, b, rfl, ⟨dx, a, h1, h2⟩, k⟩ := h
    refine ⟨_, PSs.nox (pss_one (ps_if (pt_not (pt_val (pe_callB (C8.call_isC T.o_Book) (by rfl) T.f_isinstance (by decide +kernel) (pa_cons (pv 0) (pa_cons (pe_gr rfl T.g_Book) pa_nil))))) (pss_one ps_never) pss_nil)), ?_⟩
    exact ⟨_, rfl, x, dx, _, rfl, h1, _, rfl, iteF k⟩
theorem fn_Question_init (T : Tx w K mg) {fd : FuncData} (F : FunD K d_Question_init.name d_Question_init.qual d_Question_init.params d_Question_init.body d_Question_init.scope (d_Question_init.dvs K) (d_Question_init.kws K) (He.fAd K d_Question_init.at_) fd) :
    FnOk P w K mg base CX0 3 (He.fAd K d_Question_init.at_) fd ["self", "sort", "part", "since", "again", "misuse"] (sp_Question_init K) := by
  refine F.ok sc_Question_init (fun vs H Q E h => ?_) (fun cdv A outer s H vs Q E hr h => ?_)
  · obtain ⟨x, dx, v, va, q, rfl, _⟩ := h
    rfl
  · obtain ⟨x, dx, v, va, q, rfl, hx, ok, ht, ha, k⟩ := h
    refine ⟨_, PSs.nox (pss_cons (ps_if (pt_not (pt_val (C8.pe_c (c_is_name T) hr (by decide) rfl (pa_cons (pv 1) pa_nil)))) (pss_one ps_never) pss_nil)
      (pss_cons (ps_if (pt_not (pt_val (C8.pe_c (c_is_name T) hr (by decide) rfl (pa_cons (pv 2) pa_nil)))) (pss_one ps_never) pss_nil)
      (pss_cons (ps_set (i := 6) sc_Question_init.nd rfl (Or.inl rfl) (pe_ifExp (pt_cmpR op_isN (pv 3) pe_non (nomark _)) (pe_tup (pa_cons pe_int (pa_cons pe_int (pa_cons pe_int pa_nil)))) (pv 3)))
      (pss_cons (ps_if (pt_not (pt_val (C8.pe_c (c_is_triple T) hr (by decide) rfl (pa_cons (pv 6) pa_nil)))) (pss_one ps_never) pss_nil)
      (pss_cons (ps_if (PW.pt (pw_and (pt_cmpR op_notN (pv 4) pe_non (nomark _)) (pw_and1 (pt_not (PW.pt (pw_and (pt_val (C8.pe_c (c_is_triple T) hr (by decide) rfl (pa_cons (pv 4) pa_nil))) (pw_and1 (pt_val (C8.pe_c (c_is_at_most T) hr (by decide) rfl (pa_cons (pv 4) (pa_cons (pv 6) pa_nil))))))))))) (pss_one ps_never) pss_nil)
      (pss_cons (ps_if (PW.pt (pw_and (pt_cmpR op_notN (pv 5) pe_non (nomark _)) (pw_and1 (pt_not (pt_val (C8.pe_c (c_is_name T) hr (by decide) rfl (pa_cons (pv 5) pa_nil))))))) (pss_one ps_never) pss_nil)
      (pss_one (ps_fld (pv 0) (pe_tup (pa_cons (pv 1) (pa_cons (pv 2) (pa_cons (pv 6) (pa_cons (pv 4) (pa_cons (pv 5) pa_nil)))))) rfl)))))))), ?_⟩
    refine ⟨_, rfl, q.sort, rfl, ok.sort, fun H1 e1 => ⟨_, rfl, iteF ?_⟩⟩
    refine ⟨_, rfl, q.part, rfl, ok.part, fun H2 e2 => ⟨_, rfl, iteF ?_⟩⟩
    have e12 := e1.trans e2
    have vn : decide (v = V.non) = false := by
      obtain ⟨a, rfl, _⟩ := ht
      rfl
    refine ⟨_, rfl, rfl, _, rfl, ?_⟩
    rw [vn]
    refine iteF ⟨_, rfl, ?_⟩
    refine ⟨_, rfl, v, q.since, rfl, ht.mono (.of e12), ok.since, fun H3 e3 => ⟨_, rfl, iteF ?_⟩⟩
    have e13 := e12.trans e3
    dsimp only [tNext]
    refine seq_if (fun k hk => ?_) fun H4 e4 => ?_
    · obtain ⟨sort, part, since, again, mis⟩ := q
      cases again with
      | none =>
        obtain rfl : va = .non := ha
        exact ⟨_, rfl, rfl, _, rfl, iteF (hk _ (Same.refl _))⟩
      | some g =>
        have vn : decide (va = V.non) = false := by
          obtain ⟨a, rfl, _⟩ := ha
          rfl
        refine ⟨_, rfl, rfl, _, rfl, ?_⟩
        rw [vn]
        refine iteT ?_
        refine ⟨_, rfl, va, g, rfl, T3At.mono (.of e13) ha, (ok.again g rfl).1, fun H4 e4 => ⟨_, rfl, iteT ?_⟩⟩
        exact ⟨_, rfl, _, rfl, va, v, g, since, rfl, T3At.mono (.of (e13.trans e4)) ha, ht.mono (.of (e13.trans e4)), (ok.again g rfl).2, fun H5 e5 => ⟨_, rfl, hk _ (e4.trans e5)⟩⟩
    have e14 := e13.trans e4
    refine seq_if (fun k hk => ?_) fun H5 e5 => ?_
    · obtain ⟨sort, part, since, again, mis⟩ := q
      cases mis with
      | none => exact ⟨_, rfl, rfl, _, rfl, iteF (hk _ (Same.refl _))⟩
      | some m =>
        refine ⟨_, rfl, rfl, _, rfl, iteT ?_⟩
        exact ⟨_, rfl, m, rfl, ok.mis m rfl, fun H5 e5 => ⟨_, rfl, hk _ e5⟩⟩
    have e15 := e14.trans e5
    refine ⟨_, rfl, _, rfl, _, rfl, _, rfl, _, rfl, szn (n := 5) (by decide), fun t hq => ?_⟩
    have hx5 := e15 _ _ hx
    refine ⟨_, rfl, x, _, dx, [], rfl, (by rw [upd_ne (ne_of_none hx5 hq)]; exact hx5), T.c_Question, T.n_Question_things_asked, (by decide), ?_⟩
    have s6 : SX x H (upd (upd H5 t (.tup [.str q.sort, .str q.part, v, va, sv q.mis])) x (.ins (He.ga K "Question") dx [("things_asked", .ref t)])) := (SBut.of (e15.trans (Same.new hq))).trans SX.upd
    have f6 := SX.fs (f := "things_asked") s6 hx okF.nil
    refine k _ (fun a o ha hn => s6 a o hn ha) ⟨dx, t, v, va, upd_same, ?_, ?_, ?_⟩
    · rw [upd_ne (ne_of_none hx5 hq).symm, upd_same]
    · obtain ⟨a, h1, h2⟩ := ht
      exact ⟨a, h1, f6.tup _ _ h2⟩
    · cases hag : q.again with
      | none =>
        rw [hag] at ha
        exact ha
      | some g =>
        rw [hag] at ha
        obtain ⟨a, h1, h2⟩ := ha
        exact ⟨a, h1, f6.tup _ _ h2⟩
theorem k_Question0 (T : Tx w K mg) : C8.Mak P w K mg base 3 "Question" (He.ga K "Question") (sp_Question_init K) [] := by
  obtain ⟨fd, F⟩ := T.F_Question_init
  obtain ⟨ds, hd, b⟩ := F.binds1 (ps := ["self", "sort", "part", "since", "again", "misuse"]) 6 3 (by simp [d_Question_init, He.DefD.dvs]) rfl (fun T kV doc pm an cdv ct us its h1 h2 => by
    match us, its, h1, h2 with
    | [_, _, _, _, _, _], [_, _, _], _, _ => exact ⟨_, rfl, rfl⟩)
  exact ⟨_, fd, _, ds, T.k_Question, fn_Question_init T F, T.g_Question, b, hd⟩
theorem k_Question1 (T : Tx w K mg) : C8.Mak P w K mg base 3 "Question" (He.ga K "Question") (sp_Question_init K) [.non] := by
  obtain ⟨fd, F⟩ := T.F_Question_init
  obtain ⟨ds, hd, b⟩ := F.binds1 (ps := ["self", "sort", "part", "since", "again", "misuse"]) 5 2 (by simp [d_Question_init, He.DefD.dvs]) rfl (fun T kV doc pm an cdv ct us its h1 h2 => by
    match us, its, h1, h2 with
    | [_, _, _, _, _], [_, _, _], _, _ => exact ⟨_, rfl, rfl⟩)
  exact ⟨_, fd, _, ds, T.k_Question, fn_Question_init T F, T.g_Question, b, hd⟩
theorem k_Question2 (T : Tx w K mg) : C8.Mak P w K mg base 3 "Question" (He.ga K "Question") (sp_Question_init K) [.non, .non] := by
  obtain ⟨fd, F⟩ := T.F_Question_init
  obtain ⟨ds, hd, b⟩ := F.binds1 (ps := ["self", "sort", "part", "since", "again", "misuse"]) 4 1 (by simp [d_Question_init, He.DefD.dvs]) rfl (fun T kV doc pm an cdv ct us its h1 h2 => by
    match us, its, h1, h2 with
    | [_, _, _, _], [_, _, _], _, _ => exact ⟨_, rfl, rfl⟩)
  exact ⟨_, fd, _, ds, T.k_Question, fn_Question_init T F, T.g_Question, b, hd⟩
theorem c_promises_on (T : Tx w K mg) : C8.Cal P w K mg base 5 "promises_on" (sp_promises_on K) [] := by
  obtain ⟨fd, F⟩ := T.F_promises_on
  refine ⟨_, fd, ["book", "sort", "part"], [], F.ok sc_promises_on (fun vs H Q E h => ?_) (fun cdv A outer s H vs Q E hr h => ?_), T.g_promises_on, F.kp, F.bindsN fun _ _ _ _ _ _ us hl => match us, hl with | [_, _, _], _ => rfl, .nil⟩
  · obtain ⟨x, d, b, n, p, rfl, _⟩ := h
    rfl
  · obtain ⟨x, d, b, n, p, rfl, hb, ok, hn, hp, k1, k2⟩ := h
    obtain ⟨dx, a0, h1, h2, h3⟩ := id hb
    refine ⟨_, PSs.nox (pss_one (ps_try_only rfl rfl ⟨rfl, by decide, .inl T.g_NoSuch⟩ takes0 (fun W pn xe tk _ => (pss_cons (ps_set (i := 3) sc_promises_on.nd rfl (Or.inl rfl) (pe_mtE (m_Book_sort_of T) (fun σ => passAt tk σ) hr (by decide) (pv 0) (pa_cons (pv 1) pa_nil)))
        (pss_one (ps_ret (pe_tup (pa_cons (pe_ix (ix_tupK (K := K)) (pe_mtE (m_Sort_held_by T) (fun σ => passAt tk σ) hr (by decide) (pv 3) (pa_cons (pv 2) pa_nil)) pe_int (fun _ _ => rfl)) (pa_cons (pe_mtE (m_Sort_mended_by T) (fun σ => passAt tk σ) hr (by decide) (pv 3) (pa_cons (pv 2) pa_nil)) pa_nil))))))) (fun a oe cls d pn _ _ => (pss_one (ps_ret pe_non))))), ?_⟩
    have away : (n ≠ b.name ∨ rowOf b.rows p = none) → ∀ (H0 : Hp) (H' : Hp), Same H H0 → Same H0 H' → ∃ b, PySem.W.exmOne K (.ref (He.ga K "NoSuch")) (.ref (He.ga K "NoSuch")) = some b ∧ (b = true → ∀ a, H' a = Option.none → Q .non H') ∧ (b = false → False) := fun h H0 H' e0 e1 => ⟨true, exm_ns T, fun _ _ _ => k2 h H' (e0.trans e1), fun z => nomatch z⟩
    refine ⟨_, rfl, x, dx, _, rfl, h1, rfl, _, rfl, x, d, b, n, rfl, hb, hn, fun e H1 a e1 hs => ?_, fun e d' H1 e1 => away (.inl e) H H1 (Same.refl _) e1⟩
    obtain ⟨dx2, pr, t, u, g1, g2, g3, g4⟩ := id hs
    refine ⟨_, rfl, a, dx2, _, rfl, g1, rfl, _, rfl, a, p, b, rfl, hs, ok, hp, fun r hr1 H2 t2 pa e2 ht2 hpa => ?_, fun e d' H2 e2 => away (.inr e) H1 H2 e1 e2⟩
    refine ⟨t2, _, 1, _, rfl, rfl, SqT.of ht2, rfl, ?_⟩
    refine ⟨_, rfl, a, dx2, _, rfl, e2 _ _ g1, rfl, _, rfl, a, p, b, rfl, hs.mono (.of e2), ok, hp, fun r' hr2 H3 v e3 hv => ?_, fun e d' H3 e3 => away (.inr e) H2 H3 (e1.trans e2) e3⟩
    rw [hr1] at hr2
    cases hr2
    refine ⟨sz2, fun q hq => ?_⟩
    have e4 := e3.trans (Same.new (o := .tup [.ref pa, v]) hq)
    exact k1 e r hr1 _ q pa v (e1.trans (e2.trans e4)) upd_same (hpa.mono (.of e4)) (hv.mono (.of (Same.new hq)))
theorem c_is_kept (T : Tx w K mg) : C8.Cal P w K mg base 5 "is_kept" (sp_is_kept K) [] := by
  obtain ⟨fd, F⟩ := T.F_is_kept
  refine ⟨_, fd, ["promises", "since", "again"], [], F.ok sc_is_kept (fun vs H Q E h => ?_) (fun cdv A outer s H vs Q E hr h => ?_), T.g_is_kept, F.kp, F.bindsN fun _ _ _ _ _ _ us hl => match us, hl with | [_, _, _], _ => rfl, .nil⟩
  · obtain ⟨x, d, b, n, p, b1, c1, d1, e1, rfl, _⟩ := h
    rfl
  · obtain ⟨t, pa, vm, v, va, b, mo, ss, ao, rfl, ht, hp, hm, ⟨sa, rfl, hs⟩, os, ha, oa, k⟩ := h
    obtain ⟨dx, l, h1, h2⟩ := id hp
    refine ⟨_, PSs.nox (pss_cons (ps_asg (pv 0) (pg_tup rfl (pgs_cons (pg_name (i := 3) sc_is_kept.nd rfl (Or.inl rfl)) (pgs_cons (pg_name (i := 4) sc_is_kept.nd rfl (Or.inl rfl)) pgs_nil))))
      (pss_cons (ps_if (pt_val (pe_mtn (n_Promise_holds T) hr (by decide) (pv 3) (pa_cons (pe_ix ix_tup (pv 1) pe_int (fun _ _ => rfl)) pa_nil) (pk_cons (pe_ix ix_tup (pv 1) pe_int (fun _ _ => rfl)) (pk_cons (pe_ix ix_tup (pv 1) pe_int (fun _ _ => rfl)) pk_nil)))) (pss_one (ps_ret pe_bl)) pss_nil)
      (pss_one (ps_ret (pe_and (pe_cmpR op_notN (pv 2) pe_non (nomark _)) (pe_and (pe_cmpR op_notN (pv 4) pe_non (nomark _)) (pe_one (pe_mtn (n_Promise_holds T) hr (by decide) (pv 4) (pa_cons (pe_ix ix_tup (pv 2) pe_int (fun _ _ => rfl)) pa_nil) (pk_cons (pe_ix ix_tup (pv 2) pe_int (fun _ _ => rfl)) (pk_cons (pe_ix ix_tup (pv 2) pe_int (fun _ _ => rfl)) pk_nil)))))))))), ?_⟩
    refine ⟨_, rfl, t, _, rfl, SqT.of ht, rfl, _, _, rfl, _, _, rfl, rfl, ?_⟩
    refine ⟨_, rfl, pa, dx, _, rfl, h1, rfl, _, rfl, sa, _, 0, _, rfl, rfl, SqT.of hs, rfl, _, rfl, sa, _, 1, _, rfl, rfl, SqT.of hs, rfl, _, rfl, sa, _, 2, _, rfl, rfl, SqT.of hs, rfl, rfl, rfl, pa, b, ss, rfl, hp, os, fun H1 e1 => ?_⟩
    refine ⟨_, rfl, ite2b (fun hb => ?_) (fun hb => ?_)⟩
    · have := k H1 e1
      rw [hb, Bool.true_or] at this
      exact this
    · rw [hb, Bool.false_or] at k
      cases ao with
      | none =>
        obtain rfl : va = .non := ha
        refine ⟨_, rfl, rfl, _, rfl, iteF ?_⟩
        exact q_f (Q := Q) rfl (by cases mo <;> exact k H1 e1)
      | some g =>
        obtain ⟨ga, rfl, hg⟩ := ha
        refine ⟨_, rfl, rfl, _, rfl, iteT ?_⟩
        cases mo with
        | none =>
          obtain rfl : vm = .non := hm
          refine ⟨_, rfl, rfl, _, rfl, iteF ?_⟩
          exact k H1 e1
        | some m =>
          obtain ⟨ma, rfl, hma⟩ := hm
          obtain ⟨dx3, l3, q1, q2⟩ := id hma
          have hg1 := e1 _ _ hg
          refine ⟨_, rfl, rfl, _, rfl, iteT ?_⟩
          exact ⟨_, rfl, ma, dx3, _, rfl, e1 _ _ q1, rfl, _, rfl, ga, _, 0, _, rfl, rfl, SqT.of hg1, rfl, _, rfl, ga, _, 1, _, rfl, rfl, SqT.of hg1, rfl, _, rfl, ga, _, 2, _, rfl, rfl, SqT.of hg1, rfl, rfl, rfl, ma, m, g, rfl, hma.mono (.of e1), oa g rfl, fun H2 e2 => k H2 (e1.trans e2)⟩
theorem c_answer (T : Tx w K mg) : C8.Cal P w K mg base 6 "answer" (sp_answer K) [] := by
  obtain ⟨fd, F⟩ := T.F_answer
  refine ⟨_, fd, ["book", "question"], [], F.ok sc_answer (fun vs H Q E h => ?_) (fun cdv A outer s H vs Q E hr h => ?_), T.g_answer, F.kp, F.bindsN fun _ _ _ _ _ _ us hl => match us, hl with | [_, _], _ => rfl, .nil⟩
  · obtain ⟨x, d, b, n, p, rfl, _⟩ := h
    rfl
  · obtain ⟨x, d, qa, b, q, rfl, hb, ok, hq, oq, k⟩ := h
    obtain ⟨dx, a0, h1, h2, h3⟩ := id hb
    obtain ⟨dq, t, v, va, g1, g2, g3, g4⟩ := id hq
    refine ⟨_, PSs.nox (pss_cons (ps_expr (C8.pe_c (c_need_book T) hr (by decide) rfl (pa_cons (pv 0) pa_nil)))
      (pss_cons (ps_if (pt_not (pt_val (pe_callB (C8.call_isC T.o_Question) (by rfl) T.f_isinstance (by decide +kernel) (pa_cons (pv 1) (pa_cons (pe_gr rfl T.g_Question) pa_nil))))) (pss_one ps_never) pss_nil)
      (pss_cons (ps_asg (C8.pe_mt0 (m_Question_asked T) hr (by decide) (pv 1)) (pg_tup rfl (pgs_cons (pg_name (i := 2) sc_answer.nd rfl (Or.inl rfl)) (pgs_cons (pg_name (i := 3) sc_answer.nd rfl (Or.inl rfl)) (pgs_cons (pg_name (i := 4) sc_answer.nd rfl (Or.inl rfl)) (pgs_cons (pg_name (i := 5) sc_answer.nd rfl (Or.inl rfl)) (pgs_cons (pg_name (i := 6) sc_answer.nd rfl (Or.inl rfl)) pgs_nil)))))))
      (pss_cons (ps_set (i := 7) sc_answer.nd rfl (Or.inl rfl) (C8.pe_c (c_promises_on T) hr (by decide) rfl (pa_cons (pv 0) (pa_cons (pv 2) (pa_cons (pv 3) pa_nil)))))
      (pss_cons (ps_if (pt_cmpR op_isN (pv 7) pe_non (nomark _)) (pss_one (ps_ret pe_str)) pss_nil)
      (pss_cons (ps_if (PW.pt (pw_and (pt_cmpR op_notN (pv 6) pe_non (nomark _)) (pw_and1 (pt_val (C8.pe_mt (m_Sort_is_barred T) hr (by decide) (pe_mtx (m_Book_sort_of T) hr (by decide) (pv 0) (pa_cons (pv 2) pa_nil)) (pa_cons (pv 6) (pa_cons (pv 3) pa_nil))))))) (pss_one (ps_ret pe_str)) pss_nil)
      (pss_one (ps_ret (pe_ifExp (pt_val (C8.pe_c (c_is_kept T) hr (by decide) rfl (pa_cons (pv 7) (pa_cons (pv 4) (pa_cons (pv 5) pa_nil))))) pe_str pe_str))))))))), ?_⟩
    refine ⟨_, rfl, x, d, b, rfl, hb, ?_⟩
    refine ⟨_, rfl, qa, dq, _, rfl, g1, _, rfl, iteF ?_⟩
    refine ⟨_, rfl, qa, dq, _, rfl, g1, rfl, qa, dq, t, rfl, g1, ?_⟩
    refine ⟨t, _, rfl, SqT.of g2, rfl, _, _, rfl, _, _, rfl, _, _, rfl, _, _, rfl, _, _, rfl, rfl, ?_⟩
    refine ⟨_, rfl, _, rfl, _, rfl, x, d, b, q.sort, q.part, rfl, hb, ok, oq.sort, oq.part, fun e r hr1 H1 tt pa vm e1 htt hpa hvm => ?_, fun e H1 e1 => ?_⟩
    · have ans : ansOf b q = if barBy b q.part q.mis = true then ("falls" : Str) else if (holds3 (heldB b r) q.since || keptBy r.2.2 q.again) = true then "stands" else "falls" := by
        unfold ansOf
        rw [if_pos e, hr1]
      rw [ans] at k
      refine ⟨_, rfl, rfl, _, rfl, iteF ?_⟩
      have tail : barBy b q.part q.mis = false → ∀ H2, Same H1 H2 → ∀ H3, Same H2 H3 → (if (holds3 (heldB b r) q.since || keptBy r.2.2 q.again) = true then Q (.str "stands") H3 else Q (.str "falls") H3) := fun z H2 e2 H3 e3 => by
        have kk := k H3 (e1.trans (e2.trans e3))
        rw [z, if_neg Bool.false_ne_true] at kk
        cases hh : (holds3 (heldB b r) q.since || keptBy r.2.2 q.again) with
        | true => rw [hh] at kk; exact iteT kk
        | false => rw [hh] at kk; exact iteF kk
      obtain ⟨qs, qp, qsi, qag, qmi⟩ := q
      cases qmi with
      | none =>
        refine ⟨_, rfl, rfl, _, rfl, iteF (iteF ?_)⟩
        exact ⟨_, rfl, _, rfl, _, rfl, tt, pa, vm, v, va, heldB b r, r.2.2, qsi, qag, rfl, htt, hpa, hvm, g3.mono (.of e1), oq.since, g4.mono (.of e1), fun a ha => (oq.again a ha).1, fun H3 e3 => ⟨_, rfl, tail rfl H1 (Same.refl _) H3 e3⟩⟩
      | some m =>
        refine ⟨_, rfl, rfl, _, rfl, iteT ?_⟩
        refine ⟨_, rfl, x, dx, _, rfl, e1 _ _ h1, rfl, _, rfl, x, d, b, qs, rfl, hb.mono e1, oq.sort, fun _ H2 a e2 hs => ?_, fun z => absurd e z⟩
        obtain ⟨dx2, pr, t2, u2, q1, q2, q3, q4⟩ := id hs
        refine ⟨a, dx2, _, rfl, q1, rfl, _, rfl, _, rfl, a, m, qp, b, rfl, hs, ok, oq.mis m rfl, oq.part, fun H3 e3 => ⟨_, rfl, ite2b (fun hbar => ?_) (fun hbar => ?_)⟩⟩
        · have kk := k H3 (e1.trans (e2.trans e3))
          have hbar' : barBy b qp (some m) = true := hbar
          rw [if_pos hbar'] at kk
          exact kk
        · have e13 := e2.trans e3
          exact ⟨_, rfl, _, rfl, _, rfl, tt, pa, vm, v, va, heldB b r, r.2.2, qsi, qag, rfl, e13 _ _ htt, hpa.mono (.of e13), hvm.mono (.of e13), (g3.mono (.of e1)).mono (.of e13), oq.since, (g4.mono (.of e1)).mono (.of e13), fun a ha => (oq.again a ha).1, fun H4 e4 => ⟨_, rfl, tail hbar H3 e13 H4 e4⟩⟩
    · refine ⟨_, rfl, rfl, _, rfl, iteT ?_⟩
      have ans : ansOf b q = "unknown" := by
        unfold ansOf
        by_cases z : q.sort = b.name
        · rw [if_pos z]
          rcases e with e | e
          · exact absurd z e
          · rw [e]
        · rw [if_neg z]
      rw [ans] at k
      exact k H1 e1
end
end Wk
end

section
set_option Elab.async false
set_option linter.all false
set_option maxRecDepth 100000
/-! pages: is_page, page_rank, do_fit -/
namespace Wk
open PySem PySem.Spec L2 RZ
theorem at0 {x : V} {r : List V} : atI (x :: r) 0 = some x := atI_nat (j := 0) rfl
theorem at1 {x y : V} {r : List V} : atI (x :: y :: r) 1 = some y := atI_nat (j := 1) rfl
theorem at2 {x y z : V} {r : List V} : atI (x :: y :: z :: r) 2 = some z := atI_nat (j := 2) rfl
theorem PageAt.monoT {H H' : Hp} {v : V} {g : PageD} (e : ∀ a xs, H a = some (.tup xs) → H' a = some (.tup xs)) : PageAt H v g → PageAt H' v g := fun ⟨a, ma, h1, h2, h3⟩ => ⟨a, ma, h1, e _ _ h2, e _ _ h3⟩
theorem PageAt.mono {H H' : Hp} {v : V} {g : PageD} (e : ISame H H') : PageAt H v g → PageAt H' v g := .monoT e.tup
def PKok (s : SortD) : PK → Prop
  | .sold n => Nm n
  | .claimed p c => Nm p ∧ p ∈ s.rows.map (·.1) ∧ 0 ≤ c ∧ c ≤ 1000000
  | .mended p => Nm p ∧ p ∈ s.rows.map (·.1)
  | .misused m => Nm m
structure PageOk (s : SortD) (g : PageD) : Prop where
  d : 0 ≤ g.day ∧ g.day ≤ 9999
  a : 0 ≤ g.m1 ∧ g.m1 ≤ 1000000
  b : 0 ≤ g.m2 ∧ g.m2 ≤ 1000000
  k : PKok s g.k
def fits (g q : PageD) : Prop := (g.day = q.day → g.m1 = q.m1 ∧ g.m2 = q.m2) ∧ (g.day < q.day → g.m1 ≤ q.m1 ∧ g.m2 ≤ q.m2) ∧ (q.day < g.day → q.m1 ≤ g.m1 ∧ q.m2 ≤ g.m2)
def sp_is_named : Sp := fun vs H Q _ => ∃ v t n, vs = [v, .ref t] ∧ H t = some (.tup [.str n]) ∧ Nm n ∧ ∀ H', Same H H' → Q (.bl true) H'
def sp_is_of_part (K : PySem.W.Frag) : Sp := fun vs H Q _ => ∃ x s t n, vs = [.ref x, .ref t] ∧ SortAt K H x s ∧ s.rows.length ≤ 12 ∧ H t = some (.tup [.str n]) ∧ Nm n ∧ n ∈ s.rows.map (·.1) ∧ ∀ H', Same H H' → Q (.bl true) H'
def sp_is_claim (K : PySem.W.Frag) : Sp := fun vs H Q _ => ∃ (x t : Addr) (s : SortD) (n : Str) (c : Int), vs = [.ref x, .ref t] ∧ SortAt K H x s ∧ s.rows.length ≤ 12 ∧ H t = some (.tup [.str n, .int c]) ∧ Nm n ∧ n ∈ s.rows.map (·.1) ∧ 0 ≤ c ∧ c ≤ 1000000 ∧ ∀ H', Same H H' → Q (.bl true) H'
def sp_is_page (K : PySem.W.Frag) : Sp := fun vs H Q _ => ∃ x s v g, vs = [.ref x, v] ∧ SortAt K H x s ∧ s.rows.length ≤ 12 ∧ PageAt H v g ∧ PageOk s g ∧ ∀ H', Same H H' → Q (.bl true) H'
def sp_page_rank : Sp := fun vs H Q _ => ∃ v g, vs = [v] ∧ PageAt H v g ∧ ∀ (H' : Hp) (p t ma : Addr), Same H H' → H' p = some (.tup [.int g.day, .str g.k.word, .ref t]) → H' t = some (.tup (.ref ma :: g.k.rest)) → H' ma = some (.tup [.int g.m1, .int g.m2]) → Q (.ref p) H'
def sp_is_not_more : Sp := fun vs H Q _ => ∃ a b x y z u, vs = [.ref a, .ref b] ∧ H a = some (.tup [.int x, .int y]) ∧ H b = some (.tup [.int z, .int u]) ∧ x ≤ z ∧ y ≤ u ∧ Q (.bl true) H
def sp_do_fit : Sp := fun vs H Q _ => ∃ v u g q, vs = [v, u] ∧ PageAt H v g ∧ PageAt H u q ∧ fits g q ∧ ∀ H', Same H H' → Q (.bl true) H'
def goneOf (f g : PageD) : T3 := (g.day - f.day, g.m1 - f.m1, g.m2 - f.m2)
def sp_gone_between : Sp := fun vs H Q _ => ∃ v u f g, vs = [v, u] ∧ PageAt H v f ∧ PageAt H u g ∧ ∀ H' w, Same H H' → T3At H' w (goneOf f g) → Q w H'
theorem sl_to {K : PySem.W.Frag} {H : Hp} {a : Addr} {vs : List V} {Q : VK} (n : Nat) (h : H a = some (.tup vs)) (hn : n < vs.length) (k : ∀ (p : Addr) (H' : Hp), Same H H' → H' p = some (.tup (vs.take n)) → Q (.ref p) H') : rSlA K (.ref a) none (some (n : Int)) H Q := by
  refine ⟨a, vs, rfl, SqT.of h, fun e => ?_, fun e p hp => ?_⟩
  · rw [HT.sIx_nat] at e
    omega
  · refine k p _ (Same.new hp) ?_
    rw [upd_same]
    congr 2
    unfold cutV
    rw [HT.sIx_nat, HT.sIx_none, Nat.min_eq_left (Nat.le_of_lt hn)]
    simp
section
variable {P : Program} {w : World} {K : PySem.W.Frag} {mg : Str → Option Value} {base : Heap}
theorem fn_is_named (T : Tx w K mg) {fd : FuncData} (F : FunD K d_is_named.name d_is_named.qual d_is_named.params d_is_named.body d_is_named.scope (d_is_named.dvs K) (d_is_named.kws K) (He.fAd K d_is_named.at_) fd) :
    FnOk P w K mg base CX0 2 (He.ga K "is_named") fd ["sort", "rest"] sp_is_named := by
  refine F.ok sc_is_named (fun vs H Q E h => ?_) (fun cdv A outer s H vs Q E hr h => ?_)
  · obtain ⟨x, r, n, rfl, _⟩ := h
    rfl
  · obtain ⟨v, t, n, rfl, ht, hn, k⟩ := h
    refine ⟨_, PSs.nox (pss_one (ps_ret (pe_and (pe_cmpR op_eq (pe_callB call_len_seq (by rfl) T.f_len (by decide +kernel) (pa_cons (pv 1) pa_nil)) pe_int (nomark _)) (pe_one (C8.pe_c (c_is_name T) hr (by decide) rfl (pa_cons (pe_ix ix_tup (pv 1) pe_int (fun _ _ => rfl)) pa_nil)))))), ?_⟩
    refine ⟨_, rfl, t, _, rfl, .inr (SqT.of ht), rfl, _, rfl, iteT ?_⟩
    exact ⟨_, rfl, t, _, 0, _, rfl, rfl, SqT.of ht, rfl, n, rfl, hn, k⟩
theorem c_is_named (T : Tx w K mg) : C8.Cal P w K mg base 2 "is_named" sp_is_named [] := by
  obtain ⟨fd, F⟩ := T.F_is_named
  exact ⟨_, fd, ["sort", "rest"], [], fn_is_named T F, T.g_is_named, F.kp, F.bindsN fun _ _ _ _ _ _ us hl => match us, hl with | [_, _], _ => rfl, .nil⟩
theorem h_is_named (T : Tx w K mg) : Held P w K mg base 4 (He.ga K "is_named") sp_is_named := by
  obtain ⟨fd, F⟩ := T.F_is_named
  exact ⟨fd, ["sort", "rest"], (fn_is_named T F).mono (by decide), F.kp, F.bindsN fun _ _ _ _ _ _ us hl => match us, hl with | [_, _], _ => rfl⟩
theorem fn_is_of_part (T : Tx w K mg) {fd : FuncData} (F : FunD K d_is_of_part.name d_is_of_part.qual d_is_of_part.params d_is_of_part.body d_is_of_part.scope (d_is_of_part.dvs K) (d_is_of_part.kws K) (He.fAd K d_is_of_part.at_) fd) :
    FnOk P w K mg base CX0 3 (He.ga K "is_of_part") fd ["sort", "rest"] (sp_is_of_part K) := by
  refine F.ok sc_is_of_part (fun vs H Q E h => ?_) (fun cdv A outer s H vs Q E hr h => ?_)
  · obtain ⟨x, s, r, n, rfl, _⟩ := h
    rfl
  · obtain ⟨x, s, t, n, rfl, hs, hl, ht, hn, hm, k⟩ := h
    obtain ⟨dx, pr, t0, u, g1, g2⟩ := id hs
    refine ⟨_, PSs.nox (pss_one (ps_ret (pe_and (C8.pe_c (c_is_named T) hr (by decide) rfl (pa_cons (pv 0) (pa_cons (pv 1) pa_nil))) (pe_one (pe_cmpR op_in_seq (pe_ix ix_tup (pv 1) pe_int (fun _ _ => rfl)) (C8.pe_mt0 (m_Sort_part_names T) hr (by decide) (pv 0)) (by with_unfolding_all rfl)))))), ?_⟩
    refine ⟨_, rfl, _, rfl, .ref x, t, n, rfl, ht, hn, fun H1 e1 => ⟨_, rfl, iteT ?_⟩⟩
    refine ⟨_, rfl, t, _, 0, _, rfl, rfl, SqT.of (e1 _ _ ht), rfl, ?_⟩
    refine ⟨_, rfl, x, dx, _, rfl, e1 _ _ g1, rfl, x, s, rfl, hs.mono (.of e1), hl, fun H2 p e2 hp => ?_⟩
    refine ⟨p, _, rfl, .inl (SqL.of hp), rfl, flat_strs _, ?_⟩
    refine q_b (Q := Q) ?_ (k _ (e1.trans e2))
    show (if false = true then _ else inV (V.str n) ((s.rows.map (·.1)).map V.str)) = true
    rw [if_neg Bool.false_ne_true, inV_strs]
    exact decide_eq_true hm
theorem c_is_of_part (T : Tx w K mg) : C8.Cal P w K mg base 3 "is_of_part" (sp_is_of_part K) [] := by
  obtain ⟨fd, F⟩ := T.F_is_of_part
  exact ⟨_, fd, ["sort", "rest"], [], fn_is_of_part T F, T.g_is_of_part, F.kp, F.bindsN fun _ _ _ _ _ _ us hl => match us, hl with | [_, _], _ => rfl, .nil⟩
theorem h_is_of_part (T : Tx w K mg) : Held P w K mg base 4 (He.ga K "is_of_part") (sp_is_of_part K) := by
  obtain ⟨fd, F⟩ := T.F_is_of_part
  exact ⟨fd, ["sort", "rest"], (fn_is_of_part T F).mono (by decide), F.kp, F.bindsN fun _ _ _ _ _ _ us hl => match us, hl with | [_, _], _ => rfl⟩
theorem h_is_claim (T : Tx w K mg) : Held P w K mg base 4 (He.ga K "is_claim") (sp_is_claim K) := by
  obtain ⟨fd, F⟩ := T.F_is_claim
  refine ⟨fd, ["sort", "rest"], F.ok sc_is_claim (fun vs H Q E h => ?_) (fun cdv A outer s H vs Q E hr h => ?_), F.kp, F.bindsN fun _ _ _ _ _ _ us hl => match us, hl with | [_, _], _ => rfl⟩
  · obtain ⟨x, s, r, n, c, rfl, _⟩ := h
    rfl
  · obtain ⟨x, t, s, n, c, rfl, hs, hl, ht, hn, hm, h1, h2, k⟩ := h
    refine ⟨_, PSs.nox (pss_one (ps_ret (pe_and (pe_cmpR op_eq (pe_callB call_len_seq (by rfl) T.f_len (by decide +kernel) (pa_cons (pv 1) pa_nil)) pe_int (nomark _)) (pe_and (C8.pe_c (c_is_of_part T) hr (by decide) rfl (pa_cons (pv 0) (pa_cons (pe_slice sl_tupA (pv 1) po_none (po_some pe_int)) pa_nil))) (pe_one (C8.pe_c (c_is_whole2 T) hr (by decide) rfl (pa_cons (pe_ix ix_tup (pv 1) pe_int (fun _ _ => rfl)) (pa_cons pe_int pa_nil)))))))), ?_⟩
    refine ⟨_, rfl, t, _, rfl, .inr (SqT.of ht), rfl, _, rfl, iteT ?_⟩
    refine ⟨_, rfl, _, rfl, ?_⟩
    dsimp only [tNoPart, tPart, tC]
    refine ⟨_, rfl, ?_⟩
    refine sl_to 1 ht (show 1 < 2 by decide) fun p H1 e1 hp => ?_
    refine ⟨x, s, p, n, rfl, hs.mono (.of e1), hl, hp, hn, hm, fun H2 e2 => ⟨_, rfl, iteT ?_⟩⟩
    exact ⟨_, rfl, t, _, 1, _, rfl, rfl, SqT.of (e2 _ _ (e1 _ _ ht)), rfl, c, 0, 1000000, rfl, h1, h2, k _ (e1.trans e2)⟩
def looksOf : PK → Str
  | .sold _ => "is_named"
  | .claimed _ _ => "is_claim"
  | .mended _ => "is_of_part"
  | .misused _ => "is_named"
theorem rest_of (T : Tx w K mg) (k : PK) : ∃ u, PySem.W.nsIn K (He.ga K "RESTS") k.word = some (some u) ∧ RelV (.ref (He.ga K (looksOf k))) u := by
  cases k with
  | sold n => exact T.rest (q := ("sold", .glo "is_named")) (by simp [restKV])
  | claimed n c => exact T.rest (q := ("claimed", .glo "is_claim")) (by simp [restKV])
  | mended n => exact T.rest (q := ("mended", .glo "is_of_part")) (by simp [restKV])
  | misused n => exact T.rest (q := ("misused", .glo "is_named")) (by simp [restKV])
theorem c_is_page (T : Tx w K mg) : C8.Cal P w K mg base 5 "is_page" (sp_is_page K) [] := by
  obtain ⟨fd, F⟩ := T.F_is_page
  obtain ⟨es, n, DR⟩ := T.dRest
  refine ⟨_, fd, ["sort", "thing"], [], F.ok sc_is_page (fun vs H Q E h => ?_) (fun cdv A outer s H vs Q E hr h => ?_), T.g_is_page, F.kp, F.bindsN fun _ _ _ _ _ _ us hl => match us, hl with | [_, _], _ => rfl, .nil⟩
  · obtain ⟨x, s, v, g, rfl, _⟩ := h
    rfl
  · obtain ⟨x, s, v, g, rfl, hs, hl, ⟨a, ma, rfl, ha, hma⟩, ok, k⟩ := h
    obtain ⟨u, hu, ru⟩ := rest_of T g.k
    refine ⟨_, PSs.nox (pss_cons (ps_if (PW.pt (pw_or (pt_not (pt_val (pe_callB call_isTup (by rfl) T.f_isinstance (by decide +kernel) (pa_cons (pv 1) (pa_cons (pe_ty_tuple T.f_tuple) pa_nil))))) (pw_or (pt_cmpR op_lt (pe_callB call_len_seq (by rfl) T.f_len (by decide +kernel) (pa_cons (pv 1) pa_nil)) pe_int (nomark _)) (pw_or (pt_not (pt_val (pe_callB call_isStr (by rfl) T.f_isinstance (by decide +kernel) (pa_cons (pe_ix ix_tup (pv 1) pe_int (fun _ _ => rfl)) (pa_cons (pe_ty_str T.f_str) pa_nil))))) (pw_or1 (pt_cmpR (op_notIn_kd DR) (pe_ix ix_tup (pv 1) pe_int (fun _ _ => rfl)) (pe_gr rfl T.g_RESTS) (by with_unfolding_all rfl))))))) (pss_one (ps_ret pe_bl)) pss_nil)
      (pss_cons (ps_if (PW.pt (pw_or (pt_not (pt_val (C8.pe_c (c_is_day T) hr (by decide) rfl (pa_cons (pe_ix ix_tup (pv 1) pe_int (fun _ _ => rfl)) pa_nil)))) (pw_or1 (pt_not (pt_val (C8.pe_c (c_is_meter T) hr (by decide) rfl (pa_cons (pe_ix ix_tup (pv 1) pe_int (fun _ _ => rfl)) pa_nil))))))) (pss_one (ps_ret pe_bl)) pss_nil)
      (pss_cons (ps_set (i := 2) sc_is_page.nd rfl (Or.inl rfl) (pe_ix ix_kdict (pe_gr rfl T.g_RESTS) (pe_ix ix_tup (pv 1) pe_int (fun _ _ => rfl)) (fun _ _ => rfl)))
      (pss_one (ps_ret (pe_callH (i := 2) (k := 4) hr (by decide) rfl (pa_cons (pv 0) (pa_cons (pe_slice sl_tupA (pv 1) (po_some pe_int) po_none) pa_nil)))))))), ?_⟩
    refine ⟨_, rfl, _, rfl, ⟨a, _, rfl, ha⟩, _, rfl, iteF ?_⟩
    refine ⟨_, rfl, a, _, rfl, .inr (SqT.of ha), _, _, rfl, rfl, _, rfl, ifn (by simp only [List.length_cons]; omega) ?_⟩
    refine ⟨_, rfl, a, _, 0, _, rfl, rfl, SqT.of ha, at0, _, rfl, ⟨_, rfl⟩, _, rfl, iteF ?_⟩
    refine ⟨_, rfl, a, _, 0, _, rfl, rfl, SqT.of ha, at0, g.k.word, some u, rfl, rfl, hu, _, rfl, iteF ?_⟩
    refine ⟨_, rfl, a, _, 1, _, rfl, rfl, SqT.of ha, at1, g.day, rfl, ok.d.1, ok.d.2, _, rfl, iteF ?_⟩
    refine ⟨_, rfl, a, _, 2, _, rfl, rfl, SqT.of ha, at2, ma, g.m1, g.m2, rfl, hma, ok.a.1, ok.a.2, ok.b.1, ok.b.2, fun H1 e1 => ⟨_, rfl, iteF ?_⟩⟩
    have ha1 := e1 _ _ ha
    refine ⟨_, rfl, a, _, 0, _, rfl, rfl, SqT.of ha1, at0, _, g.k.word, .ref (He.ga K (looksOf g.k)), rfl, rfl, ⟨es, n, u, DR.at_, DR.lit, hu, ru⟩, ?_⟩
    have hs1 := hs.mono (.of e1)
    obtain ⟨d, m1, m2, kk⟩ := g
    cases kk with
    | sold n =>
      refine ⟨_, _, rfl, h_is_named T, _, rfl, _, rfl, ?_⟩
      dsimp only [tNoPart, tPart, tC]
      refine ⟨_, rfl, sl_from 3 ha1 fun p H2 e2 hp => ?_⟩
      exact ⟨.ref x, p, n, rfl, hp, ok.k, fun H3 e3 => k H3 ((e1.trans e2).trans e3)⟩
    | misused n =>
      refine ⟨_, _, rfl, h_is_named T, _, rfl, _, rfl, ?_⟩
      dsimp only [tNoPart, tPart, tC]
      refine ⟨_, rfl, sl_from 3 ha1 fun p H2 e2 hp => ?_⟩
      exact ⟨.ref x, p, n, rfl, hp, ok.k, fun H3 e3 => k H3 ((e1.trans e2).trans e3)⟩
    | mended n =>
      refine ⟨_, _, rfl, h_is_of_part T, _, rfl, _, rfl, ?_⟩
      dsimp only [tNoPart, tPart, tC]
      refine ⟨_, rfl, sl_from 3 ha1 fun p H2 e2 hp => ?_⟩
      exact ⟨x, s, p, n, rfl, hs1.mono (.of e2), hl, hp, ok.k.1, ok.k.2, fun H3 e3 => k H3 ((e1.trans e2).trans e3)⟩
    | claimed n c =>
      refine ⟨_, _, rfl, h_is_claim T, _, rfl, _, rfl, ?_⟩
      dsimp only [tNoPart, tPart, tC]
      refine ⟨_, rfl, sl_from 3 ha1 fun p H2 e2 hp => ?_⟩
      exact ⟨x, p, s, n, c, rfl, hs1.mono (.of e2), hl, hp, ok.k.1, ok.k.2.1, ok.k.2.2.1, ok.k.2.2.2, fun H3 e3 => k H3 ((e1.trans e2).trans e3)⟩
theorem c_page_rank (T : Tx w K mg) : C8.Cal P w K mg base 1 "page_rank" sp_page_rank [] := by
  obtain ⟨fd, F⟩ := T.F_page_rank
  refine ⟨_, fd, ["page"], [], F.ok sc_page_rank (fun vs H Q E h => ?_) (fun cdv A outer s H vs Q E hr h => ?_), T.g_page_rank, F.kp, F.bindsN fun _ _ _ _ _ _ us hl => match us, hl with | [_], _ => rfl, .nil⟩
  · obtain ⟨v, g, rfl, _⟩ := h
    rfl
  · obtain ⟨v, g, rfl, ⟨a, ma, rfl, ha, hma⟩, k⟩ := h
    refine ⟨_, PSs.nox (pss_one (ps_ret (pe_tup (pa_cons (pe_ix ix_tup (pv 0) pe_int (fun _ _ => rfl)) (pa_cons (pe_ix ix_tup (pv 0) pe_int (fun _ _ => rfl)) (pa_cons (pe_slice sl_tupA (pv 0) (po_some pe_int) po_none) pa_nil)))))), ?_⟩
    refine ⟨_, rfl, a, _, 1, _, rfl, rfl, SqT.of ha, at1, ?_⟩
    refine ⟨_, rfl, a, _, 0, _, rfl, rfl, SqT.of ha, at0, ?_⟩
    refine ⟨_, rfl, ?_⟩
    dsimp only [tNoPart, tPart, tC, tNil]
    refine ⟨_, rfl, sl_from 2 ha fun t H1 e1 ht => ?_⟩
    refine ⟨sz3, fun p hp => ?_⟩
    have e2 := e1.trans (Same.new (o := .tup [.int g.day, .str g.k.word, .ref t]) hp)
    exact k _ p t ma e2 upd_same (by rw [upd_ne (ne_of_none ht hp)]; exact ht) (e2 _ _ hma)
end
end Wk
end

section
set_option Elab.async false
set_option linter.all false
set_option maxRecDepth 100000
/-! sorted(pages, key=page_rank) -/
namespace Wk
open PySem PySem.Spec PyProof.Rows L2 RZ
open PySem.W (SortsAt sortVals KeyedOut keyedOut_each dataLe dataKind AllAlike Sortable EachIs alike alikeAll)
open PySem.Calls
section
variable {prog : Program} {w : World} {A : Around} {E : Value → Shared → Prop} {s : Shared} {a kS : Addr} {vs : List Value} {keys : Array Value} {e e1 : Nat} {P : PySem.Fin → Shared → Prop}
/-- the end of a sort by keys: what the two lists, of the keys and of the items, hold then -/
abbrev keyEnd (hp : Heap) (kS a : Addr) (out : List Value) : Heap := (hp.update kS (Obj.mapSeq fun _ => (#[] : Array Value))).update a (Obj.mapSeq fun _ => out.toArray)
theorem keyI_end {κ : PyProof.Rows.KeyKind} (nk : s.heap.get? kS = some (seqObj "list" keys e)) (na : s.heap.get? a = some (seqObj "list" #[] e1)) (hka : kS ≠ a) (S : SortsAt prog w A s κ keys.toList) (hsz : keys.size = vs.length) (hZ : vs.length ≤ sizeLine)
    (h : P (.done (.ret .none)) { s with heap := keyEnd s.heap kS a (sortVals κ false keys.toList vs) }) : wpAny (model prog w) A (ksk_end a false vs.toArray e1 (.ref kS) keys) P E s := by
  obtain ⟨kd, runs, long⟩ := S.kind
  have keyed : PyProof.Rows.KeysOf κ (keys.zip vs.toArray) := PySem.W.keysOf_zip S.keys
  have many : (sortVals κ false keys.toList vs).length = vs.length := PySem.W.sortVals_length false (by rw [Array.length_toList, hsz])
  have pairs : (keys.zip vs.toArray).size = vs.length := by simp [hsz]
  have sorted : ∀ st : SortSt, (arrOf st).Perm (keys.zip vs.toArray) → SortedToK κ (arrOf st) (keys.zip vs.toArray).size → Stable κ (arrOf st) (keys.zip vs.toArray) → (arrOf st).map (·.2) = (sortVals κ false keys.toList vs).toArray := fun st p o t => by
    rw [← Array.toArray_toList (xs := (arrOf st).map (·.2))]
    exact congrArg List.toArray (PySem.W.sort_out (rev := false) (items := vs.toArray) keyed p o t)
  have at1 : (s.heap.update kS (Obj.mapSeq fun _ => (#[] : Array Value))).get? a = some (seqObj "list" #[] e1) := (Heap.get?_update_other _ _ hka).trans na
  have tail : ∀ st : SortSt, failedOf st = none → (arrOf st).map (·.2) = (sortVals κ false keys.toList vs).toArray → wpAny (model prog w) A (ksk_tail a false e1 (.ref kS) st) P E s := fun st f o => by
    unfold ksk_tail
    simp only [Bool.false_eq_true, if_false, o]
    refine wpAny_bind (listUpdate_at nk rfl (wpAny_bind (wpAny_letGo (wpAny_bind (seqEpoch_at at1 rfl (wpAny_bind (listUpdate_at at1 rfl ?_ (Nat.zero_le _) ?_)))))) (by rw [hsz]; exact hZ) (Nat.zero_le _))
    · rw [f]
      simp only [bne_self_eq_false, if_false]
      exact wpAny_pure h
    · rw [List.size_toArray, many]
      exact Nat.le_succ_of_le hZ
  unfold ksk_end
  simp only [Bool.false_eq_true, if_false]
  by_cases few : vs.toArray.size < 2
  · rw [if_pos few, if_pos few]
    refine wpAny_bind (wpAny_pure ?_)
    rw [StateT.run_pure]
    refine wpAny_bind (wpAny_pure ?_)
    refine tail (SortSt.mk' general' (keys.zip vs.toArray) #[] 7 none) rfl (sorted _ (Array.Perm.refl _) (fun i j hij hj => ?_) (Stable.refl _))
    rw [pairs] at hj
    rw [List.size_toArray] at few
    cases (show i = j by omega)
    exact KeyOrd.kle_refl _
  · rw [if_neg few, if_neg few]
    rw [List.size_toArray] at few
    refine wpAny_bind (long (by rw [Array.length_toList, hsz]; omega) _ (wpAny_bind (wpAny_mono (H.wpS_sortRunsSt (κ := κ) (kd := kd) (a₀ := keys.zip vs.toArray) (st := SortSt.mk' kd (keys.zip vs.toArray) #[] 7 none)
      (Q := fun _ st => failedOf st = none ∧ (arrOf st).map (·.2) = (sortVals κ false keys.toList vs).toArray) runs keyed ⟨Array.Perm.refl _, rfl, rfl⟩ rfl (Stable.refl _) (by rw [pairs]; omega) fun st q1 q2 q3 q4 => ⟨q2, sorted st q1 q3 q4⟩)
      (fun x s' z => ?_) fun _ _ z => z)))
    obtain ⟨_, st⟩ := x
    obtain ⟨rfl, f, o⟩ := z
    exact tail st f o
end
/-- the key of a page -/
def pgK (g : PageD) : PyData := .tuple [.int g.day, .str g.k.word, .tuple (.tuple [.int g.m1, .int g.m2] :: (match g.k with
  | .sold n => [.str n]
  | .claimed p c => [.str p, .int c]
  | .mended p => [.str p]
  | .misused m => [.str m]))]
def KeyAt (H : Hp) (kv : V) (g : PageD) : Prop := ∃ p t ma, kv = .ref p ∧ H p = some (.tup [.int g.day, .str g.k.word, .ref t]) ∧ H t = some (.tup (.ref ma :: g.k.rest)) ∧ H ma = some (.tup [.int g.m1, .int g.m2])
theorem KeyAt.mono {H H' : Hp} {v : V} {g : PageD} (e : ∀ a xs, H a = some (.tup xs) → H' a = some (.tup xs)) : KeyAt H v g → KeyAt H' v g := fun ⟨p, t, ma, h1, h2, h3, h4⟩ => ⟨p, t, ma, h1, e _ _ h2, e _ _ h3, e _ _ h4⟩
theorem dp_key {K : PySem.W.Frag} {H : Hp} {v : V} {g : PageD} (h : KeyAt H v g) : Dp K H v (pgK g) := by
  obtain ⟨p, t, ma, rfl, h1, h2, h3⟩ := h
  refine .tup (SqT.of h1) (.cons (.int _) (.cons (.str _) (.cons (.tup (SqT.of h2) (.cons (.tup (SqT.of h3) (.cons (.int _) (.cons (.int _) .nil))) ?_)) .nil)))
  cases g.k with
  | sold n => exact .cons (.str _) .nil
  | claimed p c => exact .cons (.str _) (.cons (.int _) .nil)
  | mended p => exact .cons (.str _) .nil
  | misused m => exact .cons (.str _) .nil
theorem alike_key (g q : PageD) : alike (pgK g) (pgK q) = true := by
  obtain ⟨d, a, b, k⟩ := g
  obtain ⟨d', a', b', k'⟩ := q
  cases k <;> cases k' <;> simp [pgK, alike, alikeAll]
theorem depth_key (g : PageD) : (pgK g).depth ≤ 3 := by
  obtain ⟨d, a, b, k⟩ := g
  cases k <;> simp [pgK, PyData.depth, PyData.depthAll]
theorem le_day {α : Type} {f : α → PageD} {x y : α} (h : dataLe false (fun z => pgK (f z)) x y = true) : (f x).day ≤ (f y).day := by
  rw [PySem.W.dataLe_eq] at h
  have h' : PySem.W.dataLt (pgK (f y)) (pgK (f x)) = false := by simpa using h
  unfold pgK at h'
  rw [PySem.W.dataLt_tuple, PySem.W.dataLt_cons (by simp [alike]), PySem.W.dataLt_int] at h'
  by_cases e : (f y).day = (f x).day
  · omega
  · rw [if_neg (by simp [PyData.eqv, e])] at h'
    have := of_decide_eq_false h'
    omega
theorem vals_get : ∀ {xs : List V} {its : List Value} {i : Nat} {u : Value}, Vals xs its → its[i]? = some u → ∃ x, xs[i]? = some x ∧ RelV x u
  | _, _, i, _, .nil, h => by simp at h
  | _, _, 0, _, .cons (a := x) r _, h => by
    simp at h
    exact ⟨x, rfl, h ▸ r⟩
  | _, _, i + 1, u, .cons _ rr, h => by
    simp at h
    obtain ⟨x, h1, h2⟩ := vals_get rr h
    exact ⟨x, by simpa using h1, h2⟩
theorem each_of {R : Value → PyData → Prop} {F : V → PageD → Prop} (k : ∀ v u g, RelV v u → F v g → R u (pgK g)) : ∀ {ks : List V} {us : List Value} {gs : List PageD}, Vals ks us → AllAt F ks gs → EachIs R us (gs.map pgK)
  | _, _, [], .nil, _ => .nil
  | _, _, _ :: _, .nil, h => by have := h.len; simp at this
  | _, _, [], .cons _ _, h => by have := h.len; simp at this
  | v :: ks, u :: us, g :: gs, .cons r rr, h => .cons (k v u g r (h.at_ 0 v g rfl rfl)) (each_of k rr ⟨by have := h.len; simpa using this, fun i v r h1 h2 => h.at_ (i + 1) v r (by simpa using h1) (by simpa using h2)⟩)
theorem each_zip : ∀ {ks : List V} {us : List Value} {gs : List PageD}, Vals ks us → ks.length = gs.length → EachIs (fun u (p : V × PageD) => RelV p.1 u) us (ks.zip gs)
  | _, _, [], .nil, _ => .nil
  | _, _, _ :: _, .nil, h => by simp at h
  | _, _, [], .cons _ _, h => by simp at h
  | v :: ks, u :: us, g :: gs, .cons r rr, h => .cons r (each_zip rr (by simpa using h))
theorem vals_each : ∀ {us : List Value} {ps : List (V × PageD)}, EachIs (fun u (p : V × PageD) => RelV p.1 u) us ps → Vals (ps.map (·.1)) us
  | _, _, .nil => .nil
  | _, _, .cons r rr => .cons r (vals_each rr)
section
variable {X : Cx} {pins : List (Addr × Obj)} {σ : L2.St} {H : Hp} {s : Shared} {A : Around} {a : Addr} {f : Value} {us : List V} {gs : List PageD} {P : PySem.Fin → Shared → Prop} {E : Value → Shared → Prop}
theorem keyI_tree (I : Inv X pins σ H s) (hH : H a = some (.lst us)) (hall : AllAt (PageAt H) us gs) (hlen : gs.length ≤ 40) (hu : A.units + 10 < cLine)
    (call : ∀ (s' : Shared) (H' : Hp) (x : V) (u : Value) (g : PageD), Inv X pins σ H' s' → RelV x u → PageAt H' x g → wpAny (model X.prog X.w) A (PySem.call f [u]) (EP X pins σ fun kv H'' => Same H' H'' ∧ KeyAt H'' kv g) (fun _ _ => False) s')
    (hP : ∀ (s' : Shared) (H' : Hp) (us' : List V) (gs' : List PageD), Inv X pins σ H' s' → (∀ b o, b ≠ a → H b = some o → H' b = some o) → H' a = some (.lst us') → AllAt (PageAt H') us' gs' → gs'.Perm gs → gs'.Pairwise (fun x y => x.day ≤ y.day) → P (.done (.ret .none)) s') :
    wpAny (model X.prog X.w) A (ksk_tree a f false) P E s := by
  obtain ⟨z, its, n, rv, hl, ho⟩ := I.lstM hH
  have hu40 : us.length ≤ 40 := by rw [hall.len]; exact hlen
  have hi40 : its.length ≤ 40 := by omega
  have hsz : its.length ≤ sizeLine := Nat.le_trans hi40 (by decide)
  unfold ksk_tree
  refine wpAny_bind (listItems_at ho rfl ?_)
  refine wpAny_bind (listUpdate_at ho rfl ?_ (by rw [List.size_toArray]; exact hsz) (Nat.zero_le _))
  have I1 := I.lset (t' := s.toks) (its' := []) (ys := []) hH ho (f := fun _ => #[]) rfl .nil (Nat.zero_le _)
  obtain ⟨_, its1, n1, r1, _, ho1⟩ := I1.lstM upd_same
  cases r1
  refine wpAny_bind (seqEpoch_at ho1 rfl ?_)
  refine wpAny_bind (wpAny_newTuple ?_ (by simpa using hsz))
  refine wpAny_bind (wpAny_newList ?_ (Nat.zero_le _))
  refine wpAny_holding ?_
  have I2 : Inv X pins σ (upd H a (.lst [])) { s with heap := (s.heap.update a (Obj.mapSeq fun _ => #[])).push { cls := .type "tuple", data := .seq its.toArray.toList.toArray }, toks := s.toks } := I1.kept (t' := s.toks) (fun b o q => Heap.get?_push_of_some _ q)
  have I3 := I2.lnew (t' := s.toks) (its := []) (ys := []) .nil (Nat.zero_le _)
  have hkn : (upd H a (.lst [])) ((s.heap.update a (Obj.mapSeq fun _ => #[])).push { cls := .type "tuple", data := .seq its.toArray.toList.toArray : Obj }).objs.size = none := I2.fresh
  have hoa3 : (((s.heap.update a (Obj.mapSeq fun _ => #[])).push { cls := .type "tuple", data := .seq its.toArray.toList.toArray : Obj }).push { cls := .type "list", data := .seq [].toArray : Obj }).get? a = some (seqObj "list" #[] n1) := Heap.get?_push_of_some _ (Heap.get?_push_of_some _ ho1)
  have key : ∀ (s3 : Shared) (kS : Addr) (H3 : Hp), Inv X pins σ H3 s3 → H3 kS = some (.lst []) → H3 a = some (.lst []) → kS ≠ a → H kS = none → (∀ b o, b ≠ a → b ≠ kS → H b = some o → H3 b = some o) → s3.heap.get? a = some (seqObj "list" #[] n1) →
      wpAny (model X.prog X.w) A (ksk_rest a f false its.toArray n1 (.ref kS)) P E s3 := by
    intro s3 kS H3 I3 hk3 ha3 hka hHk keep3 hoa
    obtain ⟨od, I4⟩ := I3.lock ha3 trivial
    have hod : od = seqObj "list" #[] n1 := by
      have hx := (I4.hok a _ upd_same).1
      rw [hoa] at hx
      exact (Option.some.inj hx).symm
    subst hod
    have hk4 : (upd H3 a (.frz (seqObj "list" #[] n1) (.lst []))) kS = some (.lst []) := by rw [upd_ne hka]; exact hk3
    have keep4 : ∀ b o, b ≠ a → b ≠ kS → H b = some o → (upd H3 a (.frz (seqObj "list" #[] n1) (.lst []))) b = some o := fun b o n1 n2 h => by rw [upd_ne n1]; exact keep3 b o n1 n2 h
    have ha4 : (upd H3 a (.frz (seqObj "list" #[] n1) (.lst []))) a = some (.frz (seqObj "list" #[] n1) (.lst [])) := upd_same
    have nofr := I3.nofrz ha3 trivial
    generalize upd H3 a (.frz (seqObj "list" #[] n1) (.lst [])) = H4 at *
    have tup4 : ∀ {H' : Hp}, (∀ b o, b ≠ kS → H4 b = some o → H' b = some o) → ∀ b xs, H b = some (.tup xs) → H' b = some (.tup xs) := fun k b xs h => k b _ (fun z => by rw [z, hHk] at h; cases h) (keep4 b _ (ne_of h hH (fun z => by cases z)) (fun z => by rw [z, hHk] at h; cases h) h)
    unfold ksk_rest
    refine wpAny_bind (wpAny_rule ?_)
    rw [List.forIn_toArray]
    refine wpAny_bind (ksk_fold (fun i s' => ∃ H' ks, Inv X pins σ H' s' ∧ (∀ b o, b ≠ kS → H4 b = some o → H' b = some o) ∧ H' kS = some (.lst ks) ∧ AllAt (KeyAt H') ks (gs.take i)) its 0 s3 ⟨H4, [], I4, fun b o _ h => h, hk4, .nil⟩ ?step ?done)
    case step =>
      rintro j x s' hx ⟨H', ks, I', keep, hk, hks⟩
      simp only [Nat.zero_add] at hks ⊢
      obtain ⟨xv, hxv, rx⟩ := vals_get rv hx
      obtain ⟨g, hg, hpg⟩ := hall.get hxv
      have hpg' := PageAt.monoT (tup4 keep) hpg
      refine wpAny_bind (wpAny_attempt (wpAny_mono (call s' H' xv x g I' rx hpg') (fun v s'' he => ?_) fun _ _ hF => hF.elim))
      obtain ⟨kv, H'', I'', rk, same, hkey⟩ := he
      try dsimp only
      have hk'' := same _ _ hk
      obtain ⟨_, kits, kn, kr, _, hko⟩ := I''.lstM hk''
      have hkl : ks.length ≤ 40 := by rw [hks.len]; exact Nat.le_trans (List.length_take_le' _ _) hlen
      have hkil : kits.length ≤ 40 := by rw [← kr.length]; exact hkl
      refine wpAny_bind (listUpdate_at hko rfl ?_ (by rw [List.size_toArray]; exact Nat.le_trans hkil (by decide)) (by rw [Array.size_push, List.size_toArray]; exact Nat.succ_le_succ (Nat.le_trans hkil (by decide))))
      have J := I''.lset (t' := s''.toks) (its' := kits ++ [v]) (ys := ks ++ [kv]) hk'' hko (f := (·.push v)) (by simp) (kr.append (.cons rk .nil)) (szn (by simp; omega))
      refine wpAny_pure ⟨rfl, _, ks ++ [kv], J, fun b o hb h => ?_, upd_same, ?_⟩
      · rw [upd_ne hb]
        exact same _ _ (keep b o hb h)
      · have up : ∀ a xs, H'' a = some (.tup xs) → (upd H'' kS (.lst (ks ++ [kv]))) a = some (.tup xs) := (ISame.lst hk'').tup
        rw [take_snoc hg]
        exact ((hks.mono fun _ _ => KeyAt.mono fun b xs h => same _ _ h).mono fun _ _ => KeyAt.mono up).snoc (hkey.mono up)
    case done =>
      rintro s' ⟨H', ks, I', keep, hk, hks⟩
      have e3 : gs.take (0 + its.length) = gs := List.take_of_length_le (by have := hall.len; omega)
      rw [e3] at hks
      obtain ⟨_, kits, kn, kr, hkll, hko⟩ := I'.lstM hk
      have ha' := keep a _ hka.symm ha4
      have hoa' : s'.heap.get? a = some (seqObj "list" #[] n1) := (I'.hok a _ ha').1
      try dsimp only
      refine wpAny_bind (listItems_at hko rfl ?_)
      have hek : EachIs (fun v k => ∃ as, Reads s'.heap v k as) kits (gs.map pgK) := each_of (fun v u g r h => Dp.reads I' _ v u (dp_key (K := X.K) h) r) kr hks
      have hal : AllAlike (gs.map pgK) := AllAlike.of alike_key
      have hsk : Sortable (gs.map pgK) := Sortable.tuples fun g => ⟨_, _, rfl⟩
      have hkz : kits.length = its.length := by rw [← hkll, hks.len, ← hall.len, hl]
      have hdep : ∀ d, d ∈ gs.map pgK → A.units + d.depth < cLine := fun d hd => by
        obtain ⟨g, _, rfl⟩ := List.mem_map.mp hd
        have := depth_key g
        omega
      refine keyI_end (vs := its) (κ := dataKind s'.heap (gs.map pgK)) hko hoa' hka (by rw [List.toList_toArray]; exact SortsAt.data hek hal hsk hdep) (by rw [List.size_toArray]; exact hkz) hsz ?_
      rw [List.toList_toArray]
      have hzm : (us.zip gs).map (fun p : V × PageD => pgK p.2) = gs.map pgK := by
        rw [show (fun p : V × PageD => pgK p.2) = pgK ∘ Prod.snd from rfl, ← List.map_map, List.map_snd_zip (by rw [hall.len] <;> exact Nat.le_refl _)]
      have ko : KeyedOut false ((us.zip gs).map fun p : V × PageD => pgK p.2) its (sortVals (dataKind s'.heap (gs.map pgK)) false kits its) := by
        rw [hzm]
        exact ⟨s'.heap, kits, hal, rfl, hek⟩
      have hout := keyedOut_each (R := fun u (p : V × PageD) => RelV p.1 u) (fun p : V × PageD => pgK p.2) ko (each_zip rv hall.len)
      have hperm := List.mergeSort_perm (us.zip gs) (dataLe false fun p : V × PageD => pgK p.2)
      have hpw := PySem.W.sort_pairwise (le := dataLe false fun p : V × PageD => pgK p.2) (PySem.W.sortLe_total _ _ _) (us.zip gs)
      generalize (us.zip gs).mergeSort (dataLe false fun p : V × PageD => pgK p.2) = L at *
      generalize sortVals (dataKind s'.heap (gs.map pgK)) false kits its = out at *
      have hvo := vals_each hout
      have hLl : L.length ≤ 40 := by
        rw [hperm.length_eq, List.length_zip]
        omega
      have J0 := I'.unlock ha' nofr
      have hk0 : (upd H' a (.lst [])) kS = some (.lst ks) := by rw [upd_ne hka]; exact hk
      have J1 := J0.lset (t' := s'.toks) (its' := []) (ys := []) hk0 hko (f := fun _ => #[]) rfl .nil (Nat.zero_le _)
      have ha1 : (upd (upd H' a (.lst [])) kS (.lst [])) a = some (.lst []) := by rw [upd_ne hka.symm, upd_same]
      obtain ⟨_, ia, na, ra, _, hoa1⟩ := J1.lstM ha1
      cases ra
      have J2 := J1.lset (t' := s'.toks) (its' := out) (ys := L.map (·.1)) ha1 hoa1 (f := fun _ => out.toArray) rfl hvo (szn (by simp; omega))
      have tup2 : ∀ b xs, H b = some (.tup xs) → (upd (upd (upd H' a (.lst [])) kS (.lst [])) a (.lst (L.map (·.1)))) b = some (.tup xs) := fun b xs h => by
        have n1 : b ≠ a := ne_of h hH (fun z => by cases z)
        have n2 : b ≠ kS := fun z => by rw [z, hHk] at h; cases h
        rw [upd_ne n1, upd_ne n2, upd_ne n1]
        exact tup4 keep b xs h
      refine hP _ _ (L.map (·.1)) (L.map (·.2)) J2 (fun b o hb h => ?_) upd_same ⟨by simp, fun i v g hv hg => ?_⟩ ?_ ?_
      · have n2 : b ≠ kS := fun z => by rw [z, hHk] at h; cases h
        rw [upd_ne hb, upd_ne n2, upd_ne hb]
        exact keep b o n2 (keep4 b o hb n2 h)
      · rw [List.getElem?_map] at hv hg
        cases hLi : L[i]? with
        | none => rw [hLi] at hv; cases hv
        | some p =>
          rw [hLi] at hv hg
          cases hv
          cases hg
          obtain ⟨j, hj⟩ := List.getElem?_of_mem (hperm.mem_iff.mp (List.mem_of_getElem? hLi))
          rw [List.getElem?_zip_eq_some] at hj
          exact PageAt.monoT tup2 (hall.at_ j _ _ hj.1 hj.2)
      · have := hperm.map Prod.snd
        rw [List.map_snd_zip (by rw [hall.len] <;> exact Nat.le_refl _)] at this
        exact this
      · rw [List.pairwise_map]
        exact hpw.imp fun h => le_day (f := Prod.snd) h
  refine key _ _ _ I3 upd_same ?_ ?_ ?_ (fun b o hb1 hb2 h => ?_) hoa3
  · rw [upd_ne (ne_of_none upd_same hkn), upd_same]
  · exact (ne_of_none upd_same hkn).symm
  · have hne := (ne_of_none (upd_same (H := H) (a := a) (o := .lst [])) hkn).symm
    rw [upd_ne hne] at hkn
    exact hkn
  · rw [upd_ne hb2, upd_ne hb1]
    exact h
end
def rSortPg (K : PySem.W.Frag) : List V → List V → Hp → VK → Prop := fun vs zs H Q => ∃ (a : Addr) (us : List V) (gs : List PageD), vs = [.ref a] ∧ zs = [.ref (He.ga K "page_rank")] ∧ H a = some (.lst us) ∧ AllAt (PageAt H) us gs ∧ gs.length ≤ 40 ∧
  ∀ (H' : Hp) (q : Addr) (us' : List V) (gs' : List PageD), Same H H' → H q = none → H' q = some (.lst us') → AllAt (PageAt H') us' gs' → gs'.Perm gs → gs'.Pairwise (fun x y => x.day ≤ y.day) → Q (.ref q) H'
theorem cr_sortPg {X : Cx} {j : Nat} (T : Tx X.w X.K X.mg) (c : C8.Cal X.prog X.w X.K X.mg X.base 1 "page_rank" sp_page_rank []) (hr : Room j X.A) (hk : 3 ≤ j) : CallRK X (.builtin "sorted") [Str.ofString "key"] (rSortPg X.K) := by
  intro pins s σ H vs zs us ws Q I r rz h
  obtain ⟨a, uv, gs, rfl, rfl, hH, hall, hlen, q⟩ := h
  obtain rfl := Vals.ref1 r
  obtain ⟨w1, rfl, e1⟩ := vals1 rz
  obtain rfl : w1 = Value.ref (He.ga X.K "page_rank") := e1
  obtain ⟨z, its, n, rv, hl, ho⟩ := I.lstM hH
  have hsz : its.length ≤ sizeLine := by rw [← hl]; exact z
  have hfr : H (s.heap.objs.size + 1) = none := I.hok.fresh (Nat.le_succ _)
  have hr3 : Room 1 X.A.in1.in1 := ((hr.mono hk).in1).in1
  have hu : X.A.in1.in1.units + 10 < cLine := by have := hr3.un; omega
  show wpAny _ _ (call (.builtin "sorted") [.ref a] [(Str.ofString "key", .ref (He.ga X.K "page_rank"))]) _ _ _
  refine PySem.W.sorted_of_sort ⟨_, ho, rfl, n, rfl⟩ hsz (ksk_s1 _ _) (fun _ => ksk_l1 _ _) fun E' => ?_
  rw [ksk_t1]
  have I1 : Inv X pins σ (upd H (s.heap.objs.size + 1) (.lst uv)) { s with heap := PySem.W.copyHeap s.heap its, toks := s.toks } :=
    I.laid (t' := s.toks) (fun b u q => PySem.W.copyHeap_old q) (Nat.le_succ _) ⟨z, its, 0, rv, PySem.W.copyHeap_at s.heap its⟩
  have new : Same H (upd H (s.heap.objs.size + 1) (.lst uv)) := Same.new hfr
  refine keyI_tree I1 upd_same (hall.mono fun _ _ => PageAt.mono (.of new)) hlen hu (fun s' H' x u g I' rx hpg => ?_) (fun s' H' us' gs' I' keep ha hall' perm pw => ?_)
  · obtain ⟨f, fd, ps, ds, F, hm, kp, b, d⟩ := c.ex
    have e := hm.symm.trans T.g_page_rank
    cases e
    cases d
    have hps : ps.length = 1 := (F.len [x] H' (fun _ _ => True) (fun _ _ _ => False) ⟨x, g, rfl, hpg, fun _ _ _ _ _ _ _ _ => trivial⟩).symm
    have bb := b s' [u] I'.kIn (by rw [hps]; rfl)
    rw [List.append_nil] at bb
    refine wpAny_call (codeAny_mono (F.run X.A.in1.in1 X.stack s' H' ⟨[u], []⟩ [u] [x] (fun kv H'' => Same H' H'' ∧ KeyAt H'' kv g) (fun _ _ _ => False) hr3 I'.env0.in1.in1 bb (.cons rx .nil) ⟨x, g, rfl, hpg, fun H'' p t ma e1 h1 h2 h3 => ⟨e1, p, t, ma, rfl, h1, h2, h3⟩⟩) fun r s'' hq => ?_)
    cases r with
    | error e => exact False.elim hq
    | ok fl =>
      cases fl with
      | ret u => exact I'.after hq
      | next => exact False.elim hq
      | brk => exact False.elim hq
      | cont => exact False.elim hq
  · refine ⟨rfl, .ref (s.heap.objs.size + 1), H', I', rfl, q H' _ us' gs' (fun b o hb => keep b o (ne_of_none hb hfr) (new b o hb)) hfr ha hall' perm pw⟩
end Wk
end

section
set_option Elab.async false
set_option linter.all false
set_option maxRecDepth 100000
/-! pages: do_fit, gone_between -/
namespace Wk
open PySem PySem.Spec L2 RZ
section
variable {P : Program} {w : World} {K : PySem.W.Frag} {mg : Str → Option Value} {base : Heap}
theorem c_is_not_more (T : Tx w K mg) : C8.Cal P w K mg base 1 "is_not_more" sp_is_not_more [] := by
  obtain ⟨fd, F⟩ := T.F_is_not_more
  refine ⟨_, fd, ["one", "other"], [], F.ok sc_is_not_more (fun vs H Q E h => ?_) (fun cdv A outer s H vs Q E hr h => ?_), T.g_is_not_more, F.kp, F.bindsN fun _ _ _ _ _ _ us hl => match us, hl with | [_, _], _ => rfl, .nil⟩
  · obtain ⟨v, g, x, y, z, u, rfl, _⟩ := h
    rfl
  · obtain ⟨a, b, x, y, z, u, rfl, ha, hb, h1, h2, k⟩ := h
    refine ⟨_, PSs.nox (pss_one (ps_ret (pe_and (pe_cmpR op_le (pe_ix ix_tup (pv 0) pe_int (fun _ _ => rfl)) (pe_ix ix_tup (pv 1) pe_int (fun _ _ => rfl)) (nomark _)) (pe_one (pe_cmpR op_le (pe_ix ix_tup (pv 0) pe_int (fun _ _ => rfl)) (pe_ix ix_tup (pv 1) pe_int (fun _ _ => rfl)) (nomark _)))))), ?_⟩
    refine ⟨_, rfl, a, _, 0, _, rfl, rfl, SqT.of ha, at0, _, rfl, b, _, 0, _, rfl, rfl, SqT.of hb, at0, _, _, rfl, rfl, _, rfl, ifd h1 ?_⟩
    refine ⟨_, rfl, a, _, 1, _, rfl, rfl, SqT.of ha, at1, _, rfl, b, _, 1, _, rfl, rfl, SqT.of hb, at1, _, _, rfl, rfl, ?_⟩
    exact q_b (Q := Q) (decide_eq_true h2) k
theorem shp_ii (x y : Int) : SeqAt.shaped (.tuple [.int x, .int y]) = true := by
  unfold SeqAt.shaped
  rw [Bool.and_eq_true]
  exact ⟨by simp [PyData.canLay0, PyData.canLayAll0], decide_eq_true (by simp [PyData.depth, PyData.depthAll])⟩
theorem all2 {α : Type} {F : V → α → Prop} {x y : V} {a b : α} (h1 : F x a) (h2 : F y b) : AllAt F [x, y] [a, b] := (AllAt.nil.snoc h1).snoc h2
theorem c_do_fit (T : Tx w K mg) : C8.Cal P w K mg base 4 "do_fit" sp_do_fit [] := by
  obtain ⟨fd, F⟩ := T.F_do_fit
  refine ⟨_, fd, ["one", "other"], [], F.ok sc_do_fit (fun vs H Q E h => ?_) (fun cdv A outer s H vs Q E hr h => ?_), T.g_do_fit, F.kp, F.bindsN fun _ _ _ _ _ _ us hl => match us, hl with | [_, _], _ => rfl, .nil⟩
  · obtain ⟨v, g, x, y, rfl, _⟩ := h
    rfl
  · obtain ⟨v, u, g, q, rfl, hv, hu, ft, k⟩ := h
    obtain ⟨a, ma, rfl, ha, hma⟩ := id hv
    obtain ⟨b, mb, rfl, hb, hmb⟩ := id hu
    refine ⟨_, PSs.nox (pss_cons (ps_if (pt_cmpR op_eq (pe_ix ix_tup (pv 0) pe_int (fun _ _ => rfl)) (pe_ix ix_tup (pv 1) pe_int (fun _ _ => rfl)) (nomark _)) (pss_one (ps_ret (pe_cmpR (op_eqD hr.units) (pe_ix ix_tup (pv 0) pe_int (fun _ _ => rfl)) (pe_ix ix_tup (pv 1) pe_int (fun _ _ => rfl)) (nomark _)))) pss_nil)
      (pss_cons (ps_asg (pe_callBK (cr_sortPg T (c_page_rank T) hr (by decide)) rfl T.f_sorted (by decide +kernel) (pa_cons (pe_lst (pa_cons (pv 0) (pa_cons (pv 1) pa_nil))) pa_nil) (pk_cons (pe_gr rfl T.g_page_rank) pk_nil)) (pg_lst rfl (pgs_cons (pg_name (i := 2) sc_do_fit.nd rfl (Or.inl rfl)) (pgs_cons (pg_name (i := 3) sc_do_fit.nd rfl (Or.inl rfl)) pgs_nil))))
      (pss_one (ps_ret (C8.pe_c (c_is_not_more T) hr (by decide) rfl (pa_cons (pe_ix ix_tup (pv 2) pe_int (fun _ _ => rfl)) (pa_cons (pe_ix ix_tup (pv 3) pe_int (fun _ _ => rfl)) pa_nil))))))), ?_⟩
    refine ⟨_, rfl, a, _, 1, _, rfl, rfl, SqT.of ha, at1, _, rfl, b, _, 1, _, rfl, rfl, SqT.of hb, at1, rfl, _, rfl, ite2b (fun e => ?_) (fun e => ?_)⟩
    · have e : g.day = q.day := by
        have := of_decide_eq_true e
        injection this
      obtain ⟨e1, e2⟩ := ft.1 e
      refine ⟨_, rfl, a, _, 2, _, rfl, rfl, SqT.of ha, at2, _, rfl, b, _, 2, _, rfl, rfl, SqT.of hb, at2, ?_⟩
      refine ⟨_, _, .tup (SqT.of hma) (.cons (.int _) (.cons (.int _) .nil)), .tup (SqT.of hmb) (.cons (.int _) (.cons (.int _) .nil)), shp_ii _ _, shp_ii _ _, ?_⟩
      exact q_b (Q := Q) (by simp [PyData.eqv, PyData.eqvAll, e1, e2]) (k _ (Same.refl _))
    · have e : g.day ≠ q.day := fun z => of_decide_eq_false e (by rw [z])
      refine ⟨_, rfl, _, rfl, sz2, fun l hl => ?_⟩
      have e1 : Same H (upd H l (.lst [.ref a, .ref b])) := Same.new hl
      refine ⟨l, _, [g, q], rfl, rfl, upd_same, all2 (hv.mono (.of e1)) (hu.mono (.of e1)), by simp, fun H2 p vs' ps' e2 _ hp hall perm sorted => ?_⟩
      have hl2 : ps'.length = 2 := perm.length_eq
      match ps', hl2, vs', hall.len with
      | [x, y], _, [vx, vy], _ =>
        have hx := hall.at_ 0 vx x rfl rfl
        have hy := hall.at_ 1 vy y rfl rfl
        obtain ⟨xa, xm, rfl, hxa, hxm⟩ := hx
        obtain ⟨ya, ym, rfl, hya, hym⟩ := hy
        have hle : x.day ≤ y.day := by simpa using sorted
        have hxy : (x = g ∧ y = q) ∨ (x = q ∧ y = g) := by
          have hx : x ∈ [g, q] := perm.mem_iff.mp (by simp)
          have hy : y ∈ [g, q] := perm.mem_iff.mp (by simp)
          have nd : [g, q].Nodup := by simp; exact fun z => e (by rw [z])
          have nd2 : [x, y].Nodup := perm.nodup_iff.mpr nd
          simp at hx hy nd2
          rcases hx with rfl | rfl <;> rcases hy with rfl | rfl
          · exact absurd rfl nd2
          · exact .inl ⟨rfl, rfl⟩
          · exact .inr ⟨rfl, rfl⟩
          · exact absurd rfl nd2
        have hm : x.m1 ≤ y.m1 ∧ x.m2 ≤ y.m2 := by
          rcases hxy with ⟨rfl, rfl⟩ | ⟨rfl, rfl⟩
          · exact ft.2.1 (by omega)
          · exact ft.2.2 (by omega)
        refine ⟨p, _, rfl, SqL.of hp, rfl, _, _, rfl, _, _, rfl, rfl, ?_⟩
        exact ⟨_, rfl, xa, _, 2, _, rfl, rfl, SqT.of hxa, at2, _, rfl, ya, _, 2, _, rfl, rfl, SqT.of hya, at2, xm, ym, _, _, _, _, rfl, hxm, hym, hm.1, hm.2, k _ (e1.trans e2)⟩
theorem c_gone_between (T : Tx w K mg) : C8.Cal P w K mg base 1 "gone_between" sp_gone_between [] := by
  obtain ⟨fd, F⟩ := T.F_gone_between
  refine ⟨_, fd, ["one", "other"], [], F.ok sc_gone_between (fun vs H Q E h => ?_) (fun cdv A outer s H vs Q E hr h => ?_), T.g_gone_between, F.kp, F.bindsN fun _ _ _ _ _ _ us hl => match us, hl with | [_, _], _ => rfl, .nil⟩
  · obtain ⟨v, g, x, y, rfl, _⟩ := h
    rfl
  · obtain ⟨v, u, g, q, rfl, hv, hu, k⟩ := h
    obtain ⟨a, ma, rfl, ha, hma⟩ := id hv
    obtain ⟨b, mb, rfl, hb, hmb⟩ := id hu
    refine ⟨_, PSs.nox (pss_one (ps_ret (pe_tup (pa_cons (pe_op op_sub (pe_ix ix_tup (pv 1) pe_int (fun _ _ => rfl)) (pe_ix ix_tup (pv 0) pe_int (fun _ _ => rfl))) (pa_cons (pe_op op_sub (pe_ix ix_tup (pe_ix ix_tup (pv 1) pe_int (fun _ _ => rfl)) pe_int (fun _ _ => rfl)) (pe_ix ix_tup (pe_ix ix_tup (pv 0) pe_int (fun _ _ => rfl)) pe_int (fun _ _ => rfl))) (pa_cons (pe_op op_sub (pe_ix ix_tup (pe_ix ix_tup (pv 1) pe_int (fun _ _ => rfl)) pe_int (fun _ _ => rfl)) (pe_ix ix_tup (pe_ix ix_tup (pv 0) pe_int (fun _ _ => rfl)) pe_int (fun _ _ => rfl))) pa_nil)))))), ?_⟩
    refine ⟨_, rfl, b, _, 1, _, rfl, rfl, SqT.of hb, at1, _, rfl, a, _, 1, _, rfl, rfl, SqT.of ha, at1, _, _, rfl, rfl, ?_⟩
    refine ⟨_, rfl, b, _, 2, _, rfl, rfl, SqT.of hb, at2, mb, _, 0, _, rfl, rfl, SqT.of hmb, rfl, _, rfl, a, _, 2, _, rfl, rfl, SqT.of ha, at2, ma, _, 0, _, rfl, rfl, SqT.of hma, rfl, _, _, rfl, rfl, ?_⟩
    refine ⟨_, rfl, b, _, 2, _, rfl, rfl, SqT.of hb, at2, mb, _, 1, _, rfl, rfl, SqT.of hmb, rfl, _, rfl, a, _, 2, _, rfl, rfl, SqT.of ha, at2, ma, _, 1, _, rfl, rfl, SqT.of hma, rfl, _, _, rfl, rfl, ?_⟩
    exact ⟨sz3, fun p hp => k _ _ (Same.new hp) ⟨p, rfl, upd_same⟩⟩
end
end Wk
end

section
set_option Elab.async false
set_option linter.all false
set_option maxRecDepth 100000
/-! Rule -/
namespace Wk
open PySem PySem.Spec L2 RZ
structure RuleD where
  word : Str
  b : B3
  pg : PageD
def RuleAt (K : PySem.W.Frag) (H : Hp) (v : V) (r : RuleD) : Prop := ∃ a dx pa pgv, v = .ref a ∧ H a = some (.ins (He.ga K "Rule") dx [("told_word", .str r.word), ("kept", .ref pa), ("since", pgv)]) ∧ PromAt K H pa r.b ∧ PageAt H pgv r.pg
theorem RuleAt.mono {K : PySem.W.Frag} {H H' : Hp} {v : V} {r : RuleD} (e : ISame H H') : RuleAt K H v r → RuleAt K H' v r := fun ⟨a, dx, pa, pgv, h1, h2, h3, h4⟩ => ⟨a, dx, pa, pgv, h1, e.ins _ _ _ _ h2, h3.mono e, h4.mono e⟩
def overG (r : RuleD) (g : PageD) : Bool := decide (r.pg.day ≤ g.day) && !holds3 r.b (goneOf r.pg g)
def overL (r : RuleD) (day : Int) : Bool := match r.b.1 with
  | none => false
  | some l => decide (r.pg.day + l < day)
def overB (r : RuleD) (pages : List PageD) (day : Int) : Bool := pages.any (overG r) || overL r day
def EndV (v : V) (over : Bool) : Prop := (over = false → v = .non) ∧ (over = true → ∃ i, v = .int i)
def sp_Rule_init (K : PySem.W.Frag) : Sp := fun vs H Q _ => ∃ (x dx pa : Addr) (pgv : V) (r : RuleD), vs = [.ref x, .str r.word, .ref pa, pgv] ∧ H x = some (.ins (He.ga K "Rule") dx []) ∧ PromAt K H pa r.b ∧ PageAt H pgv r.pg ∧
  ∀ H' : Hp, SX x H H' → RuleAt K H' (.ref x) r → Q .non H'
def sp_is_over (K : PySem.W.Frag) : Sp := fun vs H Q _ => ∃ v u r g, vs = [v, u] ∧ RuleAt K H v r ∧ PageAt H u g ∧ ∀ H', Same H H' → Q (.bl (!holds3 r.b (goneOf r.pg g))) H'
def sp_ended (K : PySem.W.Frag) : Sp := fun vs H Q _ => ∃ v l us r pages day, vs = [v, .ref l, .int day] ∧ RuleAt K H v r ∧ H l = some (.lst us) ∧ AllAt (PageAt H) us pages ∧ pages.length ≤ 40 ∧ ∀ H' e, Same H H' → EndV e (overB r pages day) → Q e H'
theorem exists_min : ∀ ns : List Int, ns ≠ [] → ∃ m, m ∈ ns ∧ ∀ y ∈ ns, m ≤ y
  | [], h => absurd rfl h
  | [x], _ => ⟨x, by simp, by simp⟩
  | x :: y :: r, _ => by
    obtain ⟨m, hm, hl⟩ := exists_min (y :: r) (by simp)
    by_cases h : x ≤ m
    · refine ⟨x, by simp, fun z hz => ?_⟩
      rcases List.mem_cons.mp hz with rfl | hz
      · exact Int.le_refl _
      · exact Int.le_trans h (hl z hz)
    · refine ⟨m, List.mem_cons_of_mem _ hm, fun z hz => ?_⟩
      rcases List.mem_cons.mp hz with rfl | hz
      · omega
      · exact hl z hz
section
variable {P : Program} {w : World} {K : PySem.W.Frag} {mg : Str → Option Value} {base : Heap}
theorem k_Rule (T : Tx w K mg) : C8.Mak P w K mg base 1 "Rule" (He.ga K "Rule") (sp_Rule_init K) [] := by
  obtain ⟨fd, F⟩ := T.F_Rule_init
  refine ⟨_, fd, ["self", "word", "promise", "page"], [], T.k_Rule, F.ok sc_Rule_init (fun vs H Q E h => ?_) (fun cdv A outer s H vs Q E hr h => ?_), T.g_Rule, F.bindsN fun _ _ _ _ _ _ us hl => match us, hl with | [_, _, _, _], _ => rfl, .nil⟩
  · obtain ⟨x, b, c, d, e, rfl, _⟩ := h
    rfl
  · obtain ⟨x, dx, pa, pgv, r, rfl, h1, h2, h3, k⟩ := h
    refine ⟨_, PSs.nox (pss_cons (ps_fld (pv 0) (pv 1) rfl)
      (pss_cons (ps_fld (pv 0) (pv 2) rfl)
      (pss_one (ps_fld (pv 0) (pv 3) rfl)))), ?_⟩
    refine ⟨_, rfl, _, rfl, x, _, dx, [], rfl, h1, T.c_Rule, T.n_Rule_told_word, (by decide), ?_⟩
    refine ⟨_, rfl, _, rfl, x, _, dx, _, rfl, upd_same, T.c_Rule, T.n_Rule_kept, (show 1 < 1000 by decide), ?_⟩
    refine ⟨_, rfl, _, rfl, x, _, dx, _, rfl, upd_same, T.c_Rule, T.n_Rule_since, (show 2 < 1000 by decide), ?_⟩
    have s3 : SX x H (upd (upd (upd H x (.ins (He.ga K "Rule") dx [("told_word", .str r.word)])) x (.ins (He.ga K "Rule") dx [("told_word", .str r.word), ("kept", .ref pa)])) x (.ins (He.ga K "Rule") dx [("told_word", .str r.word), ("kept", .ref pa), ("since", pgv)])) :=
      (SX.upd.trans SX.upd).trans SX.upd
    have f3 := SX.fs (f := "told_word") s3 h1 okF.nil
    exact k _ s3 ⟨x, dx, pa, pgv, rfl, upd_same, h2.monoF f3, h3.monoT f3.tup⟩
theorem m_Rule_is_over (T : Tx w K mg) : C8.Met P w K mg base 2 (He.ga K "Rule") "is_over" (sp_is_over K) [] := by
  obtain ⟨fd, F⟩ := T.F_Rule_is_over
  refine ⟨_, fd, ["self", "page"], [], T.c_Rule, T.m_Rule_is_over, F.ok sc_Rule_is_over (fun vs H Q E h => ?_) (fun cdv A outer s H vs Q E hr h => ?_), F.bindsN fun _ _ _ _ _ _ us hl => match us, hl with | [_, _], _ => rfl, .nil⟩
  · obtain ⟨x, b, c, d, rfl, _⟩ := h
    rfl
  · obtain ⟨v, u, r, g, rfl, ⟨a, dx, pa, pgv, rfl, h1, h2, h3⟩, h4, k⟩ := h
    obtain ⟨dp, lt, q1, q2⟩ := id h2
    refine ⟨_, PSs.nox (pss_one (ps_ret (pe_cmpR (op_neD hr.units) (C8.pe_mt (m_Promise_beyond T) hr (by decide) (pe_fld (pv 0) rfl) (pa_cons (C8.pe_c (c_gone_between T) hr (by decide) rfl (pa_cons (pe_fld (pv 0) rfl) (pa_cons (pv 1) pa_nil))) pa_nil)) (pe_lst pa_nil) (nomark _)))), ?_⟩
    refine ⟨_, rfl, a, _, dx, _, _, rfl, h1, T.c_Rule, T.n_Rule_kept, rfl, pa, dp, _, rfl, q1, rfl, ?_⟩
    refine ⟨_, rfl, a, _, dx, _, _, rfl, h1, T.c_Rule, T.n_Rule_since, rfl, _, rfl, pgv, u, r.pg, g, rfl, h3, h4, fun H1 w e1 hw => ?_⟩
    refine ⟨pa, r.b, w, goneOf r.pg g, rfl, h2.mono (.of e1), hw, fun H2 p ys e2 hp hl so z => ?_⟩
    refine ⟨szn (Nat.zero_le _), fun q hq => ?_⟩
    have hl2 : (upd H2 q (.lst [])) p = some (.lst (ys.map V.str)) := by rw [upd_ne (ne_of_none hl hq)]; exact hl
    refine ⟨_, _, .lst (SqL.of hl2) (dp_strs ys), .lst (SqL.of upd_same) .nil, shp_strs ys so, shp_nil, ?_⟩
    have eb : PyData.eqv (.list (ys.map PyData.str)) (.list []) = holds3 r.b (goneOf r.pg g) := by
      rw [eqv_nil, ← z]
      cases ys <;> rfl
    show Q (.bl (!PyData.eqv (.list (ys.map PyData.str)) (.list []))) _
    rw [eb]
    exact k _ ((e1.trans e2).trans (Same.new hq))
theorem m_Rule_ended (T : Tx w K mg) : C8.Met P w K mg base 3 (He.ga K "Rule") "ended" (sp_ended K) [] := by
  obtain ⟨fd, F⟩ := T.F_Rule_ended
  refine ⟨_, fd, ["self", "pages", "day"], [], T.c_Rule, T.m_Rule_ended, F.ok sc_Rule_ended (fun vs H Q E h => ?_) (fun cdv A outer s H vs Q E hr h => ?_), F.bindsN fun _ _ _ _ _ _ us hl => match us, hl with | [_, _, _], _ => rfl, .nil⟩
  · obtain ⟨x, b, c, d, e, f, rfl, _⟩ := h
    rfl
  · obtain ⟨v, l, us, r, pages, day, rfl, hrl, hl, hall, hlen, k⟩ := h
    obtain ⟨a, dx, pa, pgv, rfl, h1, h2, h3⟩ := id hrl
    obtain ⟨sa, sm, rfl, g1, g2⟩ := id h3
    refine ⟨_, PSs.nox (pss_cons (ps_setLc (i := 3) (own := [("page", 5)]) (g := gName 5) (by rfl) sc_Rule_ended.nd rfl rfl (sw_true rfl rfl rfl (by decide +kernel)) (pi_list (pv 1)) (blkOk_by (own := [("page", 5)]) (N := N_Rule_ended) (sc := defScope s_Rule_ended) (by decide +kernel)) (fun _ _ _ _ _ => (pg_name (i := 5) sc_Rule_ended.nd rfl (Or.inl rfl))) (fun _ _ _ _ _ => (pts_one (PW.pt (pw_and (pt_cmpR op_ge (pe_ix (ix_tupK (K := K)) (pv 5) pe_int (fun _ _ => rfl)) (pe_ix (ix_tupK (K := K)) (pe_fldK (K := K) (pv 0) rfl) pe_int (fun _ _ => rfl)) (nomark _)) (pw_and1 (pt_val (C8.pe_mt (m_Rule_is_over T) hr (by decide) (pv 0) (pa_cons (pv 5) pa_nil)))))))) (fun _ _ _ _ _ => (pe_ix (ix_tupK (K := K)) (pv 5) pe_int (fun _ _ => rfl))))
      (pss_cons (ps_set (i := 4) sc_Rule_ended.nd rfl (Or.inl rfl) (pe_ix ix_tup (C8.pe_mt0 (m_Promise_bounds T) hr (by decide) (pe_fld (pv 0) rfl)) pe_int (fun _ _ => rfl)))
      (pss_cons (ps_if (PW.pt (pw_and (pt_cmpR op_notN (pv 4) pe_non (nomark _)) (pw_and1 (pt_cmpR op_lt (pe_op op_add (pe_ix ix_tup (pe_fld (pv 0) rfl) pe_int (fun _ _ => rfl)) (pv 4)) (pv 2) (nomark _))))) (pss_one (ps_expr (pe_bm PySem.F.plainAttrs_list PySem.F.slot_list_append PySem.F.type_list_append mt_append (pv 3) (pa_cons (pe_op op_add (pe_op op_add (pe_ix ix_tup (pe_fld (pv 0) rfl) pe_int (fun _ _ => rfl)) (pv 4)) pe_int) pa_nil)))) pss_nil)
      (pss_one (ps_ret (pe_callBK (cr_minD rfl (hu65 hr)) rfl T.f_min (by decide +kernel) (pa_cons (pv 3) pa_nil) (pk_cons pe_non pk_nil))))))), ?_⟩
    refine ⟨_, rfl, l, rfl, ⟨_, SqL.of hl⟩, fun D hD => ?_⟩
    refine lc_p (walk_list (K := K) (a := l) (xs := us)) (fun i acc H' => ∃ ns : List Int, acc = ns.map V.int ∧ ns.isEmpty = !(pages.take i).any (overG r)) (by have := hall.len; omega) hD (fun _ _ _ _ _ p => p) ⟨[], rfl, by simp⟩ (fun H' e => SqL.of (e _ _ hl)) ?_ ?_
    · rintro i acc v Ha Hb hi hal e ⟨ns, rfl, hns⟩ ⟨rfl, hx⟩ Qt Qf kt kf
      obtain ⟨g, hg1, hg⟩ := hall.get hx
      obtain ⟨ga, gm, rfl, q1, q2⟩ := id hg
      have any : (pages.take (i + 1)).any (overG r) = ((pages.take i).any (overG r) || overG r g) := by rw [take_snoc hg1]; simp [List.any_append]
      refine ⟨rfl, _, rfl, ga, _, 1, _, rfl, rfl, SqT.of (e _ _ q1), at1, ?_⟩
      refine ⟨_, rfl, a, _, dx, _, _, rfl, e _ _ h1, T.c_Rule, T.n_Rule_since, rfl, sa, _, 1, _, rfl, rfl, SqT.of (e _ _ g1), at1, _, _, rfl, rfl, _, rfl, ite2b (fun hb => ?_) (fun hb => ?_)⟩
      · have hd : decide (r.pg.day ≤ g.day) = true := hb
        refine ⟨_, rfl, a, dx, _, rfl, e _ _ h1, rfl, _, rfl, .ref a, .ref ga, r, g, rfl, hrl.mono (.of e), hg.mono (.of e), fun H1 e1 => ?_⟩
        refine ⟨_, rfl, ite2b (fun hb2 => ?_) (fun hb2 => ?_)⟩
        · refine ⟨_, rfl, ga, _, 1, _, rfl, rfl, SqT.of (e1 _ _ (e _ _ q1)), at1, ?_⟩
          refine kt _ _ e1 ⟨ns ++ [g.day], by simp, ?_⟩
          rw [any, overG, hd, hb2]
          cases ns <;> simp
        · refine kf _ e1 ⟨ns, rfl, ?_⟩
          rw [any, overG, hd, hb2, hns]
          simp
      · have hd : decide (r.pg.day ≤ g.day) = false := hb
        refine kf _ (Same.refl _) ⟨ns, rfl, ?_⟩
        rw [any, overG, hd, hns]
        simp
    · rintro zs H1 e1 hz1 hzl ⟨ns, rfl, hns⟩
      rw [hall.len, List.take_length] at hns
      have fin : ∀ (ms : List Int) (H2 : Hp), Same H H2 → H2 D = some (.lst (ms.map V.int)) → ms.isEmpty = (!overB r pages day) → rMinD K [.ref D] [.non] H2 Q := fun ms H2 e2 h2 hm => by
        refine ⟨D, ms, rfl, rfl, SqL.of h2, fun z => k H2 _ e2 ⟨fun _ => rfl, fun z2 => ?_⟩, fun z m _ _ => k H2 _ e2 ⟨fun z2 => ?_, fun _ => ⟨m, rfl⟩⟩⟩
        · rw [z, z2] at hm
          cases hm
        · rw [z2] at hm
          exact absurd (by simpa using hm) z
      refine ⟨_, rfl, a, _, dx, _, _, rfl, e1 _ _ h1, T.c_Rule, T.n_Rule_kept, rfl, ?_⟩
      obtain ⟨dp, lt, q1, q2⟩ := id h2
      refine ⟨pa, dp, _, rfl, e1 _ _ q1, rfl, pa, r.b, rfl, h2.mono (.of e1), fun vb ⟨ba, hba, hbt⟩ => ?_⟩
      subst hba
      refine ⟨ba, _, 0, _, rfl, rfl, SqT.of hbt, rfl, ?_⟩
      cases hb1 : r.b.1 with
      | none =>
        refine ⟨_, rfl, rfl, _, rfl, iteF (iteF ?_)⟩
        refine ⟨_, rfl, fin ns H1 e1 hz1 ?_⟩
        rw [hns, overB, overL, hb1]
        simp
      | some lm =>
        refine ⟨_, rfl, rfl, _, rfl, iteT ?_⟩
        refine ⟨_, rfl, a, _, dx, _, _, rfl, e1 _ _ h1, T.c_Rule, T.n_Rule_since, rfl, sa, _, 1, _, rfl, rfl, SqT.of (e1 _ _ g1), at1, _, rfl, _, _, rfl, rfl, _, rfl, _, _, rfl, rfl, _, rfl, ite2b (fun hb => ?_) (fun hb => ?_)⟩
        · refine ⟨_, rfl, .inl ⟨rfl, _, SqL.of hz1⟩, ?_⟩
          refine ⟨_, rfl, a, _, dx, _, _, rfl, e1 _ _ h1, T.c_Rule, T.n_Rule_since, rfl, sa, _, 1, _, rfl, rfl, SqT.of (e1 _ _ g1), at1, _, rfl, _, _, rfl, rfl, _, _, rfl, rfl, ?_⟩
          refine ⟨D, _, _, rfl, rfl, hz1, Nat.lt_of_le_of_lt hzl (Nat.lt_of_lt_of_le (show us.length < 1000 by have := hall.len; omega) (by decide)), ?_⟩
          refine ⟨_, rfl, fin (ns ++ [r.pg.day + lm + 1]) _ (Same.mut e1 hD) (by rw [upd_same]; simp) ?_⟩
          have hb' : decide (r.pg.day + lm < day) = true := hb
          rw [overB, overL, hb1]
          show (ns ++ [r.pg.day + lm + 1]).isEmpty = !(_ || decide (r.pg.day + lm < day))
          rw [hb']
          cases ns <;> simp
        · refine ⟨_, rfl, fin ns H1 e1 hz1 ?_⟩
          have hb' : decide (r.pg.day + lm < day) = false := hb
          rw [hns, overB, overL, hb1]
          show _ = !(_ || decide (r.pg.day + lm < day))
          rw [hb']
          simp
end
end Wk
end

section
set_option Elab.async false
set_option linter.all false
set_option maxRecDepth 100000
/-! Life: put, days, up_to, need_asked -/
namespace Wk
open PySem PySem.Spec L2 RZ
/-! ### pages as data -/
def PK.dat : PK → List PyData
  | .sold n => [.str n]
  | .claimed p c => [.str p, .int c]
  | .mended p => [.str p]
  | .misused m => [.str m]
def pgD (g : PageD) : PyData := .tuple (.str g.k.word :: .int g.day :: .tuple [.int g.m1, .int g.m2] :: g.k.dat)
theorem dp_page {K : PySem.W.Frag} {H : Hp} {v : V} {g : PageD} (h : PageAt H v g) : Dp K H v (pgD g) := by
  obtain ⟨a, ma, rfl, h1, h2⟩ := h
  refine .tup (SqT.of h1) (.cons (.str _) (.cons (.int _) (.cons (.tup (SqT.of h2) (.cons (.int _) (.cons (.int _) .nil))) ?_)))
  cases g.k with
  | sold n => exact .cons (.str _) .nil
  | claimed p c => exact .cons (.str _) (.cons (.int _) .nil)
  | mended p => exact .cons (.str _) .nil
  | misused m => exact .cons (.str _) .nil
theorem lay_page {s : SortD} {g : PageD} (h : PKok s g.k) : PyData.canLay0 (pgD g) = true ∧ PyData.depth (pgD g) ≤ 2 := by
  obtain ⟨d, a, b, k⟩ := g
  have w1 : PyData.strOk "sold" = true := by decide +kernel
  have w2 : PyData.strOk "claimed" = true := by decide +kernel
  have w3 : PyData.strOk "mended" = true := by decide +kernel
  have w4 : PyData.strOk "misused" = true := by decide +kernel
  cases k with
  | sold n =>
    have hn : PyData.strOk n = true := Nm.ok h
    exact ⟨by simp [pgD, PK.word, PK.dat, PyData.canLay0, PyData.canLayAll0, w1, hn], by simp [pgD, PK.dat, PyData.depth, PyData.depthAll]⟩
  | claimed n c =>
    have hn : PyData.strOk n = true := Nm.ok h.1
    exact ⟨by simp [pgD, PK.word, PK.dat, PyData.canLay0, PyData.canLayAll0, w2, hn], by simp [pgD, PK.dat, PyData.depth, PyData.depthAll]⟩
  | mended n =>
    have hn : PyData.strOk n = true := Nm.ok h.1
    exact ⟨by simp [pgD, PK.word, PK.dat, PyData.canLay0, PyData.canLayAll0, w3, hn], by simp [pgD, PK.dat, PyData.depth, PyData.depthAll]⟩
  | misused n =>
    have hn : PyData.strOk n = true := Nm.ok h
    exact ⟨by simp [pgD, PK.word, PK.dat, PyData.canLay0, PyData.canLayAll0, w4, hn], by simp [pgD, PK.dat, PyData.depth, PyData.depthAll]⟩
theorem shp_page {s : SortD} {g : PageD} (h : PKok s g.k) : SeqAt.shaped (pgD g) = true := by
  obtain ⟨h1, h2⟩ := lay_page h
  unfold SeqAt.shaped
  rw [Bool.and_eq_true]
  exact ⟨h1, decide_eq_true (by omega)⟩
theorem shp_list {α : Type} {f : α → PyData} : ∀ rs : List α, (∀ r ∈ rs, PyData.canLay0 (f r) = true ∧ PyData.depth (f r) ≤ 40) → PyData.canLayAll0 (rs.map f) = true ∧ PyData.depthAll (rs.map f) ≤ 40
  | [], _ => by simp [PyData.canLayAll0, PyData.depthAll]
  | r :: rs, h => by
    obtain ⟨i1, i2⟩ := shp_list rs (fun z hz => h z (List.mem_cons_of_mem _ hz))
    obtain ⟨h1, h2⟩ := h r (List.mem_cons_self ..)
    exact ⟨by simp only [List.map_cons, PyData.canLayAll0, h1, i1, Bool.and_self], by simp only [List.map_cons, PyData.depthAll]; exact Nat.max_le.mpr ⟨h2, i2⟩⟩
theorem shp_lst {α : Type} {f : α → PyData} {rs : List α} (h : ∀ r ∈ rs, PyData.canLay0 (f r) = true ∧ PyData.depth (f r) ≤ 40) : SeqAt.shaped (.list (rs.map f)) = true := by
  obtain ⟨i1, i2⟩ := shp_list rs h
  unfold SeqAt.shaped
  rw [Bool.and_eq_true]
  exact ⟨by simpa [PyData.canLay0] using i1, decide_eq_true (by simp only [PyData.depth]; omega)⟩
theorem eqv_page {g q : PageD} (h : PyData.eqv (pgD g) (pgD q) = true) : g = q := by
  obtain ⟨d, a, b, k⟩ := g
  obtain ⟨d', a', b', k'⟩ := q
  have nw : ("sold" : Str) ≠ "claimed" ∧ ("sold" : Str) ≠ "mended" ∧ ("sold" : Str) ≠ "misused" ∧ ("claimed" : Str) ≠ "mended" ∧ ("claimed" : Str) ≠ "misused" ∧ ("mended" : Str) ≠ "misused" := by decide
  obtain ⟨n1, n2, n3, n4, n5, n6⟩ := nw
  cases k <;> cases k' <;> simp [pgD, PK.word, PK.dat, PyData.eqv, PyData.eqvAll, n1, n2, n3, n4, n5, n6, n1.symm, n2.symm, n3.symm, n4.symm, n5.symm, n6.symm] at h ⊢ <;> simp_all
/-! ### a life -/
structure LifeAt (K : PySem.W.Frag) (H : Hp) (x l : Addr) (s : SortD) (ps : List PageD) : Prop where
  ex : ∃ dx so n vs, H x = some (.ins (He.ga K "Life") dx [("of_sort", .ref so), ("serial", .int n), ("told", .ref l)]) ∧ SortAt K H so s ∧ H l = some (.lst vs) ∧ AllAt (PageAt H) vs ps
theorem LifeAt.mono {K : PySem.W.Frag} {H H' : Hp} {x l : Addr} {s : SortD} {ps : List PageD} (e : Same H H') : LifeAt K H x l s ps → LifeAt K H' x l s ps :=
  fun ⟨dx, so, n, vs, h1, h2, h3, h4⟩ => ⟨dx, so, n, vs, e _ _ h1, h2.mono (.of e), e _ _ h3, h4.mono fun _ _ => PageAt.mono (.of e)⟩
theorem LifeAt.keep {K : PySem.W.Frag} {H H' : Hp} {x l : Addr} {s : SortD} {ps : List PageD} (e : ISame H H') (hl : H' l = H l) : LifeAt K H x l s ps → LifeAt K H' x l s ps :=
  fun ⟨dx, so, n, vs, h1, h2, h3, h4⟩ => ⟨dx, so, n, vs, e.ins _ _ _ _ h1, h2.mono e, hl.trans h3, h4.mono fun _ _ => PageAt.mono e⟩
def upTo (ps : List PageD) (day : Int) : List PageD := ps.filter fun g => decide (g.day ≤ day)
def sp_Life_init (K : PySem.W.Frag) : Sp := fun vs H Q _ => ∃ (x dx so : Addr) (s : SortD) (n : Int), vs = [.ref x, .ref so, .int n] ∧ H x = some (.ins (He.ga K "Life") dx []) ∧ SortAt K H so s ∧ 1 ≤ n ∧ n ≤ 99999 ∧
  ∀ (H' : Hp) (l : Addr), SX x H H' → H l = none → LifeAt K H' x l s [] → Q .non H'
def sp_put (K : PySem.W.Frag) : Sp := fun vs H Q _ => ∃ (x l : Addr) (v : V) (s : SortD) (ps : List PageD) (g : PageD), vs = [.ref x, v] ∧ LifeAt K H x l s ps ∧ s.rows.length ≤ 12 ∧ PageAt H v g ∧ PageOk s g ∧ (∀ q ∈ ps, PageOk s q) ∧ g ∉ ps ∧ (∀ q ∈ ps, fits g q) ∧ ps.length ≤ 20 ∧
  ∀ (H' : Hp) (l' : Addr) (ps' : List PageD), SX x H H' → H l' = none → LifeAt K H' x l' s ps' → ps'.Perm (g :: ps) → ps'.Pairwise (fun x y => x.day ≤ y.day) → Q (.bl true) H'
def sp_days (K : PySem.W.Frag) : Sp := fun vs H Q _ => ∃ (x l : Addr) (s : SortD) (ps : List PageD), vs = [.ref x] ∧ LifeAt K H x l s ps ∧ ps.length ≤ 40 ∧
  ∀ (H' : Hp) (p : Addr) (out : List Int), Same H H' → H' p = some (.lst (out.map V.int)) → (∀ k, k ∈ out ↔ ∃ g ∈ ps, g.day = k) → Q (.ref p) H'
def sp_up_to (K : PySem.W.Frag) : Sp := fun vs H Q _ => ∃ (x l : Addr) (s : SortD) (ps : List PageD) (day : Int), vs = [.ref x, .int day] ∧ LifeAt K H x l s ps ∧ ps.length ≤ 40 ∧
  ∀ (H' : Hp) (p : Addr) (us : List V), Same H H' → H' p = some (.lst us) → AllAt (PageAt H') us (upTo ps day) → Q (.ref p) H'
def sp_need_asked (K : PySem.W.Frag) : Sp := fun vs H Q _ => ∃ (x l : Addr) (s : SortD) (ps : List PageD) (p : Str) (day : Int), vs = [.ref x, .str p, .int day] ∧ LifeAt K H x l s ps ∧ ps.length ≤ 40 ∧ SortOk s ∧ Nm p ∧ (rowOf s.rows p).isSome = true ∧ 0 ≤ day ∧ day ≤ 9999 ∧ (∃ g ∈ ps, g.day = day) ∧
  ∀ H', Same H H' → Q .non H'
theorem filt_yes {α : Type} {f : α → Bool} {rs : List α} {i : Nat} {r : α} (h : rs[i]? = some r) (e : f r = true) : (rs.take (i + 1)).filter f = (rs.take i).filter f ++ [r] := by
  rw [take_snoc h, List.filter_append]
  simp [e]
theorem filt_no {α : Type} {f : α → Bool} {rs : List α} {i : Nat} {r : α} (h : rs[i]? = some r) (e : f r = false) : (rs.take (i + 1)).filter f = (rs.take i).filter f := by
  rw [take_snoc h, List.filter_append]
  simp [e]
theorem inV_ints (x : Int) : ∀ ws : List Int, inV (.int x) (ws.map V.int) = decide (x ∈ ws)
  | [] => rfl
  | y :: r => by
    have ih := inV_ints x r
    unfold inV at ih ⊢
    rw [List.map_cons, List.any_cons, ih]
    show ((y == x) || decide (x ∈ r)) = decide (x ∈ y :: r)
    by_cases h : x = y
    · subst h
      simp
    · have h' : (y == x) = false := beq_eq_false_iff_ne.mpr (fun z => h z.symm)
      rw [h', Bool.false_or]
      simp [h]
theorem flat_ints : ∀ ws : List Int, (ws.map V.int).all flatV = true
  | [] => rfl
  | y :: r => by
    rw [List.map_cons, List.all_cons, flat_ints r] <;> rfl
section
variable {P : Program} {w : World} {K : PySem.W.Frag} {mg : Str → Option Value} {base : Heap}
theorem k_Life (T : Tx w K mg) : C8.Mak P w K mg base 2 "Life" (He.ga K "Life") (sp_Life_init K) [] := by
  obtain ⟨fd, F⟩ := T.F_Life_init
  refine ⟨_, fd, ["self", "sort", "number"], [], T.k_Life, F.ok sc_Life_init (fun vs H Q E h => ?_) (fun cdv A outer s H vs Q E hr h => ?_), T.g_Life, F.bindsN fun _ _ _ _ _ _ us hl => match us, hl with | [_, _, _], _ => rfl, .nil⟩
  · obtain ⟨x, b, c, d, e, rfl, _⟩ := h
    rfl
  · obtain ⟨x, dx, so, s, n, rfl, h1, h2, n1, n2, k⟩ := h
    refine ⟨_, PSs.nox (pss_cons (ps_expr (C8.pe_c (c_need_sort T) hr (by decide) rfl (pa_cons (pv 1) pa_nil)))
      (pss_cons (ps_if (pt_not (pt_val (pe_cn (cn_is_whole T) hr (by decide) rfl (pa_cons (pv 2) (pa_cons pe_int pa_nil)) (pk_cons (C8.pe_gc rfl T.i_MOST_NUMBER) pk_nil)))) (pss_one ps_never) pss_nil)
      (pss_cons (ps_fld (pv 0) (pv 1) rfl)
      (pss_cons (ps_fld (pv 0) (pv 2) rfl)
      (pss_one (ps_fld (pv 0) (pe_lst pa_nil) rfl)))))), ?_⟩
    refine ⟨_, rfl, so, s, rfl, h2, ?_⟩
    refine ⟨_, rfl, rfl, rfl, n, 1, 99999, rfl, n1, n2, _, rfl, iteF ?_⟩
    refine ⟨_, rfl, _, rfl, x, _, dx, [], rfl, h1, T.c_Life, T.n_Life_of_sort, (by decide), ?_⟩
    refine ⟨_, rfl, _, rfl, x, _, dx, _, rfl, upd_same, T.c_Life, T.n_Life_serial, (show 1 < 1000 by decide), ?_⟩
    have s2 : SX x H (upd (upd H x (.ins (He.ga K "Life") dx [("of_sort", .ref so)])) x (.ins (He.ga K "Life") dx [("of_sort", .ref so), ("serial", .int n)])) := SX.upd.trans SX.upd
    refine ⟨szn (Nat.zero_le _), fun l hl => ?_⟩
    have nlx : x ≠ l := ne_of_none upd_same hl
    refine ⟨_, rfl, x, _, dx, [("of_sort", .ref so), ("serial", .int n)], rfl, by rw [upd_ne nlx]; exact upd_same, T.c_Life, T.n_Life_told, (show 2 < 1000 by decide), ?_⟩
    have hl0 : H l = none := by
      rw [upd_ne nlx.symm, upd_ne nlx.symm] at hl
      exact hl
    have s3 : SX x H (upd (upd (upd (upd H x (.ins (He.ga K "Life") dx [("of_sort", .ref so)])) x (.ins (He.ga K "Life") dx [("of_sort", .ref so), ("serial", .int n)])) l (.lst [])) x (.ins (He.ga K "Life") dx [("of_sort", .ref so), ("serial", .int n), ("told", .ref l)])) :=
      (s2.mut hl0).trans SX.upd
    have f3 := SX.fs (f := "of_sort") s3 h1 okF.nil
    exact k _ l s3 hl0 ⟨dx, so, n, [], upd_same, h2.monoF f3, by rw [upd_ne nlx.symm, upd_same], .nil⟩
theorem m_Life_put (T : Tx w K mg) : C8.Met P w K mg base 6 (He.ga K "Life") "put" (sp_put K) [] := by
  obtain ⟨fd, F⟩ := T.F_Life_put
  refine ⟨_, fd, ["self", "page"], [], T.c_Life, T.m_Life_put, F.ok sc_Life_put (fun vs H Q E h => ?_) (fun cdv A outer s H vs Q E hr h => ?_), F.bindsN fun _ _ _ _ _ _ us hl => match us, hl with | [_, _], _ => rfl, .nil⟩
  · obtain ⟨x, b, c, d, e, f, rfl, _⟩ := h
    rfl
  · obtain ⟨x, l, v, s, ps, g, rfl, ⟨dx, so, n, us, h1, h2, h3, h4⟩, hs, hv, og, ops, hnew, hfit, hlen, k⟩ := h
    refine ⟨_, PSs.nox (pss_cons (ps_if (pt_not (pt_val (C8.pe_c (c_is_page T) hr (by decide) rfl (pa_cons (pe_fld (pv 0) rfl) (pa_cons (pv 1) pa_nil))))) (pss_one ps_never) pss_nil)
      (pss_cons (ps_if (pt_cmpR (op_inD (hu65 hr)) (pv 1) (pe_fld (pv 0) rfl) (by with_unfolding_all rfl)) (pss_one (ps_ret pe_bl)) pss_nil)
      (pss_cons (ps_if (pt_not (pt_val (pe_callB (cr_all rfl) (by rfl) T.f_all (by decide +kernel) (pa_cons (pe_lc (own := [("other", 2)]) (g := gName 2) rfl sc_Life_put.nd (pi_list (pe_fld (pv 0) rfl)) (blkOk_by (own := [("other", 2)]) (N := N_Life_put) (sc := defScope s_Life_put) (by decide +kernel)) (fun _ _ _ _ _ => (pg_name (i := 2) sc_Life_put.nd rfl (Or.inl rfl))) (fun _ _ _ _ _ => pts_nil) (fun _ _ _ _ _ => (C8.pe_c (c_do_fit T) hr (by decide) rfl (pa_cons (pv 1) (pa_cons (pv 2) pa_nil))))) pa_nil)))) (pss_one ps_never) pss_nil)
      (pss_cons (ps_if (pt_cmpR op_eq (pe_callB call_len_seq (by rfl) T.f_len (by decide +kernel) (pa_cons (pe_fld (pv 0) rfl) pa_nil)) (C8.pe_gc rfl T.i_MOST_PAGES) (nomark _)) (pss_one ps_never) pss_nil)
      (pss_cons (ps_fld (pv 0) (pe_callBK (cr_sortPg T (c_page_rank T) hr (by decide)) rfl T.f_sorted (by decide +kernel) (pa_cons (pe_op op_cat (pe_fld (pv 0) rfl) (pe_lst (pa_cons (pv 1) pa_nil))) pa_nil) (pk_cons (pe_gr rfl T.g_page_rank) pk_nil)) rfl)
      (pss_one (ps_ret pe_bl))))))), ?_⟩
    refine ⟨_, rfl, x, _, dx, _, _, rfl, h1, T.c_Life, T.n_Life_of_sort, rfl, _, rfl, so, s, v, g, rfl, h2, hs, hv, og, fun H1 e1 => ⟨_, rfl, iteF ?_⟩⟩
    have h31 := e1 _ _ h3
    have h41 := h4.mono (fun _ _ => PageAt.mono (.of e1))
    refine ⟨_, rfl, _, rfl, x, _, dx, _, _, rfl, e1 _ _ h1, T.c_Life, T.n_Life_told, rfl, pgD g, ps.map pgD, dp_page (hv.mono (.of e1)), .lst (SqL.of h31) (dp_all (fun v r h => dp_page h) _ _ h41), shp_page og.k, shp_lst (fun r hr => ⟨(lay_page (ops r hr).k).1, by have := (lay_page (ops r hr).k).2; omega⟩), _, rfl, ifc ?_ ?_⟩
    · rw [List.any_map, Bool.eq_false_iff]
      intro z
      obtain ⟨q, hq, e⟩ := List.any_eq_true.mp z
      exact hnew ((eqv_page e) ▸ hq)
    refine ⟨_, rfl, x, _, dx, _, _, rfl, e1 _ _ h1, T.c_Life, T.n_Life_told, rfl, l, rfl, ⟨_, SqL.of h31⟩, fun D hD => ?_⟩
    dsimp only [tNil]
    refine lc_all (walk_list (K := K) (a := l) (xs := us)) (by have := h4.len; omega) hD (fun _ e => SqL.of (e _ _ h31)) (fun i u Ha Hb hi e y Qt kt => ?_) fun H2 e2 => ?_
    · obtain ⟨rfl, hx⟩ := y
      obtain ⟨q, hq1, hq⟩ := h41.get hx
      exact ⟨rfl, _, rfl, _, rfl, v, u, g, q, rfl, (hv.mono (.of e1)).mono (.of e), hq.mono (.of e), hfit q (List.mem_of_getElem? hq1), fun Hc ec => kt _ ec⟩
    · have e12 := e1.trans e2
      have h32 := e12 _ _ h3
      refine ⟨_, rfl, iteF ?_⟩
      refine ⟨_, rfl, x, _, dx, _, _, rfl, e12 _ _ h1, T.c_Life, T.n_Life_told, rfl, l, _, rfl, .inl (SqL.of h32), rfl, _, rfl, ifn (by
        intro z
        have : (us.length : Int) = 200 := by injection z
        have := h4.len
        omega) ?_⟩
      refine ⟨_, rfl, x, _, dx, _, _, rfl, e12 _ _ h1, T.c_Life, T.n_Life_told, rfl, _, rfl, szn (n := 1) (by decide), fun p hp => ?_⟩
      have e3 := e12.trans (Same.new (o := .lst [v]) hp)
      refine ⟨l, p, us, [v], rfl, rfl, e3 _ _ h3, upd_same, szn (by have := h4.len; simp; omega), fun c hc => ?_⟩
      have e4 := e3.trans (Same.new (o := .lst (us ++ [v])) hc)
      refine ⟨c, us ++ [v], ps ++ [g], rfl, rfl, upd_same, (h4.mono fun _ _ => PageAt.mono (.of e4)).snoc (hv.mono (.of e4)), by simp; omega, fun H5 q us' ps' e5 hq hq5 hall perm sorted => ?_⟩
      have e6 := e4.trans e5
      refine ⟨_, rfl, x, _, dx, _, rfl, e6 _ _ h1, T.c_Life, T.n_Life_told, (show 3 < 1000 by decide), ?_⟩
      have hx5 := e6 _ _ h1
      have nqx : q ≠ x := ne_of hq5 hx5 (fun z => by cases z)
      have s7 : SX x H (upd H5 x (.ins (He.ga K "Life") dx [("of_sort", .ref so), ("serial", .int n), ("told", .ref q)])) := (SBut.of e6).trans SX.upd
      have f7 := SX.fs (f := "of_sort") s7 h1 okF.self
      have t7 : ∀ a xs, H5 a = some (.tup xs) → (upd H5 x (.ins (He.ga K "Life") dx [("of_sort", .ref so), ("serial", .int n), ("told", .ref q)])) a = some (.tup xs) := fun a xs z => by rw [upd_ne (ne_of z hx5 (fun z => by cases z))]; exact z
      exact k _ q ps' s7 (e4.free hq) ⟨dx, so, n, us', upd_same, h2.monoF f7, by rw [upd_ne nqx]; exact hq5, hall.mono fun _ _ => PageAt.monoT t7⟩ (perm.trans (by simpa using List.perm_append_comm (l₁ := ps) (l₂ := [g]))) sorted
theorem m_Life_days (T : Tx w K mg) : C8.Met P w K mg base 1 (He.ga K "Life") "days" (sp_days K) [] := by
  obtain ⟨fd, F⟩ := T.F_Life_days
  refine ⟨_, fd, ["self"], [], T.c_Life, T.m_Life_days, F.ok sc_Life_days (fun vs H Q E h => ?_) (fun cdv A outer s H vs Q E hr h => ?_), F.bindsN fun _ _ _ _ _ _ us hl => match us, hl with | [_], _ => rfl, .nil⟩
  · obtain ⟨x, b, c, d, rfl, _⟩ := h
    rfl
  · obtain ⟨x, l, s, ps, rfl, ⟨dx, so, n, us, h1, h2, h3, h4⟩, hlen, k⟩ := h
    refine ⟨_, PSs.nox (pss_one (ps_ret (pe_sortSet rfl rfl T.f_sorted rfl T.f_set (pe_lc (own := [("page", 1)]) (g := gName 1) rfl sc_Life_days.nd (pi_list (pe_fld (pv 0) rfl)) (blkOk_by (own := [("page", 1)]) (N := N_Life_days) (sc := defScope s_Life_days) (by decide +kernel)) (fun _ _ _ _ _ => (pg_name (i := 1) sc_Life_days.nd rfl (Or.inl rfl))) (fun _ _ _ _ _ => pts_nil) (fun _ _ _ _ _ => (pe_ix (ix_tupK (K := K)) (pv 1) pe_int (fun _ _ => rfl))))))), ?_⟩
    refine ⟨_, rfl, x, _, dx, _, _, rfl, h1, T.c_Life, T.n_Life_told, rfl, l, rfl, ⟨_, SqL.of h3⟩, fun D hD => ?_⟩
    refine lc_p (walk_list (K := K) (a := l) (xs := us)) (fun i acc H' => acc = ((ps.take i).map (·.day)).map V.int) (by have := h4.len; omega) hD (fun _ _ _ _ _ p => p) rfl (fun H' e => SqL.of (e _ _ h3)) ?_ ?_
    · rintro i acc v Ha Hb hi hal e rfl ⟨rfl, hx⟩ Qt Qf kt kf
      obtain ⟨g, hg1, a, ma, rfl, g1, g2⟩ := h4.get hx
      refine ⟨rfl, _, rfl, a, _, 1, _, rfl, rfl, SqT.of (e _ _ g1), at1, ?_⟩
      exact kt _ _ (Same.refl _) (by rw [take_snoc hg1]; simp)
    · rintro zs H1 e1 hz1 hzl rfl
      rw [h4.len, List.take_length] at hz1
      refine ⟨D, ps.map (·.day), rfl, SqL.of hz1, by simp; omega, fun H2 p out e2 hp hp2 hout => ?_⟩
      exact k H2 p out (e1.trans e2) hp2 (fun k => by rw [hout]; simp)
theorem m_Life_up_to (T : Tx w K mg) : C8.Met P w K mg base 1 (He.ga K "Life") "up_to" (sp_up_to K) [] := by
  obtain ⟨fd, F⟩ := T.F_Life_up_to
  refine ⟨_, fd, ["self", "day"], [], T.c_Life, T.m_Life_up_to, F.ok sc_Life_up_to (fun vs H Q E h => ?_) (fun cdv A outer s H vs Q E hr h => ?_), F.bindsN fun _ _ _ _ _ _ us hl => match us, hl with | [_, _], _ => rfl, .nil⟩
  · obtain ⟨x, b, c, d, e, rfl, _⟩ := h
    rfl
  · obtain ⟨x, l, s, ps, day, rfl, ⟨dx, so, n, us, h1, h2, h3, h4⟩, hlen, k⟩ := h
    refine ⟨_, PSs.nox (pss_one (ps_ret (pe_lc (own := [("page", 2)]) (g := gName 2) rfl sc_Life_up_to.nd (pi_list (pe_fld (pv 0) rfl)) (blkOk_by (own := [("page", 2)]) (N := N_Life_up_to) (sc := defScope s_Life_up_to) (by decide +kernel)) (fun _ _ _ _ _ => (pg_name (i := 2) sc_Life_up_to.nd rfl (Or.inl rfl))) (fun _ _ _ _ _ => (pts_one (pt_cmpR op_le (pe_ix (ix_tupK (K := K)) (pv 2) pe_int (fun _ _ => rfl)) (pv 1) (nomark _)))) (fun _ _ _ _ _ => (pv 2))))), ?_⟩
    refine ⟨_, rfl, x, _, dx, _, _, rfl, h1, T.c_Life, T.n_Life_told, rfl, l, rfl, ⟨_, SqL.of h3⟩, fun D hD => ?_⟩
    refine lc_p (walk_list (K := K) (a := l) (xs := us)) (fun i acc H' => AllAt (PageAt H') acc (upTo (ps.take i) day)) (by have := h4.len; omega) hD (fun _ _ _ _ e p => p.mono fun _ _ => PageAt.mono e) .nil (fun H' e => SqL.of (e _ _ h3)) ?_ ?_
    · rintro i acc v Ha Hb hi hal e hacc ⟨rfl, hx⟩ Qt Qf kt kf
      obtain ⟨g, hg1, hg⟩ := h4.get hx
      obtain ⟨a, ma, rfl, g1, g2⟩ := id hg
      refine ⟨rfl, _, rfl, a, _, 1, _, rfl, rfl, SqT.of (e _ _ g1), at1, _, rfl, _, _, rfl, rfl, _, rfl, ite2b (fun hb => ?_) (fun hb => ?_)⟩
      · refine ⟨_, rfl, kt _ _ (Same.refl _) ?_⟩
        have : upTo (ps.take (i + 1)) day = upTo (ps.take i) day ++ [g] := filt_yes hg1 hb
        rw [this]
        exact hacc.snoc (hg.mono (.of e))
      · refine kf _ (Same.refl _) ?_
        have : upTo (ps.take (i + 1)) day = upTo (ps.take i) day := filt_no hg1 hb
        rw [this]
        exact hacc
    · rintro zs H1 e1 hz1 hzl hall
      rw [h4.len, List.take_length] at hall
      exact k H1 D zs e1 hz1 hall
theorem m_Life_need_asked (T : Tx w K mg) : C8.Met P w K mg base 5 (He.ga K "Life") "need_asked" (sp_need_asked K) [] := by
  obtain ⟨fd, F⟩ := T.F_Life_need_asked
  refine ⟨_, fd, ["self", "part", "day"], [], T.c_Life, T.m_Life_need_asked, F.ok sc_Life_need_asked (fun vs H Q E h => ?_) (fun cdv A outer s H vs Q E hr h => ?_), F.bindsN fun _ _ _ _ _ _ us hl => match us, hl with | [_, _, _], _ => rfl, .nil⟩
  · obtain ⟨x, b, c, d, e, f, rfl, _⟩ := h
    rfl
  · obtain ⟨x, l, s, ps, p, day, rfl, hL, hlen, ok, hp, hrow, d1, d2, hd, k⟩ := h
    obtain ⟨dx, so, n, us, h1, h2, h3, h4⟩ := id hL
    obtain ⟨dx2, pr, t, u, g1, g2⟩ := id h2
    refine ⟨_, PSs.nox (pss_cons (ps_expr (pe_mtx (m_Sort_held_by T) hr (by decide) (pe_fld (pv 0) rfl) (pa_cons (pv 1) pa_nil)))
      (pss_one (ps_if (PW.pt (pw_or (pt_not (pt_val (C8.pe_c (c_is_day T) hr (by decide) rfl (pa_cons (pv 2) pa_nil)))) (pw_or1 (pt_cmpR op_notIn_seq (pv 2) (C8.pe_mt0 (m_Life_days T) hr (by decide) (pv 0)) (by with_unfolding_all rfl))))) (pss_one ps_never) pss_nil))), ?_⟩
    refine ⟨_, rfl, x, _, dx, _, _, rfl, h1, T.c_Life, T.n_Life_of_sort, rfl, so, dx2, _, rfl, g1, rfl, _, rfl, so, p, s, rfl, h2, ok, hp, fun r hr' H1 t1 pa e1 _ _ => ?_, fun z => by rw [z] at hrow; cases hrow⟩
    refine ⟨_, rfl, day, rfl, d1, d2, _, rfl, iteF ?_⟩
    refine ⟨_, rfl, _, rfl, x, dx, _, rfl, e1 _ _ h1, rfl, x, l, s, ps, rfl, hL.mono e1, hlen, fun H2 q out e2 hq hout => ?_⟩
    refine ⟨q, _, rfl, .inl (SqL.of hq), rfl, flat_ints _, _, rfl, ifc ?_ ?_⟩
    · show (if true = true then !inV (V.int day) (out.map V.int) else _) = false
      rw [if_pos rfl, inV_ints, decide_eq_true ((hout day).mpr hd)]
      rfl
    · exact k H2 (e1.trans e2)
end
end Wk
end

section
set_option Elab.async false
set_option linter.all false
set_option maxRecDepth 100000
/-! Life: rules_on, rules, misused_on -/
namespace Wk
open PySem PySem.Spec L2 RZ
theorem SX.same {x : Addr} {H H1 H' : Hp} (e : Same H H1) (s : SX x H1 H') (hx : H x = none) : Same H H' := fun a o ha => s a o (ne_of_none ha hx) (e a o ha)
theorem mk_same {H : Hp} {x dx : Addr} {o u : HO} (hx : H x = none) (hd : H dx = none) : Same H (upd (upd H dx o) x u) := Same.mut (Same.new hd) hx
def isSold (g : PageD) : Bool := match g.k with
  | .sold _ => true
  | _ => false
def mendB (part : Str) (f : PageD) (day : Int) (g : PageD) : Bool := match g.k with
  | .mended p => decide (p = part) && (decide (f.day ≤ g.day) && decide (g.day < day))
  | _ => false
def rulesFor (s : SortD) (r : RowD) (f : PageD) (pages : List PageD) (part : Str) (day : Int) : List RuleD := ⟨heldW r, heldB s r, f⟩ :: match r.2.2 with
  | none => []
  | some m => (pages.filter (mendB part f day)).map fun g => ⟨"mended", m, g⟩
def EndAt (H : Hp) (pages : List PageD) (day : Int) (v : V) (r : RuleD) : Prop := ∃ a e, v = .ref a ∧ H a = some (.tup [.str r.word, .int r.pg.day, e]) ∧ EndV e (overB r pages day)
def misG (s : SortD) (part : Str) (g : PageD) : Bool := match g.k with
  | .misused m => decide ((m, part) ∈ s.barred)
  | _ => false
theorem word_sold (g : PageD) : decide (V.str g.k.word = V.str "sold") = isSold g := by
  obtain ⟨d, a, b, k⟩ := g
  cases k <;> rfl
theorem word_mended (g : PageD) : decide (V.str g.k.word = V.str "mended") = (match g.k with | .mended _ => true | _ => false) := by
  obtain ⟨d, a, b, k⟩ := g
  cases k <;> rfl
theorem word_misused (g : PageD) : decide (V.str g.k.word = V.str "misused") = (match g.k with | .misused _ => true | _ => false) := by
  obtain ⟨d, a, b, k⟩ := g
  cases k <;> rfl
def isMis (g : PageD) : Bool := match g.k with
  | .misused _ => true
  | _ => false
structure RulesPre (K : PySem.W.Frag) (H : Hp) (x l : Addr) (s : SortD) (ps : List PageD) (p : Str) (day : Int) (r : RowD) (f : PageD) : Prop where
  life : LifeAt K H x l s ps
  len : ps.length ≤ 20
  ok : SortOk s
  pok : ∀ q ∈ ps, PageOk s q
  nm : Nm p
  row : rowOf s.rows p = some r
  d : 0 ≤ day ∧ day ≤ 9999
  at_ : ∃ g ∈ ps, g.day = day
  sold : ∃ rest, (upTo ps day).filter isSold = f :: rest
theorem RulesPre.mono {K : PySem.W.Frag} {H H' : Hp} {x l : Addr} {s : SortD} {ps : List PageD} {p : Str} {day : Int} {r : RowD} {f : PageD} (e : Same H H') (h : RulesPre K H x l s ps p day r f) : RulesPre K H' x l s ps p day r f :=
  ⟨h.life.mono e, h.len, h.ok, h.pok, h.nm, h.row, h.d, h.at_, h.sold⟩
def sp_rules_on (K : PySem.W.Frag) : Sp := fun vs H Q _ => ∃ (x l : Addr) (s : SortD) (ps : List PageD) (p : Str) (day : Int) (r : RowD) (f : PageD), vs = [.ref x, .str p, .int day] ∧ RulesPre K H x l s ps p day r f ∧
  ∀ (H' : Hp) (q : Addr) (us : List V), Same H H' → H' q = some (.lst us) → AllAt (RuleAt K H') us (rulesFor s r f (upTo ps day) p day) → Q (.ref q) H'
def sp_rules (K : PySem.W.Frag) : Sp := fun vs H Q _ => ∃ (x l : Addr) (s : SortD) (ps : List PageD) (p : Str) (day : Int) (r : RowD) (f : PageD), vs = [.ref x, .str p, .int day] ∧ RulesPre K H x l s ps p day r f ∧
  ∀ (H' : Hp) (q : Addr) (us : List V), Same H H' → H' q = some (.lst us) → AllAt (EndAt H' (upTo ps day) day) us (rulesFor s r f (upTo ps day) p day) → Q (.ref q) H'
def sp_misused_on (K : PySem.W.Frag) : Sp := fun vs H Q _ => ∃ (x l : Addr) (s : SortD) (ps : List PageD) (p : Str) (day : Int), vs = [.ref x, .str p, .int day] ∧ LifeAt K H x l s ps ∧ ps.length ≤ 20 ∧ SortOk s ∧ (∀ q ∈ ps, PageOk s q) ∧ Nm p ∧
  ∀ (H' : Hp) (e : V), Same H H' → EndV e ((upTo ps day).any (misG s p)) → Q e H'
section
variable {P : Program} {w : World} {K : PySem.W.Frag} {mg : Str → Option Value} {base : Heap}
theorem m_Life_rules_on (T : Tx w K mg) : C8.Met P w K mg base 5 (He.ga K "Life") "rules_on" (sp_rules_on K) [] := by
  obtain ⟨fd, F⟩ := T.F_Life_rules_on
  refine ⟨_, fd, ["self", "part", "day"], [], T.c_Life, T.m_Life_rules_on, F.ok sc_Life_rules_on (fun vs H Q E h => ?_) (fun cdv A outer s H vs Q E hr h => ?_), F.bindsN fun _ _ _ _ _ _ us hl => match us, hl with | [_, _, _], _ => rfl, .nil⟩
  · obtain ⟨x, b, c, d, e, f, g, i, rfl, _⟩ := h
    rfl
  · obtain ⟨x, l, s, ps, p, day, r, f, rfl, pre, k⟩ := h
    obtain ⟨dx, so, n, us, h1, h2, h3, h4⟩ := id pre.life
    obtain ⟨dx2, pr, t, u, g1, g2⟩ := id h2
    obtain ⟨rest, hsold⟩ := pre.sold
    have hlen := pre.len
    refine ⟨_, PSs.nox (pss_cons (ps_set (i := 3) sc_Life_rules_on.nd rfl (Or.inl rfl) (C8.pe_mt (m_Life_up_to T) hr (by decide) (pv 0) (pa_cons (pv 2) pa_nil)))
      (pss_cons (ps_setLc (i := 4) (own := [("page", 9)]) (g := gName 9) (by rfl) sc_Life_rules_on.nd rfl rfl (sw_true rfl rfl rfl (by decide +kernel)) (pi_list (pv 3)) (blkOk_by (own := [("page", 9)]) (N := N_Life_rules_on) (sc := defScope s_Life_rules_on) (by decide +kernel)) (fun _ _ _ _ _ => (pg_name (i := 9) sc_Life_rules_on.nd rfl (Or.inl rfl))) (fun _ _ _ _ _ => (pts_one (pt_cmpR op_eq (pe_ix (ix_tupK (K := K)) (pv 9) pe_int (fun _ _ => rfl)) pe_str (nomark _)))) (fun _ _ _ _ _ => (pv 9)))
      (pss_cons (ps_if (pt_cmpR (op_eqD hr.units) (pv 4) (pe_lst pa_nil) (nomark _)) (pss_one (ps_ret (pe_lst pa_nil))) pss_nil)
      (pss_cons (ps_asg (pe_mtx (m_Sort_held_by T) hr (by decide) (pe_fld (pv 0) rfl) (pa_cons (pv 1) pa_nil)) (pg_tup rfl (pgs_cons (pg_name (i := 5) sc_Life_rules_on.nd rfl (Or.inl rfl)) (pgs_cons (pg_name (i := 6) sc_Life_rules_on.nd rfl (Or.inl rfl)) pgs_nil))))
      (pss_cons (ps_par (i := 7) (j := 8) (by rfl) sc_Life_rules_on.nd rfl rfl (by decide) rfl rfl (pa_cons (pe_lst (pa_cons (C8.pe_mk (k_Rule T) hr (by decide) rfl (pa_cons (pv 5) (pa_cons (pv 6) (pa_cons (pe_ix ix_list (pv 4) pe_int (fun _ _ => rfl)) pa_nil)))) pa_nil)) (pa_cons (pe_mtx (m_Sort_mended_by T) hr (by decide) (pe_fld (pv 0) rfl) (pa_cons (pv 1) pa_nil)) pa_nil)) (by rfl))
      (pss_cons (ps_if (pt_cmpR op_isN (pv 8) pe_non (nomark _)) (pss_one (ps_ret (pv 7))) pss_nil)
      (pss_cons (ps_for PassesOwn.never rfl (pi_list (pv 3)) (pg_name (i := 9) sc_Life_rules_on.nd rfl (Or.inl rfl)) (pss_one (ps_if (PW.pt (pw_and (pt_cmpR op_eq (pe_ix ix_tup (pv 9) pe_int (fun _ _ => rfl)) pe_str (nomark _)) (pw_and (pt_cmpR op_eq (pe_ix ix_tup (pv 9) pe_int (fun _ _ => rfl)) (pv 1) (nomark _)) (pw_and1 (pt_chain op_le op_lt (pe_ix ix_tup (pe_ix ix_list (pv 4) pe_int (fun _ _ => rfl)) pe_int (fun _ _ => rfl)) (pe_ix ix_tup (pv 9) pe_int (fun _ _ => rfl)) (pv 2)))))) (pss_one (ps_expr (pe_bm PySem.F.plainAttrs_list PySem.F.slot_list_append PySem.F.type_list_append mt_append (pv 7) (pa_cons (C8.pe_mk (k_Rule T) hr (by decide) rfl (pa_cons pe_str (pa_cons (pv 8) (pa_cons (pv 9) pa_nil)))) pa_nil)))) pss_nil)))
      (pss_one (ps_ret (pv 7)))))))))), ?_⟩
    refine ⟨_, rfl, x, dx, _, rfl, h1, rfl, _, rfl, x, l, s, ps, day, rfl, pre.life, by omega, fun H1 p1 us1 e1 hp1 hall1 => ?_⟩
    have hup : (upTo ps day).length ≤ 20 := Nat.le_trans (List.length_filter_le ..) hlen
    have hus1 : us1.length ≤ 20 := by rw [hall1.len]; exact hup
    refine ⟨_, rfl, p1, rfl, ⟨_, SqL.of hp1⟩, fun D1 hD1 => ?_⟩
    refine lc_p (walk_list (K := K) (a := p1) (xs := us1)) (fun i acc H' => AllAt (PageAt H') acc (((upTo ps day).take i).filter isSold)) (by omega) hD1 (fun _ _ _ _ e p => p.mono fun _ _ => PageAt.mono e) .nil (fun H' e => SqL.of (e _ _ hp1)) ?_ ?_
    · rintro i acc v Ha Hb hi hal e hacc ⟨rfl, hx⟩ Qt Qf kt kf
      obtain ⟨g, hg1, hg⟩ := hall1.get hx
      obtain ⟨a, ma, rfl, q1, q2⟩ := id hg
      refine ⟨rfl, _, rfl, a, _, 0, _, rfl, rfl, SqT.of (e _ _ q1), at0, rfl, _, rfl, ite2b (fun hb => ?_) (fun hb => ?_)⟩
      · rw [word_sold] at hb
        exact ⟨_, rfl, kt _ _ (Same.refl _) (by rw [filt_yes hg1 hb]; exact hacc.snoc (hg.mono (.of e)))⟩
      · rw [word_sold] at hb
        exact kf _ (Same.refl _) (by rw [filt_no hg1 hb]; exact hacc)
    · rintro us2 H2 e2 hq2 hzl hall2
      rw [hall1.len, List.take_length, hsold] at hall2
      have e12 := e1.trans e2
      obtain ⟨v0, us3, rfl⟩ : ∃ v0 us3, us2 = v0 :: us3 := by
        cases us2 with
        | nil => exact absurd hall2.len (by simp)
        | cons a b => exact ⟨a, b, rfl⟩
      have hf := hall2.at_ 0 v0 f rfl rfl
      obtain ⟨fa, fm, hv0, f1, f2⟩ := id hf
      refine ⟨_, rfl, szn (Nat.zero_le _), fun q hq => ?_⟩
      have e3 := e12.trans (Same.new (o := .lst []) hq)
      have e23 : Same H2 (upd H2 q (.lst [])) := Same.new hq
      refine ⟨.list ((f :: rest).map pgD), _, .lst (SqL.of (e23 _ _ hq2)) (dp_all (fun v r h => dp_page h) _ _ (hall2.mono fun _ _ => PageAt.mono (.of e23))), .lst (SqL.of upd_same) .nil, shp_lst (fun g hg => ?_), shp_nil, _, rfl, ifc (eqv_nil _) ?_⟩
      · have hm0 : g ∈ (upTo ps day).filter isSold := by rw [hsold]; exact hg
        have hm : g ∈ ps := (List.mem_filter.mp (List.mem_filter.mp hm0).1).1
        exact ⟨(lay_page (pre.pok g hm).k).1, by have := (lay_page (pre.pok g hm).k).2; omega⟩
      refine ⟨_, rfl, x, _, dx, _, _, rfl, e3 _ _ h1, T.c_Life, T.n_Life_of_sort, rfl, so, dx2, _, rfl, e3 _ _ g1, rfl, _, rfl, so, p, s, rfl, h2.mono (.of e3), pre.ok, pre.nm, fun r' hr' H3 t1 pa e4 ht1 hpa => ?_, fun z => by rw [pre.row] at z; cases z⟩
      obtain rfl : r = r' := by
        rw [pre.row] at hr'
        exact Option.some.inj hr'
      have e5 := e3.trans e4
      have e25 := e23.trans e4
      refine ⟨t1, _, rfl, SqT.of ht1, rfl, _, _, rfl, _, _, rfl, rfl, ?_⟩
      refine ⟨_, rfl, _, rfl, _, rfl, D1, _, 0, v0, rfl, rfl, SqL.of (e25 _ _ hq2), at0, fun xr dr hxr hdr hne => ?_⟩
      have e6 := mk_same (o := .own xr) (u := .ins (He.ga K "Rule") dr []) hxr hdr
      refine ⟨xr, dr, pa, v0, ⟨heldW r, heldB s r, f⟩, rfl, upd_same, hpa.mono (.of e6), (hf.mono (.of e25)).mono (.of e6), fun H4 sx hrule => ⟨rfl, szn (n := 1) (by decide), fun D hD => ?_⟩⟩
      have e7 := e5.trans (SX.same e6 sx hxr)
      have e8 := e7.trans (Same.new (o := .lst [.ref xr]) hD)
      refine ⟨_, rfl, x, _, dx, _, _, rfl, e8 _ _ h1, T.c_Life, T.n_Life_of_sort, rfl, so, dx2, _, rfl, e8 _ _ g1, rfl, _, rfl, so, p, s, rfl, h2.mono (.of e8), pre.ok, pre.nm, fun r' hr' H5 mv e9 hmv => ?_, fun z => by rw [pre.row] at z; cases z⟩
      obtain rfl : r = r' := by
        rw [pre.row] at hr'
        exact Option.some.inj hr'
      have e79 : Same H4 H5 := (Same.new hD).trans e9
      have hD5 := e9 _ _ (upd_same (H := H4) (a := D) (o := .lst [.ref xr]))
      refine ⟨_, _, rfl, ?_⟩
      have one : AllAt (RuleAt K H5) [.ref xr] [⟨heldW r, heldB s r, f⟩] := AllAt.nil.snoc (hrule.mono (.of e79))
      cases hm : r.2.2 with
      | none =>
        rw [hm] at hmv
        obtain rfl : mv = .non := hmv
        refine ⟨_, rfl, rfl, _, rfl, iteT ?_⟩
        refine ⟨_, rfl, k H5 D _ (e8.trans e9) hD5 ?_⟩
        rw [rulesFor, hm]
        exact one
      | some m =>
        rw [hm] at hmv
        obtain ⟨mp, rfl, hmp⟩ := hmv
        refine ⟨_, rfl, rfl, _, rfl, iteF ?_⟩
        have hp1' : ∀ H', Same H4 H' → H' p1 = some (.lst us1) := fun H' e => e _ _ ((SX.same (e25.trans e6) sx (e25.free hxr)) _ _ (e2 _ _ hp1))
        have q45 := SX.same (e25.trans e6) sx (e25.free hxr)
        refine ⟨_, rfl, p1, rfl, ⟨_, SqL.of (hp1' H5 e79)⟩, ?_⟩
        refine for_it (walk_list (K := K) (a := p1) (xs := us1)) (fun i σ H' => ∃ y acc, σ = [some (.ref x), some (.str p), some (.int day), some (.ref p1), some (.ref D1), some (.str (heldW r)), some (.ref pa), some (.ref D), some (.ref mp), y] ∧ Same H4 H' ∧ H' D = some (.lst acc) ∧ acc.length ≤ i + 1 ∧ PromAt K H' mp m ∧
          AllAt (RuleAt K H') acc (⟨heldW r, heldB s r, f⟩ :: (((upTo ps day).take i).filter (mendB p f day)).map fun g => ⟨"mended", m, g⟩)) ⟨_, _, rfl, e79, hD5, by simp, hmp, one⟩ (fun i σ H' _ ⟨_, _, _, e, _⟩ => SqL.of (hp1' H' e)) ?_ ?_
        · rintro i v σ Ha Hb hi ⟨y0, acc, rfl, ea, hDa, hac, hmp, hacc⟩ ⟨rfl, hx⟩
          obtain ⟨g, hg1, hg0⟩ := hall1.get hx
          have ga := (e2.trans q45).trans ea
          have hg := hg0.mono (.of ga)
          obtain ⟨a, ma, rfl, q1, q2⟩ := id hg
          have stay : ∀ H', Same Hb H' → mendB p f day g = false → AllAt (RuleAt K H') acc (⟨heldW r, heldB s r, f⟩ :: (((upTo ps day).take (i + 1)).filter (mendB p f day)).map fun g => ⟨"mended", m, g⟩) := fun H' e z => by
            rw [filt_no hg1 z]
            exact hacc.mono fun _ _ => RuleAt.mono (.of e)
          refine ⟨_, rfl, a, _, 0, _, rfl, rfl, SqT.of q1, at0, rfl, _, rfl, ite2b (fun hb => ?_) (fun hb => ?_)⟩
          · rw [word_mended] at hb
            obtain ⟨gd, gm1, gm2, gk⟩ := g
            cases gk with
            | sold _ => cases hb
            | claimed _ _ => cases hb
            | misused _ => cases hb
            | mended pp =>
              refine ⟨_, rfl, a, _, 3, _, rfl, rfl, SqT.of q1, rfl, _, rfl, rfl, _, rfl, ite2b (fun hb2 => ?_) (fun hb2 => ?_)⟩
              · have hpp : pp = p := by
                  have := of_decide_eq_true hb2
                  injection this
                have hf2 := ((hf.mono (.of q45)).mono (.of ea))
                obtain ⟨fa2, fm2, rfl, f3, f4⟩ := id hf2
                cases hv0
                have hq2a := ea _ _ (q45 _ _ hq2)
                refine ⟨_, rfl, D1, _, 0, _, rfl, rfl, SqL.of hq2a, at0, fa, _, 1, _, rfl, rfl, SqT.of f3, at1, ?_⟩
                refine ⟨_, rfl, a, _, 1, _, rfl, rfl, SqT.of q1, at1, _, _, rfl, rfl, _, rfl, ite2b (fun hb3 => ?_) (fun hb3 => ?_)⟩
                · refine ⟨_, rfl, _, _, rfl, rfl, _, rfl, ite2b (fun hb4 => ?_) (fun hb4 => ?_)⟩
                  · have yes : mendB p f day ⟨gd, gm1, gm2, .mended pp⟩ = true := by
                      show (decide (pp = p) && (decide (f.day ≤ gd) && decide (gd < day))) = true
                      rw [decide_eq_true hpp]
                      have h3 : decide (f.day ≤ gd) = true := hb3
                      have h4 : decide (gd < day) = true := hb4
                      rw [h3, h4]
                      rfl
                    refine ⟨_, rfl, .inl ⟨rfl, _, SqL.of hDa⟩, _, rfl, _, rfl, fun xr2 dr2 hx2 hd2 hne2 => ?_⟩
                    have e10 := mk_same (o := .own xr2) (u := .ins (He.ga K "Rule") dr2 []) hx2 hd2
                    refine ⟨xr2, dr2, mp, .ref a, ⟨"mended", m, ⟨gd, gm1, gm2, .mended pp⟩⟩, rfl, upd_same, hmp.mono (.of e10), hg.mono (.of e10), fun H6 sx6 hr6 => ⟨rfl, ?_⟩⟩
                    have e11 := SX.same e10 sx6 hx2
                    have hD6 := e11 _ _ hDa
                    refine ⟨D, acc, _, rfl, rfl, hD6, Nat.lt_of_le_of_lt hac (Nat.lt_of_lt_of_le (show i + 1 < 1000 by omega) (by decide)), ?_⟩
                    refine ⟨_, _, rfl, Same.mut (ea.trans e11) hD, upd_same, by simp; omega, (hmp.mono (.of e11)).mono (ISame.lst hD6), ?_⟩
                    rw [filt_yes hg1 yes, List.map_append, List.map_cons, List.map_nil, ← List.cons_append]
                    exact ((hacc.mono fun _ _ => RuleAt.mono (.of e11)).mono fun _ _ => RuleAt.mono (ISame.lst hD6)).snoc (hr6.mono (ISame.lst hD6))
                  · refine ⟨_, _, rfl, ea, hDa, by omega, hmp, stay _ (Same.refl _) ?_⟩
                    show (decide (pp = p) && (decide (f.day ≤ gd) && decide (gd < day))) = false
                    have h4 : decide (gd < day) = false := hb4
                    rw [h4]
                    simp
                · refine ⟨_, rfl, iteF ?_⟩
                  refine ⟨_, _, rfl, ea, hDa, by omega, hmp, stay _ (Same.refl _) ?_⟩
                  show (decide (pp = p) && (decide (f.day ≤ gd) && decide (gd < day))) = false
                  have h3 : decide (f.day ≤ gd) = false := hb3
                  rw [h3]
                  simp
              · refine ⟨_, _, rfl, ea, hDa, by omega, hmp, stay _ (Same.refl _) ?_⟩
                have hpp : ¬ pp = p := fun z => of_decide_eq_false hb2 (by rw [z])
                show (decide (pp = p) && (decide (f.day ≤ gd) && decide (gd < day))) = false
                rw [decide_eq_false hpp]
                rfl
          · rw [word_mended] at hb
            refine ⟨_, _, rfl, ea, hDa, by omega, hmp, stay _ (Same.refl _) ?_⟩
            obtain ⟨gd, gm1, gm2, gk⟩ := g
            cases gk with
            | sold _ => rfl
            | claimed _ _ => rfl
            | misused _ => rfl
            | mended pp => cases hb
        · rintro σ H6 ⟨y0, acc, rfl, ea, hDa, hac, hmp, hacc⟩
          refine ⟨_, rfl, k H6 D acc (e7.trans ea) hDa ?_⟩
          rw [hall1.len, List.take_length] at hacc
          rw [rulesFor, hm]
          exact hacc
theorem m_Life_rules (T : Tx w K mg) : C8.Met P w K mg base 6 (He.ga K "Life") "rules" (sp_rules K) [] := by
  obtain ⟨fd, F⟩ := T.F_Life_rules
  refine ⟨_, fd, ["self", "part", "day"], [], T.c_Life, T.m_Life_rules, F.ok sc_Life_rules (fun vs H Q E h => ?_) (fun cdv A outer s H vs Q E hr h => ?_), F.bindsN fun _ _ _ _ _ _ us hl => match us, hl with | [_, _, _], _ => rfl, .nil⟩
  · obtain ⟨x, b, c, d, e, f, g, i, rfl, _⟩ := h
    rfl
  · obtain ⟨x, l, s, ps, p, day, r, f, rfl, pre, k⟩ := h
    obtain ⟨dx, so, n, us, h1, h2, h3, h4⟩ := id pre.life
    have hlen := pre.len
    refine ⟨_, PSs.nox (pss_cons (ps_expr (C8.pe_mt (m_Life_need_asked T) hr (by decide) (pv 0) (pa_cons (pv 1) (pa_cons (pv 2) pa_nil))))
      (pss_cons (ps_set (i := 3) sc_Life_rules.nd rfl (Or.inr rfl) (C8.pe_mt (m_Life_up_to T) hr (by decide) (pv 0) (pa_cons (pv 2) pa_nil)))
      (pss_one (ps_ret (pe_lc (own := [("rule", 4)]) (g := gName 4) rfl sc_Life_rules.nd (pi_list (C8.pe_mt (m_Life_rules_on T) hr (by decide) (pv 0) (pa_cons (pv 1) (pa_cons (pv 2) pa_nil)))) (blkOk_by (own := [("rule", 4)]) (N := N_Life_rules) (sc := defScope s_Life_rules) (by decide +kernel)) (fun _ _ _ _ _ => (pg_name (i := 4) sc_Life_rules.nd rfl (Or.inl rfl))) (fun _ _ _ _ _ => pts_nil) (fun _ _ _ _ _ => (pe_tup (pa_cons (pe_fldK (K := K) (pv 4) rfl) (pa_cons (pe_ix (ix_tupK (K := K)) (pe_fldK (K := K) (pv 4) rfl) pe_int (fun _ _ => rfl)) (pa_cons (C8.pe_mt (m_Rule_ended T) hr (by decide) (pv 4) (pa_cons (pv 3) (pa_cons (pv 2) pa_nil))) pa_nil)))))))))), ?_⟩
    refine ⟨_, rfl, x, dx, _, rfl, h1, rfl, _, rfl, _, rfl, x, l, s, ps, p, day, rfl, pre.life, by omega, pre.ok, pre.nm, by rw [pre.row] <;> rfl, pre.d.1, pre.d.2, pre.at_, fun H1 e1 => ?_⟩
    refine ⟨_, rfl, x, dx, _, rfl, e1 _ _ h1, rfl, _, rfl, x, l, s, ps, day, rfl, pre.life.mono e1, by omega, fun H2 p1 us1 e2 hp1 hall1 => ?_⟩
    have e12 := e1.trans e2
    refine ⟨_, rfl, x, dx, _, rfl, e12 _ _ h1, rfl, _, rfl, _, rfl, x, l, s, ps, p, day, r, f, rfl, pre.mono e12, fun H3 q us2 e3 hq hall2 => ?_⟩
    refine ⟨q, rfl, ⟨_, SqL.of hq⟩, fun D hD => ?_⟩
    have hup : (upTo ps day).length ≤ 20 := Nat.le_trans (List.length_filter_le ..) hlen
    have hr2 : (rulesFor s r f (upTo ps day) p day).length ≤ 21 := by
      rw [rulesFor]
      cases r.2.2 with
      | none => simp
      | some m =>
        have := List.length_filter_le (mendB p f day) (upTo ps day)
        simp
        omega
    refine lc_p (walk_list (K := K) (a := q) (xs := us2)) (fun i acc H' => AllAt (EndAt H' (upTo ps day) day) acc ((rulesFor s r f (upTo ps day) p day).take i)) (by have := hall2.len; omega) hD (fun _ _ _ _ e p => p.mono fun _ _ ⟨a, ev, z1, z2, z3⟩ => ⟨a, ev, z1, e.tup _ _ z2, z3⟩) .nil (fun H' e => SqL.of (e _ _ hq)) ?_ ?_
    · rintro i acc v Ha Hb hi hal e hacc ⟨rfl, hx⟩ Qt Qf kt kf
      obtain ⟨rd, hg1, hrd⟩ := hall2.get hx
      obtain ⟨a, dr, pa, pgv, rfl, q1, q2, q3⟩ := id hrd
      obtain ⟨sa, sm, rfl, s1, s2⟩ := id q3
      refine ⟨rfl, _, rfl, a, _, dr, _, _, rfl, e _ _ q1, T.c_Rule, T.n_Rule_told_word, rfl, ?_⟩
      refine ⟨_, rfl, a, _, dr, _, _, rfl, e _ _ q1, T.c_Rule, T.n_Rule_since, rfl, sa, _, 1, _, rfl, rfl, SqT.of (e _ _ s1), at1, ?_⟩
      refine ⟨_, rfl, a, dr, _, rfl, e _ _ q1, rfl, _, rfl, _, rfl, .ref a, p1, us1, rd, upTo ps day, day, rfl, hrd.mono (.of e), e _ _ (e3 _ _ hp1), (hall1.mono fun _ _ => PageAt.mono (.of (e3.trans e))), by omega, fun H4 ev e4 hev => ?_⟩
      refine ⟨sz3, fun t ht => kt _ _ (e4.trans (Same.new ht)) ?_⟩
      rw [take_snoc hg1]
      have e5 : Same Hb _ := e4.trans (Same.new (o := .tup [.str rd.word, .int rd.pg.day, ev]) ht)
      refine AllAt.snoc (hacc.mono fun _ _ ⟨a, ev, z1, z2, z3⟩ => ⟨a, ev, z1, e5 _ _ z2, z3⟩) ⟨t, ev, rfl, upd_same, hev⟩
    · rintro zs H4 e4 hz1 hzl hall
      rw [hall2.len, List.take_length] at hall
      exact k H4 D zs ((e12.trans e3).trans e4) hz1 hall
theorem m_Life_misused_on (T : Tx w K mg) : C8.Met P w K mg base 3 (He.ga K "Life") "misused_on" (sp_misused_on K) [] := by
  obtain ⟨fd, F⟩ := T.F_Life_misused_on
  refine ⟨_, fd, ["self", "part", "day"], [], T.c_Life, T.m_Life_misused_on, F.ok sc_Life_misused_on (fun vs H Q E h => ?_) (fun cdv A outer s H vs Q E hr h => ?_), F.bindsN fun _ _ _ _ _ _ us hl => match us, hl with | [_, _, _], _ => rfl, .nil⟩
  · obtain ⟨x, b, c, d, e, f, rfl, _⟩ := h
    rfl
  · obtain ⟨x, l, s, ps, p, day, rfl, hL, hlen, ok, pok, hp, k⟩ := h
    obtain ⟨dx, so, n, us, h1, h2, h3, h4⟩ := id hL
    obtain ⟨dx2, pr, t, u, g1, g2⟩ := id h2
    refine ⟨_, PSs.nox (pss_cons (ps_setLc (i := 3) (own := [("page", 4)]) (g := gName 4) (by rfl) sc_Life_misused_on.nd rfl rfl (sw_true rfl rfl rfl (by decide +kernel)) (pi_list (C8.pe_mt (m_Life_up_to T) hr (by decide) (pv 0) (pa_cons (pv 2) pa_nil))) (blkOk_by (own := [("page", 4)]) (N := N_Life_misused_on) (sc := defScope s_Life_misused_on) (by decide +kernel)) (fun _ _ _ _ _ => (pg_name (i := 4) sc_Life_misused_on.nd rfl (Or.inl rfl))) (fun _ _ _ _ _ => (pts_one (pt_cmpR op_eq (pe_ix (ix_tupK (K := K)) (pv 4) pe_int (fun _ _ => rfl)) pe_str (nomark _)))) (fun _ _ _ _ _ => (pv 4)))
      (pss_one (ps_ret (pe_callBK (cr_minD rfl (hu65 hr)) rfl T.f_min (by decide +kernel) (pa_cons (pe_lc (own := [("page", 4)]) (g := gName 4) rfl sc_Life_misused_on.nd (pi_list (pv 3)) (blkOk_by (own := [("page", 4)]) (N := N_Life_misused_on) (sc := defScope s_Life_misused_on) (by decide +kernel)) (fun _ _ _ _ _ => (pg_name (i := 4) sc_Life_misused_on.nd rfl (Or.inl rfl))) (fun _ _ _ _ _ => (pts_one (pt_val (C8.pe_mt (m_Sort_is_barred T) hr (by decide) (pe_fldK (K := K) (pv 0) rfl) (pa_cons (pe_ix (ix_tupK (K := K)) (pv 4) pe_int (fun _ _ => rfl)) (pa_cons (pv 1) pa_nil)))))) (fun _ _ _ _ _ => (pe_ix (ix_tupK (K := K)) (pv 4) pe_int (fun _ _ => rfl)))) pa_nil) (pk_cons pe_non pk_nil))))), ?_⟩
    refine ⟨_, rfl, x, dx, _, rfl, h1, rfl, _, rfl, x, l, s, ps, day, rfl, hL, by omega, fun H1 p1 us1 e1 hp1 hall1 => ⟨p1, rfl, ⟨_, SqL.of hp1⟩, fun D hD => ?_⟩⟩
    have hup : (upTo ps day).length ≤ 20 := Nat.le_trans (List.length_filter_le ..) hlen
    refine lc_p (walk_list (K := K) (a := p1) (xs := us1)) (fun i acc H' => AllAt (PageAt H') acc (((upTo ps day).take i).filter isMis)) (by have := hall1.len; omega) hD (fun _ _ _ _ e p => p.mono fun _ _ => PageAt.mono e) .nil (fun H' e => SqL.of (e _ _ hp1)) ?_ ?_
    · rintro i acc v Ha Hb hi hal e hacc ⟨rfl, hx⟩ Qt Qf kt kf
      obtain ⟨g, hg1, hg⟩ := hall1.get hx
      obtain ⟨a, ma, rfl, q1, q2⟩ := id hg
      refine ⟨rfl, _, rfl, a, _, 0, _, rfl, rfl, SqT.of (e _ _ q1), at0, rfl, _, rfl, ite2b (fun hb => ?_) (fun hb => ?_)⟩
      · rw [word_misused] at hb
        exact ⟨_, rfl, kt _ _ (Same.refl _) (by rw [filt_yes (f := isMis) hg1 hb]; exact hacc.snoc (hg.mono (.of e)))⟩
      · rw [word_misused] at hb
        exact kf _ (Same.refl _) (by rw [filt_no (f := isMis) hg1 hb]; exact hacc)
    · rintro us2 H2 e2 hq2 hzl hall2
      rw [hall1.len, List.take_length] at hall2
      have e12 := e1.trans e2
      have hml : ((upTo ps day).filter isMis).length ≤ 20 := Nat.le_trans (List.length_filter_le ..) hup
      refine ⟨_, rfl, D, rfl, ⟨_, SqL.of hq2⟩, fun D2 hD2 => ?_⟩
      dsimp only [tNil]
      refine lc_p (walk_list (K := K) (a := D) (xs := us2)) (fun i acc H' => ∃ ns : List Int, acc = ns.map V.int ∧ ns.isEmpty = !(((upTo ps day).filter isMis).take i).any (misG s p)) (by have := hall2.len; omega) hD2 (fun _ _ _ _ _ p => p) ⟨[], rfl, by simp⟩ (fun H' e => SqL.of (e _ _ hq2)) ?_ ?_
      · rintro i acc v Ha Hb hi hal e ⟨ns, rfl, hns⟩ ⟨rfl, hx⟩ Qt Qf kt kf
        obtain ⟨g, hg1, hg⟩ := hall2.get hx
        have any : (((upTo ps day).filter isMis).take (i + 1)).any (misG s p) = ((((upTo ps day).filter isMis).take i).any (misG s p) || misG s p g) := by rw [take_snoc hg1]; simp [List.any_append]
        have hmem := List.mem_of_getElem? hg1
        have hmis := (List.mem_filter.mp hmem).2
        have hpk := (pok g (List.mem_filter.mp (List.mem_filter.mp hmem).1).1).k
        obtain ⟨gd, gm1, gm2, gk⟩ := g
        cases gk with
        | sold _ => cases hmis
        | claimed _ _ => cases hmis
        | mended _ => cases hmis
        | misused m =>
          obtain ⟨a, ma, rfl, q1, q2⟩ := id hg
          have e2' := e12.trans e
          refine ⟨rfl, _, rfl, x, _, dx, _, _, rfl, e2' _ _ h1, T.c_Life, T.n_Life_of_sort, rfl, so, dx2, _, rfl, e2' _ _ g1, rfl, _, rfl, a, _, 3, _, rfl, rfl, SqT.of (e _ _ q1), rfl, _, rfl, so, m, p, s, rfl, h2.mono (.of e2'), ok, hpk, hp, fun H3 e3 => ?_⟩
          refine ⟨_, rfl, ite2b (fun hb => ?_) (fun hb => ?_)⟩
          · refine ⟨_, rfl, a, _, 1, _, rfl, rfl, SqT.of (e3 _ _ (e _ _ q1)), at1, kt _ _ e3 ⟨ns ++ [gd], by simp, ?_⟩⟩
            have hb' : misG s p ⟨gd, gm1, gm2, .misused m⟩ = true := hb
            rw [any, hb']
            cases ns <;> simp
          · refine kf _ e3 ⟨ns, rfl, ?_⟩
            have hb' : misG s p ⟨gd, gm1, gm2, .misused m⟩ = false := hb
            rw [any, hb', hns]
            simp
      · rintro zs H3 e3 hz1 hzl2 ⟨ns, rfl, hns⟩
        rw [hall2.len, List.take_length] at hns
        have same : ((upTo ps day).filter isMis).any (misG s p) = (upTo ps day).any (misG s p) := by
          rw [Bool.eq_iff_iff, List.any_eq_true, List.any_eq_true]
          constructor
          · rintro ⟨g, hg, hb⟩
            exact ⟨g, (List.mem_filter.mp hg).1, hb⟩
          · rintro ⟨g, hg, hb⟩
            refine ⟨g, List.mem_filter.mpr ⟨hg, ?_⟩, hb⟩
            obtain ⟨gd, gm1, gm2, gk⟩ := g
            cases gk with
            | misused m => rfl
            | sold _ => cases hb
            | claimed _ _ => cases hb
            | mended _ => cases hb
        rw [same] at hns
        refine ⟨D2, ns, rfl, rfl, SqL.of hz1, fun z => k H3 _ (e12.trans e3) ⟨fun _ => rfl, fun z2 => ?_⟩, fun z m _ _ => k H3 _ (e12.trans e3) ⟨fun z2 => ?_, fun _ => ⟨m, rfl⟩⟩⟩
        · rw [z, z2] at hns
          cases hns
        · rw [z2] at hns
          exact absurd (by simpa using hns) z
end
end Wk
end

section
set_option Elab.async false
set_option linter.all false
set_option maxRecDepth 100000
/-! Life.verdict -/
namespace Wk
open PySem PySem.Spec L2 RZ
def verdB (s : SortD) (rs : List RuleD) (pages : List PageD) (part : Str) (day : Int) : Bool := !(pages.any (misG s part)) && rs.any fun rd => !overB rd pages day
def sp_verdict (K : PySem.W.Frag) : Sp := fun vs H Q _ => ∃ (x l : Addr) (s : SortD) (ps : List PageD) (p : Str) (day : Int) (r : RowD) (f : PageD), vs = [.ref x, .str p, .int day, .non] ∧ RulesPre K H x l s ps p day r f ∧
  ∀ (H' : Hp) (t : Addr) (w2 w3 : V), Same H H' → H' t = some (.tup [.str (if verdB s (rulesFor s r f (upTo ps day) p day) (upTo ps day) p day = true then "stands" else "falls"), w2, w3]) → Q (.ref t) H'
theorem dp_ex {K : PySem.W.Frag} {H : Hp} : ∀ vs : List V, (∀ v ∈ vs, ∃ d, Dp K H v d ∧ PyData.canLay0 d = true ∧ PyData.depth d ≤ 40) → ∃ ds, DpAll K H vs ds ∧ PyData.canLayAll0 ds = true ∧ PyData.depthAll ds ≤ 40 ∧ ds.isEmpty = vs.isEmpty
  | [], _ => ⟨[], .nil, by simp [PyData.canLayAll0], by simp [PyData.depthAll], rfl⟩
  | v :: vs, h => by
    obtain ⟨d, h1, h2, h3⟩ := h v (List.mem_cons_self ..)
    obtain ⟨ds, i1, i2, i3, i4⟩ := dp_ex vs (fun z hz => h z (List.mem_cons_of_mem _ hz))
    exact ⟨d :: ds, .cons h1 i1, by simp only [PyData.canLayAll0, h2, i2, Bool.and_self], by simp only [PyData.depthAll]; exact Nat.max_le.mpr ⟨h3, i3⟩, rfl⟩
theorem shp_ds {ds : List PyData} (h1 : PyData.canLayAll0 ds = true) (h2 : PyData.depthAll ds ≤ 40) : SeqAt.shaped (.list ds) = true := by
  unfold SeqAt.shaped
  rw [Bool.and_eq_true]
  exact ⟨by simpa [PyData.canLay0] using h1, decide_eq_true (by simp only [PyData.depth]; omega)⟩
theorem dp_end {K : PySem.W.Frag} {H : Hp} {pages : List PageD} {day : Int} {v : V} {r : RuleD} (hw : PyData.strOk r.word = true) (h : EndAt H pages day v r) : ∃ d, Dp K H v d ∧ PyData.canLay0 d = true ∧ PyData.depth d ≤ 40 := by
  obtain ⟨a, e, rfl, h1, h2⟩ := h
  cases ho : overB r pages day with
  | false =>
    obtain rfl : e = .non := h2.1 ho
    exact ⟨.tuple [.str r.word, .int r.pg.day, .none], .tup (SqT.of h1) (.cons (.str _) (.cons (.int _) (.cons .non .nil))), by simp [PyData.canLay0, PyData.canLayAll0, hw], by simp [PyData.depth, PyData.depthAll]⟩
  | true =>
    obtain ⟨i, rfl⟩ := h2.2 ho
    exact ⟨.tuple [.str r.word, .int r.pg.day, .int i], .tup (SqT.of h1) (.cons (.str _) (.cons (.int _) (.cons (.int _) .nil))), by simp [PyData.canLay0, PyData.canLayAll0, hw], by simp [PyData.depth, PyData.depthAll]⟩
theorem words_ok {s : SortD} {r : RowD} {f : PageD} {pages : List PageD} {part : Str} {day : Int} : ∀ rd ∈ rulesFor s r f pages part day, PyData.strOk rd.word = true := by
  intro rd hrd
  rw [rulesFor] at hrd
  rcases List.mem_cons.mp hrd with rfl | h
  · show PyData.strOk (heldW r) = true
    unfold heldW
    cases r.2.1 with
    | none => exact (by decide +kernel : PyData.strOk "whole" = true)
    | some _ => exact (by decide +kernel : PyData.strOk "own" = true)
  · cases hm : r.2.2 with
    | none => rw [hm] at h; cases h
    | some m =>
      rw [hm] at h
      obtain ⟨g, _, rfl⟩ := List.mem_map.mp h
      show PyData.strOk "mended" = true
      decide +kernel
theorem allAt_dp {K : PySem.W.Frag} {H : Hp} {pages : List PageD} {day : Int} {us : List V} {rs : List RuleD} (h : AllAt (EndAt H pages day) us rs) (hw : ∀ rd ∈ rs, PyData.strOk rd.word = true) : ∀ v ∈ us, ∃ d, Dp K H v d ∧ PyData.canLay0 d = true ∧ PyData.depth d ≤ 40 := by
  intro v hv
  obtain ⟨i, hi⟩ := List.getElem?_of_mem hv
  obtain ⟨r, hr, he⟩ := h.get hi
  exact dp_end (hw r (List.mem_of_getElem? hr)) he
theorem EndAt.mono {H H' : Hp} {pages : List PageD} {day : Int} {v : V} {r : RuleD} (e : ISame H H') : EndAt H pages day v r → EndAt H' pages day v r := fun ⟨a, ev, z1, z2, z3⟩ => ⟨a, ev, z1, e.tup _ _ z2, z3⟩
theorem snoc_of {α : Type} : ∀ l : List α, l ≠ [] → ∃ i x, l = i ++ [x]
  | [], h => absurd rfl h
  | [x], _ => ⟨[], x, rfl⟩
  | x :: y :: r, _ => by
    obtain ⟨i, z, e⟩ := snoc_of (y :: r) (by simp)
    exact ⟨x :: i, z, by rw [e]; rfl⟩
theorem rules_len {s : SortD} {r : RowD} {f : PageD} {ps : List PageD} {part : Str} {day : Int} (hlen : ps.length ≤ 20) : (rulesFor s r f (upTo ps day) part day).length ≤ 21 := by
  have hup : (upTo ps day).length ≤ 20 := Nat.le_trans (List.length_filter_le ..) hlen
  rw [rulesFor]
  cases r.2.2 with
  | none => simp
  | some m =>
    have := List.length_filter_le (mendB part f day) (upTo ps day)
    simp
    omega
section
variable {P : Program} {w : World} {K : PySem.W.Frag} {mg : Str → Option Value} {base : Heap}
theorem m_Life_verdict (T : Tx w K mg) : C8.Met P w K mg base 7 (He.ga K "Life") "verdict" (sp_verdict K) [.non] := by
  obtain ⟨fd, F⟩ := T.F_Life_verdict
  obtain ⟨ds0, hd0, b0⟩ := F.binds1 (ps := ["self", "part", "day", "called"]) 3 0 (by simp [d_Life_verdict, He.DefD.dvs]) rfl (fun T kV doc pm an cdv ct us its h1 h2 => by
    match us, its, h1, h2 with
    | [_, _, _], [_], _, _ => exact ⟨_, rfl, rfl⟩)
  refine ⟨_, fd, ["self", "part", "day", "called"], ds0, T.c_Life, T.m_Life_verdict, F.ok sc_Life_verdict (fun vs H Q E h => ?_) (fun cdv A outer s H vs Q E hr h => ?_), b0, hd0⟩
  · obtain ⟨x, b, c, d, e, f, g, i, rfl, _⟩ := h
    rfl
  · obtain ⟨x, l, s, ps, p, day, r, f, rfl, pre, k⟩ := h
    obtain ⟨dx, so, n, us, h1, h2, h3, h4⟩ := id pre.life
    have hlen := pre.len
    have hrl := rules_len (s := s) (r := r) (f := f) (part := p) (day := day) hlen
    obtain ⟨pages, hpages⟩ : ∃ pages, pages = upTo ps day := ⟨_, rfl⟩
    obtain ⟨rs, hrs⟩ : ∃ rs, rs = rulesFor s r f (upTo ps day) p day := ⟨_, rfl⟩
    have hw : ∀ rd ∈ rs, PyData.strOk rd.word = true := by rw [hrs]; exact words_ok
    have hne : rs ≠ [] := by rw [hrs, rulesFor]; simp
    rw [← hrs] at hrl
    rw [← hrs, ← hpages] at k
    refine ⟨_, PSs.nox (pss_cons (ps_expr (C8.pe_mt (m_Life_need_asked T) hr (by decide) (pv 0) (pa_cons (pv 1) (pa_cons (pv 2) pa_nil))))
      (pss_cons (ps_if (PW.pt (pw_and (pt_cmpR op_notN (pv 3) pe_non (nomark _)) (pw_and1 (pt_not (pt_val (C8.pe_c (c_is_day T) hr (by decide) rfl (pa_cons (pv 3) pa_nil))))))) (pss_one ps_never) pss_nil)
      (pss_cons (ps_set (i := 4) sc_Life_verdict.nd rfl (Or.inl rfl) (C8.pe_mt (m_Life_rules T) hr (by decide) (pv 0) (pa_cons (pv 1) (pa_cons (pv 2) pa_nil))))
      (pss_cons (ps_if (pt_cmpR (op_eqD hr.units) (pv 4) (pe_lst pa_nil) (nomark _)) (pss_one (ps_ret (pe_tup (pa_cons pe_str (pa_cons pe_str (pa_cons pe_non pa_nil)))))) pss_nil)
      (pss_cons (ps_if (PW.pt (pw_and (pt_cmpR op_notN (pv 3) pe_non (nomark _)) (pw_and1 (pt_cmpR op_le (pv 3) (pv 2) (nomark _))))) (pss_one (ps_ret (pe_tup (pa_cons pe_str (pa_cons pe_str (pa_cons (pv 3) pa_nil)))))) pss_nil)
      (pss_cons (ps_set (i := 5) sc_Life_verdict.nd rfl (Or.inl rfl) (C8.pe_mt (m_Life_misused_on T) hr (by decide) (pv 0) (pa_cons (pv 1) (pa_cons (pv 2) pa_nil))))
      (pss_cons (ps_if (pt_cmpR op_notN (pv 5) pe_non (nomark _)) (pss_one (ps_ret (pe_tup (pa_cons pe_str (pa_cons pe_str (pa_cons (pv 5) pa_nil)))))) pss_nil)
      (pss_cons (ps_setLc (i := 6) (own := [("rule", 11)]) (g := gName 11) (by rfl) sc_Life_verdict.nd rfl rfl (sw_true rfl rfl rfl (by decide +kernel)) (pi_list (pv 4)) (blkOk_by (own := [("rule", 11)]) (N := N_Life_verdict) (sc := defScope s_Life_verdict) (by decide +kernel)) (fun _ _ _ _ _ => (pg_name (i := 11) sc_Life_verdict.nd rfl (Or.inl rfl))) (fun _ _ _ _ _ => (pts_one (pt_cmpR op_isN (pe_ix (ix_tupK (K := K)) (pv 11) pe_int (fun _ _ => rfl)) pe_non (nomark _)))) (fun _ _ _ _ _ => (pv 11)))
      (pss_cons (ps_if (pt_cmpR (op_neD hr.units) (pv 6) (pe_lst pa_nil) (nomark _)) (pss_one (ps_ret (pe_op op_catA (pe_tup (pa_cons pe_str pa_nil)) (pe_slice sl_tupA (pe_ix ix_list (pv 6) (pe_un un_neg pe_int) (fun _ _ => rfl)) po_none (po_some pe_int))))) pss_nil)
      (pss_cons (ps_set (i := 7) sc_Life_verdict.nd rfl (Or.inr rfl) (pe_callB (cr_max rfl) (by rfl) T.f_max (by decide +kernel) (pa_cons (pe_lc (own := [("rule", 11)]) (g := gName 11) rfl sc_Life_verdict.nd (pi_list (pv 4)) (blkOk_by (own := [("rule", 11)]) (N := N_Life_verdict) (sc := defScope s_Life_verdict) (by decide +kernel)) (fun _ _ _ _ _ => (pg_name (i := 11) sc_Life_verdict.nd rfl (Or.inl rfl))) (fun _ _ _ _ _ => pts_nil) (fun _ _ _ _ _ => (pe_ix (ix_tupK (K := K)) (pv 11) pe_int (fun _ _ => rfl)))) pa_nil)))
      (pss_cons (ps_asg (pe_ix ix_list (pe_lc (own := [("rule", 11)]) (g := gName 11) rfl sc_Life_verdict.nd (pi_list (pv 4)) (blkOk_by (own := [("rule", 11)]) (N := N_Life_verdict) (sc := defScope s_Life_verdict) (by decide +kernel)) (fun _ _ _ _ _ => (pg_name (i := 11) sc_Life_verdict.nd rfl (Or.inl rfl))) (fun _ _ _ _ _ => (pts_one (pt_cmpR op_eq (pe_ix (ix_tupK (K := K)) (pv 11) pe_int (fun _ _ => rfl)) (pv 7) (nomark _)))) (fun _ _ _ _ _ => (pv 11))) (pe_un un_neg pe_int) (fun _ _ => rfl)) (pg_tup rfl (pgs_cons (pg_name (i := 8) sc_Life_verdict.nd rfl (Or.inl rfl)) (pgs_cons (pg_name (i := 9) sc_Life_verdict.nd rfl (Or.inl rfl)) (pgs_cons (pg_name (i := 10) sc_Life_verdict.nd rfl (Or.inl rfl)) pgs_nil)))))
      (pss_one (ps_ret (pe_tup (pa_cons pe_str (pa_cons (pv 8) (pa_cons (pv 10) pa_nil))))))))))))))))), ?_⟩
    refine ⟨_, rfl, x, dx, _, rfl, h1, rfl, _, rfl, _, rfl, x, l, s, ps, p, day, rfl, pre.life, by omega, pre.ok, pre.nm, by rw [pre.row] <;> rfl, pre.d.1, pre.d.2, pre.at_, fun H1 e1 => ?_⟩
    refine ⟨_, rfl, rfl, _, rfl, iteF (iteF ?_)⟩
    refine ⟨_, rfl, x, dx, _, rfl, e1 _ _ h1, rfl, _, rfl, _, rfl, x, l, s, ps, p, day, r, f, rfl, pre.mono e1, fun H2 q us2 e2 hq hall => ?_⟩
    rw [← hrs, ← hpages] at hall
    have hus : us2.length ≤ 21 := by rw [hall.len]; exact hrl
    have husne : us2 ≠ [] := fun z => hne (List.eq_nil_of_length_eq_zero (by rw [← hall.len, z]; rfl))
    have e12 := e1.trans e2
    refine ⟨_, rfl, szn (Nat.zero_le _), fun q2 hq2 => ?_⟩
    have e23 : Same H2 (upd H2 q2 (.lst [])) := Same.new hq2
    obtain ⟨ds, d1, d2, d3, d4⟩ := dp_ex (K := K) us2 (allAt_dp (hall.mono fun _ _ => EndAt.mono (.of e23)) hw)
    refine ⟨.list ds, _, .lst (SqL.of (e23 _ _ hq)) d1, .lst (SqL.of upd_same) .nil, shp_ds d2 d3, shp_nil, _, rfl, ifc (by rw [eqv_nil, d4]; cases us2 with | nil => exact absurd rfl husne | cons _ _ => rfl) ?_⟩
    have e13 := e12.trans e23
    refine ⟨_, rfl, rfl, _, rfl, iteF (iteF ?_)⟩
    refine ⟨_, rfl, x, dx, _, rfl, e13 _ _ h1, rfl, _, rfl, _, rfl, x, l, s, ps, p, day, rfl, pre.life.mono e13, hlen, pre.ok, pre.pok, pre.nm, fun H4 ev e4 hev => ?_⟩
    rw [← hpages] at hev
    have e14 := e13.trans e4
    have e24 := e23.trans e4
    cases hmis : pages.any (misG s p) with
    | true =>
      obtain ⟨i, rfl⟩ := hev.2 hmis
      refine ⟨_, rfl, rfl, _, rfl, iteT ?_⟩
      refine ⟨_, rfl, sz3, fun t ht => k _ t (.str "misused") (.int i) (e14.trans (Same.new ht)) ?_⟩
      rw [upd_same, verdB, hmis]
      rfl
    | false =>
      obtain rfl : ev = .non := hev.1 hmis
      refine ⟨_, rfl, rfl, _, rfl, iteF ?_⟩
      have hq4 := e24 _ _ hq
      have hall4 := hall.mono fun _ _ => EndAt.mono (.of e24)
      refine ⟨_, rfl, q, rfl, ⟨_, SqL.of hq4⟩, fun D hD => ?_⟩
      refine lc_p (walk_list (K := K) (a := q) (xs := us2)) (fun i acc H' => AllAt (EndAt H' pages day) acc ((rs.take i).filter fun rd => !overB rd pages day)) (by omega) hD (fun _ _ _ _ e p => p.mono fun _ _ => EndAt.mono e) .nil (fun H' e => SqL.of (e _ _ hq4)) ?_ ?_
      · rintro i acc v Ha Hb hi hal e hacc ⟨rfl, hx⟩ Qt Qf kt kf
        obtain ⟨rd, hg1, hrd⟩ := hall4.get hx
        obtain ⟨a, ev, rfl, q1, q2⟩ := id hrd
        refine ⟨rfl, _, rfl, a, _, 2, _, rfl, rfl, SqT.of (e _ _ q1), rfl, rfl, _, rfl, ite2b (fun hb => ?_) (fun hb => ?_)⟩
        · have ho : overB rd pages day = false := by
            cases ho : overB rd pages day with
            | false => rfl
            | true =>
              obtain ⟨i, rfl⟩ := q2.2 ho
              cases of_decide_eq_true hb
          exact ⟨_, rfl, kt _ _ (Same.refl _) (by rw [filt_yes hg1 (by rw [ho]; rfl)]; exact hacc.snoc (hrd.mono (.of e)))⟩
        · have ho : overB rd pages day = true := by
            cases ho : overB rd pages day with
            | true => rfl
            | false => exact absurd (q2.1 ho) (of_decide_eq_false hb)
          exact kf _ (Same.refl _) (by rw [filt_no hg1 (by rw [ho]; rfl)]; exact hacc)
      · rintro zs H5 e5 hz hzl hallh
        rw [hall4.len, List.take_length] at hallh
        have e15 := e14.trans e5
        have hq5 := e5 _ _ hq4
        have hall5 := hall4.mono fun _ _ => EndAt.mono (.of e5)
        refine ⟨_, rfl, szn (Nat.zero_le _), fun q3 hq3 => ?_⟩
        have e56 : Same H5 (upd H5 q3 (.lst [])) := Same.new hq3
        have e16 := e15.trans e56
        obtain ⟨dsh, dh1, dh2, dh3, dh4⟩ := dp_ex (K := K) zs (allAt_dp (hallh.mono fun _ _ => EndAt.mono (.of e56)) (fun rd hrd => hw rd (List.mem_filter.mp hrd).1))
        refine ⟨.list dsh, _, .lst (SqL.of (e56 _ _ hz)) dh1, .lst (SqL.of upd_same) .nil, shp_ds dh2 dh3, shp_nil, _, rfl, ?_⟩
        rw [eqv_nil, dh4]
        by_cases hzs : zs = []
        · subst hzs
          refine iteF ?_
          have hnone : ∀ rd ∈ rs, overB rd pages day = true := fun rd hrd => by
            cases ho : overB rd pages day with
            | true => rfl
            | false =>
              have hm : rd ∈ rs.filter fun rd => !overB rd pages day := List.mem_filter.mpr ⟨hrd, by rw [ho]; rfl⟩
              rw [List.eq_nil_of_length_eq_zero hallh.len.symm] at hm
              cases hm
          have kf : ∀ (H' : Hp) (t : Addr) (w2 w3 : V), Same H H' → H' t = some (.tup [.str "falls", w2, w3]) → Q (.ref t) H' := fun H' t w2 w3 e ht => k H' t w2 w3 e (by
            have : verdB s rs pages p day = false := by
              rw [verdB]
              have : (rs.any fun rd => !overB rd pages day) = false := by
                rw [Bool.eq_false_iff]
                intro z
                obtain ⟨rd, hrd, ho⟩ := List.any_eq_true.mp z
                rw [hnone rd hrd] at ho
                cases ho
              rw [this]
              simp
            rw [this]
            exact ht)
          have hq6 := e56 _ _ hq5
          have hall6 := hall5.mono fun _ _ => EndAt.mono (.of e56)
          have nums : ∀ (j : Nat) (v : V), us2[j]? = some v → ∃ (a : Addr) (w d : V) (i : Int), v = .ref a ∧ (upd H5 q3 (.lst [])) a = some (.tup [w, d, .int i]) := fun j v hv => by
            obtain ⟨rd, hrd, a, ev, rfl, q1, q2⟩ := hall6.get hv
            obtain ⟨i, rfl⟩ := q2.2 (hnone rd (List.mem_of_getElem? hrd))
            exact ⟨a, _, _, i, rfl, q1⟩
          generalize upd H5 q3 (.lst []) = H6 at *
          refine ⟨_, rfl, q, rfl, ⟨_, SqL.of hq6⟩, fun D2 hD2 => ?_⟩
          dsimp only [tNil]
          refine lc_p (walk_list (K := K) (a := q) (xs := us2)) (fun i acc H' => ∃ ns : List Int, acc = ns.map V.int ∧ ns.length = i ∧ ∀ m ∈ ns, ∃ (j : Nat) (a : Addr) (w d : V), us2[j]? = some (.ref a) ∧ H6 a = some (.tup [w, d, .int m])) (by omega) hD2 (fun _ _ _ _ _ p => p) ⟨[], rfl, rfl, fun _ z => by cases z⟩ (fun H' e => SqL.of (e _ _ hq6)) ?_ ?_
          · rintro i acc v Ha Hb hi hal e ⟨ns, rfl, hl, hns⟩ ⟨rfl, hx⟩ Qt Qf kt _
            obtain ⟨a, w1, d1, m, rfl, q1⟩ := nums i v hx
            refine ⟨rfl, _, rfl, a, _, 2, _, rfl, rfl, SqT.of (e _ _ q1), rfl, ?_⟩
            refine kt _ _ (Same.refl _) ⟨ns ++ [m], by simp, by simp [hl], fun z hz => ?_⟩
            rcases List.mem_append.mp hz with hz | hz
            · exact hns z hz
            · rw [List.mem_singleton.mp hz]
              exact ⟨i, a, w1, d1, hx, q1⟩
          · rintro ms H7 e7 hms hmsl ⟨ns, rfl, hnl, hns⟩
            refine ⟨D2, ns, rfl, SqL.of hms, ?_, fun last hlast _ => ?_⟩
            · rw [hnl]
              exact List.length_pos_iff.mpr husne
            have hq7 := e7 _ _ hq6
            refine ⟨_, rfl, q, rfl, ⟨_, SqL.of hq7⟩, fun D3 hD3 => ?_⟩
            refine lc_p (walk_list (K := K) (a := q) (xs := us2)) (fun i acc H' => (∀ v ∈ acc, ∃ (a : Addr) (w d e : V), v = .ref a ∧ H7 a = some (.tup [w, d, e])) ∧ ((∃ (j : Nat) (a : Addr) (w d : V), j < i ∧ us2[j]? = some (.ref a) ∧ H7 a = some (.tup [w, d, .int last])) → acc ≠ [])) (by omega) hD3 (fun _ _ _ _ _ p => p) ⟨fun _ z => by (cases z), fun ⟨j, _, _, _, z, _⟩ => by omega⟩ (fun H' e => SqL.of (e _ _ hq7)) ?_ ?_
            · rintro i acc v Ha Hb hi hal e ⟨ha1, ha2⟩ ⟨rfl, hx⟩ Qt Qf kt kf
              obtain ⟨a, w1, d1, m, rfl, q1⟩ := nums i v hx
              have q1' := e7 _ _ q1
              refine ⟨rfl, _, rfl, a, _, 2, _, rfl, rfl, SqT.of (e _ _ q1'), rfl, _, rfl, rfl, _, rfl, ite2b (fun hb => ?_) (fun hb => ?_)⟩
              · refine ⟨_, rfl, kt _ _ (Same.refl _) ⟨fun z hz => ?_, fun _ => by simp⟩⟩
                rcases List.mem_append.mp hz with hz | hz
                · exact ha1 z hz
                · rw [List.mem_singleton.mp hz]
                  exact ⟨a, w1, d1, _, rfl, q1'⟩
              · refine kf _ (Same.refl _) ⟨ha1, fun ⟨j, a2, w2, d2, hj, hj2, hj3⟩ => ?_⟩
                by_cases hji : j = i
                · subst hji
                  rw [hx] at hj2
                  cases hj2
                  rw [q1'] at hj3
                  injection hj3 with hj3
                  injection hj3 with hj3
                  injection hj3 with _ hj3
                  injection hj3 with _ hj3
                  injection hj3 with hj3 _
                  exact absurd hj3 (of_decide_eq_false hb)
                · exact ha2 ⟨j, a2, w2, d2, by omega, hj2, hj3⟩
            · rintro ls H8 e8 hls hlsl ⟨hl1, hl2⟩
              have hlne : ls ≠ [] := by
                obtain ⟨j, a, w1, d1, z1, z2⟩ := hns last hlast
                obtain ⟨hj, _⟩ := List.getElem?_eq_some_iff.mp z1
                exact hl2 ⟨j, a, w1, d1, hj, z1, e7 _ _ z2⟩
              obtain ⟨ini, lv, rfl⟩ := snoc_of ls hlne
              obtain ⟨a, w1, d1, ev, rfl, q1⟩ := hl1 lv (by simp)
              refine ⟨_, rfl, D3, _, -1, .ref a, rfl, rfl, SqL.of hls, atI_last _ _, ?_⟩
              refine ⟨a, _, rfl, SqT.of (e8 _ _ q1), rfl, _, _, rfl, _, _, rfl, _, _, rfl, rfl, ?_⟩
              exact ⟨_, rfl, _, rfl, sz3, fun t ht => kf _ t w1 ev ((e16.trans (e7.trans e8)).trans (Same.new ht)) upd_same⟩
        · have hy : zs.isEmpty = false := by
            cases zs with
            | nil => exact absurd rfl hzs
            | cons _ _ => rfl
          rw [hy]
          refine iteT ?_
          have kt : ∀ (H' : Hp) (t : Addr) (w2 w3 : V), Same H H' → H' t = some (.tup [.str "stands", w2, w3]) → Q (.ref t) H' := fun H' t w2 w3 e ht => k H' t w2 w3 e (by
            have : verdB s rs pages p day = true := by
              rw [verdB, hmis]
              have : (rs.any fun rd => !overB rd pages day) = true := by
                obtain ⟨rd, hrd⟩ : ∃ rd, rd ∈ rs.filter fun rd => !overB rd pages day := by
                  cases hf : rs.filter fun rd => !overB rd pages day with
                  | nil =>
                    rw [hf] at hallh
                    exact absurd (List.eq_nil_of_length_eq_zero hallh.len) hzs
                  | cons a b => exact ⟨a, by simp⟩
                exact List.any_eq_true.mpr ⟨rd, (List.mem_filter.mp hrd).1, (List.mem_filter.mp hrd).2⟩
              rw [this]
              rfl
            rw [this]
            exact ht)
          obtain ⟨ini, lv, rfl⟩ := snoc_of zs hzs
          obtain ⟨rd, _, a, ev, rfl, q1, q2⟩ := hallh.get (i := ini.length) (v := lv) (by simp)
          refine ⟨szn (n := 1) (by decide), fun t1 ht1 => ?_⟩
          have e67 : Same H5 (upd (upd H5 q3 (.lst [])) t1 (.tup [.str "stands"])) := e56.trans (Same.new ht1)
          refine ⟨_, rfl, _, rfl, D, _, -1, .ref a, rfl, rfl, SqL.of (e67 _ _ hz), atI_last _ _, ?_⟩
          dsimp only [tNoPart, tPart, tC]
          refine ⟨_, rfl, sl_to 2 (e67 _ _ q1) (show 2 < 3 by decide) fun t2 H7 e7 ht2 => ?_⟩
          refine ⟨t1, t2, _, _, rfl, rfl, SqT.of (e7 _ _ upd_same), SqT.of ht2, szn (n := 3) (by simp), fun z => by (cases z), fun _ z => by (cases z), fun _ _ t3 ht3 => ?_⟩
          exact kt _ t3 (.str rd.word) (.int rd.pg.day) (e15.trans ((e67.trans e7).trans (Same.new ht3))) upd_same
end
end Wk
end

section
set_option Elab.async false
set_option linter.all false
set_option maxRecDepth 100000
/-! the draws of the law -/
namespace Wk
open PySem PySem.Spec L2 RZ
def stK (ca la : Addr) (k : Int) : List (Key × V) := [(Sum.inr "cells", .ref ca), (Sum.inr "left", .ref la), (Sum.inr "at", .int k)]
structure StAt (H : Hp) (md la ca : Addr) (B : Int) : Prop where
  ex : ca ≠ la ∧ ∃ (ls cs : List Int) (k : Int), H md = some (.dK (stK ca la k)) ∧ H la = some (.lst (ls.map V.int)) ∧ H ca = some (.lst (cs.map V.int)) ∧ cs.length = 64 ∧ (∀ c ∈ cs, 0 ≤ c ∧ c < 2147483647) ∧ ls.length ≤ 64 ∧ 0 ≤ k ∧ k ≤ B
theorem StAt.le {H : Hp} {md la ca : Addr} {B B' : Int} (h : StAt H md la ca B) (e : B ≤ B') : StAt H md la ca B' := by
  obtain ⟨hcl, ls, cs, k, h1, h2, h3, h4, h5, h6, h7, h8⟩ := h
  exact ⟨hcl, ls, cs, k, h1, h2, h3, h4, h5, h6, h7, by omega⟩
abbrev DS (md la : Addr) := SBut (fun a => a = md ∨ a = la)
theorem StAt.same {H H' : Hp} {md la ca : Addr} {B : Int} (e : Same H H') (h : StAt H md la ca B) : StAt H' md la ca B := by
  obtain ⟨hcl, ls, cs, k, h1, h2, h3, h4⟩ := h
  exact ⟨hcl, ls, cs, k, e _ _ h1, e _ _ h2, e _ _ h3, h4⟩
theorem StAt.is {H H' : Hp} {md la ca : Addr} {B : Int} (h : StAt H md la ca B) (e : DS md la H H') : ISame H H' := by
  obtain ⟨hcl, ls, cs, k, h1, h2, h3, h4⟩ := h
  refine ⟨fun a xs q => e a _ (fun z => ?_) q, fun a C dx fs q => e a _ (fun z => ?_) q⟩
  · rcases z with rfl | rfl
    · rw [h1] at q; cases q
    · rw [h2] at q; cases q
  · rcases z with rfl | rfl
    · rw [h1] at q; cases q
    · rw [h2] at q; cases q
theorem StAt.here {H : Hp} {md la ca : Addr} {B : Int} (h : StAt H md la ca B) : ∀ a, (a = md ∨ a = la) → ∃ o, H a = some o := by
  obtain ⟨hcl, ls, cs, k, h1, h2, h3, h4⟩ := h
  rintro a (rfl | rfl)
  · exact ⟨_, h1⟩
  · exact ⟨_, h2⟩
theorem StAt.free {H : Hp} {md la ca a : Addr} {B : Int} (h : StAt H md la ca B) (ha : H a = none) : ¬ (a = md ∨ a = la) := fun z => by
  obtain ⟨o, q⟩ := h.here a z
  rw [ha] at q
  cases q
theorem StAt.upd {H : Hp} {md la ca a : Addr} {B : Int} {o : HO} (h : StAt H md la ca B) (h1 : a ≠ md) (h2 : a ≠ la) (h3 : a ≠ ca) : StAt (upd H a o) md la ca B := by
  obtain ⟨hcl, ls, cs, k, q1, q2, q3, q4⟩ := h
  exact ⟨hcl, ls, cs, k, by rw [upd_ne h1.symm]; exact q1, by rw [upd_ne h2.symm]; exact q2, by rw [upd_ne h3.symm]; exact q3, q4⟩
theorem SqL.same {K : PySem.W.Frag} {H H' : Hp} {a : Addr} {xs : List V} (e : Same H H') (h : SqL K H a xs) : SqL K H' a xs := by
  rcases h with h | h
  · refine .inl ?_
    rcases h with h | ⟨o, h⟩
    · exact .inl (e _ _ h)
    · exact .inr ⟨o, e _ _ h⟩
  · exact .inr h
theorem st_at {ca la : Addr} {k : Int} : valV (stK ca la k) (Sum.inr "at") = some (.int k) := rfl
theorem st_left {ca la : Addr} {k : Int} : valV (stK ca la k) (Sum.inr "left") = some (.ref la) := rfl
theorem st_cells {ca la : Addr} {k : Int} : valV (stK ca la k) (Sum.inr "cells") = some (.ref ca) := rfl
theorem st_put {ca la : Addr} {k j : Int} : putK (stK ca la k) (Sum.inr "at") (.int j) = stK ca la j := rfl
theorem dg {H : Hp} {a : Addr} {kvs : List (Key × V)} {z : Str} {v : V} (h : H a = some (.dK kvs)) (e : valV kvs (Sum.inr z) = some v) : DGet H a (.str z) (some v) := by
  rw [← e]
  exact DGet.k (k := Sum.inr z) h
def sp_mixed : Sp := fun vs H Q _ => ∃ c k : Int, vs = [.int c, .int k] ∧ 0 ≤ c ∧ c < 2 ^ 40 ∧ 0 ≤ k ∧ k < 2 ^ 21 ∧ ∀ v : Int, 0 ≤ v → v < 2 ^ 31 → Q (.int v) H
def sp_folded (K : PySem.W.Frag) : Sp := fun vs H Q _ => ∃ (a : Addr) (ns : List Int), vs = [.ref a] ∧ SqL K H a (ns.map V.int) ∧ ns.length ≤ 63 ∧ ∀ (H' : Hp) (p : Addr) (cs : List Int), Same H H' → H p = none → H' p = some (.lst (cs.map V.int)) → cs.length = 64 → (∀ c ∈ cs, 0 ≤ c ∧ c < 2147483647) → Q (.ref p) H'
def sp_draw : Sp := fun vs H Q _ => ∃ (md la ca : Addr) (B many : Int), vs = [.ref md, .int many] ∧ StAt H md la ca B ∧ 1 ≤ many ∧ many < 1073741824 ∧ B + 1 ≤ 2 ^ 20 ∧ ∀ (H' : Hp) (r : Int), DS md la H H' → StAt H' md la ca (B + 1) → 0 ≤ r → r < many → Q (.int r) H'
def sp_begun (K : PySem.W.Frag) : Sp := fun vs H Q _ => ∃ (a : Addr) (ns : List Int), vs = [.ref a] ∧ SqL K H a (ns.map V.int) ∧ ns.length ≤ 63 ∧ ∀ (H' : Hp) (md la ca : Addr), Same H H' → StAt H' md la ca 0 → Q (.ref md) H'
theorem shp_ints (ns : List Int) : SeqAt.shaped (.list (ns.map PyData.int)) = true := by
  have h : ∀ ns : List Int, PyData.canLayAll0 (ns.map PyData.int) = true ∧ PyData.depthAll (ns.map PyData.int) = 0 := fun ns => by
    induction ns with
    | nil => simp [PyData.canLayAll0, PyData.depthAll]
    | cons a r ih => simp [PyData.canLayAll0, PyData.depthAll, PyData.canLay0, PyData.depth, ih.1, ih.2]
  unfold SeqAt.shaped
  rw [Bool.and_eq_true]
  exact ⟨by simpa [PyData.canLay0] using (h ns).1, decide_eq_true (by simp [PyData.depth, (h ns).2])⟩
theorem dp_ints {K : PySem.W.Frag} {H : Hp} : ∀ ns : List Int, DpAll K H (ns.map V.int) (ns.map PyData.int)
  | [] => .nil
  | a :: r => .cons (.int a) (dp_ints r)
theorem idx {cs : List Int} {i : Int} (h0 : 0 ≤ i) (h1 : i < cs.length) : ∃ j c, ixN (cs.map V.int).length i = some j ∧ cs[j]? = some c ∧ atI (cs.map V.int) i = some (.int c) := by
  have hj : i.toNat < cs.length := by omega
  have e : ixN (cs.map V.int).length i = some i.toNat := by
    unfold ixN
    rw [if_pos h0, List.length_map, if_pos h1]
  refine ⟨i.toNat, cs[i.toNat], e, by simp [hj], ?_⟩
  unfold atI
  rw [e]
  simp [hj]
theorem map_set (cs : List Int) (j : Nat) (x : Int) : (cs.map V.int).set j (.int x) = (cs.set j x).map V.int := by rw [List.map_set]
theorem mem_set {cs : List Int} {j : Nat} {x : Int} {p : Int → Prop} (h : ∀ c ∈ cs, p c) (hx : p x) : ∀ c ∈ cs.set j x, p c := fun c hc => by
  rcases List.mem_or_eq_of_mem_set hc with hc | rfl
  · exact h c hc
  · exact hx
section
variable {P : Program} {w : World} {K : PySem.W.Frag} {mg : Str → Option Value} {base : Heap}
theorem c_law_mixed (T : Tx w K mg) : C8.Cal P w K mg base 1 "_law_mixed" sp_mixed [] := by
  obtain ⟨fd, F⟩ := T.F_law_mixed
  refine ⟨_, fd, ["_law_cell", "_law_k"], [], F.ok sc_law_mixed (fun vs H Q E h => ?_) (fun cdv A outer s H vs Q E hr h => ?_), T.g_law_mixed, F.kp, F.bindsN fun _ _ _ _ _ _ us hl => match us, hl with | [_, _], _ => rfl, .nil⟩
  · obtain ⟨x, k, rfl, _⟩ := h
    rfl
  · obtain ⟨c, k, rfl, c1, c2, k1, k2, q⟩ := h
    refine ⟨_, PSs.nox (pss_cons (ps_set (i := 2) sc_law_mixed.nd rfl (Or.inl rfl) (pe_op op_add (pe_op op_add (pe_op op_mod (pe_op op_mul (pe_op op_mul (pv 0) (pe_op op_add pe_int (pe_op op_mul pe_int (pv 1)))) pe_int) pe_int) (pe_op op_mul (pe_op op_mul pe_int (pv 1)) (pv 1))) (pe_op op_mul pe_int (pv 1))))
      (pss_one (ps_ret (pe_op op_fdiv (pe_op op_mod (pe_op op_mul (pv 2) pe_int) pe_int) pe_int)))), ?_⟩
    refine ⟨_, rfl, _, rfl, _, _, rfl, rfl, .inl (by decide), _, _, rfl, rfl, _, _, rfl, rfl, .inl ⟨by omega, by omega⟩, _, _, rfl, rfl, .inr (by decide), _, _, rfl, rfl, (show (0 : Int) < 2147483647 by decide), ?_⟩
    refine ⟨_, rfl, _, _, rfl, rfl, .inl (by decide), _, rfl, _, _, rfl, rfl, .inr ⟨by omega, by omega⟩, _, _, rfl, rfl, ?_⟩
    refine ⟨_, rfl, _, _, rfl, rfl, .inl (by decide), _, _, rfl, rfl, ?_⟩
    refine ⟨_, rfl, _, _, rfl, rfl, .inr (by decide), _, _, rfl, rfl, (show (0 : Int) < 2147483629 by decide), _, _, rfl, rfl, ⟨by decide, by decide⟩, ?_⟩
    exact q _ (by omega) (by omega)
theorem c_law_folded (T : Tx w K mg) : C8.Cal P w K mg base 1 "_law_folded" (sp_folded K) [] := by
  obtain ⟨fd, F⟩ := T.F_law_folded
  refine ⟨_, fd, ["_law_script"], [], F.ok sc_law_folded (fun vs H Q E h => ?_) (fun cdv A outer s H vs Q E hr h => ?_), T.g_law_folded, F.kp, F.bindsN fun _ _ _ _ _ _ us hl => match us, hl with | [_], _ => rfl, .nil⟩
  · obtain ⟨x, k, rfl, _⟩ := h
    rfl
  · obtain ⟨a, ns, rfl, hs, hl, q⟩ := h
    refine ⟨_, PSs.nox (pss_cons (ps_setLc (i := 1) (own := [("_law_k", 2)]) (g := gName 2) (by rfl) sc_law_folded.nd rfl rfl (sw_true rfl rfl rfl (by decide +kernel)) (pi_range1 rfl T.f_range (pa_cons pe_int pa_nil)) (blkOk_by (own := [("_law_k", 2)]) (N := N_law_folded) (sc := defScope s_law_folded) (by decide +kernel)) (fun _ _ _ _ _ => (pg_name (i := 2) sc_law_folded.nd rfl (Or.inl rfl))) (fun _ _ _ _ _ => pts_nil) (fun _ _ _ _ _ => (pe_op op_add pe_int (pv 2))))
      (pss_cons (ps_for PassesOwn.never rfl (pi_enum (by rfl) T.f_enumerate (pa_cons (pv 0) pa_nil)) (pg_tup rfl (pgs_cons (pg_name (i := 2) sc_law_folded.nd rfl (Or.inl rfl)) (pgs_cons (pg_name (i := 3) sc_law_folded.nd rfl (Or.inl rfl)) pgs_nil))) (pss_one (ps_asg (pe_op op_mod (pe_op op_add (pe_op op_mul (pe_ix ix_list (pv 1) (pe_op op_mod (pv 2) pe_int) (fun _ _ => rfl)) pe_int) (pv 3)) pe_int) (pg_sub (pv 1) (pe_op op_mod (pv 2) pe_int) set_list))))
      (pss_cons (ps_for PassesOwn.never rfl (pi_range2 rfl T.f_range (pa_cons pe_int (pa_cons pe_int pa_nil))) (pg_name (i := 2) sc_law_folded.nd rfl (Or.inl rfl)) (pss_one (ps_asg (pe_op op_mod (pe_op op_add (pe_ix ix_list (pv 1) (pv 2) (fun _ _ => rfl)) (pe_op op_mul (pe_ix ix_list (pv 1) (pe_op op_sub (pv 2) pe_int) (fun _ _ => rfl)) pe_int)) pe_int) (pg_sub (pv 1) (pv 2) set_list))))
      (pss_one (ps_ret (pv 1)))))), ?_⟩
    refine ⟨_, rfl, by decide, by decide, fun D hD => ?_⟩
    refine lc_p (walk_range (lo := 0) (n := 64)) (fun i acc H' => ∃ cs : List Int, acc = cs.map V.int ∧ cs.length = i ∧ ∀ c ∈ cs, 0 ≤ c ∧ c < 2147483647) (by decide) hD (fun _ _ _ _ _ p => p) ⟨[], rfl, rfl, fun _ z => by cases z⟩ (fun _ _ => trivial) ?_ ?_
    · rintro i acc v Ha Hb hi hal e ⟨cs, rfl, hc, hb⟩ ⟨rfl, rfl⟩ Qt Qf kt kf
      refine ⟨rfl, _, rfl, _, _, rfl, rfl, kt _ _ (Same.refl _) ⟨cs ++ [17 + (0 + (i : Int))], by simp, by simp [hc], fun c hc' => ?_⟩⟩
      rcases List.mem_append.mp hc' with hc' | hc'
      · exact hb c hc'
      · rw [List.mem_singleton.mp hc']
        omega
    · rintro zs H1 e1 hz _ ⟨cs, rfl, hc, hb⟩
      have stp : ∀ {H' H2 : Hp} {x : List V}, Same H H' → Same H (upd H' D (.lst x)) := fun e => Same.mut e hD
      refine ⟨_, rfl, a, _, rfl, SqL.same e1 hs, ?_⟩
      refine for_it (walk_enum (K := K) (a := a) (xs := ns.map V.int)) (fun i σ H' => ∃ x y cs, σ = [some (.ref a), some (.ref D), x, y] ∧ Same H H' ∧ H' D = some (.lst (cs.map V.int)) ∧ cs.length = 64 ∧ ∀ c ∈ cs, 0 ≤ c ∧ c < 2147483647) ⟨_, _, cs, rfl, e1, hz, hc, hb⟩ (fun i σ H' _ ⟨_, _, _, _, e, _⟩ => SqL.same e hs) ?_ ?_
      · rintro i v σ Ha Hb hi ⟨x0, y0, cs, rfl, e, hz, hc, hb⟩ ⟨T0, x, y, rfl, hT, rfl, hx, hy⟩
        cases hx
        obtain ⟨m, rfl⟩ : ∃ m : Int, y = .int m := by
          have hy' : (ns.map V.int)[i]? = some y := hy
          rw [List.getElem?_map] at hy'
          cases hn : ns[i]? with
          | none => rw [hn] at hy'; cases hy'
          | some m => rw [hn] at hy'; exact ⟨m, (Option.some.inj hy').symm⟩
        have hz2 : (upd Ha T0 (.tup [.int (i : Nat), .int m])) D = some (.lst (cs.map V.int)) := by rw [upd_ne (ne_of_none hz hT)]; exact hz
        obtain ⟨j, c, j1, j2, j3⟩ := idx (cs := cs) (i := (i : Int) % 64) (by omega) (by omega)
        refine ⟨T0, _, rfl, SqT.of upd_same, rfl, _, _, rfl, _, _, rfl, rfl, ?_⟩
        refine ⟨_, rfl, _, rfl, _, _, rfl, rfl, (show (0 : Int) < 64 by decide), D, _, _, _, rfl, rfl, SqL.of hz2, j3, _, _, rfl, rfl, .inr (by decide), _, rfl, _, _, rfl, rfl, _, _, rfl, rfl, (show (0 : Int) < 2147483647 by decide), ?_⟩
        refine ⟨_, rfl, _, rfl, _, _, rfl, rfl, (show (0 : Int) < 64 by decide), D, _, _, j, rfl, rfl, hz2, j1, ?_⟩
        refine ⟨_, _, cs.set j ((c * 48271 + m) % 2147483647), rfl, Same.mut (e.trans (Same.new hT)) hD, by rw [upd_same, map_set], by simp [hc], mem_set hb (by omega)⟩
      · rintro σ H2 ⟨x0, y0, cs, rfl, e2, hz, hc, hb⟩
        refine ⟨_, _, rfl, ⟨by decide, by decide, by decide, by decide⟩, ?_⟩
        refine for_it (walk_range (lo := 1) (n := 63)) (fun i σ H' => ∃ x cs, σ = [some (.ref a), some (.ref D), x, y0] ∧ Same H H' ∧ H' D = some (.lst (cs.map V.int)) ∧ cs.length = 64 ∧ ∀ c ∈ cs, 0 ≤ c ∧ c < 2147483647) ⟨_, cs, rfl, e2, hz, hc, hb⟩ (fun _ _ _ _ _ => trivial) ?_ ?_
        · rintro i v σ Ha Hb hi ⟨x0, cs, rfl, e, hz, hc, hb⟩ ⟨rfl, rfl⟩
          obtain ⟨j, c, j1, j2, j3⟩ := idx (cs := cs) (i := 1 + (i : Int)) (by omega) (by omega)
          obtain ⟨j', c', j1', j2', j3'⟩ := idx (cs := cs) (i := 1 + (i : Int) - 1) (by omega) (by omega)
          refine ⟨_, rfl, _, rfl, D, _, _, _, rfl, rfl, SqL.of hz, j3, _, rfl, _, rfl, _, _, rfl, rfl, D, _, _, _, rfl, rfl, SqL.of hz, j3', _, _, rfl, rfl, .inr (by decide), _, _, rfl, rfl, _, _, rfl, rfl, (show (0 : Int) < 2147483647 by decide), ?_⟩
          refine ⟨_, rfl, _, rfl, D, _, _, j, rfl, rfl, hz, j1, ?_⟩
          refine ⟨_, cs.set j ((c + c' * 16807) % 2147483647), rfl, Same.mut e hD, by rw [upd_same, map_set], by simp [hc], mem_set hb (by omega)⟩
        · rintro σ H3 ⟨x0, cs, rfl, e3, hz, hc, hb⟩
          exact ⟨_, rfl, q H3 D cs e3 hD hz hc hb⟩
theorem c_law_draw (T : Tx w K mg) : C8.Cal P w K mg base 2 "_law_draw" sp_draw [] := by
  obtain ⟨fd, F⟩ := T.F_law_draw
  refine ⟨_, fd, ["_law_m", "_law_many"], [], F.ok sc_law_draw (fun vs H Q E h => ?_) (fun cdv A outer s H vs Q E hr h => ?_), T.g_law_draw, F.kp, F.bindsN fun _ _ _ _ _ _ us hl => match us, hl with | [_, _], _ => rfl, .nil⟩
  · obtain ⟨x, k, a, b, c, rfl, _⟩ := h
    rfl
  · obtain ⟨md, la, ca, B, many, rfl, ⟨hcl, ls, cs, k, h1, h2, h3, h4, h5, h6, h7, h8⟩, m1, m2, hB, q⟩ := h
    have hu := hu_of hr
    have nml : la ≠ md := (ne_of h1 h2 (fun z => by cases z)).symm
    have nmc : ca ≠ md := (ne_of h1 h3 (fun z => by cases z)).symm
    refine ⟨_, PSs.nox (pss_cons (ps_set (i := 2) sc_law_draw.nd rfl (Or.inl rfl) (pe_dget hu (pv 0) pe_str (fun _ _ => rfl)))
      (pss_cons (ps_dput hu (pv 0) pe_str (pe_op op_add (pv 2) pe_int) rfl)
      (pss_cons (ps_if (pt_cmpR (op_neD hr.units) (pe_dget hu (pv 0) pe_str (fun _ _ => rfl)) (pe_lst pa_nil) (nomark _)) (pss_cons (ps_set (i := 3) sc_law_draw.nd rfl (Or.inl rfl) (pe_op op_mod (pv 2) (pe_callB call_len_seq (by rfl) T.f_len (by decide +kernel) (pa_cons (pe_dget hu (pv 0) pe_str (fun _ _ => rfl)) pa_nil))))
        (pss_cons (ps_set (i := 4) sc_law_draw.nd rfl (Or.inl rfl) (pe_ix ix_list (pe_dget hu (pv 0) pe_str (fun _ _ => rfl)) (pv 3) (fun _ _ => rfl)))
        (pss_one (ps_if (pt_cmpR op_gt (pv 4) pe_int (nomark _)) (pss_cons (ps_asg (pe_op op_fdiv (pv 4) (pv 1)) (pg_sub (pe_dget hu (pv 0) pe_str (fun _ _ => rfl)) (pv 3) set_list))
          (pss_one (ps_ret (pe_op op_mod (pv 4) (pv 1))))) pss_nil)))) pss_nil)
      (pss_one (ps_ret (pe_op op_mod (C8.pe_c (c_law_mixed T) hr (by decide) rfl (pa_cons (C8.pe_c (c_law_mixed T) hr (by decide) rfl (pa_cons (pe_op op_add (pe_ix ix_list (pe_dget hu (pv 0) pe_str (fun _ _ => rfl)) (pe_op op_mod (pv 2) pe_int) (fun _ _ => rfl)) (pe_op op_mul pe_int (pe_op op_fdiv (pv 2) pe_int))) (pa_cons (pv 2) pa_nil))) (pa_cons (pe_op op_add (pv 2) pe_int) pa_nil))) (pv 1))))))), ?_⟩
    refine ⟨_, rfl, md, _, rfl, dg h1 st_at, ?_⟩
    refine ⟨_, rfl, _, _, rfl, rfl, _, rfl, md, _, rfl, DPut.k (k := Sum.inr "at") h1 (show 3 < sizeLine by decide), ?_⟩
    rw [st_put]
    have g1 : (upd H md (.dK (stK ca la (k + 1)))) md = some (.dK (stK ca la (k + 1))) := upd_same
    have g2 : (upd H md (.dK (stK ca la (k + 1)))) la = some (.lst (ls.map V.int)) := by rw [upd_ne nml]; exact h2
    have g3 : (upd H md (.dK (stK ca la (k + 1)))) ca = some (.lst (cs.map V.int)) := by rw [upd_ne nmc]; exact h3
    have d1 : DS md la H (upd H md (.dK (stK ca la (k + 1)))) := fun a o n ha => by rw [upd_ne (fun z => n (.inl z))]; exact ha
    generalize upd H md (.dK (stK ca la (k + 1))) = H1 at *
    have rest : ∀ (H2 : Hp), DS md la H H2 → H2 md = some (.dK (stK ca la (k + 1))) → H2 la = some (.lst (ls.map V.int)) → H2 ca = some (.lst (cs.map V.int)) → ∀ v : Int, Q (.int (v % many)) H2 := fun H2 d2 z1 z2 z3 v => by
      have p1 := Int.emod_nonneg v (show many ≠ 0 by omega)
      have p2 := Int.emod_lt_of_pos v (show 0 < many by omega)
      exact q H2 _ d2 ⟨hcl, ls, cs, k + 1, z1, z2, z3, h4, h5, h6, by omega, by omega⟩ p1 p2
    refine ⟨_, rfl, md, .ref la, rfl, dg g1 st_left, szn (Nat.zero_le _), fun p hp => ?_⟩
    have e1 : Same H1 (upd H1 p (.lst [])) := Same.new hp
    have d2 : DS md la H (upd H1 p (.lst [])) := d1.trans (SBut.of e1)
    have z1 := e1 _ _ g1
    have z2 := e1 _ _ g2
    have z3 := e1 _ _ g3
    refine ⟨.list (ls.map PyData.int), _, .lst (SqL.of z2) (dp_ints ls), .lst (SqL.of upd_same) .nil, shp_ints ls, shp_nil, _, rfl, ?_⟩
    rw [eqv_nil]
    generalize upd H1 p (.lst []) = H2 at *
    cases ls with
    | nil =>
      refine iteF ?_
      obtain ⟨j, c, j1, j2, j3⟩ := idx (cs := cs) (i := k % 64) (by omega) (by omega)
      have hc := h5 c (List.mem_of_getElem? j2)
      refine ⟨_, rfl, md, .ref ca, rfl, dg z1 st_cells, _, rfl, _, _, rfl, rfl, (show (0 : Int) < 64 by decide), ca, _, _, _, rfl, rfl, SqL.of z3, j3, ?_⟩
      refine ⟨_, rfl, _, _, rfl, rfl, ⟨by decide, by decide⟩, _, _, rfl, rfl, .inl (by decide), _, _, rfl, rfl, _, rfl, c + 31 * (k / 64), k, rfl, by omega, by omega, by omega, by omega, fun v v1 v2 => ?_⟩
      exact ⟨_, rfl, _, _, rfl, rfl, v, k + 7, rfl, v1, by omega, by omega, by omega, fun u u1 u2 => ⟨_, rfl, _, _, rfl, rfl, (show 0 < many by omega), rest _ d2 z1 z2 z3 u⟩⟩
    | cons l0 lr =>
      refine iteT ?_
      obtain ⟨j, c, j1, j2, j3⟩ := idx (cs := l0 :: lr) (i := k % (((l0 :: lr).map V.int).length : Int)) (Int.emod_nonneg _ (by simp <;> omega)) (by have := Int.emod_lt_of_pos k (show 0 < (((l0 :: lr).map V.int).length : Int) by simp <;> omega); simpa using this)
      refine ⟨_, rfl, _, rfl, md, .ref la, rfl, dg z1 st_left, la, _, rfl, .inl (SqL.of z2), _, _, rfl, rfl, (by simp <;> omega), ?_⟩
      refine ⟨_, rfl, md, .ref la, rfl, dg z1 st_left, _, rfl, la, _, _, _, rfl, rfl, SqL.of z2, j3, ?_⟩
      refine ⟨_, rfl, _, _, rfl, rfl, _, rfl, ite2b (fun hb => ?_) (fun hb => ?_)⟩
      · refine ⟨_, rfl, _, rfl, _, _, rfl, rfl, ⟨by omega, by omega⟩, _, rfl, md, .ref la, rfl, dg z1 st_left, _, rfl, la, _, _, j, rfl, rfl, z2, j1, ?_⟩
        refine ⟨_, rfl, _, rfl, _, _, rfl, rfl, (show 0 < many by omega), ?_⟩
        have p1 := Int.emod_nonneg c (show many ≠ 0 by omega)
        have p2 := Int.emod_lt_of_pos c (show 0 < many by omega)
        refine q _ _ (d2.trans fun a o n ha => by rw [upd_ne (fun z => n (.inr z))]; exact ha) ⟨hcl, (l0 :: lr).set j (c / many), cs, k + 1, by rw [upd_ne (ne_of z1 z2 (fun z => by cases z))]; exact z1, by rw [upd_same, map_set], ?_, h4, h5, by simpa using h6, by omega, by omega⟩ p1 p2
        rw [upd_ne hcl]
        exact z3
      · obtain ⟨j, c, j1, j2, j3⟩ := idx (cs := cs) (i := k % 64) (by omega) (by omega)
        have hc := h5 c (List.mem_of_getElem? j2)
        refine ⟨_, rfl, md, .ref ca, rfl, dg z1 st_cells, _, rfl, _, _, rfl, rfl, (show (0 : Int) < 64 by decide), ca, _, _, _, rfl, rfl, SqL.of z3, j3, ?_⟩
        refine ⟨_, rfl, _, _, rfl, rfl, ⟨by decide, by decide⟩, _, _, rfl, rfl, .inl (by decide), _, _, rfl, rfl, _, rfl, c + 31 * (k / 64), k, rfl, by omega, by omega, by omega, by omega, fun v v1 v2 => ?_⟩
        exact ⟨_, rfl, _, _, rfl, rfl, v, k + 7, rfl, v1, by omega, by omega, by omega, fun u u1 u2 => ⟨_, rfl, _, _, rfl, rfl, (show 0 < many by omega), rest _ d2 z1 z2 z3 u⟩⟩
theorem c_law_begun (T : Tx w K mg) : C8.Cal P w K mg base 2 "_law_begun" (sp_begun K) [] := by
  obtain ⟨fd, F⟩ := T.F_law_begun
  refine ⟨_, fd, ["_law_script"], [], F.ok sc_law_begun (fun vs H Q E h => ?_) (fun cdv A outer s H vs Q E hr h => ?_), T.g_law_begun, F.kp, F.bindsN fun _ _ _ _ _ _ us hl => match us, hl with | [_], _ => rfl, .nil⟩
  · obtain ⟨x, k, rfl, _⟩ := h
    rfl
  · obtain ⟨a, ns, rfl, hs, hl, q⟩ := h
    have hu := hu_of hr
    refine ⟨_, PSs.nox (pss_cons (ps_set (i := 1) sc_law_begun.nd rfl (Or.inl rfl) (pe_disp (pps_cons pe_str (C8.pe_c (c_law_folded T) hr (by decide) rfl (pa_cons (pv 0) pa_nil)) (pps_cons pe_str (pe_lst pa_nil) (pps_cons pe_str pe_int pps_nil))) (by rfl) (by rfl) (fun z => by cases z) (by decide)))
      (pss_cons (ps_dput hu (pv 1) pe_str (pe_lc (own := [("_law_cell", 2)]) (g := gName 2) rfl sc_law_begun.nd (pi_list (pv 0)) (blkOk_by (own := [("_law_cell", 2)]) (N := N_law_begun) (sc := defScope s_law_begun) (by decide +kernel)) (fun _ _ _ _ _ => (pg_name (i := 2) sc_law_begun.nd rfl (Or.inl rfl))) (fun _ _ _ _ _ => pts_nil) (fun _ _ _ _ _ => (pe_ifExp (pt_cmpR op_ge (pv 2) (pe_op op_pow pe_int pe_int) (nomark _)) (pv 2) pe_int))) rfl)
      (pss_one (ps_ret (pv 1))))), ?_⟩
    refine fun md hmd => ⟨_, rfl, a, ns, rfl, SqL.same (Same.new hmd) hs, hl, fun H1 ca cs e1 hca0 hca hcl hcb => ?_⟩
    have e01 : Same H H1 := (Same.new hmd).trans e1
    have hm1 := e1 _ _ (upd_same (H := H) (a := md) (o := .dK []))
    refine ⟨szn (Nat.zero_le _), fun la0 hla0 => ?_⟩
    have hm2 : (upd H1 la0 (.lst [])) md = some (.dK []) := by rw [upd_ne (ne_of_none hm1 hla0)]; exact hm1
    refine ⟨hm2, [(Sum.inr "cells", .ref ca), (Sum.inr "left", .ref la0), (Sum.inr "at", .int 0)], rfl, (show 3 ≤ 15 by decide), ?_⟩
    have em : mergeK [] [((Sum.inr "cells" : Key), V.ref ca), (Sum.inr "left", .ref la0), (Sum.inr "at", .int 0)] = stK ca la0 0 := rfl
    rw [em]
    have e2 : Same H (upd (upd H1 la0 (.lst [])) md (.dK (stK ca la0 0))) := Same.mut (e01.trans (Same.new hla0)) hmd
    have hca2 : (upd (upd H1 la0 (.lst [])) md (.dK (stK ca la0 0))) ca = some (.lst (cs.map V.int)) := by
      rw [upd_ne (ne_of hca hm1 (fun z => by cases z)), upd_ne (ne_of_none hca hla0)]
      exact hca
    have hm3 : (upd (upd H1 la0 (.lst [])) md (.dK (stK ca la0 0))) md = some (.dK (stK ca la0 0)) := upd_same
    generalize upd (upd H1 la0 (.lst [])) md (.dK (stK ca la0 0)) = H2 at *
    refine ⟨_, rfl, a, rfl, ⟨_, SqL.same e2 hs⟩, fun D hD => ?_⟩
    refine lc_p (walk_list (K := K) (a := a) (xs := ns.map V.int)) (fun i acc H' => ∃ ls : List Int, acc = ls.map V.int ∧ ls.length = i) (by simp; omega) hD (fun _ _ _ _ _ p => p) ⟨[], rfl, rfl⟩ (fun H' e => SqL.same (e2.trans e) hs) ?_ ?_
    · rintro i acc v Ha Hb hi hal e ⟨ls, rfl, hc⟩ ⟨rfl, hx⟩ Qt Qf kt kf
      obtain ⟨m, rfl⟩ : ∃ m : Int, v = .int m := by
        rw [List.getElem?_map] at hx
        cases hn : ns[i]? with
        | none => rw [hn] at hx; cases hx
        | some m => rw [hn] at hx; exact ⟨m, (Option.some.inj hx).symm⟩
      refine ⟨rfl, _, rfl, _, _, rfl, rfl, ⟨by decide, by decide, by decide⟩, _, _, rfl, rfl, _, rfl, ite2b (fun _ => ?_) (fun _ => ?_)⟩
      · exact ⟨_, rfl, kt _ _ (Same.refl _) ⟨ls ++ [m], by simp, by simp [hc]⟩⟩
      · exact kt _ _ (Same.refl _) ⟨ls ++ [0], by simp, by simp [hc]⟩
    · rintro zs H3 e3 hz hzl ⟨ls, rfl, hc⟩
      have hm4 := e3 _ _ hm3
      refine ⟨_, rfl, md, _, rfl, DPut.k (k := Sum.inr "left") hm4 (show 3 < sizeLine by decide), ?_⟩
      have ep : putK (stK ca la0 0) (Sum.inr "left") (.ref D) = stK ca D 0 := rfl
      rw [ep]
      have ndm : D ≠ md := ne_of hz hm4 (fun z => by cases z)
      have ncd : ca ≠ D := fun z => by rw [z, hD] at hca2; cases hca2
      refine ⟨_, rfl, q _ md D ca (Same.mut (e2.trans e3) hmd) ⟨ncd, ls, cs, 0, upd_same, ?_, ?_, hcl, hcb, by rw [hc]; simp; omega, by decide, by decide⟩⟩
      · rw [upd_ne ndm]; exact hz
      · rw [upd_ne (ne_of hca2 hm3 (fun z => by cases z))]
        exact e3 _ _ hca2
end
end Wk
end

section
set_option Elab.async false
set_option linter.all false
set_option maxRecDepth 100000
/-! the names that the law makes: the plain part -/
namespace Wk
open PySem PySem.Spec L2 RZ
def mkS (l : List Nat) : Str := ⟨l.toArray⟩
theorem mkS_cps (l : List Nat) : (mkS l).cps.toList = l := by simp [mkS]
theorem mkS_len (l : List Nat) : (mkS l).length = l.length := by simp [mkS, Str.length]
theorem mkS_app (a b : List Nat) : mkS a ++ mkS b = mkS (a ++ b) := by
  show (⟨a.toArray ++ b.toArray⟩ : Str) = ⟨(a ++ b).toArray⟩
  simp
theorem mkS_inj {a b : List Nat} (h : mkS a = mkS b) : a = b := by rw [← mkS_cps a, h, mkS_cps]
def vowels : List Nat := [97, 101, 105, 111, 117]
def isVY (c : Nat) : Bool := c == 97 || c == 101 || c == 105 || c == 111 || c == 117 || c == 121
/-- two letters, then vowels and y -/
structure Wd (l : List Nat) : Prop where
  len : 2 ≤ l.length ∧ l.length ≤ 8
  low : ∀ c ∈ l, 97 ≤ c ∧ c ≤ 122
  tl : (l.drop 2).all isVY = true
  nin : l ≠ [105, 110]
theorem Wd.ne {l : List Nat} (h : Wd l) {w : Str} (hw : (w.cps.toList.drop 2).all isVY = false) : mkS l ≠ w := fun e => by
  rw [← e, mkS_cps, h.tl] at hw
  cases hw
theorem Wd.nm {l : List Nat} (h : Wd l) : Nm (mkS l) := by
  refine ⟨by rw [mkS_len]; have := h.len; omega, by rw [mkS_len]; exact h.len.2, fun c hc => h.low c (by rw [mkS_cps] at hc; exact hc), fun hb => ?_⟩
  have key : ∀ w ∈ barW, w = "in" ∨ (w.cps.toList.drop 2).all isVY = false := by decide +kernel
  rcases key _ hb with e | e
  · have e2 : l = ("in" : Str).cps.toList := by rw [← e, mkS_cps]
    exact h.nin (by rw [e2]; decide +kernel)
  · exact h.ne e rfl
theorem Wd.q {l : List Nat} (h : Wd l) : mkS l ≠ "qqq" := h.ne (by decide +kernel)
def strides : List Nat := [1, 3, 5, 7, 9, 11, 15, 17, 19, 21, 23, 25]
def firstL (shift stride j : Nat) : Nat := 97 + (shift + stride * j) % 26
theorem first_inj {shift stride i j : Nat} (hs : stride ∈ strides) (hi : i < 19) (hj : j < 19) (h : firstL shift stride i = firstL shift stride j) : i = j := by
  unfold firstL at h
  simp only [strides, List.mem_cons, List.not_mem_nil, or_false] at hs
  rcases hs with rfl | rfl | rfl | rfl | rfl | rfl | rfl | rfl | rfl | rfl | rfl | rfl <;> omega
/-- a name of the j-th first letter -/
structure BaseN (shift stride j : Nat) (l : List Nat) : Prop where
  ex : ∃ t : List Nat, l = firstL shift stride j :: (97 + shift % 26) :: t ∧ t.length ≤ 6 ∧ ∀ c ∈ t, c ∈ vowels
  nin : l ≠ [105, 110]
def ItemN (shift stride : Nat) (fs : List (List Nat)) (j : Nat) (l : List Nat) : Prop := BaseN shift stride j l ∨ (j % 2 = 1 ∧ ∃ l', fs[j - 1]? = some l' ∧ BaseN shift stride (j - 1) l' ∧ l = l'.take 7 ++ [121])
/-- the names so far -/
def NamesN (shift stride : Nat) (fs : List (List Nat)) : Prop := ∀ j l, fs[j]? = some l → ItemN shift stride fs j l
theorem vow_ok {c : Nat} (h : c ∈ vowels) : isVY c = true ∧ 97 ≤ c ∧ c ≤ 122 ∧ c ≠ 121 := by
  simp only [vowels, List.mem_cons, List.not_mem_nil, or_false] at h
  rcases h with rfl | rfl | rfl | rfl | rfl <;> decide
theorem BaseN.wd {shift stride j : Nat} {l : List Nat} (h : BaseN shift stride j l) : Wd l := by
  obtain ⟨t, rfl, ht, hv⟩ := h.ex
  refine ⟨by simp; omega, fun c hc => ?_, ?_, h.nin⟩
  · rcases List.mem_cons.mp hc with rfl | hc
    · unfold firstL; omega
    · rcases List.mem_cons.mp hc with rfl | hc
      · omega
      · have := vow_ok (hv c hc); omega
  · simp only [List.drop_succ_cons, List.drop_zero]
    exact List.all_eq_true.mpr fun c hc => (vow_ok (hv c hc)).1
theorem take7 {shift stride j : Nat} {l : List Nat} (h : BaseN shift stride j l) : ∃ t, l.take 7 ++ [121] = firstL shift stride j :: (97 + shift % 26) :: (t ++ [121]) ∧ t.length ≤ 5 ∧ ∀ c ∈ t, c ∈ vowels := by
  obtain ⟨t, rfl, ht, hv⟩ := h.ex
  exact ⟨t.take 5, rfl, by simp; omega, fun c hc => hv c (List.mem_of_mem_take hc)⟩
theorem der_wd {shift stride j : Nat} {l : List Nat} (h : BaseN shift stride j l) : Wd (l.take 7 ++ [121]) := by
  obtain ⟨t, e, ht, hv⟩ := take7 h
  rw [e]
  refine ⟨by simp; omega, fun c hc => ?_, ?_, fun z => ?_⟩
  · rcases List.mem_cons.mp hc with rfl | hc
    · unfold firstL; omega
    · rcases List.mem_cons.mp hc with rfl | hc
      · omega
      · rcases List.mem_append.mp hc with hc | hc
        · have := vow_ok (hv c hc); omega
        · rw [List.mem_singleton.mp hc]; omega
  · simp only [List.drop_succ_cons, List.drop_zero]
    refine List.all_eq_true.mpr fun c hc => ?_
    rcases List.mem_append.mp hc with hc | hc
    · exact (vow_ok (hv c hc)).1
    · rw [List.mem_singleton.mp hc]; rfl
  · have := congrArg List.length z
    simp at this
theorem der_ne {shift stride j : Nat} {l : List Nat} (h : BaseN shift stride j l) : l ≠ l.take 7 ++ [121] := by
  obtain ⟨t, rfl, ht, hv⟩ := h.ex
  intro e
  by_cases hl : t.length ≤ 5
  · have := congrArg List.length e
    simp at this
    omega
  · have h6 : t.length = 6 := by omega
    match t, h6 with
    | [a, b, c, d, e', f], _ =>
      simp at e
      have := vow_ok (hv f (by simp))
      omega
theorem ItemN.wd {shift stride j : Nat} {fs : List (List Nat)} {l : List Nat} (h : ItemN shift stride fs j l) : Wd l := by
  rcases h with h | ⟨_, l', _, h, rfl⟩
  · exact h.wd
  · exact der_wd h
theorem ItemN.hd {shift stride j : Nat} {fs : List (List Nat)} {l : List Nat} (h : ItemN shift stride fs j l) : l.head? = some (firstL shift stride j) ∨ (j % 2 = 1 ∧ l.head? = some (firstL shift stride (j - 1))) := by
  rcases h with h | ⟨o, l', _, h, rfl⟩
  · obtain ⟨t, rfl, _⟩ := h.ex
    exact .inl rfl
  · obtain ⟨t, e, _⟩ := take7 h
    exact .inr ⟨o, by rw [e]; rfl⟩
theorem names_lt {shift stride : Nat} {fs : List (List Nat)} (hs : stride ∈ strides) (h : NamesN shift stride fs) (hl : fs.length ≤ 19) {i j : Nat} {a b : List Nat} (hij : i < j) (ha : fs[i]? = some a) (hb : fs[j]? = some b) : a ≠ b := by
  intro e
  subst e
  obtain ⟨hi, _⟩ := List.getElem?_eq_some_iff.mp ha
  obtain ⟨hj, _⟩ := List.getElem?_eq_some_iff.mp hb
  have ia := h i a ha
  have ib := h j a hb
  rcases ia.hd with h1 | ⟨o1, h1⟩ <;> rcases ib.hd with h2 | ⟨o2, h2⟩
  · have := first_inj hs (by omega) (by omega) (Option.some.inj (h1.symm.trans h2)); omega
  · have e := first_inj hs (by omega) (by omega) (Option.some.inj (h1.symm.trans h2))
    rcases ib with ib | ⟨_, l', hl', hb', rfl⟩
    · obtain ⟨t, rfl, _⟩ := ib.ex
      have := first_inj hs (by omega) (by omega) (Option.some.inj h2)
      omega
    · rw [← e, ha] at hl'
      have e2 := Option.some.inj hl'
      exact der_ne hb' e2.symm
  · have := first_inj hs (by omega) (by omega) (Option.some.inj (h1.symm.trans h2)); omega
  · have := first_inj hs (by omega) (by omega) (Option.some.inj (h1.symm.trans h2)); omega
theorem names_nd {shift stride : Nat} {fs : List (List Nat)} (hs : stride ∈ strides) (h : NamesN shift stride fs) (hl : fs.length ≤ 19) : (fs.map mkS).Nodup := by
  rw [List.nodup_iff_pairwise_ne, List.pairwise_map, List.pairwise_iff_getElem]
  intro i j hi hj hij e
  exact names_lt hs h hl hij (a := fs[i]) (b := fs[j]) (by simp [hi]) (by simp [hj]) (mkS_inj e)
theorem names_snoc {shift stride : Nat} {fs : List (List Nat)} {l : List Nat} (h : NamesN shift stride fs) (hl : ItemN shift stride fs fs.length l) : NamesN shift stride (fs ++ [l]) := by
  have up : ∀ j l', ItemN shift stride fs j l' → ItemN shift stride (fs ++ [l]) j l' := fun j l' q => by
    rcases q with q | ⟨o, l2, h2, h3, h4⟩
    · exact .inl q
    · exact .inr ⟨o, l2, by rw [List.getElem?_append_left (List.getElem?_eq_some_iff.mp h2).1]; exact h2, h3, h4⟩
  intro j l' hj
  by_cases hjl : j < fs.length
  · rw [List.getElem?_append_left hjl] at hj
    exact up _ _ (h j l' hj)
  · rw [List.getElem?_append_right (by omega)] at hj
    have hz : j - fs.length = 0 := by
      cases e : j - fs.length with
      | zero => rfl
      | succ n => rw [e] at hj; simp at hj
    rw [hz] at hj
    have e1 : l = l' := by simpa using hj
    have e2 : j = fs.length := by omega
    subst e1 e2
    exact up _ _ hl
/-! ### letters -/
theorem letters_at {i : Int} (h0 : 0 ≤ i) (h1 : i < 26) : atI ("abcdefghijklmnopqrstuvwxyz" : Str).cps.toList i = some (97 + i.toNat) := by
  have e : ("abcdefghijklmnopqrstuvwxyz" : Str).cps.toList = (List.range 26).map (97 + ·) := by decide +kernel
  rw [e]
  obtain ⟨n, rfl⟩ : ∃ n : Nat, i = n := ⟨i.toNat, by omega⟩
  refine atI_nat (j := n) ?_
  rw [List.getElem?_map, List.getElem?_range (by omega)]
  simp
theorem vowels_at {i : Int} (h0 : 0 ≤ i) (h1 : i < 5) : ∃ c, atI ("aeiou" : Str).cps.toList i = some c ∧ c ∈ vowels := by
  have e : ("aeiou" : Str).cps.toList = vowels := by decide +kernel
  rw [e]
  obtain ⟨n, rfl⟩ : ∃ n : Nat, i = n := ⟨i.toNat, by omega⟩
  match n, h1 with
  | 0, _ => exact ⟨97, rfl, by decide⟩
  | 1, _ => exact ⟨101, rfl, by decide⟩
  | 2, _ => exact ⟨105, rfl, by decide⟩
  | 3, _ => exact ⟨111, rfl, by decide⟩
  | 4, _ => exact ⟨117, rfl, by decide⟩
  | n + 5, h => omega
theorem strides_at {i : Int} (h0 : 0 ≤ i) (h1 : i < 12) : ∃ c : Nat, atI [V.int 1, .int 3, .int 5, .int 7, .int 9, .int 11, .int 15, .int 17, .int 19, .int 21, .int 23, .int 25] i = some (.int (c : Int)) ∧ c ∈ strides := by
  obtain ⟨n, rfl⟩ : ∃ n : Nat, i = n := ⟨i.toNat, by omega⟩
  match n, h1 with
  | 0, _ => exact ⟨1, rfl, by decide⟩
  | 1, _ => exact ⟨3, rfl, by decide⟩
  | 2, _ => exact ⟨5, rfl, by decide⟩
  | 3, _ => exact ⟨7, rfl, by decide⟩
  | 4, _ => exact ⟨9, rfl, by decide⟩
  | 5, _ => exact ⟨11, rfl, by decide⟩
  | 6, _ => exact ⟨15, rfl, by decide⟩
  | 7, _ => exact ⟨17, rfl, by decide⟩
  | 8, _ => exact ⟨19, rfl, by decide⟩
  | 9, _ => exact ⟨21, rfl, by decide⟩
  | 10, _ => exact ⟨23, rfl, by decide⟩
  | 11, _ => exact ⟨25, rfl, by decide⟩
  | n + 12, h => omega
theorem strides_le {c : Nat} (h : c ∈ strides) : c ≤ 25 := by
  simp only [strides, List.mem_cons, List.not_mem_nil, or_false] at h
  rcases h with rfl | rfl | rfl | rfl | rfl | rfl | rfl | rfl | rfl | rfl | rfl | rfl <;> decide
/-- nineteen names, as they are used -/
structure W19 (ws : List Str) : Prop where
  len : ws.length = 19
  nd : ws.Nodup
  nm : ∀ x ∈ ws, Nm x
  q : ∀ x ∈ ws, x ≠ "qqq"
end Wk
end

section
set_option Elab.async false
set_option linter.all false
set_option maxRecDepth 100000
/-! called: the names of the law -/
namespace Wk
open PySem PySem.Spec L2 RZ
theorem StAt.fresh {H : Hp} {md la ca D : Addr} {B : Int} (h : StAt H md la ca B) (hD : H D = none) : D ≠ md ∧ D ≠ la ∧ D ≠ ca := by
  obtain ⟨hcl, ls, cs, k, h1, h2, h3, h4⟩ := h
  exact ⟨(ne_of_none h1 hD).symm, (ne_of_none h2 hD).symm, (ne_of_none h3 hD).symm⟩
theorem cut7 (l : List Nat) : cutS (mkS l) none (some 7) = mkS (l.take 7) := by
  have h7 : HT.sIx (mkS l).length (mkS l).length (some 7) = min 7 (mkS l).length := HT.sIx_nat _ _ 7
  unfold cutS
  rw [h7, HT.sIx_none, mkS_cps, mkS_len]
  unfold mkS
  congr 2
  simp only [List.drop_zero, Nat.sub_zero]
  by_cases h : 7 ≤ l.length
  · rw [Nat.min_eq_left h]
  · rw [Nat.min_eq_right (by omega), List.take_of_length_le (Nat.le_refl _), List.take_of_length_le (by omega)]
def strsOf (fs : List (List Nat)) : List V := (fs.map mkS).map V.str
def sp_called : Sp := fun vs H Q _ => ∃ (md la ca : Addr) (B : Int), vs = [.ref md, .int 19] ∧ StAt H md la ca B ∧ B + 200 ≤ 2 ^ 20 ∧
  ∀ (H' : Hp) (p : Addr) (fs : List (List Nat)), DS md la H H' → StAt H' md la ca (B + 200) → H p = none → H' p = some (.lst (strsOf fs)) → fs.length = 19 → (∀ l ∈ fs, Wd l) → (fs.map mkS).Nodup → Q (.ref p) H'
theorem small_str {n : Nat} (h : n ≤ 100) : n ≤ sizeLine := Nat.le_trans h (by decide)
section
variable {P : Program} {w : World} {K : PySem.W.Frag} {mg : Str → Option Value} {base : Heap}
theorem c_law_called (T : Tx w K mg) : C8.Cal P w K mg base 3 "_law_called" sp_called [] := by
  obtain ⟨fd, F⟩ := T.F_law_called
  refine ⟨_, fd, ["_law_m", "_law_many"], [], F.ok sc_law_called (fun vs H Q E h => ?_) (fun cdv A outer s H vs Q E hr h => ?_), T.g_law_called, F.kp, F.bindsN fun _ _ _ _ _ _ us hl => match us, hl with | [_, _], _ => rfl, .nil⟩
  · obtain ⟨x, a, b, c, rfl, _⟩ := h
    rfl
  · obtain ⟨md, la, ca, B, rfl, hst, hB, q⟩ := h
    refine ⟨_, PSs.nox (pss_cons (ps_par (i := 2) (j := 3) (by rfl) sc_law_called.nd rfl rfl (by decide) rfl rfl (pa_cons pe_str (pa_cons (pe_lst pa_nil) pa_nil)) (by rfl))
      (pss_cons (ps_set (i := 4) sc_law_called.nd rfl (Or.inl rfl) (C8.pe_c (c_law_draw T) hr (by decide) rfl (pa_cons (pv 0) (pa_cons pe_int pa_nil))))
      (pss_cons (ps_set (i := 5) sc_law_called.nd rfl (Or.inl rfl) (pe_ix ix_list (pe_lst (pa_cons pe_int (pa_cons pe_int (pa_cons pe_int (pa_cons pe_int (pa_cons pe_int (pa_cons pe_int (pa_cons pe_int (pa_cons pe_int (pa_cons pe_int (pa_cons pe_int (pa_cons pe_int (pa_cons pe_int pa_nil))))))))))))) (C8.pe_c (c_law_draw T) hr (by decide) rfl (pa_cons (pv 0) (pa_cons pe_int pa_nil))) (fun _ _ => rfl)))
      (pss_cons (ps_for PassesOwn.never rfl (pi_range1 rfl T.f_range (pa_cons (pv 1) pa_nil)) (pg_name (i := 6) sc_law_called.nd rfl (Or.inl rfl)) (pss_cons (ps_set (i := 7) sc_law_called.nd rfl (Or.inl rfl) (pe_ix ix_str (pv 2) (pe_op op_mod (pe_op op_add (pv 4) (pe_op op_mul (pv 5) (pv 6))) pe_int) (fun _ _ => rfl)))
        (pss_cons (ps_set (i := 7) sc_law_called.nd rfl (Or.inl rfl) (pe_op op_add_str (pv 7) (pe_ix ix_str (pv 2) (pe_op op_mod (pe_op op_add (pv 4) (pe_op op_fdiv (pv 6) pe_int)) pe_int) (fun _ _ => rfl))))
        (C8.pss_cut (ps_for PassesOwn.never rfl (pi_range1 rfl T.f_range (pa_cons (pe_op op_add (pe_ix ix_list (pe_lst (pa_cons pe_int (pa_cons pe_int (pa_cons pe_int (pa_cons (C8.pe_c (c_law_draw T) hr (by decide) rfl (pa_cons (pv 0) (pa_cons pe_int pa_nil))) pa_nil))))) (C8.pe_c (c_law_draw T) hr (by decide) rfl (pa_cons (pv 0) (pa_cons pe_int pa_nil))) (fun _ _ => rfl)) (pe_callTy call_int1 (by rfl) T.f_int (by decide +kernel) (pa_cons (pe_cmpR op_eq (pv 7) pe_str (nomark _)) pa_nil))) pa_nil)) (pg_name (i := 8) sc_law_called.nd rfl (Or.inl rfl)) (pss_one (ps_set (i := 7) sc_law_called.nd rfl (Or.inl rfl) (pe_op op_add_str (pv 7) (pe_ix ix_str pe_str (C8.pe_c (c_law_draw T) hr (by decide) rfl (pa_cons (pv 0) (pa_cons pe_int pa_nil))) (fun _ _ => rfl))))))
        (C8.pss_cut (ps_if (PW.pt (pw_and (pt_cmpR op_eq (pe_op op_mod (pv 6) pe_int) pe_int (nomark _)) (pw_and1 (pt_cmpR op_eq (C8.pe_c (c_law_draw T) hr (by decide) rfl (pa_cons (pv 0) (pa_cons pe_int pa_nil))) pe_int (nomark _))))) (pss_one (ps_set (i := 7) sc_law_called.nd rfl (Or.inl rfl) (pe_op op_add_str (pe_slice sl_str (pe_ix ix_list (pv 3) (pe_un un_neg pe_int) (fun _ _ => rfl)) po_none (po_some pe_int)) pe_str))) pss_nil)
        (pss_one (ps_expr (pe_bm PySem.F.plainAttrs_list PySem.F.slot_list_append PySem.F.type_list_append mt_append (pv 3) (pa_cons (pv 7) pa_nil)))))))))
      (pss_one (ps_ret (pv 3))))))), ?_⟩
    refine ⟨szn (Nat.zero_le _), fun D hD => ⟨_, _, rfl, ?_⟩⟩
    obtain ⟨nDm, nDl, nDc⟩ := hst.fresh hD
    have fD : ¬ (D = md ∨ D = la) := fun z => z.elim nDm nDl
    have e0 : Same H (upd H D (.lst [])) := Same.new hD
    refine ⟨_, rfl, md, la, ca, B, 26, rfl, hst.same e0, by decide, by decide, by omega, fun H1 sh d1 st1 sh1 sh2 => ?_⟩
    have d01 : DS md la H H1 := (SBut.of e0).trans d1
    have hD1 := d1 D _ fD upd_same
    refine ⟨szn (n := 12) (by decide), fun q1 hq1 => ?_⟩
    have e1 : Same H1 _ := Same.new (o := .lst [V.int 1, .int 3, .int 5, .int 7, .int 9, .int 11, .int 15, .int 17, .int 19, .int 21, .int 23, .int 25]) hq1
    refine ⟨_, rfl, md, la, ca, B + 1, 12, rfl, st1.same e1, by decide, by decide, by omega, fun H2 r12 d2 st2 r1 r2 => ?_⟩
    obtain ⟨stn, hsa, hstr⟩ := strides_at r1 r2
    have hsl := strides_le hstr
    have hq2 := d2 q1 _ (st1.free hq1) upd_same
    have d02 : DS md la H H2 := d01.trans ((SBut.of e1).trans d2)
    have hD2 := d2 D _ fD (e1 _ _ hD1)
    refine ⟨q1, _, _, _, rfl, rfl, SqL.of hq2, hsa, ?_⟩
    obtain ⟨shn, rfl⟩ : ∃ n : Nat, sh = n := ⟨sh.toNat, by omega⟩
    refine ⟨_, rfl, 19, rfl, by decide, by decide, ?_⟩
    refine for_it (walk_range (lo := 0) (n := 19)) (fun i σ H' => ∃ x y z fs, σ = [some (.ref md), some (.int 19), some (.str "abcdefghijklmnopqrstuvwxyz"), some (.ref D), some (.int shn), some (.int stn), x, y, z] ∧ DS md la H H' ∧ StAt H' md la ca (B + 2 + 9 * i) ∧
      H' D = some (.lst (strsOf fs)) ∧ fs.length = i ∧ NamesN shn stn fs) ⟨_, _, _, [], rfl, d02, st2.le (by omega), hD2, rfl, fun _ _ z => by simp at z⟩ (fun _ _ _ _ _ => trivial) ?_ ?_
    · rintro i v σ Ha Hb hi ⟨x0, y0, z0, fs, rfl, dA, stA, hDA, hfl, hfs⟩ ⟨rfl, rfl⟩
      have hc1 : (97 : Nat) + (((shn : Int) + (stn : Int) * (0 + (i : Int))) % 26).toNat = firstL shn stn i := by
        unfold firstL
        have : ((shn : Int) + (stn : Int) * (0 + (i : Int))) = ((shn + stn * i : Nat) : Int) := by rw [Int.zero_add, Int.natCast_add, Int.natCast_mul]
        rw [this]
        omega
      have hc2 : (97 : Nat) + (((shn : Int) + (0 + (i : Int)) / 26) % 26).toNat = 97 + shn % 26 := by omega
      have hmul : CMul (stn : Int) (0 + (i : Int)) := .inl ⟨by omega, by omega⟩
      have l26 : ("abcdefghijklmnopqrstuvwxyz" : Str).length ≤ sizeLine := by decide
      refine ⟨_, rfl, _, rfl, _, rfl, _, rfl, _, _, rfl, rfl, hmul, _, _, rfl, rfl, _, _, rfl, rfl, (show (0 : Int) < 26 by decide), _, _, _, rfl, rfl, l26, letters_at (Int.emod_nonneg _ (by decide)) (Int.emod_lt_of_pos _ (by decide)), ?_⟩
      rw [hc1]
      refine ⟨_, rfl, _, rfl, _, rfl, _, rfl, _, _, rfl, rfl, ⟨by decide, by decide⟩, _, _, rfl, rfl, _, _, rfl, rfl, (show (0 : Int) < 26 by decide), _, _, _, rfl, rfl, l26, letters_at (Int.emod_nonneg _ (by decide)) (Int.emod_lt_of_pos _ (by decide)), ?_⟩
      rw [hc2]
      refine ⟨_, _, rfl, rfl, (show 1 + 1 ≤ sizeLine by decide), ?_⟩
      have s2 : (⟨#[firstL shn stn i]⟩ : Str) ++ ⟨#[97 + shn % 26]⟩ = mkS [firstL shn stn i, 97 + shn % 26] := rfl
      rw [s2]
      refine ⟨fun σ' H' => ∃ z l, σ' = [some (.ref md), some (.int 19), some (.str "abcdefghijklmnopqrstuvwxyz"), some (.ref D), some (.int shn), some (.int stn), some (.int (0 + (i : Int))), some (.str (mkS l)), z] ∧ DS md la H H' ∧ StAt H' md la ca (B + 2 + 9 * i + 8) ∧ H' D = some (.lst (strsOf fs)) ∧ BaseN shn stn i l, ?_, ?_⟩
      · refine ⟨_, rfl, md, la, ca, _, 6, rfl, stA, by decide, by decide, by omega, fun H3 r6 d3 st3 r61 r62 => ?_⟩
        refine ⟨szn (n := 4) (by decide), fun q3 hq3 => ?_⟩
        have e3 : Same H3 _ := Same.new (o := .lst [V.int 0, .int 0, .int 1, .int r6]) hq3
        refine ⟨_, rfl, md, la, ca, _, 4, rfl, st3.same e3, by decide, by decide, by omega, fun H4 r4 d4 st4 r41 r42 => ?_⟩
        have d34 : DS md la Hb H4 := d3.trans ((SBut.of e3).trans d4)
        have hD4 := d34 D _ fD hDA
        have hq4 := d4 q3 _ (st3.free hq3) upd_same
        obtain ⟨m4, hm4, m41, m42⟩ : ∃ m : Int, atI [V.int 0, .int 0, .int 1, .int r6] r4 = some (.int m) ∧ 0 ≤ m ∧ m ≤ 5 := by
          obtain ⟨n, rfl⟩ : ∃ n : Nat, r4 = n := ⟨r4.toNat, by omega⟩
          match n, r42 with
          | 0, _ => exact ⟨0, rfl, by decide, by decide⟩
          | 1, _ => exact ⟨0, rfl, by decide, by decide⟩
          | 2, _ => exact ⟨1, rfl, by decide, by decide⟩
          | 3, _ => exact ⟨r6, rfl, by omega, by omega⟩
          | n + 4, h => omega
        refine ⟨q3, _, _, _, rfl, rfl, SqL.of hq4, hm4, ?_⟩
        refine ⟨_, rfl, rfl, .inr ⟨_, rfl, _, _, rfl, rfl, ?_⟩⟩
        obtain ⟨b, hbd⟩ : ∃ b, b = decide (V.str (mkS [firstL shn stn i, 97 + shn % 26]) = V.str "in") := ⟨_, rfl⟩
        rw [← hbd]
        refine ⟨_, rfl, by cases b <;> simp <;> omega, by cases b <;> simp <;> omega, ?_⟩
        refine for_it (walk_range (lo := 0) (n := (m4 + if b = true then 1 else 0).toNat)) (fun j σ H' => ∃ z t, σ = [some (.ref md), some (.int 19), some (.str "abcdefghijklmnopqrstuvwxyz"), some (.ref D), some (.int shn), some (.int stn), some (.int (0 + (i : Int))), some (.str (mkS (firstL shn stn i :: (97 + shn % 26) :: t))), z] ∧ DS md la H H' ∧
          StAt H' md la ca (B + 2 + 9 * i + 2 + j) ∧ H' D = some (.lst (strsOf fs)) ∧ t.length = j ∧ ∀ c ∈ t, c ∈ vowels) ⟨_, [], rfl, dA.trans d34, st4.le (by omega), hD4, rfl, fun _ z => by cases z⟩ (fun _ _ _ _ _ => trivial) ?_ ?_
        · rintro j v σ Hc Hd hj ⟨z1, t, rfl, dC, stC, hDC, htl, htv⟩ ⟨rfl, rfl⟩
          have hj6 : j < 6 := by
            have : (m4 + if b = true then 1 else 0) ≤ 6 := by cases b <;> simp <;> omega
            omega
          refine ⟨_, rfl, _, rfl, md, la, ca, _, 5, rfl, stC, by decide, by decide, by omega, fun H5 r5 d5 st5 r51 r52 => ?_⟩
          obtain ⟨c, hc, hcv⟩ := vowels_at r51 r52
          refine ⟨_, _, c, rfl, rfl, (by decide), hc, ?_⟩
          have s3 : (mkS (firstL shn stn i :: (97 + shn % 26) :: t)) ++ (⟨#[c]⟩ : Str) = mkS (firstL shn stn i :: (97 + shn % 26) :: (t ++ [c])) := mkS_app _ [c]
          refine ⟨_, _, rfl, rfl, small_str (by rw [mkS_len]; simp [Str.length]; omega), ?_⟩
          rw [s3]
          refine ⟨_, t ++ [c], rfl, dC.trans d5, st5.le (by omega), d5 D _ fD hDC, by simp [htl], fun x hx => ?_⟩
          rcases List.mem_append.mp hx with hx | hx
          · exact htv x hx
          · rw [List.mem_singleton.mp hx]; exact hcv
        · rintro σ H5 ⟨z1, t, rfl, dC, stC, hDC, htl, htv⟩
          have hn6 : (m4 + if b = true then 1 else 0).toNat ≤ 6 := by cases b <;> simp <;> omega
          refine ⟨_, _, rfl, dC, stC.le (by omega), hDC, ⟨t, rfl, by omega, htv⟩, fun e => ?_⟩
          have ht0 : t = [] := by
            have := congrArg List.length e
            simp at this
            exact this
          subst ht0
          have hin : V.str (mkS [firstL shn stn i, 97 + shn % 26]) = V.str "in" := by rw [e]; rfl
          rw [decide_eq_true hin] at hbd
          subst hbd
          simp at htl
          omega
      · rintro σ' H3 ⟨z1, l, rfl, d3, st3, hD3, hbase⟩
        refine ⟨fun σ' H' => ∃ z l, σ' = [some (.ref md), some (.int 19), some (.str "abcdefghijklmnopqrstuvwxyz"), some (.ref D), some (.int shn), some (.int stn), some (.int (0 + (i : Int))), some (.str (mkS l)), z] ∧ DS md la H H' ∧ StAt H' md la ca (B + 2 + 9 * i + 9) ∧ H' D = some (.lst (strsOf fs)) ∧ ItemN shn stn fs i l, ?_, ?_⟩
        · refine ⟨_, rfl, _, _, rfl, rfl, (show (0 : Int) < 2 by decide), rfl, _, rfl, ite2b (fun hb => ?_) (fun hb => ?_)⟩
          · have hodd : (0 + (i : Int)) % 2 = 1 := by
              have := of_decide_eq_true hb
              injection this
            refine ⟨_, rfl, md, la, ca, _, 5, rfl, st3, by decide, by decide, by omega, fun H4 r5 d4 st4 r51 r52 => ?_⟩
            have hD4 := d4 D _ fD hD3
            refine ⟨rfl, _, rfl, ite2b (fun hb2 => ?_) (fun hb2 => ?_)⟩
            · have hne : fs ≠ [] := fun z => by rw [z] at hfl; simp at hfl; omega
              have lst : ∃ ini l', fs = ini ++ [l'] := by
                obtain ⟨a, b, c⟩ := snoc_of fs hne
                exact ⟨a, b, c⟩
              obtain ⟨ini, l', rfl⟩ := lst
              have hsf : strsOf (ini ++ [l']) = strsOf ini ++ [V.str (mkS l')] := by simp [strsOf]
              have hil : ini.length = i - 1 := by simp at hfl; omega
              have hl'i : (ini ++ [l'])[i - 1]? = some l' := by rw [← hil]; simp
              have hbl' : BaseN shn stn (i - 1) l' := by
                rcases hfs (i - 1) l' hl'i with h | ⟨o, _⟩
                · exact h
                · omega
              refine ⟨_, rfl, _, rfl, D, _, -1, .str (mkS l'), rfl, rfl, SqL.of hD4, (by rw [hsf]; exact atI_last _ _), ?_⟩
              dsimp only [tNoPart, tPart, tC]
              have hl8 := hbl'.wd.len
              refine ⟨_, rfl, mkS l', rfl, small_str (by rw [mkS_len]; omega), ?_⟩
              rw [cut7]
              have s4 : mkS (l'.take 7) ++ ("y" : Str) = mkS (l'.take 7 ++ [121]) := mkS_app _ [121]
              refine ⟨_, _, rfl, rfl, small_str (by rw [mkS_len]; have : (l'.take 7).length ≤ 7 := by simp; omega
                                                    have h1 : ("y" : Str).length = 1 := by decide
                                                    omega), ?_⟩
              rw [s4]
              exact ⟨_, _, rfl, d3.trans d4, st4.le (by omega), hD4, .inr ⟨by omega, l', hl'i, hbl', rfl⟩⟩
            · exact ⟨_, _, rfl, d3.trans d4, st4.le (by omega), hD4, .inl hbase⟩
          · exact ⟨_, _, rfl, d3, st3.le (by omega), hD3, .inl hbase⟩
        · rintro σ' H4 ⟨z2, l2, rfl, d4, st4, hD4, hitem⟩
          refine ⟨_, rfl, .inl ⟨rfl, _, SqL.of hD4⟩, _, rfl, D, _, _, rfl, rfl, hD4, ?_, ?_⟩
          · exact Nat.lt_of_lt_of_le (show (strsOf fs).length < 1000 by simp [strsOf]; omega) (by decide)
          · refine ⟨_, _, _, fs ++ [l2], rfl, d4.mut hD, (st4.upd nDm nDl nDc).le (by push_cast; omega), by rw [upd_same]; simp [strsOf], by simp [hfl], names_snoc hfs (by rw [hfl]; exact hitem)⟩
    · rintro σ H3 ⟨x0, y0, z0, fs, rfl, d3, st3, hD3, hfl, hfs⟩
      refine ⟨_, rfl, q H3 D fs d3 (st3.le (by push_cast; omega)) hD hD3 hfl (fun l hl => ?_) (names_nd hstr hfs (by omega))⟩
      obtain ⟨j, hj⟩ := List.getElem?_of_mem hl
      exact (hfs j l hj).wd
end
end Wk
end

section
set_option Elab.async false
set_option linter.all false
set_option maxRecDepth 100000
/-! worded: some names are words of the language -/
namespace Wk
open PySem PySem.Spec L2 RZ
def someA : Str := "deal thing page call back again sold read misused claimed maker seller owner stands falls"
def someB : Str := " never none done borne begin called unsold claims"
def someW : List Str := ["deal", "thing", "page", "call", "back", "again", "sold", "read", "misused", "claimed", "maker", "seller", "owner", "stands", "falls", "never", "none", "done", "borne", "begin", "called", "unsold", "claims"]
theorem some_split : Txt.split (someA ++ someB) " " = someW := by decide +kernel
def nmB (x : Str) : Bool := decide (1 ≤ x.length) && (decide (x.length ≤ 8) && (x.cps.toList.all (fun c => decide (97 ≤ c) && decide (c ≤ 122)) && !decide (x ∈ barW)))
theorem nm_of {x : Str} (h : nmB x = true) : Nm x := by
  unfold nmB at h
  obtain ⟨h1, h⟩ := He.ba h
  obtain ⟨h2, h⟩ := He.ba h
  obtain ⟨h3, h4⟩ := He.ba h
  refine ⟨of_decide_eq_true h1, of_decide_eq_true h2, fun c hc => ?_, fun hb => ?_⟩
  · have := List.all_eq_true.mp h3 c hc
    obtain ⟨a, b⟩ := He.ba this
    exact ⟨of_decide_eq_true a, of_decide_eq_true b⟩
  · rw [decide_eq_true hb] at h4
    cases h4
theorem some_nm : ∀ x ∈ someW, Nm x := fun x hx => nm_of (List.all_eq_true.mp (show someW.all nmB = true by decide +kernel) x hx)
theorem some_q : ∀ x ∈ someW, x ≠ "qqq" := by decide +kernel
theorem some_nd : someW.Nodup := by decide +kernel
theorem some_not : ∀ x ∈ someW, (x.cps.toList.drop 2).all isVY = false := by decide +kernel
def rotW (n : Nat) : List Str := someW.drop n ++ someW.take n
theorem rot_perm (n : Nat) : (rotW n).Perm someW := by
  have := List.perm_append_comm (l₁ := someW.drop n) (l₂ := someW.take n)
  rw [List.take_append_drop] at this
  exact this
/-- every third name is a word -/
def mixW (rot ws : List Str) (k : Nat) : Str := if k % 3 = 0 then rot.getD (k / 3) "" else ws.getD k ""
theorem nd_inj {α : Type} {l : List α} (h : l.Nodup) {i j : Nat} (hi : i < l.length) (hj : j < l.length) (e : l[i] = l[j]) : i = j := by
  have p := List.pairwise_iff_getElem.mp (List.nodup_iff_pairwise_ne.mp h)
  rcases Nat.lt_trichotomy i j with z | z | z
  · exact absurd e (p i j hi hj z)
  · exact z
  · exact absurd e.symm (p j i hj hi z)
theorem w19_mix {n : Nat} {fs : List (List Nat)} (hl : fs.length = 19) (hw : ∀ l ∈ fs, Wd l) (hn : (fs.map mkS).Nodup) : W19 ((List.range 19).map (mixW (rotW n) (fs.map mkS))) := by
  have hp := rot_perm n
  have hrl : (rotW n).length = 23 := hp.length_eq
  have hrn : (rotW n).Nodup := hp.nodup_iff.mpr some_nd
  have hrm : ∀ k, k < 23 → (rotW n).getD k "" ∈ someW := fun k hk => by
    have hk' : k < (rotW n).length := by omega
    rw [List.getD_eq_getElem?_getD, List.getElem?_eq_getElem hk']
    exact hp.mem_iff.mp (List.getElem_mem hk')
  have hwm : ∀ k, k < 19 → ∃ l ∈ fs, (fs.map mkS).getD k "" = mkS l := fun k hk => by
    have hk' : k < fs.length := by omega
    refine ⟨fs[k], List.getElem_mem hk', ?_⟩
    rw [List.getD_eq_getElem?_getD, List.getElem?_map, List.getElem?_eq_getElem hk']
    rfl
  refine ⟨by simp, ?_, fun x hx => ?_, fun x hx => ?_⟩
  · rw [List.nodup_iff_pairwise_ne, List.pairwise_map]
    refine List.Pairwise.imp_of_mem (R := fun i j => i ≠ j) (fun {i j} hi hj hij => ?_) (List.nodup_iff_pairwise_ne.mp List.nodup_range)
    have hi := List.mem_range.mp hi
    have hj := List.mem_range.mp hj
    unfold mixW
    by_cases zi : i % 3 = 0 <;> by_cases zj : j % 3 = 0
    · rw [if_pos zi, if_pos zj]
      intro e
      rw [List.getD_eq_getElem?_getD, List.getD_eq_getElem?_getD, List.getElem?_eq_getElem (show i / 3 < (rotW n).length by omega), List.getElem?_eq_getElem (show j / 3 < (rotW n).length by omega)] at e
      have := nd_inj hrn _ _ (by simpa using e)
      omega
    · rw [if_pos zi, if_neg zj]
      intro e
      obtain ⟨l, hlm, hle⟩ := hwm j hj
      rw [hle] at e
      exact (hw l hlm).ne (some_not _ (hrm (i / 3) (by omega))) e.symm
    · rw [if_neg zi, if_pos zj]
      intro e
      obtain ⟨l, hlm, hle⟩ := hwm i hi
      rw [hle] at e
      exact (hw l hlm).ne (some_not _ (hrm (j / 3) (by omega))) e
    · rw [if_neg zi, if_neg zj]
      intro e
      rw [List.getD_eq_getElem?_getD, List.getD_eq_getElem?_getD, List.getElem?_eq_getElem (show i < (fs.map mkS).length by simp; omega), List.getElem?_eq_getElem (show j < (fs.map mkS).length by simp; omega)] at e
      exact hij (nd_inj hn (by simp; omega) (by simp; omega) (by rw [List.getElem_map, List.getElem_map]; simpa using e))
  · obtain ⟨k, hk, rfl⟩ := List.mem_map.mp hx
    have hk := List.mem_range.mp hk
    unfold mixW
    by_cases z : k % 3 = 0
    · rw [if_pos z]; exact some_nm _ (hrm _ (by omega))
    · rw [if_neg z]
      obtain ⟨l, hlm, hle⟩ := hwm k hk
      rw [hle]
      exact (hw l hlm).nm
  · obtain ⟨k, hk, rfl⟩ := List.mem_map.mp hx
    have hk := List.mem_range.mp hk
    unfold mixW
    by_cases z : k % 3 = 0
    · rw [if_pos z]; exact some_q _ (hrm _ (by omega))
    · rw [if_neg z]
      obtain ⟨l, hlm, hle⟩ := hwm k hk
      rw [hle]
      exact (hw l hlm).q
theorem w19_of {fs : List (List Nat)} (hl : fs.length = 19) (hw : ∀ l ∈ fs, Wd l) (hn : (fs.map mkS).Nodup) : W19 (fs.map mkS) := by
  refine ⟨by simp [hl], hn, fun x hx => ?_, fun x hx => ?_⟩
  · obtain ⟨l, hlm, rfl⟩ := List.mem_map.mp hx
    exact (hw l hlm).nm
  · obtain ⟨l, hlm, rfl⟩ := List.mem_map.mp hx
    exact (hw l hlm).q
theorem cut_from {xs : List V} {n : Nat} : cutV xs (some (n : Int)) none = xs.drop n := by
  unfold cutV
  rw [HT.sIx_nat, HT.sIx_none]
  by_cases z : n ≤ xs.length
  · rw [Nat.min_eq_left z, List.take_of_length_le (by simp)]
  · rw [Nat.min_eq_right (by omega), Nat.sub_self, List.take_zero, List.drop_of_length_le (by omega)]
theorem cut_to {xs : List V} {n : Nat} : cutV xs none (some (n : Int)) = xs.take n := by
  unfold cutV
  rw [HT.sIx_nat, HT.sIx_none, List.drop_zero, Nat.sub_zero]
  by_cases z : n ≤ xs.length
  · rw [Nat.min_eq_left z]
  · rw [Nat.min_eq_right (by omega), List.take_of_length_le (by omega), List.take_of_length_le (by omega)]
def sp_worded : Sp := fun vs H Q _ => ∃ (md la ca p : Addr) (B : Int) (fs : List (List Nat)), vs = [.ref md, .ref p] ∧ StAt H md la ca B ∧ B + 2 ≤ 2 ^ 20 ∧ H p = some (.lst (strsOf fs)) ∧ p ≠ la ∧ fs.length = 19 ∧ (∀ l ∈ fs, Wd l) ∧ (fs.map mkS).Nodup ∧
  ∀ (H' : Hp) (q : Addr) (ws : List Str), DS md la H H' → StAt H' md la ca (B + 2) → H' q = some (.lst (ws.map V.str)) → q ≠ la → W19 ws → Q (.ref q) H'
section
variable {P : Program} {w : World} {K : PySem.W.Frag} {mg : Str → Option Value} {base : Heap}
theorem c_law_worded (T : Tx w K mg) : C8.Cal P w K mg base 3 "_law_worded" sp_worded [] := by
  obtain ⟨fd, F⟩ := T.F_law_worded
  refine ⟨_, fd, ["_law_m", "_law_w"], [], F.ok sc_law_worded (fun vs H Q E h => ?_) (fun cdv A outer s H vs Q E hr h => ?_), T.g_law_worded, F.kp, F.bindsN fun _ _ _ _ _ _ us hl => match us, hl with | [_, _], _ => rfl, .nil⟩
  · obtain ⟨x, a, b, c, d, e, rfl, _⟩ := h
    rfl
  · obtain ⟨md, la, ca, p, B, fs, rfl, hst, hB, hp, npl, hfl, hfw, hfn, q⟩ := h
    have npm : p ≠ md := by
      obtain ⟨hcl, ls, cs, k, h1, _⟩ := id hst
      exact ne_of hp h1 (fun z => by cases z)
    have fp : ¬ (p = md ∨ p = la) := fun z => z.elim npm npl
    refine ⟨_, PSs.nox (pss_cons (ps_if (pt_cmpR op_eq (C8.pe_c (c_law_draw T) hr (by decide) rfl (pa_cons (pv 0) (pa_cons pe_int pa_nil))) pe_int (nomark _)) (pss_one (ps_ret (pv 1))) pss_nil)
      (pss_cons (ps_set (i := 2) sc_law_worded.nd rfl (Or.inr rfl) pe_str)
      (pss_cons (ps_set (i := 2) sc_law_worded.nd rfl (Or.inr rfl) (pe_split (pe_op op_add_str (pv 2) pe_str) pe_str))
      (pss_cons (ps_set (i := 3) sc_law_worded.nd rfl (Or.inl rfl) (C8.pe_c (c_law_draw T) hr (by decide) rfl (pa_cons (pv 0) (pa_cons pe_int pa_nil))))
      (pss_cons (ps_set (i := 2) sc_law_worded.nd rfl (Or.inr rfl) (pe_lc (own := [("_law_said", 4)]) (g := gName 4) rfl sc_law_worded.nd (pi_list (pe_op op_cat (pe_slice sl_list (pv 2) (po_some (pv 3)) po_none) (pe_slice sl_list (pv 2) po_none (po_some (pv 3))))) (blkOk_by (own := [("_law_said", 4)]) (N := N_law_worded) (sc := defScope s_law_worded) (by decide +kernel)) (fun _ _ _ _ _ => (pg_name (i := 4) sc_law_worded.nd rfl (Or.inl rfl))) (fun _ _ _ _ _ => (pts_one (pt_cmpR (op_notIn_seqK (K := K)) (pv 4) (pv 1) (by with_unfolding_all rfl)))) (fun _ _ _ _ _ => (pv 4))))
      (pss_one (ps_ret (pe_lc (own := [("_law_k", 5), ("_law_said", 4)]) (g := gTup K 2 (gCons (gName 5) (gCons (gName 4) gNil))) rfl sc_law_worded.nd (pi_enum (by rfl) T.f_enumerate (pa_cons (pv 1) pa_nil)) (blkOk_by (own := [("_law_k", 5), ("_law_said", 4)]) (N := N_law_worded) (sc := defScope s_law_worded) (by decide +kernel)) (fun _ _ _ _ _ => (pg_tup rfl (pgs_cons (pg_name (i := 5) sc_law_worded.nd rfl (Or.inl rfl)) (pgs_cons (pg_name (i := 4) sc_law_worded.nd rfl (Or.inl rfl)) pgs_nil)))) (fun _ _ _ _ _ => pts_nil) (fun _ _ _ _ _ => (pe_ifExp (pt_cmpR op_eq (pe_op op_mod (pv 5) pe_int) pe_int (nomark _)) (pe_ix (ix_listK (K := K)) (pv 2) (pe_op op_fdiv (pv 5) pe_int) (fun _ _ => rfl)) (pv 4))))))))))), ?_⟩
    refine ⟨_, rfl, md, la, ca, B, 2, rfl, hst, by decide, by decide, by omega, fun H1 r d1 st1 r1 r2 => ?_⟩
    have hp1 := d1 p _ fp hp
    refine ⟨rfl, _, rfl, ite2b (fun _ => ?_) (fun _ => ?_)⟩
    · exact ⟨_, rfl, q H1 p (fs.map mkS) d1 (st1.le (by omega)) hp1 npl (w19_of hfl hfw hfn)⟩
    · refine ⟨_, rfl, _, _, rfl, rfl, (by decide), ⟨_, rfl⟩, someA ++ someB, " ", rfl, rfl, (by decide), (by decide +kernel), fun q1 hq1 => ?_⟩
      rw [some_split]
      have e1 : Same H1 (upd H1 q1 (.lst (someW.map V.str))) := Same.new hq1
      refine ⟨_, rfl, md, la, ca, B + 1, 23, rfl, st1.same e1, by decide, by decide, by omega, fun H2 n d2 st2 n1 n2 => ?_⟩
      obtain ⟨n, rfl⟩ : ∃ m : Nat, n = m := ⟨n.toNat, by omega⟩
      have hq2 := d2 q1 _ (st1.free hq1) upd_same
      have hp2 := d2 p _ fp (e1 _ _ hp1)
      have d02 : DS md la H H2 := d1.trans ((SBut.of e1).trans d2)
      refine ⟨_, rfl, _, rfl, n, rfl, ?_⟩
      dsimp only [tNoPart]
      refine ⟨q1, _, rfl, SqL.of hq2, fun l1 hl1 => ?_⟩
      rw [cut_from]
      have e3 : Same H2 (upd H2 l1 (.lst ((someW.map V.str).drop n))) := Same.new hl1
      refine ⟨_, rfl, ?_⟩
      dsimp only [tNoPart, tPart]
      refine ⟨_, rfl, n, rfl, q1, _, rfl, SqL.of (e3 _ _ hq2), fun l2 hl2 => ?_⟩
      rw [cut_to]
      have e4 : Same H2 (upd (upd H2 l1 (.lst ((someW.map V.str).drop n))) l2 (.lst ((someW.map V.str).take n))) := e3.trans (Same.new hl2)
      have g1 : (upd (upd H2 l1 (.lst ((someW.map V.str).drop n))) l2 (.lst ((someW.map V.str).take n))) l1 = some (.lst ((someW.map V.str).drop n)) := by rw [upd_ne (ne_of_none upd_same hl2), upd_same]
      have g2 : (upd (upd H2 l1 (.lst ((someW.map V.str).drop n))) l2 (.lst ((someW.map V.str).take n))) l2 = some (.lst ((someW.map V.str).take n)) := upd_same
      generalize upd (upd H2 l1 (.lst ((someW.map V.str).drop n))) l2 (.lst ((someW.map V.str).take n)) = H3 at *
      have hrot : (someW.map V.str).drop n ++ (someW.map V.str).take n = (rotW n).map V.str := by rw [rotW, List.map_append, List.map_drop, List.map_take]
      refine ⟨l1, l2, _, _, rfl, rfl, g1, g2, szn (by simp [someW]; omega), fun l3 hl3 => ?_⟩
      rw [hrot]
      have e5 : Same H2 (upd H3 l3 (.lst ((rotW n).map V.str))) := e4.trans (Same.new hl3)
      have g3 : (upd H3 l3 (.lst ((rotW n).map V.str))) l3 = some (.lst ((rotW n).map V.str)) := upd_same
      generalize upd H3 l3 (.lst ((rotW n).map V.str)) = H4 at *
      refine ⟨l3, rfl, ⟨_, SqL.of g3⟩, fun D hD => ?_⟩
      refine lc_p (walk_list (K := K) (a := l3) (xs := (rotW n).map V.str)) (fun i acc H' => acc = ((rotW n).take i).map V.str) (by have := (rot_perm n).length_eq; simp [this, someW]) hD (fun _ _ _ _ _ p => p) rfl (fun H' e => SqL.of (e _ _ g3)) ?_ ?_
      · rintro i acc v Ha Hb hi hal e rfl ⟨rfl, hx⟩ Qt Qf kt kf
        rw [List.getElem?_map] at hx
        obtain ⟨x, hx1, rfl⟩ : ∃ x, (rotW n)[i]? = some x ∧ v = .str x := by
          cases hn : (rotW n)[i]? with
          | none => rw [hn] at hx; cases hx
          | some x => rw [hn] at hx; exact ⟨x, rfl, (Option.some.inj hx).symm⟩
        have hxs : x ∈ someW := (rot_perm n).mem_iff.mp (List.mem_of_getElem? hx1)
        refine ⟨rfl, _, rfl, _, rfl, p, _, rfl, .inl (SqL.of (e _ _ (e5 _ _ hp2))), rfl, flat_strs _, _, rfl, ifb ?_ ?_⟩
        · show (if true = true then !inV (V.str x) ((fs.map mkS).map V.str) else _) = true
          rw [if_pos rfl, inV_strs, decide_eq_false (fun hm => ?_)]
          · rfl
          · obtain ⟨l, hlm, hle⟩ := List.mem_map.mp hm
            exact (hfw l hlm).ne (some_not x hxs) hle
        · exact ⟨_, rfl, kt _ _ (Same.refl _) (by rw [take_snoc hx1]; simp)⟩
      · rintro zs H5 e6 hz hzl rfl
        rw [List.length_map, List.take_length] at hz
        have e25 := e5.trans e6
        have hp5 := e25 _ _ hp2
        refine ⟨_, rfl, p, _, rfl, SqL.of hp5, fun D2 hD2 => ?_⟩
        refine lc_p (walk_enum (K := K) (a := p) (xs := strsOf fs)) (fun i acc H' => acc = ((List.range i).map (mixW (rotW n) (fs.map mkS))).map V.str) (by simp [strsOf, hfl]) hD2 (fun _ _ _ _ _ p => p) rfl (fun H' e => SqL.of (e _ _ hp5)) ?_ ?_
        · rintro i acc v Ha Hb hi hal e rfl ⟨t0, x, y, rfl, ht0, rfl, hx, hy⟩ Qt Qf kt kf
          cases hx
          have hi19 : i < 19 := by simp [strsOf, hfl] at hi; exact hi
          have hy' : ((fs.map mkS).map V.str)[i]? = some y := hy
          have hyw : y = .str ((fs.map mkS).getD i "") := by
            rw [List.getElem?_map] at hy'
            rw [List.getD_eq_getElem?_getD]
            cases hn : (fs.map mkS)[i]? with
            | none => rw [hn] at hy'; cases hy'
            | some x => rw [hn] at hy'; exact (Option.some.inj hy').symm
          subst hyw
          have e0 : Same Ha (upd Ha t0 (.tup [.int (i : Nat), .str ((fs.map mkS).getD i "")])) := Same.new ht0
          have fin : ∀ z : Str, z = mixW (rotW n) (fs.map mkS) i → Qt (.str z) (upd Ha t0 (.tup [.int (i : Nat), .str ((fs.map mkS).getD i "")])) := fun z hz' => kt _ _ e0 (by rw [List.range_succ, List.map_append, List.map_append, hz']; rfl)
          refine ⟨t0, _, rfl, SqT.of upd_same, rfl, _, _, rfl, _, _, rfl, rfl, rfl, ?_⟩
          refine ⟨_, rfl, _, _, rfl, rfl, (show (0 : Int) < 3 by decide), rfl, _, rfl, ite2b (fun hb => ?_) (fun hb => ?_)⟩
          · have hm : ((i : Nat) : Int) % 3 = 0 := by
              have := of_decide_eq_true hb
              injection this
            have hk : i / 3 < (rotW n).length := by rw [(rot_perm n).length_eq]; simp [someW]; omega
            have hat : atI ((rotW n).map V.str) (((i : Nat) : Int) / 3) = some (.str ((rotW n).getD (i / 3) "")) := by
              refine atI_nat (j := i / 3) ?_
              rw [List.getElem?_map, List.getD_eq_getElem?_getD, List.getElem?_eq_getElem hk]
              rfl
            refine ⟨_, rfl, _, rfl, _, _, rfl, rfl, ⟨by decide, by decide⟩, D, _, _, _, rfl, rfl, SqL.of (e0 _ _ (e _ _ hz)), hat, fin _ ?_⟩
            rw [mixW, if_pos (by omega)]
          · have hm : ¬ ((i : Nat) : Int) % 3 = 0 := fun z => of_decide_eq_false hb (congrArg V.int z)
            refine ⟨_, rfl, fin _ ?_⟩
            rw [mixW, if_neg (by omega)]
        · rintro us H6 e7 hu hul rfl
          have h19 : (strsOf fs).length = 19 := by simp [strsOf, hfl]
          rw [h19] at hu
          have nDl : D2 ≠ la := by
            obtain ⟨hcl, ls, cs, k, h1, h2, _⟩ := st2.same e25
            exact (ne_of_none h2 hD2).symm
          exact q H6 D2 _ (d02.trans (SBut.of (e25.trans e7))) ((st2.same (e25.trans e7)).le (by omega)) hu nDl (w19_mix hfl hfw hfn)
end
end Wk
end

section
set_option Elab.async false
set_option linter.all false
set_option maxRecDepth 100000
/-! limit, limits, promise, sort -/
namespace Wk
open PySem PySem.Spec L2 RZ
def sp_limit : Sp := fun vs H Q _ => ∃ (md la ca : Addr) (B top : Int), vs = [.ref md, .int top] ∧ StAt H md la ca B ∧ B + 5 ≤ 2 ^ 20 ∧ 2000 ≤ top ∧ top ≤ 1000000 ∧ ∀ (H' : Hp) (o : Option Int), DS md la H H' → StAt H' md la ca (B + 5) → optLe o top → Q (ov o) H'
def sp_limits : Sp := fun vs H Q _ => ∃ (md la ca : Addr) (B : Int), vs = [.ref md] ∧ StAt H md la ca B ∧ B + 15 ≤ 2 ^ 20 ∧ ∀ (H' : Hp) (t : Addr) (b : B3), DS md la H H' → StAt H' md la ca (B + 15) → B3ok b → H' t = some (.tup [ov b.1, ov b.2.1, ov b.2.2]) → Q (.ref t) H'
def B3O (H : Hp) (v : V) : Option B3 → Prop
  | none => v = .non
  | some b => B3At H v b
theorem B3O.mono {H H' : Hp} {v : V} {b : Option B3} (e : ISame H H') (h : B3O H v b) : B3O H' v b := by
  cases b with
  | none => exact h
  | some b => exact B3At.mono e h
def okO (o : Option B3) : Prop := ∀ b, o = some b → B3ok b
def sp_law_promise (K : PySem.W.Frag) : Sp := fun vs H Q _ => ∃ (v : V) (o : Option B3), vs = [v] ∧ B3O H v o ∧ okO o ∧ ∀ (H' : Hp) (u : V), Same H H' → PromO K H' u o → Q u H'
def PRowAt (H : Hp) (v : V) (r : RowD) : Prop := ∃ a v1 v2, v = .ref a ∧ H a = some (.tup [.str r.1, v1, v2]) ∧ B3O H v1 r.2.1 ∧ B3O H v2 r.2.2
theorem PRowAt.mono {H H' : Hp} {v : V} {r : RowD} (e : ISame H H') : PRowAt H v r → PRowAt H' v r := fun ⟨a, v1, v2, h1, h2, h3, h4⟩ => ⟨a, v1, v2, h1, e.tup _ _ h2, h3.mono e, h4.mono e⟩
def PlainAt (H : Hp) (t : Addr) (s : SortD) : Prop := ∃ vp rt pt vs, H t = some (.tup [.str s.name, vp, .ref rt, .ref pt]) ∧ B3At H vp s.prom ∧ H rt = some (.tup vs) ∧ AllAt (PRowAt H) vs s.rows ∧ PairsAt H pt s.barred
theorem PlainAt.mono {H H' : Hp} {t : Addr} {s : SortD} (e : ISame H H') : PlainAt H t s → PlainAt H' t s := fun ⟨vp, rt, pt, vs, h1, h2, h3, h4, h5⟩ => ⟨vp, rt, pt, vs, e.tup _ _ h1, h2.mono e, e.tup _ _ h3, h4.mono fun _ _ => PRowAt.mono e, h5.mono e⟩
structure PlainOk (s : SortD) : Prop where
  sort : SortOk s
  prom : B3ok s.prom
  rows : ∀ r ∈ s.rows, okO r.2.1 ∧ okO r.2.2
def sp_law_sort (K : PySem.W.Frag) : Sp := fun vs H Q _ => ∃ (t : Addr) (s : SortD), vs = [.ref t] ∧ PlainAt H t s ∧ PlainOk s ∧ ∀ (H' : Hp) (x : Addr), Same H H' → SortAt K H' x s → Q (.ref x) H'
section
variable {P : Program} {w : World} {K : PySem.W.Frag} {mg : Str → Option Value} {base : Heap}
theorem c_law_limit (T : Tx w K mg) : C8.Cal P w K mg base 3 "_law_limit" sp_limit [] := by
  obtain ⟨fd, F⟩ := T.F_law_limit
  refine ⟨_, fd, ["_law_m", "_law_top"], [], F.ok sc_law_limit (fun vs H Q E h => ?_) (fun cdv A outer s H vs Q E hr h => ?_), T.g_law_limit, F.kp, F.bindsN fun _ _ _ _ _ _ us hl => match us, hl with | [_, _], _ => rfl, .nil⟩
  · obtain ⟨x, a, b, c, d, rfl, _⟩ := h
    rfl
  · obtain ⟨md, la, ca, B, top, rfl, hst, hB, t1, t2, q⟩ := h
    refine ⟨_, PSs.nox (pss_one (ps_ret (pe_ix ix_list (pe_lst (pa_cons pe_non (pa_cons pe_non (pa_cons (C8.pe_c (c_law_draw T) hr (by decide) rfl (pa_cons (pv 0) (pa_cons pe_int pa_nil))) (pa_cons (C8.pe_c (c_law_draw T) hr (by decide) rfl (pa_cons (pv 0) (pa_cons pe_int pa_nil))) (pa_cons (C8.pe_c (c_law_draw T) hr (by decide) rfl (pa_cons (pv 0) (pa_cons pe_int pa_nil))) (pa_cons (pe_op op_sub (pv 1) (C8.pe_c (c_law_draw T) hr (by decide) rfl (pa_cons (pv 0) (pa_cons pe_int pa_nil)))) pa_nil))))))) (C8.pe_c (c_law_draw T) hr (by decide) rfl (pa_cons (pv 0) (pa_cons pe_int pa_nil))) (fun _ _ => rfl)))), ?_⟩
    refine ⟨_, rfl, md, la, ca, B, 6, rfl, hst, by decide, by decide, by omega, fun H1 a d1 st1 a1 a2 => ?_⟩
    refine ⟨_, rfl, md, la, ca, _, 60, rfl, st1, by decide, by decide, by omega, fun H2 b d2 st2 b1 b2 => ?_⟩
    refine ⟨_, rfl, md, la, ca, _, 2000, rfl, st2, by decide, by decide, by omega, fun H3 c d3 st3 c1 c2 => ?_⟩
    refine ⟨_, rfl, _, rfl, md, la, ca, _, 2, rfl, st3, by decide, by decide, by omega, fun H4 d d4 st4 e1 e2 => ?_⟩
    refine ⟨_, _, rfl, rfl, szn (n := 6) (by decide), fun p hp => ?_⟩
    have e5 : Same H4 _ := Same.new (o := .lst [V.non, .non, .int a, .int b, .int c, .int (top - d)]) hp
    refine ⟨_, rfl, md, la, ca, _, 6, rfl, st4.same e5, by decide, by decide, by omega, fun H6 r d6 st6 r1 r2 => ?_⟩
    have hp6 := d6 p _ (st4.free hp) upd_same
    have dd : DS md la H H6 := ((d1.trans d2).trans (d3.trans d4)).trans ((SBut.of e5).trans d6)
    obtain ⟨o, ho, ho2⟩ : ∃ o : Option Int, atI [V.non, .non, .int a, .int b, .int c, .int (top - d)] r = some (ov o) ∧ optLe o top := by
      obtain ⟨n, rfl⟩ : ∃ n : Nat, r = n := ⟨r.toNat, by omega⟩
      match n, r2 with
      | 0, _ => exact ⟨none, rfl, fun i z => by cases z⟩
      | 1, _ => exact ⟨none, rfl, fun i z => by cases z⟩
      | 2, _ => exact ⟨some a, rfl, fun i z => by cases z; omega⟩
      | 3, _ => exact ⟨some b, rfl, fun i z => by cases z; omega⟩
      | 4, _ => exact ⟨some c, rfl, fun i z => by cases z; omega⟩
      | 5, _ => exact ⟨some (top - d), rfl, fun i z => by cases z; omega⟩
      | n + 6, h => omega
    exact ⟨p, _, _, _, rfl, rfl, SqL.of hp6, ho, q H6 o dd (st6.le (by omega)) ho2⟩
theorem c_law_limits (T : Tx w K mg) : C8.Cal P w K mg base 4 "_law_limits" sp_limits [] := by
  obtain ⟨fd, F⟩ := T.F_law_limits
  refine ⟨_, fd, ["_law_m"], [], F.ok sc_law_limits (fun vs H Q E h => ?_) (fun cdv A outer s H vs Q E hr h => ?_), T.g_law_limits, F.kp, F.bindsN fun _ _ _ _ _ _ us hl => match us, hl with | [_], _ => rfl, .nil⟩
  · obtain ⟨x, a, b, c, rfl, _⟩ := h
    rfl
  · obtain ⟨md, la, ca, B, rfl, hst, hB, q⟩ := h
    have e6 : (10 : Int) ^ (6 : Int).toNat = 1000000 := by decide
    refine ⟨_, PSs.nox (pss_one (ps_ret (pe_tup (pa_cons (C8.pe_c (c_law_limit T) hr (by decide) rfl (pa_cons (pv 0) (pa_cons pe_int pa_nil))) (pa_cons (C8.pe_c (c_law_limit T) hr (by decide) rfl (pa_cons (pv 0) (pa_cons (pe_op op_pow pe_int pe_int) pa_nil))) (pa_cons (C8.pe_c (c_law_limit T) hr (by decide) rfl (pa_cons (pv 0) (pa_cons (pe_op op_pow pe_int pe_int) pa_nil))) pa_nil)))))), ?_⟩
    refine ⟨_, rfl, md, la, ca, B, 9999, rfl, hst, by omega, by decide, by decide, fun H1 a d1 st1 ha => ?_⟩
    refine ⟨_, rfl, _, _, rfl, rfl, ⟨by decide, by decide, by decide⟩, md, la, ca, _, _, rfl, st1, by omega, by rw [e6]; decide, by rw [e6]; decide, fun H2 b d2 st2 hb => ?_⟩
    refine ⟨_, rfl, _, _, rfl, rfl, ⟨by decide, by decide, by decide⟩, md, la, ca, _, _, rfl, st2, by omega, by rw [e6]; decide, by rw [e6]; decide, fun H3 c d3 st3 hc => ?_⟩
    rw [e6] at hb hc
    refine ⟨sz3, fun p hp => ?_⟩
    exact q _ p (a, b, c) ((d1.trans (d2.trans d3)).trans (SBut.of (Same.new hp))) ((st3.same (Same.new hp)).le (by omega)) ⟨ha, hb, hc⟩ upd_same
theorem c_law_promise (T : Tx w K mg) : C8.Cal P w K mg base 4 "_law_promise" (sp_law_promise K) [] := by
  obtain ⟨fd, F⟩ := T.F_law_promise
  refine ⟨_, fd, ["_law_three"], [], F.ok sc_law_promise (fun vs H Q E h => ?_) (fun cdv A outer s H vs Q E hr h => ?_), T.g_law_promise, F.kp, F.bindsN fun _ _ _ _ _ _ us hl => match us, hl with | [_], _ => rfl, .nil⟩
  · obtain ⟨x, a, rfl, _⟩ := h
    rfl
  · obtain ⟨v, o, rfl, hv, ho, q⟩ := h
    refine ⟨_, PSs.nox (pss_cons (ps_if (pt_cmpR op_isN (pv 0) pe_non (nomark _)) (pss_one (ps_ret pe_non)) pss_nil)
      (pss_one (ps_ret (pe_mkn0 (kn_Promise T) hr (by decide) rfl (pk_cons (pe_ix ix_tup (pv 0) pe_int (fun _ _ => rfl)) (pk_cons (pe_ix ix_tup (pv 0) pe_int (fun _ _ => rfl)) (pk_cons (pe_ix ix_tup (pv 0) pe_int (fun _ _ => rfl)) pk_nil))))))), ?_⟩
    cases o with
    | none =>
      obtain rfl : v = .non := hv
      exact ⟨_, rfl, rfl, _, rfl, iteT (q H .non (Same.refl _) rfl)⟩
    | some b =>
      obtain ⟨t, rfl, ht⟩ := hv
      refine ⟨_, rfl, rfl, _, rfl, iteF ?_⟩
      refine ⟨_, rfl, t, _, 0, _, rfl, rfl, SqT.of ht, rfl, _, rfl, t, _, 1, _, rfl, rfl, SqT.of ht, rfl, _, rfl, t, _, 2, _, rfl, rfl, SqT.of ht, rfl, rfl, rfl, fun x dx hx hdx hne => ?_⟩
      have e1 := mk_same (o := .own x) (u := .ins (He.ga K "Promise") dx []) hx hdx
      refine ⟨x, dx, b, rfl, upd_same, ho b rfl, fun H' t' k1 _ ht' hx' => ⟨rfl, ?_⟩⟩
      exact q H' (.ref x) (fun a o ha => k1 a o (e1 a o ha) (ne_of_none ha hx)) ⟨x, rfl, dx, t', hx', ht'⟩
theorem c_law_sort (T : Tx w K mg) : C8.Cal P w K mg base 6 "_law_sort" (sp_law_sort K) [] := by
  obtain ⟨fd, F⟩ := T.F_law_sort
  refine ⟨_, fd, ["_law_plain"], [], F.ok sc_law_sort (fun vs H Q E h => ?_) (fun cdv A outer s H vs Q E hr h => ?_), T.g_law_sort, F.kp, F.bindsN fun _ _ _ _ _ _ us hl => match us, hl with | [_], _ => rfl, .nil⟩
  · obtain ⟨x, a, rfl, _⟩ := h
    rfl
  · obtain ⟨t, s, rfl, ⟨vp, rt, pt, us, h1, h2, h3, h4, h5⟩, ok, q⟩ := h
    refine ⟨_, PSs.nox (pss_cons (ps_setLc (i := 1) (own := [("_law_one", 2), ("_law_first", 3), ("_law_last", 4)]) (g := gTup K 3 (gCons (gName 2) (gCons (gName 3) (gCons (gName 4) gNil)))) (by rfl) sc_law_sort.nd rfl rfl (sw_true rfl rfl rfl (by decide +kernel)) (pi_tup (pe_ix ix_tup (pv 0) pe_int (fun _ _ => rfl))) (blkOk_by (own := [("_law_one", 2), ("_law_first", 3), ("_law_last", 4)]) (N := N_law_sort) (sc := defScope s_law_sort) (by decide +kernel)) (fun _ _ _ _ _ => (pg_tup rfl (pgs_cons (pg_name (i := 2) sc_law_sort.nd rfl (Or.inl rfl)) (pgs_cons (pg_name (i := 3) sc_law_sort.nd rfl (Or.inl rfl)) (pgs_cons (pg_name (i := 4) sc_law_sort.nd rfl (Or.inl rfl)) pgs_nil))))) (fun _ _ _ _ _ => pts_nil) (fun _ _ _ _ _ => (pe_tup (pa_cons (pv 2) (pa_cons (C8.pe_c (c_law_promise T) hr (by decide) rfl (pa_cons (pv 3) pa_nil)) (pa_cons (C8.pe_c (c_law_promise T) hr (by decide) rfl (pa_cons (pv 4) pa_nil)) pa_nil))))))
      (pss_one (ps_ret (pe_mkn (kn_Sort T) hr (by decide) rfl (pa_cons (pe_ix ix_tup (pv 0) pe_int (fun _ _ => rfl)) (pa_cons (C8.pe_c (c_law_promise T) hr (by decide) rfl (pa_cons (pe_ix ix_tup (pv 0) pe_int (fun _ _ => rfl)) pa_nil)) pa_nil)) (pk_cons (pe_callTy call_tuple_of (by rfl) T.f_tuple (by decide +kernel) (pa_cons (pv 1) pa_nil)) (pk_cons (pe_ix ix_tup (pv 0) pe_int (fun _ _ => rfl)) pk_nil)))))), ?_⟩
    refine ⟨_, rfl, t, _, 2, _, rfl, rfl, SqT.of h1, rfl, rt, rfl, ⟨_, SqT.of h3⟩, fun D hD => ?_⟩
    refine lc_p (walk_tup (K := K) (a := rt) (xs := us)) (fun i acc H' => AllAt (RowAt K H') acc (s.rows.take i)) (by have := h4.len; have := ok.sort.rows.len; omega) hD (fun _ _ _ _ e p => p.mono fun _ _ => RowAt.mono e) .nil (fun H' e => SqT.of (e _ _ h3)) ?_ ?_
    · rintro i acc v Ha Hb hi hal e hacc ⟨rfl, hx⟩ Qt Qf kt kf
      obtain ⟨r, hr1, a, v1, v2, rfl, g1, g2, g3⟩ := h4.get hx
      obtain ⟨o1, o2⟩ := ok.rows r (List.mem_of_getElem? hr1)
      refine ⟨a, _, rfl, SqT.of (e _ _ g1), rfl, _, _, rfl, _, _, rfl, _, _, rfl, rfl, rfl, ?_⟩
      refine ⟨_, rfl, _, rfl, v1, r.2.1, rfl, g2.mono (.of e), o1, fun H1 u1 e1 hu1 => ?_⟩
      refine ⟨_, rfl, v2, r.2.2, rfl, (g3.mono (.of e)).mono (.of e1), o2, fun H2 u2 e2 hu2 => ?_⟩
      refine ⟨sz3, fun p hp => ?_⟩
      have e3 : Same H2 _ := Same.new (o := .tup [.str r.1, u1, u2]) hp
      refine kt _ _ ((e1.trans e2).trans e3) ?_
      rw [take_snoc hr1]
      exact (hacc.mono fun _ _ => RowAt.mono (.of ((e1.trans e2).trans e3))).snoc ⟨p, u1, u2, rfl, upd_same, hu1.mono (.of (e2.trans e3)), hu2.mono (.of e3)⟩
    · rintro zs H1 e1 hz hzl hall
      rw [h4.len, List.take_length] at hall
      refine ⟨_, rfl, t, _, 0, _, rfl, rfl, SqT.of (e1 _ _ h1), rfl, ?_⟩
      refine ⟨_, rfl, t, _, 1, _, rfl, rfl, SqT.of (e1 _ _ h1), rfl, vp, some s.prom, rfl, h2.mono (.of e1), (fun b z => by cases z; exact ok.prom), fun H2 u e2 hu => ?_⟩
      obtain ⟨pa, rfl, hpa⟩ := hu
      have e12 := e1.trans e2
      refine ⟨_, rfl, D, _, rfl, .inl ⟨SqL.of (e2 _ _ hz), fun l hl => ?_⟩⟩
      have e3 : Same H2 _ := Same.new (o := .tup zs) hl
      have e13 := e12.trans e3
      refine ⟨_, rfl, t, _, 3, _, rfl, rfl, SqT.of (e13 _ _ h1), rfl, rfl, rfl, fun x dx hx hdx hne => ?_⟩
      have e4 := mk_same (o := .own x) (u := .ins (He.ga K "Sort") dx []) hx hdx
      refine ⟨x, dx, pa, l, pt, s, rfl, upd_same, ok.sort, hpa.mono (.of (e3.trans e4)), ⟨zs, e4 _ _ upd_same, hall.mono fun _ _ => RowAt.mono (.of (e2.trans (e3.trans e4)))⟩, h5.mono (.of (e13.trans e4)), fun H' k1 hs => ⟨rfl, ?_⟩⟩
      exact q H' x (fun a o ha => k1 a o (e4 a o (e13 a o ha)) (ne_of_none (e13 a o ha) hx)) hs
end
end Wk
end

section
set_option Elab.async false
set_option linter.all false
set_option maxRecDepth 100000
/-! plain_sort -/
namespace Wk
open PySem PySem.Spec PyProof.Rows L2 RZ
theorem ltS_of {x p : Str} (h : ltCps x.cps.toList p.cps.toList = false) (n : x ≠ p) : ltS p x = true := by
  rw [PyProof.Rows.ltCps_eq] at h
  have h' := of_decide_eq_false h
  refine decide_eq_true ?_
  have h1 : p.cps.toList ≤ x.cps.toList := List.not_lt.mp h'
  apply Classical.byContradiction
  intro z
  have h2 : x.cps.toList ≤ p.cps.toList := List.not_lt.mp z
  have h3 := List.le_antisymm h1 h2
  apply n
  cases x
  cases p
  congr 1
  exact (Array.toList_inj.mp h3).symm
theorem ltS_trans {x y z : Str} (h1 : ltS x y = true) (h2 : ltS y z = true) : ltS x z = true := decide_eq_true (List.lt_trans (of_decide_eq_true h1) (of_decide_eq_true h2))
theorem rising_pw : ∀ (p : Str) (l : List Str), risingS p l = true → (p :: l).Nodup → (p :: l).Pairwise (fun a b => ltS a b = true)
  | p, [], _, _ => by simp
  | p, x :: r, h, n => by
    unfold risingS at h
    rw [Bool.and_eq_true, Bool.not_eq_true'] at h
    obtain ⟨n1, n2⟩ := List.nodup_cons.mp n
    have ih := rising_pw x r h.2 n2
    have hpx : ltS p x = true := ltS_of h.1 (fun z => n1 (by simp [z]))
    refine List.pairwise_cons.mpr ⟨fun y hy => ?_, ih⟩
    rcases List.mem_cons.mp hy with rfl | hy
    · exact hpx
    · exact ltS_trans hpx ((List.pairwise_cons.mp ih).1 y hy)
theorem sorted_pw {ys : List Str} (h : sortedS ys = true) (n : ys.Nodup) : ys.Pairwise (fun a b => ltS a b = true) := by
  cases ys with
  | nil => exact .nil
  | cons x r => exact rising_pw x r h n
theorem pw_chain {α : Type} {lt : α → α → Bool} {rs : List α} (h : rs.Pairwise (fun a b => lt a b = true)) : Chain lt rs := fun i a b ha hb => by
  obtain ⟨h1, e1⟩ := List.getElem?_eq_some_iff.mp ha
  obtain ⟨h2, e2⟩ := List.getElem?_eq_some_iff.mp hb
  have := List.pairwise_iff_getElem.mp h i (i + 1) h1 h2 (by omega)
  rw [e1, e2] at this
  exact this
theorem cut_mid {xs : List V} {a b : Nat} (h : a ≤ b) (hb : b ≤ xs.length) : cutV xs (some (a : Int)) (some (b : Int)) = (xs.drop a).take (b - a) := by
  unfold cutV
  rw [HT.sIx_nat, HT.sIx_nat, Nat.min_eq_left (Nat.le_trans h hb), Nat.min_eq_left hb]
theorem lt2_lt {p q : Str × Str} (h : ltS p.1 q.1 = true) : lt2 p q = true := by
  unfold lt2 lexS
  rw [if_neg (fun z => ?_)]
  · exact h
  · unfold ltS at h
    rw [z] at h
    exact List.lt_irrefl _ (of_decide_eq_true h)
theorem lt2_eq {b x y : Str} (h : ltS x y = true) : lt2 (b, x) (b, y) = true := by
  unfold lt2 lexS lexS
  rw [if_pos rfl, if_neg (fun z => ?_)]
  · exact h
  · unfold ltS at h
    rw [show x = y from z] at h
    exact List.lt_irrefl _ (of_decide_eq_true h)
theorem map_pairwise {α β : Type} {f : α → β} {R : β → β → Prop} {l : List α} (h : (l.map f).Pairwise R) : l.Pairwise (fun a b => R (f a) (f b)) := List.pairwise_map.mp h
theorem AllAt.append {α : Type} {F : V → α → Prop} {a b : List V} {c d : List α} (h1 : AllAt F a c) (h2 : AllAt F b d) : AllAt F (a ++ b) (c ++ d) := by
  refine ⟨by rw [List.length_append, List.length_append, h1.len, h2.len], fun i v r hv hr => ?_⟩
  by_cases hi : i < a.length
  · rw [List.getElem?_append_left hi] at hv
    rw [List.getElem?_append_left (by rw [← h1.len]; exact hi)] at hr
    exact h1.at_ i v r hv hr
  · rw [List.getElem?_append_right (by omega)] at hv
    rw [List.getElem?_append_right (by rw [← h1.len]; omega), ← h1.len] at hr
    exact h2.at_ _ v r hv hr
def sp_plain_sort : Sp := fun vs H Q _ => ∃ (md la ca wl : Addr) (B : Int) (ws : List Str), vs = [.ref md, .ref wl] ∧ StAt H md la ca B ∧ B + 500 ≤ 2 ^ 20 ∧ H wl = some (.lst (ws.map V.str)) ∧ wl ≠ la ∧ W19 ws ∧
  ∀ (H' : Hp) (t : Addr) (s : SortD), DS md la H H' → StAt H' md la ca (B + 500) → PlainAt H' t s → PlainOk s → s.name ∈ ws → (∀ r ∈ s.rows, r.1 ∈ ws) → Q (.ref t) H'
section
variable {P : Program} {w : World} {K : PySem.W.Frag} {mg : Str → Option Value} {base : Heap}
theorem c_law_plain_sort (T : Tx w K mg) : C8.Cal P w K mg base 5 "_law_plain_sort" sp_plain_sort [] := by
  obtain ⟨fd, F⟩ := T.F_law_plain_sort
  refine ⟨_, fd, ["_law_m", "_law_w"], [], F.ok sc_law_plain_sort (fun vs H Q E h => ?_) (fun cdv A outer s H vs Q E hr h => ?_), T.g_law_plain_sort, F.kp, F.bindsN fun _ _ _ _ _ _ us hl => match us, hl with | [_, _], _ => rfl, .nil⟩
  · obtain ⟨x, a, b, c, d, e, rfl, _⟩ := h
    rfl
  · obtain ⟨md, la, ca, wl, B, ws, rfl, hst, hB, hw, nwl, w19, q⟩ := h
    have nwm : wl ≠ md := by
      obtain ⟨hcl, ls, cs, k, h1, _⟩ := id hst
      exact ne_of hw h1 (fun z => by cases z)
    have fw : ¬ (wl = md ∨ wl = la) := fun z => z.elim nwm nwl
    have none_free : ∀ {a : Addr}, H a = none → ¬ (a = md ∨ a = la) := fun h => hst.free h
    refine ⟨_, PSs.nox (pss_cons (ps_par (i := 2) (j := 3) (by rfl) sc_law_plain_sort.nd rfl rfl (by decide) rfl rfl (pa_cons (pe_lst pa_nil) (pa_cons (pe_lst pa_nil) pa_nil)) (by rfl))
      (pss_cons (ps_for PassesOwn.never rfl (pi_list (pe_callB cr_sortedS (by rfl) T.f_sorted (by decide +kernel) (pa_cons (pe_slice sl_list (pv 1) (po_some pe_int) (po_some (pe_op op_add pe_int (C8.pe_c (c_law_draw T) hr (by decide) rfl (pa_cons (pv 0) (pa_cons (pe_ix ix_list (pe_lst (pa_cons pe_int (pa_cons pe_int pa_nil))) (C8.pe_c (c_law_draw T) hr (by decide) rfl (pa_cons (pv 0) (pa_cons pe_int pa_nil))) (fun _ _ => rfl)) pa_nil)))))) pa_nil))) (pg_name (i := 4) sc_law_plain_sort.nd rfl (Or.inl rfl)) (pss_cons (ps_set (i := 5) sc_law_plain_sort.nd rfl (Or.inl rfl) (pe_ix ix_list (pe_lst (pa_cons pe_non (pa_cons (C8.pe_c (c_law_limits T) hr (by decide) rfl (pa_cons (pv 0) pa_nil)) pa_nil))) (C8.pe_c (c_law_draw T) hr (by decide) rfl (pa_cons (pv 0) (pa_cons pe_int pa_nil))) (fun _ _ => rfl)))
        (pss_one (ps_expr (pe_bm PySem.F.plainAttrs_list PySem.F.slot_list_append PySem.F.type_list_append mt_append (pv 2) (pa_cons (pe_tup (pa_cons (pv 4) (pa_cons (pv 5) (pa_cons (pe_ix ix_list (pe_lst (pa_cons pe_non (pa_cons (C8.pe_c (c_law_limits T) hr (by decide) rfl (pa_cons (pv 0) pa_nil)) pa_nil))) (C8.pe_c (c_law_draw T) hr (by decide) rfl (pa_cons (pv 0) (pa_cons pe_int pa_nil))) (fun _ _ => rfl)) pa_nil)))) pa_nil))))))
      (pss_cons (ps_for PassesOwn.never rfl (pi_list (pe_callB cr_sortedS (by rfl) T.f_sorted (by decide +kernel) (pa_cons (pe_slice sl_list (pv 1) (po_some pe_int) (po_some pe_int)) pa_nil))) (pg_name (i := 6) sc_law_plain_sort.nd rfl (Or.inr rfl)) (pss_one (ps_set (i := 3) sc_law_plain_sort.nd rfl (Or.inl rfl) (pe_op op_cat (pv 3) (pe_lc (own := [("_law_row", 7)]) (g := gName 7) rfl sc_law_plain_sort.nd (pi_list (pe_slice sl_list (pv 2) po_none (po_some pe_int))) (blkOk_by (own := [("_law_row", 7)]) (N := N_law_plain_sort) (sc := defScope s_law_plain_sort) (by decide +kernel)) (fun _ _ _ _ _ => (pg_name (i := 7) sc_law_plain_sort.nd rfl (Or.inl rfl))) (fun _ _ _ _ _ => (pts_one (pt_cmpR op_eq (C8.pe_c (c_law_draw T) hr (by decide) rfl (pa_cons (pv 0) (pa_cons pe_int pa_nil))) pe_int (nomark _)))) (fun _ _ _ _ _ => (pe_tup (pa_cons (pv 6) (pa_cons (pe_ix (ix_tupK (K := K)) (pv 7) pe_int (fun _ _ => rfl)) pa_nil)))))))))
      (pss_one (ps_ret (pe_tup (pa_cons (pe_ix ix_list (pv 1) pe_int (fun _ _ => rfl)) (pa_cons (C8.pe_c (c_law_limits T) hr (by decide) rfl (pa_cons (pv 0) pa_nil)) (pa_cons (pe_callTy call_tuple_of (by rfl) T.f_tuple (by decide +kernel) (pa_cons (pv 2) pa_nil)) (pa_cons (pe_callTy call_tuple_of (by rfl) T.f_tuple (by decide +kernel) (pa_cons (pv 3) pa_nil)) pa_nil)))))))))), ?_⟩
    refine ⟨szn (Nat.zero_le _), fun D1 hD1 => ⟨szn (Nat.zero_le _), fun D2 hD2 => ⟨_, _, rfl, ?_⟩⟩⟩
    have e0 : Same H (upd (upd H D1 (.lst [])) D2 (.lst [])) := (Same.new hD1).trans (Same.new hD2)
    have hD20 : H D2 = none := (Same.new hD1).free hD2
    have h01 : (upd (upd H D1 (.lst [])) D2 (.lst [])) D1 = some (.lst []) := by rw [upd_ne (ne_of_none upd_same hD2), upd_same]
    have h02 : (upd (upd H D1 (.lst [])) D2 (.lst [])) D2 = some (.lst []) := upd_same
    obtain ⟨nD1m, nD1l, nD1c⟩ := hst.fresh hD1
    have nD12 : D2 ≠ D1 := (ne_of_none (upd_same (H := H) (a := D1) (o := .lst [])) hD2).symm
    generalize upd (upd H D1 (.lst [])) D2 (.lst []) = H0 at *
    have st0 := hst.same e0
    have hw0 := e0 _ _ hw
    have nD1w : D1 ≠ wl := (ne_of_none hw hD1).symm
    have fD1 := none_free hD1
    have fD2 := none_free hD20
    refine ⟨_, rfl, _, rfl, _, rfl, szn (n := 2) (by decide), fun q1 hq1 => ?_⟩
    have e1 : Same H0 _ := Same.new (o := .lst [V.int 4, .int 13]) hq1
    refine ⟨_, rfl, md, la, ca, B, 2, rfl, st0.same e1, by decide, by decide, by omega, fun H1 r d1 st1 r1 r2 => ?_⟩
    have hq11 := d1 q1 _ (st0.free hq1) upd_same
    obtain ⟨many, hmany, mn1, mn2⟩ : ∃ m : Int, atI [V.int 4, .int 13] r = some (.int m) ∧ 1 ≤ m ∧ m ≤ 13 := by
      obtain ⟨n, rfl⟩ : ∃ n : Nat, r = n := ⟨r.toNat, by omega⟩
      match n, r2 with
      | 0, _ => exact ⟨4, rfl, by decide, by decide⟩
      | 1, _ => exact ⟨13, rfl, by decide, by decide⟩
      | n + 2, h => omega
    refine ⟨q1, _, _, _, rfl, rfl, SqL.of hq11, hmany, md, la, ca, B + 1, many, rfl, st1, mn1, by omega, by omega, fun H2 c d2 st2 c1 c2 => ?_⟩
    obtain ⟨cn, rfl⟩ : ∃ n : Nat, c = n := ⟨c.toNat, by omega⟩
    have d02 : DS md la H H2 := (SBut.of (e0.trans e1)).trans (d1.trans d2)
    have keep : ∀ {a : Addr} {o : HO}, ¬ (a = md ∨ a = la) → H0 a = some o → H2 a = some o := fun f h => d2 _ _ f (d1 _ _ f (e1 _ _ h))
    have hw2 := keep fw hw0
    refine ⟨_, _, rfl, rfl, _, rfl, wl, _, rfl, SqL.of hw2, fun p hp => ?_⟩
    have hcut : cutV (ws.map V.str) (some 1) (some (1 + (cn : Int))) = ((ws.drop 1).take cn).map V.str := by
      have := cut_mid (xs := ws.map V.str) (a := 1) (b := 1 + cn) (by omega) (by simp [w19.len]; omega)
      rw [show (1 : Int) + (cn : Int) = ((1 + cn : Nat) : Int) by push_cast; rfl]
      rw [show (some (1 : Int)) = some ((1 : Nat) : Int) from rfl, this]
      rw [show 1 + cn - 1 = cn by omega, List.map_take, List.map_drop]
    rw [hcut]
    have hxs12 : ((ws.drop 1).take cn).length ≤ 12 := by simp; omega
    have hxsub : ∀ x ∈ (ws.drop 1).take cn, x ∈ ws := fun x hx => List.mem_of_mem_drop (List.mem_of_mem_take hx)
    have hxnd : ((ws.drop 1).take cn).Nodup := List.Sublist.nodup ((List.take_sublist _ _).trans (List.drop_sublist _ _)) w19.nd
    have e3 : Same H2 _ := Same.new (o := .lst (((ws.drop 1).take cn).map V.str)) hp
    refine ⟨p, _, rfl, SqL.of upd_same, by omega, fun ys p2 perm srt hp2 => ?_⟩
    have hys12 : ys.length ≤ 12 := by rw [perm.length_eq]; exact hxs12
    have hyw : ∀ y ∈ ys, y ∈ ws := fun y hy => hxsub y (perm.mem_iff.mp hy)
    have hypw := sorted_pw srt (perm.nodup_iff.mpr hxnd)
    have e4 : Same H2 _ := e3.trans (Same.new (o := .lst (ys.map V.str)) hp2)
    have hp20 : H2 p2 = none := e3.free hp2
    have fp2 : ¬ (p2 = md ∨ p2 = la) := st2.free hp20
    have hD12 := keep fD1 h01
    have hD22 := keep fD2 h02
    have nD1p2 : D1 ≠ p2 := ne_of_none hD12 hp20
    refine ⟨p2, rfl, ⟨_, SqL.of upd_same⟩, ?_⟩
    have start : (upd (upd H2 p (.lst (((ws.drop 1).take cn).map V.str))) p2 (.lst (ys.map V.str))) p2 = some (.lst (ys.map V.str)) := upd_same
    generalize upd (upd H2 p (.lst (((ws.drop 1).take cn).map V.str))) p2 (.lst (ys.map V.str)) = H3 at *
    refine for_it (walk_list (K := K) (a := p2) (xs := ys.map V.str)) (fun i σ H' => ∃ x4 x5 rows us, σ = [some (.ref md), some (.ref wl), some (.ref D1), some (.ref D2), x4, x5, none, none] ∧ DS md la H H' ∧ StAt H' md la ca (B + 2 + 32 * i) ∧ H' wl = some (.lst (ws.map V.str)) ∧
      H' D1 = some (.lst us) ∧ AllAt (PRowAt H') us rows ∧ rows.map (·.1) = ys.take i ∧ (∀ r ∈ rows, okO r.2.1 ∧ okO r.2.2) ∧ H' D2 = some (.lst []) ∧ H' p2 = some (.lst (ys.map V.str)))
      ⟨_, _, [], [], rfl, d02.trans (SBut.of e4), (st2.same e4).le (by omega), e4 _ _ hw2, e4 _ _ hD12, .nil, rfl, (fun _ z => by cases z), e4 _ _ hD22, start⟩ (fun i σ H' _ ⟨_, _, _, _, _, _, _, _, _, _, _, _, _, h⟩ => SqL.of h) ?_ ?_
    · rintro i v σ Ha Hb hi ⟨x4, x5, rows, us, rfl, dA, stA, hwA, hDA, hall, hnm, hok, hD2A, hp2A⟩ ⟨rfl, hx⟩
      have hi12 : i < 12 := by simp at hi; omega
      obtain ⟨y, hy1, rfl⟩ : ∃ y, ys[i]? = some y ∧ v = .str y := by
        rw [List.getElem?_map] at hx
        cases hn : ys[i]? with
        | none => rw [hn] at hx; cases hx
        | some y => rw [hn] at hx; exact ⟨y, rfl, (Option.some.inj hx).symm⟩
      refine ⟨_, rfl, md, la, ca, _, rfl, stA, by omega, fun H4 t b d4 st4 okb ht => ?_⟩
      refine ⟨szn (n := 2) (by decide), fun q2 hq2 => ?_⟩
      have e5 : Same H4 _ := Same.new (o := .lst [V.non, .ref t]) hq2
      refine ⟨_, rfl, md, la, ca, _, 2, rfl, st4.same e5, by decide, by decide, by omega, fun H5 r d5 st5 r1 r2 => ?_⟩
      have hq25 := d5 q2 _ (st4.free hq2) upd_same
      have is45 : ISame H4 H5 := (ISame.of e5).trans ((st4.same e5).is d5)
      obtain ⟨v1, o1, hat1, hv1, hok1⟩ : ∃ v1 o1, atI [V.non, .ref t] r = some v1 ∧ B3O H5 v1 o1 ∧ okO o1 := by
        obtain ⟨n, rfl⟩ : ∃ n : Nat, r = n := ⟨r.toNat, by omega⟩
        match n, r2 with
        | 0, _ => exact ⟨.non, none, rfl, rfl, fun b z => by cases z⟩
        | 1, _ => exact ⟨.ref t, some b, rfl, ⟨t, rfl, is45.tup _ _ ht⟩, fun b z => by cases z; exact okb⟩
        | n + 2, h => omega
      refine ⟨q2, _, _, _, rfl, rfl, SqL.of hq25, hat1, ?_⟩
      have d05 : DS md la Hb H5 := d4.trans ((SBut.of e5).trans d5)
      have hD15 := d05 D1 _ fD1 hDA
      refine ⟨_, rfl, .inl ⟨rfl, _, SqL.of hD15⟩, _, rfl, _, rfl, ?_⟩
      refine ⟨_, rfl, md, la, ca, _, rfl, st5, by omega, fun H6 t2 b2 d6 st6 okb2 ht2 => ?_⟩
      refine ⟨szn (n := 2) (by decide), fun q3 hq3 => ?_⟩
      have e7 : Same H6 _ := Same.new (o := .lst [V.non, .ref t2]) hq3
      refine ⟨_, rfl, md, la, ca, _, 2, rfl, st6.same e7, by decide, by decide, by omega, fun H7 r7 d7 st7 r71 r72 => ?_⟩
      have hq37 := d7 q3 _ (st6.free hq3) upd_same
      have is67 : ISame H6 H7 := (ISame.of e7).trans ((st6.same e7).is d7)
      have is57 : ISame H5 H7 := (st5.is d6).trans is67
      obtain ⟨v2, o2, hat2, hv2, hok2⟩ : ∃ v2 o2, atI [V.non, .ref t2] r7 = some v2 ∧ B3O H7 v2 o2 ∧ okO o2 := by
        obtain ⟨n, rfl⟩ : ∃ n : Nat, r7 = n := ⟨r7.toNat, by omega⟩
        match n, r72 with
        | 0, _ => exact ⟨.non, none, rfl, rfl, fun b z => by cases z⟩
        | 1, _ => exact ⟨.ref t2, some b2, rfl, ⟨t2, rfl, is67.tup _ _ ht2⟩, fun b z => by cases z; exact okb2⟩
        | n + 2, h => omega
      refine ⟨q3, _, _, _, rfl, rfl, SqL.of hq37, hat2, sz3, fun p3 hp3 => ?_⟩
      have d57 : DS md la H5 H7 := d6.trans ((SBut.of e7).trans d7)
      have d07 : DS md la Hb H7 := d05.trans d57
      have e8 : Same H7 _ := Same.new (o := .tup [.str y, v1, v2]) hp3
      have hD18 := e8 _ _ (d07 D1 _ fD1 hDA)
      have is8 : ISame H7 (upd H7 p3 (.tup [.str y, v1, v2])) := .of e8
      have isA : ISame Hb H7 := ((stA.is d4).trans is45).trans is57
      have row := PRowAt.mono (ISame.lst (o := .lst (us ++ [.ref p3])) hD18) (⟨p3, v1, v2, rfl, upd_same, (hv1.mono is57).mono is8, hv2.mono is8⟩ : PRowAt (upd H7 p3 (.tup [.str y, v1, v2])) (.ref p3) (y, o1, o2))
      refine ⟨D1, us, _, rfl, rfl, hD18, Nat.lt_of_lt_of_le (show us.length < 1000 by
        have h1 := hall.len
        have h2 := congrArg List.length hnm
        simp at h2
        omega) (by decide), ?_⟩
      have keepA : ∀ {a : Addr} {o : HO}, ¬ (a = md ∨ a = la) → a ≠ D1 → Hb a = some o → (upd (upd H7 p3 (.tup [.str y, v1, v2])) D1 (.lst (us ++ [.ref p3]))) a = some o := fun f n h => by
        rw [upd_ne n]
        exact e8 _ _ (d07 _ _ f h)
      refine ⟨_, _, rows ++ [(y, o1, o2)], us ++ [.ref p3], rfl, ((dA.trans d07).trans (SBut.of e8)).mut hD1, ((st7.same e8).upd nD1m nD1l nD1c).le (by push_cast; omega), keepA fw nD1w.symm hwA, upd_same, ?_, ?_, ?_, keepA fD2 nD12 hD2A, keepA fp2 nD1p2.symm hp2A⟩
      · exact (((hall.mono fun _ _ => PRowAt.mono isA).mono fun _ _ => PRowAt.mono is8).mono fun _ _ => PRowAt.mono (ISame.lst hD18)).snoc row
      · rw [List.map_append, hnm, take_snoc hy1]
        rfl
      · intro r hr
        rcases List.mem_append.mp hr with hr | hr
        · exact hok r hr
        · rw [List.mem_singleton.mp hr]; exact ⟨hok1, hok2⟩
    · rintro σ H4 ⟨x4, x5, rows, us, rfl, d4, st4, hw4, hD14, hall, hnm, hok, hD24, hp24⟩
      have hylen : (ys.map V.str).length = ys.length := by simp
      rw [hylen, List.take_length] at hnm
      have hrl : rows.length ≤ 12 := by
        have := congrArg List.length hnm
        simp at this
        omega
      have hul : us.length ≤ 12 := by rw [hall.len]; exact hrl
      refine ⟨_, rfl, _, rfl, _, rfl, wl, _, rfl, SqL.of hw4, fun p3 hp3 => ?_⟩
      have hcut2 : cutV (ws.map V.str) (some 13) (some 16) = ((ws.drop 13).take 3).map V.str := by
        have := cut_mid (xs := ws.map V.str) (a := 13) (b := 16) (by omega) (by simp [w19.len])
        rw [show (some (13 : Int)) = some ((13 : Nat) : Int) from rfl, show (some (16 : Int)) = some ((16 : Nat) : Int) from rfl, this, List.map_take, List.map_drop]
      rw [hcut2]
      have e5 : Same H4 _ := Same.new (o := .lst (((ws.drop 13).take 3).map V.str)) hp3
      have hz3 : ((ws.drop 13).take 3).length ≤ 3 := by simp; omega
      refine ⟨p3, _, rfl, SqL.of upd_same, by omega, fun zs p4 perm2 srt2 hp4 => ?_⟩
      have hzs3 : zs.length ≤ 3 := by rw [perm2.length_eq]; exact hz3
      have hzw : ∀ z ∈ zs, z ∈ ws := fun z hz => List.mem_of_mem_drop (List.mem_of_mem_take (perm2.mem_iff.mp hz))
      have hznd : ((ws.drop 13).take 3).Nodup := List.Sublist.nodup ((List.take_sublist _ _).trans (List.drop_sublist _ _)) w19.nd
      have hzpw := sorted_pw srt2 (perm2.nodup_iff.mpr hznd)
      have e6 : Same H4 _ := e5.trans (Same.new (o := .lst (zs.map V.str)) hp4)
      have hp40 : H4 p4 = none := e5.free hp4
      have fp4 : ¬ (p4 = md ∨ p4 = la) := st4.free hp40
      refine ⟨p4, rfl, ⟨_, SqL.of upd_same⟩, ?_⟩
      have start2 : (upd (upd H4 p3 (.lst (((ws.drop 13).take 3).map V.str))) p4 (.lst (zs.map V.str))) p4 = some (.lst (zs.map V.str)) := upd_same
      generalize upd (upd H4 p3 (.lst (((ws.drop 13).take 3).map V.str))) p4 (.lst (zs.map V.str)) = H5 at *
      have hrpw : rows.Pairwise (fun a b => ltS a.1 b.1 = true) := map_pairwise (f := fun r : RowD => r.1) (by rw [hnm]; exact hypw)
      refine for_it (walk_list (K := K) (a := p4) (xs := zs.map V.str)) (fun i σ H' => ∃ x6 x7 D3 ps vs, σ = [some (.ref md), some (.ref wl), some (.ref D1), some (.ref D3), x4, x5, x6, x7] ∧ DS md la H H' ∧ StAt H' md la ca (B + 400 + 8 * i) ∧ H' wl = some (.lst (ws.map V.str)) ∧
        H' D1 = some (.lst us) ∧ AllAt (PRowAt H') us rows ∧ H' D3 = some (.lst vs) ∧ ¬ (D3 = md ∨ D3 = la) ∧ AllAt (PairAt H') vs ps ∧ H' p4 = some (.lst (zs.map V.str)) ∧ ps.Pairwise (fun a b => lt2 a b = true) ∧ (∀ p ∈ ps, p.1 ∈ zs.take i ∧ p.2 ∈ rows.map (·.1)) ∧ ps.length ≤ 8 * i)
        ⟨_, _, D2, [], [], rfl, d4.trans (SBut.of e6), (st4.same e6).le (by have : (ys.map V.str).length ≤ 12 := by simpa using hys12
                                                                            omega), e6 _ _ hw4, e6 _ _ hD14, hall.mono fun _ _ => PRowAt.mono (.of e6), e6 _ _ hD24, fD2, .nil, start2, .nil, (fun _ z => by cases z), by simp⟩ (fun i σ H' _ ⟨_, _, _, _, _, _, _, _, _, _, _, _, _, _, h, _⟩ => SqL.of h) ?_ ?_
      · rintro i v σ Ha Hb hi ⟨x6, x7, D3, ps, vs, rfl, dA, stA, hwA, hDA, hallA, hD3A, fD3, hpsA, hp4A, hpw, hmem, hpl⟩ ⟨rfl, hx⟩
        have hi3 : i < 3 := by simp at hi; omega
        obtain ⟨bad, hbad, rfl⟩ : ∃ y, zs[i]? = some y ∧ v = .str y := by
          rw [List.getElem?_map] at hx
          cases hn : zs[i]? with
          | none => rw [hn] at hx; cases hx
          | some y => rw [hn] at hx; exact ⟨y, rfl, (Option.some.inj hx).symm⟩
        refine ⟨_, rfl, _, rfl, ?_⟩
        dsimp only [tNoPart, tPart]
        refine ⟨8, rfl, D1, _, rfl, SqL.of hDA, fun q5 hq5 => ?_⟩
        have hc8 : cutV us none (some 8) = us.take 8 := cut_to (n := 8)
        rw [hc8]
        have e7 : Same Hb (upd Hb q5 (.lst (us.take 8))) := Same.new hq5
        have fq5 : ¬ (q5 = md ∨ q5 = la) := stA.free hq5
        refine ⟨q5, rfl, ⟨_, SqL.of upd_same⟩, fun D hD => ?_⟩
        have hst7 := stA.same e7
        have hq57 : (upd Hb q5 (.lst (us.take 8))) q5 = some (.lst (us.take 8)) := upd_same
        have hall7 := hallA.mono fun _ _ => PRowAt.mono (.of e7)
        have hD37 := e7 _ _ hD3A
        have hps7 := hpsA.mono fun _ _ => PairAt.mono (.of e7)
        have hw7 := e7 _ _ hwA
        have hDA7 := e7 _ _ hDA
        have hp47 := e7 _ _ hp4A
        have dA7 := dA.trans (SBut.of e7)
        generalize upd Hb q5 (.lst (us.take 8)) = H7 at *
        obtain ⟨nDm, nDl, nDc⟩ := hst7.fresh hD
        refine lc_b (walk_list (K := K) (a := q5) (xs := us.take 8)) (fun a => a = md ∨ a = la) (fun j acc Hx => StAt Hx md la ca (B + 400 + 8 * i + j) ∧ ∃ sub, AllAt (PairAt Hx) acc sub ∧ sub.Sublist (((rows.take 8).take j).map fun r : RowD => (bad, r.1))) (by simp; omega) hD hst7.here
          (fun j acc Hx y1 y2 hz ⟨s1, sub, s2, s3⟩ => ⟨s1.upd nDm nDl nDc, sub, s2.mono fun _ _ => PairAt.mono (ISame.lst hz), s3⟩) ⟨(hst7.upd nDm nDl nDc).le (by omega), [], .nil, List.nil_sublist _⟩ (fun j acc Hx e _ => SqL.of (e q5 _ fq5 hq57)) ?_ ?_
        · rintro j acc v Ha Hc hj hal e hacc ⟨s1, sub, s2, s3⟩ ⟨rfl, hx⟩ Qt Qf kt kf
          have hj8 : j < 8 := by simp at hj; omega
          have hxu : us[j]? = some v := by rw [List.getElem?_take_of_lt hj8] at hx; exact hx
          obtain ⟨rd, hrd, a, v1, v2, rfl, g1, g2, g3⟩ := hall7.get hxu
          have isH : ISame H7 Hc := hst7.is e
          have htk : (rows.take 8)[j]? = some rd := by rw [List.getElem?_take_of_lt hj8]; exact hrd
          refine ⟨rfl, _, rfl, md, la, ca, _, 3, rfl, s1, by decide, by decide, by omega, fun H8 r8 d8 st8 r81 r82 => ?_⟩
          have is8 := s1.is d8
          refine ⟨rfl, _, rfl, ite2b (fun _ => ?_) (fun _ => ?_)⟩
          · refine ⟨_, rfl, _, rfl, a, _, 0, _, rfl, rfl, SqT.of (is8.tup _ _ (isH.tup _ _ g1)), rfl, sz2, fun p9 hp9 => ?_⟩
            have e9 : Same H8 _ := Same.new (o := .tup [.str bad, .str rd.1]) hp9
            refine kt _ _ (d8.trans (SBut.of e9)) ⟨(st8.same e9).le (by push_cast; omega), sub ++ [(bad, rd.1)], ?_, ?_⟩
            · exact ((s2.mono fun _ _ => PairAt.mono is8).mono fun _ _ => PairAt.mono (.of e9)).snoc ⟨p9, rfl, upd_same⟩
            · rw [take_snoc htk, List.map_append]
              exact s3.append (List.Sublist.refl _)
          · refine kf _ d8 ⟨st8.le (by push_cast; omega), sub, s2.mono fun _ _ => PairAt.mono is8, ?_⟩
            rw [take_snoc htk, List.map_append]
            exact s3.trans (List.sublist_append_left _ _)
        · rintro us9 H9 e9 h9 hl9 ⟨s1, sub, s2, s3⟩
          have is9 : ISame H7 H9 := hst7.is e9
          have hD39 := e9 D3 _ fD3 hD37
          have hsl : sub.length ≤ 8 := by
            have := s3.length_le
            simp at this
            omega
          have hsub : ∀ p ∈ sub, p.1 = bad ∧ p.2 ∈ rows.map (·.1) := fun p hp => by
            obtain ⟨r, hr, rfl⟩ := List.mem_map.mp (s3.subset hp)
            exact ⟨rfl, List.mem_map.mpr ⟨r, List.mem_of_mem_take (List.mem_of_mem_take hr), rfl⟩⟩
          have hvl := hps7.len
          have hul9 := s2.len
          refine ⟨D3, D, vs, us9, rfl, rfl, hD39, h9, szn (by omega), fun p6 hp6 => ?_⟩
          have e10 : Same H9 _ := Same.new (o := .lst (vs ++ us9)) hp6
          have fp6 : ¬ (p6 = md ∨ p6 = la) := s1.free hp6
          refine ⟨_, _, p6, ps ++ sub, vs ++ us9, rfl, (dA7.trans e9).trans (SBut.of e10), (s1.same e10).le ?_, e10 _ _ (e9 _ _ fw hw7), e10 _ _ (e9 _ _ fD1 hDA7), (hall7.mono fun _ _ => PRowAt.mono is9).mono fun _ _ => PRowAt.mono (.of e10), upd_same, fp6, ?_, e10 _ _ (e9 _ _ fp4 hp47), ?_, ?_, by simp; omega⟩
          · have : (us.take 8).length ≤ 8 := by simp; omega
            push_cast
            omega
          · exact AllAt.append ((hps7.mono fun _ _ => PairAt.mono is9).mono fun _ _ => PairAt.mono (.of e10)) (s2.mono fun _ _ => PairAt.mono (.of e10))
          · refine List.pairwise_append.mpr ⟨hpw, ?_, fun a ha b hb => ?_⟩
            · refine List.Pairwise.sublist s3 (List.pairwise_map.mpr ?_)
              exact (hrpw.sublist ((List.take_sublist _ _).trans (List.take_sublist _ _))).imp fun h => lt2_eq h
            · obtain ⟨hb1, _⟩ := hsub b hb
              obtain ⟨ha1, _⟩ := hmem a ha
              refine lt2_lt ?_
              rw [hb1]
              obtain ⟨k, hk⟩ := List.getElem?_of_mem ha1
              obtain ⟨hk1, hk2⟩ := List.getElem?_eq_some_iff.mp hk
              obtain ⟨hi1, hi2⟩ := List.getElem?_eq_some_iff.mp hbad
              have hki : k < i := by simp at hk1; omega
              have hk3 : zs[k]'(by omega) = a.1 := by
                rw [List.getElem_take] at hk2
                exact hk2
              have := List.pairwise_iff_getElem.mp hzpw k i (by omega) hi1 hki
              rw [hk3, hi2] at this
              exact this
          · intro p hp
            rcases List.mem_append.mp hp with hp | hp
            · obtain ⟨h1, h2⟩ := hmem p hp
              refine ⟨?_, h2⟩
              rw [take_snoc hbad]
              exact List.mem_append.mpr (.inl h1)
            · obtain ⟨h1, h2⟩ := hsub p hp
              refine ⟨?_, h2⟩
              rw [take_snoc hbad, h1]
              simp
      · rintro σ H6 ⟨x6, x7, D3, ps, vs, rfl, d6, st6, hw6, hD16, hall6, hD36, fD3, hps6, hp46, hpw, hmem, hpl⟩
        have hzl : (zs.map V.str).length ≤ 3 := by simpa using hzs3
        obtain ⟨w0, wr, hws⟩ : ∃ w0 wr, ws = w0 :: wr := by
          cases hws : ws with
          | nil => have := w19.len; rw [hws] at this; cases this
          | cons a b => exact ⟨a, b, rfl⟩
        have hat0 : atI (ws.map V.str) 0 = some (.str w0) := by rw [hws]; exact at0
        have hw0m : w0 ∈ ws := by rw [hws]; simp
        refine ⟨_, rfl, wl, _, 0, _, rfl, rfl, SqL.of hw6, hat0, ?_⟩
        refine ⟨_, rfl, md, la, ca, _, rfl, st6, by omega, fun H7 t b d7 st7 okb ht => ?_⟩
        have is7 := st6.is d7
        refine ⟨_, rfl, D1, _, rfl, .inl ⟨SqL.of (d7 _ _ fD1 hD16), fun l1 hl1 => ?_⟩⟩
        have e8 : Same H7 _ := Same.new (o := .tup us) hl1
        refine ⟨_, rfl, D3, _, rfl, .inl ⟨SqL.of (e8 _ _ (d7 _ _ fD3 hD36)), fun l2 hl2 => ?_⟩⟩
        have e9 : Same H7 _ := e8.trans (Same.new (o := .tup vs) hl2)
        refine ⟨szn (n := 4) (by decide), fun l3 hl3 => ?_⟩
        have e10 : Same H7 _ := e9.trans (Same.new (o := .tup [.str w0, .ref t, .ref l1, .ref l2]) hl3)
        have g1 := (Same.new (o := .tup [.str w0, .ref t, .ref l1, .ref l2]) hl3) _ _ ((Same.new (o := .tup vs) hl2) _ _ (upd_same (H := H7) (a := l1) (o := .tup us)))
        have g2 := (Same.new (o := .tup [.str w0, .ref t, .ref l1, .ref l2]) hl3) _ _ (upd_same (a := l2) (o := .tup vs))
        have hrw : ∀ r ∈ rows, r.1 ∈ ws := fun r hr => hyw r.1 (by rw [← hnm]; exact List.mem_map.mpr ⟨r, hr, rfl⟩)
        refine q _ l3 ⟨w0, b, rows, ps⟩ ((d6.trans d7).trans (SBut.of e10)) ((st7.same e10).le (by push_cast; omega)) ⟨.ref t, l1, l2, us, upd_same, ⟨t, rfl, e10 _ _ ht⟩, g1, (hall6.mono fun _ _ => PRowAt.mono is7).mono fun _ _ => PRowAt.mono (.of e10), vs, g2, (hps6.mono fun _ _ => PairAt.mono is7).mono fun _ _ => PairAt.mono (.of e10)⟩ ⟨⟨w19.nm _ hw0m, ⟨hrl, fun r hr => w19.nm _ (hrw r hr), pw_chain (lt := fun a b : RowD => ltS a.1 b.1) hrpw⟩, ⟨?_, ?_, ?_, ?_, pw_chain hpw⟩⟩, okb, hok⟩ hw0m hrw
        · show ps.length ≤ 30
          omega
        · intro p hp
          exact w19.nm _ (hzw _ (List.mem_of_mem_take (hmem p hp).1))
        · intro p hp
          obtain ⟨r, hr, hr2⟩ := List.mem_map.mp (hmem p hp).2
          exact hr2 ▸ w19.nm _ (hrw r hr)
        · intro p hp
          exact (hmem p hp).2
end
end Wk
end

section
set_option Elab.async false
set_option linter.all false
set_option maxRecDepth 100000
/-! gone, mixed_up -/
namespace Wk
open PySem PySem.Spec PyProof.Rows L2 RZ
def sp_gone : Sp := fun vs H Q _ => ∃ (md la ca : Addr) (v u : V) (B : Int) (b : B3) (t : T3), vs = [.ref md, v, u] ∧ StAt H md la ca B ∧ B + 9 ≤ 2 ^ 20 ∧ B3At H v b ∧ B3ok b ∧ T3At H u t ∧ (0 ≤ t.1 ∧ t.1 ≤ 1000000) ∧ (0 ≤ t.2.1 ∧ t.2.1 ≤ 1000000) ∧ (0 ≤ t.2.2 ∧ t.2.2 ≤ 1000000) ∧
  ∀ (H' : Hp) (w : V) (g : T3), DS md la H H' → StAt H' md la ca (B + 9) → T3At H' w g → (0 ≤ g.1 ∧ g.1 ≤ t.1) → (0 ≤ g.2.1 ∧ g.2.1 ≤ t.2.1) → (0 ≤ g.2.2 ∧ g.2.2 ≤ t.2.2) → Q w H'
def sp_mixed_up : Sp := fun vs H Q _ => ∃ (md la ca p : Addr) (B : Int) (s : SortD) (us : List V) (ps : List PageD), vs = [.ref md, .ref p] ∧ StAt H md la ca B ∧ B + 10 ≤ 2 ^ 20 ∧ H p = some (.lst us) ∧ AllAt (PageAt H) us ps ∧ ps.length ≤ 10 ∧ (∀ g ∈ ps, PageOk s g) ∧
  ∀ (H' : Hp) (q : Addr) (us' : List V) (ps' : List PageD), DS md la H H' → StAt H' md la ca (B + 10) → H q = none → H' q = some (.lst us') → AllAt (PageAt H') us' ps' → ps'.Perm ps → Q (.ref q) H'
section
variable {P : Program} {w : World} {K : PySem.W.Frag} {mg : Str → Option Value} {base : Heap}
theorem c_law_gone (T : Tx w K mg) : C8.Cal P w K mg base 3 "_law_gone" sp_gone [] := by
  obtain ⟨fd, F⟩ := T.F_law_gone
  refine ⟨_, fd, ["_law_m", "_law_three", "_law_top"], [], F.ok sc_law_gone (fun vs H Q E h => ?_) (fun cdv A outer s H vs Q E hr h => ?_), T.g_law_gone, F.kp, F.bindsN fun _ _ _ _ _ _ us hl => match us, hl with | [_, _, _], _ => rfl, .nil⟩
  · obtain ⟨x, a, b, c, d, e, f, g, rfl, _⟩ := h
    rfl
  · obtain ⟨md, la, ca, v, u, B, b, t, rfl, hst, hB, ⟨va, rfl, hv⟩, okb, ⟨ua, rfl, hu⟩, t1, t2, t3, q⟩ := h
    refine ⟨_, PSs.nox (pss_cons (ps_set (i := 3) sc_law_gone.nd rfl (Or.inl rfl) (pe_lst pa_nil))
      (pss_cons (ps_for PassesOwn.never rfl (pi_enumT (by rfl) T.f_enumerate (pa_cons (pv 1) pa_nil)) (pg_tup rfl (pgs_cons (pg_name (i := 4) sc_law_gone.nd rfl (Or.inl rfl)) (pgs_cons (pg_name (i := 5) sc_law_gone.nd rfl (Or.inl rfl)) pgs_nil))) (pss_cons (ps_set (i := 6) sc_law_gone.nd rfl (Or.inl rfl) (pe_ifExp (pt_cmpR op_isN (pv 5) pe_non (nomark _)) pe_int (pv 5)))
        (pss_cons (ps_set (i := 7) sc_law_gone.nd rfl (Or.inl rfl) (pe_lst (pa_cons pe_int (pa_cons (pv 6) (pa_cons (pe_op op_add (pv 6) pe_int) (pa_cons (pe_callB (call_max2 rfl) (by rfl) T.f_max (by decide +kernel) (pa_cons pe_int (pa_cons (pe_op op_sub (pv 6) pe_int) pa_nil))) (pa_cons (C8.pe_c (c_law_draw T) hr (by decide) rfl (pa_cons (pv 0) (pa_cons pe_int pa_nil))) (pa_cons (C8.pe_c (c_law_draw T) hr (by decide) rfl (pa_cons (pv 0) (pa_cons (pe_op op_add (pe_ix ix_tup (pv 2) (pv 4) (fun _ _ => rfl)) pe_int) pa_nil))) pa_nil))))))))
        (pss_one (ps_expr (pe_bm PySem.F.plainAttrs_list PySem.F.slot_list_append PySem.F.type_list_append mt_append (pv 3) (pa_cons (pe_callB (call_min2 rfl) (by rfl) T.f_min (by decide +kernel) (pa_cons (pe_ix ix_tup (pv 2) (pv 4) (fun _ _ => rfl)) (pa_cons (pe_ix ix_list (pv 7) (C8.pe_c (c_law_draw T) hr (by decide) rfl (pa_cons (pv 0) (pa_cons pe_int pa_nil))) (fun _ _ => rfl)) pa_nil))) pa_nil)))))))
      (pss_one (ps_ret (pe_callTy call_tuple_of (by rfl) T.f_tuple (by decide +kernel) (pa_cons (pv 3) pa_nil)))))), ?_⟩
    refine ⟨szn (Nat.zero_le _), fun D hD => ?_⟩
    obtain ⟨nDm, nDl, nDc⟩ := hst.fresh hD
    have fD : ¬ (D = md ∨ D = la) := fun z => z.elim nDm nDl
    have e0 : Same H (upd H D (.lst [])) := Same.new hD
    have nDv : va ≠ D := ne_of_none hv hD
    have nDu : ua ≠ D := ne_of_none hu hD
    have fv : ¬ (va = md ∨ va = la) := by
      obtain ⟨hcl, ls, cs, k, h1, h2, _⟩ := id hst
      exact fun z => z.elim (ne_of hv h1 (fun z => by cases z)) (ne_of hv h2 (fun z => by cases z))
    have fu : ¬ (ua = md ∨ ua = la) := by
      obtain ⟨hcl, ls, cs, k, h1, h2, _⟩ := id hst
      exact fun z => z.elim (ne_of hu h1 (fun z => by cases z)) (ne_of hu h2 (fun z => by cases z))
    refine ⟨_, rfl, va, _, rfl, SqT.of (e0 _ _ hv), ?_⟩
    refine for_it (walk_enumT (K := K) (a := va) (xs := [ov b.1, ov b.2.1, ov b.2.2])) (fun i σ H' => ∃ x4 x5 x6 x7 ns, σ = [some (.ref md), some (.ref va), some (.ref ua), some (.ref D), x4, x5, x6, x7] ∧ DS md la H H' ∧ StAt H' md la ca (B + 3 * i) ∧ H' D = some (.lst (ns.map V.int)) ∧ ns.length = i ∧
      ∀ (j : Nat) (n m : Int), ns[j]? = some n → [t.1, t.2.1, t.2.2][j]? = some m → 0 ≤ n ∧ n ≤ m) ⟨_, _, _, _, [], rfl, SBut.of e0, (hst.same e0).le (by omega), upd_same, rfl, fun _ _ _ z => by simp at z⟩ (fun i σ H' _ ⟨_, _, _, _, _, _, d, _⟩ => SqT.of (d _ _ fv hv)) ?_ ?_
    · rintro i v σ Ha Hb hi ⟨x4, x5, x6, x7, ns, rfl, dA, stA, hDA, hnl, hns⟩ ⟨T0, x, y, rfl, hT, rfl, hx, hy⟩
      cases hx
      have hi3 : i < 3 := hi
      obtain ⟨o, top, m, rfl, ho, htop, hti, hm0, hm1⟩ : ∃ (o : Option Int) (top : Int) (m : Int), y = ov o ∧ optLe o m ∧ atI [V.int t.1, .int t.2.1, .int t.2.2] ((i : Nat) : Int) = some (.int top) ∧ [t.1, t.2.1, t.2.2][i]? = some top ∧ 0 ≤ top ∧ top ≤ 1000000 := by
        have hy' : [ov b.1, ov b.2.1, ov b.2.2][i]? = some y := hy
        match i, hi3, hy' with
        | 0, _, hy => exact ⟨b.1, t.1, 9999, (Option.some.inj hy).symm, okb.d, rfl, rfl, t1.1, t1.2⟩
        | 1, _, hy => exact ⟨b.2.1, t.2.1, 1000000, (Option.some.inj hy).symm, okb.m, rfl, rfl, t2.1, t2.2⟩
        | 2, _, hy => exact ⟨b.2.2, t.2.2, 1000000, (Option.some.inj hy).symm, okb.t, rfl, rfl, t3.1, t3.2⟩
      have e1 : Same Ha (upd Ha T0 (.tup [.int (i : Nat), ov o])) := Same.new hT
      refine ⟨T0, _, rfl, SqT.of upd_same, rfl, _, _, rfl, _, _, rfl, rfl, ?_⟩
      have hD1 := e1 _ _ hDA
      have st1 := stA.same e1
      have hu1 := e1 _ _ (dA _ _ fu hu)
      have d1 := dA.trans (SBut.of e1)
      generalize upd Ha T0 (.tup [.int (i : Nat), ov o]) = H1 at *
      obtain ⟨near, hn0, hnear⟩ : ∃ near : Int, 0 ≤ near ∧ ∀ (Qv : VK) (σ : L2.St), σ[5]? = some (some (ov o)) → Qv (.int near) H1 → (tIf (tTest (tOp (fun x y H Q => y = V.non ∧ Q (V.bl (decide (x = V.non))) H) (tVar 5) (tC V.non))) (tC (.int 0)) (tVar 5)) σ H1 Qv := by
        cases o with
        | none => exact ⟨0, by decide, fun Qv σ hs h => ⟨_, hs, rfl, _, rfl, iteT h⟩⟩
        | some l => exact ⟨l, (ho l rfl).1, fun Qv σ hs h => ⟨_, hs, rfl, _, rfl, iteF ⟨_, hs, h⟩⟩⟩
      refine hnear _ _ rfl ?_
      refine ⟨_, rfl, _, rfl, _, _, rfl, rfl, _, rfl, _, _, rfl, rfl, _, _, rfl, ?_⟩
      refine ⟨_, rfl, md, la, ca, _, 60, rfl, st1, by decide, by decide, by omega, fun H2 a d2 st2 a1 a2 => ?_⟩
      have hu2 := d2 _ _ fu hu1
      refine ⟨_, rfl, _, rfl, _, rfl, ua, _, _, _, rfl, rfl, SqT.of hu2, htop, _, _, rfl, rfl, md, la, ca, _, _, rfl, st2, by omega, by omega, by omega, fun H3 c d3 st3 c1 c2 => ?_⟩
      have hu3 := d3 _ _ fu hu2
      refine ⟨szn (n := 6) (by decide), fun p hp => ?_⟩
      have e4 : Same H3 _ := Same.new (o := .lst [V.int 0, .int near, .int (near + 1), .int (if near - 1 > 0 then near - 1 else 0), .int a, .int c]) hp
      have hD3 := d3 _ _ fD (d2 _ _ fD hD1)
      refine ⟨_, rfl, .inl ⟨rfl, _, SqL.of (e4 _ _ hD3)⟩, ?_⟩
      refine ⟨_, rfl, _, rfl, ua, _, _, _, rfl, rfl, SqT.of (e4 _ _ hu3), htop, _, rfl, ?_⟩
      refine ⟨_, rfl, md, la, ca, _, 6, rfl, st3.same e4, by decide, by decide, by omega, fun H5 r d5 st5 r1 r2 => ?_⟩
      have hp5 := d5 _ _ (st3.free hp) upd_same
      have hD5 := d5 _ _ fD (e4 _ _ hD3)
      obtain ⟨j, hat, hj0⟩ : ∃ j : Int, atI [V.int 0, .int near, .int (near + 1), .int (if near - 1 > 0 then near - 1 else 0), .int a, .int c] r = some (.int j) ∧ 0 ≤ j := by
        obtain ⟨n, rfl⟩ : ∃ n : Nat, r = n := ⟨r.toNat, by omega⟩
        match n, r2 with
        | 0, _ => exact ⟨0, rfl, by decide⟩
        | 1, _ => exact ⟨near, rfl, hn0⟩
        | 2, _ => exact ⟨near + 1, rfl, by omega⟩
        | 3, _ => exact ⟨_, rfl, by split <;> omega⟩
        | 4, _ => exact ⟨a, rfl, a1⟩
        | 5, _ => exact ⟨c, rfl, c1⟩
        | n + 6, h => omega
      refine ⟨p, _, _, _, rfl, rfl, SqL.of hp5, hat, _, _, rfl, ?_⟩
      refine ⟨D, _, _, rfl, rfl, hD5, Nat.lt_of_lt_of_le (show (ns.map V.int).length < 1000 by simp; omega) (by decide), ?_⟩
      refine ⟨_, _, _, _, ns ++ [if j < top then j else top], rfl, (((d1.trans d2).trans d3).trans ((SBut.of e4).trans d5)).mut hD, (st5.upd nDm nDl nDc).le (by push_cast; omega), by rw [upd_same]; simp, by simp [hnl], fun k n m' hk hm => ?_⟩
      by_cases hkl : k < ns.length
      · rw [List.getElem?_append_left hkl] at hk
        exact hns k n m' hk hm
      · rw [List.getElem?_append_right (by omega)] at hk
        have hk0 : k - ns.length = 0 := by
          cases e : k - ns.length with
          | zero => rfl
          | succ n => rw [e] at hk; simp at hk
        rw [hk0] at hk
        have hki : k = i := by omega
        subst hki
        rw [hti] at hm
        cases hm
        have : n = if j < top then j else top := by simpa using hk.symm
        rw [this]
        split <;> omega
    · rintro σ H1 ⟨x4, x5, x6, x7, ns, rfl, d1, st1, hD1, hnl, hns⟩
      obtain ⟨a, b', c, rfl⟩ : ∃ a b c, ns = [a, b, c] := by
        match ns, hnl with
        | [a, b, c], _ => exact ⟨a, b, c, rfl⟩
      refine ⟨_, rfl, D, _, rfl, .inl ⟨SqL.of hD1, fun l hl => ?_⟩⟩
      exact q _ (.ref l) (a, b', c) (d1.trans (SBut.of (Same.new hl))) ((st1.same (Same.new hl)).le (by push_cast; simp <;> omega)) ⟨l, rfl, upd_same⟩ (hns 0 a t.1 rfl rfl) (hns 1 b' t.2.1 rfl rfl) (hns 2 c t.2.2 rfl rfl)
theorem c_law_mixed_up (T : Tx w K mg) : C8.Cal P w K mg base 3 "_law_mixed_up" sp_mixed_up [] := by
  obtain ⟨fd, F⟩ := T.F_law_mixed_up
  refine ⟨_, fd, ["_law_m", "_law_things"], [], F.ok sc_law_mixed_up (fun vs H Q E h => ?_) (fun cdv A outer s H vs Q E hr h => ?_), T.g_law_mixed_up, F.kp, F.bindsN fun _ _ _ _ _ _ us hl => match us, hl with | [_, _], _ => rfl, .nil⟩
  · obtain ⟨x, a, b, c, d, e, f, g, rfl, _⟩ := h
    rfl
  · obtain ⟨md, la, ca, p, B, sd, us, ps, rfl, hst, hB, hp, hall, hpl, pok, q⟩ := h
    refine ⟨_, PSs.nox (pss_cons (ps_par (i := 2) (j := 3) (by rfl) sc_law_mixed_up.nd rfl rfl (by decide) rfl rfl (pa_cons (pe_callTy call_list_of (by rfl) T.f_list (by decide +kernel) (pa_cons (pv 1) pa_nil)) (pa_cons (pe_lst pa_nil) pa_nil)) (by rfl))
      (pss_cons (ps_while PassesOwn.never (pt_cmpR (op_neD hr.units) (pv 2) (pe_lst pa_nil) (nomark _)) (pss_cons (ps_set (i := 4) sc_law_mixed_up.nd rfl (Or.inl rfl) (C8.pe_c (c_law_draw T) hr (by decide) rfl (pa_cons (pv 0) (pa_cons (pe_callB call_len_seq (by rfl) T.f_len (by decide +kernel) (pa_cons (pv 2) pa_nil)) pa_nil))))
        (pss_cons (ps_expr (pe_bm PySem.F.plainAttrs_list PySem.F.slot_list_append PySem.F.type_list_append mt_append (pv 3) (pa_cons (pe_ix ix_list (pv 2) (pv 4) (fun _ _ => rfl)) pa_nil)))
        (pss_one (ps_set (i := 2) sc_law_mixed_up.nd rfl (Or.inl rfl) (pe_op op_cat (pe_slice sl_list (pv 2) po_none (po_some (pv 4))) (pe_slice sl_list (pv 2) (po_some (pe_op op_add (pv 4) pe_int)) po_none)))))))
      (pss_one (ps_ret (pv 3))))), ?_⟩
    refine ⟨_, rfl, p, us, rfl, .inl (SqL.of hp), fun L hL => ⟨szn (Nat.zero_le _), fun D hD => ⟨_, _, rfl, ?_⟩⟩⟩
    have e0 : Same H (upd (upd H L (.lst us)) D (.lst [])) := (Same.new hL).trans (Same.new hD)
    have hD0 : H D = none := (Same.new hL).free hD
    obtain ⟨nDm, nDl, nDc⟩ := hst.fresh hD0
    have fD : ¬ (D = md ∨ D = la) := fun z => z.elim nDm nDl
    have hL1 : (upd (upd H L (.lst us)) D (.lst [])) L = some (.lst us) := by rw [upd_ne (ne_of_none upd_same hD), upd_same]
    refine ⟨fun n σ H' => ∃ L ls lp at_ fs fp, σ = [some (.ref md), some (.ref p), some (.ref L), some (.ref D), at_] ∧ DS md la H H' ∧ StAt H' md la ca (B + 10 - n) ∧ n ≤ 10 ∧ H' L = some (.lst ls) ∧ AllAt (PageAt H') ls lp ∧ lp.length = n ∧ H' D = some (.lst fs) ∧ AllAt (PageAt H') fs fp ∧ (fp ++ lp).Perm ps ∧ ¬ (L = md ∨ L = la) ∧ L ≠ D,
      ⟨ps.length, L, us, ps, _, [], [], rfl, SBut.of e0, (hst.same e0).le (by omega), hpl, hL1, hall.mono fun _ _ => PageAt.mono (.of e0), rfl, upd_same, .nil, List.Perm.refl _, hst.free hL, ne_of_none upd_same hD⟩, ?_⟩
    rintro n σ H1 ⟨L, ls, lp, at_, fs, fp, rfl, d1, st1, hn, hL1, hlp, hln, hD1, hfp, perm, fL, nLD⟩
    have hlpok : ∀ g ∈ lp, PageOk sd g := fun g hg => pok g (perm.mem_iff.mp (List.mem_append.mpr (.inr hg)))
    refine ⟨_, rfl, szn (Nat.zero_le _), fun e he => ?_⟩
    have e2 : Same H1 (upd H1 e (.lst [])) := Same.new he
    refine ⟨.list (lp.map pgD), _, .lst (SqL.of (e2 _ _ hL1)) (dp_all (fun v r h => dp_page h) _ _ (hlp.mono fun _ _ => PageAt.mono (.of e2))), .lst (SqL.of upd_same) .nil, shp_lst (fun r hr => ⟨(lay_page (hlpok r hr).k).1, by have := (lay_page (hlpok r hr).k).2; omega⟩), shp_nil, _, rfl, ?_⟩
    rw [eqv_nil]
    have st2 := st1.same e2
    have d2 := d1.trans (SBut.of e2)
    have hL2 := e2 _ _ hL1
    have hD2 := e2 _ _ hD1
    have hlp2 := hlp.mono fun _ _ => PageAt.mono (.of e2)
    have hfp2 := hfp.mono fun _ _ => PageAt.mono (.of e2)
    generalize upd H1 e (.lst []) = H2 at *
    cases hlz : lp with
    | nil =>
      refine iteF ?_
      subst hlz
      rw [List.append_nil] at perm
      refine ⟨_, rfl, q H2 D fs fp d2 (st2.le (by omega)) hD0 hD2 hfp2 perm⟩
    | cons l0 lr =>
      refine iteT ?_
      rw [hlz] at hln
      have hls : ls.length = n := by rw [hlp.len, hlz]; exact hln
      have hn1 : 1 ≤ n := by simp at hln; omega
      refine ⟨fun σ' H' => ∃ m', m' < n ∧ ∃ L ls lp at_ fs fp, σ' = [some (.ref md), some (.ref p), some (.ref L), some (.ref D), at_] ∧ DS md la H H' ∧ StAt H' md la ca (B + 10 - (m' : Nat)) ∧ m' ≤ 10 ∧ H' L = some (.lst ls) ∧ AllAt (PageAt H') ls lp ∧ lp.length = m' ∧ H' D = some (.lst fs) ∧ AllAt (PageAt H') fs fp ∧ (fp ++ lp).Perm ps ∧ ¬ (L = md ∨ L = la) ∧ L ≠ D, fun σ' H' h => h, ?_⟩
      refine ⟨_, rfl, _, rfl, L, _, rfl, .inl (SqL.of hL2), md, la, ca, _, _, rfl, st2, by omega, by omega, by omega, fun H3 r d3 st3 r1 r2 => ?_⟩
      have hL3 := d3 _ _ fL hL2
      have hD3 := d3 _ _ fD hD2
      have is3 := st2.is d3
      obtain ⟨j, rfl⟩ : ∃ j : Nat, r = j := ⟨r.toNat, by omega⟩
      have hj : j < ls.length := by omega
      have hjp : j < lp.length := by rw [hlz]; omega
      have hat : atI ls ((j : Nat) : Int) = some ls[j] := atI_nat (by simp [hj])
      have hg := hlp2.at_ j ls[j] lp[j] (by simp [hj]) (by simp [hjp])
      refine ⟨_, rfl, .inl ⟨rfl, _, SqL.of hD3⟩, _, rfl, _, rfl, L, _, _, _, rfl, rfl, SqL.of hL3, hat, D, fs, _, rfl, rfl, hD3, ?_, ?_⟩
      · have h1 := hfp2.len
        have h2 := perm.length_eq
        rw [List.length_append] at h2
        exact Nat.lt_of_lt_of_le (show fs.length < 1000 by omega) (by decide)
      have is4 : ISame H3 (upd H3 D (.lst (fs ++ [ls[j]]))) := ISame.lst hD3
      have hL4 : (upd H3 D (.lst (fs ++ [ls[j]]))) L = some (.lst ls) := by rw [upd_ne nLD]; exact hL3
      have hD4 : (upd H3 D (.lst (fs ++ [ls[j]]))) D = some (.lst (fs ++ [ls[j]])) := upd_same
      have st4 := st3.upd (o := .lst (fs ++ [ls[j]])) nDm nDl nDc
      have d4 : DS md la H (upd H3 D (.lst (fs ++ [ls[j]]))) := (d2.trans d3).mut hD0
      have is24 := is3.trans is4
      generalize upd H3 D (.lst (fs ++ [ls[j]])) = H4 at *
      refine ⟨_, rfl, ?_⟩
      dsimp only [tNoPart, tPart]
      refine ⟨_, rfl, _, rfl, L, _, rfl, SqL.of hL4, fun l1 hl1 => ?_⟩
      rw [cut_to]
      have e5 : Same H4 (upd H4 l1 (.lst (ls.take j))) := Same.new hl1
      refine ⟨_, rfl, _, rfl, _, _, rfl, rfl, _, rfl, L, _, rfl, SqL.of (e5 _ _ hL4), fun l2 hl2 => ?_⟩
      rw [show ((j : Nat) : Int) + 1 = ((j + 1 : Nat) : Int) from rfl, cut_from]
      have e6 : Same H4 (upd (upd H4 l1 (.lst (ls.take j))) l2 (.lst (ls.drop (j + 1)))) := e5.trans (Same.new hl2)
      have g1 : (upd (upd H4 l1 (.lst (ls.take j))) l2 (.lst (ls.drop (j + 1)))) l1 = some (.lst (ls.take j)) := by rw [upd_ne (ne_of_none upd_same hl2), upd_same]
      refine ⟨l1, l2, _, _, rfl, rfl, g1, upd_same, szn (by simp; omega), fun l3 hl3 => ?_⟩
      have e7 : Same H4 _ := e6.trans (Same.new (o := .lst (ls.take j ++ ls.drop (j + 1))) hl3)
      have f3 : ¬ (l3 = md ∨ l3 = la) := st4.free (e6.free hl3)
      have n3D : l3 ≠ D := (ne_of_none (e6 _ _ hD4) hl3).symm
      have isz : ISame H2 _ := is24.trans (ISame.of e7)
      have hcut : AllAt (PageAt H2) (ls.take j ++ ls.drop (j + 1)) (lp.take j ++ lp.drop (j + 1)) := by
        refine AllAt.append ⟨by rw [List.length_take, List.length_take, hlp2.len], fun i v r hv hr => ?_⟩ ⟨by rw [List.length_drop, List.length_drop, hlp2.len], fun i v r hv hr => ?_⟩
        · have hij : i < j := by
            have := (List.getElem?_eq_some_iff.mp hv).1
            simp at this
            omega
          rw [List.getElem?_take_of_lt hij] at hv hr
          exact hlp2.at_ i v r hv hr
        · rw [List.getElem?_drop] at hv hr
          exact hlp2.at_ _ v r hv hr
      have hperm : ((fp ++ [lp[j]]) ++ (lp.take j ++ lp.drop (j + 1))).Perm ps := by
        refine List.Perm.trans ?_ perm
        rw [List.append_assoc]
        refine List.Perm.append_left fp ?_
        have hsplit : lp = lp.take j ++ lp[j] :: lp.drop (j + 1) := by
          rw [List.getElem_cons_drop, List.take_append_drop]
        refine List.Perm.trans ?_ (List.Perm.of_eq hsplit.symm)
        exact (List.perm_middle (a := lp[j]) (l₁ := lp.take j) (l₂ := lp.drop (j + 1))).symm
      refine ⟨n - 1, by omega, l3, _, lp.take j ++ lp.drop (j + 1), _, fs ++ [ls[j]], fp ++ [lp[j]], rfl, d4.trans (SBut.of e7), (st4.same e7).le (by omega), by omega, upd_same, hcut.mono fun _ _ => PageAt.mono isz, ?_, e7 _ _ hD4, (hfp2.snoc hg).mono fun _ _ => PageAt.mono isz, hperm, f3, n3D⟩
      rw [List.length_append, List.length_take, List.length_drop, hlz]
      omega
end
end Wk
end

section
set_option Elab.async false
set_option linter.all false
set_option maxRecDepth 100000
/-! the life that the law makes -/
namespace Wk
open PySem PySem.Spec PyProof.Rows L2 RZ
structure LifePre (s : SortD) (one : Str) (t : T3) (ao : Option T3) (bo : Option Str) : Prop where
  ok : SortOk s
  nm : Nm one
  mem : one ∈ s.rows.map (·.1)
  t1 : 0 ≤ t.1 ∧ t.1 ≤ 9999
  t2 : 0 ≤ t.2.1 ∧ t.2.1 ≤ 1000000
  t3 : 0 ≤ t.2.2 ∧ t.2.2 ≤ 1000000
  zero : t.1 = 0 → t.2.1 = 0 ∧ t.2.2 = 0
  ag : ∀ g, ao = some g → (0 < g.1 ∧ g.1 ≤ t.1) ∧ (0 ≤ g.2.1 ∧ g.2.1 ≤ t.2.1) ∧ (0 ≤ g.2.2 ∧ g.2.2 ≤ t.2.2) ∧ (g.1 = t.1 → g.2.1 = t.2.1 ∧ g.2.2 = t.2.2)
  bad : ∀ m, bo = some m → Nm m
def page3 (f a b : Int) (one : Str) (t : T3) : List PageD := [⟨f, a, b, .sold "ann"⟩, ⟨f + t.1, a + t.2.1, b + t.2.2, .claimed one 500⟩, ⟨f + t.1, a + t.2.1, b + t.2.2, .sold "bob"⟩]
def pageM (f a b : Int) (one : Str) (t : T3) : Option T3 → List PageD
  | none => []
  | some g => [⟨f + t.1 - g.1, a + t.2.1 - g.2.1, b + t.2.2 - g.2.2, .mended one⟩]
def pageX (f a b : Int) (t : T3) : Option Str → List PageD
  | none => []
  | some m => [⟨f + t.1, a + t.2.1, b + t.2.2, .misused m⟩]
def pagesOf (f a b : Int) (one : Str) (t : T3) (ao : Option T3) (bo : Option Str) : List PageD := page3 f a b one t ++ pageM f a b one t ao ++ pageX f a b t bo
structure Room3 (f a b : Int) (t : T3) : Prop where
  f : 0 ≤ f ∧ f + t.1 ≤ 9999
  a : 0 ≤ a ∧ a + t.2.1 ≤ 1000000
  b : 0 ≤ b ∧ b + t.2.2 ≤ 1000000
theorem pages_nd {f a b : Int} {one : Str} {t : T3} {ao : Option T3} {bo : Option Str} : (pagesOf f a b one t ao bo).Nodup := by
  have n1 : ("ann" : Str) ≠ "bob" := by decide
  cases ao <;> cases bo <;> simp [pagesOf, page3, pageM, pageX, n1]
theorem pages_cases {f a b : Int} {one : Str} {t : T3} {ao : Option T3} {bo : Option Str} {g : PageD} (h : g ∈ pagesOf f a b one t ao bo) :
    (g.day = f ∧ g.m1 = a ∧ g.m2 = b ∧ g.k = .sold "ann") ∨ (g.day = f + t.1 ∧ g.m1 = a + t.2.1 ∧ g.m2 = b + t.2.2 ∧ (g.k = .claimed one 500 ∨ g.k = .sold "bob" ∨ ∃ m, bo = some m ∧ g.k = .misused m)) ∨ ∃ e, ao = some e ∧ g.day = f + t.1 - e.1 ∧ g.m1 = a + t.2.1 - e.2.1 ∧ g.m2 = b + t.2.2 - e.2.2 ∧ g.k = .mended one := by
  rcases List.mem_append.mp h with h | h
  · rcases List.mem_append.mp h with h | h
    · simp only [page3, List.mem_cons, List.not_mem_nil, or_false] at h
      rcases h with rfl | rfl | rfl
      · exact .inl ⟨rfl, rfl, rfl, rfl⟩
      · exact .inr (.inl ⟨rfl, rfl, rfl, .inl rfl⟩)
      · exact .inr (.inl ⟨rfl, rfl, rfl, .inr (.inl rfl)⟩)
    · cases ao with
      | none => cases h
      | some e =>
        have := List.mem_singleton.mp h
        subst this
        exact .inr (.inr ⟨e, rfl, rfl, rfl, rfl, rfl⟩)
  · cases bo with
    | none => cases h
    | some m =>
      have := List.mem_singleton.mp h
      subst this
      exact .inr (.inl ⟨rfl, rfl, rfl, .inr (.inr ⟨m, rfl, rfl⟩)⟩)
theorem pages_ok {s : SortD} {f a b : Int} {one : Str} {t : T3} {ao : Option T3} {bo : Option Str} (L : LifePre s one t ao bo) (R : Room3 f a b t) : ∀ g ∈ pagesOf f a b one t ao bo, PageOk s g := by
  intro g hg
  have annok : Nm "ann" := nm_of (by decide +kernel)
  have bobok : Nm "bob" := nm_of (by decide +kernel)
  have := R.f
  have := R.a
  have := R.b
  have := L.t1
  have := L.t2
  have := L.t3
  rcases pages_cases hg with ⟨h1, h2, h3, hk⟩ | ⟨h1, h2, h3, hk⟩ | ⟨e, he, h1, h2, h3, hk⟩
  · exact ⟨by rw [h1]; omega, by rw [h2]; omega, by rw [h3]; omega, by rw [hk]; exact annok⟩
  · refine ⟨by rw [h1]; omega, by rw [h2]; omega, by rw [h3]; omega, ?_⟩
    rcases hk with hk | hk | ⟨m, hm, hk⟩
    · rw [hk]; exact ⟨L.nm, L.mem, by decide, by decide⟩
    · rw [hk]; exact bobok
    · rw [hk]; exact L.bad m hm
  · obtain ⟨e1, e2, e3, e4⟩ := L.ag e he
    exact ⟨by rw [h1]; omega, by rw [h2]; omega, by rw [h3]; omega, by rw [hk]; exact ⟨L.nm, L.mem⟩⟩
theorem pages_fit {s : SortD} {f a b : Int} {one : Str} {t : T3} {ao : Option T3} {bo : Option Str} (L : LifePre s one t ao bo) : ∀ g ∈ pagesOf f a b one t ao bo, ∀ q ∈ pagesOf f a b one t ao bo, fits g q := by
  intro g hg q hq
  have ht1 := L.t1
  have ht2 := L.t2
  have ht3 := L.t3
  have hz := L.zero
  rcases pages_cases hg with ⟨h1, h2, h3, _⟩ | ⟨h1, h2, h3, _⟩ | ⟨e, he, h1, h2, h3, _⟩ <;> rcases pages_cases hq with ⟨k1, k2, k3, _⟩ | ⟨k1, k2, k3, _⟩ | ⟨e', he', k1, k2, k3, _⟩ <;> unfold fits <;> rw [h1, h2, h3, k1, k2, k3]
  · omega
  · exact ⟨fun z => by have := hz (by omega); omega, fun z => by omega, fun z => by omega⟩
  · obtain ⟨g1, g2, g3, g4⟩ := L.ag _ he'
    exact ⟨fun z => by have := g4 (by omega); omega, fun z => by omega, fun z => by omega⟩
  · exact ⟨fun z => by have := hz (by omega); omega, fun z => by omega, fun z => by omega⟩
  · omega
  · obtain ⟨g1, g2, g3, g4⟩ := L.ag _ he'
    exact ⟨fun z => by omega, fun z => by omega, fun z => by omega⟩
  · obtain ⟨g1, g2, g3, g4⟩ := L.ag _ he
    exact ⟨fun z => by have := g4 (by omega); omega, fun z => by omega, fun z => by omega⟩
  · obtain ⟨g1, g2, g3, g4⟩ := L.ag _ he
    exact ⟨fun z => by omega, fun z => by omega, fun z => by omega⟩
  · rw [he] at he'
    cases he'
    omega
end Wk
end

section
set_option Elab.async false
set_option linter.all false
set_option maxRecDepth 100000
/-! law_life: the walk -/
namespace Wk
open PySem PySem.Spec PyProof.Rows L2 RZ
theorem DS.sx {md la x : Addr} {H H1 H2 : Hp} (d : DS md la H H1) (s : SX x H1 H2) (hx : H x = none) : DS md la H H2 := fun a o n ha => s a o (ne_of_none ha hx) (d a o n ha)
theorem StAt.sx {md la ca x C dx : Addr} {fs : List (Str × V)} {B : Int} {H1 H2 : Hp} (h : StAt H1 md la ca B) (s : SX x H1 H2) (hx : H1 x = some (.ins C dx fs)) : StAt H2 md la ca B := by
  obtain ⟨hcl, ls, cs, k, h1, h2, h3, h4⟩ := h
  exact ⟨hcl, ls, cs, k, s _ _ (ne_of h1 hx (fun z => by cases z)) h1, s _ _ (ne_of h2 hx (fun z => by cases z)) h2, s _ _ (ne_of h3 hx (fun z => by cases z)) h3, h4⟩
theorem StAt.back {md la ca x : Addr} {B : Int} {H H' : Hp} (d : DS md la H H') (st : StAt H' md la ca B) (h : H' x = none) : H x = none := by
  cases e : H x with
  | none => rfl
  | some o =>
    have := d x o (st.free h) e
    rw [h] at this
    cases this
theorem catA {K : PySem.W.Frag} {H : Hp} {a b : Addr} {xs ys : List V} {Q : VK} (ha : H a = some (.tup xs)) (hb : H b = some (.tup ys)) (hx : xs ≠ []) (hy : ys ≠ []) (hl : xs.length + ys.length ≤ 1000) (k : ∀ (p : Addr) (H' : Hp), Same H H' → H' p = some (.tup (xs ++ ys)) → Q (.ref p) H') : rCatA K (.ref a) (.ref b) H Q :=
  ⟨a, b, xs, ys, rfl, rfl, SqT.of ha, SqT.of hb, szn hl, fun z => absurd z hx, fun _ z => absurd z hy, fun _ _ p hp => k p _ (Same.new hp) upd_same⟩
def sp_life (K : PySem.W.Frag) : Sp := fun vs H Q _ => ∃ (md la ca so : Addr) (v va : V) (B : Int) (s : SortD) (one : Str) (t : T3) (ao : Option T3) (bo : Option Str), vs = [.ref md, .ref so, .str one, v, va, sv bo] ∧ StAt H md la ca B ∧ B + 20 ≤ 2 ^ 20 ∧ SortAt K H so s ∧ LifePre s one t ao bo ∧ T3At H v t ∧ T3O H va ao ∧
  ∀ (H' : Hp) (tt x l : Addr) (f a b : Int) (ps : List PageD), DS md la H H' → StAt H' md la ca (B + 20) → H' tt = some (.tup [.ref x, .int (f + t.1)]) → LifeAt K H' x l s ps → ps.Perm (pagesOf f a b one t ao bo) → ps.Pairwise (fun x y => x.day ≤ y.day) → Room3 f a b t → Q (.ref tt) H'
section
variable {P : Program} {w : World} {K : PySem.W.Frag} {mg : Str → Option Value} {base : Heap}
theorem c_law_life (T : Tx w K mg) : C8.Cal P w K mg base 7 "_law_life" (sp_life K) [] := by
  obtain ⟨fd, F⟩ := T.F_law_life
  refine ⟨_, fd, ["_law_m", "_law_kind", "_law_one", "_law_since", "_law_again", "_law_bad"], [], F.ok sc_law_life (fun vs H Q E h => ?_) (fun cdv A outer s H vs Q E hr h => ?_), T.g_law_life, F.kp, F.bindsN fun _ _ _ _ _ _ us hl => match us, hl with | [_, _, _, _, _, _], _ => rfl, .nil⟩
  · obtain ⟨x, a, b, c, d, e, f, g, i, j, k, l, rfl, _⟩ := h
    rfl
  · obtain ⟨md, la, ca, so, v, va, B, sd, one, t, ao, bo, rfl, hst, hB, hso, pre, ⟨v, rfl, hv⟩, hva, q⟩ := h
    have e6 : (10 : Int) ^ (6 : Int).toNat = 1000000 := by decide
    have pt1 := pre.t1
    have pt2 := pre.t2
    have pt3 := pre.t3
    refine ⟨_, PSs.nox (pss_cons (ps_par (i := 6) (j := 7) (by rfl) sc_law_life.nd rfl rfl (by decide) rfl rfl (pa_cons (C8.pe_c (c_law_draw T) hr (by decide) rfl (pa_cons (pv 0) (pa_cons (pe_op op_sub pe_int (pe_ix ix_tup (pv 3) pe_int (fun _ _ => rfl))) pa_nil))) (pa_cons (C8.pe_mk (k_Life T) hr (by decide) rfl (pa_cons (pv 1) (pa_cons (pe_op op_add pe_int (C8.pe_c (c_law_draw T) hr (by decide) rfl (pa_cons (pv 0) (pa_cons pe_int pa_nil)))) pa_nil))) pa_nil)) (by rfl))
      (pss_cons (ps_set (i := 8) sc_law_life.nd rfl (Or.inl rfl) (pe_tup (pa_cons (C8.pe_c (c_law_draw T) hr (by decide) rfl (pa_cons (pv 0) (pa_cons (pe_op op_sub (pe_op op_add (pe_op op_pow pe_int pe_int) pe_int) (pe_ix ix_tup (pv 3) pe_int (fun _ _ => rfl))) pa_nil))) (pa_cons (C8.pe_c (c_law_draw T) hr (by decide) rfl (pa_cons (pv 0) (pa_cons (pe_op op_sub (pe_op op_add (pe_op op_pow pe_int pe_int) pe_int) (pe_ix ix_tup (pv 3) pe_int (fun _ _ => rfl))) pa_nil))) pa_nil))))
      (pss_cons (ps_set (i := 9) sc_law_life.nd rfl (Or.inl rfl) (pe_tup (pa_cons (pe_op op_add (pv 6) (pe_ix ix_tup (pv 3) pe_int (fun _ _ => rfl))) (pa_cons (pe_tup (pa_cons (pe_op op_add (pe_ix ix_tup (pv 8) pe_int (fun _ _ => rfl)) (pe_ix ix_tup (pv 3) pe_int (fun _ _ => rfl))) (pa_cons (pe_op op_add (pe_ix ix_tup (pv 8) pe_int (fun _ _ => rfl)) (pe_ix ix_tup (pv 3) pe_int (fun _ _ => rfl))) pa_nil))) pa_nil))))
      (pss_cons (ps_set (i := 10) sc_law_life.nd rfl (Or.inl rfl) (pe_lst (pa_cons (pe_tup (pa_cons pe_str (pa_cons (pv 6) (pa_cons (pv 8) (pa_cons pe_str pa_nil))))) (pa_cons (pe_op op_catA (pe_op op_catA (pe_tup (pa_cons pe_str pa_nil)) (pv 9)) (pe_tup (pa_cons (pv 2) (pa_cons pe_int pa_nil)))) (pa_cons (pe_op op_catA (pe_op op_catA (pe_tup (pa_cons pe_str pa_nil)) (pv 9)) (pe_tup (pa_cons pe_str pa_nil))) pa_nil)))))
      (C8.pss_cut (ps_if (pt_cmpR op_notN (pv 4) pe_non (nomark _)) (pss_cons (ps_set (i := 11) sc_law_life.nd rfl (Or.inl rfl) (pe_tup (pa_cons (pe_op op_sub (pe_ix ix_tup (pe_ix ix_tup (pv 9) pe_int (fun _ _ => rfl)) pe_int (fun _ _ => rfl)) (pe_ix ix_tup (pv 4) pe_int (fun _ _ => rfl))) (pa_cons (pe_op op_sub (pe_ix ix_tup (pe_ix ix_tup (pv 9) pe_int (fun _ _ => rfl)) pe_int (fun _ _ => rfl)) (pe_ix ix_tup (pv 4) pe_int (fun _ _ => rfl))) pa_nil))))
        (pss_one (ps_expr (pe_bm PySem.F.plainAttrs_list PySem.F.slot_list_append PySem.F.type_list_append mt_append (pv 10) (pa_cons (pe_tup (pa_cons pe_str (pa_cons (pe_op op_sub (pe_ix ix_tup (pv 9) pe_int (fun _ _ => rfl)) (pe_ix ix_tup (pv 4) pe_int (fun _ _ => rfl))) (pa_cons (pv 11) (pa_cons (pv 2) pa_nil))))) pa_nil))))) pss_nil)
      (C8.pss_cut (ps_if (pt_cmpR op_notN (pv 5) pe_non (nomark _)) (pss_one (ps_expr (pe_bm PySem.F.plainAttrs_list PySem.F.slot_list_append PySem.F.type_list_append mt_append (pv 10) (pa_cons (pe_op op_catA (pe_op op_catA (pe_tup (pa_cons pe_str pa_nil)) (pv 9)) (pe_tup (pa_cons (pv 5) pa_nil))) pa_nil)))) pss_nil)
      (pss_cons (ps_for PassesOwn.never rfl (pi_list (C8.pe_c (c_law_mixed_up T) hr (by decide) rfl (pa_cons (pv 0) (pa_cons (pv 10) pa_nil)))) (pg_name (i := 12) sc_law_life.nd rfl (Or.inl rfl)) (pss_one (ps_expr (C8.pe_mt (m_Life_put T) hr (by decide) (pv 7) (pa_cons (pv 12) pa_nil)))))
      (pss_one (ps_ret (pe_tup (pa_cons (pv 7) (pa_cons (pe_ix ix_tup (pv 9) pe_int (fun _ _ => rfl)) pa_nil)))))))))))), ?_⟩
    refine ⟨_, rfl, _, rfl, v, _, 0, _, rfl, rfl, SqT.of hv, rfl, _, _, rfl, rfl, md, la, ca, B, _, rfl, hst, by omega, by omega, by omega, fun H1 f d1 st1 f1 f2 => ?_⟩
    refine ⟨_, rfl, _, rfl, md, la, ca, _, 99999, rfl, st1, by decide, by decide, by omega, fun H2 n d2 st2 n1 n2 => ?_⟩
    refine ⟨_, _, rfl, rfl, fun x dx hx hdx hne => ?_⟩
    have is2 := (hst.is d1).trans (st1.is d2)
    have e3 := mk_same (o := .own x) (u := .ins (He.ga K "Life") dx []) hx hdx
    refine ⟨x, dx, so, sd, 1 + n, rfl, upd_same, (hso.mono is2).mono (.of e3), by omega, by omega, fun H3 l sx hl0 hlife => ⟨rfl, ⟨_, _, rfl, ?_⟩⟩⟩
    have d02 := d1.trans d2
    have hxH : H x = none := st2.back d02 hx
    have hlH : H l = none := st2.back d02 (e3.free hl0)
    have d03 : DS md la H H3 := DS.sx (d02.trans (SBut.of e3)) sx hxH
    have st3 : StAt H3 md la ca (B + 1 + 1) := (st2.same e3).sx sx upd_same
    have fx : ¬ (x = md ∨ x = la) := hst.free hxH
    have fl : ¬ (l = md ∨ l = la) := hst.free hlH
    have is03 : ISame H H3 := hst.is d03
    have hv3 := is03.tup _ _ hv
    refine ⟨_, rfl, _, _, rfl, rfl, ⟨by decide, by decide, by decide⟩, _, _, rfl, rfl, _, rfl, v, _, 1, _, rfl, rfl, SqT.of hv3, rfl, _, _, rfl, rfl, md, la, ca, _, _, rfl, st3, by rw [e6]; omega, by rw [e6]; omega, by omega, fun H4 a d4 st4 a1 a2 => ?_⟩
    rw [e6] at a2
    have is4 := st3.is d4
    have hv4 := is4.tup _ _ hv3
    refine ⟨_, rfl, _, _, rfl, rfl, ⟨by decide, by decide, by decide⟩, _, _, rfl, rfl, _, rfl, v, _, 2, _, rfl, rfl, SqT.of hv4, rfl, _, _, rfl, rfl, md, la, ca, _, _, rfl, st4, by rw [e6]; omega, by rw [e6]; omega, by omega, fun H5 b d5 st5 b1 b2 => ?_⟩
    rw [e6] at b2
    have is5 := st4.is d5
    have rm : Room3 f a b t := ⟨by omega, by omega, by omega⟩
    refine ⟨sz2, fun ms hms => ?_⟩
    have e5 : Same H5 (upd H5 ms (.tup [.int a, .int b])) := Same.new hms
    have hms6 : (upd H5 ms (.tup [.int a, .int b])) ms = some (.tup [.int a, .int b]) := upd_same
    have st6 := st5.same e5
    have d36 : DS md la H3 (upd H5 ms (.tup [.int a, .int b])) := (d4.trans d5).trans (SBut.of e5)
    generalize upd H5 ms (.tup [.int a, .int b]) = H6 at *
    have is36 := st3.is d36
    have hv6 := is36.tup _ _ hv3
    -- the last day and its meter
    refine ⟨_, rfl, _, rfl, v, _, 0, _, rfl, rfl, SqT.of hv6, rfl, _, _, rfl, rfl, ?_⟩
    refine ⟨_, rfl, ms, _, 0, _, rfl, rfl, SqT.of hms6, rfl, _, rfl, v, _, 1, _, rfl, rfl, SqT.of hv6, rfl, _, _, rfl, rfl, ?_⟩
    refine ⟨_, rfl, ms, _, 1, _, rfl, rfl, SqT.of hms6, rfl, _, rfl, v, _, 2, _, rfl, rfl, SqT.of hv6, rfl, _, _, rfl, rfl, sz2, fun lm hlm => ?_⟩
    refine ⟨sz2, fun lt hlt => ?_⟩
    have e7 : Same H6 (upd (upd H6 lm (.tup [.int (a + t.2.1), .int (b + t.2.2)])) lt (.tup [.int (f + t.1), .ref lm])) := (Same.new hlm).trans (Same.new hlt)
    have hlm7 : (upd (upd H6 lm (.tup [.int (a + t.2.1), .int (b + t.2.2)])) lt (.tup [.int (f + t.1), .ref lm])) lm = some (.tup [.int (a + t.2.1), .int (b + t.2.2)]) := (Same.new hlt) _ _ upd_same
    have hlt7 : (upd (upd H6 lm (.tup [.int (a + t.2.1), .int (b + t.2.2)])) lt (.tup [.int (f + t.1), .ref lm])) lt = some (.tup [.int (f + t.1), .ref lm]) := upd_same
    generalize upd (upd H6 lm (.tup [.int (a + t.2.1), .int (b + t.2.2)])) lt (.tup [.int (f + t.1), .ref lm]) = H7 at *
    have hms7 := e7 _ _ hms6
    have st7 := st6.same e7
    have d37 := d36.trans (SBut.of e7)
    -- the three pages
    refine ⟨_, rfl, _, rfl, szn (n := 4) (by decide), fun p1 hp1 => ?_⟩
    have e8 : Same H7 (upd H7 p1 (.tup [.str "sold", .int f, .ref ms, .str "ann"])) := Same.new hp1
    have hp18 : (upd H7 p1 (.tup [.str "sold", .int f, .ref ms, .str "ann"])) p1 = some (.tup [.str "sold", .int f, .ref ms, .str "ann"]) := upd_same
    generalize upd H7 p1 (.tup [.str "sold", .int f, .ref ms, .str "ann"]) = H8 at *
    refine ⟨szn (n := 1) (by decide), fun q1 hq1 => ?_⟩
    have e9 : Same H8 (upd H8 q1 (.tup [.str "claimed"])) := Same.new hq1
    refine ⟨_, rfl, catA upd_same (e9 _ _ (e8 _ _ hlt7)) (by simp) (by simp) (by simp) fun z1 H9 e10 hz1 => ?_⟩
    refine ⟨_, rfl, sz2, fun q2 hq2 => ?_⟩
    have e11 : Same H9 (upd H9 q2 (.tup [.str one, .int 500])) := Same.new hq2
    refine catA (e11 _ _ hz1) upd_same (by simp) (by simp) (by simp) fun p2 H10 e12 hp2 => ?_
    have e8' : Same H8 H10 := ((e9.trans e10).trans e11).trans e12
    refine ⟨szn (n := 1) (by decide), fun q3 hq3 => ?_⟩
    have e13 : Same H10 (upd H10 q3 (.tup [.str "sold"])) := Same.new hq3
    refine ⟨_, rfl, catA upd_same (e13 _ _ (e8' _ _ (e8 _ _ hlt7))) (by simp) (by simp) (by simp) fun z2 H11 e14 hz2 => ?_⟩
    refine ⟨szn (n := 1) (by decide), fun q4 hq4 => ?_⟩
    have e15 : Same H11 (upd H11 q4 (.tup [.str "bob"])) := Same.new hq4
    refine catA (e15 _ _ hz2) upd_same (by simp) (by simp) (by simp) fun p3 H12 e16 hp3 => ?_
    have e10' : Same H10 H12 := ((e13.trans e14).trans e15).trans e16
    refine ⟨szn (n := 3) (by decide), fun lp hlp => ?_⟩
    have e7y : Same H7 H12 := e8.trans (e8'.trans e10')
    have st12 := st7.same e7y
    have hlpH : H lp = none := st12.back (d03.trans (d37.trans (SBut.of e7y))) hlp
    obtain ⟨nlm, nll, nlc⟩ := st12.fresh hlp
    have nlt : lt ≠ lp := ne_of_none (e7y _ _ hlt7) hlp
    have nlmm : lm ≠ lp := ne_of_none (e7y _ _ hlm7) hlp
    have e17 : Same H12 (upd H12 lp (.lst [.ref p1, .ref p2, .ref p3])) := Same.new hlp
    have hlp13 : (upd H12 lp (.lst [.ref p1, .ref p2, .ref p3])) lp = some (.lst [.ref p1, .ref p2, .ref p3]) := upd_same
    generalize upd H12 lp (.lst [.ref p1, .ref p2, .ref p3]) = H13 at *
    have e8x : Same H8 H13 := e8'.trans (e10'.trans e17)
    have e7x : Same H7 H13 := e8.trans e8x
    have hP1 : PageAt H13 (.ref p1) ⟨f, a, b, .sold "ann"⟩ := ⟨p1, ms, rfl, e8x _ _ hp18, e7x _ _ hms7⟩
    have hP2 : PageAt H13 (.ref p2) ⟨f + t.1, a + t.2.1, b + t.2.2, .claimed one 500⟩ := ⟨p2, lm, rfl, (e10'.trans e17) _ _ hp2, e7x _ _ hlm7⟩
    have hP3 : PageAt H13 (.ref p3) ⟨f + t.1, a + t.2.1, b + t.2.2, .sold "bob"⟩ := ⟨p3, lm, rfl, e17 _ _ hp3, e7x _ _ hlm7⟩
    have hpages : AllAt (PageAt H13) [.ref p1, .ref p2, .ref p3] (page3 f a b one t) := ((AllAt.nil.snoc hP1).snoc hP2).snoc hP3
    have d3x : DS md la H3 H13 := d37.trans (SBut.of e7x)
    have st13 := st7.same e7x
    have is3x := st3.is d3x
    have hlife13 : LifeAt K H13 x l sd [] := hlife.keep is3x (by
      obtain ⟨_, _, _, _, _, _, hl3, _⟩ := id hlife
      rw [hl3]
      exact d3x l _ fl hl3)
    have hlt13 := e7x _ _ hlt7
    have hlm13 := e7x _ _ hlm7
    have d0x : DS md la H H13 := d03.trans d3x
    have nl : l ≠ lp := by
      obtain ⟨_, _, _, _, _, _, hl3, _⟩ := id hlife
      exact ne_of_none ((d37.trans (SBut.of e7y)) l _ fl hl3) hlp
    have isLp : ∀ {H' : Hp}, SX lp H13 H' → ISame H13 H' := fun e => ⟨fun a xs h => e a _ (ne_of h hlp13 (fun z => by cases z)) h, fun a C dx fs h => e a _ (ne_of h hlp13 (fun z => by cases z)) h⟩
    have hva13 : T3O H13 va ao := hva.mono (hst.is d0x)
    refine ⟨fun σ' H' => ∃ y us, σ' = [some (.ref md), some (.ref so), some (.str one), some (.ref v), some va, some (sv bo), some (.int f), some (.ref x), some (.ref ms), some (.ref lt), some (.ref lp), y, none] ∧ SX lp H13 H' ∧ H' lp = some (.lst us) ∧ AllAt (PageAt H') us (page3 f a b one t ++ pageM f a b one t ao), ?_, ?_⟩
    · cases ao with
      | none =>
        obtain rfl : va = .non := hva
        exact ⟨_, rfl, rfl, _, rfl, iteF ⟨_, _, rfl, SBut.refl _, hlp13, by simpa [pageM] using hpages⟩⟩
      | some g =>
        obtain ⟨ga, rfl, hg⟩ := hva13
        refine ⟨_, rfl, rfl, _, rfl, iteT ?_⟩
        refine ⟨_, rfl, lt, _, 1, _, rfl, rfl, SqT.of hlt13, rfl, lm, _, 0, _, rfl, rfl, SqT.of hlm13, rfl, _, rfl, ga, _, 1, _, rfl, rfl, SqT.of hg, rfl, _, _, rfl, rfl, ?_⟩
        refine ⟨_, rfl, lt, _, 1, _, rfl, rfl, SqT.of hlt13, rfl, lm, _, 1, _, rfl, rfl, SqT.of hlm13, rfl, _, rfl, ga, _, 2, _, rfl, rfl, SqT.of hg, rfl, _, _, rfl, rfl, sz2, fun mm hmm => ?_⟩
        have f1 : Same H13 (upd H13 mm (.tup [.int (a + t.2.1 - g.2.1), .int (b + t.2.2 - g.2.2)])) := Same.new hmm
        refine ⟨_, rfl, .inl ⟨rfl, _, SqL.of (f1 _ _ hlp13)⟩, _, rfl, lt, _, 0, _, rfl, rfl, SqT.of (f1 _ _ hlt13), rfl, _, rfl, ga, _, 0, _, rfl, rfl, SqT.of (f1 _ _ hg), rfl, _, _, rfl, rfl, _, rfl, _, rfl, szn (n := 4) (by decide), fun p4 hp4 => ?_⟩
        have f2 : Same H13 _ := f1.trans (Same.new (o := .tup [.str "mended", .int (f + t.1 - g.1), .ref mm, .str one]) hp4)
        have hlp14 := f2 _ _ hlp13
        have hP4 : PageAt (upd (upd H13 mm (.tup [.int (a + t.2.1 - g.2.1), .int (b + t.2.2 - g.2.2)])) p4 (.tup [.str "mended", .int (f + t.1 - g.1), .ref mm, .str one])) (.ref p4) ⟨f + t.1 - g.1, a + t.2.1 - g.2.1, b + t.2.2 - g.2.2, .mended one⟩ :=
          ⟨p4, mm, rfl, upd_same, (Same.new hp4) _ _ upd_same⟩
        refine ⟨lp, _, _, rfl, rfl, hlp14, Nat.lt_of_lt_of_le (show 3 < 1000 by decide) (by decide), ?_⟩
        refine ⟨_, _, rfl, (SBut.of f2).trans SX.upd, upd_same, ?_⟩
        exact ((hpages.mono fun _ _ => PageAt.mono (.of f2)).snoc hP4).mono fun _ _ => PageAt.mono (ISame.lst hlp14)
    · rintro σ1 H14 ⟨y1, us1, rfl, s14, hlp14, hp14⟩
      have hlt14 := s14 _ _ nlt hlt13
      have hlm14 := s14 _ _ nlmm hlm13
      have hl1 : us1.length ≤ 4 := by
        rw [hp14.len]
        cases ao <;> simp [page3, pageM]
      refine ⟨fun σ' H' => ∃ us, σ' = [some (.ref md), some (.ref so), some (.str one), some (.ref v), some va, some (sv bo), some (.int f), some (.ref x), some (.ref ms), some (.ref lt), some (.ref lp), y1, none] ∧ SX lp H13 H' ∧ H' lp = some (.lst us) ∧ AllAt (PageAt H') us (pagesOf f a b one t ao bo), ?_, ?_⟩
      · cases bo with
        | none => exact ⟨_, rfl, rfl, _, rfl, iteF ⟨_, rfl, s14, hlp14, by simpa [pagesOf, pageX] using hp14⟩⟩
        | some m =>
          refine ⟨_, rfl, rfl, _, rfl, iteT ?_⟩
          refine ⟨_, rfl, .inl ⟨rfl, _, SqL.of hlp14⟩, szn (n := 1) (by decide), fun q5 hq5 => ?_⟩
          have f1 : Same H14 (upd H14 q5 (.tup [.str "misused"])) := Same.new hq5
          refine ⟨_, rfl, catA upd_same (f1 _ _ hlt14) (by simp) (by simp) (by simp) fun z5 H15 f2 hz5 => ?_⟩
          refine ⟨_, rfl, szn (n := 1) (by decide), fun q6 hq6 => ?_⟩
          have f3 : Same H15 (upd H15 q6 (.tup [sv (some m)])) := Same.new hq6
          refine catA (f3 _ _ hz5) upd_same (by simp) (by simp) (by simp) fun p5 H16 f4 hp5 => ?_
          have f5 : Same H14 H16 := ((f1.trans f2).trans f3).trans f4
          have hlp16 := f5 _ _ hlp14
          refine ⟨lp, _, _, rfl, rfl, hlp16, Nat.lt_of_lt_of_le (show us1.length < 1000 by omega) (by decide), ?_⟩
          refine ⟨_, rfl, (s14.trans (SBut.of f5)).trans SX.upd, upd_same, ?_⟩
          have hP5 : PageAt H16 (.ref p5) ⟨f + t.1, a + t.2.1, b + t.2.2, .misused m⟩ := ⟨p5, lm, rfl, hp5, f5 _ _ hlm14⟩
          exact ((hp14.mono fun _ _ => PageAt.mono (.of f5)).snoc hP5).mono fun _ _ => PageAt.mono (ISame.lst hlp16)
      · rintro σ2 H15 ⟨us, rfl, s15, hlp15, hp15⟩
        have hlt15 := s15 _ _ nlt hlt13
        have is15 := isLp s15
        have st15 : StAt H15 md la ca (B + 1 + 1 + 1 + 1) := by
          obtain ⟨hcl, ls, cs, k, z1, z2, z3, z4⟩ := st13
          exact ⟨hcl, ls, cs, k, s15 _ _ nlm.symm z1, s15 _ _ nll.symm z2, s15 _ _ nlc.symm z3, z4⟩
        have d15 : DS md la H H15 := fun z o n hz => s15 z o (ne_of_none hz hlpH) (d0x z o n hz)
        have hlife15 : LifeAt K H15 x l sd [] := hlife13.keep is15 (by
          obtain ⟨_, _, _, _, _, _, hl3, _⟩ := id hlife13
          rw [hl3]
          exact s15 _ _ nl hl3)
        have hpl : (pagesOf f a b one t ao bo).length ≤ 5 := by cases ao <;> cases bo <;> simp [pagesOf, page3, pageM, pageX]
        have pok := pages_ok pre rm
        refine ⟨_, rfl, _, rfl, md, la, ca, lp, _, sd, us, _, rfl, st15, by omega, hlp15, hp15, by omega, pok, fun H16 q7 us7 ps7 d16 st16 hq70 hq7 hall7 perm7 => ?_⟩
        have is16 := st15.is d16
        have fq7 : ¬ (q7 = md ∨ q7 = la) := st15.free hq70
        have hlife16 : LifeAt K H16 x l sd [] := hlife15.keep is16 (by
          obtain ⟨_, _, _, _, _, _, hl3, _⟩ := id hlife15
          rw [hl3]
          exact d16 _ _ fl hl3)
        have hlt16 := is16.tup _ _ hlt15
        have d016 := d15.trans d16
        have nd7 : ps7.Nodup := perm7.nodup_iff.mpr pages_nd
        have hlen7 : ps7.length ≤ 5 := by rw [perm7.length_eq]; exact hpl
        refine ⟨q7, rfl, ⟨_, SqL.of hq7⟩, ?_⟩
        refine for_it (walk_list (K := K) (a := q7) (xs := us7)) (fun i σ H' => ∃ y l' pp, σ = [some (.ref md), some (.ref so), some (.str one), some (.ref v), some va, some (sv bo), some (.int f), some (.ref x), some (.ref ms), some (.ref lt), some (.ref lp), y1, y] ∧ DS md la H H' ∧ StAt H' md la ca (B + 20) ∧ H' q7 = some (.lst us7) ∧
          AllAt (PageAt H') us7 ps7 ∧ LifeAt K H' x l' sd pp ∧ pp.Perm (ps7.take i) ∧ pp.Pairwise (fun x y => x.day ≤ y.day) ∧ H' lt = some (.tup [.int (f + t.1), .ref lm]))
          ⟨_, l, [], rfl, d016, st16.le (by omega), hq7, hall7, hlife16, List.Perm.refl _, .nil, hlt16⟩ (fun i σ H' _ ⟨_, _, _, _, _, _, h, _⟩ => SqL.of h) ?_ ?_
        · rintro i v1 σ Ha Hb hi ⟨y2, l', pp, rfl, dA, stA, hqA, hallA, hlA, permA, pwA, hltA⟩ ⟨rfl, hx1⟩
          obtain ⟨g, hg1, hg⟩ := hallA.get hx1
          have hgm : g ∈ pagesOf f a b one t ao bo := perm7.mem_iff.mp (List.mem_of_getElem? hg1)
          have hpm : ∀ z ∈ pp, z ∈ pagesOf f a b one t ao bo := fun z hz => perm7.mem_iff.mp (List.mem_of_mem_take (permA.mem_iff.mp hz))
          have hgn : g ∉ pp := fun hz => by
            have hz2 := permA.mem_iff.mp hz
            obtain ⟨k, hk⟩ := List.getElem?_of_mem hz2
            obtain ⟨hk1, hk2⟩ := List.getElem?_eq_some_iff.mp hk
            obtain ⟨hi1, hi2⟩ := List.getElem?_eq_some_iff.mp hg1
            rw [List.length_take] at hk1
            rw [List.getElem_take] at hk2
            have := nd_inj nd7 (by omega) hi1 (hk2.trans hi2.symm)
            omega
          obtain ⟨dxA, soA, nA, usA, hxA, _⟩ := id hlA
          have hppl : pp.length ≤ 20 := by
            have := permA.length_eq
            rw [List.length_take] at this
            omega
          refine ⟨_, rfl, x, dxA, _, rfl, hxA, rfl, _, rfl, x, l', v1, sd, pp, g, rfl, hlA, pre.ok.rows.len, hg, pok g hgm, fun z hz => pok z (hpm z hz), hgn, fun z hz => pages_fit pre g hgm z (hpm z hz), hppl, fun Hc l2 ps2 sC hl2 hlC permC pwC => ?_⟩
          have fsC := SX.fs (f := "of_sort") sC hxA okF.self
          refine ⟨_, l2, ps2, rfl, DS.sx dA sC hxH, stA.sx sC hxA, sC _ _ (ne_of hqA hxA (fun z => by cases z)) hqA, hallA.mono fun _ _ => PageAt.monoT fsC.tup, hlC, ?_, pwC, fsC.tup _ _ hltA⟩
          rw [take_snoc hg1]
          refine permC.trans ((List.Perm.cons g permA).trans ?_)
          simpa using (List.perm_append_comm (l₁ := [g]) (l₂ := ps7.take i))
        · rintro σ Hz ⟨y2, l', pp, rfl, dZ, stZ, hqZ, hallZ, hlZ, permZ, pwZ, hltZ⟩
          rw [hallZ.len, List.take_length] at permZ
          refine ⟨_, rfl, _, rfl, lt, _, 0, _, rfl, rfl, SqT.of hltZ, rfl, sz2, fun tt htt => ?_⟩
          have eZ : Same Hz _ := Same.new (o := .tup [.ref x, .int (f + t.1)]) htt
          exact q _ tt x l' f a b pp (dZ.trans (SBut.of eZ)) (stZ.same eZ) upd_same (hlZ.mono eZ) (permZ.trans perm7) pwZ rm
end
end Wk
end

section
set_option Elab.async false
set_option linter.all false
set_option maxRecDepth 100000
/-! the plain law: the verdict says what the answer says -/
namespace Wk
open PySem PySem.Spec PyProof.Rows L2 RZ
theorem okB_mono {o : Option Int} {m n : Int} (h : m ≤ n) (k : okB o n = true) : okB o m = true := by
  cases o with
  | none => rfl
  | some l =>
    simp only [okB, Bool.not_eq_true', decide_eq_false_iff_not] at k ⊢
    omega
theorem holds_mono {b : B3} {g t : T3} (h1 : g.1 ≤ t.1) (h2 : g.2.1 ≤ t.2.1) (h3 : g.2.2 ≤ t.2.2) (k : holds3 b t = true) : holds3 b g = true := by
  unfold holds3 at k ⊢
  obtain ⟨k1, k⟩ := He.ba k
  obtain ⟨k2, k3⟩ := He.ba k
  rw [okB_mono h1 k1, okB_mono h2 k2, okB_mono h3 k3]
  rfl
/-- a rule from p0 on, all pages up to (day, A, M), one of them just there -/
theorem over_eq {w : Str} {h : B3} {p0 : PageD} {ps : List PageD} {day A M : Int} {t : T3} (up : ∀ g ∈ ps, g.day ≤ day ∧ g.m1 ≤ A ∧ g.m2 ≤ M) (at_ : ∃ g ∈ ps, g.day = day ∧ g.m1 = A ∧ g.m2 = M) (t0 : 0 ≤ t.1) (e1 : day - p0.day = t.1) (e2 : A - p0.m1 = t.2.1) (e3 : M - p0.m2 = t.2.2) :
    overB ⟨w, h, p0⟩ ps day = !holds3 h t := by
  cases hh : holds3 h t with
  | true =>
    have h1 : ps.any (overG ⟨w, h, p0⟩) = false := by
      rw [List.any_eq_false]
      intro g hg
      obtain ⟨u1, u2, u3⟩ := up g hg
      have : holds3 h (goneOf p0 g) = true := holds_mono (t := t) (by show g.day - p0.day ≤ _; omega) (by show g.m1 - p0.m1 ≤ _; omega) (by show g.m2 - p0.m2 ≤ _; omega) hh
      show ¬ (decide (p0.day ≤ g.day) && !holds3 h (goneOf p0 g)) = true
      rw [this]
      simp
    have h2 : overL ⟨w, h, p0⟩ day = false := by
      unfold overL
      cases hb : h.1 with
      | none => rfl
      | some l =>
        show decide (p0.day + l < day) = false
        unfold holds3 at hh
        obtain ⟨k1, _⟩ := He.ba hh
        rw [hb] at k1
        simp only [okB, Bool.not_eq_true', decide_eq_false_iff_not] at k1 ⊢
        omega
    unfold overB
    rw [h1, h2]
    rfl
  | false =>
    obtain ⟨g, hg, g1, g2, g3⟩ := at_
    have : ps.any (overG ⟨w, h, p0⟩) = true := by
      refine List.any_eq_true.mpr ⟨g, hg, ?_⟩
      show (decide (p0.day ≤ g.day) && !holds3 h (goneOf p0 g)) = true
      have e : goneOf p0 g = t := Prod.ext (by show g.day - p0.day = _; omega) (Prod.ext (by show g.m1 - p0.m1 = _; omega) (by show g.m2 - p0.m2 = _; omega))
      rw [e, hh, decide_eq_true (show p0.day ≤ g.day by omega)]
      rfl
    unfold overB
    rw [this]
    rfl
section
variable {s : SortD} {f a b : Int} {one : Str} {t : T3} {ao : Option T3} {bo : Option Str} {ps : List PageD} {r : RowD}
theorem pages_up (L : LifePre s one t ao bo) (pm : ps.Perm (pagesOf f a b one t ao bo)) : ∀ g ∈ ps, g.day ≤ f + t.1 ∧ g.m1 ≤ a + t.2.1 ∧ g.m2 ≤ b + t.2.2 := by
  intro g hg
  have h1 := L.t1
  have h2 := L.t2
  have h3 := L.t3
  rcases pages_cases (pm.mem_iff.mp hg) with ⟨k1, k2, k3, _⟩ | ⟨k1, k2, k3, _⟩ | ⟨e, he, k1, k2, k3, _⟩
  · omega
  · omega
  · obtain ⟨e1, e2, e3, _⟩ := L.ag e he
    omega
theorem mem_claim (pm : ps.Perm (pagesOf f a b one t ao bo)) : (⟨f + t.1, a + t.2.1, b + t.2.2, .claimed one 500⟩ : PageD) ∈ ps := pm.mem_iff.mpr (by simp [pagesOf, page3])
theorem mem_sold (pm : ps.Perm (pagesOf f a b one t ao bo)) : (⟨f, a, b, .sold "ann"⟩ : PageD) ∈ ps := pm.mem_iff.mpr (by simp [pagesOf, page3])
theorem upTo_all (L : LifePre s one t ao bo) (pm : ps.Perm (pagesOf f a b one t ao bo)) : upTo ps (f + t.1) = ps := by
  unfold upTo
  rw [List.filter_eq_self]
  intro g hg
  exact decide_eq_true (pages_up L pm g hg).1
theorem first_sold (L : LifePre s one t ao bo) (pm : ps.Perm (pagesOf f a b one t ao bo)) (pw : ps.Pairwise (fun x y => x.day ≤ y.day)) : ∃ p0 rest, ps.filter isSold = p0 :: rest ∧ p0.day = f ∧ p0.m1 = a ∧ p0.m2 = b := by
  have hm : (⟨f, a, b, .sold "ann"⟩ : PageD) ∈ ps.filter isSold := List.mem_filter.mpr ⟨mem_sold pm, rfl⟩
  cases hf : ps.filter isSold with
  | nil => rw [hf] at hm; cases hm
  | cons p0 rest =>
    refine ⟨p0, rest, rfl, ?_⟩
    have hp0 : p0 ∈ ps.filter isSold := by rw [hf]; simp
    obtain ⟨h1, h2⟩ := List.mem_filter.mp hp0
    have pwf : (p0 :: rest).Pairwise (fun x y => x.day ≤ y.day) := by rw [← hf]; exact pw.filter _
    have hle : p0.day ≤ f := by
      rw [hf] at hm
      rcases List.mem_cons.mp hm with e | e
      · rw [← e]; exact Int.le_refl _
      · exact (List.pairwise_cons.mp pwf).1 _ e
    have t1 := L.t1
    rcases pages_cases (pm.mem_iff.mp h1) with ⟨k1, k2, k3, _⟩ | ⟨k1, k2, k3, _⟩ | ⟨e, he, k1, k2, k3, hk⟩
    · exact ⟨k1, k2, k3⟩
    · have z := L.zero (by omega)
      omega
    · unfold isSold at h2
      rw [hk] at h2
      cases h2
theorem mis_any (pm : ps.Perm (pagesOf f a b one t ao bo)) : ps.any (misG s one) = barBy s one bo := by
  have e : ps.any (misG s one) = (pagesOf f a b one t ao bo).any (misG s one) := by
    rw [Bool.eq_iff_iff, List.any_eq_true, List.any_eq_true]
    exact ⟨fun ⟨x, h1, h2⟩ => ⟨x, pm.mem_iff.mp h1, h2⟩, fun ⟨x, h1, h2⟩ => ⟨x, pm.mem_iff.mpr h1, h2⟩⟩
  rw [e]
  cases ao <;> cases bo <;> simp [pagesOf, page3, pageM, pageX, misG, barBy]
theorem rules_any (L : LifePre s one t ao bo) (pm : ps.Perm (pagesOf f a b one t ao bo)) {p0 : PageD} (h0 : p0.day = f ∧ p0.m1 = a ∧ p0.m2 = b) :
    ((rulesFor s r p0 ps one (f + t.1)).any fun rd => !overB rd ps (f + t.1)) = (holds3 (heldB s r) t || keptBy r.2.2 ao) := by
  have up := pages_up L pm
  have atC : ∃ g ∈ ps, g.day = f + t.1 ∧ g.m1 = a + t.2.1 ∧ g.m2 = b + t.2.2 := ⟨_, mem_claim pm, rfl, rfl, rfl⟩
  rw [rulesFor, List.any_cons]
  rw [over_eq (t := t) up atC L.t1.1 (by omega) (by omega) (by omega), Bool.not_not]
  congr 1
  cases hm : r.2.2 with
  | none => cases ao <;> rfl
  | some m =>
    cases ao with
    | none =>
      show List.any _ _ = false
      rw [List.any_map, List.any_eq_false]
      intro g hg
      obtain ⟨h1, h2⟩ := List.mem_filter.mp hg
      unfold mendB at h2
      rcases pages_cases (pm.mem_iff.mp h1) with ⟨_, _, _, hk⟩ | ⟨_, _, _, hk⟩ | ⟨e, he, _⟩
      · rw [hk] at h2; cases h2
      · rcases hk with hk | hk | ⟨m, _, hk⟩ <;> (rw [hk] at h2; cases h2)
      · cases he
    | some e =>
      obtain ⟨e1, e2, e3, e4⟩ := L.ag e rfl
      have ov : ∀ g : PageD, g.day = f + t.1 - e.1 → g.m1 = a + t.2.1 - e.2.1 → g.m2 = b + t.2.2 - e.2.2 → overB ⟨"mended", m, g⟩ ps (f + t.1) = !holds3 m e := fun g k1 k2 k3 => over_eq (t := e) up atC (by omega) (by omega) (by omega) (by omega)
      show List.any _ _ = holds3 m e
      rw [List.any_map, Bool.eq_iff_iff, List.any_eq_true]
      constructor
      · rintro ⟨g, hg, ho⟩
        obtain ⟨h1, h2⟩ := List.mem_filter.mp hg
        unfold mendB at h2
        rcases pages_cases (pm.mem_iff.mp h1) with ⟨_, _, _, hk⟩ | ⟨_, _, _, hk⟩ | ⟨e', he, k1, k2, k3, hk⟩
        · rw [hk] at h2; cases h2
        · rcases hk with hk | hk | ⟨m, _, hk⟩ <;> (rw [hk] at h2; cases h2)
        · cases he
          have ho' : (!overB ⟨"mended", m, g⟩ ps (f + t.1)) = true := ho
          rw [ov g k1 k2 k3, Bool.not_not] at ho'
          exact ho'
      · intro hh
        refine ⟨⟨f + t.1 - e.1, a + t.2.1 - e.2.1, b + t.2.2 - e.2.2, .mended one⟩, List.mem_filter.mpr ⟨pm.mem_iff.mpr (by simp [pagesOf, pageM]), ?_⟩, ?_⟩
        · show (decide (one = one) && (decide (p0.day ≤ f + t.1 - e.1) && decide (f + t.1 - e.1 < f + t.1))) = true
          rw [decide_eq_true rfl, decide_eq_true (show p0.day ≤ f + t.1 - e.1 by omega), decide_eq_true (show f + t.1 - e.1 < f + t.1 by omega)]
          rfl
        · show (!overB ⟨"mended", m, _⟩ ps (f + t.1)) = true
          rw [ov _ rfl rfl rfl, hh]
          rfl
theorem verd_eq (L : LifePre s one t ao bo) (pm : ps.Perm (pagesOf f a b one t ao bo)) {p0 : PageD} (h0 : p0.day = f ∧ p0.m1 = a ∧ p0.m2 = b) :
    verdB s (rulesFor s r p0 ps one (f + t.1)) ps one (f + t.1) = (!barBy s one bo && (holds3 (heldB s r) t || keptBy r.2.2 ao)) := by
  rw [verdB, mis_any pm, rules_any L pm h0]
theorem ans_eq (hr : rowOf s.rows one = some r) : ansOf s ⟨s.name, one, t, ao, bo⟩ = if (!barBy s one bo && (holds3 (heldB s r) t || keptBy r.2.2 ao)) = true then ("stands" : Str) else "falls" := by
  unfold ansOf
  rw [if_pos rfl]
  simp only []
  rw [hr]
  simp only []
  cases barBy s one bo <;> cases (holds3 (heldB s r) t || keptBy r.2.2 ao) <;> rfl
end
end Wk
end

section
set_option Elab.async false
set_option linter.all false
set_option maxRecDepth 100000
/-! one_right: an answer and the verdict of a life -/
namespace Wk
open PySem PySem.Spec PyProof.Rows L2 RZ
def sp_right (K : PySem.W.Frag) : Sp := fun vs H Q _ => ∃ (md la ca bk d pl rw_ wl : Addr) (B : Int) (s : SortD) (r : RowD) (ws : List Str), vs = [.ref md, .ref bk, .ref pl, .ref rw_, .ref wl] ∧ StAt H md la ca B ∧ B + 60 ≤ 2 ^ 20 ∧ BookAt K H bk d s ∧ ¬ (d = md ∨ d = la) ∧ PlainAt H pl s ∧ PlainOk s ∧ PRowAt H (.ref rw_) r ∧ r ∈ s.rows ∧
  H wl = some (.lst (ws.map V.str)) ∧ wl ≠ la ∧ W19 ws ∧ s.name ≠ "qqq" ∧ (∀ r ∈ s.rows, r.1 ≠ "qqq") ∧ ∀ H', DS md la H H' → StAt H' md la ca (B + 60) → Q (.bl true) H'
theorem made {H H1 H2 : Hp} {x : Addr} (e : Same H H1) (k : ∀ a o, H1 a = some o → a ≠ x → H2 a = some o) (hx : H x = none) : Same H H2 := fun a o ha => k a o (e a o ha) (ne_of_none ha hx)
theorem row_find {rs : List RowD} (asc : Chain (fun a b => ltS a.1 b.1) rs) {r : RowD} (hr : r ∈ rs) : rowOf rs r.1 = some r := by
  obtain ⟨i, hi⟩ := List.getElem?_of_mem hr
  have pw : ∀ (n k : Nat) (x y : RowD), rs[k]? = some x → rs[k + n + 1]? = some y → ltS x.1 y.1 = true := by
    intro n
    induction n with
    | zero => intro k x y hx hy; exact asc k x y hx hy
    | succ n ih =>
      intro k x y hx hy
      obtain ⟨h2, _⟩ := List.getElem?_eq_some_iff.mp hy
      have hz : rs[k + n + 1]? = some rs[k + n + 1] := by simp [show k + n + 1 < rs.length by omega]
      exact ltS_trans (ih k x _ hx hz) (asc (k + n + 1) _ y hz hy)
  refine rowOf_some hi rfl fun j hj q hq e => ?_
  have := pw (i - j - 1) j q r hq (by rw [show j + (i - j - 1) + 1 = i by omega]; exact hi)
  unfold ltS at this
  rw [e] at this
  exact List.lt_irrefl _ (of_decide_eq_true this)
theorem B3ok.getD {o : Option B3} {b : B3} (h : okO o) (hb : B3ok b) : B3ok (o.getD b) := by
  cases o with
  | none => exact hb
  | some c => exact h c rfl
theorem shp_iii (x y z : Int) : SeqAt.shaped (.tuple [.int x, .int y, .int z]) = true := by
  unfold SeqAt.shaped
  rw [Bool.and_eq_true]
  exact ⟨by simp [PyData.canLay0, PyData.canLayAll0], decide_eq_true (by simp [PyData.depth, PyData.depthAll])⟩
theorem dp_t3 {K : PySem.W.Frag} {H : Hp} {a : Addr} {t : T3} (h : H a = some (.tup [.int t.1, .int t.2.1, .int t.2.2])) : Dp K H (.ref a) (.tuple [.int t.1, .int t.2.1, .int t.2.2]) := .tup (SqT.of h) (.cons (.int _) (.cons (.int _) (.cons (.int _) .nil)))
theorem eqv_t3 {g t : T3} (h : PyData.eqv (.tuple [.int g.1, .int g.2.1, .int g.2.2]) (.tuple [.int t.1, .int t.2.1, .int t.2.2]) = true) : g.1 = t.1 ∧ g.2.1 = t.2.1 ∧ g.2.2 = t.2.2 := by
  simpa [PyData.eqv, PyData.eqvAll] using h
section
variable {P : Program} {w : World} {K : PySem.W.Frag} {mg : Str → Option Value} {base : Heap}
theorem c_law_one_right (T : Tx w K mg) : C8.Cal P w K mg base 8 "_law_one_right" (sp_right K) [] := by
  obtain ⟨fd, F⟩ := T.F_law_one_right
  refine ⟨_, fd, ["_law_m", "_law_book", "_law_plain", "_law_row", "_law_w"], [], F.ok sc_law_one_right (fun vs H Q E h => ?_) (fun cdv A outer s H vs Q E hr h => ?_), T.g_law_one_right, F.kp, F.bindsN fun _ _ _ _ _ _ us hl => match us, hl with | [_, _, _, _, _], _ => rfl, .nil⟩
  · obtain ⟨x, a, b, c, d, e, f, g, i, j, k, l, rfl, _⟩ := h
    rfl
  · obtain ⟨md, la, ca, bk, d, pl, rw_, wl, B, sd, r, ws, rfl, hst, hB, hbk, fd', hpl, pok, hrow, hrm, hw, nwl, w19, nq, nqr, q⟩ := h
    obtain ⟨ra, v1, v2, hra, hr1, hr2, hr3⟩ := id hrow
    cases hra
    obtain ⟨dxb, a0, hb1, hb2, hb3⟩ := id hbk
    obtain ⟨vp, rt, pt, us0, hp1, hp2, hp3, hp4, hp5⟩ := id hpl
    have e6 : (10 : Int) ^ (6 : Int).toNat = 1000000 := by decide
    have sok := pok.sort
    have rown : Nm r.1 := sok.rows.nm r hrm
    have rfind := row_find sok.rows.asc hrm
    obtain ⟨ro1, ro2⟩ := pok.rows r hrm
    have hheld : B3ok (heldB sd r) := B3ok.getD ro1 pok.prom
    have nwm : wl ≠ md := by
      obtain ⟨hcl, ls, cs, k, h1, _⟩ := id hst
      exact ne_of hw h1 (fun z => by cases z)
    have fw : ¬ (wl = md ∨ wl = la) := fun z => z.elim nwm nwl
    have keepB : ∀ {H' : Hp}, DS md la H H' → BookAt K H' bk d sd := fun e => hbk.keep (hst.is e) (by rw [hb2]; exact e d _ fd' hb2)
    refine ⟨_, PSs.nox (pss_cons (ps_asg (pv 3) (pg_tup rfl (pgs_cons (pg_name (i := 5) sc_law_one_right.nd rfl (Or.inl rfl)) (pgs_cons (pg_name (i := 6) sc_law_one_right.nd rfl (Or.inl rfl)) (pgs_cons (pg_name (i := 7) sc_law_one_right.nd rfl (Or.inl rfl)) pgs_nil)))))
      (pss_cons (ps_par (i := 8) (j := 9) (by rfl) sc_law_one_right.nd rfl rfl (by decide) rfl rfl (pa_cons (pe_mtx (m_Book_sort_of T) hr (by decide) (pv 1) (pa_cons (pe_ix ix_tup (pv 2) pe_int (fun _ _ => rfl)) pa_nil)) (pa_cons (pe_ifExp (pt_cmpR op_isN (pv 6) pe_non (nomark _)) (pe_ix ix_tup (pv 2) pe_int (fun _ _ => rfl)) (pv 6)) pa_nil)) (by rfl))
      (pss_cons (ps_set (i := 10) sc_law_one_right.nd rfl (Or.inl rfl) (C8.pe_c (c_law_gone T) hr (by decide) rfl (pa_cons (pv 0) (pa_cons (pv 9) (pa_cons (pe_tup (pa_cons pe_int (pa_cons (pe_op op_pow pe_int pe_int) (pa_cons (pe_op op_pow pe_int pe_int) pa_nil)))) pa_nil)))))
      (C8.pss_cut (ps_set (i := 10) sc_law_one_right.nd rfl (Or.inl rfl) (pe_ifExp (pt_cmpR op_gt (pe_ix ix_tup (pv 10) pe_int (fun _ _ => rfl)) pe_int (nomark _)) (pv 10) (pe_tup (pa_cons pe_int (pa_cons pe_int (pa_cons pe_int pa_nil))))))
      (C8.pss_cut (ps_set (i := 11) sc_law_one_right.nd rfl (Or.inl rfl) (pe_ifExp (pt_cmpR op_eq (C8.pe_c (c_law_draw T) hr (by decide) rfl (pa_cons (pv 0) (pa_cons pe_int pa_nil))) pe_int (nomark _)) (C8.pe_c (c_law_gone T) hr (by decide) rfl (pa_cons (pv 0) (pa_cons (pe_ifExp (pt_cmpR op_isN (pv 7) pe_non (nomark _)) (pv 9) (pv 7)) (pa_cons (pv 10) pa_nil)))) pe_non))
      (C8.pss_cut (ps_if (PW.pt (pw_and (pt_cmpR op_notN (pv 11) pe_non (nomark _)) (pw_and1 (PW.pt (pw_or (pt_cmpR op_eq (pe_ix ix_tup (pv 11) pe_int (fun _ _ => rfl)) pe_int (nomark _)) (pw_or1 (PW.pt (pw_and (pt_cmpR op_eq (pe_ix ix_tup (pv 11) pe_int (fun _ _ => rfl)) (pe_ix ix_tup (pv 10) pe_int (fun _ _ => rfl)) (nomark _)) (pw_and1 (pt_cmpR (op_neD hr.units) (pv 11) (pv 10) (nomark _))))))))))) (pss_one (ps_set (i := 11) sc_law_one_right.nd rfl (Or.inl rfl) (pe_ifExp (pt_cmpR op_gt (pe_ix ix_tup (pv 10) pe_int (fun _ _ => rfl)) pe_int (nomark _)) (pv 10) pe_non))) pss_nil)
      (pss_cons (ps_set (i := 12) sc_law_one_right.nd rfl (Or.inl rfl) (pe_ix ix_list (pe_lst (pa_cons pe_non (pa_cons pe_non (pa_cons (pe_ix ix_list (pv 4) pe_int (fun _ _ => rfl)) (pa_cons (pe_ix ix_list (pv 4) pe_int (fun _ _ => rfl)) (pa_cons pe_str pa_nil)))))) (C8.pe_c (c_law_draw T) hr (by decide) rfl (pa_cons (pv 0) (pa_cons pe_int pa_nil))) (fun _ _ => rfl)))
      (pss_cons (ps_asg (C8.pe_c (c_law_life T) hr (by decide) rfl (pa_cons (pv 0) (pa_cons (pv 8) (pa_cons (pv 5) (pa_cons (pv 10) (pa_cons (pv 11) (pa_cons (pv 12) pa_nil))))))) (pg_tup rfl (pgs_cons (pg_name (i := 13) sc_law_one_right.nd rfl (Or.inl rfl)) (pgs_cons (pg_name (i := 14) sc_law_one_right.nd rfl (Or.inl rfl)) pgs_nil))))
      (pss_cons (ps_set (i := 15) sc_law_one_right.nd rfl (Or.inl rfl) (C8.pe_c (c_answer T) hr (by decide) rfl (pa_cons (pv 1) (pa_cons (C8.pe_mk (k_Question0 T) hr (by decide) rfl (pa_cons (pe_ix ix_tup (pv 2) pe_int (fun _ _ => rfl)) (pa_cons (pv 5) (pa_cons (pv 10) (pa_cons (pv 11) (pa_cons (pv 12) pa_nil)))))) pa_nil))))
      (pss_cons (ps_if (pt_cmpR op_ne (pv 15) (pe_ix ix_tup (C8.pe_mt (m_Life_verdict T) hr (by decide) (pv 13) (pa_cons (pv 5) (pa_cons (pv 14) pa_nil))) pe_int (fun _ _ => rfl)) (nomark _)) (pss_one (ps_ret pe_bl)) pss_nil)
      (pss_cons (ps_setLc (i := 16) (own := [("_law_rule", 19)]) (g := gName 19) (by rfl) sc_law_one_right.nd rfl rfl (sw_true rfl rfl rfl (by decide +kernel)) (pi_list (C8.pe_mt (m_Life_rules T) hr (by decide) (pv 13) (pa_cons (pv 5) (pa_cons (pv 14) pa_nil)))) (blkOk_by (own := [("_law_rule", 19)]) (N := N_law_one_right) (sc := defScope s_law_one_right) (by decide +kernel)) (fun _ _ _ _ _ => (pg_name (i := 19) sc_law_one_right.nd rfl (Or.inl rfl))) (fun _ _ _ _ _ => (pts_one (pt_cmpR op_isN (pe_ix (ix_tupK (K := K)) (pv 19) pe_int (fun _ _ => rfl)) pe_non (nomark _)))) (fun _ _ _ _ _ => (pv 19)))
      (C8.pss_cut (ps_set (i := 17) sc_law_one_right.nd rfl (Or.inl rfl) (pe_and (pe_cmpR op_notN (pv 12) pe_non (nomark _)) (pe_one (C8.pe_mt (m_Sort_is_barred T) hr (by decide) (pv 8) (pa_cons (pv 12) (pa_cons (pv 5) pa_nil))))))
      (C8.pss_cut (ps_if (pt_cmpR op_ne (pe_cmpR op_eq (pv 15) pe_str (nomark _)) (pe_and (pe_cmpR (op_neD hr.units) (pv 16) (pe_lst pa_nil) (nomark _)) (pe_one (pe_not (pv 17)))) (nomark _)) (pss_one (ps_ret pe_bl)) pss_nil)
      (pss_cons (ps_set (i := 18) sc_law_one_right.nd rfl (Or.inl rfl) (pe_lst (pa_cons (C8.pe_mk (k_Question2 T) hr (by decide) rfl (pa_cons pe_str (pa_cons (pv 5) (pa_cons (pv 10) pa_nil)))) (pa_cons (C8.pe_mk (k_Question1 T) hr (by decide) rfl (pa_cons (pe_ix ix_tup (pv 2) pe_int (fun _ _ => rfl)) (pa_cons pe_str (pa_cons (pv 10) (pa_cons (pv 11) pa_nil))))) pa_nil))))
      (pss_one (ps_ret (pe_cmpR (op_eqD hr.units) (pe_lc (own := [("_law_question", 20)]) (g := gName 20) rfl sc_law_one_right.nd (pi_list (pv 18)) (blkOk_by (own := [("_law_question", 20)]) (N := N_law_one_right) (sc := defScope s_law_one_right) (by decide +kernel)) (fun _ _ _ _ _ => (pg_name (i := 20) sc_law_one_right.nd rfl (Or.inl rfl))) (fun _ _ _ _ _ => pts_nil) (fun _ _ _ _ _ => (C8.pe_c (c_answer T) hr (by decide) rfl (pa_cons (pv 1) (pa_cons (pv 20) pa_nil))))) (pe_op op_rep (pe_lst (pa_cons pe_str pa_nil)) pe_int) (nomark _)))))))))))))))))), ?_⟩
    refine ⟨_, rfl, rw_, _, rfl, SqT.of hr1, rfl, _, _, rfl, _, _, rfl, _, _, rfl, rfl, ?_⟩
    refine ⟨_, rfl, bk, dxb, _, rfl, hb1, rfl, _, rfl, pl, _, 0, _, rfl, rfl, SqT.of hp1, rfl, bk, d, sd, sd.name, rfl, hbk, sok.nm, fun _ H1 so e1 hso => ?_, fun z => absurd rfl z⟩
    obtain ⟨v3, hv3, hnext⟩ : ∃ v3, B3At H1 v3 (heldB sd r) ∧ ∀ (Qv : VK) (σ : L2.St), σ[6]? = some (some v1) → σ[2]? = some (some (V.ref pl)) → Qv v3 H1 → (tIf (tTest (tOp (fun x y H Q => y = V.non ∧ Q (V.bl (decide (x = V.non))) H) (tVar 6) (tC V.non))) (tOp (rIxT K) (tVar 2) (tC (.int 1))) (tVar 6)) σ H1 Qv := by
      cases hq : r.2.1 with
      | none =>
        rw [hq] at hr2
        obtain rfl : v1 = .non := hr2
        refine ⟨vp, by rw [heldB, hq]; exact hp2.mono (.of e1), fun Qv σ hs6 hs2 h => ⟨_, hs6, rfl, _, rfl, iteT ⟨_, hs2, pl, _, 1, _, rfl, rfl, SqT.of (e1 _ _ hp1), rfl, h⟩⟩⟩
      | some b =>
        rw [hq] at hr2
        have hb' : B3At H v1 b := hr2
        obtain ⟨xa, rfl, hxa⟩ := id hb'
        exact ⟨.ref xa, by rw [heldB, hq]; exact hb'.mono (.of e1), fun Qv σ hs6 hs2 h => ⟨_, hs6, rfl, _, rfl, iteF ⟨_, hs6, h⟩⟩⟩
    refine hnext _ _ rfl rfl ⟨_, _, rfl, ?_⟩
    have st1 := hst.same e1
    refine ⟨_, rfl, _, rfl, _, _, rfl, rfl, ⟨by decide, by decide, by decide⟩, _, _, rfl, rfl, ⟨by decide, by decide, by decide⟩, sz3, fun tp htp => ?_⟩
    have e2 : Same H1 _ := Same.new (o := .tup [.int 9999, .int (10 ^ (6 : Int).toNat), .int (10 ^ (6 : Int).toNat)]) htp
    refine ⟨md, la, ca, v3, .ref tp, B, heldB sd r, (9999, 10 ^ (6 : Int).toNat, 10 ^ (6 : Int).toNat), rfl, st1.same e2, by omega, hv3.mono (.of e2), hheld, ⟨tp, rfl, upd_same⟩, ⟨by decide, by decide⟩, by rw [e6]; decide, by rw [e6]; decide, fun H2 w1 g1 d2 st2 hw1 b1 b2 b3 => ?_⟩
    simp only [e6] at b1 b2 b3
    obtain ⟨wa, rfl, hwa⟩ := id hw1
    have d02 : DS md la H H2 := (SBut.of (e1.trans e2)).trans d2
    have is12 : ISame H1 H2 := (ISame.of e2).trans ((st1.same e2).is d2)
    have hso2 : SortAt K H2 so sd := hso.mono is12
    have hv32 := hv3.mono is12
    -- since
    refine ⟨fun σ' H' => ∃ vt t, σ' = [some (.ref md), some (.ref bk), some (.ref pl), some (.ref rw_), some (.ref wl), some (.str r.1), some v1, some v2, some (.ref so), some v3, some vt, none, none, none, none, none, none, none, none, none, none] ∧ Same H2 H' ∧ T3At H' vt t ∧ (0 ≤ t.1 ∧ t.1 ≤ 9999) ∧ (0 ≤ t.2.1 ∧ t.2.1 ≤ 1000000) ∧ (0 ≤ t.2.2 ∧ t.2.2 ≤ 1000000) ∧ (t.1 = 0 → t.2.1 = 0 ∧ t.2.2 = 0), ?_, ?_⟩
    · refine ⟨_, rfl, wa, _, 0, _, rfl, rfl, SqT.of hwa, rfl, _, _, rfl, rfl, _, rfl, ite2b (fun hb => ?_) (fun hb => ?_)⟩
      · have hpos : (0 : Int) < g1.1 := of_decide_eq_true hb
        exact ⟨_, rfl, _, g1, rfl, Same.refl _, hw1, b1, b2, b3, fun z => by omega⟩
      · exact ⟨sz3, fun p hp => ⟨_, (0, 0, 0), rfl, Same.new hp, ⟨p, rfl, upd_same⟩, ⟨by decide, by decide⟩, ⟨by decide, by decide⟩, ⟨by decide, by decide⟩, fun _ => ⟨rfl, rfl⟩⟩⟩
    rintro σ3 H3 ⟨vt, t, rfl, e3, hvt, tb1, tb2, tb3, tz⟩
    obtain ⟨ta, rfl, hta⟩ := id hvt
    have st3 := st2.same e3
    have hv33 := hv32.mono (.of e3)
    -- again, at first
    refine ⟨fun σ' H' => ∃ va ao, σ' = [some (.ref md), some (.ref bk), some (.ref pl), some (.ref rw_), some (.ref wl), some (.str r.1), some v1, some v2, some (.ref so), some v3, some (.ref ta), some va, none, none, none, none, none, none, none, none, none] ∧ DS md la H3 H' ∧ StAt H' md la ca (B + 20) ∧ T3O H' va ao ∧
      ∀ g, ao = some g → (0 ≤ g.1 ∧ g.1 ≤ t.1) ∧ (0 ≤ g.2.1 ∧ g.2.1 ≤ t.2.1) ∧ (0 ≤ g.2.2 ∧ g.2.2 ≤ t.2.2), ?_, ?_⟩
    · refine ⟨_, rfl, md, la, ca, _, 2, rfl, st3, by decide, by decide, by omega, fun H4 c d4 st4 c1 c2 => ?_⟩
      have is4 := st3.is d4
      refine ⟨rfl, _, rfl, ite2b (fun _ => ?_) (fun _ => ?_)⟩
      · obtain ⟨v4, hv4, okb4, hnext4⟩ : ∃ v4, B3At H4 v4 (r.2.2.getD (heldB sd r)) ∧ B3ok (r.2.2.getD (heldB sd r)) ∧ ∀ (Qv : VK) (σ : L2.St), σ[7]? = some (some v2) → σ[9]? = some (some v3) → Qv v4 H4 → (tIf (tTest (tOp (fun x y H Q => y = V.non ∧ Q (V.bl (decide (x = V.non))) H) (tVar 7) (tC V.non))) (tVar 9) (tVar 7)) σ H4 Qv := by
          cases hq : r.2.2 with
          | none =>
            rw [hq] at hr3
            obtain rfl : v2 = .non := hr3
            exact ⟨v3, hv33.mono is4, hheld, fun Qv σ hs7 hs9 h => ⟨_, hs7, rfl, _, rfl, iteT ⟨_, hs9, h⟩⟩⟩
          | some b =>
            rw [hq] at hr3
            have hb' : B3At H v2 b := hr3
            obtain ⟨xa, rfl, hxa⟩ := id hb'
            have is04 : ISame H H4 := (((ISame.of e1).trans is12).trans (.of e3)).trans is4
            exact ⟨.ref xa, hb'.mono is04, ro2 b hq, fun Qv σ hs7 hs9 h => ⟨_, hs7, rfl, _, rfl, iteF ⟨_, hs7, h⟩⟩⟩
        refine ⟨_, rfl, hnext4 _ _ rfl rfl ?_⟩
        refine ⟨_, rfl, md, la, ca, v4, .ref ta, _, _, t, rfl, st4, by omega, hv4, okb4, hvt.mono is4, ⟨by omega, by omega⟩, tb2, tb3, fun H5 w5 g5 d5 st5 hw5 c1 c2 c3 => ?_⟩
        exact ⟨w5, some g5, rfl, d4.trans d5, st5.le (by omega), hw5, fun g z => by cases z; exact ⟨c1, c2, c3⟩⟩
      · exact ⟨.non, none, rfl, d4, st4.le (by omega), rfl, fun g z => by cases z⟩
    rintro σ4 H4 ⟨va, ao0, rfl, d4, st4, hva, hag0⟩
    have is34 := st3.is d4
    have hvt4 := hvt.mono is34
    have hta4 := is34.tup _ _ hta
    -- again, at last
    refine ⟨fun σ' H' => ∃ va ao, σ' = [some (.ref md), some (.ref bk), some (.ref pl), some (.ref rw_), some (.ref wl), some (.str r.1), some v1, some v2, some (.ref so), some v3, some (.ref ta), some va, none, none, none, none, none, none, none, none, none] ∧ Same H4 H' ∧ T3O H' va ao ∧
      ∀ g, ao = some g → (0 < g.1 ∧ g.1 ≤ t.1) ∧ (0 ≤ g.2.1 ∧ g.2.1 ≤ t.2.1) ∧ (0 ≤ g.2.2 ∧ g.2.2 ≤ t.2.2) ∧ (g.1 = t.1 → g.2.1 = t.2.1 ∧ g.2.2 = t.2.2), ?_, ?_⟩
    · cases ao0 with
      | none =>
        obtain rfl : va = .non := hva
        exact ⟨_, rfl, rfl, _, rfl, iteF (iteF ⟨.non, none, rfl, Same.refl _, rfl, fun g z => by cases z⟩)⟩
      | some g =>
        obtain ⟨ga, rfl, hga⟩ := id hva
        obtain ⟨g1', g2', g3'⟩ := hag0 g rfl
        refine ⟨_, rfl, rfl, _, rfl, iteT ?_⟩
        refine ⟨_, rfl, ga, _, 0, _, rfl, rfl, SqT.of hga, rfl, rfl, _, rfl, ite2b (fun hb => iteT ?_) (fun hb => ?_)⟩
        · refine ⟨_, rfl, ta, _, 0, _, rfl, rfl, SqT.of hta4, rfl, _, _, rfl, rfl, _, rfl, ite2b (fun hb9 => ?_) (fun hb9 => ?_)⟩
          · have hp9 : (0 : Int) < t.1 := of_decide_eq_true hb9
            exact ⟨_, rfl, _, some t, rfl, Same.refl _, hvt4, fun g z => by cases z; exact ⟨⟨hp9, Int.le_refl _⟩, ⟨tb2.1, Int.le_refl _⟩, ⟨tb3.1, Int.le_refl _⟩, fun _ => ⟨rfl, rfl⟩⟩⟩
          · exact ⟨.non, none, rfl, Same.refl _, rfl, fun g z => by cases z⟩
        · have hg0 : g.1 ≠ 0 := fun z => of_decide_eq_false hb (congrArg V.int z)
          refine ⟨_, rfl, ga, _, 0, _, rfl, rfl, SqT.of hga, rfl, _, rfl, ta, _, 0, _, rfl, rfl, SqT.of hta4, rfl, rfl, _, rfl, ite2b (fun hb2 => ?_) (fun hb2 => iteF ?_)⟩
          · refine ⟨_, rfl, _, rfl, _, _, dp_t3 hga, dp_t3 hta4, shp_iii _ _ _, shp_iii _ _ _, _, rfl, ite2b (fun hb3 => ?_) (fun hb3 => ?_)⟩
            · refine ⟨_, rfl, ta, _, 0, _, rfl, rfl, SqT.of hta4, rfl, _, _, rfl, rfl, _, rfl, ite2b (fun hb9 => ?_) (fun hb9 => ?_)⟩
              · have hp9 : (0 : Int) < t.1 := of_decide_eq_true hb9
                exact ⟨_, rfl, _, some t, rfl, Same.refl _, hvt4, fun g z => by cases z; exact ⟨⟨hp9, Int.le_refl _⟩, ⟨tb2.1, Int.le_refl _⟩, ⟨tb3.1, Int.le_refl _⟩, fun _ => ⟨rfl, rfl⟩⟩⟩
              · exact ⟨.non, none, rfl, Same.refl _, rfl, fun g z => by cases z⟩
            · rw [Bool.not_eq_false'] at hb3
              obtain ⟨q1, q2, q3⟩ := eqv_t3 hb3
              refine ⟨_, some g, rfl, Same.refl _, hva, fun g' z => by cases z; exact ⟨⟨by omega, g1'.2⟩, g2', g3', fun _ => ⟨q2, q3⟩⟩⟩
          · have hgt : g.1 ≠ t.1 := fun z => of_decide_eq_false hb2 (congrArg V.int z)
            exact ⟨_, some g, rfl, Same.refl _, hva, fun g' z => by cases z; exact ⟨⟨by omega, g1'.2⟩, g2', g3', fun z => absurd z hgt⟩⟩
    rintro σ5 H5 ⟨va, ao, rfl, e5, hva, hag⟩
    have st5 := st4.same e5
    have hvt5 := hvt4.mono (.of e5)
    have d35 : DS md la H3 H5 := d4.trans (SBut.of e5)
    have d05 : DS md la H H5 := (d02.trans (SBut.of e3)).trans d35
    have hw5 := d05 _ _ fw hw
    have is25 : ISame H2 H5 := (ISame.of e3).trans (st3.is d35)
    have hso5 := hso2.mono is25
    obtain ⟨w13, hw13⟩ : ∃ x, ws[13]? = some x := ⟨ws[13]'(by rw [w19.len]; decide), by simp [w19.len]⟩
    obtain ⟨w14, hw14⟩ : ∃ x, ws[14]? = some x := ⟨ws[14]'(by rw [w19.len]; decide), by simp [w19.len]⟩
    have at13 : atI (ws.map V.str) 13 = some (.str w13) := atI_nat (j := 13) (by rw [List.getElem?_map, hw13]; rfl)
    have at14 : atI (ws.map V.str) 14 = some (.str w14) := atI_nat (j := 14) (by rw [List.getElem?_map, hw14]; rfl)
    refine ⟨_, rfl, wl, _, 13, _, rfl, rfl, SqL.of hw5, at13, _, rfl, wl, _, 14, _, rfl, rfl, SqL.of hw5, at14, szn (n := 5) (by decide), fun p5 hp5 => ?_⟩
    have e6' : Same H5 _ := Same.new (o := .lst [V.non, .non, .str w13, .str w14, .str "qqq"]) hp5
    refine ⟨_, rfl, md, la, ca, _, 5, rfl, st5.same e6', by decide, by decide, by omega, fun H6 r5 d6 st6 r51 r52 => ?_⟩
    have hp56 := d6 _ _ (st5.free hp5) upd_same
    obtain ⟨bo, hbo, hbn⟩ : ∃ bo, atI [V.non, .non, .str w13, .str w14, .str "qqq"] r5 = some (sv bo) ∧ ∀ m, bo = some m → Nm m := by
      obtain ⟨n, rfl⟩ : ∃ n : Nat, r5 = n := ⟨r5.toNat, by omega⟩
      match n, r52 with
      | 0, _ => exact ⟨none, rfl, fun m z => by cases z⟩
      | 1, _ => exact ⟨none, rfl, fun m z => by cases z⟩
      | 2, _ => exact ⟨some w13, rfl, fun m z => by cases z; exact w19.nm _ (List.mem_of_getElem? hw13)⟩
      | 3, _ => exact ⟨some w14, rfl, fun m z => by cases z; exact w19.nm _ (List.mem_of_getElem? hw14)⟩
      | 4, _ => exact ⟨some "qqq", rfl, fun m z => by cases z; exact nm_of (by decide +kernel)⟩
      | n + 5, h => omega
    refine ⟨p5, _, _, _, rfl, rfl, SqL.of hp56, hbo, ?_⟩
    have d56 : DS md la H5 H6 := (SBut.of e6').trans d6
    have is56 := st5.is d56
    have pre : LifePre sd r.1 t ao bo := ⟨sok, rown, List.mem_map.mpr ⟨r, hrm, rfl⟩, tb1, tb2, tb3, tz, hag, hbn⟩
    refine ⟨_, rfl, _, rfl, _, rfl, _, rfl, _, rfl, _, rfl, md, la, ca, so, .ref ta, va, _, sd, r.1, t, ao, bo, rfl, st6, by omega, hso5.mono is56, pre, hvt5.mono is56, hva.mono is56, fun H7 tt x l f a b ps d7 st7 htt hlife pm pw rm => ?_⟩
    refine ⟨tt, _, rfl, SqT.of htt, rfl, _, _, rfl, _, _, rfl, rfl, ?_⟩
    have d07 : DS md la H H7 := d05.trans (d56.trans d7)
    have is07 := hst.is d07
    have hbk7 := keepB d07
    have hp17 := is07.tup _ _ hp1
    have is57 : ISame H5 H7 := is56.trans (st6.is d7)
    have hvt7 := hvt5.mono is57
    have hva7 := hva.mono is57
    have hso7 := hso5.mono is57
    have tok : T3ok t := ⟨by omega, by omega, by omega⟩
    have aok : ∀ g, ao = some g → T3ok g ∧ le3 g t := fun g hg => by
      obtain ⟨z1, z2, z3, z4⟩ := hag g hg
      exact ⟨⟨by omega, by omega, by omega⟩, z1.2, z2.2, z3.2⟩
    have qok : QOk ⟨sd.name, r.1, t, ao, bo⟩ := ⟨sok.nm, rown, tok, aok, hbn⟩
    have rr := rm
    have hday : 0 ≤ f + t.1 ∧ f + t.1 ≤ 9999 := ⟨by have := rm.f; omega, rm.f.2⟩
    refine ⟨_, rfl, _, rfl, pl, _, 0, _, rfl, rfl, SqT.of hp17, rfl, _, rfl, _, rfl, _, rfl, _, rfl, fun qx qdx hqx hqdx hqn => ?_⟩
    have m7 := mk_same (o := .own qx) (u := .ins (He.ga K "Question") qdx []) hqx hqdx
    refine ⟨qx, qdx, .ref ta, va, ⟨sd.name, r.1, t, ao, bo⟩, rfl, upd_same, qok, hvt7.mono (.of m7), hva7.mono (.of m7), fun H8 k8 hq8 => ⟨rfl, ?_⟩⟩
    have e78 : Same H7 H8 := made m7 k8 hqx
    refine ⟨bk, d, qx, sd, ⟨sd.name, r.1, t, ao, bo⟩, rfl, hbk7.mono e78, sok, hq8, qok, fun H9 e9 => ?_⟩
    have e79 : Same H7 H9 := e78.trans e9
    obtain ⟨p0, rest, hfs, hp0⟩ := first_sold pre pm pw
    have hup := upTo_all pre pm
    have hplen : ps.length ≤ 20 := by
      rw [pm.length_eq]
      cases ao <;> cases bo <;> simp [pagesOf, page3, pageM, pageX]
    have rpre7 : RulesPre K H7 x l sd ps r.1 (f + t.1) r p0 := ⟨hlife, hplen, sok, fun g hg => pages_ok pre rm g (pm.mem_iff.mp hg), rown, rfind, hday, ⟨_, mem_claim pm, rfl⟩, ⟨rest, by rw [hup]; exact hfs⟩⟩
    obtain ⟨dxl, sol, nl, usl, hxl, hsl, _⟩ := id hlife
    have hve := verd_eq (r := r) pre pm hp0
    have han := ans_eq (s := sd) (one := r.1) (t := t) (ao := ao) (bo := bo) rfind
    obtain ⟨kept, hkept⟩ : ∃ kept, kept = (holds3 (heldB sd r) t || keptBy r.2.2 ao) := ⟨_, rfl⟩
    rw [← hkept] at hve han
    refine ⟨_, rfl, _, rfl, x, dxl, _, rfl, e79 _ _ hxl, rfl, _, rfl, _, rfl, x, l, sd, ps, r.1, f + t.1, r, p0, rfl, rpre7.mono e79, fun H10 tv w2 w3 e10 htv => ?_⟩
    rw [hup, hve] at htv
    refine ⟨tv, _, 0, _, rfl, rfl, SqT.of htv, rfl, rfl, _, rfl, ifc ?_ ?_⟩
    · show (!decide (V.str (ansOf sd ⟨sd.name, r.1, t, ao, bo⟩) = _)) = false
      rw [han, decide_eq_true rfl]
      rfl
    have e710 := e79.trans e10
    refine ⟨_, rfl, x, dxl, _, rfl, e710 _ _ hxl, rfl, _, rfl, _, rfl, x, l, sd, ps, r.1, f + t.1, r, p0, rfl, rpre7.mono e710, fun H11 qr us e11 hqr hall => ?_⟩
    have hany := rules_any (r := r) pre pm hp0
    rw [← hkept] at hany
    rw [hup] at hall
    have hrlen := rules_len (s := sd) (r := r) (f := p0) (part := r.1) (day := f + t.1) hplen
    rw [hup] at hrlen
    have hwords := words_ok (s := sd) (r := r) (f := p0) (pages := ps) (part := r.1) (day := f + t.1)
    generalize rulesFor sd r p0 ps r.1 (f + t.1) = rs at *
    refine ⟨qr, rfl, ⟨_, SqL.of hqr⟩, fun D hD => ?_⟩
    refine lc_p (walk_list (K := K) (a := qr) (xs := us)) (fun i acc H' => AllAt (EndAt H' ps (f + t.1)) acc ((rs.take i).filter fun rd => !overB rd ps (f + t.1))) (by have := hall.len; omega) hD (fun _ _ _ _ e p => p.mono fun _ _ => EndAt.mono e) .nil (fun H' e => SqL.of (e _ _ hqr)) ?_ ?_
    · rintro i acc v Ha Hb hi hal e hacc ⟨rfl, hx⟩ Qt Qf kt kf
      obtain ⟨rd, hg1, hrd⟩ := hall.get hx
      obtain ⟨a', ev, rfl, q1, q2⟩ := id hrd
      refine ⟨rfl, _, rfl, a', _, 2, _, rfl, rfl, SqT.of (e _ _ q1), rfl, rfl, _, rfl, ite2b (fun hb => ?_) (fun hb => ?_)⟩
      · have ho : overB rd ps (f + t.1) = false := by
          cases ho : overB rd ps (f + t.1) with
          | false => rfl
          | true =>
            obtain ⟨i, rfl⟩ := q2.2 ho
            cases of_decide_eq_true hb
        exact ⟨_, rfl, kt _ _ (Same.refl _) (by rw [filt_yes hg1 (by rw [ho]; rfl)]; exact hacc.snoc (hrd.mono (.of e)))⟩
      · have ho : overB rd ps (f + t.1) = true := by
          cases ho : overB rd ps (f + t.1) with
          | true => rfl
          | false => exact absurd (q2.1 ho) (of_decide_eq_false hb)
        exact kf _ (Same.refl _) (by rw [filt_no hg1 (by rw [ho]; rfl)]; exact hacc)
    · rintro zs H12 e12 hz hzl hallh
      rw [hall.len, List.take_length] at hallh
      have e712 : Same H7 H12 := (e710.trans e11).trans e12
      have hempty : zs.isEmpty = !kept := by
        rw [← hany]
        cases hzz : zs with
        | nil =>
          rw [hzz] at hallh
          have hnil := List.eq_nil_of_length_eq_zero hallh.len.symm
          have : (rs.any fun rd => !overB rd ps (f + t.1)) = false := by
            rw [List.any_eq_false]
            intro rd hrd ho
            have : rd ∈ rs.filter fun rd => !overB rd ps (f + t.1) := List.mem_filter.mpr ⟨hrd, ho⟩
            rw [hnil] at this
            cases this
          rw [this]
          rfl
        | cons z0 zr =>
          rw [hzz] at hallh
          have : (rs.any fun rd => !overB rd ps (f + t.1)) = true := by
            cases hf : rs.filter fun rd => !overB rd ps (f + t.1) with
            | nil => rw [hf] at hallh; have := hallh.len; simp at this
            | cons rd _ =>
              have hm : rd ∈ rs.filter fun rd => !overB rd ps (f + t.1) := by rw [hf]; simp
              exact List.any_eq_true.mpr ⟨rd, (List.mem_filter.mp hm).1, (List.mem_filter.mp hm).2⟩
          rw [this]
          rfl
      refine ⟨fun σ' H' => σ' = [some (.ref md), some (.ref bk), some (.ref pl), some (.ref rw_), some (.ref wl), some (.str r.1), some v1, some v2, some (.ref so), some v3, some (.ref ta), some va, some (sv bo), some (.ref x), some (.int (f + t.1)), some (.str (ansOf sd ⟨sd.name, r.1, t, ao, bo⟩)), some (.ref D), some (.bl (barBy sd r.1 bo)), none, none, none] ∧ Same H12 H', ?_, ?_⟩
      · cases bo with
        | none => exact ⟨_, rfl, rfl, _, rfl, iteF ⟨rfl, Same.refl _⟩⟩
        | some m =>
          obtain ⟨dxs, prs, ts, us', s1, s2⟩ := id hso7
          exact ⟨_, rfl, rfl, _, rfl, iteT ⟨_, rfl, so, dxs, _, rfl, e712 _ _ s1, rfl, _, rfl, _, rfl, so, m, r.1, sd, rfl, hso7.mono (.of e712), sok, hbn m rfl, rown, fun H' e => ⟨rfl, e⟩⟩⟩
      rintro σ6 H13 ⟨rfl, e13⟩
      have e713 := e712.trans e13
      have hz13 := e13 _ _ hz
      refine ⟨fun σ' H' => σ' = [some (.ref md), some (.ref bk), some (.ref pl), some (.ref rw_), some (.ref wl), some (.str r.1), some v1, some v2, some (.ref so), some v3, some (.ref ta), some va, some (sv bo), some (.ref x), some (.int (f + t.1)), some (.str (ansOf sd ⟨sd.name, r.1, t, ao, bo⟩)), some (.ref D), some (.bl (barBy sd r.1 bo)), none, none, none] ∧ Same H7 H', ?_, ?_⟩
      rotate_left
      · rintro σ7 H14 ⟨rfl, e714⟩
        have qnm : Nm "qqq" := nm_of (by decide +kernel)
        have hvt14 := hvt7.mono (.of e714)
        have qok1 : QOk ⟨"qqq", r.1, t, none, none⟩ := ⟨qnm, rown, tok, fun g z => by (cases z), fun m z => by (cases z)⟩
        have qok2 : QOk ⟨sd.name, "qqq", t, ao, none⟩ := ⟨sok.nm, qnm, tok, aok, fun m z => by (cases z)⟩
        refine ⟨_, rfl, _, rfl, fun x1 dx1 hx1 hdx1 hn1 => ?_⟩
        have m14 := mk_same (o := .own x1) (u := .ins (He.ga K "Question") dx1 []) hx1 hdx1
        refine ⟨x1, dx1, .ref ta, .non, ⟨"qqq", r.1, t, none, none⟩, rfl, upd_same, qok1, hvt14.mono (.of m14), rfl, fun H15 k15 hq15 => ⟨rfl, ?_⟩⟩
        have e1415 : Same H14 H15 := made m14 k15 hx1
        have e715 := e714.trans e1415
        refine ⟨_, rfl, pl, _, 0, _, rfl, rfl, SqT.of (e715 _ _ hp17), rfl, _, rfl, _, rfl, fun x2 dx2 hx2 hdx2 hn2 => ?_⟩
        have m15 := mk_same (o := .own x2) (u := .ins (He.ga K "Question") dx2 []) hx2 hdx2
        refine ⟨x2, dx2, .ref ta, va, ⟨sd.name, "qqq", t, ao, none⟩, rfl, upd_same, qok2, (hvt7.mono (.of e715)).mono (.of m15), (hva7.mono (.of e715)).mono (.of m15), fun H16 k16 hq16 => ⟨rfl, ?_⟩⟩
        have e1516 : Same H15 H16 := made m15 k16 hx2
        have e716 := e715.trans e1516
        refine ⟨szn (n := 2) (by decide), fun pq hpq => ?_⟩
        have e17 : Same H16 (upd H16 pq (.lst [.ref x1, .ref x2])) := Same.new hpq
        have hpq17 : (upd H16 pq (.lst [.ref x1, .ref x2])) pq = some (.lst [.ref x1, .ref x2]) := upd_same
        have hq117 := (hq15.mono (.of e1516)).mono (.of e17)
        have hq217 := hq16.mono (.of e17)
        have e717 := e716.trans e17
        generalize upd H16 pq (.lst [.ref x1, .ref x2]) = H17 at *
        have a1 : ansOf sd ⟨"qqq", r.1, t, none, none⟩ = "unknown" := by
          unfold ansOf
          rw [if_neg (fun z => nq z.symm)]
        have a2 : ansOf sd ⟨sd.name, "qqq", t, ao, none⟩ = "unknown" := by
          unfold ansOf
          rw [if_pos rfl]
          simp only []
          rw [rowOf_none nqr]
        refine ⟨_, rfl, pq, rfl, ⟨_, SqL.of hpq17⟩, fun D hD => ?_⟩
        refine lc_p (walk_list (K := K) (a := pq) (xs := [V.ref x1, .ref x2])) (fun i acc H' => acc = (List.replicate i ("unknown" : Str)).map V.str) (by simp) hD (fun _ _ _ _ _ p => p) rfl (fun H' e => SqL.of (e _ _ hpq17)) ?_ ?_
        · rintro i acc v Ha Hb hi hal e rfl ⟨rfl, hx⟩ Qt Qf kt kf
          match i, hi, hx with
          | 0, _, hx =>
            cases hx
            exact ⟨rfl, _, rfl, _, rfl, bk, d, x1, sd, _, rfl, hbk7.mono (e717.trans e), sok, hq117.mono (.of e), qok1, fun Hc ec => by rw [a1]; exact kt _ _ ec rfl⟩
          | 1, _, hx =>
            cases hx
            exact ⟨rfl, _, rfl, _, rfl, bk, d, x2, sd, _, rfl, hbk7.mono (e717.trans e), sok, hq217.mono (.of e), qok2, fun Hc ec => by rw [a2]; exact kt _ _ ec rfl⟩
        · rintro zs2 H18 e18 hz2 _ rfl
          have hz2' : H18 D = some (.lst ((["unknown", "unknown"] : List Str).map V.str)) := hz2
          refine ⟨szn (n := 1) (by decide), fun l1 hl1 => ?_⟩
          have e19 : Same H18 _ := Same.new (o := .lst [V.str "unknown"]) hl1
          refine ⟨l1, 2, _, rfl, rfl, upd_same, by decide, by decide, szn (n := 2) (by decide), fun l2 hl2 => ?_⟩
          have e20 := e19.trans (Same.new (o := .lst (List.replicate (2 : Int).toNat [V.str "unknown"]).flatten) hl2)
          have strU : ∀ y ∈ (["unknown", "unknown"] : List Str), PyData.strOk y = true := by decide +kernel
          refine ⟨_, _, .lst (SqL.of (e20 _ _ hz2')) (dp_strs _), .lst (SqL.of (xs := (["unknown", "unknown"] : List Str).map V.str) upd_same) (dp_strs _), shp_strs _ strU, shp_strs _ strU, ?_⟩
          refine q_b (Q := Q) (by decide +kernel) (q _ (d07.trans (SBut.of ((e717.trans e18).trans e20))) ((st7.same ((e717.trans e18).trans e20)).le (by omega)))
      refine ⟨_, rfl, rfl, _, rfl, szn (Nat.zero_le _), fun e hee => ?_⟩
      have e14 : Same H13 (upd H13 e (.lst [])) := Same.new hee
      obtain ⟨ds, d1', d2', d3', d4'⟩ := dp_ex (K := K) zs (allAt_dp (hallh.mono fun _ _ => EndAt.mono (.of (e13.trans e14))) (fun rd hrd => hwords rd (List.mem_filter.mp hrd).1))
      refine ⟨.list ds, _, .lst (SqL.of (e14 _ _ hz13)) d1', .lst (SqL.of upd_same) .nil, shp_ds d2' d3', shp_nil, _, rfl, ?_⟩
      rw [eqv_nil, d4', hempty, Bool.not_not]
      have e714 := e713.trans e14
      generalize upd H13 e (.lst []) = H14 at *
      have key : decide (V.str (ansOf sd ⟨sd.name, r.1, t, ao, bo⟩) = V.str "stands") = (kept && !barBy sd r.1 bo) := by
        rw [han]
        have n1 : ("falls" : Str) ≠ "stands" := by decide
        cases kept <;> cases barBy sd r.1 bo <;> first | rfl | exact decide_eq_false (fun z => n1 (by injection z)) | exact decide_eq_true rfl
      cases hk : kept with
      | true =>
        rw [hk] at key
        refine iteT ⟨_, rfl, _, rfl, rfl, _, rfl, ifc ?_ ⟨rfl, e714⟩⟩
        rw [key]
        simp
      | false =>
        rw [hk] at key
        refine iteF ⟨rfl, _, rfl, ifc ?_ ⟨rfl, e714⟩⟩
        rw [key]
        simp
end
end Wk
end

section
set_option Elab.async false
set_option linter.all false
set_option maxRecDepth 100000
/-! the law -/
namespace Wk
open PySem PySem.Spec PyProof.Rows L2 RZ
def sp_law (K : PySem.W.Frag) : Sp := fun vs H Q _ => ∃ (a : Addr) (ns : List Int), vs = [.ref a] ∧ SqL K H a (ns.map V.int) ∧ ns.length ≤ 63 ∧ ∀ H', Q (.bl true) H'
theorem SX.isD {d : Addr} {kvs : List (Key × V)} {H H' : Hp} (e : SX d H H') (h : H d = some (.dK kvs)) : ISame H H' :=
  ⟨fun a xs q => e a _ (ne_of q h (fun z => by cases z)) q, fun a C dx fs q => e a _ (ne_of q h (fun z => by cases z)) q⟩
section
variable {P : Program} {w : World} {K : PySem.W.Frag} {mg : Str → Option Value} {base : Heap}
theorem fn_law (T : Tx w K mg) {fd : FuncData} (F : FunD K d_law.name d_law.qual d_law.params d_law.body d_law.scope (d_law.dvs K) (d_law.kws K) (He.fAd K d_law.at_) fd) : FnOk P w K mg base CX0 9 (He.ga K "law") fd ["_law_script"] (sp_law K) := by
  refine F.ok sc_law (fun vs H Q E h => ?_) (fun cdv A outer s H vs Q E hr h => ?_)
  · obtain ⟨x, a, rfl, _⟩ := h
    rfl
  · obtain ⟨a, ns, rfl, hs, hl, q⟩ := h
    refine ⟨_, PSs.nox (pss_cons (ps_set (i := 1) sc_law.nd rfl (Or.inr rfl) (C8.pe_c (c_law_begun T) hr (by decide) rfl (pa_cons (pv 0) pa_nil)))
      (pss_cons (ps_for PassesOwn.never rfl (pi_range1 rfl T.f_range (pa_cons pe_int pa_nil)) (pg_name (i := 2) sc_law.nd rfl (Or.inl rfl)) (pss_cons (ps_asg (pe_tup (pa_cons (C8.pe_c (c_law_worded T) hr (by decide) rfl (pa_cons (pv 1) (pa_cons (C8.pe_c (c_law_called T) hr (by decide) rfl (pa_cons (pv 1) (pa_cons pe_int pa_nil))) pa_nil))) (pa_cons (pe_mk0 (k_Book T) hr (by decide) rfl) pa_nil))) (pg_tup rfl (pgs_cons (pg_name (i := 3) sc_law.nd rfl (Or.inr rfl)) (pgs_cons (pg_name (i := 4) sc_law.nd rfl (Or.inr rfl)) pgs_nil))))
        (pss_cons (ps_set (i := 5) sc_law.nd rfl (Or.inr rfl) (C8.pe_c (c_law_plain_sort T) hr (by decide) rfl (pa_cons (pv 1) (pa_cons (pv 3) pa_nil))))
        (pss_cons (ps_expr (C8.pe_mt (m_Book_add T) hr (by decide) (pv 4) (pa_cons (C8.pe_c (c_law_sort T) hr (by decide) rfl (pa_cons (pv 5) pa_nil)) pa_nil)))
        (pss_one (ps_for PassesOwn.never rfl (pi_range1 rfl T.f_range (pa_cons pe_int pa_nil)) (pg_name (i := 6) sc_law.nd rfl (Or.inl rfl)) (pss_cons (ps_setLc (i := 7) (own := [("_law_row", 8)]) (g := gName 8) (by rfl) sc_law.nd rfl rfl (sw_true rfl rfl rfl (by decide +kernel)) (pi_tup (pe_ix ix_tup (pv 5) pe_int (fun _ _ => rfl))) (blkOk_by (own := [("_law_row", 8)]) (N := N_law) (sc := defScope s_law) (by decide +kernel)) (fun _ _ _ _ _ => (pg_name (i := 8) sc_law.nd rfl (Or.inl rfl))) (fun _ _ _ _ _ => (pts_one (pt_cmpR op_eq (C8.pe_c (c_law_draw T) hr (by decide) rfl (pa_cons (pv 1) (pa_cons pe_int pa_nil))) pe_int (nomark _)))) (fun _ _ _ _ _ => (pv 8)))
          (pss_one (ps_if (pt_cmpR (op_neD hr.units) (pe_lc (own := [("_law_row", 8)]) (g := gName 8) rfl sc_law.nd (pi_list (pv 7)) (blkOk_by (own := [("_law_row", 8)]) (N := N_law) (sc := defScope s_law) (by decide +kernel)) (fun _ _ _ _ _ => (pg_name (i := 8) sc_law.nd rfl (Or.inl rfl))) (fun _ _ _ _ _ => (pts_one (pt_not (pt_val (C8.pe_c (c_law_one_right T) hr (by decide) rfl (pa_cons (pv 1) (pa_cons (pv 4) (pa_cons (pv 5) (pa_cons (pv 8) (pa_cons (pv 3) pa_nil)))))))))) (fun _ _ _ _ _ => (pv 8))) (pe_lst pa_nil) (nomark _)) (pss_one (ps_ret pe_bl)) pss_nil)))))))))
      (pss_one (ps_ret pe_bl)))), ?_⟩
    refine ⟨_, rfl, a, ns, rfl, hs, hl, fun H1 md la ca e1 st1 => ?_⟩
    refine ⟨2, rfl, by decide, by decide, ?_⟩
    refine for_it (walk_range (lo := 0) (n := 2)) (fun i σ H' => ∃ x2 x3 x4 x5 x6 x7 x8, σ = [some (.ref a), some (.ref md), x2, x3, x4, x5, x6, x7, x8] ∧ StAt H' md la ca (10000 * i)) ⟨_, _, _, _, _, _, _, rfl, st1.le (by omega)⟩ (fun _ _ _ _ _ => trivial) ?_ ?_
    · rintro i v σ Ha Hb hi ⟨x2, x3, x4, x5, x6, x7, x8, rfl, stA⟩ ⟨rfl, rfl⟩
      have hi2 : i < 2 := hi
      refine ⟨_, rfl, _, rfl, md, la, ca, _, rfl, stA, by omega, fun H2 p fs d2 st2 hp0 hp hfl hwd hnd => ?_⟩
      have npl : p ≠ la := fun z => stA.free hp0 (.inr z)
      refine ⟨md, la, ca, p, _, fs, rfl, st2, by omega, hp, npl, hfl, hwd, hnd, fun H3 wl ws d3 st3 hwl nwl w19 => ?_⟩
      refine fun bk dxb hbk0 hdxb hn => ?_
      have m3 := mk_same (o := .own bk) (u := .ins (He.ga K "Book") dxb []) hbk0 hdxb
      refine ⟨bk, dxb, rfl, upd_same, fun H4 d kk hd0 hd hb => ⟨rfl, sz2, fun tp htp => ?_⟩⟩
      have e34 : Same H3 H4 := made m3 kk hbk0
      have e35 : Same H3 (upd H4 tp (.tup [.ref wl, .ref bk])) := e34.trans (Same.new htp)
      have hd3 : H3 d = none := m3.free hd0
      have fd3 : ¬ (d = md ∨ d = la) := st3.free hd3
      have hb5 := (Same.new (o := .tup [.ref wl, .ref bk]) htp) _ _ hb
      have hd5 := (Same.new (o := .tup [.ref wl, .ref bk]) htp) _ _ hd
      refine ⟨tp, _, rfl, SqT.of upd_same, rfl, _, _, rfl, _, _, rfl, rfl, ?_⟩
      generalize upd H4 tp (.tup [.ref wl, .ref bk]) = H5 at *
      have st5 := st3.same e35
      have hw5 := e35 _ _ hwl
      refine ⟨_, rfl, _, rfl, md, la, ca, wl, _, ws, rfl, st5, by omega, hw5, nwl, w19, fun H6 pl sd d6 st6 hpl pok hnm hrm => ?_⟩
      have hb6 := (st5.is d6).ins _ _ _ _ hb5
      have hd6 := d6 _ _ fd3 hd5
      have nwm : wl ≠ md := by
        obtain ⟨hcl, ls, cs, k, h1, _⟩ := id st5
        exact ne_of hw5 h1 (fun z => by cases z)
      have fw : ¬ (wl = md ∨ wl = la) := fun z => z.elim nwm nwl
      have hw6 := d6 _ _ fw hw5
      refine ⟨_, rfl, bk, dxb, _, rfl, hb6, rfl, _, rfl, pl, sd, rfl, hpl, pok, fun H7 x e7 hx => ?_⟩
      have hd7 := e7 _ _ hd6
      refine ⟨bk, dxb, d, x, sd, rfl, e7 _ _ hb6, hd7, hx, fun H8 s8 hbook8 => ?_⟩
      have is78 := s8.isD hd7
      have st7 := st6.same e7
      have st8 : StAt H8 md la ca (10000 * i + 200 + 2 + 500) := by
        obtain ⟨hcl, ls, cs, k, z1, z2, z3, z4⟩ := id st7
        exact ⟨hcl, ls, cs, k, s8 _ _ (ne_of z1 hd7 (fun z => by injection z with z; simp [stK] at z)) z1, s8 _ _ (ne_of z2 hd7 (fun z => by cases z)) z2, s8 _ _ (ne_of z3 hd7 (fun z => by cases z)) z3, z4⟩
      have hw8 := s8 _ _ (ne_of (e7 _ _ hw6) hd7 (fun z => by cases z)) (e7 _ _ hw6)
      have hpl8 := (hpl.mono (.of e7)).mono is78
      have nq : sd.name ≠ "qqq" := w19.q _ hnm
      have nqr : ∀ r ∈ sd.rows, r.1 ≠ "qqq" := fun r hr => w19.q _ (hrm r hr)
      refine ⟨12, rfl, by decide, by decide, ?_⟩
      refine for_it (walk_range (lo := 0) (n := 12)) (fun j σ H' => ∃ x6 x7 x8, σ = [some (.ref a), some (.ref md), some (.int (0 + (i : Int))), some (.ref wl), some (.ref bk), some (.ref pl), x6, x7, x8] ∧ StAt H' md la ca (10000 * i + 702 + 740 * j) ∧ H' wl = some (.lst (ws.map V.str)) ∧ BookAt K H' bk d sd ∧ PlainAt H' pl sd)
        ⟨_, _, _, rfl, st8.le (by omega), hw8, hbook8, hpl8⟩ (fun _ _ _ _ _ => trivial) ?_ ?_
      · rintro j v σ Hc Hd hj ⟨x6, x7, x8, rfl, stC, hwC, hbC, hpC⟩ ⟨rfl, rfl⟩
        have hj12 : j < 12 := hj
        obtain ⟨vp, rt, pt, us, p1, p2, p3, p4, p5⟩ := id hpC
        have hul : us.length ≤ 12 := by rw [p4.len]; exact pok.sort.rows.len
        refine ⟨_, rfl, pl, _, 2, _, rfl, rfl, SqT.of p1, rfl, rt, rfl, ⟨_, SqT.of p3⟩, fun D hD => ?_⟩
        obtain ⟨nDm, nDl, nDc⟩ := stC.fresh hD
        have frt : ¬ (rt = md ∨ rt = la) := by
          obtain ⟨hcl, ls, cs, k, z1, z2, _⟩ := id stC
          exact fun z => z.elim (ne_of p3 z1 (fun z => by cases z)) (ne_of p3 z2 (fun z => by cases z))
        refine lc_b (walk_tup (K := K) (a := rt) (xs := us)) (fun a => a = md ∨ a = la) (fun k acc Hx => StAt Hx md la ca (10000 * i + 702 + 740 * j + k) ∧ ∃ sub : List RowD, AllAt (PRowAt Hx) acc sub ∧ ∀ r ∈ sub, r ∈ sd.rows) (by omega) hD stC.here
          (fun k acc Hx y1 y2 hz ⟨s1, sub, s2, s3⟩ => ⟨s1.upd nDm nDl nDc, sub, s2.mono fun _ _ => PRowAt.mono (ISame.lst hz), s3⟩) ⟨(stC.upd nDm nDl nDc).le (by omega), [], .nil, fun _ z => by cases z⟩ (fun k acc Hx e _ => SqT.of (e rt _ frt p3)) ?_ ?_
        · rintro k acc v Ha' He hk hal e hacc ⟨s1, sub, s2, s3⟩ ⟨rfl, hx1⟩ Qt Qf kt kf
          obtain ⟨rd, hrd, hrow⟩ := p4.get hx1
          have isE := stC.is e
          refine ⟨rfl, _, rfl, md, la, ca, _, 2, rfl, s1, by decide, by decide, by omega, fun H9 r9 d9 st9 r91 r92 => ?_⟩
          have is9 := s1.is d9
          refine ⟨rfl, _, rfl, ite2b (fun _ => ?_) (fun _ => ?_)⟩
          · refine ⟨_, rfl, kt _ _ d9 ⟨st9.le (by push_cast; omega), sub ++ [rd], (s2.mono fun _ _ => PRowAt.mono is9).snoc ((hrow.mono isE).mono is9), fun r hr => ?_⟩⟩
            rcases List.mem_append.mp hr with hr | hr
            · exact s3 r hr
            · rw [List.mem_singleton.mp hr]; exact List.mem_of_getElem? hrd
          · exact kf _ d9 ⟨st9.le (by push_cast; omega), sub, s2.mono fun _ _ => PRowAt.mono is9, s3⟩
        · rintro rws H9 d9 h9 hl9 ⟨st9, sub, s2, s3⟩
          have is9 := stC.is d9
          have hw9 := d9 _ _ fw hwC
          have hb9 : BookAt K H9 bk d sd := hbC.keep is9 (by
            obtain ⟨_, _, _, z, _⟩ := id hbC
            rw [z]
            exact d9 _ _ fd3 z)
          have hp9 := hpC.mono is9
          refine ⟨_, rfl, D, rfl, ⟨_, SqL.of h9⟩, fun D2 hD2 => ?_⟩
          obtain ⟨mDm, mDl, mDc⟩ := st9.fresh hD2
          have fD : ¬ (D = md ∨ D = la) := fun z => z.elim nDm nDl
          refine lc_b (walk_list (K := K) (a := D) (xs := rws)) (fun a => a = md ∨ a = la) (fun k acc Hx => acc = [] ∧ StAt Hx md la ca (10000 * i + 702 + 740 * j + 12 + 60 * k)) (by omega) hD2 st9.here
            (fun k acc Hx y1 y2 hz ⟨s0, s1⟩ => ⟨s0, s1.upd mDm mDl mDc⟩) ⟨rfl, (st9.upd mDm mDl mDc).le (by omega)⟩ (fun k acc Hx e _ => SqL.of (e D _ fD h9)) ?_ ?_
          · rintro k acc v Ha' He hk hal e hacc ⟨rfl, s1⟩ ⟨rfl, hx1⟩ Qt Qf kt kf
            obtain ⟨rd, hrd, hrow⟩ := s2.get hx1
            have isE := st9.is e
            obtain ⟨ra, w1, w2, rfl, _⟩ := id hrow
            have hbE : BookAt K He bk d sd := hb9.keep isE (by
              obtain ⟨_, _, _, z, _⟩ := id hb9
              rw [z]
              exact e _ _ fd3 z)
            refine ⟨rfl, _, rfl, _, rfl, _, rfl, _, rfl, _, rfl, md, la, ca, bk, d, pl, ra, wl, _, sd, rd, ws, rfl, s1, by omega, hbE, fd3, hp9.mono isE, pok, hrow.mono isE, s3 rd (List.mem_of_getElem? hrd), e _ _ fw hw9, nwl, w19, nq, nqr, fun H10 d10 st10 => ?_⟩
            exact ⟨_, rfl, iteF (kf _ d10 ⟨rfl, st10.le (by push_cast; omega)⟩)⟩
          · rintro zs H10 d10 h10 hl10 ⟨rfl, st10⟩
            have d910 := d9.trans d10
            refine ⟨szn (Nat.zero_le _), fun e he => ?_⟩
            have e11 : Same H10 (upd H10 e (.lst [])) := Same.new he
            refine ⟨.list [], .list [], .lst (SqL.of (e11 _ _ h10)) .nil, .lst (SqL.of upd_same) .nil, shp_nil, shp_nil, _, rfl, ifc (by rfl) ?_⟩
            have d11 : DS md la Hd (upd H10 e (.lst [])) := d910.trans (SBut.of e11)
            have is11 := stC.is d11
            refine ⟨_, _, _, rfl, (st10.same e11).le (by push_cast; omega), d11 _ _ fw hwC, hbC.keep is11 (by
              obtain ⟨_, _, _, z, _⟩ := id hbC
              rw [z]
              exact d11 _ _ fd3 z), hpC.mono is11⟩
      · rintro σ H9 ⟨x6, x7, x8, rfl, st9, _⟩
        exact ⟨_, _, _, _, _, _, _, rfl, st9.le (by push_cast; omega)⟩
    · rintro σ H2 ⟨x2, x3, x4, x5, x6, x7, x8, rfl, _⟩
      exact q H2
end
end Wk
end

section
set_option Elab.async false
set_option linter.all false
set_option maxRecDepth 100000
/-! the head and the law, joined -/
open PySem PySem.W PySem.Calls PyProof.Rows
set_option maxHeartbeats 0 in
theorem PySem.Challenge.cw_wordkept_k76_whole_answers_and_verdicts_holds : PySem.Challenge.rw_wordkept_k76_whole_answers_and_verdicts.Holds := by
  w_on; o_law
  refine HandSHeadRun.head_any (r := OpenLaw.row PySem.Challenge.rw_wordkept_k76_whole_answers_and_verdicts) (q := Wk.hQ) (H := Wk.hkW) (ob := Wk.obW) (M := 8000) (loose := Wk.looseL)
    (d := HandSHeadRun.topDef (OpenLaw.row PySem.Challenge.rw_wordkept_k76_whole_answers_and_verdicts).prog 72) (kwd := []) Wk.obW_eq
    (by kernel_rfl) (fun s => by kernel_rfl) Wk.runW (by kernel_rfl) (by kernel_rfl) (by kernel_rfl) (by rfl) (by first | assumption | decide +kernel) (by decide +kernel) ⟨rfl, rfl, rfl, rfl, rfl, by decide +kernel⟩ ?hw ?hc
  case hw => w_witness2
  case hc =>
    refine L2.walk_ofE (l := PySem.Challenge.rw_wordkept_k76_whole_answers_and_verdicts) (n := 63) (k := 9) (x := "_law_script") (CX := L2.CX0) rfl (by decide) (by kernel_rfl) ⟨rfl, by decide, by decide⟩ ?F (fun _ _ _ _ z => z)
    intro w mg fa h Y G hmg0
    obtain ⟨K, KX, c, ex⟩ := Y
    have T : Wk.Tx w K mg := ⟨⟨h, KX, G⟩, c, ex⟩
    have hmg : mg ("law" : PySem.Str) = some (.ref fa) := by
      have e : (HandSHeadRun.topDef (OpenLaw.row PySem.Challenge.rw_wordkept_k76_whole_answers_and_verdicts).prog 72).name = ("law" : PySem.Str) := by kernel_rfl
      rw [← e]
      exact hmg0
    have e := hmg.symm.trans T.g_law
    cases e
    obtain ⟨fd, F⟩ := T.F_law
    have b := L2.FunD.bindsA (ps := ["_law_script"]) F fun _ _ _ _ _ _ us hl => match us, hl with | [_], _ => rfl
    exact ⟨K, fd, Wk.sp_law K, KX, fun s v => b s [v] rfl, fun H a ns hl _ hS => ⟨a, ns, rfl, hS, hl, fun _ => rfl⟩, fun base _ _ => Wk.fn_law T F⟩
end
