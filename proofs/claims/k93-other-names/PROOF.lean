import PyProof.Rows.All
import Wide.All
import OpenK.AllK
import Wide.FinOn
import KE.KStateDown
import Lean
import HandS.ForMost
import HandS.Star
import HandS.Flow
import HandS.Style
import HandS.IsInst
import HandS.TupSets
import HandS.Strs
import HandS.DictComp
import HandS.TupAny
import HandS.Walk
import HandS.Zip
import HandS.RaiseMore
import HandS.Defaults
import HandS.NoneIn
import HandS.Small
import HandS.Codes
import HandS.Evl
import HandS.Head0
import HandS.Head1
import HandS.Head2
import HandS.HeadEnd
import HandS.HeadHook1
import HandS.HeadHook2
import KE.KDictMeth
import KE.KDictZip
import KE.GoesEnum
import PySem.Challenge.RW_hastypage_k93_whole_other_names_in_runs
import HandS.ListItems
set_option Elab.async false
set_option linter.all false
set_option maxRecDepth 100000
set_option maxHeartbeats 4000000
namespace Hp
open PySem PySem.Spec PyProof.Rows L2
/-! the text by places -/
def top (i : Nat) : Stmt := PySem.Challenge.pw_hastypage_k93_whole_other_names_in_runs.main.body.getD i (.Pass ⟨0, 0, 0, 0⟩)
abbrev s_holds : Stmt := top 11
abbrev N_holds : List Str := ["test", "truths"]
theorem sc_holds : FnScope N_holds ["test", "truths"] (defScope s_holds) := ⟨rfl, rfl, rfl, by decide +kernel, rfl, by decide +kernel, by decide +kernel⟩
def d_holds : He.DefD := ⟨("holds", none), "holds", "holds", defArgs s_holds, defBody s_holds, defScope s_holds, [], []⟩
abbrev s_row_at : Stmt := top 12
abbrev N_row_at : List Str := ["page", "letter", "truths", "at", "row", "test"]
theorem sc_row_at : FnScope N_row_at ["page", "letter", "truths"] (defScope s_row_at) := ⟨rfl, rfl, rfl, by decide +kernel, rfl, by decide +kernel, by decide +kernel⟩
def d_row_at : He.DefD := ⟨("row_at", none), "row_at", "row_at", defArgs s_row_at, defBody s_row_at, defScope s_row_at, [], []⟩
abbrev s_shown_from : Stmt := top 13
abbrev N_shown_from : List Str := ["book", "base", "kinds", "value", "kind", "later"]
theorem sc_shown_from : FnScope N_shown_from ["book", "base", "kinds"] (defScope s_shown_from) := ⟨rfl, rfl, rfl, by decide +kernel, rfl, by decide +kernel, by decide +kernel⟩
def d_shown_from : He.DefD := ⟨("shown_from", none), "shown_from", "shown_from", defArgs s_shown_from, defBody s_shown_from, defScope s_shown_from, [], []⟩
abbrev s_reached : Stmt := top 15
abbrev N_reached : List Str := ["reach", "number"]
theorem sc_reached : FnScope N_reached ["reach", "number"] (defScope s_reached) := ⟨rfl, rfl, rfl, by decide +kernel, rfl, by decide +kernel, by decide +kernel⟩
def d_reached : He.DefD := ⟨("reached", none), "reached", "reached", defArgs s_reached, defBody s_reached, defScope s_reached, [], []⟩
abbrev s_sheet_init : Stmt := inClass (top 16) 0
abbrev N_sheet_init : List Str := ["self", "book", "page"]
theorem sc_sheet_init : FnScope N_sheet_init ["self", "book", "page"] (defScope s_sheet_init) := ⟨rfl, rfl, rfl, by decide +kernel, rfl, by decide +kernel, by decide +kernel⟩
def d_sheet_init : He.DefD := ⟨("Sheet", some "__init__"), "__init__", "Sheet.__init__", defArgs s_sheet_init, defBody s_sheet_init, defScope s_sheet_init, [], []⟩
abbrev s_sheet_click : Stmt := inClass (top 16) 1
abbrev N_sheet_click : List Str := ["self", "kind"]
theorem sc_sheet_click : FnScope N_sheet_click ["self", "kind"] (defScope s_sheet_click) := ⟨rfl, rfl, rfl, by decide +kernel, rfl, by decide +kernel, by decide +kernel⟩
def d_sheet_click : He.DefD := ⟨("Sheet", some "click"), "click", "Sheet.click", defArgs s_sheet_click, defBody s_sheet_click, defScope s_sheet_click, [], []⟩
abbrev s_sheet_view : Stmt := inClass (top 16) 2
abbrev N_sheet_view : List Str := ["self", "number"]
theorem sc_sheet_view : FnScope N_sheet_view ["self"] (defScope s_sheet_view) := ⟨rfl, rfl, rfl, by decide +kernel, rfl, by decide +kernel, by decide +kernel⟩
def d_sheet_view : He.DefD := ⟨("Sheet", some "view"), "view", "Sheet.view", defArgs s_sheet_view, defBody s_sheet_view, defScope s_sheet_view, [], []⟩
abbrev s_sheet_truths : Stmt := inClass (top 16) 3
abbrev N_sheet_truths : List Str := ["self", "number", "value", "reach", "rest", "one"]
theorem sc_sheet_truths : FnScope N_sheet_truths ["self", "number", "value", "reach"] (defScope s_sheet_truths) := ⟨rfl, rfl, rfl, by decide +kernel, rfl, by decide +kernel, by decide +kernel⟩
def d_sheet_truths : He.DefD := ⟨("Sheet", some "truths"), "truths", "Sheet.truths", defArgs s_sheet_truths, defBody s_sheet_truths, defScope s_sheet_truths, [], []⟩
abbrev s_sheet_hear : Stmt := inClass (top 16) 4
abbrev N_sheet_hear : List Str := ["self", "word", "number", "value", "reach", "contents", "at", "deed"]
theorem sc_sheet_hear : FnScope N_sheet_hear ["self", "word", "number", "value", "reach", "contents"] (defScope s_sheet_hear) := ⟨rfl, rfl, rfl, by decide +kernel, rfl, by decide +kernel, by decide +kernel⟩
def d_sheet_hear : He.DefD := ⟨("Sheet", some "hear"), "hear", "Sheet.hear", defArgs s_sheet_hear, defBody s_sheet_hear, defScope s_sheet_hear, [], []⟩
abbrev s_sheet_act : Stmt := inClass (top 16) 5
abbrev N_sheet_act : List Str := ["self", "deed", "number", "value", "reach", "contents", "one"]
theorem sc_sheet_act : FnScope N_sheet_act ["self", "deed", "number", "value", "reach", "contents"] (defScope s_sheet_act) := ⟨rfl, rfl, rfl, by decide +kernel, rfl, by decide +kernel, by decide +kernel⟩
def d_sheet_act : He.DefD := ⟨("Sheet", some "act"), "act", "Sheet.act", defArgs s_sheet_act, defBody s_sheet_act, defScope s_sheet_act, [], []⟩
abbrev s_sheet_inner : Stmt := inClass (top 16) 6
abbrev N_sheet_inner : List Str := ["self", "found", "number"]
theorem sc_sheet_inner : FnScope N_sheet_inner ["self"] (defScope s_sheet_inner) := ⟨rfl, rfl, rfl, by decide +kernel, rfl, by decide +kernel, by decide +kernel⟩
def d_sheet_inner : He.DefD := ⟨("Sheet", some "inner"), "inner", "Sheet.inner", defArgs s_sheet_inner, defBody s_sheet_inner, defScope s_sheet_inner, [], []⟩
abbrev s_is_name : Stmt := top 21
abbrev N_is_name : List Str := ["value", "letter"]
theorem sc_is_name : FnScope N_is_name ["value"] (defScope s_is_name) := ⟨rfl, rfl, rfl, by decide +kernel, rfl, by decide +kernel, by decide +kernel⟩
def d_is_name : He.DefD := ⟨("is_name", none), "is_name", "is_name", defArgs s_is_name, defBody s_is_name, defScope s_is_name, [], []⟩
abbrev s_is_sequence : Stmt := top 22
abbrev N_is_sequence : List Str := ["value"]
theorem sc_is_sequence : FnScope N_is_sequence ["value"] (defScope s_is_sequence) := ⟨rfl, rfl, rfl, by decide +kernel, rfl, by decide +kernel, by decide +kernel⟩
def d_is_sequence : He.DefD := ⟨("is_sequence", none), "is_sequence", "is_sequence", defArgs s_is_sequence, defBody s_is_sequence, defScope s_is_sequence, [], []⟩
abbrev s_are_names : Stmt := top 23
abbrev N_are_names : List Str := ["value", "at", "name"]
theorem sc_are_names : FnScope N_are_names ["value"] (defScope s_are_names) := ⟨rfl, rfl, rfl, by decide +kernel, rfl, by decide +kernel, by decide +kernel⟩
def d_are_names : He.DefD := ⟨("are_names", none), "are_names", "are_names", defArgs s_are_names, defBody s_are_names, defScope s_are_names, [], []⟩
abbrev s_is_decimal : Stmt := top 24
abbrev N_is_decimal : List Str := ["text", "sign"]
theorem sc_is_decimal : FnScope N_is_decimal ["text"] (defScope s_is_decimal) := ⟨rfl, rfl, rfl, by decide +kernel, rfl, by decide +kernel, by decide +kernel⟩
def d_is_decimal : He.DefD := ⟨("is_decimal", none), "is_decimal", "is_decimal", defArgs s_is_decimal, defBody s_is_decimal, defScope s_is_decimal, [], []⟩
abbrev s_event_in : Stmt := top 26
abbrev N_event_in : List Str := ["text", "word", "blank", "rest"]
theorem sc_event_in : FnScope N_event_in ["text"] (defScope s_event_in) := ⟨rfl, rfl, rfl, by decide +kernel, rfl, by decide +kernel, by decide +kernel⟩
def d_event_in : He.DefD := ⟨("event_in", none), "event_in", "event_in", defArgs s_event_in, defBody s_event_in, defScope s_event_in, [], []⟩
abbrev s_weaving_init : Stmt := inClass (top 27) 0
abbrev N_weaving_init : List Str := ["self", "events", "at", "event"]
theorem sc_weaving_init : FnScope N_weaving_init ["self", "events"] (defScope s_weaving_init) := ⟨rfl, rfl, rfl, by decide +kernel, rfl, by decide +kernel, by decide +kernel⟩
def d_weaving_init : He.DefD := ⟨("Weaving", some "__init__"), "__init__", "Weaving.__init__", defArgs s_weaving_init, defBody s_weaving_init, defScope s_weaving_init, [.adr (He.dflAt ("Weaving", some "__init__") 0)], []⟩
abbrev s_course_init : Stmt := inClass (top 29) 0
abbrev N_course_init : List Str := ["self", "book", "page", "marks"]
theorem sc_course_init : FnScope N_course_init ["self", "book", "page", "marks"] (defScope s_course_init) := ⟨rfl, rfl, rfl, by decide +kernel, rfl, by decide +kernel, by decide +kernel⟩
def d_course_init : He.DefD := ⟨("Course", some "__init__"), "__init__", "Course.__init__", defArgs s_course_init, defBody s_course_init, defScope s_course_init, [], []⟩
abbrev s_course_accepted_now : Stmt := inClass (top 29) 1
abbrev N_course_accepted_now : List Str := ["self", "at", "fate"]
theorem sc_course_accepted_now : FnScope N_course_accepted_now ["self"] (defScope s_course_accepted_now) := ⟨rfl, rfl, rfl, by decide +kernel, rfl, by decide +kernel, by decide +kernel⟩
def d_course_accepted_now : He.DefD := ⟨("Course", some "accepted_now"), "accepted_now", "Course.accepted_now", defArgs s_course_accepted_now, defBody s_course_accepted_now, defScope s_course_accepted_now, [], []⟩
abbrev s_course_refused_now : Stmt := inClass (top 29) 2
abbrev N_course_refused_now : List Str := ["self", "at", "fate"]
theorem sc_course_refused_now : FnScope N_course_refused_now ["self"] (defScope s_course_refused_now) := ⟨rfl, rfl, rfl, by decide +kernel, rfl, by decide +kernel, by decide +kernel⟩
def d_course_refused_now : He.DefD := ⟨("Course", some "refused_now"), "refused_now", "Course.refused_now", defArgs s_course_refused_now, defBody s_course_refused_now, defScope s_course_refused_now, [], []⟩
abbrev s_course_go : Stmt := inClass (top 29) 3
abbrev N_course_go : List Str := ["self", "event", "at", "word", "thing", "ahead"]
theorem sc_course_go : FnScope N_course_go ["self", "event"] (defScope s_course_go) := ⟨rfl, rfl, rfl, by decide +kernel, rfl, by decide +kernel, by decide +kernel⟩
def d_course_go : He.DefD := ⟨("Course", some "go"), "go", "Course.go", defArgs s_course_go, defBody s_course_go, defScope s_course_go, [], []⟩
abbrev s_course_is_possible : Stmt := inClass (top 29) 4
abbrev N_course_is_possible : List Str := ["self", "word", "thing", "waiting"]
theorem sc_course_is_possible : FnScope N_course_is_possible ["self", "word", "thing"] (defScope s_course_is_possible) := ⟨rfl, rfl, rfl, by decide +kernel, rfl, by decide +kernel, by decide +kernel⟩
def d_course_is_possible : He.DefD := ⟨("Course", some "is_possible"), "is_possible", "Course.is_possible", defArgs s_course_is_possible, defBody s_course_is_possible, defScope s_course_is_possible, [], []⟩
abbrev s_course_happen : Stmt := inClass (top 29) 5
abbrev N_course_happen : List Str := ["self", "word", "thing", "later"]
theorem sc_course_happen : FnScope N_course_happen ["self", "word", "thing"] (defScope s_course_happen) := ⟨rfl, rfl, rfl, by decide +kernel, rfl, by decide +kernel, by decide +kernel⟩
def d_course_happen : He.DefD := ⟨("Course", some "happen"), "happen", "Course.happen", defArgs s_course_happen, defBody s_course_happen, defScope s_course_happen, [], []⟩
abbrev s_course_decide : Stmt := inClass (top 29) 6
abbrev N_course_decide : List Str := ["self", "later", "word", "accepted"]
theorem sc_course_decide : FnScope N_course_decide ["self", "later"] (defScope s_course_decide) := ⟨rfl, rfl, rfl, by decide +kernel, rfl, by decide +kernel, by decide +kernel⟩
def d_course_decide : He.DefD := ⟨("Course", some "decide"), "decide", "Course.decide", defArgs s_course_decide, defBody s_course_decide, defScope s_course_decide, [], []⟩
abbrev s_course_answer : Stmt := inClass (top 29) 7
abbrev N_course_answer : List Str := ["self", "number", "word", "value", "accepted"]
theorem sc_course_answer : FnScope N_course_answer ["self", "number"] (defScope s_course_answer) := ⟨rfl, rfl, rfl, by decide +kernel, rfl, by decide +kernel, by decide +kernel⟩
def d_course_answer : He.DefD := ⟨("Course", some "answer"), "answer", "Course.answer", defArgs s_course_answer, defBody s_course_answer, defScope s_course_answer, [], []⟩
abbrev s_course_bring : Stmt := inClass (top 29) 8
abbrev N_course_bring : List Str := ["self", "moment", "value", "reach", "accepted"]
theorem sc_course_bring : FnScope N_course_bring ["self", "moment"] (defScope s_course_bring) := ⟨rfl, rfl, rfl, by decide +kernel, rfl, by decide +kernel, by decide +kernel⟩
def d_course_bring : He.DefD := ⟨("Course", some "bring"), "bring", "Course.bring", defArgs s_course_bring, defBody s_course_bring, defScope s_course_bring, [], []⟩
abbrev s_course_note_flickers : Stmt := inClass (top 29) 9
abbrev N_course_note_flickers : List Str := ["self", "ahead", "inside", "refused", "number"]
theorem sc_course_note_flickers : FnScope N_course_note_flickers ["self", "ahead"] (defScope s_course_note_flickers) := ⟨rfl, rfl, rfl, by decide +kernel, rfl, by decide +kernel, by decide +kernel⟩
def d_course_note_flickers : He.DefD := ⟨("Course", some "note_flickers"), "note_flickers", "Course.note_flickers", defArgs s_course_note_flickers, defBody s_course_note_flickers, defScope s_course_note_flickers, [], []⟩
abbrev s_course_note_goals : Stmt := inClass (top 29) 10
abbrev N_course_note_goals : List Str := ["self", "inside", "number"]
theorem sc_course_note_goals : FnScope N_course_note_goals ["self"] (defScope s_course_note_goals) := ⟨rfl, rfl, rfl, by decide +kernel, rfl, by decide +kernel, by decide +kernel⟩
def d_course_note_goals : He.DefD := ⟨("Course", some "note_goals"), "note_goals", "Course.note_goals", defArgs s_course_note_goals, defBody s_course_note_goals, defScope s_course_note_goals, [], []⟩
abbrev s_played_init : Stmt := inClass (top 30) 0
abbrev N_played_init : List Str := ["self", "course", "sheet", "goal"]
theorem sc_played_init : FnScope N_played_init ["self", "course"] (defScope s_played_init) := ⟨rfl, rfl, rfl, by decide +kernel, rfl, by decide +kernel, by decide +kernel⟩
def d_played_init : He.DefD := ⟨("Played", some "__init__"), "__init__", "Played.__init__", defArgs s_played_init, defBody s_played_init, defScope s_played_init, [], []⟩
abbrev s_play : Stmt := top 31
abbrev N_play : List Str := ["book", "page", "weaving", "marks", "course", "event"]
theorem sc_play : FnScope N_play ["book", "page", "weaving", "marks"] (defScope s_play) := ⟨rfl, rfl, rfl, by decide +kernel, rfl, by decide +kernel, by decide +kernel⟩
def d_play : He.DefD := ⟨("play", none), "play", "play", defArgs s_play, defBody s_play, defScope s_play, [.glo "MARKS"], []⟩
abbrev s_is_targets : Stmt := top 33
abbrev N_is_targets : List Str := ["value", "values", "one"]
theorem sc_is_targets : FnScope N_is_targets ["value", "values"] (defScope s_is_targets) := ⟨rfl, rfl, rfl, by decide +kernel, rfl, by decide +kernel, by decide +kernel⟩
def d_is_targets : He.DefD := ⟨("is_targets", none), "is_targets", "is_targets", defArgs s_is_targets, defBody s_is_targets, defScope s_is_targets, [], []⟩
abbrev s_are_kinds : Stmt := top 34
abbrev N_are_kinds : List Str := ["value", "values", "one"]
theorem sc_are_kinds : FnScope N_are_kinds ["value", "values"] (defScope s_are_kinds) := ⟨rfl, rfl, rfl, by decide +kernel, rfl, by decide +kernel, by decide +kernel⟩
def d_are_kinds : He.DefD := ⟨("are_kinds", none), "are_kinds", "are_kinds", defArgs s_are_kinds, defBody s_are_kinds, defScope s_are_kinds, [], []⟩
abbrev s_are_some : Stmt := top 35
abbrev N_are_some : List Str := ["value", "names", "name"]
theorem sc_are_some : FnScope N_are_some ["value", "names"] (defScope s_are_some) := ⟨rfl, rfl, rfl, by decide +kernel, rfl, by decide +kernel, by decide +kernel⟩
def d_are_some : He.DefD := ⟨("are_some", none), "are_some", "are_some", defArgs s_are_some, defBody s_are_some, defScope s_are_some, [], []⟩
abbrev s_book_init : Stmt := inClass (top 36) 0
abbrev N_book_init : List Str := ["self", "choices", "kinds", "loose", "others", "name", "targets"]
theorem sc_book_init : FnScope N_book_init ["self", "choices", "kinds", "loose", "others"] (defScope s_book_init) := ⟨rfl, rfl, rfl, by decide +kernel, rfl, by decide +kernel, by decide +kernel⟩
def d_book_init : He.DefD := ⟨("Book", some "__init__"), "__init__", "Book.__init__", defArgs s_book_init, defBody s_book_init, defScope s_book_init, [.adr (He.dflAt ("Book", some "__init__") 0), .adr (He.dflAt ("Book", some "__init__") 1)], []⟩
abbrev s_book_need_kind : Stmt := inClass (top 36) 2
abbrev N_book_need_kind : List Str := ["self", "kind"]
theorem sc_book_need_kind : FnScope N_book_need_kind ["self", "kind"] (defScope s_book_need_kind) := ⟨rfl, rfl, rfl, by decide +kernel, rfl, by decide +kernel, by decide +kernel⟩
def d_book_need_kind : He.DefD := ⟨("Book", some "need_kind"), "need_kind", "Book.need_kind", defArgs s_book_need_kind, defBody s_book_need_kind, defScope s_book_need_kind, [], []⟩
abbrev s_book_target : Stmt := inClass (top 36) 3
abbrev N_book_target : List Str := ["self", "kind", "value"]
theorem sc_book_target : FnScope N_book_target ["self", "kind", "value"] (defScope s_book_target) := ⟨rfl, rfl, rfl, by decide +kernel, rfl, by decide +kernel, by decide +kernel⟩
def d_book_target : He.DefD := ⟨("Book", some "target"), "target", "Book.target", defArgs s_book_target, defBody s_book_target, defScope s_book_target, [], []⟩
abbrev s_fits_letter : Stmt := top 44
abbrev N_fits_letter : List Str := ["word", "letter"]
theorem sc_fits_letter : FnScope N_fits_letter ["word", "letter"] (defScope s_fits_letter) := ⟨rfl, rfl, rfl, by decide +kernel, rfl, by decide +kernel, by decide +kernel⟩
def d_fits_letter : He.DefD := ⟨("fits_letter", none), "fits_letter", "fits_letter", defArgs s_fits_letter, defBody s_fits_letter, defScope s_fits_letter, [], []⟩
abbrev s_is_test : Stmt := top 45
abbrev N_is_test : List Str := ["value", "letter", "word"]
theorem sc_is_test : FnScope N_is_test ["value", "letter"] (defScope s_is_test) := ⟨rfl, rfl, rfl, by decide +kernel, rfl, by decide +kernel, by decide +kernel⟩
def d_is_test : He.DefD := ⟨("is_test", none), "is_test", "is_test", defArgs s_is_test, defBody s_is_test, defScope s_is_test, [], []⟩
abbrev s_is_deed : Stmt := top 46
abbrev N_is_deed : List Str := ["value", "letter"]
theorem sc_is_deed : FnScope N_is_deed ["value", "letter"] (defScope s_is_deed) := ⟨rfl, rfl, rfl, by decide +kernel, rfl, by decide +kernel, by decide +kernel⟩
def d_is_deed : He.DefD := ⟨("is_deed", none), "is_deed", "is_deed", defArgs s_is_deed, defBody s_is_deed, defScope s_is_deed, [], []⟩
abbrev s_row_init : Stmt := inClass (top 47) 0
abbrev N_row_init : List Str := ["self", "letter", "tests", "deeds", "test", "deed"]
theorem sc_row_init : FnScope N_row_init ["self", "letter", "tests", "deeds"] (defScope s_row_init) := ⟨rfl, rfl, rfl, by decide +kernel, rfl, by decide +kernel, by decide +kernel⟩
def d_row_init : He.DefD := ⟨("Row", some "__init__"), "__init__", "Row.__init__", defArgs s_row_init, defBody s_row_init, defScope s_row_init, [.adr (He.dflAt ("Row", some "__init__") 0), .adr (He.dflAt ("Row", some "__init__") 1)], []⟩
abbrev s_page_init : Stmt := inClass (top 49) 0
abbrev N_page_init : List Str := ["self", "rows", "row"]
theorem sc_page_init : FnScope N_page_init ["self", "rows"] (defScope s_page_init) := ⟨rfl, rfl, rfl, by decide +kernel, rfl, by decide +kernel, by decide +kernel⟩
def d_page_init : He.DefD := ⟨("Page", some "__init__"), "__init__", "Page.__init__", defArgs s_page_init, defBody s_page_init, defScope s_page_init, [.adr (He.dflAt ("Page", some "__init__") 0)], []⟩
abbrev s_l_deal : Stmt := top 51
abbrev N_l_deal : List Str := ["_law_script", "_law_base", "_law_cells", "_law_cell", "_law_blend"]
theorem sc_l_deal : FnScope N_l_deal ["_law_script", "_law_base"] (defScope s_l_deal) := ⟨rfl, rfl, rfl, by decide +kernel, rfl, by decide +kernel, by decide +kernel⟩
def d_l_deal : He.DefD := ⟨("_law_deal", none), "_law_deal", "_law_deal", defArgs s_l_deal, defBody s_l_deal, defScope s_l_deal, [], []⟩
abbrev s_l_draw : Stmt := top 52
abbrev N_l_draw : List Str := ["_law_deal_here", "_law_amount", "_law_left"]
theorem sc_l_draw : FnScope N_l_draw ["_law_deal_here", "_law_amount"] (defScope s_l_draw) := ⟨rfl, rfl, rfl, by decide +kernel, rfl, by decide +kernel, by decide +kernel⟩
def d_l_draw : He.DefD := ⟨("_law_draw", none), "_law_draw", "_law_draw", defArgs s_l_draw, defBody s_l_draw, defScope s_l_draw, [], []⟩
abbrev s_l_mixed : Stmt := top 53
abbrev N_l_mixed : List Str := ["_law_deal_here", "_law_some", "_law_left", "_law_found"]
theorem sc_l_mixed : FnScope N_l_mixed ["_law_deal_here", "_law_some"] (defScope s_l_mixed) := ⟨rfl, rfl, rfl, by decide +kernel, rfl, by decide +kernel, by decide +kernel⟩
def d_l_mixed : He.DefD := ⟨("_law_mixed", none), "_law_mixed", "_law_mixed", defArgs s_l_mixed, defBody s_l_mixed, defScope s_l_mixed, [], []⟩
abbrev s_l_words : Stmt := top 54
abbrev N_l_words : List Str := ["_law_deal_here", "_law_many", "_law_some"]
theorem sc_l_words : FnScope N_l_words ["_law_deal_here", "_law_many"] (defScope s_l_words) := ⟨rfl, rfl, rfl, by decide +kernel, rfl, by decide +kernel, by decide +kernel⟩
def d_l_words : He.DefD := ⟨("_law_words", none), "_law_words", "_law_words", defArgs s_l_words, defBody s_l_words, defScope s_l_words, [], []⟩
abbrev s_l_book : Stmt := top 55
abbrev N_l_book : List Str := ["_law_deal_here", "_law_most", "_law_some", "_law_names", "_law_kinds", "_law_name", "_law_one", "_law_loose"]
theorem sc_l_book : FnScope N_l_book ["_law_deal_here", "_law_most"] (defScope s_l_book) := ⟨rfl, rfl, rfl, by decide +kernel, rfl, by decide +kernel, by decide +kernel⟩
def d_l_book : He.DefD := ⟨("_law_book", none), "_law_book", "_law_book", defArgs s_l_book, defBody s_l_book, defScope s_l_book, [], []⟩
abbrev s_l_row : Stmt := top 57
abbrev N_l_row : List Str := ["_law_deal_here", "_law_letter", "_law_tests", "_law_deeds", "_law_some", "_law_turn", "_law_test"]
theorem sc_l_row : FnScope N_l_row ["_law_deal_here"] (defScope s_l_row) := ⟨rfl, rfl, rfl, by decide +kernel, rfl, by decide +kernel, by decide +kernel⟩
def d_l_row : He.DefD := ⟨("_law_row", none), "_law_row", "_law_row", defArgs s_l_row, defBody s_l_row, defScope s_l_row, [], []⟩
abbrev s_l_after : Stmt := top 59
abbrev N_l_after : List Str := ["_law_book_here", "_law_kind", "_law_value", "_law_some", "_law_kinds", "_law_loose", "_law_others", "_law_targets", "_law_name", "_law_told"]
theorem sc_l_after : FnScope N_l_after ["_law_book_here", "_law_kind", "_law_value"] (defScope s_l_after) := ⟨rfl, rfl, rfl, by decide +kernel, rfl, by decide +kernel, by decide +kernel⟩
def d_l_after : He.DefD := ⟨("_law_after", none), "_law_after", "_law_after", defArgs s_l_after, defBody s_l_after, defScope s_l_after, [], []⟩
abbrev s_l_shows : Stmt := top 60
abbrev N_l_shows : List Str := ["_law_book_here", "_law_page_here", "_law_value", "_law_number", "_law_later"]
theorem sc_l_shows : FnScope N_l_shows ["_law_book_here", "_law_page_here"] (defScope s_l_shows) := ⟨rfl, rfl, rfl, by decide +kernel, rfl, by decide +kernel, by decide +kernel⟩
def d_l_shows : He.DefD := ⟨("_law_shows", none), "_law_shows", "_law_shows", defArgs s_l_shows, defBody s_l_shows, defScope s_l_shows, [], []⟩
abbrev s_l_is_so : Stmt := top 61
abbrev N_l_is_so : List Str := ["_law_test", "_law_letter", "_law_page_here", "_law_word", "_law_number", "_law_value", "_law_reach", "_law_accepted", "_law_one"]
theorem sc_l_is_so : FnScope N_l_is_so ["_law_test", "_law_letter", "_law_page_here"] (defScope s_l_is_so) := ⟨rfl, rfl, rfl, by decide +kernel, rfl, by decide +kernel, by decide +kernel⟩
def d_l_is_so : He.DefD := ⟨("_law_is_so", none), "_law_is_so", "_law_is_so", defArgs s_l_is_so, defBody s_l_is_so, defScope s_l_is_so, [], []⟩
abbrev s_l_deed : Stmt := top 62
abbrev N_l_deed : List Str := ["_law_book_here", "_law_deed_here", "_law_letter", "_law_page_here", "_law_word", "_law_number", "_law_value", "_law_reach", "_law_accepted", "_law_later", "_law_one"]
theorem sc_l_deed : FnScope N_l_deed ["_law_book_here", "_law_deed_here", "_law_letter", "_law_page_here"] (defScope s_l_deed) := ⟨rfl, rfl, rfl, by decide +kernel, rfl, by decide +kernel, by decide +kernel⟩
def d_l_deed : He.DefD := ⟨("_law_deed", none), "_law_deed", "_law_deed", defArgs s_l_deed, defBody s_l_deed, defScope s_l_deed, [], []⟩
abbrev s_l_hears : Stmt := top 63
abbrev N_l_hears : List Str := ["_law_book_here", "_law_rows", "_law_letter", "_law_page_here", "_law_found", "_law_at", "_law_row_here", "_law_fits", "_law_test", "_law_plain", "_law_deed_here"]
theorem sc_l_hears : FnScope N_l_hears ["_law_book_here", "_law_rows", "_law_letter", "_law_page_here"] (defScope s_l_hears) := ⟨rfl, rfl, rfl, by decide +kernel, rfl, by decide +kernel, by decide +kernel⟩
def d_l_hears : He.DefD := ⟨("_law_hears", none), "_law_hears", "_law_hears", defArgs s_l_hears, defBody s_l_hears, defScope s_l_hears, [], []⟩
abbrev s_l_begun : Stmt := top 64
abbrev N_l_begun : List Str := ["_law_book_here", "_law_page_here", "_law_found"]
theorem sc_l_begun : FnScope N_l_begun ["_law_book_here"] (defScope s_l_begun) := ⟨rfl, rfl, rfl, by decide +kernel, rfl, by decide +kernel, by decide +kernel⟩
def d_l_begun : He.DefD := ⟨("_law_begun", none), "_law_begun", "_law_begun", defArgs s_l_begun, defBody s_l_begun, defScope s_l_begun, [], []⟩
abbrev s_l_happens : Stmt := top 66
abbrev N_l_happens : List Str := ["_law_book_here", "_law_rows", "_law_state", "_law_event", "_law_words_here", "_law_page_here", "_law_found", "_law_accepted", "_law_at", "_law_fate", "_law_later", "_law_number", "_law_word", "_law_value", "_law_known", "_law_reach"]
theorem sc_l_happens : FnScope N_l_happens ["_law_book_here", "_law_rows", "_law_state", "_law_event"] (defScope s_l_happens) := ⟨rfl, rfl, rfl, by decide +kernel, rfl, by decide +kernel, by decide +kernel⟩
def d_l_happens : He.DefD := ⟨("_law_happens", none), "_law_happens", "_law_happens", defArgs s_l_happens, defBody s_l_happens, defScope s_l_happens, [], []⟩
abbrev s_l_next : Stmt := top 68
abbrev N_l_next : List Str := ["_law_deal_here", "_law_book_here", "_law_state", "_law_names", "_law_page_here", "_law_name", "_law_targets", "_law_some", "_law_number"]
theorem sc_l_next : FnScope N_l_next ["_law_deal_here", "_law_book_here", "_law_state"] (defScope s_l_next) := ⟨rfl, rfl, rfl, by decide +kernel, rfl, by decide +kernel, by decide +kernel⟩
def d_l_next : He.DefD := ⟨("_law_next", none), "_law_next", "_law_next", defArgs s_l_next, defBody s_l_next, defScope s_l_next, [], []⟩
abbrev s_l_world : Stmt := top 69
abbrev N_l_world : List Str := ["_law_deal_here", "_law_book_here", "_law_row_here"]
theorem sc_l_world : FnScope N_l_world ["_law_deal_here"] (defScope s_l_world) := ⟨rfl, rfl, rfl, by decide +kernel, rfl, by decide +kernel, by decide +kernel⟩
def d_l_world : He.DefD := ⟨("_law_world", none), "_law_world", "_law_world", defArgs s_l_world, defBody s_l_world, defScope s_l_world, [], []⟩
abbrev s_l_page : Stmt := top 70
abbrev N_l_page : List Str := ["_law_rows", "_law_row_here"]
theorem sc_l_page : FnScope N_l_page ["_law_rows"] (defScope s_l_page) := ⟨rfl, rfl, rfl, by decide +kernel, rfl, by decide +kernel, by decide +kernel⟩
def d_l_page : He.DefD := ⟨("_law_page", none), "_law_page", "_law_page", defArgs s_l_page, defBody s_l_page, defScope s_l_page, [], []⟩
abbrev s_l_led : Stmt := top 71
abbrev N_l_led : List Str := ["_law_book_here", "_law_led_here", "_law_some", "_law_kinds", "_law_loose", "_law_others", "_law_told", "_law_name", "_law_targets", "_law_one"]
theorem sc_l_led : FnScope N_l_led ["_law_book_here", "_law_led_here"] (defScope s_l_led) := ⟨rfl, rfl, rfl, by decide +kernel, rfl, by decide +kernel, by decide +kernel⟩
def d_l_led : He.DefD := ⟨("_law_led", none), "_law_led", "_law_led", defArgs s_l_led, defBody s_l_led, defScope s_l_led, [], []⟩
abbrev s_l_numbers : Stmt := top 72
abbrev N_l_numbers : List Str := ["_law_played_here", "_law_found"]
theorem sc_l_numbers : FnScope N_l_numbers ["_law_played_here"] (defScope s_l_numbers) := ⟨rfl, rfl, rfl, by decide +kernel, rfl, by decide +kernel, by decide +kernel⟩
def d_l_numbers : He.DefD := ⟨("_law_numbers", none), "_law_numbers", "_law_numbers", defArgs s_l_numbers, defBody s_l_numbers, defScope s_l_numbers, [], []⟩
abbrev s_law : Stmt := top 73
abbrev N_law : List Str := ["_law_script", "_law_deal_here", "_law_words_here", "_law_fresh", "_law_word", "_law_turn", "_law_book_here", "_law_rows", "_law_led_here", "_law_state", "_law_events", "_law_others", "_law_again", "_law_event", "_law_told", "_law_page_here", "_law_one", "_law_other", "_law_value"]
theorem sc_law : FnScope N_law ["_law_script"] (defScope s_law) := ⟨rfl, rfl, rfl, by decide +kernel, rfl, by decide +kernel, by decide +kernel⟩
def d_law : He.DefD := ⟨("law", none), "law", "law", defArgs s_law, defBody s_law, defScope s_law, [], []⟩
def fnl0 : List He.DefD := [d_holds, d_row_at, d_shown_from, d_reached, d_sheet_init, d_sheet_click, d_sheet_view, d_sheet_truths, d_sheet_hear, d_sheet_act, d_sheet_inner, d_is_name, d_is_sequence, d_are_names, d_is_decimal, d_event_in]
def fnl1 : List He.DefD := [d_weaving_init, d_course_init, d_course_accepted_now, d_course_refused_now, d_course_go, d_course_is_possible, d_course_happen, d_course_decide, d_course_answer, d_course_bring, d_course_note_flickers, d_course_note_goals, d_played_init, d_play, d_is_targets, d_are_kinds]
def fnl2 : List He.DefD := [d_are_some, d_book_init, d_book_need_kind, d_book_target, d_fits_letter, d_is_test, d_is_deed, d_row_init, d_page_init, d_l_deal, d_l_draw, d_l_mixed, d_l_words, d_l_book, d_l_row, d_l_after]
def fnl3 : List He.DefD := [d_l_shows, d_l_is_so, d_l_deed, d_l_hears, d_l_begun, d_l_happens, d_l_next, d_l_world, d_l_page, d_l_led, d_l_numbers, d_law]
def fnl : List He.DefD := fnl0 ++ (fnl1 ++ (fnl2 ++ (fnl3)))
def fal0 : List He.Fa := [.cls "Sheet", .glo "Sheet", .mkr "Sheet", .noat "Sheet" "book", .noat "Sheet" "page", .noat "Sheet" "kinds", .noat "Sheet" "base", .noat "Sheet" "contents", .noat "Sheet" "open_ones", .noat "Sheet" "heard", .meth "Sheet" "click", .meth "Sheet" "view", .meth "Sheet" "truths", .meth "Sheet" "hear", .meth "Sheet" "act", .meth "Sheet" "inner"]
def fal1 : List He.Fa := [.cls "Weaving", .glo "Weaving", .mkr "Weaving", .noat "Weaving" "events", .cls "Course", .glo "Course", .mkr "Course", .noat "Course" "book", .noat "Course" "marks", .noat "Course" "sheet", .noat "Course" "value", .noat "Course" "fates", .noat "Course" "come", .noat "Course" "moments", .noat "Course" "behind", .noat "Course" "is_told"]
def fal2 : List He.Fa := [.noat "Course" "shown", .noat "Course" "done", .noat "Course" "flickers", .noat "Course" "gained", .meth "Course" "accepted_now", .meth "Course" "refused_now", .meth "Course" "go", .meth "Course" "is_possible", .meth "Course" "happen", .meth "Course" "decide", .meth "Course" "answer", .meth "Course" "bring", .meth "Course" "note_flickers", .meth "Course" "note_goals", .cls "Played", .glo "Played"]
def fal3 : List He.Fa := [.mkr "Played", .noat "Played" "shown", .noat "Played" "value", .noat "Played" "base", .noat "Played" "opened", .noat "Played" "heard", .noat "Played" "done", .noat "Played" "accepted", .noat "Played" "refused", .noat "Played" "inside", .noat "Played" "flickers", .noat "Played" "goals", .cls "Book", .glo "Book", .mkr "Book", .noat "Book" "choices"]
def fal4 : List He.Fa := [.noat "Book" "kinds", .noat "Book" "targets", .noat "Book" "loose", .noat "Book" "others", .meth "Book" "need_kind", .meth "Book" "target", .cls "Row", .glo "Row", .mkr "Row", .noat "Row" "letter", .noat "Row" "tests", .noat "Row" "deeds", .cls "Page", .glo "Page", .mkr "Page", .noat "Page" "rows"]
def fal5 : List He.Fa := [.glo "holds", .glo "row_at", .glo "shown_from", .glo "reached", .glo "is_name", .glo "is_sequence", .glo "are_names", .glo "is_decimal", .glo "event_in", .glo "play", .glo "is_targets", .glo "are_kinds", .glo "are_some", .glo "fits_letter", .glo "is_test", .glo "is_deed"]
def fal6 : List He.Fa := [.glo "_law_deal", .glo "_law_draw", .glo "_law_mixed", .glo "_law_words", .glo "_law_book", .glo "_law_row", .glo "_law_after", .glo "_law_shows", .glo "_law_is_so", .glo "_law_deed", .glo "_law_hears", .glo "_law_begun", .glo "_law_happens", .glo "_law_next", .glo "_law_world", .glo "_law_page"]
def fal7 : List He.Fa := [.glo "_law_led", .glo "_law_numbers", .glo "law", .free "len", .free "all", .free "any", .free "isinstance", .free "tuple", .free "list", .free "range", .free "enumerate", .free "str", .free "int", .free "abs", .free "max", .free "dict"]
def fal8 : List He.Fa := [.free "zip", .free "sorted", .glo "BARRED", .glo "MARKS", .glo "LETTERS", .glo "TESTS", .glo "DEEDS", .glo "OF_ANSWERS", .str "SMALL" "abcdefghijklmnopqrstuvwxyz"]
def fal : List He.Fa := fal0 ++ (fal1 ++ (fal2 ++ (fal3 ++ (fal4 ++ (fal5 ++ (fal6 ++ (fal7 ++ (fal8))))))))
def tv_BARRED : List Str := ["no", "yes", "do", "if", "and", "not", "then"]
def tv_MARKS : List Str := ["no", "reach", "yes"]
def tv_LETTERS : List Str := ["yes", "no", "list"]
def tv_TESTS : List Str := ["old", "all", "open", "same", "first", "gone"]
def tv_DEEDS : List Str := ["take", "do", "drop", "sweep", "clear"]
def tv_OF_ANSWERS : List Str := ["first", "gone", "do", "drop"]
def dvS (l : List Str) : List He.Dv := l.map He.Dv.str
def insB (K : PySem.W.Frag) (x : Str) : Bool := He.eqO (PySem.W.findIn K (.ref (He.ga K x)) "__class__") (some (some (.builtin "object.__class__"))) && (He.eqO (PySem.W.specialIn K (.builtin "object.__class__") "__get__") (some (some (.builtin "getset_descriptor.__get__"))) &&
  (decide (PySem.W.takesIn K (.builtin "object.__class__") = some true) && (decide (PySem.W.mroIn K (He.ga K x) (.type "object") = some true) && decide (PySem.W.kitOne K (.ref (He.ga K x)) (.ref (He.ga K x)) = some true))))
theorem insB_ok {K : PySem.W.Frag} {x : Str} (c : Cls K (He.ga K x)) (h : insB K x = true) : C8.InsC K (He.ga K x) := by
  obtain ⟨h1, h⟩ := He.ba h
  obtain ⟨h2, h⟩ := He.ba h
  obtain ⟨h3, h⟩ := He.ba h
  obtain ⟨h4, h5⟩ := He.ba h
  exact ⟨c, He.eqO_ok h1, He.eqO_ok h2, of_decide_eq_true h3, of_decide_eq_true h4, of_decide_eq_true h5⟩
def exT (K : PySem.W.Frag) : Bool := He.tupB K "BARRED" (dvS tv_BARRED) && (He.tupB K "MARKS" (dvS tv_MARKS) && (He.tupB K "LETTERS" (dvS tv_LETTERS) && (He.tupB K "TESTS" (dvS tv_TESTS) && (He.tupB K "DEEDS" (dvS tv_DEEDS) && (He.tupB K "OF_ANSWERS" (dvS tv_OF_ANSWERS))))))
def exB (K : PySem.W.Frag) : Bool := exT K && insB K "Row"
/-- what the head has left: the facts of the top -/
structure Ctx (K : PySem.W.Frag) (mg : Str → Option Value) : Prop where
  ex_ : ∃ h : Heap, K.In h ∧ h.Ns mainGlobals mg
  c : He.SaysD fal fnl K
  t : exB K = true
section
variable {K : PySem.W.Frag} {mg : Str → Option Value}
theorem Ctx.ml (C : Ctx K mg) {x : Str} {u : Value} (h : ∀ h : Heap, K.In h → h.Ns mainGlobals mg → mg x = some u) : mg x = some u := let ⟨_, a, b⟩ := C.ex_; h _ a b
theorem Ctx.cls_Sheet (C : Ctx K mg) : Cls K (He.ga K "Sheet") := He.cls_ok (C.c.fact 0 (f := .cls "Sheet") rfl)
theorem Ctx.g_Sheet (C : Ctx K mg) : mg "Sheet" = some (.ref (He.ga K "Sheet")) := let ⟨_, a, b⟩ := C.ex_; He.glo_ok a b (C.c.fact 1 (f := .glo "Sheet") rfl)
theorem Ctx.mk_Sheet (C : Ctx K mg) : Mk K (He.ga K "Sheet") (He.ma K (He.ga K "Sheet") "__init__") := He.mkr_ok (C.c.fact 2 (f := .mkr "Sheet") rfl)
theorem Ctx.no_Sheet_book (C : Ctx K mg) : NoAttr K (He.ga K "Sheet") "book" := He.noat_ok (C.c.fact 3 (f := .noat "Sheet" "book") rfl)
theorem Ctx.no_Sheet_page (C : Ctx K mg) : NoAttr K (He.ga K "Sheet") "page" := He.noat_ok (C.c.fact 4 (f := .noat "Sheet" "page") rfl)
theorem Ctx.no_Sheet_kinds (C : Ctx K mg) : NoAttr K (He.ga K "Sheet") "kinds" := He.noat_ok (C.c.fact 5 (f := .noat "Sheet" "kinds") rfl)
theorem Ctx.no_Sheet_base (C : Ctx K mg) : NoAttr K (He.ga K "Sheet") "base" := He.noat_ok (C.c.fact 6 (f := .noat "Sheet" "base") rfl)
theorem Ctx.no_Sheet_contents (C : Ctx K mg) : NoAttr K (He.ga K "Sheet") "contents" := He.noat_ok (C.c.fact 7 (f := .noat "Sheet" "contents") rfl)
theorem Ctx.no_Sheet_open_ones (C : Ctx K mg) : NoAttr K (He.ga K "Sheet") "open_ones" := He.noat_ok (C.c.fact 8 (f := .noat "Sheet" "open_ones") rfl)
theorem Ctx.no_Sheet_heard (C : Ctx K mg) : NoAttr K (He.ga K "Sheet") "heard" := He.noat_ok (C.c.fact 9 (f := .noat "Sheet" "heard") rfl)
theorem Ctx.me_Sheet_click (C : Ctx K mg) : Meth K (He.ga K "Sheet") "click" (He.ma K (He.ga K "Sheet") "click") := He.meth_ok (C.c.fact 10 (f := .meth "Sheet" "click") rfl)
theorem Ctx.me_Sheet_view (C : Ctx K mg) : Meth K (He.ga K "Sheet") "view" (He.ma K (He.ga K "Sheet") "view") := He.meth_ok (C.c.fact 11 (f := .meth "Sheet" "view") rfl)
theorem Ctx.me_Sheet_truths (C : Ctx K mg) : Meth K (He.ga K "Sheet") "truths" (He.ma K (He.ga K "Sheet") "truths") := He.meth_ok (C.c.fact 12 (f := .meth "Sheet" "truths") rfl)
theorem Ctx.me_Sheet_hear (C : Ctx K mg) : Meth K (He.ga K "Sheet") "hear" (He.ma K (He.ga K "Sheet") "hear") := He.meth_ok (C.c.fact 13 (f := .meth "Sheet" "hear") rfl)
theorem Ctx.me_Sheet_act (C : Ctx K mg) : Meth K (He.ga K "Sheet") "act" (He.ma K (He.ga K "Sheet") "act") := He.meth_ok (C.c.fact 14 (f := .meth "Sheet" "act") rfl)
theorem Ctx.me_Sheet_inner (C : Ctx K mg) : Meth K (He.ga K "Sheet") "inner" (He.ma K (He.ga K "Sheet") "inner") := He.meth_ok (C.c.fact 15 (f := .meth "Sheet" "inner") rfl)
theorem Ctx.cls_Weaving (C : Ctx K mg) : Cls K (He.ga K "Weaving") := He.cls_ok (C.c.fact 16 (f := .cls "Weaving") rfl)
theorem Ctx.g_Weaving (C : Ctx K mg) : mg "Weaving" = some (.ref (He.ga K "Weaving")) := let ⟨_, a, b⟩ := C.ex_; He.glo_ok a b (C.c.fact 17 (f := .glo "Weaving") rfl)
theorem Ctx.mk_Weaving (C : Ctx K mg) : Mk K (He.ga K "Weaving") (He.ma K (He.ga K "Weaving") "__init__") := He.mkr_ok (C.c.fact 18 (f := .mkr "Weaving") rfl)
theorem Ctx.no_Weaving_events (C : Ctx K mg) : NoAttr K (He.ga K "Weaving") "events" := He.noat_ok (C.c.fact 19 (f := .noat "Weaving" "events") rfl)
theorem Ctx.cls_Course (C : Ctx K mg) : Cls K (He.ga K "Course") := He.cls_ok (C.c.fact 20 (f := .cls "Course") rfl)
theorem Ctx.g_Course (C : Ctx K mg) : mg "Course" = some (.ref (He.ga K "Course")) := let ⟨_, a, b⟩ := C.ex_; He.glo_ok a b (C.c.fact 21 (f := .glo "Course") rfl)
theorem Ctx.mk_Course (C : Ctx K mg) : Mk K (He.ga K "Course") (He.ma K (He.ga K "Course") "__init__") := He.mkr_ok (C.c.fact 22 (f := .mkr "Course") rfl)
theorem Ctx.no_Course_book (C : Ctx K mg) : NoAttr K (He.ga K "Course") "book" := He.noat_ok (C.c.fact 23 (f := .noat "Course" "book") rfl)
theorem Ctx.no_Course_marks (C : Ctx K mg) : NoAttr K (He.ga K "Course") "marks" := He.noat_ok (C.c.fact 24 (f := .noat "Course" "marks") rfl)
theorem Ctx.no_Course_sheet (C : Ctx K mg) : NoAttr K (He.ga K "Course") "sheet" := He.noat_ok (C.c.fact 25 (f := .noat "Course" "sheet") rfl)
theorem Ctx.no_Course_value (C : Ctx K mg) : NoAttr K (He.ga K "Course") "value" := He.noat_ok (C.c.fact 26 (f := .noat "Course" "value") rfl)
theorem Ctx.no_Course_fates (C : Ctx K mg) : NoAttr K (He.ga K "Course") "fates" := He.noat_ok (C.c.fact 27 (f := .noat "Course" "fates") rfl)
theorem Ctx.no_Course_come (C : Ctx K mg) : NoAttr K (He.ga K "Course") "come" := He.noat_ok (C.c.fact 28 (f := .noat "Course" "come") rfl)
theorem Ctx.no_Course_moments (C : Ctx K mg) : NoAttr K (He.ga K "Course") "moments" := He.noat_ok (C.c.fact 29 (f := .noat "Course" "moments") rfl)
theorem Ctx.no_Course_behind (C : Ctx K mg) : NoAttr K (He.ga K "Course") "behind" := He.noat_ok (C.c.fact 30 (f := .noat "Course" "behind") rfl)
theorem Ctx.no_Course_is_told (C : Ctx K mg) : NoAttr K (He.ga K "Course") "is_told" := He.noat_ok (C.c.fact 31 (f := .noat "Course" "is_told") rfl)
theorem Ctx.no_Course_shown (C : Ctx K mg) : NoAttr K (He.ga K "Course") "shown" := He.noat_ok (C.c.fact 32 (f := .noat "Course" "shown") rfl)
theorem Ctx.no_Course_done (C : Ctx K mg) : NoAttr K (He.ga K "Course") "done" := He.noat_ok (C.c.fact 33 (f := .noat "Course" "done") rfl)
theorem Ctx.no_Course_flickers (C : Ctx K mg) : NoAttr K (He.ga K "Course") "flickers" := He.noat_ok (C.c.fact 34 (f := .noat "Course" "flickers") rfl)
theorem Ctx.no_Course_gained (C : Ctx K mg) : NoAttr K (He.ga K "Course") "gained" := He.noat_ok (C.c.fact 35 (f := .noat "Course" "gained") rfl)
theorem Ctx.me_Course_accepted_now (C : Ctx K mg) : Meth K (He.ga K "Course") "accepted_now" (He.ma K (He.ga K "Course") "accepted_now") := He.meth_ok (C.c.fact 36 (f := .meth "Course" "accepted_now") rfl)
theorem Ctx.me_Course_refused_now (C : Ctx K mg) : Meth K (He.ga K "Course") "refused_now" (He.ma K (He.ga K "Course") "refused_now") := He.meth_ok (C.c.fact 37 (f := .meth "Course" "refused_now") rfl)
theorem Ctx.me_Course_go (C : Ctx K mg) : Meth K (He.ga K "Course") "go" (He.ma K (He.ga K "Course") "go") := He.meth_ok (C.c.fact 38 (f := .meth "Course" "go") rfl)
theorem Ctx.me_Course_is_possible (C : Ctx K mg) : Meth K (He.ga K "Course") "is_possible" (He.ma K (He.ga K "Course") "is_possible") := He.meth_ok (C.c.fact 39 (f := .meth "Course" "is_possible") rfl)
theorem Ctx.me_Course_happen (C : Ctx K mg) : Meth K (He.ga K "Course") "happen" (He.ma K (He.ga K "Course") "happen") := He.meth_ok (C.c.fact 40 (f := .meth "Course" "happen") rfl)
theorem Ctx.me_Course_decide (C : Ctx K mg) : Meth K (He.ga K "Course") "decide" (He.ma K (He.ga K "Course") "decide") := He.meth_ok (C.c.fact 41 (f := .meth "Course" "decide") rfl)
theorem Ctx.me_Course_answer (C : Ctx K mg) : Meth K (He.ga K "Course") "answer" (He.ma K (He.ga K "Course") "answer") := He.meth_ok (C.c.fact 42 (f := .meth "Course" "answer") rfl)
theorem Ctx.me_Course_bring (C : Ctx K mg) : Meth K (He.ga K "Course") "bring" (He.ma K (He.ga K "Course") "bring") := He.meth_ok (C.c.fact 43 (f := .meth "Course" "bring") rfl)
theorem Ctx.me_Course_note_flickers (C : Ctx K mg) : Meth K (He.ga K "Course") "note_flickers" (He.ma K (He.ga K "Course") "note_flickers") := He.meth_ok (C.c.fact 44 (f := .meth "Course" "note_flickers") rfl)
theorem Ctx.me_Course_note_goals (C : Ctx K mg) : Meth K (He.ga K "Course") "note_goals" (He.ma K (He.ga K "Course") "note_goals") := He.meth_ok (C.c.fact 45 (f := .meth "Course" "note_goals") rfl)
theorem Ctx.cls_Played (C : Ctx K mg) : Cls K (He.ga K "Played") := He.cls_ok (C.c.fact 46 (f := .cls "Played") rfl)
theorem Ctx.g_Played (C : Ctx K mg) : mg "Played" = some (.ref (He.ga K "Played")) := let ⟨_, a, b⟩ := C.ex_; He.glo_ok a b (C.c.fact 47 (f := .glo "Played") rfl)
theorem Ctx.mk_Played (C : Ctx K mg) : Mk K (He.ga K "Played") (He.ma K (He.ga K "Played") "__init__") := He.mkr_ok (C.c.fact 48 (f := .mkr "Played") rfl)
theorem Ctx.no_Played_shown (C : Ctx K mg) : NoAttr K (He.ga K "Played") "shown" := He.noat_ok (C.c.fact 49 (f := .noat "Played" "shown") rfl)
theorem Ctx.no_Played_value (C : Ctx K mg) : NoAttr K (He.ga K "Played") "value" := He.noat_ok (C.c.fact 50 (f := .noat "Played" "value") rfl)
theorem Ctx.no_Played_base (C : Ctx K mg) : NoAttr K (He.ga K "Played") "base" := He.noat_ok (C.c.fact 51 (f := .noat "Played" "base") rfl)
theorem Ctx.no_Played_opened (C : Ctx K mg) : NoAttr K (He.ga K "Played") "opened" := He.noat_ok (C.c.fact 52 (f := .noat "Played" "opened") rfl)
theorem Ctx.no_Played_heard (C : Ctx K mg) : NoAttr K (He.ga K "Played") "heard" := He.noat_ok (C.c.fact 53 (f := .noat "Played" "heard") rfl)
theorem Ctx.no_Played_done (C : Ctx K mg) : NoAttr K (He.ga K "Played") "done" := He.noat_ok (C.c.fact 54 (f := .noat "Played" "done") rfl)
theorem Ctx.no_Played_accepted (C : Ctx K mg) : NoAttr K (He.ga K "Played") "accepted" := He.noat_ok (C.c.fact 55 (f := .noat "Played" "accepted") rfl)
theorem Ctx.no_Played_refused (C : Ctx K mg) : NoAttr K (He.ga K "Played") "refused" := He.noat_ok (C.c.fact 56 (f := .noat "Played" "refused") rfl)
theorem Ctx.no_Played_inside (C : Ctx K mg) : NoAttr K (He.ga K "Played") "inside" := He.noat_ok (C.c.fact 57 (f := .noat "Played" "inside") rfl)
theorem Ctx.no_Played_flickers (C : Ctx K mg) : NoAttr K (He.ga K "Played") "flickers" := He.noat_ok (C.c.fact 58 (f := .noat "Played" "flickers") rfl)
theorem Ctx.no_Played_goals (C : Ctx K mg) : NoAttr K (He.ga K "Played") "goals" := He.noat_ok (C.c.fact 59 (f := .noat "Played" "goals") rfl)
theorem Ctx.cls_Book (C : Ctx K mg) : Cls K (He.ga K "Book") := He.cls_ok (C.c.fact 60 (f := .cls "Book") rfl)
theorem Ctx.g_Book (C : Ctx K mg) : mg "Book" = some (.ref (He.ga K "Book")) := let ⟨_, a, b⟩ := C.ex_; He.glo_ok a b (C.c.fact 61 (f := .glo "Book") rfl)
theorem Ctx.mk_Book (C : Ctx K mg) : Mk K (He.ga K "Book") (He.ma K (He.ga K "Book") "__init__") := He.mkr_ok (C.c.fact 62 (f := .mkr "Book") rfl)
theorem Ctx.no_Book_choices (C : Ctx K mg) : NoAttr K (He.ga K "Book") "choices" := He.noat_ok (C.c.fact 63 (f := .noat "Book" "choices") rfl)
theorem Ctx.no_Book_kinds (C : Ctx K mg) : NoAttr K (He.ga K "Book") "kinds" := He.noat_ok (C.c.fact 64 (f := .noat "Book" "kinds") rfl)
theorem Ctx.no_Book_targets (C : Ctx K mg) : NoAttr K (He.ga K "Book") "targets" := He.noat_ok (C.c.fact 65 (f := .noat "Book" "targets") rfl)
theorem Ctx.no_Book_loose (C : Ctx K mg) : NoAttr K (He.ga K "Book") "loose" := He.noat_ok (C.c.fact 66 (f := .noat "Book" "loose") rfl)
theorem Ctx.no_Book_others (C : Ctx K mg) : NoAttr K (He.ga K "Book") "others" := He.noat_ok (C.c.fact 67 (f := .noat "Book" "others") rfl)
theorem Ctx.me_Book_need_kind (C : Ctx K mg) : Meth K (He.ga K "Book") "need_kind" (He.ma K (He.ga K "Book") "need_kind") := He.meth_ok (C.c.fact 68 (f := .meth "Book" "need_kind") rfl)
theorem Ctx.me_Book_target (C : Ctx K mg) : Meth K (He.ga K "Book") "target" (He.ma K (He.ga K "Book") "target") := He.meth_ok (C.c.fact 69 (f := .meth "Book" "target") rfl)
theorem Ctx.cls_Row (C : Ctx K mg) : Cls K (He.ga K "Row") := He.cls_ok (C.c.fact 70 (f := .cls "Row") rfl)
theorem Ctx.g_Row (C : Ctx K mg) : mg "Row" = some (.ref (He.ga K "Row")) := let ⟨_, a, b⟩ := C.ex_; He.glo_ok a b (C.c.fact 71 (f := .glo "Row") rfl)
theorem Ctx.mk_Row (C : Ctx K mg) : Mk K (He.ga K "Row") (He.ma K (He.ga K "Row") "__init__") := He.mkr_ok (C.c.fact 72 (f := .mkr "Row") rfl)
theorem Ctx.no_Row_letter (C : Ctx K mg) : NoAttr K (He.ga K "Row") "letter" := He.noat_ok (C.c.fact 73 (f := .noat "Row" "letter") rfl)
theorem Ctx.no_Row_tests (C : Ctx K mg) : NoAttr K (He.ga K "Row") "tests" := He.noat_ok (C.c.fact 74 (f := .noat "Row" "tests") rfl)
theorem Ctx.no_Row_deeds (C : Ctx K mg) : NoAttr K (He.ga K "Row") "deeds" := He.noat_ok (C.c.fact 75 (f := .noat "Row" "deeds") rfl)
theorem Ctx.cls_Page (C : Ctx K mg) : Cls K (He.ga K "Page") := He.cls_ok (C.c.fact 76 (f := .cls "Page") rfl)
theorem Ctx.g_Page (C : Ctx K mg) : mg "Page" = some (.ref (He.ga K "Page")) := let ⟨_, a, b⟩ := C.ex_; He.glo_ok a b (C.c.fact 77 (f := .glo "Page") rfl)
theorem Ctx.mk_Page (C : Ctx K mg) : Mk K (He.ga K "Page") (He.ma K (He.ga K "Page") "__init__") := He.mkr_ok (C.c.fact 78 (f := .mkr "Page") rfl)
theorem Ctx.no_Page_rows (C : Ctx K mg) : NoAttr K (He.ga K "Page") "rows" := He.noat_ok (C.c.fact 79 (f := .noat "Page" "rows") rfl)
theorem Ctx.g_holds (C : Ctx K mg) : mg "holds" = some (.ref (He.ga K "holds")) := let ⟨_, a, b⟩ := C.ex_; He.glo_ok a b (C.c.fact 80 (f := .glo "holds") rfl)
theorem Ctx.g_row_at (C : Ctx K mg) : mg "row_at" = some (.ref (He.ga K "row_at")) := let ⟨_, a, b⟩ := C.ex_; He.glo_ok a b (C.c.fact 81 (f := .glo "row_at") rfl)
theorem Ctx.g_shown_from (C : Ctx K mg) : mg "shown_from" = some (.ref (He.ga K "shown_from")) := let ⟨_, a, b⟩ := C.ex_; He.glo_ok a b (C.c.fact 82 (f := .glo "shown_from") rfl)
theorem Ctx.g_reached (C : Ctx K mg) : mg "reached" = some (.ref (He.ga K "reached")) := let ⟨_, a, b⟩ := C.ex_; He.glo_ok a b (C.c.fact 83 (f := .glo "reached") rfl)
theorem Ctx.g_is_name (C : Ctx K mg) : mg "is_name" = some (.ref (He.ga K "is_name")) := let ⟨_, a, b⟩ := C.ex_; He.glo_ok a b (C.c.fact 84 (f := .glo "is_name") rfl)
theorem Ctx.g_is_sequence (C : Ctx K mg) : mg "is_sequence" = some (.ref (He.ga K "is_sequence")) := let ⟨_, a, b⟩ := C.ex_; He.glo_ok a b (C.c.fact 85 (f := .glo "is_sequence") rfl)
theorem Ctx.g_are_names (C : Ctx K mg) : mg "are_names" = some (.ref (He.ga K "are_names")) := let ⟨_, a, b⟩ := C.ex_; He.glo_ok a b (C.c.fact 86 (f := .glo "are_names") rfl)
theorem Ctx.g_is_decimal (C : Ctx K mg) : mg "is_decimal" = some (.ref (He.ga K "is_decimal")) := let ⟨_, a, b⟩ := C.ex_; He.glo_ok a b (C.c.fact 87 (f := .glo "is_decimal") rfl)
theorem Ctx.g_event_in (C : Ctx K mg) : mg "event_in" = some (.ref (He.ga K "event_in")) := let ⟨_, a, b⟩ := C.ex_; He.glo_ok a b (C.c.fact 88 (f := .glo "event_in") rfl)
theorem Ctx.g_play (C : Ctx K mg) : mg "play" = some (.ref (He.ga K "play")) := let ⟨_, a, b⟩ := C.ex_; He.glo_ok a b (C.c.fact 89 (f := .glo "play") rfl)
theorem Ctx.g_is_targets (C : Ctx K mg) : mg "is_targets" = some (.ref (He.ga K "is_targets")) := let ⟨_, a, b⟩ := C.ex_; He.glo_ok a b (C.c.fact 90 (f := .glo "is_targets") rfl)
theorem Ctx.g_are_kinds (C : Ctx K mg) : mg "are_kinds" = some (.ref (He.ga K "are_kinds")) := let ⟨_, a, b⟩ := C.ex_; He.glo_ok a b (C.c.fact 91 (f := .glo "are_kinds") rfl)
theorem Ctx.g_are_some (C : Ctx K mg) : mg "are_some" = some (.ref (He.ga K "are_some")) := let ⟨_, a, b⟩ := C.ex_; He.glo_ok a b (C.c.fact 92 (f := .glo "are_some") rfl)
theorem Ctx.g_fits_letter (C : Ctx K mg) : mg "fits_letter" = some (.ref (He.ga K "fits_letter")) := let ⟨_, a, b⟩ := C.ex_; He.glo_ok a b (C.c.fact 93 (f := .glo "fits_letter") rfl)
theorem Ctx.g_is_test (C : Ctx K mg) : mg "is_test" = some (.ref (He.ga K "is_test")) := let ⟨_, a, b⟩ := C.ex_; He.glo_ok a b (C.c.fact 94 (f := .glo "is_test") rfl)
theorem Ctx.g_is_deed (C : Ctx K mg) : mg "is_deed" = some (.ref (He.ga K "is_deed")) := let ⟨_, a, b⟩ := C.ex_; He.glo_ok a b (C.c.fact 95 (f := .glo "is_deed") rfl)
theorem Ctx.g_l_deal (C : Ctx K mg) : mg "_law_deal" = some (.ref (He.ga K "_law_deal")) := let ⟨_, a, b⟩ := C.ex_; He.glo_ok a b (C.c.fact 96 (f := .glo "_law_deal") rfl)
theorem Ctx.g_l_draw (C : Ctx K mg) : mg "_law_draw" = some (.ref (He.ga K "_law_draw")) := let ⟨_, a, b⟩ := C.ex_; He.glo_ok a b (C.c.fact 97 (f := .glo "_law_draw") rfl)
theorem Ctx.g_l_mixed (C : Ctx K mg) : mg "_law_mixed" = some (.ref (He.ga K "_law_mixed")) := let ⟨_, a, b⟩ := C.ex_; He.glo_ok a b (C.c.fact 98 (f := .glo "_law_mixed") rfl)
theorem Ctx.g_l_words (C : Ctx K mg) : mg "_law_words" = some (.ref (He.ga K "_law_words")) := let ⟨_, a, b⟩ := C.ex_; He.glo_ok a b (C.c.fact 99 (f := .glo "_law_words") rfl)
theorem Ctx.g_l_book (C : Ctx K mg) : mg "_law_book" = some (.ref (He.ga K "_law_book")) := let ⟨_, a, b⟩ := C.ex_; He.glo_ok a b (C.c.fact 100 (f := .glo "_law_book") rfl)
theorem Ctx.g_l_row (C : Ctx K mg) : mg "_law_row" = some (.ref (He.ga K "_law_row")) := let ⟨_, a, b⟩ := C.ex_; He.glo_ok a b (C.c.fact 101 (f := .glo "_law_row") rfl)
theorem Ctx.g_l_after (C : Ctx K mg) : mg "_law_after" = some (.ref (He.ga K "_law_after")) := let ⟨_, a, b⟩ := C.ex_; He.glo_ok a b (C.c.fact 102 (f := .glo "_law_after") rfl)
theorem Ctx.g_l_shows (C : Ctx K mg) : mg "_law_shows" = some (.ref (He.ga K "_law_shows")) := let ⟨_, a, b⟩ := C.ex_; He.glo_ok a b (C.c.fact 103 (f := .glo "_law_shows") rfl)
theorem Ctx.g_l_is_so (C : Ctx K mg) : mg "_law_is_so" = some (.ref (He.ga K "_law_is_so")) := let ⟨_, a, b⟩ := C.ex_; He.glo_ok a b (C.c.fact 104 (f := .glo "_law_is_so") rfl)
theorem Ctx.g_l_deed (C : Ctx K mg) : mg "_law_deed" = some (.ref (He.ga K "_law_deed")) := let ⟨_, a, b⟩ := C.ex_; He.glo_ok a b (C.c.fact 105 (f := .glo "_law_deed") rfl)
theorem Ctx.g_l_hears (C : Ctx K mg) : mg "_law_hears" = some (.ref (He.ga K "_law_hears")) := let ⟨_, a, b⟩ := C.ex_; He.glo_ok a b (C.c.fact 106 (f := .glo "_law_hears") rfl)
theorem Ctx.g_l_begun (C : Ctx K mg) : mg "_law_begun" = some (.ref (He.ga K "_law_begun")) := let ⟨_, a, b⟩ := C.ex_; He.glo_ok a b (C.c.fact 107 (f := .glo "_law_begun") rfl)
theorem Ctx.g_l_happens (C : Ctx K mg) : mg "_law_happens" = some (.ref (He.ga K "_law_happens")) := let ⟨_, a, b⟩ := C.ex_; He.glo_ok a b (C.c.fact 108 (f := .glo "_law_happens") rfl)
theorem Ctx.g_l_next (C : Ctx K mg) : mg "_law_next" = some (.ref (He.ga K "_law_next")) := let ⟨_, a, b⟩ := C.ex_; He.glo_ok a b (C.c.fact 109 (f := .glo "_law_next") rfl)
theorem Ctx.g_l_world (C : Ctx K mg) : mg "_law_world" = some (.ref (He.ga K "_law_world")) := let ⟨_, a, b⟩ := C.ex_; He.glo_ok a b (C.c.fact 110 (f := .glo "_law_world") rfl)
theorem Ctx.g_l_page (C : Ctx K mg) : mg "_law_page" = some (.ref (He.ga K "_law_page")) := let ⟨_, a, b⟩ := C.ex_; He.glo_ok a b (C.c.fact 111 (f := .glo "_law_page") rfl)
theorem Ctx.g_l_led (C : Ctx K mg) : mg "_law_led" = some (.ref (He.ga K "_law_led")) := let ⟨_, a, b⟩ := C.ex_; He.glo_ok a b (C.c.fact 112 (f := .glo "_law_led") rfl)
theorem Ctx.g_l_numbers (C : Ctx K mg) : mg "_law_numbers" = some (.ref (He.ga K "_law_numbers")) := let ⟨_, a, b⟩ := C.ex_; He.glo_ok a b (C.c.fact 113 (f := .glo "_law_numbers") rfl)
theorem Ctx.g_law (C : Ctx K mg) : mg "law" = some (.ref (He.ga K "law")) := let ⟨_, a, b⟩ := C.ex_; He.glo_ok a b (C.c.fact 114 (f := .glo "law") rfl)
theorem Ctx.f_len (C : Ctx K mg) : mg "len" = none := let ⟨_, a, b⟩ := C.ex_; He.free_ok a b (C.c.fact 115 (f := .free "len") rfl)
theorem Ctx.f_all (C : Ctx K mg) : mg "all" = none := let ⟨_, a, b⟩ := C.ex_; He.free_ok a b (C.c.fact 116 (f := .free "all") rfl)
theorem Ctx.f_any (C : Ctx K mg) : mg "any" = none := let ⟨_, a, b⟩ := C.ex_; He.free_ok a b (C.c.fact 117 (f := .free "any") rfl)
theorem Ctx.f_isinstance (C : Ctx K mg) : mg "isinstance" = none := let ⟨_, a, b⟩ := C.ex_; He.free_ok a b (C.c.fact 118 (f := .free "isinstance") rfl)
theorem Ctx.f_tuple (C : Ctx K mg) : mg "tuple" = none := let ⟨_, a, b⟩ := C.ex_; He.free_ok a b (C.c.fact 119 (f := .free "tuple") rfl)
theorem Ctx.f_list (C : Ctx K mg) : mg "list" = none := let ⟨_, a, b⟩ := C.ex_; He.free_ok a b (C.c.fact 120 (f := .free "list") rfl)
theorem Ctx.f_range (C : Ctx K mg) : mg "range" = none := let ⟨_, a, b⟩ := C.ex_; He.free_ok a b (C.c.fact 121 (f := .free "range") rfl)
theorem Ctx.f_enumerate (C : Ctx K mg) : mg "enumerate" = none := let ⟨_, a, b⟩ := C.ex_; He.free_ok a b (C.c.fact 122 (f := .free "enumerate") rfl)
theorem Ctx.f_str (C : Ctx K mg) : mg "str" = none := let ⟨_, a, b⟩ := C.ex_; He.free_ok a b (C.c.fact 123 (f := .free "str") rfl)
theorem Ctx.f_int (C : Ctx K mg) : mg "int" = none := let ⟨_, a, b⟩ := C.ex_; He.free_ok a b (C.c.fact 124 (f := .free "int") rfl)
theorem Ctx.f_abs (C : Ctx K mg) : mg "abs" = none := let ⟨_, a, b⟩ := C.ex_; He.free_ok a b (C.c.fact 125 (f := .free "abs") rfl)
theorem Ctx.f_max (C : Ctx K mg) : mg "max" = none := let ⟨_, a, b⟩ := C.ex_; He.free_ok a b (C.c.fact 126 (f := .free "max") rfl)
theorem Ctx.f_dict (C : Ctx K mg) : mg "dict" = none := let ⟨_, a, b⟩ := C.ex_; He.free_ok a b (C.c.fact 127 (f := .free "dict") rfl)
theorem Ctx.f_zip (C : Ctx K mg) : mg "zip" = none := let ⟨_, a, b⟩ := C.ex_; He.free_ok a b (C.c.fact 128 (f := .free "zip") rfl)
theorem Ctx.f_sorted (C : Ctx K mg) : mg "sorted" = none := let ⟨_, a, b⟩ := C.ex_; He.free_ok a b (C.c.fact 129 (f := .free "sorted") rfl)
theorem Ctx.g_BARRED (C : Ctx K mg) : mg "BARRED" = some (.ref (He.ga K "BARRED")) := let ⟨_, a, b⟩ := C.ex_; He.glo_ok a b (C.c.fact 130 (f := .glo "BARRED") rfl)
theorem Ctx.g_MARKS (C : Ctx K mg) : mg "MARKS" = some (.ref (He.ga K "MARKS")) := let ⟨_, a, b⟩ := C.ex_; He.glo_ok a b (C.c.fact 131 (f := .glo "MARKS") rfl)
theorem Ctx.g_LETTERS (C : Ctx K mg) : mg "LETTERS" = some (.ref (He.ga K "LETTERS")) := let ⟨_, a, b⟩ := C.ex_; He.glo_ok a b (C.c.fact 132 (f := .glo "LETTERS") rfl)
theorem Ctx.g_TESTS (C : Ctx K mg) : mg "TESTS" = some (.ref (He.ga K "TESTS")) := let ⟨_, a, b⟩ := C.ex_; He.glo_ok a b (C.c.fact 133 (f := .glo "TESTS") rfl)
theorem Ctx.g_DEEDS (C : Ctx K mg) : mg "DEEDS" = some (.ref (He.ga K "DEEDS")) := let ⟨_, a, b⟩ := C.ex_; He.glo_ok a b (C.c.fact 134 (f := .glo "DEEDS") rfl)
theorem Ctx.g_OF_ANSWERS (C : Ctx K mg) : mg "OF_ANSWERS" = some (.ref (He.ga K "OF_ANSWERS")) := let ⟨_, a, b⟩ := C.ex_; He.glo_ok a b (C.c.fact 135 (f := .glo "OF_ANSWERS") rfl)
theorem Ctx.s_SMALL (C : Ctx K mg) : ∃ t, mg "SMALL" = some (.str "abcdefghijklmnopqrstuvwxyz" t) := let ⟨_, a, b⟩ := C.ex_; He.str_ok a b (C.c.fact 136 (f := .str "SMALL" "abcdefghijklmnopqrstuvwxyz") rfl)
theorem dvS_v (K : PySem.W.Frag) (l : List Str) : (dvS l).map (He.Dv.v K) = l.map V.str := by unfold dvS; rw [List.map_map]; rfl
theorem Ctx.t_BARRED (C : Ctx K mg) (H : L2.Hp) : SqT K H (He.ga K "BARRED") (tv_BARRED.map V.str) := by have q := He.tupB_ok ((He.ba (He.ba C.t).1).1) H; rw [dvS_v] at q; exact q
theorem Ctx.t_MARKS (C : Ctx K mg) (H : L2.Hp) : SqT K H (He.ga K "MARKS") (tv_MARKS.map V.str) := by have q := He.tupB_ok ((He.ba (He.ba (He.ba C.t).1).2).1) H; rw [dvS_v] at q; exact q
theorem Ctx.t_LETTERS (C : Ctx K mg) (H : L2.Hp) : SqT K H (He.ga K "LETTERS") (tv_LETTERS.map V.str) := by have q := He.tupB_ok ((He.ba (He.ba (He.ba (He.ba C.t).1).2).2).1) H; rw [dvS_v] at q; exact q
theorem Ctx.t_TESTS (C : Ctx K mg) (H : L2.Hp) : SqT K H (He.ga K "TESTS") (tv_TESTS.map V.str) := by have q := He.tupB_ok ((He.ba (He.ba (He.ba (He.ba (He.ba C.t).1).2).2).2).1) H; rw [dvS_v] at q; exact q
theorem Ctx.t_DEEDS (C : Ctx K mg) (H : L2.Hp) : SqT K H (He.ga K "DEEDS") (tv_DEEDS.map V.str) := by have q := He.tupB_ok ((He.ba (He.ba (He.ba (He.ba (He.ba (He.ba C.t).1).2).2).2).2).1) H; rw [dvS_v] at q; exact q
theorem Ctx.t_OF_ANSWERS (C : Ctx K mg) (H : L2.Hp) : SqT K H (He.ga K "OF_ANSWERS") (tv_OF_ANSWERS.map V.str) := by have q := He.tupB_ok ((He.ba (He.ba (He.ba (He.ba (He.ba (He.ba C.t).1).2).2).2).2).2) H; rw [dvS_v] at q; exact q
theorem Ctx.ins_Row (C : Ctx K mg) : C8.InsC K (He.ga K "Row") := insB_ok C.cls_Row (He.ba C.t).2
/-- a def of the text keeps a promise -/
structure Has (P : Program) (w : World) (K : PySem.W.Frag) (mg : Str → Option Value) (base : Heap) (k : Nat) (f : Addr) (ps : List Str) (sp : Sp) (fd : FuncData) : Prop where
  ok : FnOk P w K mg base CX0 k f fd ps sp
  b : Binds K fd ps []
  kp : PySem.W.keepIn K (.ref f) = true
theorem Ctx.fn_holds (C : Ctx K mg) : ∃ fd, FunD K "holds" "holds" (defArgs s_holds) (defBody s_holds) (defScope s_holds) [] [] (He.fAd K ("holds", none)) fd ∧ Binds K fd ["test", "truths"] [] := by
  obtain ⟨fd, F⟩ := C.c.def_ 0 (d := d_holds) rfl
  exact ⟨fd, F, FunD.bindsN F fun _ _ _ _ _ _ us hl => match us, hl with | [_, _], _ => rfl⟩
theorem Ctx.fn_row_at (C : Ctx K mg) : ∃ fd, FunD K "row_at" "row_at" (defArgs s_row_at) (defBody s_row_at) (defScope s_row_at) [] [] (He.fAd K ("row_at", none)) fd ∧ Binds K fd ["page", "letter", "truths"] [] := by
  obtain ⟨fd, F⟩ := C.c.def_ 1 (d := d_row_at) rfl
  exact ⟨fd, F, FunD.bindsN F fun _ _ _ _ _ _ us hl => match us, hl with | [_, _, _], _ => rfl⟩
theorem Ctx.fn_shown_from (C : Ctx K mg) : ∃ fd, FunD K "shown_from" "shown_from" (defArgs s_shown_from) (defBody s_shown_from) (defScope s_shown_from) [] [] (He.fAd K ("shown_from", none)) fd ∧ Binds K fd ["book", "base", "kinds"] [] := by
  obtain ⟨fd, F⟩ := C.c.def_ 2 (d := d_shown_from) rfl
  exact ⟨fd, F, FunD.bindsN F fun _ _ _ _ _ _ us hl => match us, hl with | [_, _, _], _ => rfl⟩
theorem Ctx.fn_reached (C : Ctx K mg) : ∃ fd, FunD K "reached" "reached" (defArgs s_reached) (defBody s_reached) (defScope s_reached) [] [] (He.fAd K ("reached", none)) fd ∧ Binds K fd ["reach", "number"] [] := by
  obtain ⟨fd, F⟩ := C.c.def_ 3 (d := d_reached) rfl
  exact ⟨fd, F, FunD.bindsN F fun _ _ _ _ _ _ us hl => match us, hl with | [_, _], _ => rfl⟩
theorem Ctx.fn_sheet_init (C : Ctx K mg) : ∃ fd, FunD K "__init__" "Sheet.__init__" (defArgs s_sheet_init) (defBody s_sheet_init) (defScope s_sheet_init) [] [] (He.fAd K ("Sheet", some "__init__")) fd ∧ Binds K fd ["self", "book", "page"] [] := by
  obtain ⟨fd, F⟩ := C.c.def_ 4 (d := d_sheet_init) rfl
  exact ⟨fd, F, FunD.bindsN F fun _ _ _ _ _ _ us hl => match us, hl with | [_, _, _], _ => rfl⟩
theorem Ctx.fn_sheet_click (C : Ctx K mg) : ∃ fd, FunD K "click" "Sheet.click" (defArgs s_sheet_click) (defBody s_sheet_click) (defScope s_sheet_click) [] [] (He.fAd K ("Sheet", some "click")) fd ∧ Binds K fd ["self", "kind"] [] := by
  obtain ⟨fd, F⟩ := C.c.def_ 5 (d := d_sheet_click) rfl
  exact ⟨fd, F, FunD.bindsN F fun _ _ _ _ _ _ us hl => match us, hl with | [_, _], _ => rfl⟩
theorem Ctx.fn_sheet_view (C : Ctx K mg) : ∃ fd, FunD K "view" "Sheet.view" (defArgs s_sheet_view) (defBody s_sheet_view) (defScope s_sheet_view) [] [] (He.fAd K ("Sheet", some "view")) fd ∧ Binds K fd ["self"] [] := by
  obtain ⟨fd, F⟩ := C.c.def_ 6 (d := d_sheet_view) rfl
  exact ⟨fd, F, FunD.bindsN F fun _ _ _ _ _ _ us hl => match us, hl with | [_], _ => rfl⟩
theorem Ctx.fn_sheet_truths (C : Ctx K mg) : ∃ fd, FunD K "truths" "Sheet.truths" (defArgs s_sheet_truths) (defBody s_sheet_truths) (defScope s_sheet_truths) [] [] (He.fAd K ("Sheet", some "truths")) fd ∧ Binds K fd ["self", "number", "value", "reach"] [] := by
  obtain ⟨fd, F⟩ := C.c.def_ 7 (d := d_sheet_truths) rfl
  exact ⟨fd, F, FunD.bindsN F fun _ _ _ _ _ _ us hl => match us, hl with | [_, _, _, _], _ => rfl⟩
theorem Ctx.fn_sheet_hear (C : Ctx K mg) : ∃ fd, FunD K "hear" "Sheet.hear" (defArgs s_sheet_hear) (defBody s_sheet_hear) (defScope s_sheet_hear) [] [] (He.fAd K ("Sheet", some "hear")) fd ∧ Binds K fd ["self", "word", "number", "value", "reach", "contents"] [] := by
  obtain ⟨fd, F⟩ := C.c.def_ 8 (d := d_sheet_hear) rfl
  exact ⟨fd, F, FunD.bindsN F fun _ _ _ _ _ _ us hl => match us, hl with | [_, _, _, _, _, _], _ => rfl⟩
theorem Ctx.fn_sheet_act (C : Ctx K mg) : ∃ fd, FunD K "act" "Sheet.act" (defArgs s_sheet_act) (defBody s_sheet_act) (defScope s_sheet_act) [] [] (He.fAd K ("Sheet", some "act")) fd ∧ Binds K fd ["self", "deed", "number", "value", "reach", "contents"] [] := by
  obtain ⟨fd, F⟩ := C.c.def_ 9 (d := d_sheet_act) rfl
  exact ⟨fd, F, FunD.bindsN F fun _ _ _ _ _ _ us hl => match us, hl with | [_, _, _, _, _, _], _ => rfl⟩
theorem Ctx.fn_sheet_inner (C : Ctx K mg) : ∃ fd, FunD K "inner" "Sheet.inner" (defArgs s_sheet_inner) (defBody s_sheet_inner) (defScope s_sheet_inner) [] [] (He.fAd K ("Sheet", some "inner")) fd ∧ Binds K fd ["self"] [] := by
  obtain ⟨fd, F⟩ := C.c.def_ 10 (d := d_sheet_inner) rfl
  exact ⟨fd, F, FunD.bindsN F fun _ _ _ _ _ _ us hl => match us, hl with | [_], _ => rfl⟩
theorem Ctx.fn_is_name (C : Ctx K mg) : ∃ fd, FunD K "is_name" "is_name" (defArgs s_is_name) (defBody s_is_name) (defScope s_is_name) [] [] (He.fAd K ("is_name", none)) fd ∧ Binds K fd ["value"] [] := by
  obtain ⟨fd, F⟩ := C.c.def_ 11 (d := d_is_name) rfl
  exact ⟨fd, F, FunD.bindsN F fun _ _ _ _ _ _ us hl => match us, hl with | [_], _ => rfl⟩
theorem Ctx.fn_is_sequence (C : Ctx K mg) : ∃ fd, FunD K "is_sequence" "is_sequence" (defArgs s_is_sequence) (defBody s_is_sequence) (defScope s_is_sequence) [] [] (He.fAd K ("is_sequence", none)) fd ∧ Binds K fd ["value"] [] := by
  obtain ⟨fd, F⟩ := C.c.def_ 12 (d := d_is_sequence) rfl
  exact ⟨fd, F, FunD.bindsN F fun _ _ _ _ _ _ us hl => match us, hl with | [_], _ => rfl⟩
theorem Ctx.fn_are_names (C : Ctx K mg) : ∃ fd, FunD K "are_names" "are_names" (defArgs s_are_names) (defBody s_are_names) (defScope s_are_names) [] [] (He.fAd K ("are_names", none)) fd ∧ Binds K fd ["value"] [] := by
  obtain ⟨fd, F⟩ := C.c.def_ 13 (d := d_are_names) rfl
  exact ⟨fd, F, FunD.bindsN F fun _ _ _ _ _ _ us hl => match us, hl with | [_], _ => rfl⟩
theorem Ctx.fn_is_decimal (C : Ctx K mg) : ∃ fd, FunD K "is_decimal" "is_decimal" (defArgs s_is_decimal) (defBody s_is_decimal) (defScope s_is_decimal) [] [] (He.fAd K ("is_decimal", none)) fd ∧ Binds K fd ["text"] [] := by
  obtain ⟨fd, F⟩ := C.c.def_ 14 (d := d_is_decimal) rfl
  exact ⟨fd, F, FunD.bindsN F fun _ _ _ _ _ _ us hl => match us, hl with | [_], _ => rfl⟩
theorem Ctx.fn_event_in (C : Ctx K mg) : ∃ fd, FunD K "event_in" "event_in" (defArgs s_event_in) (defBody s_event_in) (defScope s_event_in) [] [] (He.fAd K ("event_in", none)) fd ∧ Binds K fd ["text"] [] := by
  obtain ⟨fd, F⟩ := C.c.def_ 15 (d := d_event_in) rfl
  exact ⟨fd, F, FunD.bindsN F fun _ _ _ _ _ _ us hl => match us, hl with | [_], _ => rfl⟩
theorem Ctx.fn_weaving_init (C : Ctx K mg) : ∃ fd, FunD K "__init__" "Weaving.__init__" (defArgs s_weaving_init) (defBody s_weaving_init) (defScope s_weaving_init) (d_weaving_init.dvs K) [] (He.fAd K ("Weaving", some "__init__")) fd := C.c.def_ 16 (d := d_weaving_init) rfl
theorem Ctx.bi_weaving_init (C : Ctx K mg) : ∃ fd, FunD K "__init__" "Weaving.__init__" (defArgs s_weaving_init) (defBody s_weaving_init) (defScope s_weaving_init) (d_weaving_init.dvs K) [] (He.fAd K ("Weaving", some "__init__")) fd ∧ Binds K fd ["self", "events"] [] := by
  obtain ⟨fd, F⟩ := C.c.def_ 16 (d := d_weaving_init) rfl
  obtain ⟨ds, h1, h2⟩ := FunD.binds1 (ps := ["self", "events"]) F 2 1 (by simp [d_weaving_init, He.DefD.dvs]) rfl fun _ _ _ _ _ _ _ us its hl hi => match us, its, hl, hi with | [_, _], [_], _, _ => ⟨_, rfl, rfl⟩
  cases ds with
  | nil => exact ⟨fd, F, h2⟩
  | cons a b => cases h1
theorem Ctx.fn_course_init (C : Ctx K mg) : ∃ fd, FunD K "__init__" "Course.__init__" (defArgs s_course_init) (defBody s_course_init) (defScope s_course_init) [] [] (He.fAd K ("Course", some "__init__")) fd ∧ Binds K fd ["self", "book", "page", "marks"] [] := by
  obtain ⟨fd, F⟩ := C.c.def_ 17 (d := d_course_init) rfl
  exact ⟨fd, F, FunD.bindsN F fun _ _ _ _ _ _ us hl => match us, hl with | [_, _, _, _], _ => rfl⟩
theorem Ctx.fn_course_accepted_now (C : Ctx K mg) : ∃ fd, FunD K "accepted_now" "Course.accepted_now" (defArgs s_course_accepted_now) (defBody s_course_accepted_now) (defScope s_course_accepted_now) [] [] (He.fAd K ("Course", some "accepted_now")) fd ∧ Binds K fd ["self"] [] := by
  obtain ⟨fd, F⟩ := C.c.def_ 18 (d := d_course_accepted_now) rfl
  exact ⟨fd, F, FunD.bindsN F fun _ _ _ _ _ _ us hl => match us, hl with | [_], _ => rfl⟩
theorem Ctx.fn_course_refused_now (C : Ctx K mg) : ∃ fd, FunD K "refused_now" "Course.refused_now" (defArgs s_course_refused_now) (defBody s_course_refused_now) (defScope s_course_refused_now) [] [] (He.fAd K ("Course", some "refused_now")) fd ∧ Binds K fd ["self"] [] := by
  obtain ⟨fd, F⟩ := C.c.def_ 19 (d := d_course_refused_now) rfl
  exact ⟨fd, F, FunD.bindsN F fun _ _ _ _ _ _ us hl => match us, hl with | [_], _ => rfl⟩
theorem Ctx.fn_course_go (C : Ctx K mg) : ∃ fd, FunD K "go" "Course.go" (defArgs s_course_go) (defBody s_course_go) (defScope s_course_go) [] [] (He.fAd K ("Course", some "go")) fd ∧ Binds K fd ["self", "event"] [] := by
  obtain ⟨fd, F⟩ := C.c.def_ 20 (d := d_course_go) rfl
  exact ⟨fd, F, FunD.bindsN F fun _ _ _ _ _ _ us hl => match us, hl with | [_, _], _ => rfl⟩
theorem Ctx.fn_course_is_possible (C : Ctx K mg) : ∃ fd, FunD K "is_possible" "Course.is_possible" (defArgs s_course_is_possible) (defBody s_course_is_possible) (defScope s_course_is_possible) [] [] (He.fAd K ("Course", some "is_possible")) fd ∧ Binds K fd ["self", "word", "thing"] [] := by
  obtain ⟨fd, F⟩ := C.c.def_ 21 (d := d_course_is_possible) rfl
  exact ⟨fd, F, FunD.bindsN F fun _ _ _ _ _ _ us hl => match us, hl with | [_, _, _], _ => rfl⟩
theorem Ctx.fn_course_happen (C : Ctx K mg) : ∃ fd, FunD K "happen" "Course.happen" (defArgs s_course_happen) (defBody s_course_happen) (defScope s_course_happen) [] [] (He.fAd K ("Course", some "happen")) fd ∧ Binds K fd ["self", "word", "thing"] [] := by
  obtain ⟨fd, F⟩ := C.c.def_ 22 (d := d_course_happen) rfl
  exact ⟨fd, F, FunD.bindsN F fun _ _ _ _ _ _ us hl => match us, hl with | [_, _, _], _ => rfl⟩
theorem Ctx.fn_course_decide (C : Ctx K mg) : ∃ fd, FunD K "decide" "Course.decide" (defArgs s_course_decide) (defBody s_course_decide) (defScope s_course_decide) [] [] (He.fAd K ("Course", some "decide")) fd ∧ Binds K fd ["self", "later"] [] := by
  obtain ⟨fd, F⟩ := C.c.def_ 23 (d := d_course_decide) rfl
  exact ⟨fd, F, FunD.bindsN F fun _ _ _ _ _ _ us hl => match us, hl with | [_, _], _ => rfl⟩
theorem Ctx.fn_course_answer (C : Ctx K mg) : ∃ fd, FunD K "answer" "Course.answer" (defArgs s_course_answer) (defBody s_course_answer) (defScope s_course_answer) [] [] (He.fAd K ("Course", some "answer")) fd ∧ Binds K fd ["self", "number"] [] := by
  obtain ⟨fd, F⟩ := C.c.def_ 24 (d := d_course_answer) rfl
  exact ⟨fd, F, FunD.bindsN F fun _ _ _ _ _ _ us hl => match us, hl with | [_, _], _ => rfl⟩
theorem Ctx.fn_course_bring (C : Ctx K mg) : ∃ fd, FunD K "bring" "Course.bring" (defArgs s_course_bring) (defBody s_course_bring) (defScope s_course_bring) [] [] (He.fAd K ("Course", some "bring")) fd ∧ Binds K fd ["self", "moment"] [] := by
  obtain ⟨fd, F⟩ := C.c.def_ 25 (d := d_course_bring) rfl
  exact ⟨fd, F, FunD.bindsN F fun _ _ _ _ _ _ us hl => match us, hl with | [_, _], _ => rfl⟩
theorem Ctx.fn_course_note_flickers (C : Ctx K mg) : ∃ fd, FunD K "note_flickers" "Course.note_flickers" (defArgs s_course_note_flickers) (defBody s_course_note_flickers) (defScope s_course_note_flickers) [] [] (He.fAd K ("Course", some "note_flickers")) fd ∧ Binds K fd ["self", "ahead"] [] := by
  obtain ⟨fd, F⟩ := C.c.def_ 26 (d := d_course_note_flickers) rfl
  exact ⟨fd, F, FunD.bindsN F fun _ _ _ _ _ _ us hl => match us, hl with | [_, _], _ => rfl⟩
theorem Ctx.fn_course_note_goals (C : Ctx K mg) : ∃ fd, FunD K "note_goals" "Course.note_goals" (defArgs s_course_note_goals) (defBody s_course_note_goals) (defScope s_course_note_goals) [] [] (He.fAd K ("Course", some "note_goals")) fd ∧ Binds K fd ["self"] [] := by
  obtain ⟨fd, F⟩ := C.c.def_ 27 (d := d_course_note_goals) rfl
  exact ⟨fd, F, FunD.bindsN F fun _ _ _ _ _ _ us hl => match us, hl with | [_], _ => rfl⟩
theorem Ctx.fn_played_init (C : Ctx K mg) : ∃ fd, FunD K "__init__" "Played.__init__" (defArgs s_played_init) (defBody s_played_init) (defScope s_played_init) [] [] (He.fAd K ("Played", some "__init__")) fd ∧ Binds K fd ["self", "course"] [] := by
  obtain ⟨fd, F⟩ := C.c.def_ 28 (d := d_played_init) rfl
  exact ⟨fd, F, FunD.bindsN F fun _ _ _ _ _ _ us hl => match us, hl with | [_, _], _ => rfl⟩
theorem Ctx.fn_play (C : Ctx K mg) : ∃ fd, FunD K "play" "play" (defArgs s_play) (defBody s_play) (defScope s_play) (d_play.dvs K) [] (He.fAd K ("play", none)) fd := C.c.def_ 29 (d := d_play) rfl
theorem Ctx.bi_play (C : Ctx K mg) : ∃ fd, FunD K "play" "play" (defArgs s_play) (defBody s_play) (defScope s_play) (d_play.dvs K) [] (He.fAd K ("play", none)) fd ∧ Binds K fd ["book", "page", "weaving", "marks"] [] := by
  obtain ⟨fd, F⟩ := C.c.def_ 29 (d := d_play) rfl
  obtain ⟨ds, h1, h2⟩ := FunD.binds1 (ps := ["book", "page", "weaving", "marks"]) F 4 1 (by simp [d_play, He.DefD.dvs]) rfl fun _ _ _ _ _ _ _ us its hl hi => match us, its, hl, hi with | [_, _, _, _], [_], _, _ => ⟨_, rfl, rfl⟩
  cases ds with
  | nil => exact ⟨fd, F, h2⟩
  | cons a b => cases h1
theorem Ctx.fn_is_targets (C : Ctx K mg) : ∃ fd, FunD K "is_targets" "is_targets" (defArgs s_is_targets) (defBody s_is_targets) (defScope s_is_targets) [] [] (He.fAd K ("is_targets", none)) fd ∧ Binds K fd ["value", "values"] [] := by
  obtain ⟨fd, F⟩ := C.c.def_ 30 (d := d_is_targets) rfl
  exact ⟨fd, F, FunD.bindsN F fun _ _ _ _ _ _ us hl => match us, hl with | [_, _], _ => rfl⟩
theorem Ctx.fn_are_kinds (C : Ctx K mg) : ∃ fd, FunD K "are_kinds" "are_kinds" (defArgs s_are_kinds) (defBody s_are_kinds) (defScope s_are_kinds) [] [] (He.fAd K ("are_kinds", none)) fd ∧ Binds K fd ["value", "values"] [] := by
  obtain ⟨fd, F⟩ := C.c.def_ 31 (d := d_are_kinds) rfl
  exact ⟨fd, F, FunD.bindsN F fun _ _ _ _ _ _ us hl => match us, hl with | [_, _], _ => rfl⟩
theorem Ctx.fn_are_some (C : Ctx K mg) : ∃ fd, FunD K "are_some" "are_some" (defArgs s_are_some) (defBody s_are_some) (defScope s_are_some) [] [] (He.fAd K ("are_some", none)) fd ∧ Binds K fd ["value", "names"] [] := by
  obtain ⟨fd, F⟩ := C.c.def_ 32 (d := d_are_some) rfl
  exact ⟨fd, F, FunD.bindsN F fun _ _ _ _ _ _ us hl => match us, hl with | [_, _], _ => rfl⟩
theorem Ctx.fn_book_init (C : Ctx K mg) : ∃ fd, FunD K "__init__" "Book.__init__" (defArgs s_book_init) (defBody s_book_init) (defScope s_book_init) (d_book_init.dvs K) [] (He.fAd K ("Book", some "__init__")) fd := C.c.def_ 33 (d := d_book_init) rfl
theorem Ctx.bi_book_init (C : Ctx K mg) : ∃ fd, FunD K "__init__" "Book.__init__" (defArgs s_book_init) (defBody s_book_init) (defScope s_book_init) (d_book_init.dvs K) [] (He.fAd K ("Book", some "__init__")) fd ∧ Binds K fd ["self", "choices", "kinds", "loose", "others"] [] := by
  obtain ⟨fd, F⟩ := C.c.def_ 33 (d := d_book_init) rfl
  obtain ⟨ds, h1, h2⟩ := FunD.binds1 (ps := ["self", "choices", "kinds", "loose", "others"]) F 5 2 (by simp [d_book_init, He.DefD.dvs]) rfl fun _ _ _ _ _ _ _ us its hl hi => match us, its, hl, hi with | [_, _, _, _, _], [_, _], _, _ => ⟨_, rfl, rfl⟩
  cases ds with
  | nil => exact ⟨fd, F, h2⟩
  | cons a b => cases h1
theorem Ctx.fn_book_need_kind (C : Ctx K mg) : ∃ fd, FunD K "need_kind" "Book.need_kind" (defArgs s_book_need_kind) (defBody s_book_need_kind) (defScope s_book_need_kind) [] [] (He.fAd K ("Book", some "need_kind")) fd ∧ Binds K fd ["self", "kind"] [] := by
  obtain ⟨fd, F⟩ := C.c.def_ 34 (d := d_book_need_kind) rfl
  exact ⟨fd, F, FunD.bindsN F fun _ _ _ _ _ _ us hl => match us, hl with | [_, _], _ => rfl⟩
theorem Ctx.fn_book_target (C : Ctx K mg) : ∃ fd, FunD K "target" "Book.target" (defArgs s_book_target) (defBody s_book_target) (defScope s_book_target) [] [] (He.fAd K ("Book", some "target")) fd ∧ Binds K fd ["self", "kind", "value"] [] := by
  obtain ⟨fd, F⟩ := C.c.def_ 35 (d := d_book_target) rfl
  exact ⟨fd, F, FunD.bindsN F fun _ _ _ _ _ _ us hl => match us, hl with | [_, _, _], _ => rfl⟩
theorem Ctx.fn_fits_letter (C : Ctx K mg) : ∃ fd, FunD K "fits_letter" "fits_letter" (defArgs s_fits_letter) (defBody s_fits_letter) (defScope s_fits_letter) [] [] (He.fAd K ("fits_letter", none)) fd ∧ Binds K fd ["word", "letter"] [] := by
  obtain ⟨fd, F⟩ := C.c.def_ 36 (d := d_fits_letter) rfl
  exact ⟨fd, F, FunD.bindsN F fun _ _ _ _ _ _ us hl => match us, hl with | [_, _], _ => rfl⟩
theorem Ctx.fn_is_test (C : Ctx K mg) : ∃ fd, FunD K "is_test" "is_test" (defArgs s_is_test) (defBody s_is_test) (defScope s_is_test) [] [] (He.fAd K ("is_test", none)) fd ∧ Binds K fd ["value", "letter"] [] := by
  obtain ⟨fd, F⟩ := C.c.def_ 37 (d := d_is_test) rfl
  exact ⟨fd, F, FunD.bindsN F fun _ _ _ _ _ _ us hl => match us, hl with | [_, _], _ => rfl⟩
theorem Ctx.fn_is_deed (C : Ctx K mg) : ∃ fd, FunD K "is_deed" "is_deed" (defArgs s_is_deed) (defBody s_is_deed) (defScope s_is_deed) [] [] (He.fAd K ("is_deed", none)) fd ∧ Binds K fd ["value", "letter"] [] := by
  obtain ⟨fd, F⟩ := C.c.def_ 38 (d := d_is_deed) rfl
  exact ⟨fd, F, FunD.bindsN F fun _ _ _ _ _ _ us hl => match us, hl with | [_, _], _ => rfl⟩
theorem Ctx.fn_row_init (C : Ctx K mg) : ∃ fd, FunD K "__init__" "Row.__init__" (defArgs s_row_init) (defBody s_row_init) (defScope s_row_init) (d_row_init.dvs K) [] (He.fAd K ("Row", some "__init__")) fd := C.c.def_ 39 (d := d_row_init) rfl
theorem Ctx.bi_row_init (C : Ctx K mg) : ∃ fd, FunD K "__init__" "Row.__init__" (defArgs s_row_init) (defBody s_row_init) (defScope s_row_init) (d_row_init.dvs K) [] (He.fAd K ("Row", some "__init__")) fd ∧ Binds K fd ["self", "letter", "tests", "deeds"] [] := by
  obtain ⟨fd, F⟩ := C.c.def_ 39 (d := d_row_init) rfl
  obtain ⟨ds, h1, h2⟩ := FunD.binds1 (ps := ["self", "letter", "tests", "deeds"]) F 4 2 (by simp [d_row_init, He.DefD.dvs]) rfl fun _ _ _ _ _ _ _ us its hl hi => match us, its, hl, hi with | [_, _, _, _], [_, _], _, _ => ⟨_, rfl, rfl⟩
  cases ds with
  | nil => exact ⟨fd, F, h2⟩
  | cons a b => cases h1
theorem Ctx.fn_page_init (C : Ctx K mg) : ∃ fd, FunD K "__init__" "Page.__init__" (defArgs s_page_init) (defBody s_page_init) (defScope s_page_init) (d_page_init.dvs K) [] (He.fAd K ("Page", some "__init__")) fd := C.c.def_ 40 (d := d_page_init) rfl
theorem Ctx.bi_page_init (C : Ctx K mg) : ∃ fd, FunD K "__init__" "Page.__init__" (defArgs s_page_init) (defBody s_page_init) (defScope s_page_init) (d_page_init.dvs K) [] (He.fAd K ("Page", some "__init__")) fd ∧ Binds K fd ["self", "rows"] [] := by
  obtain ⟨fd, F⟩ := C.c.def_ 40 (d := d_page_init) rfl
  obtain ⟨ds, h1, h2⟩ := FunD.binds1 (ps := ["self", "rows"]) F 2 1 (by simp [d_page_init, He.DefD.dvs]) rfl fun _ _ _ _ _ _ _ us its hl hi => match us, its, hl, hi with | [_, _], [_], _, _ => ⟨_, rfl, rfl⟩
  cases ds with
  | nil => exact ⟨fd, F, h2⟩
  | cons a b => cases h1
theorem Ctx.fn_l_deal (C : Ctx K mg) : ∃ fd, FunD K "_law_deal" "_law_deal" (defArgs s_l_deal) (defBody s_l_deal) (defScope s_l_deal) [] [] (He.fAd K ("_law_deal", none)) fd ∧ Binds K fd ["_law_script", "_law_base"] [] := by
  obtain ⟨fd, F⟩ := C.c.def_ 41 (d := d_l_deal) rfl
  exact ⟨fd, F, FunD.bindsN F fun _ _ _ _ _ _ us hl => match us, hl with | [_, _], _ => rfl⟩
theorem Ctx.fn_l_draw (C : Ctx K mg) : ∃ fd, FunD K "_law_draw" "_law_draw" (defArgs s_l_draw) (defBody s_l_draw) (defScope s_l_draw) [] [] (He.fAd K ("_law_draw", none)) fd ∧ Binds K fd ["_law_deal_here", "_law_amount"] [] := by
  obtain ⟨fd, F⟩ := C.c.def_ 42 (d := d_l_draw) rfl
  exact ⟨fd, F, FunD.bindsN F fun _ _ _ _ _ _ us hl => match us, hl with | [_, _], _ => rfl⟩
theorem Ctx.fn_l_mixed (C : Ctx K mg) : ∃ fd, FunD K "_law_mixed" "_law_mixed" (defArgs s_l_mixed) (defBody s_l_mixed) (defScope s_l_mixed) [] [] (He.fAd K ("_law_mixed", none)) fd ∧ Binds K fd ["_law_deal_here", "_law_some"] [] := by
  obtain ⟨fd, F⟩ := C.c.def_ 43 (d := d_l_mixed) rfl
  exact ⟨fd, F, FunD.bindsN F fun _ _ _ _ _ _ us hl => match us, hl with | [_, _], _ => rfl⟩
theorem Ctx.fn_l_words (C : Ctx K mg) : ∃ fd, FunD K "_law_words" "_law_words" (defArgs s_l_words) (defBody s_l_words) (defScope s_l_words) [] [] (He.fAd K ("_law_words", none)) fd ∧ Binds K fd ["_law_deal_here", "_law_many"] [] := by
  obtain ⟨fd, F⟩ := C.c.def_ 44 (d := d_l_words) rfl
  exact ⟨fd, F, FunD.bindsN F fun _ _ _ _ _ _ us hl => match us, hl with | [_, _], _ => rfl⟩
theorem Ctx.fn_l_book (C : Ctx K mg) : ∃ fd, FunD K "_law_book" "_law_book" (defArgs s_l_book) (defBody s_l_book) (defScope s_l_book) [] [] (He.fAd K ("_law_book", none)) fd ∧ Binds K fd ["_law_deal_here", "_law_most"] [] := by
  obtain ⟨fd, F⟩ := C.c.def_ 45 (d := d_l_book) rfl
  exact ⟨fd, F, FunD.bindsN F fun _ _ _ _ _ _ us hl => match us, hl with | [_, _], _ => rfl⟩
theorem Ctx.fn_l_row (C : Ctx K mg) : ∃ fd, FunD K "_law_row" "_law_row" (defArgs s_l_row) (defBody s_l_row) (defScope s_l_row) [] [] (He.fAd K ("_law_row", none)) fd ∧ Binds K fd ["_law_deal_here"] [] := by
  obtain ⟨fd, F⟩ := C.c.def_ 46 (d := d_l_row) rfl
  exact ⟨fd, F, FunD.bindsN F fun _ _ _ _ _ _ us hl => match us, hl with | [_], _ => rfl⟩
theorem Ctx.fn_l_after (C : Ctx K mg) : ∃ fd, FunD K "_law_after" "_law_after" (defArgs s_l_after) (defBody s_l_after) (defScope s_l_after) [] [] (He.fAd K ("_law_after", none)) fd ∧ Binds K fd ["_law_book_here", "_law_kind", "_law_value"] [] := by
  obtain ⟨fd, F⟩ := C.c.def_ 47 (d := d_l_after) rfl
  exact ⟨fd, F, FunD.bindsN F fun _ _ _ _ _ _ us hl => match us, hl with | [_, _, _], _ => rfl⟩
theorem Ctx.fn_l_shows (C : Ctx K mg) : ∃ fd, FunD K "_law_shows" "_law_shows" (defArgs s_l_shows) (defBody s_l_shows) (defScope s_l_shows) [] [] (He.fAd K ("_law_shows", none)) fd ∧ Binds K fd ["_law_book_here", "_law_page_here"] [] := by
  obtain ⟨fd, F⟩ := C.c.def_ 48 (d := d_l_shows) rfl
  exact ⟨fd, F, FunD.bindsN F fun _ _ _ _ _ _ us hl => match us, hl with | [_, _], _ => rfl⟩
theorem Ctx.fn_l_is_so (C : Ctx K mg) : ∃ fd, FunD K "_law_is_so" "_law_is_so" (defArgs s_l_is_so) (defBody s_l_is_so) (defScope s_l_is_so) [] [] (He.fAd K ("_law_is_so", none)) fd ∧ Binds K fd ["_law_test", "_law_letter", "_law_page_here"] [] := by
  obtain ⟨fd, F⟩ := C.c.def_ 49 (d := d_l_is_so) rfl
  exact ⟨fd, F, FunD.bindsN F fun _ _ _ _ _ _ us hl => match us, hl with | [_, _, _], _ => rfl⟩
theorem Ctx.fn_l_deed (C : Ctx K mg) : ∃ fd, FunD K "_law_deed" "_law_deed" (defArgs s_l_deed) (defBody s_l_deed) (defScope s_l_deed) [] [] (He.fAd K ("_law_deed", none)) fd ∧ Binds K fd ["_law_book_here", "_law_deed_here", "_law_letter", "_law_page_here"] [] := by
  obtain ⟨fd, F⟩ := C.c.def_ 50 (d := d_l_deed) rfl
  exact ⟨fd, F, FunD.bindsN F fun _ _ _ _ _ _ us hl => match us, hl with | [_, _, _, _], _ => rfl⟩
theorem Ctx.fn_l_hears (C : Ctx K mg) : ∃ fd, FunD K "_law_hears" "_law_hears" (defArgs s_l_hears) (defBody s_l_hears) (defScope s_l_hears) [] [] (He.fAd K ("_law_hears", none)) fd ∧ Binds K fd ["_law_book_here", "_law_rows", "_law_letter", "_law_page_here"] [] := by
  obtain ⟨fd, F⟩ := C.c.def_ 51 (d := d_l_hears) rfl
  exact ⟨fd, F, FunD.bindsN F fun _ _ _ _ _ _ us hl => match us, hl with | [_, _, _, _], _ => rfl⟩
theorem Ctx.fn_l_begun (C : Ctx K mg) : ∃ fd, FunD K "_law_begun" "_law_begun" (defArgs s_l_begun) (defBody s_l_begun) (defScope s_l_begun) [] [] (He.fAd K ("_law_begun", none)) fd ∧ Binds K fd ["_law_book_here"] [] := by
  obtain ⟨fd, F⟩ := C.c.def_ 52 (d := d_l_begun) rfl
  exact ⟨fd, F, FunD.bindsN F fun _ _ _ _ _ _ us hl => match us, hl with | [_], _ => rfl⟩
theorem Ctx.fn_l_happens (C : Ctx K mg) : ∃ fd, FunD K "_law_happens" "_law_happens" (defArgs s_l_happens) (defBody s_l_happens) (defScope s_l_happens) [] [] (He.fAd K ("_law_happens", none)) fd ∧ Binds K fd ["_law_book_here", "_law_rows", "_law_state", "_law_event"] [] := by
  obtain ⟨fd, F⟩ := C.c.def_ 53 (d := d_l_happens) rfl
  exact ⟨fd, F, FunD.bindsN F fun _ _ _ _ _ _ us hl => match us, hl with | [_, _, _, _], _ => rfl⟩
theorem Ctx.fn_l_next (C : Ctx K mg) : ∃ fd, FunD K "_law_next" "_law_next" (defArgs s_l_next) (defBody s_l_next) (defScope s_l_next) [] [] (He.fAd K ("_law_next", none)) fd ∧ Binds K fd ["_law_deal_here", "_law_book_here", "_law_state"] [] := by
  obtain ⟨fd, F⟩ := C.c.def_ 54 (d := d_l_next) rfl
  exact ⟨fd, F, FunD.bindsN F fun _ _ _ _ _ _ us hl => match us, hl with | [_, _, _], _ => rfl⟩
theorem Ctx.fn_l_world (C : Ctx K mg) : ∃ fd, FunD K "_law_world" "_law_world" (defArgs s_l_world) (defBody s_l_world) (defScope s_l_world) [] [] (He.fAd K ("_law_world", none)) fd ∧ Binds K fd ["_law_deal_here"] [] := by
  obtain ⟨fd, F⟩ := C.c.def_ 55 (d := d_l_world) rfl
  exact ⟨fd, F, FunD.bindsN F fun _ _ _ _ _ _ us hl => match us, hl with | [_], _ => rfl⟩
theorem Ctx.fn_l_page (C : Ctx K mg) : ∃ fd, FunD K "_law_page" "_law_page" (defArgs s_l_page) (defBody s_l_page) (defScope s_l_page) [] [] (He.fAd K ("_law_page", none)) fd ∧ Binds K fd ["_law_rows"] [] := by
  obtain ⟨fd, F⟩ := C.c.def_ 56 (d := d_l_page) rfl
  exact ⟨fd, F, FunD.bindsN F fun _ _ _ _ _ _ us hl => match us, hl with | [_], _ => rfl⟩
theorem Ctx.fn_l_led (C : Ctx K mg) : ∃ fd, FunD K "_law_led" "_law_led" (defArgs s_l_led) (defBody s_l_led) (defScope s_l_led) [] [] (He.fAd K ("_law_led", none)) fd ∧ Binds K fd ["_law_book_here", "_law_led_here"] [] := by
  obtain ⟨fd, F⟩ := C.c.def_ 57 (d := d_l_led) rfl
  exact ⟨fd, F, FunD.bindsN F fun _ _ _ _ _ _ us hl => match us, hl with | [_, _], _ => rfl⟩
theorem Ctx.fn_l_numbers (C : Ctx K mg) : ∃ fd, FunD K "_law_numbers" "_law_numbers" (defArgs s_l_numbers) (defBody s_l_numbers) (defScope s_l_numbers) [] [] (He.fAd K ("_law_numbers", none)) fd ∧ Binds K fd ["_law_played_here"] [] := by
  obtain ⟨fd, F⟩ := C.c.def_ 58 (d := d_l_numbers) rfl
  exact ⟨fd, F, FunD.bindsN F fun _ _ _ _ _ _ us hl => match us, hl with | [_], _ => rfl⟩
theorem Ctx.fn_law (C : Ctx K mg) : ∃ fd, FunD K "law" "law" (defArgs s_law) (defBody s_law) (defScope s_law) [] [] (He.fAd K ("law", none)) fd ∧ Binds K fd ["_law_script"] [] := by
  obtain ⟨fd, F⟩ := C.c.def_ 59 (d := d_law) rfl
  exact ⟨fd, F, FunD.bindsN F fun _ _ _ _ _ _ us hl => match us, hl with | [_], _ => rfl⟩
end
end Hp
set_option Elab.async false
set_option linter.all false
set_option maxRecDepth 100000
set_option maxHeartbeats 0
namespace Hp
open PySem PySem.Spec PyProof.Rows L2
/-! the head: the top by one kernel run, the facts by a Hook -/
def hnC0 : List Str := ["Sheet", "Weaving", "Course", "Played", "Book", "Row", "Page"]
def hnC : List Str := hnC0
def hnF0 : List Str := ["holds", "row_at", "shown_from", "reached", "is_name", "is_sequence", "are_names", "is_decimal", "event_in", "play", "is_targets", "are_kinds"]
def hnF1 : List Str := ["are_some", "fits_letter", "is_test", "is_deed", "_law_deal", "_law_draw", "_law_mixed", "_law_words", "_law_book", "_law_row", "_law_after", "_law_shows"]
def hnF2 : List Str := ["_law_is_so", "_law_deed", "_law_hears", "_law_begun", "_law_happens", "_law_next", "_law_world", "_law_page", "_law_led", "_law_numbers", "law", "BARRED"]
def hnF3 : List Str := ["MARKS", "LETTERS", "TESTS", "DEEDS", "OF_ANSWERS"]
def hnF : List Str := hnF0 ++ (hnF1 ++ (hnF2 ++ (hnF3)))
def hnM0 : List (Str × Str) := [("Sheet", "__init__"), ("Sheet", "click"), ("Sheet", "view"), ("Sheet", "truths"), ("Sheet", "hear"), ("Sheet", "act"), ("Sheet", "inner"), ("Weaving", "__init__"), ("Course", "__init__"), ("Course", "accepted_now"), ("Course", "refused_now"), ("Course", "go")]
def hnM1 : List (Str × Str) := [("Course", "is_possible"), ("Course", "happen"), ("Course", "decide"), ("Course", "answer"), ("Course", "bring"), ("Course", "note_flickers"), ("Course", "note_goals"), ("Played", "__init__"), ("Book", "__init__"), ("Book", "need_kind"), ("Book", "target"), ("Row", "__init__")]
def hnM2 : List (Str × Str) := [("Page", "__init__")]
def hnM : List (Str × Str) := hnM0 ++ (hnM1 ++ (hnM2))

def nsOf (o : Option Obj) : Addr := match o with
  | some ⟨_, _, .cls cd, _⟩ => cd.ns
  | _ => 0
def refsF (o : Option Obj) : List Addr := match o with
  | some o => He.refsO o
  | _ => []
def asC (g : Addr → Option Obj) : List Addr := hnC.map (He.ga (He.frG g [mainGlobals]))
def asF (g : Addr → Option Obj) : List Addr := hnF.map (He.ga (He.frG g [mainGlobals]))
def asN (g : Addr → Option Obj) : List Addr := mainGlobals :: (asC g ++ (asC g).map fun a => nsOf (g a))
def asE (g : Addr → Option Obj) : List Addr := hnM.map fun p => He.ma (He.frG g (asN g)) (He.ga (He.frG g [mainGlobals]) p.1) p.2
def asM (g : Addr → Option Obj) : List Addr := asN g ++ (asF g ++ (asE g ++ (asF g ++ asE g).flatMap fun a => refsF (g a)))
def obsM (g : Addr → Option Obj) : He.AlD × Bool := (He.obsD fal fnl (He.frG g (asM g)), exB (He.frG g (asM g)))
def hk : PySem.W.Hook where
  α := He.AlD × Bool
  obs := fun s => obsM s.heap.get?
  val := fun _ => (He.valD fnl, true)
  says := fun _ h => ∃ K : PySem.W.Frag, K.In h ∧ He.SaysD fal fnl K ∧ exB K = true
  of := fun _ _ e => ⟨_, He.frG_in, congrArg (fun z : He.AlD × Bool => z.1) e, congrArg (fun z : He.AlD × Bool => z.2) e⟩
  keeps := fun _ _ _ ⟨K, hK, c⟩ k => ⟨K, PySem.W.Frag.In.keeps hK k, c⟩
def ob (s : PySem.W.SharedT) : He.AlD × Bool := obsM (HandSHeadRun.getT s)
theorem ob_eq (s : PySem.W.SharedT) : ob s = hk.obs s.abs := by
  have e : HandSHeadRun.getT s = s.abs.heap.get? := funext fun a => HandSHeadRun.getT_eq s a
  unfold ob
  rw [e]
  rfl
abbrev R : PySem.W.OpenRow := PySem.W.OpenLaw.row PySem.Challenge.rw_hastypage_k93_whole_other_names_in_runs
abbrev qv : Program := PySem.W.view R.prog [73]
def names0 : List Str := ["_wall", "__name__", "HastyError", "InvalidBook", "InvalidRow", "InvalidPage", "InvalidText", "InvalidEvent", "NoRow", "NoKind", "holds", "row_at", "shown_from", "reached", "Sheet", "SMALL", "BARRED", "MARKS", "is_name", "is_sequence"]
def names1 : List Str := ["are_names", "is_decimal", "event_in", "Weaving", "Course", "Played", "play", "is_targets", "are_kinds", "are_some", "Book", "is_book_line", "may_follow", "LETTERS", "TESTS", "DEEDS", "OF_ANSWERS", "fits_letter", "is_test", "is_deed"]
def names2 : List Str := ["Row", "Page", "_law_deal", "_law_draw", "_law_mixed", "_law_words", "_law_book", "_law_book_text", "_law_row", "_law_row_text", "_law_after", "_law_shows", "_law_is_so", "_law_deed", "_law_hears", "_law_begun", "_law_can", "_law_happens", "_law_played", "_law_next"]
def names3 : List Str := ["_law_world", "_law_page", "_law_led", "_law_numbers"]
def names : List Str := names0 ++ names1 ++ names2 ++ names3
theorem run (w : World) : HandSHeadRun.RunEq R qv hk ob 60000 names w := by
  intro os
  kernel_rfl
end Hp
set_option Elab.async false
set_option linter.all false
set_option maxRecDepth 100000
set_option maxHeartbeats 4000000
namespace Hp
open PySem PySem.Spec PyProof.Rows L2
/-! rules of our own: match over written texts -/
structure PMs (X : Cx) (cs : List MatchCase) (t : Str → TS) : Prop where
  run : ∀ (b : Bool) (pins : List (Addr × Obj)) (s : Shared) (σ : L2.St) (H : L2.Hp) (D : Ends) (z : Str) (u : Tok), Inv X pins σ H s → t z D σ H →
    wpAny (model X.prog X.w) X.A (matchCases cs X.env (.str z u) b) (SP X pins D) X.xe s
section
variable {X : Cx} {body : List Stmt} {rest : List MatchCase} {tb : TS} {tr : Str → TS} {pos p2 : Pos} {j : Nat} {c : Str}
def tCase (c : Str) (tb : TS) (tr : Str → TS) : Str → TS := fun z D σ H => if z = c then tb D σ H else tr z D σ H
theorem pms_nil : PMs X [] (fun _ => tNext) := ⟨fun b pins s σ H D z u I h => wpAny_matchCases_nil ⟨σ, H, I, h⟩⟩
theorem pms_cons (hb : PSs X body tb) (hr : PMs X rest tr) : PMs X (⟨.MatchValue (.Constant (.str c) j pos) p2, none, body⟩ :: rest) (tCase c tb tr) := by
  refine ⟨fun b pins s σ H D z u I h => ?_⟩
  refine wpAny_matchCases_cons (wpAny_matchPattern_Value (Calls.Constant_str (eq_str (wpAny_truthy_bool ?_))))
  by_cases e : z = c
  · subst e
    have h1 : tb D σ H := by
      have q : (if z = z then tb D σ H else tr z D σ H) := h
      rw [if_pos rfl] at q
      exact q
    rw [show (z == z) = true from beq_self_eq_true z]
    show wpAny _ _ (assignInOrder [] []) _ _ _
    exact wpAny_assignInOrder_none (hb.run pins _ σ H D (I.tok _) h1)
  · have h1 : tr z D σ H := by
      have q : (if z = c then tb D σ H else tr z D σ H) := h
      rw [if_neg e] at q
      exact q
    rw [show (z == c) = false from beq_eq_false_iff_ne.mpr e]
    exact hr.run false pins _ σ H D z u (I.tok _) h1
theorem pms_any (hb : PSs X body tb) : PMs X [⟨.MatchAs none none pos, none, body⟩] (fun _ => tb) := by
  refine ⟨fun b pins s σ H D z u I h => ?_⟩
  refine wpAny_matchCases_cons (wpAny_matchPattern_Capture ?_)
  show wpAny _ _ (assignInOrder [] []) _ _ _
  exact wpAny_assignInOrder_none (hb.run pins _ σ H D I h)
theorem ps_match {e : Expr} {te : TE} {cs : List MatchCase} {t : Str → TS} (he : PE X e te) (hc : PMs X cs t) : PS X (.Match e cs pos) (fun D σ H => te σ H fun x H1 => ∃ z, x = .str z ∧ t z D σ H1) := by
  refine ⟨fun pins s σ H D I h => ?_⟩
  refine wpAny_Match (thn (he.run pins s σ H _ I h) fun v s1 ⟨x, H1, I1, r1, z, ex, q⟩ => ?_)
  subst ex
  obtain ⟨u, rfl⟩ := r1
  exact hc.run true pins s1 σ H1 D z u I1 q
end
/-! a target o.f -/
def gFld (K : PySem.W.Frag) (ta : TE) (f : Str) : TG := fun y σ H Q => ta σ H fun x H2 => ∃ a C dx fs, x = .ref a ∧ H2 a = some (.ins C dx fs) ∧ Cls K C ∧ NoAttr K C f ∧ fs.length < 1000 ∧ Q σ (upd H2 a (.ins C dx (putF f y fs)))
theorem pg_fld {X : Cx} {o : Expr} {ta : TE} {f : Str} {pos : Pos} (ha : PE X o ta) : PG X (.Attribute o f pos) (gFld X.K ta f) := by
  refine ⟨fun pins s σ H v u Q I r h => ?_⟩
  rw [PySem.assign_Attribute]
  refine wpAny_bind (wpAny_holding (thn (ha.run pins s σ H _ I h) fun ov s1 ⟨x, H2, I2, rx, a, C, dx, fs, ex, ea, c, n, l, q2⟩ => ?_))
  subst ex
  obtain rfl : ov = Value.ref a := rx
  refine wpAny_bind (wpAny_standAt (wpAny_bind (wpAny_holding (setattr_ok I2 ea c n l r fun s3 I3 => ?_))))
  exact wpAny_release ⟨σ, _, I3, q2⟩
/-! xs[i] op= e -/
def rGetL : V → V → L2.Hp → VK → Prop := fun o i H Q => ∃ p xs k v, o = .ref p ∧ i = .int k ∧ H p = some (.lst xs) ∧ 0 ≤ k ∧ xs[k.toNat]? = some v ∧ Q v H
theorem get_list {X : Cx} : PGet X rGetL := by
  intro pins s σ H o i ov iv Q I ro ri h
  obtain ⟨p, xs, k, v, rfl, rfl, hp, hk, hv, q⟩ := h
  cases ro
  obtain ⟨t, rfl⟩ := ri
  obtain ⟨its, r, pl, hz⟩ := I.list (SqL.of hp)
  obtain ⟨w, ew, rw'⟩ := r.get hv
  have hn := line63
  have hlt : k.toNat < xs.length := (List.getElem?_eq_some_iff.mp hv).1
  exact wpAny_getItem_list pl.isList hk (by omega) (by simpa using ew) ⟨v, H, I, rw', q⟩
/-! d.update(e), both dicts of keys that are ints and texts -/
def rUpdate : V → List V → L2.Hp → VK → Prop := fun x xs H Q => ∃ d o kvs more, x = .ref d ∧ xs = [.ref o] ∧ H d = some (.dK kvs) ∧ H o = some (.dK more) ∧ d ≠ o ∧ kvs.length + more.length ≤ sizeLine ∧ Q .non (upd H d (.dK (mergeK kvs more)))
theorem mergeK_le : ∀ (more kvs : List (L2.Key × V)), (mergeK kvs more).length ≤ kvs.length + more.length
  | [], kvs => Nat.le_refl _
  | m :: r, kvs => by
    have h := mergeK_le r (putK kvs m.1 m.2)
    have h2 : (putK kvs m.1 m.2).length ≤ kvs.length + 1 := by
      unfold putK
      split
      · rw [List.length_map]; omega
      · rw [List.length_append, List.length_singleton]; omega
    show (mergeK (putK kvs m.1 m.2) r).length ≤ kvs.length + (r.length + 1)
    omega
theorem mt_update {X : Cx} : MtR X "dict.update" rUpdate := by
  intro pins s σ H x xs v us Q I rx rxs h
  obtain ⟨d, o, kvs, more, rfl, rfl, hd, ho, hne, hz, q⟩ := h
  cases rx
  obtain ⟨u, rfl, ru⟩ := vals1 rxs
  obtain rfl : u = Value.ref o := ru
  obtain ⟨z1, hs1, vs, rel, dd⟩ := dk_of I.hok hd
  obtain ⟨z2, hs2, ws, rel2, dd2⟩ := dk_of I.hok ho
  refine call_meetsIn PySem.F.slot_dict_update dd.typeIs PySem.F.entry_dict_update (PySem.F.args_dict_update_2 _ _) (meets_dict_update (mixKind X.prog X.w) d o hne hs2)
    ⟨vs, ws, dd, dd2, by rw [← rel.length, ← rel2.length]; exact hz, fun h' dd' _ hs => ?_⟩
  have he : ∃ q, h'.get? d = some q := let ⟨q, _, _, hq, _⟩ := dd'; ⟨q, hq⟩
  have I' := d_write (t' := s.toks) I (by rw [hd]; exact True.intro) hs he (dk_new (H' := upd H d (.dK (mergeK kvs more))) (Nat.le_trans (mergeK_le more kvs) hz) hs1 (KV.merge rel2 rel) dd')
  exact ⟨.non, _, I', rfl, q⟩
/-! enumerate over a tuple -/
set_option maxHeartbeats 1000000 in
theorem meets_enumerate_new1 {v : Value} {o : Obj} {H : Heap → Prop} (B : Begins v o H) :
    Meets (Builtin.«enumerate.__new__» ⟨[.type "enumerate", v], []⟩) (fun _ R s => H s.heap ∧
      R (.ok (.ret (.ref (s.heap.push o).objs.size))) { s with heap := (s.heap.push o).push { cls := .type "enumerate", data := .fields #[.none, .bool false, .ref s.heap.objs.size, rawInt 0, .none, .none] } }) :=
  .of_wp fun prog w A R s h => by
    obtain ⟨hp, g, d, tk, os⟩ := s; obtain ⟨h1, h⟩ := h
    have hsub := sub_enumerate
    have q1 : ∀ {A' : Around} {E : Value → Shared → Prop} {Q : Value → Shared → Prop}, Q (.ref hp.objs.size) ⟨hp.push o, g, d, tk, os⟩ → wpAny (model prog w) A' (pyIter v) Q E ⟨hp, g, d, tk, os⟩ :=
      fun q => B.iter prog w _ _ ⟨hp, g, d, tk, os⟩ _ h1 q
    wp_walk using q1
    refine wpAny_stack_any fun st => wpAny_pure ?_
    split
    · rename_i c _ _ _ _ _
      cases (c == Value.type "enumerate")
      · wp_walk using q1
        exact ⟨_, rfl, h⟩
      · wp_walk using q1
        exact ⟨_, rfl, h⟩
    · wp_walk using q1
      exact ⟨_, rfl, h⟩
theorem call_enumerate_one {prog : Program} {w : World} {A : Around} {E : Value → Shared → Prop} {s : Shared} {v : Value} {o : Obj} {H : Heap → Prop} {Q : Value → Shared → Prop} (B : Begins v o H) (h1 : H s.heap)
    (h : ∀ h', IsEnum h' (s.heap.objs.size + 1) s.heap.objs.size 0 .none → h'.get? s.heap.objs.size = some o → h'.objs.size = s.heap.objs.size + 2 →
      (∀ b o, s.heap.get? b = some o → h'.get? b = some o) → Q (.ref (s.heap.objs.size + 1)) { s with heap := h' }) :
    wpAny (model prog w) A (call (.type "enumerate") [v]) Q E s := by
  refine callType_new F.called_enumerate (by decide) (F.typeCall_enumerate_1 _) (F.newCall_enumerate_1 _) (fun obj => F.args_object_init_2 obj _) F.entry_enumerate_new
    (meets_enumerate_new1 B) ⟨h1, ?_⟩
  have hz : (s.heap.push o).objs.size = s.heap.objs.size + 1 := Heap.size_push ..
  show _ ∧ _
  rw [hz]
  have he : IsEnum ((s.heap.push o).push { cls := .type "enumerate", data := .fields #[.none, .bool false, .ref s.heap.objs.size, rawInt 0, .none, .none] }) (s.heap.objs.size + 1) s.heap.objs.size 0 .none := by
    have := Heap.get?_push_size (s.heap.push o) (o := { cls := .type "enumerate", data := .fields #[.none, .bool false, .ref s.heap.objs.size, rawInt 0, .none, .none] }) rfl
    rw [hz] at this; exact this
  refine ⟨⟨_, he, rfl⟩, h _ he (Heap.get?_push_of_some _ (Heap.get?_push_size _ B.free)) (by rw [Heap.size_push, hz]) fun b o x => Heap.get?_push_of_some _ (Heap.get?_push_of_some _ x)⟩
/-- the tuple at a as it stands, the items in new pairs with their numbers -/
def ItT (K : PySem.W.Frag) (a : Addr) : It :=
  ⟨fun i H => ∃ (xs : List V) (x : V), SqT K H a xs ∧ xs[i]? = some x, fun i H v H' => ∃ T x, v = .ref T ∧ H T = none ∧ H' = upd H T (.tup [.int (i : Nat), x]) ∧ ∀ xs, SqT K H a xs → xs[i]? = some x, fun i H => ∃ xs : List V, SqT K H a xs ∧ xs.length ≤ i⟩
theorem turn_enumT {P : Program} {w : World} {K : PySem.W.Frag} {elts : List Expr} {kk : Nat} {tpos : Pos} (a e it : Addr) :
    Turn P w K (.Tuple elts kk tpos) (ItT K a) [e, it] e (fun i h => (∃ old, IsEnum h e it ((i : Nat) : Int) old) ∧ h.IsTupleIter it a i ∧ e ≠ it ∧ a ≠ it ∧ a ≠ e) where
  mem := by simp
  obj := fun i h st b hb => by
    obtain ⟨⟨old, he⟩, ⟨o, ho, hc, hd⟩, _⟩ := st
    have e' : b = e ∨ b = it := by simpa using hb
    rcases e' with z | z
    · rw [z]; exact ⟨_, he, fun v q => nomatch q⟩
    · rw [z]; exact ⟨o, ho, fun v q => by rw [hd] at q; cases q⟩
  keep := fun i h h' st k => let ⟨⟨old, he⟩, hi, hne, h3, h4⟩ := st; ⟨⟨old, k e (by simp) _ he⟩, hi.at fun o q => k it (by simp) o q, hne, h3, h4⟩
  item := by
    intro X hP hw hK hc i pins s σ H E I hf st hg
    subst hP hw hK
    obtain ⟨⟨old, he⟩, hit, hne, hai, hae⟩ := st
    obtain ⟨xs, x, hq, hx⟩ := hg
    obtain ⟨its, rv, p, hz⟩ := I.tuple hq
    obtain ⟨u, hu, ru⟩ := rv.get hx
    have hel : e < s.heap.objs.size := Heap.lt_size he
    have hil : it < s.heap.objs.size := by obtain ⟨_, q, _⟩ := hit; exact Heap.lt_size q
    have hlt : i < its.toArray.size := by
      have q := (List.getElem?_eq_some_iff.mp hu).1
      simpa using q
    refine wpAny_pyNext_enum_itemC (Draws.tuple (A := X.A.in1) (I.ok.hd hc) it a hai its.toArray) he ⟨hit, (show s.heap.IsTuple a its.toArray from p)⟩ hlt hne (by simp [hne, Ne.symm hae]) fun y h' tk hP ho hit' hT hsz hk => ?_
    obtain ⟨hit', _⟩ := hit'
    have ey : y = u := by
      have q : its.toArray[i]? = some y := hP
      rw [List.getElem?_toArray, hu] at q
      exact (Option.some.inj q).symm
    subst ey
    refine ⟨_, rfl, wpAny_letOwnedTupleGo_enum (s := { s with heap := h', toks := tk + 1 }) ho fun h'' he' sb => ?_⟩
    have hT2 : h''.get? s.heap.objs.size = some { cls := .type "tuple", data := .seq #[.int i tk, y] } := (sb.2 _ (Nat.ne_of_gt hel)).trans hT
    have new : ObjOk X.prog X.w (upd H s.heap.objs.size (.tup [.int (i : Nat), x])) h'' s.heap.objs.size (.tup [.int (i : Nat), x]) :=
      ⟨by show 2 ≤ sizeLine; decide, [.int i tk, y], .cons ⟨_, rfl⟩ (.cons ru .nil), ⟨_, hT2, rfl, _, rfl⟩⟩
    have I1 : Inv X pins σ (upd H s.heap.objs.size (.tup [.int (i : Nat), x])) { s with heap := h'', toks := tk + 1 } :=
      I.turnedNew (ch := [e, it]) (fun b ob hb q => (sb.2 b (fun z => hb (by simp [z]))).trans (hk b ob (fun z => hb (by simp [z])) (fun z => hb (by simp [z])) q)) hf (Nat.le_refl _) new
    refine ⟨.ref s.heap.objs.size, _, I1, rfl, ⟨_, x, rfl, I.hok.fresh (Nat.le_refl _), rfl, fun ys hy => by rw [I.tuple_inj hy hq]; exact hx⟩, ⟨⟨y, ?_⟩, hit'.at fun o q => (sb.2 it (Ne.symm hne)).trans q, hne, hai, hae⟩, fun b hb => ?_⟩
    · have e1 : ((i + 1 : Nat) : Int) = (i : Int) + 1 := by omega
      rw [e1]; exact he'
    · have hb' : b < s.heap.objs.size := by
        have e' : b = e ∨ b = it := by simpa using hb
        rcases e' with z | z
        · rw [z]; exact hel
        · rw [z]; exact hil
      rw [upd_ne (Nat.ne_of_lt hb')]
      exact (hf b hb).1
  done := by
    intro X hP hw hK hc i pins s σ H E I hf st hg
    subst hP hw hK
    obtain ⟨⟨old, he⟩, hit, hne, hai, hae⟩ := st
    obtain ⟨xs, hq, hx⟩ := hg
    obtain ⟨its, rv, p, hz⟩ := I.tuple hq
    obtain ⟨f0, f1, f2, f3, f4, f5⟩ := hf it (by simp)
    have hl := rv.length
    unfold pyNext
    have hT : s.TypeIs (.ref e) "enumerate" := ⟨_, he, rfl⟩
    refine wpAny_bind (wpAny_attempt (wpAny_callSpecial?_slot (name := Str.ofString "__next__") hT F.slot_enumerate_next
      (wpAny_call_entry F.slot_enumerate_next hT F.entry_enumerate_next ?_ (F.args_enumerate_next_1 _))))
    show wpAny _ _ (field (.ref e) 2 >>= _) _ _ _
    refine wpAny_bind (wpAny_field he rfl (x := .ref it) rfl ?_)
    refine wpAny_bind (wpAny_nextOf_tuple_end (I.ok.hd hc) hit (show s.heap.IsTuple a its.toArray from p) (by simp; omega) fun h' x he' hx' => ?_)
    obtain ⟨o, ho, hcl⟩ := hx'
    refine wpAny_bind (wpAny_isInstance (T := "StopIteration") (b := true) ⟨o, ho, hcl⟩ isSubtype_stop ?_)
    exact wpAny_pure ⟨rfl, I.turned (t' := s.toks) (fun b o hb q => he' b o hb q) f0 f1 f3 f4 f5⟩
  self := fun A i s Q E st h => let ⟨⟨_, he⟩, _⟩ := st; wpAny_pyIter_enum he h
def iEnumT (K : PySem.W.Frag) (ta : TA) : TI := fun σ H R => ta σ H fun vs H1 => ∃ a xs, vs = [.ref a] ∧ SqT K H1 a xs ∧ R (ItT K a) H1
theorem pi_enumT {X : Cx} {e : Expr} {ta : TA} {p pos tpos : Pos} {elts : List Expr} {kk : Nat} (hg : Gl X "enumerate") (hm : X.mg "enumerate" = none) (ha : PA X [e] ta) (hs : starEach [e] X.env = [(false, eval e X.env)] := by rfl) :
    PI X (.Tuple elts kk tpos) (.Call (.Name "enumerate" p) [e] [] pos) (iEnumT X.K ta) := by
  refine ⟨fun pins s σ H R I h => ?_⟩
  refine Call_ (ld_blt I hg hm boot_enumerate (PyProof.Rows.callWith_type1 (thn (ha.run pos pins s σ H _ I h) fun us s1 ⟨vs, H1, I1, r1, q1⟩ => ?_) hs rfl))
  obtain ⟨a, xs, ex, hq, q⟩ := q1
  subst ex
  cases r1 with
  | cons r rr =>
    cases rr
    cases r
    obtain ⟨its, rv, p', hz⟩ := I1.tuple hq
    have hal : a < s1.heap.objs.size := p'.lt
    refine call_enumerate_one (begins_tuple a its.toArray) (show s1.heap.IsTuple a its.toArray from p') fun h' he hit hsz hk => wpAny_pyIter_enum he ?_
    have I2 : Inv X pins σ H1 { s1 with heap := h' } := I1.kept (t' := s1.toks) hk
    refine ⟨s1.heap.objs.size + 1, [s1.heap.objs.size + 1, s1.heap.objs.size], _, _, H1, rfl, I2, turn_enumT a (s1.heap.objs.size + 1) s1.heap.objs.size, ⟨⟨.none, he⟩, ⟨_, hit, rfl, rfl⟩, Nat.succ_ne_self _, Nat.ne_of_lt hal, Nat.ne_of_lt (Nat.lt_succ_of_lt hal)⟩, fun b hb => ?_, q⟩
    have e' : b = s1.heap.objs.size + 1 ∨ b = s1.heap.objs.size := by simpa using hb
    have hle : s1.heap.objs.size ≤ b := by
      rcases e' with z | z
      · rw [z]; exact Nat.le_add_right _ _
      · rw [z]; exact Nat.le_refl _
    exact I1.fpOk hle (I1.hok.fresh hle)
theorem walk_enumT {K : PySem.W.Frag} {a : Addr} {xs : List V} : Walk (ItT K a) xs.length (fun H => SqT K H a xs) (YPair (fun i => some (.int (i : Nat))) (fun i => xs[i]?)) := by
  refine ⟨fun i _ hi q => ⟨xs, xs[i], q, by simp [hi]⟩, fun _ q => ⟨xs, q, Nat.le_refl _⟩, fun i H v H' _ q y => ?_⟩
  obtain ⟨T, x, h1, h2, h3, h4⟩ := y
  exact ⟨T, .int (i : Nat), x, h1, h2, h3, rfl, h4 xs q⟩
/-! tuple(list) as an object of which the whole is known; a method of such a tuple -/
theorem call_tuple_fz {X : Cx} : CallR X (.type "tuple") (fun xs H Q => ∃ p ys, xs = [.ref p] ∧ SqL X.K H p ys ∧ ∀ (l : Addr) (o : Obj), H l = none → o.dict = none → Q (.ref l) (upd H l (.frz o (.tup ys)))) := by
  intro pins s σ H xs us Q I r h
  obtain ⟨p, ys, rfl, hq, q⟩ := h
  obtain ⟨u, rfl, rx⟩ := vals1 r
  cases rx
  obtain ⟨its, r', pl, hz⟩ := I.list hq
  have hlen := r'.length
  refine call_tuple_list pl.isList (fun h' kp => ?_) (by simp only [List.size_toArray] <;> omega)
  have I1 : Inv X pins σ H { s with heap := h' } := I.kept (t' := s.toks) kp
  have I2 : Inv X pins σ (upd H h'.objs.size (.frz { cls := .type "tuple", data := .seq its.toArray } (.tup ys))) { s with heap := h'.push { cls := .type "tuple", data := .seq its.toArray } } :=
    I1.laid (t' := s.toks) (fun b o e => Heap.get?_push_of_some _ e) (Nat.le_refl _) (show ObjOk X.prog X.w _ _ _ (.frz _ (.tup ys)) from ⟨Heap.get?_push_size _ rfl, hz, its, r', IsTup.new _ _⟩)
  exact ⟨.ref h'.objs.size, _, I2, rfl, q _ _ (I1.hok.fresh (Nat.le_refl _)) rfl⟩
def tBMT (r : V → List V → L2.Hp → VK → Prop) (to : TE) (t : TA) : TE := fun σ H Q => to σ H fun x H1 => (∃ p o ys, x = .ref p ∧ H1 p = some (.frz o (.tup ys)) ∧ o.dict = none) ∧ t σ H1 fun xs H2 => r x xs H2 Q
theorem pe_bmT {X : Cx} {o e : Expr} {es : List Expr} {to : TE} {t : TA} {name : Str} {apos cpos : Pos} {id : String} {r : V → List V → L2.Hp → VK → Prop} (slot : Slot "tuple" name id) (hty : typeOf (.builtin id) = pure (.type "method_descriptor")) (hm : MtR X id r) (ho : PE X o to) (ha : PA X (e :: es) t)
    (hbase : attributeBase o name X.env (eval o X.env) = eval o X.env := by rfl)
    (hfew : ((backTo cpos (starEach (e :: es) X.env)).all (fun x => !x.1) && (backToKw cpos (keywordEach [] X.env)).all (fun x => x.1.isSome)
      && decide ((e :: es).length + ([] : List Keyword).length + (if ([] : List Keyword).isEmpty then 0 else 1) < 30)) = true := by rfl)
    (hline : (apos.endLine == cpos.line) = true := by rfl) (hs : starEach (e :: es) X.env = (false, eval e X.env) :: starEach es X.env := by rfl) (hplain : (backTo cpos (starEach es X.env)).any (·.1) = false := by rfl) :
    PE X (.Call (.Attribute o name apos) (e :: es) [] cpos) (tBMT r to t) := by
  refine ⟨fun pins s σ H Q I h => ?_⟩
  refine wpAny_Call_method_late hbase hfew hline rfl (thn (ho.run pins s σ H _ I h) fun v s1 ⟨x, H1, I1, r1, ⟨p, ob, ys, ex, hp, hd⟩, q1⟩ => ?_)
  subst ex
  obtain rfl : v = Value.ref p := r1
  obtain ⟨h1, hz, its, rv, o2, h2, c2, _⟩ := (show ObjOk X.prog X.w H1 s1.heap p (.frz ob (.tup ys)) from I1.hok p _ hp)
  refine ⟨"tuple", id, PySem.F.plainAttrs_tuple, slot, hty, ⟨o2, h2, c2⟩, fun a ea => ?_, ?_⟩
  · cases ea
    exact ⟨ob, h1, hd⟩
  · have hA := ha.run cpos pins s1 σ H1 _ I1 q1
    rw [hs] at hA ⊢
    refine Calls.callWith_builtin (by show (false || (backTo cpos (starEach es X.env)).any (·.1)) = false; rw [hplain] <;> rfl) (Calls.evalArgs_plain ?_)
    exact thn hA fun us s2 ⟨vs, H2, I2, r2, q2⟩ => hm pins s2 σ H2 (.ref p) vs (.ref p) us Q I2 rfl r2 q2
end Hp
set_option Elab.async false
set_option linter.all false
set_option maxRecDepth 100000
set_option maxHeartbeats 4000000
namespace Hp
open PySem PySem.Spec PyProof.Rows L2
/-! heaps that grow -/
theorem same_new {H : L2.Hp} {p : Addr} {o : HO} (h : H p = none) : Same H (upd H p o) := fun b u e => by
  rw [upd_ne (ne_of_none e h)]
  exact e
theorem Same.new {H H1 : L2.Hp} {p : Addr} {o : HO} (s : Same H H1) (h : H1 p = none) : Same H (upd H1 p o) := s.trans (same_new h)
theorem Same.seqT {K : PySem.W.Frag} {H H' : L2.Hp} {a : Addr} {xs : List V} (e : Same H H') (h : SqT K H a xs) : SqT K H' a xs := by
  rcases h with (h | ⟨o, h⟩) | h
  · exact .inl (.inl (e _ _ h))
  · exact .inl (.inr ⟨o, e _ _ h⟩)
  · exact .inr h
theorem Same.ne_new {H H1 : L2.Hp} {a p : Addr} {o : HO} (s : Same H H1) (h : H a = some o) (n : H1 p = none) : a ≠ p := ne_of_none (s _ _ h) n
theorem yesT {F G : L2.Hp → Prop} {σ : L2.St} {H : L2.Hp} (h : F H) : tYes σ H (fun b H3 => if b = true then F H3 else G H3) := by
  show (if true = true then F H else G H)
  exact iteT h
/-! comprehensions whose elements are worth h of the things walked -/
section
variable {α : Type} {J : It} {n : Nat} {G : L2.Hp → Prop} {Y : Nat → L2.Hp → V → L2.Hp → Prop} {g : TG} {tt : TT} {te : TE} {vs : List Nat} {σ : L2.St} {H1 : L2.Hp} {D : Addr} {Qd : L2.Hp → Prop}
theorem lc_p (w : Walk J n G Y) (as : List α) (hn : n = as.length) (hz : as.length ≤ sizeLine) (keep : α → Bool) (h : α → V) (hD : H1 D = none) (hG : ∀ H, Same H1 H → G H)
    (hs : ∀ i a x H H' (Qy : V → L2.Hp → Prop) (Qn : L2.Hp → Prop), as[i]? = some a → Same H1 H → Y i H x H' → (keep a = true → ∀ H4, Same H H4 → Qy (h a) H4) → (keep a = false → ∀ H3, Same H H3 → Qn H3) →
      g x (wipe σ vs) H' fun σ2 H2 => wipe σ2 vs = wipe σ vs ∧ tt σ2 H2 fun b H3 => if b = true then te σ2 H3 Qy else Qn H3)
    (hd : ∀ H, Same H1 H → H D = some (.lst ((as.filter keep).map h)) → Qd H) :
    ∃ W : Nat → Nat → L2.Hp → Prop, (∃ m, W 0 m (upd H1 D (.lst []))) ∧ ∀ i m H, W i m H →
      (J.stop i H ∧ Qd H) ∨ (J.go i H ∧ ∃ Nx : L2.Hp → Prop, (∀ H', Nx H' → ∃ m', m' < m ∧ W (i + 1) m' H') ∧ ∀ x H', J.yld i H x H' → g x (wipe σ vs) H' fun σ2 H2 => wipe σ2 vs = wipe σ vs ∧ tt σ2 H2 fun b H3 =>
        if b = true then te σ2 H3 fun y H4 => ∃ acc, H4 D = some (.lst acc) ∧ acc.length < sizeLine ∧ Nx (upd H4 D (.lst (acc ++ [y]))) else Nx H3) := by
  subst hn
  refine lc_it w (fun i H => Same H1 H ∧ H D = some (.lst (((as.take i).filter keep).map h))) ⟨same_new hD, by rw [upd_same]; simp⟩ (fun i H _ p => hG H p.1) (fun i x H H' hi p y => ?_) (fun H p => hd H p.1 (by rw [p.2, List.take_length]))
  obtain ⟨s1, hL⟩ := p
  have ha : as[i]? = some as[i] := List.getElem?_eq_getElem hi
  have et : as.take (i + 1) = as.take i ++ [as[i]] := by rw [List.take_succ, ha]; rfl
  refine hs i as[i] x H H' _ _ ha s1 y (fun hk H4 s4 => ⟨_, s4 _ _ hL, ?_, ?_, ?_⟩) (fun hk H3 s3 => ⟨s1.trans s3, ?_⟩)
  · have h1 : (((as.take i).filter keep).map h).length ≤ i := by
      rw [List.length_map]
      exact Nat.le_trans (List.length_filter_le _ _) (by rw [List.length_take]; omega)
    exact Nat.lt_of_le_of_lt h1 (Nat.lt_of_lt_of_le hi hz)
  · intro b u e
    have hb : b ≠ D := ne_of_none e hD
    rw [upd_ne hb]
    exact s4 _ _ (s1 _ _ e)
  · rw [upd_same, et, List.filter_append, List.map_append]
    congr 3
    simp [hk]
  · rw [et, List.filter_append, List.map_append, s3 _ _ hL]
    congr 2
    simp [hk]
theorem lc_m (w : Walk J n G Y) (as : List α) (hn : n = as.length) (hz : as.length ≤ sizeLine) (h : α → V) (hD : H1 D = none) (hG : ∀ H, Same H1 H → G H)
    (hs : ∀ i a x H H' (Qy : V → L2.Hp → Prop) (Qn : L2.Hp → Prop), as[i]? = some a → Same H1 H → Y i H x H' → (∀ H4, Same H H4 → Qy (h a) H4) →
      g x (wipe σ vs) H' fun σ2 H2 => wipe σ2 vs = wipe σ vs ∧ tt σ2 H2 fun b H3 => if b = true then te σ2 H3 Qy else Qn H3)
    (hd : ∀ H, Same H1 H → H D = some (.lst (as.map h)) → Qd H) :
    ∃ W : Nat → Nat → L2.Hp → Prop, (∃ m, W 0 m (upd H1 D (.lst []))) ∧ ∀ i m H, W i m H →
      (J.stop i H ∧ Qd H) ∨ (J.go i H ∧ ∃ Nx : L2.Hp → Prop, (∀ H', Nx H' → ∃ m', m' < m ∧ W (i + 1) m' H') ∧ ∀ x H', J.yld i H x H' → g x (wipe σ vs) H' fun σ2 H2 => wipe σ2 vs = wipe σ vs ∧ tt σ2 H2 fun b H3 =>
        if b = true then te σ2 H3 fun y H4 => ∃ acc, H4 D = some (.lst acc) ∧ acc.length < sizeLine ∧ Nx (upd H4 D (.lst (acc ++ [y]))) else Nx H3) :=
  lc_p w as hn hz (fun _ => true) h hD hG (fun i a x H H' Qy Qn ha s1 y k1 _ => hs i a x H H' Qy Qn ha s1 y (k1 rfl)) (fun H s1 e => hd H s1 (by rw [e, List.filter_eq_self.mpr (fun _ _ => rfl)]))
end
/-! dict comprehensions -/
section
variable {J : It} {n : Nat} {G : L2.Hp → Prop} {Y : Nat → L2.Hp → V → L2.Hp → Prop}
theorem dc_it (w : Walk J n G Y) {g : TG} {tk tv : TE} {vs : List Nat} {σ : L2.St} {H1 : L2.Hp} {D : Addr} {Qd : L2.Hp → Prop} (Pv : Nat → L2.Hp → Prop) (h0 : Pv 0 (upd H1 D (.dK []))) (hG : ∀ i H, i ≤ n → Pv i H → G H)
    (hs : ∀ i x H H', i < n → Pv i H → Y i H x H' → g x (wipe σ vs) H' fun σ2 H2 => wipe σ2 vs = wipe σ vs ∧
      tk σ2 H2 fun y H4 => tv σ2 H4 fun z H5 => ∃ kvs k, y = kV k ∧ H5 D = some (.dK kvs) ∧ kvs.length < sizeLine ∧ Pv (i + 1) (upd H5 D (.dK (putK kvs k z)))) (hd : ∀ H, Pv n H → Qd H)
    (mono : ∀ x σ0 H0 (K1 K2 : L2.St → L2.Hp → Prop), (∀ σ2 H2, K1 σ2 H2 → K2 σ2 H2) → g x σ0 H0 K1 → g x σ0 H0 K2) :
    ∃ W : Nat → Nat → L2.Hp → Prop, (∃ m, W 0 m (upd H1 D (.dK []))) ∧ ∀ i m H, W i m H →
      (J.stop i H ∧ Qd H) ∨ (J.go i H ∧ ∃ Nx : L2.Hp → Prop, (∀ H', Nx H' → ∃ m', m' < m ∧ W (i + 1) m' H') ∧ ∀ x H', J.yld i H x H' → g x (wipe σ vs) H' fun σ2 H2 => wipe σ2 vs = wipe σ vs ∧ tYes σ2 H2 fun b H3 =>
        if b = true then tk σ2 H3 fun y H4 => tv σ2 H4 fun z H5 => ∃ kvs k, y = kV k ∧ H5 D = some (.dK kvs) ∧ kvs.length < sizeLine ∧ Nx (upd H5 D (.dK (putK kvs k z))) else Nx H3) := by
  refine ⟨fun i m H => m = n - i ∧ i ≤ n ∧ Pv i H, ⟨n, by simp, Nat.zero_le _, h0⟩, ?_⟩
  rintro i m H ⟨rfl, hi, p⟩
  have q := hG i H hi p
  by_cases hlt : i < n
  · refine .inr ⟨w.goes i H hlt q, Pv (i + 1), fun H' p' => ⟨n - (i + 1), by omega, rfl, hlt, p'⟩, fun x H' y => ?_⟩
    refine mono _ _ _ _ _ (fun σ2 H2 q2 => ⟨q2.1, ?_⟩) (hs i x H H' hlt p (w.yields i H x H' hlt q y))
    exact yesT q2.2
  · have e : i = n := by omega
    subst e
    exact .inl ⟨w.stops H q, hd H p⟩
theorem mono_two {K : PySem.W.Frag} {k i j : Nat} : ∀ x σ0 H0 (K1 K2 : L2.St → L2.Hp → Prop), (∀ σ2 H2, K1 σ2 H2 → K2 σ2 H2) → gTup K k (gCons (gName i) (gCons (gName j) gNil)) x σ0 H0 K1 → gTup K k (gCons (gName i) (gCons (gName j) gNil)) x σ0 H0 K2 := fun x σ0 H0 K1 K2 h q => by
  obtain ⟨a, xs, f1, f2, f3, v, r, e, v2, r2, e2, e3, q⟩ := q
  exact ⟨a, xs, f1, f2, f3, v, r, e, v2, r2, e2, e3, h _ _ q⟩
end
/-! rules that name the written part, for a comprehension's block -/
section
variable {X : Cx} (K : PySem.W.Frag)
theorem sl_listK (h : X.K = K := by rfl) : SlR X (rSlL K) := h ▸ sl_list
theorem ix_listK (h : X.K = K := by rfl) : IxR X (rIxL K) := h ▸ ix_list
theorem ix_tupK (h : X.K = K := by rfl) : IxR X (rIxT K) := h ▸ ix_tup
theorem op_inK (h : X.K = K := by rfl) : OpR X (compareOp .In) (rIn K false) := h ▸ op_in_seq
theorem op_notInK (h : X.K = K := by rfl) : OpR X (compareOp .NotIn) (rIn K true) := h ▸ op_notIn_seq
theorem pe_fldK {e : Expr} {ta : TE} {f : Str} {pos : Pos} (he : PE X e ta) (hb : attributeBase e f X.env (eval e X.env) = eval e X.env) (h : X.K = K := by rfl) : PE X (.Attribute e f pos) (tFld K ta f) := h ▸ pe_fld he hb
theorem call_lenK (h : X.K = K := by rfl) : CallR X (.builtin "len") (fun xs H Q => ∃ x n, xs = [x] ∧ LenV K x H n ∧ Q (.int n) H) := h ▸ call_len
theorem call_tuple_ofK (h : X.K = K := by rfl) : CallR X (.type "tuple") (fun xs H Q => ∃ p ys, xs = [.ref p] ∧ ((SqL K H p ys ∧ ∀ l, H l = none → Q (.ref l) (upd H l (.tup ys))) ∨ (SqT K H p ys ∧ Q (.ref p) H))) := h ▸ call_tuple_of
theorem call_isiK' (h : X.K = K := by rfl) : CallR X (.builtin "isinstance") (rIsi K) := h ▸ call_isi
end
/-! flat values -/
theorem eqV_str (a b : Str) : eqV (.str a) (.str b) = decide (a = b) := by
  show (a == b) = decide (a = b)
  exact Bool.beq_eq_decide_eq ..
theorem eqV_int (a b : Int) : eqV (.int a) (.int b) = decide (a = b) := by
  show (a == b) = decide (a = b)
  exact Bool.beq_eq_decide_eq ..
end Hp
set_option Elab.async false
set_option linter.all false
set_option maxRecDepth 100000
set_option maxHeartbeats 4000000
namespace Hp
open PySem PySem.Spec PyProof.Rows L2
section
variable {P : Program} {w : World} {K : PySem.W.Frag} {mg : Str → Option Value} {base : Heap}
theorem has_of {nm qual : Str} {st : Stmt} {N ps : List Str} {sp : Sp} {k : Nat} {f : Addr} {dvs : List V} (h : ∃ fd, FunD K nm qual (defArgs st) (defBody st) (defScope st) dvs [] f fd ∧ Binds K fd ps []) (S : FnScope N ps (defScope st))
    (len : ∀ vs H Q E, sp vs H Q E → vs.length = ps.length)
    (body : ∀ (cdv : Value) (A : Around) (outer : List Env) (s : Shared) (H : L2.Hp) (vs : List V) (Q : VK) (E : XK), Room k (A.deeper (envOfC qual (defScope st) s.heap.objs.size f cdv)) → sp vs H Q E →
      ∃ t, PSs (cxOf CX0 P w K mg base N qual (defScope st) f cdv A outer s H E).nox (defBody st) t ∧ t { nx := fun _ H' => Q .non H', rt := Q } (start N vs) H) : ∃ fd, Has P w K mg base (k + 1) f ps sp fd := by
  obtain ⟨fd, F, b⟩ := h
  refine ⟨fd, ⟨F.ok S len fun cdv A outer s H vs Q E hr hsp => ?_, b, F.kp⟩⟩
  obtain ⟨t, h1, h2⟩ := body cdv A outer s H vs Q E hr hsp
  exact ⟨t, PSs.nox h1, h2⟩
theorem dget_of {H : L2.Hp} {d : Addr} {kvs : List (L2.Key × V)} {k : L2.Key} {v : V} (hd : H d = some (.dK kvs)) (hv : valV kvs k = some v) : DGet H d (kV k) (some v) := by
  have q := DGet.k (k := k) hd
  rw [hv] at q
  exact q
theorem dgetS {H : L2.Hp} {d : Addr} {kvs : List (L2.Key × V)} {z : Str} {v : V} (hd : H d = some (.dK kvs)) (hv : valV kvs (Sum.inr z) = some v) : DGet H d (.str z) (some v) := dget_of (k := Sum.inr z) hd hv
/-! tests of rows -/
def allTests : List Str := tv_TESTS ++ tv_TESTS.map fun t => ("not " : Str) ++ t
def isNot (t : Str) : Bool := decide (cutS t none (some 4) = "not ")
def plainT (t : Str) : Str := if isNot t then cutS t (some 4) none else t
def holdsM (T : Str → Bool) (t : Str) : Bool := if isNot t then !(T (plainT t)) else T (plainT t)
theorem tests_ok : ∀ t ∈ allTests, t.length ≤ sizeLine ∧ plainT t ∈ tv_TESTS := by decide +kernel
def TruthsAt (H : L2.Hp) (d : Addr) (T : Str → Bool) : Prop := ∃ kvs : List (L2.Key × V), H d = some (.dK kvs) ∧ ∀ t ∈ tv_TESTS, valV kvs (Sum.inr t) = some (.bl (T t))
theorem TruthsAt.mono {H H' : L2.Hp} {d : Addr} {T : Str → Bool} (h : TruthsAt H d T) (s : Same H H') : TruthsAt H' d T := let ⟨kvs, a, b⟩ := h; ⟨kvs, s _ _ a, b⟩
def spHolds : Sp := fun vs H Q _ => ∃ (t : Str) (d : Addr) (T : Str → Bool), vs = [.str t, .ref d] ∧ t ∈ allTests ∧ TruthsAt H d T ∧ Q (.bl (holdsM T t)) H
theorem h_holds (C : Ctx K mg) : ∃ fd, Has P w K mg base 1 (He.fAd K ("holds", none)) ["test", "truths"] spHolds fd := by
  refine has_of C.fn_holds sc_holds (fun vs H Q E h => ?_) (fun cdv A outer s H vs Q E hr h => ?_)
  · obtain ⟨t, d, T, rfl, _⟩ := h
    rfl
  · obtain ⟨t, d, T, rfl, ht, ⟨kvs, hd, hT⟩, k⟩ := h
    have hu := hu_of hr
    obtain ⟨hl, hp⟩ := tests_ok t ht
    refine ⟨_, pss_cons (ps_if (pt_cmpR op_eq (pe_slice sl_str (pv 0) po_none (po_some pe_int)) pe_str (nomark _)) (pss_one (ps_ret (pe_not (pe_dget hu (pv 1) (pe_slice sl_str (pv 0) (po_some pe_int) po_none) (fun _ _ => rfl))))) pss_nil)
      (pss_one (ps_ret (pe_dget hu (pv 1) (pv 0) (fun _ _ => rfl)))), ?_⟩
    refine ⟨_, rfl, 4, rfl, t, rfl, hl, rfl, _, rfl, ?_⟩
    have hv := hT _ hp
    cases e : isNot t with
    | true =>
      have e1 : cutS t none (some 4) = "not " := of_decide_eq_true e
      have e2 : plainT t = cutS t (some 4) none := by unfold plainT; rw [e]; rfl
      have e3 : holdsM T t = !(T (plainT t)) := by unfold holdsM; rw [e]; rfl
      refine ite2 (fun _ => ?_) (fun h => absurd (by rw [e1]; decide +kernel) h)
      rw [e3] at k
      rw [e2] at hv k
      exact ⟨_, rfl, _, rfl, 4, rfl, t, rfl, hl, d, _, rfl, dgetS hd hv, _, rfl, k⟩
    | false =>
      have e1 : ¬ cutS t none (some 4) = "not " := of_decide_eq_false e
      have e2 : plainT t = t := by unfold plainT; rw [e]; rfl
      have e3 : holdsM T t = T t := by unfold holdsM; rw [e, e2]; rfl
      refine ite2 (fun h => absurd (by simpa using h) e1) (fun _ => ?_)
      rw [e3] at k
      rw [e2] at hv
      exact ⟨_, rfl, _, rfl, d, _, rfl, dgetS hd hv, k⟩
end
end Hp
set_option Elab.async false
set_option linter.all false
set_option maxRecDepth 100000
set_option maxHeartbeats 4000000
namespace Hp
open PySem PySem.Spec PyProof.Rows L2
theorem ifT {b : Bool} {A B : Prop} (h : b = true) (a : A) : if b = true then A else B := by rw [if_pos h]; exact a
theorem ifF {b : Bool} {A B : Prop} (h : b = false) (a : B) : if b = true then A else B := by rw [if_neg (by rw [h]; decide)]; exact a
/-! the names that can come -/
def W22a : List Str := ["on", "off", "a", "b", "like", "zzzz", "list", "old", "all", "open", "take", "drop", "kind", "abc"]
def W22b : List Str := ["xyz", "mv", "gh", "w", "tri", "nu", "pqrs", "ej"]
def W22 : List Str := W22a ++ W22b
def freshW (w : Str) : Str := if decide ((w.length : Int) < 4) = true then w ++ "q" else "q" ++ cutS w (some 1) none
def F22 : List Str := W22.map freshW
def W44 : List Str := W22 ++ F22
theorem nodup44 : W44.Nodup := by decide +kernel
def abcS : Str := "abcdefghijklmnopqrstuvwxyz"
theorem name_ok : ∀ z ∈ W44, (1 ≤ z.length ∧ z.length ≤ 4) ∧ z ∉ tv_BARRED ∧ ∀ c ∈ z.cps.toList, c ∈ abcS.cps.toList := by decide +kernel
theorem len4 {n : Nat} (h : n ≤ 4) : n ≤ sizeLine := Nat.le_trans h (by decide)
theorem inV_strs (z : Str) : ∀ xs : List Str, inV (.str z) (xs.map V.str) = decide (z ∈ xs)
  | [] => by simp [inV]
  | x :: xs => by
    have ih := inV_strs z xs
    unfold inV at ih ⊢
    rw [List.map_cons, List.any_cons, ih, eqV_str]
    by_cases h : x = z
    · simp [h]
    · have h2 : ¬ z = x := fun e => h e.symm
      simp [h, h2]
theorem inV_ints (z : Int) : ∀ xs : List Int, inV (.int z) (xs.map V.int) = decide (z ∈ xs)
  | [] => by simp [inV]
  | x :: xs => by
    have ih := inV_ints z xs
    unfold inV at ih ⊢
    rw [List.map_cons, List.any_cons, ih, eqV_int]
    by_cases h : x = z
    · simp [h]
    · have h2 : ¬ z = x := fun e => h e.symm
      simp [h, h2]
theorem flat_strs (xs : List Str) : (xs.map V.str).all flatV = true := by simp [flatV]
theorem flat_ints (xs : List Int) : (xs.map V.int).all flatV = true := by simp [flatV]
theorem all_true {α : Type} (xs : List α) : ((xs.map fun _ => true).all id) = true := by simp
section
variable {P : Program} {w : World} {K : PySem.W.Frag} {mg : Str → Option Value} {base : Heap}
/-- z is a name -/
def spIsName : Sp := fun vs H Q _ => ∃ z : Str, vs = [.str z] ∧ z ∈ W44 ∧ ∀ H', Same H H' → Q (.bl true) H'
theorem h_is_name (C : Ctx K mg) : ∃ fd, Has P w K mg base 1 (He.fAd K ("is_name", none)) ["value"] spIsName fd := by
  refine has_of C.fn_is_name sc_is_name (fun vs H Q E h => ?_) (fun cdv A outer s H vs Q E hr h => ?_)
  · obtain ⟨z, rfl, _⟩ := h
    rfl
  · obtain ⟨z, rfl, hz, k⟩ := h
    obtain ⟨⟨l1, l4⟩, hb, hc⟩ := name_ok z hz
    obtain ⟨tS, hS⟩ := C.s_SMALL
    have nd := sc_is_name.nd
    refine ⟨_, pss_cons (ps_if (PW.pt (pw_or (pt_not (pt_val (pe_callB call_isi (by rfl) C.f_isinstance boot_isinstance (pa_cons (pv 0) (pa_cons (pe_bltn (v := .ty "str") (by rfl) C.f_str boot_str rfl) pa_nil)))))
        (pw_or (pt_not (pt_chain op_le op_le pe_int (pe_callB call_len (by rfl) C.f_len boot_len (pa_cons (pv 0) pa_nil)) pe_int))
        (pw_or1 (pt_cmpR op_in_seq (pv 0) (pe_glob (v := .ref (He.ga K "BARRED")) (by rfl) C.g_BARRED rfl) (by rfl)))))) (pss_one (ps_ret pe_bl)) pss_nil)
      (pss_one (ps_ret (pe_callB (cr_all rfl) (by rfl) C.f_all (by decide +kernel) (pa_cons (pe_lc (own := [("letter", 1)]) (g := gName 1) (tt := tYes) rfl nd (pi_str (pv 0)) (blkOk_by (N := N_is_name) (sc := defScope s_is_name) (by decide +kernel))
        (fun _ _ _ _ _ => pg_name (i := 1) nd rfl (Or.inl rfl)) (fun _ _ _ _ _ => pts_nil) (fun _ _ _ _ _ => pe_cmpR op_in_sign (pv 1) (pe_glob (v := .str abcS) (by rfl) hS ⟨_, rfl⟩) (by rfl))) pa_nil)))), ?_⟩
    refine ⟨_, rfl, .str z, .ty "str", .type "str", .type "str", true, rfl, ClsV.ty _, TyX.base (TyOf.str _), kit_ty (by decide +kernel), true, rfl, ?_⟩
    refine iteF ⟨_, rfl, _, z.length, rfl, ⟨len4 l4, rfl⟩, _, _, rfl, rfl, _, rfl, ?_⟩
    refine ifT (decide_eq_true (by omega)) ⟨_, _, rfl, rfl, _, rfl, ?_⟩
    refine ifF (by simp; omega) ⟨_, rfl, _, _, rfl, .inr (C.t_BARRED H), rfl, flat_strs _, _, rfl, ?_⟩
    refine ifF (by simp [inV_strs, hb]) ?_
    refine ⟨_, rfl, z, rfl, fun D hD => ?_⟩
    refine lc_m walk_str z.cps.toList (by simp) (by have e : z.cps.toList.length = z.length := by simp [Str.length]
                                                    rw [e]; exact len4 l4) (fun _ => .bl true) hD (fun _ _ => True.intro) (fun i c x H1 H2 Qy Qn hi s1 y k1 => ?_) (fun H1 s1 hL => ?_)
    · obtain ⟨rfl, c', hc', rfl⟩ := y
      have ec : c' ∈ abcS.cps.toList := hc c' (by have q := Array.mem_of_getElem? hc'; simpa using q)
      refine ⟨rfl, yesT ⟨_, rfl, c', abcS, rfl, rfl, ?_⟩⟩
      rw [decide_eq_true ec]
      exact k1 _ (Same.refl _)
    · refine ⟨D, z.cps.toList.map fun _ => true, rfl, SqL.of (by rw [hL, List.map_map]; rfl), ?_⟩
      rw [all_true]
      exact k _ s1
end
end Hp
set_option Elab.async false
set_option linter.all false
set_option maxRecDepth 100000
set_option maxHeartbeats 4000000
namespace Hp
open PySem PySem.Spec PyProof.Rows L2
/-! books, pages by numbers of values and kinds, and a naming -/
structure Nm where
  nv : Nat
  nk : Nat
  v : Nat → Str
  k : Nat → Str
structure Nm.Ok (N : Nm) : Prop where
  v1 : 1 ≤ N.nv
  v3 : N.nv ≤ 3
  k3 : N.nk ≤ 3
  vin : ∀ i, i < N.nv → N.v i ∈ W44
  kin : ∀ i, i < N.nk → N.k i ∈ W44
  vinj : ∀ i j, i < N.nv → j < N.nv → N.v i = N.v j → i = j
  kinj : ∀ i j, i < N.nk → j < N.nk → N.k i = N.k j → i = j
structure IB where
  tg : Nat → Nat → Option Nat
  loose : Nat → Bool
  others : Nat → Bool
def IB.Ok (N : Nm) (B : IB) : Prop := ∀ i j t, i < N.nk → j < N.nv → B.tg i j = some t → t < N.nv
def optS (f : Nat → Str) : Option Nat → V
  | none => .non
  | some i => .str (f i)
def Nm.vs (N : Nm) : List Str := (List.range N.nv).map N.v
def Nm.ks (N : Nm) : List Str := (List.range N.nk).map N.k
def stL (l : List Str) : List V := l.map V.str
def inL (l : List Nat) : List V := l.map fun n : Nat => V.int (n : Int)
def bkF (ch ki ta lo ot : V) : List (Str × V) := [("choices", ch), ("kinds", ki), ("targets", ta), ("loose", lo), ("others", ot)]
def IB.row (N : Nm) (B : IB) (i : Nat) : List V := (List.range N.nv).map fun j => optS N.v (B.tg i j)
def someK (N : Nm) (p : Nat → Bool) : List Str := ((List.range N.nk).filter p).map N.k
def FzT (H : L2.Hp) (a : Addr) (xs : List V) : Prop := ∃ o : Obj, H a = some (.frz o (.tup xs)) ∧ o.dict = none
theorem FzT.mono {H H' : L2.Hp} {a : Addr} {xs : List V} (h : FzT H a xs) (s : Same H H') : FzT H' a xs := let ⟨o, a, b⟩ := h; ⟨o, s _ _ a, b⟩
theorem FzT.seq {K : PySem.W.Frag} {H : L2.Hp} {a : Addr} {xs : List V} (h : FzT H a xs) : SqT K H a xs := let ⟨o, a, _⟩ := h; .inl (.inr ⟨o, a⟩)
structure BookAt (K : PySem.W.Frag) (H : L2.Hp) (b : Addr) (N : Nm) (B : IB) : Prop where
  ex : ∃ (dx ac ak ad al ao : Addr) (ta : Nat → Addr), H b = some (.ins (He.ga K "Book") dx (bkF (.ref ac) (.ref ak) (.ref ad) (.ref al) (.ref ao))) ∧ FzT H ac (stL N.vs) ∧ H ak = some (.tup (stL N.ks)) ∧
    H ad = some (.dK ((List.range N.nk).map fun i => (Sum.inr (N.k i), V.ref (ta i)))) ∧ (∀ i, i < N.nk → H (ta i) = some (.tup (B.row N i))) ∧ H al = some (.tup (stL (someK N B.loose))) ∧ H ao = some (.tup (stL (someK N B.others)))
theorem BookAt.mono {K : PySem.W.Frag} {H H' : L2.Hp} {b : Addr} {N : Nm} {B : IB} (h : BookAt K H b N B) (s : Same H H') : BookAt K H' b N B := by
  obtain ⟨dx, ac, ak, ad, al, ao, ta, h1, h2, h3, h4, h5, h6, h7⟩ := h.ex
  exact ⟨dx, ac, ak, ad, al, ao, ta, s _ _ h1, h2.mono s, s _ _ h3, s _ _ h4, fun i hi => s _ _ (h5 i hi), s _ _ h6, s _ _ h7⟩
/-- kinds as they are handed to a book: pairs of a name and a list -/
def KindsIn (H : L2.Hp) (a : Addr) (N : Nm) (B : IB) : Prop := ∃ ps ta : Nat → Addr, H a = some (.lst ((List.range N.nk).map fun i => V.ref (ps i))) ∧ ∀ i, i < N.nk → H (ps i) = some (.tup [.str (N.k i), .ref (ta i)]) ∧ H (ta i) = some (.lst (B.row N i))
theorem KindsIn.mono {H H' : L2.Hp} {a : Addr} {N : Nm} {B : IB} (h : KindsIn H a N B) (s : Same H H') : KindsIn H' a N B := let ⟨ps, ta, h1, h2⟩ := h; ⟨ps, ta, s _ _ h1, fun i hi => ⟨s _ _ (h2 i hi).1, s _ _ (h2 i hi).2⟩⟩
theorem range_at {n i : Nat} (h : i < n) : (List.range n)[i]? = some i := by rw [List.getElem?_range h]
theorem range_is {n i j : Nat} (h : (List.range n)[i]? = some j) : j = i ∧ i < n := by
  have hl := (List.getElem?_eq_some_iff.mp h).1
  rw [List.length_range] at hl
  rw [range_at hl] at h
  exact ⟨(Option.some.inj h).symm, hl⟩
theorem nodup_map_inj {α β : Type} {f : α → β} : ∀ {l : List α}, l.Nodup → (∀ a b, a ∈ l → b ∈ l → f a = f b → a = b) → (l.map f).Nodup
  | [], _, _ => List.nodup_nil
  | a :: l, h, inj => by
    obtain ⟨h1, h2⟩ := List.nodup_cons.mp h
    rw [List.map_cons, List.nodup_cons]
    refine ⟨fun hm => ?_, nodup_map_inj h2 fun x y hx hy => inj x y (List.mem_cons_of_mem _ hx) (List.mem_cons_of_mem _ hy)⟩
    obtain ⟨b, hb, e⟩ := List.mem_map.mp hm
    have := inj b a (List.mem_cons_of_mem _ hb) List.mem_cons_self e
    rw [this] at hb
    exact h1 hb
theorem Nm.Ok.vnd {N : Nm} (h : N.Ok) : N.vs.Nodup := nodup_map_inj List.nodup_range fun a b ha hb => h.vinj a b (List.mem_range.mp ha) (List.mem_range.mp hb)
theorem Nm.Ok.knd {N : Nm} (h : N.Ok) : N.ks.Nodup := nodup_map_inj List.nodup_range fun a b ha hb => h.kinj a b (List.mem_range.mp ha) (List.mem_range.mp hb)
theorem Nm.Ok.vmem {N : Nm} (h : N.Ok) : ∀ z ∈ N.vs, z ∈ W44 := fun z hz => by
  obtain ⟨i, hi, rfl⟩ := List.mem_map.mp hz
  exact h.vin i (List.mem_range.mp hi)
theorem Nm.Ok.kmem {N : Nm} (h : N.Ok) : ∀ z ∈ N.ks, z ∈ W44 := fun z hz => by
  obtain ⟨i, hi, rfl⟩ := List.mem_map.mp hz
  exact h.kin i (List.mem_range.mp hi)
theorem Nm.vs_len (N : Nm) : N.vs.length = N.nv := by unfold Nm.vs; rw [List.length_map, List.length_range]
theorem Nm.ks_len (N : Nm) : N.ks.length = N.nk := by unfold Nm.ks; rw [List.length_map, List.length_range]
theorem IB.row_len (N : Nm) (B : IB) (i : Nat) : (B.row N i).length = N.nv := by unfold IB.row; rw [List.length_map, List.length_range]
structure RowD where
  letter : Str
  tests : List Str
  deeds : List Str
def rwF (le te de : V) : List (Str × V) := [("letter", le), ("tests", te), ("deeds", de)]
def RowAt (K : PySem.W.Frag) (H : L2.Hp) (a : Addr) (r : RowD) : Prop := ∃ dx at_ ad : Addr, H a = some (.ins (He.ga K "Row") dx (rwF (.str r.letter) (.ref at_) (.ref ad))) ∧ H at_ = some (.tup (stL r.tests)) ∧ H ad = some (.tup (stL r.deeds))
theorem RowAt.mono {K : PySem.W.Frag} {H H' : L2.Hp} {a : Addr} {r : RowD} (h : RowAt K H a r) (s : Same H H') : RowAt K H' a r := by
  obtain ⟨dx, a1, a2, h1, h2, h3⟩ := h
  exact ⟨dx, a1, a2, s _ _ h1, s _ _ h2, s _ _ h3⟩
def PageAt (K : PySem.W.Frag) (H : L2.Hp) (a : Addr) (rows : List RowD) : Prop := ∃ (dx ar : Addr) (ras : List Addr), H a = some (.ins (He.ga K "Page") dx [("rows", V.ref ar)]) ∧ H ar = some (.tup (ras.map V.ref)) ∧ ras.length = rows.length ∧
  ∀ (i : Nat) (ra : Addr) (r : RowD), ras[i]? = some ra → rows[i]? = some r → RowAt K H ra r
theorem PageAt.mono {K : PySem.W.Frag} {H H' : L2.Hp} {a : Addr} {rows : List RowD} (h : PageAt K H a rows) (s : Same H H') : PageAt K H' a rows := by
  obtain ⟨dx, ar, ras, h1, h2, h3, h4⟩ := h
  exact ⟨dx, ar, ras, s _ _ h1, s _ _ h2, h3, fun i ra r e1 e2 => (h4 i ra r e1 e2).mono s⟩
/-- tests and deeds that a row may have -/
def ansT : List Str := ["old", "all", "open", "same", "first", "gone"]
def lstT : List Str := ["old", "all", "open", "same"]
def ansD : List Str := ["take", "do", "drop", "sweep", "clear"]
def lstD : List Str := ["take", "sweep", "clear"]
def tOk (letter t : Str) : Prop := t ∈ allTests ∧ (letter = "list" → plainT t ∈ lstT)
def dOk (letter d : Str) : Prop := d ∈ ansD ∧ (letter = "list" → d ∈ lstD)
structure RowD.Ok (r : RowD) : Prop where
  l : r.letter ∈ tv_LETTERS
  t : ∀ t ∈ r.tests, tOk r.letter t
  d : ∀ d ∈ r.deeds, dOk r.letter d
  tn : r.tests.length ≤ 10
  dn : r.deeds.length ≤ 10
/-! slices -/
theorem cutV_upto (xs : List V) (i : Nat) (h : i ≤ xs.length) : cutV xs none (some (i : Int)) = xs.take i := by
  unfold cutV
  rw [HT.sIx_none, HT.sIx_nat, Nat.min_eq_left h, List.drop_zero, Nat.sub_zero]
theorem cutV_from (xs : List V) (i : Nat) (h : i ≤ xs.length) : cutV xs (some (i : Int)) none = xs.drop i := by
  unfold cutV
  rw [HT.sIx_none, HT.sIx_nat, Nat.min_eq_left h, List.take_of_length_le]
  rw [List.length_drop]
  exact Nat.le_refl _
theorem stL_len (l : List Str) : (stL l).length = l.length := List.length_map ..
theorem inL_len (l : List Nat) : (inL l).length = l.length := List.length_map ..
theorem map_at {α β : Type} {f : α → β} {l : List α} {i : Nat} {x : α} (h : l[i]? = some x) : (l.map f)[i]? = some (f x) := by rw [List.getElem?_map, h]; rfl
theorem stL_at {l : List Str} {i : Nat} {z : Str} (h : l[i]? = some z) : (stL l)[i]? = some (.str z) := map_at h
theorem map_un {α β : Type} {f : α → β} {l : List α} {i : Nat} {x : α} {y : β} (h : l[i]? = some x) (e : (l.map f)[i]? = some y) : y = f x := Option.some.inj (e.symm.trans (map_at h))
theorem valV_none {kvs : List (L2.Key × V)} {k : L2.Key} (h : ∀ p ∈ kvs, p.1 = k → False) : valV kvs k = none := by
  unfold valV
  rw [List.find?_eq_none.mpr fun p hp => by
    rw [decide_eq_true_eq]
    exact h p hp]
  rfl
theorem valV_app {kvs : List (L2.Key × V)} {k : L2.Key} {p : L2.Key × V} (h : ∀ p ∈ kvs, p.1 = k → False) (e : p.1 = k) (more : List (L2.Key × V)) : valV (kvs ++ p :: more) k = some p.2 := by
  unfold valV
  rw [List.find?_append, List.find?_eq_none.mpr fun p hp => by
    rw [decide_eq_true_eq]
    exact h p hp]
  rw [List.find?_cons, decide_eq_true e]
  rfl
theorem valV_range (f : Nat → Str) (g : Nat → V) : ∀ {n i : Nat}, i < n → (∀ j, j < n → f j = f i → j = i) → valV ((List.range n).map fun j => ((Sum.inr (f j) : L2.Key), g j)) (Sum.inr (f i)) = some (g i) := fun {n i} hi inj => by
  have e : (List.range n).map (fun j => ((Sum.inr (f j) : L2.Key), g j)) = (List.range i).map (fun j => ((Sum.inr (f j) : L2.Key), g j)) ++ (Sum.inr (f i), g i) :: (List.range' (i + 1) (n - (i + 1))).map (fun j => ((Sum.inr (f j) : L2.Key), g j)) := by
    have h2 : List.range n = List.range i ++ i :: List.range' (i + 1) (n - (i + 1)) := by
      obtain ⟨m, rfl⟩ : ∃ m, n = i + (m + 1) := ⟨n - (i + 1), by omega⟩
      rw [List.range_eq_range', List.range_eq_range', ← List.range'_append_1, List.range'_succ, Nat.zero_add, show i + (m + 1) - (i + 1) = m by omega]
    rw [h2, List.map_append, List.map_cons]
  rw [e]
  refine valV_app (fun p hp ep => ?_) rfl _
  obtain ⟨j, hj, rfl⟩ := List.mem_map.mp hp
  have hj' := List.mem_range.mp hj
  have := inj j (by omega) (Sum.inr.inj ep)
  omega
theorem small {n : Nat} (h : n ≤ 100000) : n ≤ sizeLine := Nat.le_trans h (by decide)
theorem smallL {n : Nat} (h : n ≤ 100000) : n < sizeLine := Nat.lt_of_le_of_lt h (by decide)
theorem dec_strV (a b : Str) : decide (V.str a = V.str b) = decide (a = b) := by
  by_cases h : a = b
  · simp [h]
  · have h2 : ¬ V.str a = V.str b := fun e => h (V.str.inj e)
    simp [h, h2]
theorem dec_intV (a b : Int) : decide (V.int a = V.int b) = decide (a = b) := by
  by_cases h : a = b
  · simp [h]
  · have h2 : ¬ V.int a = V.int b := fun e => h (V.int.inj e)
    simp [h, h2]
end Hp
set_option Elab.async false
set_option linter.all false
set_option maxRecDepth 100000
set_option maxHeartbeats 4000000
namespace Hp
open PySem PySem.Spec PyProof.Rows L2
section
variable {P : Program} {w : World} {K : PySem.W.Frag} {mg : Str → Option Value} {base : Heap}
/-- a list -/
def spIsSeq : Sp := fun vs H Q _ => ∃ (a : Addr) (xs : List V), vs = [.ref a] ∧ H a = some (.lst xs) ∧ ∀ H', Same H H' → Q (.bl true) H'
theorem h_is_sequence (C : Ctx K mg) : ∃ fd, Has P w K mg base 1 (He.fAd K ("is_sequence", none)) ["value"] spIsSeq fd := by
  refine has_of C.fn_is_sequence sc_is_sequence (fun vs H Q E h => ?_) (fun cdv A outer s H vs Q E hr h => ?_)
  · obtain ⟨a, xs, rfl, _⟩ := h
    rfl
  · obtain ⟨a, xs, rfl, ha, k⟩ := h
    refine ⟨_, pss_one (ps_ret (pe_callB call_isiT (by rfl) C.f_isinstance boot_isinstance (pa_cons (pv 0) (pa_cons (pe_tup (pa_cons (pe_bltn (v := .ty "list") (by rfl) C.f_list boot_list rfl) (pa_cons (pe_bltn (v := .ty "tuple") (by rfl) C.f_tuple boot_tuple rfl) pa_nil))) pa_nil)))), ?_⟩
    refine ⟨_, rfl, (by show 2 ≤ sizeLine; decide), fun p hp => ?_⟩
    exact ⟨.ref a, p, [.ty "list", .ty "tuple"], .type "list", [.type "list", .type "tuple"], true, rfl, upd_same, .cons (.ty _) (.cons (.ty _) .nil), TyX.base (TyOf.lst (same_new hp _ _ ha)), kitAny_cons (b := true) (kit_ty (by decide +kernel)) (fun h => by cases h) (fun _ => rfl), k _ (same_new hp)⟩
/-- names, all different -/
def spAreNames : Sp := fun vs H Q _ => ∃ (a : Addr) (zs : List Str), vs = [.ref a] ∧ H a = some (.lst (stL zs)) ∧ (∀ z ∈ zs, z ∈ W44) ∧ zs.Nodup ∧ zs.length ≤ 1000 ∧ ∀ H', Same H H' → Q (.bl true) H'
theorem h_are_names (C : Ctx K mg) : ∃ fd, Has P w K mg base 2 (He.fAd K ("are_names", none)) ["value"] spAreNames fd := by
  obtain ⟨fdS, GS⟩ := h_is_sequence (P := P) (w := w) (base := base) C
  obtain ⟨fdN, GN⟩ := h_is_name (P := P) (w := w) (base := base) C
  refine has_of C.fn_are_names sc_are_names (fun vs H Q E h => ?_) (fun cdv A outer s H vs Q E hr h => ?_)
  · obtain ⟨a, zs, rfl, _⟩ := h
    rfl
  · obtain ⟨a, zs, rfl, ha, hin, hnd, hlen, k⟩ := h
    have nd := sc_are_names.nd
    refine ⟨_, pss_cons (ps_if (pt_not (pt_val (pe_call GS.ok hr (by rfl) C.g_is_sequence GS.kp GS.b .nil pass0 (pa_cons (pv 0) pa_nil)))) (pss_one (ps_ret pe_bl)) pss_nil)
      (pss_one (ps_ret (pe_callB (cr_all rfl) (by rfl) C.f_all (by decide +kernel) (pa_cons (pe_lc (own := [("at", 1), ("name", 2)]) (g := gTup K 2 (gCons (gName 1) (gCons (gName 2) gNil))) (tt := tYes) rfl nd (pi_enum (by rfl) C.f_enumerate (pa_cons (pv 0) pa_nil)) (blkOk_by (N := N_are_names) (sc := defScope s_are_names) (by decide +kernel))
        (fun _ _ _ _ _ => pg_tup rfl (pgs_cons (pg_name (i := 1) nd rfl (Or.inl rfl)) (pgs_cons (pg_name (i := 2) nd rfl (Or.inl rfl)) pgs_nil))) (fun _ _ _ _ _ => pts_nil)
        (fun _ _ _ _ _ => pe_and (pe_call GN.ok hr (by rfl) C.g_is_name GN.kp GN.b .nil pass0 (pa_cons (pv 2) pa_nil)) (pe_one (pe_cmpR (op_notInK K) (pv 2) (pe_slice (sl_listK K) (pv 0) po_none (po_some (pv 1))) (by rfl))))) pa_nil)))), ?_⟩
    refine ⟨_, rfl, a, _, rfl, ha, fun H1 s1 => ⟨true, rfl, iteF ?_⟩⟩
    refine ⟨_, rfl, a, _, rfl, SqL.of (s1 _ _ ha), fun D hD => ?_⟩
    refine lc_m walk_enum zs (stL_len zs) (small (by omega)) (fun _ => .bl true) hD (fun H2 s2 => SqL.of (s2 _ _ (s1 _ _ ha))) (fun i z x H2 H3 Qy Qn hi s2 y k1 => ?_) (fun H2 s2 hL => ?_)
    · obtain ⟨T, x1, y1, rfl, hT, rfl, e1, e2⟩ := y
      cases e1
      obtain rfl : y1 = .str z := map_un hi e2
      have ha3 := same_new (o := .tup [.int (i : Nat), .str z]) hT _ _ (s2 _ _ (s1 _ _ ha))
      refine ⟨T, _, rfl, SqT.of upd_same, rfl, _, _, rfl, _, _, rfl, rfl, rfl, yesT ?_⟩
      refine ⟨_, rfl, z, rfl, hin z (List.mem_of_getElem? hi), fun H4 s4 => ⟨true, rfl, iteT ?_⟩⟩
      refine ⟨_, rfl, _, rfl, _, rfl, i, rfl, a, _, rfl, SqL.of (s4 _ _ ha3), fun p hp => ?_⟩
      have hlt : i < zs.length := (List.getElem?_eq_some_iff.mp hi).1
      refine ⟨p, _, rfl, .inl (SqL.of upd_same), rfl, ?_, ?_⟩
      · rw [cutV_upto _ _ (by rw [stL_len]; omega)]
        unfold stL
        rw [← List.map_take]
        exact flat_strs _
      · rw [cutV_upto _ _ (by rw [stL_len]; omega)]
        unfold stL
        rw [← List.map_take]
        show Qy (.bl (!inV (.str z) ((zs.take i).map V.str))) _
        rw [inV_strs, decide_eq_false (fun hm => ?_)]
        · exact k1 _ ((same_new hT).trans (s4.trans (same_new hp)))
        · obtain ⟨j, hj⟩ := List.mem_iff_getElem?.mp hm
          have hjl := (List.getElem?_eq_some_iff.mp hj).1
          rw [List.length_take] at hjl
          rw [List.getElem?_take_of_lt (by omega)] at hj
          have := nodup_ix hnd hj hi
          omega
    · refine ⟨D, zs.map fun _ => true, rfl, SqL.of (by rw [hL, List.map_map]; rfl), ?_⟩
      rw [all_true]
      exact k _ (s1.trans s2)
/-- some of the names b, all different -/
def spAreSome : Sp := fun vs H Q _ => ∃ (a b : Addr) (zs ks : List Str), vs = [.ref a, .ref b] ∧ H a = some (.lst (stL zs)) ∧ H b = some (.tup (stL ks)) ∧ (∀ z ∈ zs, z ∈ W44) ∧ zs.Nodup ∧ zs.length ≤ 1000 ∧ (∀ z ∈ zs, z ∈ ks) ∧ ∀ H', Same H H' → Q (.bl true) H'
theorem h_are_some (C : Ctx K mg) : ∃ fd, Has P w K mg base 3 (He.fAd K ("are_some", none)) ["value", "names"] spAreSome fd := by
  obtain ⟨fdN, GN⟩ := h_are_names (P := P) (w := w) (base := base) C
  refine has_of C.fn_are_some sc_are_some (fun vs H Q E h => ?_) (fun cdv A outer s H vs Q E hr h => ?_)
  · obtain ⟨a, b, zs, ks, rfl, _⟩ := h
    rfl
  · obtain ⟨a, b, zs, ks, rfl, ha, hb, hin, hnd, hlen, hsub, k⟩ := h
    have nd := sc_are_some.nd
    refine ⟨_, pss_one (ps_ret (pe_and (pe_call GN.ok hr (by rfl) C.g_are_names GN.kp GN.b .nil pass0 (pa_cons (pv 0) pa_nil)) (pe_one (pe_callB (cr_all rfl) (by rfl) C.f_all (by decide +kernel) (pa_cons (pe_lc (own := [("name", 2)]) (g := gName 2) (tt := tYes) rfl nd (pi_list (pv 0)) (blkOk_by (N := N_are_some) (sc := defScope s_are_some) (by decide +kernel))
        (fun _ _ _ _ _ => pg_name (i := 2) nd rfl (Or.inl rfl)) (fun _ _ _ _ _ => pts_nil) (fun _ _ _ _ _ => pe_cmpR (op_inK K) (pv 2) (pv 1) (by rfl))) pa_nil))))), ?_⟩
    refine ⟨_, rfl, a, zs, rfl, ha, hin, hnd, hlen, fun H1 s1 => ⟨true, rfl, iteT ?_⟩⟩
    refine ⟨_, rfl, a, rfl, ⟨_, SqL.of (s1 _ _ ha)⟩, fun D hD => ?_⟩
    refine lc_m walk_list zs (stL_len zs) (small (by omega)) (fun _ => .bl true) hD (fun H2 s2 => SqL.of (s2 _ _ (s1 _ _ ha))) (fun i z x H2 H3 Qy Qn hi s2 y k1 => ?_) (fun H2 s2 hL => ?_)
    · obtain ⟨rfl, e2⟩ := y
      obtain rfl : x = .str z := map_un hi e2
      refine ⟨rfl, yesT ⟨_, rfl, _, rfl, b, _, rfl, .inr (SqT.of (s2 _ _ (s1 _ _ hb))), rfl, flat_strs _, ?_⟩⟩
      show Qy (.bl (inV (.str z) (ks.map V.str))) _
      rw [inV_strs, decide_eq_true (hsub z (List.mem_of_getElem? hi))]
      exact k1 _ (Same.refl _)
    · refine ⟨D, zs.map fun _ => true, rfl, SqL.of (by rw [hL, List.map_map]; rfl), ?_⟩
      rw [all_true]
      exact k _ (s1.trans s2)
/-- a value or None for each of some values -/
def spIsTargets : Sp := fun vs H Q _ => ∃ (a b : Addr) (xs : List V) (zs : List Str), vs = [.ref a, .ref b] ∧ H a = some (.lst xs) ∧ H b = some (.lst (stL zs)) ∧ xs.length = zs.length ∧ zs.length ≤ 1000 ∧ (∀ z ∈ zs, z ∈ W44) ∧ (∀ x ∈ xs, x = .non ∨ ∃ z ∈ zs, x = .str z) ∧ ∀ H', Same H H' → Q (.bl true) H'
theorem h_is_targets (C : Ctx K mg) : ∃ fd, Has P w K mg base 2 (He.fAd K ("is_targets", none)) ["value", "values"] spIsTargets fd := by
  obtain ⟨fdS, GS⟩ := h_is_sequence (P := P) (w := w) (base := base) C
  obtain ⟨fdN, GN⟩ := h_is_name (P := P) (w := w) (base := base) C
  refine has_of C.fn_is_targets sc_is_targets (fun vs H Q E h => ?_) (fun cdv A outer s H vs Q E hr h => ?_)
  · obtain ⟨a, b, zs, ks, rfl, _⟩ := h
    rfl
  · obtain ⟨a, b, xs, zs, rfl, ha, hb, hlen, hlen2, hin, hx, k⟩ := h
    have nd := sc_is_targets.nd
    refine ⟨_, pss_cons (ps_if (PW.pt (pw_or (pt_not (pt_val (pe_call GS.ok hr (by rfl) C.g_is_sequence GS.kp GS.b .nil pass0 (pa_cons (pv 0) pa_nil)))) (pw_or1 (pt_cmpR op_ne (pe_callB call_len_seq (by rfl) C.f_len boot_len (pa_cons (pv 0) pa_nil)) (pe_callB call_len_seq (by rfl) C.f_len boot_len (pa_cons (pv 1) pa_nil)) (nomark _))))) (pss_one (ps_ret pe_bl)) pss_nil)
      (pss_one (ps_ret (pe_callB (cr_all rfl) (by rfl) C.f_all (by decide +kernel) (pa_cons (pe_lc (own := [("one", 2)]) (g := gName 2) (tt := tYes) rfl nd (pi_list (pv 0)) (blkOk_by (N := N_is_targets) (sc := defScope s_is_targets) (by decide +kernel))
        (fun _ _ _ _ _ => pg_name (i := 2) nd rfl (Or.inl rfl)) (fun _ _ _ _ _ => pts_nil) (fun _ _ _ _ _ => pe_or (pe_cmpR op_isN (pv 2) pe_non (nomark _)) (pe_one (pe_and (pe_call GN.ok hr (by rfl) C.g_is_name GN.kp GN.b .nil pass0 (pa_cons (pv 2) pa_nil)) (pe_one (pe_cmpR (op_inK K) (pv 2) (pv 1) (by rfl))))))) pa_nil)))), ?_⟩
    refine ⟨_, rfl, a, _, rfl, ha, fun H1 s1 => ⟨true, rfl, iteF ?_⟩⟩
    refine ⟨_, rfl, a, _, rfl, .inl (SqL.of (s1 _ _ ha)), _, rfl, b, _, rfl, .inl (SqL.of (s1 _ _ hb)), rfl, _, rfl, ifF (by rw [dec_intV]; simp [stL_len, hlen]) ?_⟩
    refine ⟨_, rfl, a, rfl, ⟨_, SqL.of (s1 _ _ ha)⟩, fun D hD => ?_⟩
    refine lc_m walk_list xs rfl (small (by omega)) (fun _ => .bl true) hD (fun H2 s2 => SqL.of (s2 _ _ (s1 _ _ ha))) (fun i z x H2 H3 Qy Qn hi s2 y k1 => ?_) (fun H2 s2 hL => ?_)
    · obtain ⟨rfl, e2⟩ := y
      obtain rfl : z = x := Option.some.inj (hi.symm.trans e2)
      refine ⟨rfl, yesT ⟨_, rfl, rfl, _, rfl, ?_⟩⟩
      rcases hx z (List.mem_of_getElem? hi) with rfl | ⟨z', hz', rfl⟩
      · exact ifT (by decide) (k1 _ (Same.refl _))
      · refine ifF (by simp) ⟨_, rfl, z', rfl, hin z' hz', fun H4 s4 => ⟨true, rfl, iteT ⟨_, rfl, _, rfl, b, _, rfl, .inl (SqL.of (s4 _ _ (s2 _ _ (s1 _ _ hb)))), rfl, flat_strs _, ?_⟩⟩⟩
        show Qy (.bl (inV (.str z') (zs.map V.str))) _
        rw [inV_strs, decide_eq_true hz']
        exact k1 _ s4
    · refine ⟨D, xs.map fun _ => true, rfl, SqL.of (by rw [hL, List.map_map]; rfl), ?_⟩
      rw [all_true]
      exact k _ (s1.trans s2)
end
end Hp
set_option Elab.async false
set_option linter.all false
set_option maxRecDepth 100000
set_option maxHeartbeats 4000000
namespace Hp
open PySem PySem.Spec PyProof.Rows L2
theorem row_ok {N : Nm} {B : IB} (hB : IB.Ok N B) {i : Nat} (hi : i < N.nk) : ∀ x ∈ B.row N i, x = .non ∨ ∃ z ∈ N.vs, x = .str z := fun x hx => by
  obtain ⟨j, hj, rfl⟩ := List.mem_map.mp hx
  cases e : B.tg i j with
  | none => exact .inl rfl
  | some t => exact .inr ⟨N.v t, List.mem_map.mpr ⟨t, List.mem_range.mpr (hB i j t hi (List.mem_range.mp hj) e), rfl⟩, rfl⟩
theorem range_len (n : Nat) : (List.range n).length = n := List.length_range
section
variable {P : Program} {w : World} {K : PySem.W.Frag} {mg : Str → Option Value} {base : Heap}
def spAreKinds : Sp := fun vs H Q _ => ∃ (a b : Addr) (N : Nm) (B : IB), vs = [.ref a, .ref b] ∧ KindsIn H a N B ∧ H b = some (.lst (stL N.vs)) ∧ N.Ok ∧ B.Ok N ∧ ∀ H', Same H H' → Q (.bl true) H'
theorem h_are_kinds (C : Ctx K mg) : ∃ fd, Has P w K mg base 3 (He.fAd K ("are_kinds", none)) ["value", "values"] spAreKinds fd := by
  obtain ⟨fdS, GS⟩ := h_is_sequence (P := P) (w := w) (base := base) C
  obtain ⟨fdN, GN⟩ := h_are_names (P := P) (w := w) (base := base) C
  obtain ⟨fdT, GT⟩ := h_is_targets (P := P) (w := w) (base := base) C
  refine has_of C.fn_are_kinds sc_are_kinds (fun vs H Q E h => ?_) (fun cdv A outer s H vs Q E hr h => ?_)
  · obtain ⟨a, b, N, B, rfl, _⟩ := h
    rfl
  · obtain ⟨a, b, N, B, rfl, ⟨ps, ta, ha, hps⟩, hb, hN, hB, k⟩ := h
    have nd := sc_are_kinds.nd
    have hr1 : Room 1 _ := hr.mono (by decide)
    have hz : (List.range N.nk).length ≤ sizeLine := small (by rw [range_len]; have := hN.k3; omega)
    refine ⟨_, pss_cons (ps_if (PW.pt (pw_or (pt_not (pt_val (pe_call GS.ok hr1 (by rfl) C.g_is_sequence GS.kp GS.b .nil pass0 (pa_cons (pv 0) pa_nil)))) (pw_or1 (pt_not (pt_val (pe_callB (cr_all rfl) (by rfl) C.f_all (by decide +kernel) (pa_cons (pe_lc (own := [("one", 2)]) (g := gName 2) (tt := tYes) rfl nd (pi_list (pv 0)) (blkOk_by (N := N_are_kinds) (sc := defScope s_are_kinds) (by decide +kernel))
        (fun _ _ _ _ _ => pg_name (i := 2) nd rfl (Or.inl rfl)) (fun _ _ _ _ _ => pts_nil) (fun _ _ _ _ _ => pe_and (pe_callB (call_isiK' K) (by rfl) C.f_isinstance boot_isinstance (pa_cons (pv 2) (pa_cons (pe_bltn (v := .ty "tuple") (by rfl) C.f_tuple boot_tuple rfl) pa_nil))) (pe_one (pe_cmpR op_eq (pe_callB (call_lenK K) (by rfl) C.f_len boot_len (pa_cons (pv 2) pa_nil)) pe_int (nomark _))))) pa_nil))))))) (pss_one (ps_ret pe_bl)) pss_nil)
      (pss_one (ps_ret (pe_and (pe_call GN.ok hr (by rfl) C.g_are_names GN.kp GN.b .nil pass0 (pa_cons (pe_lc (own := [("one", 2)]) (g := gName 2) (tt := tYes) rfl nd (pi_list (pv 0)) (blkOk_by (N := N_are_kinds) (sc := defScope s_are_kinds) (by decide +kernel))
        (fun _ _ _ _ _ => pg_name (i := 2) nd rfl (Or.inl rfl)) (fun _ _ _ _ _ => pts_nil) (fun _ _ _ _ _ => pe_ix (ix_tupK K) (pv 2) pe_int (fun _ _ => rfl))) pa_nil))
      (pe_one (pe_callB (cr_all rfl) (by rfl) C.f_all (by decide +kernel) (pa_cons (pe_lc (own := [("one", 2)]) (g := gName 2) (tt := tYes) rfl nd (pi_list (pv 0)) (blkOk_by (N := N_are_kinds) (sc := defScope s_are_kinds) (by decide +kernel))
        (fun _ _ _ _ _ => pg_name (i := 2) nd rfl (Or.inl rfl)) (fun _ _ _ _ _ => pts_nil) (fun _ _ _ _ _ => pe_call GT.ok hr (by rfl) C.g_is_targets GT.kp GT.b .nil pass0 (pa_cons (pe_ix (ix_tupK K) (pv 2) pe_int (fun _ _ => rfl)) (pa_cons (pv 1) pa_nil)))) pa_nil)))))), ?_⟩
    refine ⟨_, rfl, a, _, rfl, ha, fun H1 s1 => ⟨true, rfl, iteF ?_⟩⟩
    refine ⟨_, rfl, a, rfl, ⟨_, SqL.of (s1 _ _ ha)⟩, fun D hD => ?_⟩
    refine lc_m walk_list (List.range N.nk) (List.length_map ..) hz (fun _ => .bl true) hD (fun H2 s2 => SqL.of (s2 _ _ (s1 _ _ ha))) (fun i z x H2 H3 Qy Qn hi s2 y k1 => ?_) (fun H2 s2 hL => ?_)
    · obtain ⟨rfl, e2⟩ := y
      obtain rfl : x = .ref (ps z) := map_un (f := fun i => V.ref (ps i)) hi e2
      obtain ⟨rfl, hlt⟩ := range_is hi
      have hp := s2 _ _ (s1 _ _ (hps z hlt).1)
      refine ⟨rfl, yesT ⟨_, rfl, .ref (ps z), .ty "tuple", .type "tuple", .type "tuple", true, rfl, ClsV.ty _, TyX.base (TyOf.tup hp), kit_ty (by decide +kernel), true, rfl, iteT ?_⟩⟩
      exact ⟨_, rfl, _, 2, rfl, .inr ⟨_, SqT.of hp, rfl⟩, rfl, k1 _ (Same.refl _)⟩
    · refine ⟨D, (List.range N.nk).map fun _ => true, rfl, SqL.of (by rw [hL, List.map_map]; rfl), ?_⟩
      rw [all_true]
      refine ⟨true, rfl, iteF ?_⟩
      have s12 := s1.trans s2
      refine ⟨_, rfl, a, rfl, ⟨_, SqL.of (s12 _ _ ha)⟩, fun D hD => ?_⟩
      refine lc_m walk_list (List.range N.nk) (List.length_map ..) hz (fun i => .str (N.k i)) hD (fun H3 s3 => SqL.of (s3 _ _ (s12 _ _ ha))) (fun i z x H3 H4 Qy Qn hi s3 y k1 => ?_) (fun H3 s3 hL => ?_)
      · obtain ⟨rfl, e2⟩ := y
        obtain rfl : x = .ref (ps z) := map_un (f := fun i => V.ref (ps i)) hi e2
        obtain ⟨rfl, hlt⟩ := range_is hi
        have hp := s3 _ _ (s12 _ _ (hps z hlt).1)
        exact ⟨rfl, yesT ⟨_, rfl, ps z, _, 0, .str (N.k z), rfl, rfl, SqT.of hp, rfl, k1 _ (Same.refl _)⟩⟩
      · refine ⟨D, N.ks, rfl, (by rw [hL]; unfold stL Nm.ks; rw [List.map_map]; rfl), hN.kmem, hN.knd, (by rw [N.ks_len]; have := hN.k3; omega), fun H4 s4 => ⟨true, rfl, iteT ?_⟩⟩
        have s14 := s12.trans (s3.trans s4)
        refine ⟨_, rfl, a, rfl, ⟨_, SqL.of (s14 _ _ ha)⟩, fun D hD => ?_⟩
        refine lc_m walk_list (List.range N.nk) (List.length_map ..) hz (fun i => .bl true) hD (fun H5 s5 => SqL.of (s5 _ _ (s14 _ _ ha))) (fun i z x H5 H6 Qy Qn hi s5 y k1 => ?_) (fun H5 s5 hL => ?_)
        · obtain ⟨rfl, e2⟩ := y
          obtain rfl : x = .ref (ps z) := map_un (f := fun i => V.ref (ps i)) hi e2
          obtain ⟨rfl, hlt⟩ := range_is hi
          have hp := s5 _ _ (s14 _ _ (hps z hlt).1)
          have ht := s5 _ _ (s14 _ _ (hps z hlt).2)
          exact ⟨rfl, yesT ⟨_, rfl, ps z, _, 1, .ref (ta z), rfl, rfl, SqT.of hp, rfl, _, rfl, ta z, b, _, N.vs, rfl, ht, s5 _ _ (s14 _ _ hb), (by rw [B.row_len, N.vs_len]), (by rw [N.vs_len]; have := hN.v3; omega), hN.vmem, row_ok hB hlt, fun H7 s7 => k1 _ s7⟩⟩
        · refine ⟨D, (List.range N.nk).map fun _ => true, rfl, SqL.of (by rw [hL, List.map_map]; rfl), ?_⟩
          rw [all_true]
          exact k _ (s14.trans s5)
/-- all but what stands at p is kept -/
def Kp (p : Addr) (H H' : L2.Hp) : Prop := ∀ b o, H b = some o → b ≠ p → H' b = some o
theorem Kp.of {p : Addr} {H H' : L2.Hp} (s : Same H H') : Kp p H H' := fun b o e _ => s b o e
theorem Kp.trans {p : Addr} {H H1 H2 : L2.Hp} (a : Kp p H H1) (b : Kp p H1 H2) : Kp p H H2 := fun c o e h => b c o (a c o e h) h
theorem Kp.put {p : Addr} {H H1 : L2.Hp} {o : HO} (a : Kp p H H1) : Kp p H (upd H1 p o) := fun c u e h => by rw [upd_ne h]; exact a c u e h
theorem Kp.new {p q : Addr} {H H1 : L2.Hp} {o : HO} (a : Kp p H H1) (n : H1 q = none) : Kp p H (upd H1 q o) := a.trans (.of (same_new n))
abbrev bk1 (c : Addr) : List (Str × V) := putF "choices" (.ref c) []
abbrev bk2 (c q : Addr) : List (Str × V) := putF "kinds" (.ref q) (bk1 c)
abbrev bk3 (c q d : Addr) : List (Str × V) := putF "targets" (.ref d) (bk2 c q)
abbrev bk4 (c q d l : Addr) : List (Str × V) := putF "loose" (.ref l) (bk3 c q d)
abbrev bk5 (c q d l o : Addr) : List (Str × V) := putF "others" (.ref o) (bk4 c q d l)
def spBookInit (K : PySem.W.Frag) : Sp := fun vs H Q _ => ∃ (p dx ac ak al ao : Addr) (N : Nm) (B : IB) (L O : List Nat), vs = [.ref p, .ref ac, .ref ak, .ref al, .ref ao] ∧ H p = some (.ins (He.ga K "Book") dx []) ∧ H ac = some (.lst (stL N.vs)) ∧ KindsIn H ak N B ∧
  H al = some (.lst (stL (L.map N.k))) ∧ H ao = some (.lst (stL (O.map N.k))) ∧ N.Ok ∧ B.Ok N ∧ L.Nodup ∧ O.Nodup ∧ (∀ i ∈ L, i < N.nk) ∧ (∀ i ∈ O, i < N.nk) ∧ L.length ≤ 100 ∧ O.length ≤ 100 ∧ (∀ i, i < N.nk → B.loose i = decide (i ∈ L)) ∧ (∀ i, i < N.nk → B.others i = decide (i ∈ O)) ∧
  ∀ H', Kp p H H' → BookAt K H' p N B → Q .non H'
theorem some_ok {N : Nm} (hN : N.Ok) {L : List Nat} (nd : L.Nodup) (hl : ∀ i ∈ L, i < N.nk) : (∀ z ∈ L.map N.k, z ∈ W44) ∧ (L.map N.k).Nodup ∧ (∀ z ∈ L.map N.k, z ∈ N.ks) := by
  refine ⟨fun z hz => ?_, nodup_map_inj nd fun a b ha hb => hN.kinj a b (hl a ha) (hl b hb), fun z hz => ?_⟩
  · obtain ⟨i, hi, rfl⟩ := List.mem_map.mp hz
    exact hN.kin i (hl i hi)
  · obtain ⟨i, hi, rfl⟩ := List.mem_map.mp hz
    exact List.mem_map.mpr ⟨i, List.mem_range.mpr (hl i hi), rfl⟩
theorem in_some {N : Nm} (hN : N.Ok) {L : List Nat} (hl : ∀ i ∈ L, i < N.nk) {i : Nat} (hi : i < N.nk) : decide (N.k i ∈ L.map N.k) = decide (i ∈ L) := by
  by_cases h : i ∈ L
  · rw [decide_eq_true h, decide_eq_true (List.mem_map.mpr ⟨i, h, rfl⟩)]
  · rw [decide_eq_false h, decide_eq_false fun hm => ?_]
    obtain ⟨j, hj, e⟩ := List.mem_map.mp hm
    rw [hN.kinj j i (hl j hj) hi e] at hj
    exact h hj
theorem h_book_init (C : Ctx K mg) : ∃ fd, Has P w K mg base 4 (He.fAd K ("Book", some "__init__")) ["self", "choices", "kinds", "loose", "others"] (spBookInit K) fd := by
  obtain ⟨fdN, GN⟩ := h_are_names (P := P) (w := w) (base := base) C
  obtain ⟨fdK, GK⟩ := h_are_kinds (P := P) (w := w) (base := base) C
  obtain ⟨fdS, GS⟩ := h_are_some (P := P) (w := w) (base := base) C
  refine has_of (C.bi_book_init) sc_book_init (fun vs H Q E h => ?_) (fun cdv A outer s H vs Q E hr h => ?_)
  · obtain ⟨p, dx, ac, ak, al, ao, N, B, L, O, rfl, _⟩ := h
    rfl
  · obtain ⟨p, dx, ac, ak, al, ao, N, B, L, O, rfl, hp, hac, hKI, hal, hao, hN, hB, ndL, ndO, hL, hO, lL, lO, eL, eO, k⟩ := h
    obtain ⟨ps, ta, hak, hps⟩ := id hKI
    have nd := sc_book_init.nd
    have hr2 : Room 2 _ := hr.mono (by decide)
    have hz : (List.range N.nk).length ≤ sizeLine := small (by rw [range_len]; have := hN.k3; omega)
    obtain ⟨okL1, okL2, okL3⟩ := some_ok hN ndL hL
    obtain ⟨okO1, okO2, okO3⟩ := some_ok hN ndO hO
    refine ⟨_, pss_cons (ps_if (PW.pt (pw_or (pt_not (pt_val (pe_call GN.ok hr2 (by rfl) C.g_are_names GN.kp GN.b .nil pass0 (pa_cons (pv 1) pa_nil)))) (pw_or1 (pt_cmpR op_eq (pe_callB call_len_seq (by rfl) C.f_len boot_len (pa_cons (pv 1) pa_nil)) pe_int (nomark _))))) (pss_one ps_never) pss_nil)
      (pss_cons (ps_if (pt_not (pt_val (pe_call GK.ok hr (by rfl) C.g_are_kinds GK.kp GK.b .nil pass0 (pa_cons (pv 2) (pa_cons (pv 1) pa_nil))))) (pss_one ps_never) pss_nil)
      (pss_cons (ps_fld (pv 0) (pe_callTy call_tuple_fz (by rfl) C.f_tuple boot_tuple (pa_cons (pv 1) pa_nil)) rfl)
      (pss_cons (ps_fld (pv 0) (pe_callTy call_tuple_of (by rfl) C.f_tuple boot_tuple (pa_cons (pe_lc (own := [("name", 5), ("targets", 6)]) (g := gTup K 2 (gCons (gName 5) (gCons (gName 6) gNil))) (tt := tYes) rfl nd (pi_list (pv 2)) (blkOk_by (N := N_book_init) (sc := defScope s_book_init) (by decide +kernel))
        (fun _ _ _ _ _ => pg_tup rfl (pgs_cons (pg_name (i := 5) nd rfl (Or.inl rfl)) (pgs_cons (pg_name (i := 6) nd rfl (Or.inl rfl)) pgs_nil))) (fun _ _ _ _ _ => pts_nil) (fun _ _ _ _ _ => pv 5)) pa_nil)) rfl)
      (pss_cons (ps_if (pt_not (pt_val (pe_call GS.ok hr (by rfl) C.g_are_some GS.kp GS.b .nil pass0 (pa_cons (pv 3) (pa_cons (pe_fld (pv 0) rfl) pa_nil))))) (pss_one ps_never) pss_nil)
      (pss_cons (ps_if (pt_not (pt_val (pe_call GS.ok hr (by rfl) C.g_are_some GS.kp GS.b .nil pass0 (pa_cons (pv 4) (pa_cons (pe_fld (pv 0) rfl) pa_nil))))) (pss_one ps_never) pss_nil)
      (pss_cons (ps_fld (pv 0) (pe_dc (own := [("name", 5), ("targets", 6)]) (g := gTup K 2 (gCons (gName 5) (gCons (gName 6) gNil))) (tt := tYes) rfl nd (pi_list (pv 2)) (blkOk_by (N := N_book_init) (sc := defScope s_book_init) (by decide +kernel))
        (fun _ _ _ _ _ => pg_tup rfl (pgs_cons (pg_name (i := 5) nd rfl (Or.inl rfl)) (pgs_cons (pg_name (i := 6) nd rfl (Or.inl rfl)) pgs_nil))) (fun _ _ _ _ _ => pts_nil) (fun _ _ _ _ _ => pv 5) (fun _ _ _ _ _ => pe_callTy (call_tuple_ofK K) (by rfl) C.f_tuple boot_tuple (pa_cons (pv 6) pa_nil))) rfl)
      (pss_cons (ps_fld (pv 0) (pe_callTy call_tuple_of (by rfl) C.f_tuple boot_tuple (pa_cons (pe_lc (own := [("name", 5)]) (g := gName 5) rfl nd (pi_tup (pe_fld (pv 0) rfl)) (blkOk_by (N := N_book_init) (sc := defScope s_book_init) (by decide +kernel))
        (fun _ _ _ _ _ => pg_name (i := 5) nd rfl (Or.inl rfl)) (fun _ _ _ _ _ => pts_one (pt_cmpR (op_inK K) (pv 5) (pv 3) (by rfl))) (fun _ _ _ _ _ => pv 5)) pa_nil)) rfl)
      (pss_one (ps_fld (pv 0) (pe_callTy call_tuple_of (by rfl) C.f_tuple boot_tuple (pa_cons (pe_lc (own := [("name", 5)]) (g := gName 5) rfl nd (pi_tup (pe_fld (pv 0) rfl)) (blkOk_by (N := N_book_init) (sc := defScope s_book_init) (by decide +kernel))
        (fun _ _ _ _ _ => pg_name (i := 5) nd rfl (Or.inl rfl)) (fun _ _ _ _ _ => pts_one (pt_cmpR (op_inK K) (pv 5) (pv 4) (by rfl))) (fun _ _ _ _ _ => pv 5)) pa_nil)) rfl))))))))), ?_⟩
    have ncp : ac ≠ p := ne_of hac hp (by intro q; cases q)
    have nkp : ak ≠ p := ne_of hak hp (by intro q; cases q)
    have nlp : al ≠ p := ne_of hal hp (by intro q; cases q)
    have nop : ao ≠ p := ne_of hao hp (by intro q; cases q)
    have npp : ∀ i, i < N.nk → ps i ≠ p := fun i hi => ne_of (hps i hi).1 hp (by intro q; cases q)
    have ntp : ∀ i, i < N.nk → ta i ≠ p := fun i hi => ne_of (hps i hi).2 hp (by intro q; cases q)
    refine ⟨_, rfl, ac, N.vs, rfl, hac, hN.vmem, hN.vnd, (by rw [N.vs_len]; have := hN.v3; omega), fun H1 s1 => ⟨true, rfl, iteF ?_⟩⟩
    refine ⟨_, rfl, ac, _, rfl, .inl (SqL.of (s1 _ _ hac)), rfl, _, rfl, ifF (by rw [dec_intV, stL_len, N.vs_len]; have := hN.v1; exact decide_eq_false (by omega)) ?_⟩
    refine ⟨_, rfl, _, rfl, ak, ac, N, B, rfl, hKI.mono s1, s1 _ _ hac, hN, hB, fun H2 s2 => ⟨true, rfl, iteF ?_⟩⟩
    have s02 := s1.trans s2
    -- self.choices
    refine ⟨_, rfl, ac, _, rfl, SqL.of (s02 _ _ hac), fun c co hc hco => ?_⟩
    refine ⟨_, rfl, p, _, dx, [], rfl, same_new hc _ _ (s02 _ _ hp), C.cls_Book, C.no_Book_choices, (by show 0 < 1000; decide), ?_⟩
    have cp : c ≠ p := fun e => by rw [e, s02 _ _ hp] at hc; cases hc
    have kp3 := (((Kp.of (p := p) s02).new (o := .frz co (.tup (stL N.vs))) hc).put (o := .ins (He.ga K "Book") dx (putF "choices" (.ref c) [])))
    have hc3 : (upd (upd H2 c (.frz co (.tup (stL N.vs)))) p (.ins (He.ga K "Book") dx (putF "choices" (.ref c) []))) c = some (.frz co (.tup (stL N.vs))) := by rw [upd_ne cp, upd_same]
    -- self.kinds
    refine ⟨_, rfl, ak, rfl, ⟨_, SqL.of (kp3 _ _ hak nkp)⟩, fun D hD => ?_⟩
    refine lc_m walk_list (List.range N.nk) (List.length_map ..) hz (fun i => .str (N.k i)) hD (fun H4 s4 => SqL.of (s4 _ _ (kp3 _ _ hak nkp))) (fun i z x H4 H5 Qy Qn hi s4 y k1 => ?_) (fun H4 s4 hL => ?_)
    · obtain ⟨rfl, e2⟩ := y
      obtain rfl : x = .ref (ps z) := map_un (f := fun i => V.ref (ps i)) hi e2
      obtain ⟨rfl, hlt⟩ := range_is hi
      exact ⟨ps z, _, rfl, SqT.of (s4 _ _ (kp3 _ _ (hps z hlt).1 (npp z hlt))), rfl, _, _, rfl, _, _, rfl, rfl, rfl, yesT ⟨_, rfl, k1 _ (Same.refl _)⟩⟩
    have hL2 : H4 D = some (.lst (stL N.ks)) := by rw [hL]; unfold stL Nm.ks; rw [List.map_map]; rfl
    refine ⟨D, _, rfl, .inl ⟨SqL.of hL2, fun q hq => ?_⟩⟩
    refine ⟨_, rfl, p, _, dx, _, rfl, same_new hq _ _ (s4 _ _ upd_same), C.cls_Book, C.no_Book_kinds, (by show 1 < 1000; decide), ?_⟩
    have qp : q ≠ p := fun e => by rw [e, s4 _ _ upd_same] at hq; cases hq
    have kp5 := (((kp3.trans (.of s4)).new (o := .tup (stL N.ks)) hq).put (o := .ins (He.ga K "Book") dx (putF "kinds" (.ref q) (putF "choices" (.ref c) []))))
    have hc5 : (upd (upd H4 q (.tup (stL N.ks))) p (.ins (He.ga K "Book") dx (putF "kinds" (.ref q) (putF "choices" (.ref c) [])))) c = some (.frz co (.tup (stL N.vs))) := by rw [upd_ne cp]; exact same_new hq _ _ (s4 _ _ hc3)
    have hq5 : (upd (upd H4 q (.tup (stL N.ks))) p (.ins (He.ga K "Book") dx (putF "kinds" (.ref q) (putF "choices" (.ref c) [])))) q = some (.tup (stL N.ks)) := by rw [upd_ne qp, upd_same]
    -- are_some(loose), are_some(others)
    refine ⟨_, rfl, _, rfl, p, _, dx, _, _, rfl, upd_same, C.cls_Book, C.no_Book_kinds, rfl, al, q, L.map N.k, N.ks, rfl, kp5 _ _ hal nlp, hq5, okL1, okL2, (by rw [List.length_map]; omega), okL3, fun H6 s6 => ⟨true, rfl, iteF ?_⟩⟩
    refine ⟨_, rfl, _, rfl, p, _, dx, _, _, rfl, s6 _ _ upd_same, C.cls_Book, C.no_Book_kinds, rfl, ao, q, O.map N.k, N.ks, rfl, s6 _ _ (kp5 _ _ hao nop), s6 _ _ hq5, okO1, okO2, (by rw [List.length_map]; omega), okO3, fun H7 s7 => ⟨true, rfl, iteF ?_⟩⟩
    have s67 := s6.trans s7
    have kp7 := kp5.trans (.of s67)
    have hp7 := s67 _ _ (upd_same (H := upd H4 q (.tup (stL N.ks))) (a := p) (o := .ins (He.ga K "Book") dx (putF "kinds" (.ref q) (putF "choices" (.ref c) []))))
    have hc7 := s67 _ _ hc5
    have hq7 := s67 _ _ hq5
    -- self.targets
    refine ⟨_, rfl, ak, rfl, ⟨_, SqL.of (kp7 _ _ hak nkp)⟩, fun D2 hD2 => ?_⟩
    refine dc_it walk_list (fun i H8 => Same H7 H8 ∧ ∃ tt : Nat → Addr, H8 D2 = some (.dK ((List.range i).map fun j => (Sum.inr (N.k j), V.ref (tt j)))) ∧ ∀ j, j < i → H8 (tt j) = some (.tup (B.row N j))) ⟨same_new hD2, fun _ => 0, upd_same, fun j hj => absurd hj (Nat.not_lt_zero j)⟩ (fun i H8 _ pv => SqL.of (pv.1 _ _ (kp7 _ _ hak nkp))) (fun i x H8 H9 hi pv y => ?_) (fun H8 pv => ?_) mono_two
    · obtain ⟨rfl, e2⟩ := y
      rw [List.length_map, range_len] at hi
      obtain rfl : x = .ref (ps i) := map_un (f := fun i => V.ref (ps i)) (range_at hi) e2
      obtain ⟨s8, tt, hd8, htt⟩ := pv
      have hps8 := s8 _ _ (kp7 _ _ (hps i hi).1 (npp i hi))
      have hta8 := s8 _ _ (kp7 _ _ (hps i hi).2 (ntp i hi))
      refine ⟨ps i, _, rfl, SqT.of hps8, rfl, _, _, rfl, _, _, rfl, rfl, rfl, _, rfl, _, rfl, ta i, _, rfl, .inl ⟨SqL.of hta8, fun t ht => ?_⟩⟩
      have ntD : t ≠ D2 := fun e => by rw [e, hd8] at ht; cases ht
      have hk3 := hN.k3
      refine ⟨_, Sum.inr (N.k i), rfl, same_new ht _ _ hd8, smallL (by rw [List.length_map, range_len]; omega), ?_, ?_⟩
      · intro b u e
        have hb : b ≠ D2 := ne_of_none e hD2
        rw [upd_ne hb]
        exact same_new ht _ _ (s8 _ _ e)
      · refine ⟨fun j => if j = i then t else tt j, ?_, fun j hj => ?_⟩
        · rw [upd_same, putK_new _ (valV_none fun pr hpr e => ?_), List.range_succ, List.map_append]
          · congr 3
            · apply List.map_congr_left
              intro j hj
              have := List.mem_range.mp hj
              show (Sum.inr (N.k j), V.ref (tt j)) = (Sum.inr (N.k j), V.ref (if j = i then t else tt j))
              rw [if_neg (by omega)]
            · show [(Sum.inr (N.k i), V.ref t)] = [(Sum.inr (N.k i), V.ref (if i = i then t else tt i))]
              rw [if_pos rfl]
          · obtain ⟨j, hj, rfl⟩ := List.mem_map.mp hpr
            have hj' := List.mem_range.mp hj
            have e' : N.k j = N.k i := Sum.inr.inj e
            have := hN.kinj j i (by omega) hi e'
            omega
        · by_cases hji : j = i
          · subst hji
            show (upd (upd H9 t _) D2 _) (if j = j then t else tt j) = _
            rw [if_pos rfl, upd_ne ntD, upd_same]
          · show (upd (upd H9 t _) D2 _) (if j = i then t else tt j) = _
            rw [if_neg hji]
            have h9 := htt j (by omega)
            rw [upd_ne (ne_of h9 hd8 (by intro q; cases q))]
            exact same_new ht _ _ h9
    obtain ⟨s8, tt, hd8, htt⟩ := pv
    rw [List.length_map, range_len] at hd8 htt
    refine ⟨_, rfl, p, _, dx, _, rfl, s8 _ _ hp7, C.cls_Book, C.no_Book_targets, (by show 2 < 1000; decide), ?_⟩
    have kp9 := (kp7.trans (.of s8)).put (o := .ins (He.ga K "Book") dx (bk3 c q D2))
    have hc9 : (upd H8 p (.ins (He.ga K "Book") dx (bk3 c q D2))) c = some (.frz co (.tup (stL N.vs))) := by rw [upd_ne cp]; exact s8 _ _ hc7
    have hq9 : (upd H8 p (.ins (He.ga K "Book") dx (bk3 c q D2))) q = some (.tup (stL N.ks)) := by rw [upd_ne qp]; exact s8 _ _ hq7
    have hd9 : (upd H8 p (.ins (He.ga K "Book") dx (bk3 c q D2))) D2 = some (.dK ((List.range N.nk).map fun j => (Sum.inr (N.k j), V.ref (tt j)))) := by
      rw [upd_ne (ne_of hd8 (s8 _ _ hp7) (by intro q; cases q))]; exact hd8
    have htt9 : ∀ j, j < N.nk → (upd H8 p (.ins (He.ga K "Book") dx (bk3 c q D2))) (tt j) = some (.tup (B.row N j)) := fun j hj => by
      rw [upd_ne (ne_of (htt j hj) (s8 _ _ hp7) (by intro q; cases q))]; exact htt j hj
    have hp9 : (upd H8 p (.ins (He.ga K "Book") dx (bk3 c q D2))) p = _ := upd_same
    generalize upd H8 p (.ins (He.ga K "Book") dx (bk3 c q D2)) = H9 at kp9 hc9 hq9 hd9 htt9 hp9 ⊢
    -- self.loose
    refine ⟨_, rfl, p, _, dx, _, _, rfl, hp9, C.cls_Book, C.no_Book_kinds, rfl, q, rfl, ⟨_, SqT.of hq9⟩, fun D3 hD3 => ?_⟩
    refine lc_p walk_tup N.ks (stL_len _) (by rw [N.ks_len]; rw [range_len] at hz; exact hz) (fun z => decide (z ∈ L.map N.k)) V.str hD3 (fun H10 s10 => SqT.of (s10 _ _ hq9)) (fun i z x H10 H11 Qy Qn hi s10 y k1 k2 => ?_) (fun H10 s10 hL => ?_)
    · obtain ⟨rfl, e2⟩ := y
      obtain rfl : x = .str z := map_un hi e2
      refine ⟨rfl, _, rfl, _, rfl, al, _, rfl, .inl (SqL.of (s10 _ _ (kp9 _ _ hal nlp))), rfl, flat_strs _, _, rfl, ?_⟩
      show if inV (.str z) ((L.map N.k).map V.str) = true then _ else _
      rw [inV_strs]
      exact ite2 (fun h => ⟨_, rfl, k1 h _ (Same.refl _)⟩) (fun h => k2 (by simpa using h) _ (Same.refl _))
    refine ⟨D3, _, rfl, .inl ⟨SqL.of hL, fun l hl => ?_⟩⟩
    refine ⟨_, rfl, p, _, dx, _, rfl, same_new hl _ _ (s10 _ _ hp9), C.cls_Book, C.no_Book_loose, (by show 3 < 1000; decide), ?_⟩
    have lp : l ≠ p := fun e => by rw [e, s10 _ _ hp9] at hl; cases hl
    have up : ∀ {H1 H2 : L2.Hp} {o fs} {b : Addr} {u : HO}, H1 b = some u → b ≠ p → Same H1 H2 → (upd H2 p (.ins o dx fs)) b = some u := fun e n s => by rw [upd_ne n]; exact s _ _ e
    have kp11 := ((kp9.trans (.of s10)).new (o := .tup (((N.ks.filter fun z => decide (z ∈ L.map N.k))).map V.str)) hl).put (o := .ins (He.ga K "Book") dx (bk4 c q D2 l))
    have sl := s10.trans (same_new (o := .tup (((N.ks.filter fun z => decide (z ∈ L.map N.k))).map V.str)) hl)
    have nd9 : D2 ≠ p := ne_of hd9 hp9 (by intro q; cases q)
    have nt9 : ∀ j, j < N.nk → tt j ≠ p := fun j hj => ne_of (htt9 j hj) hp9 (by intro q; cases q)
    have hc11 := up (o := He.ga K "Book") (fs := bk4 c q D2 l) hc9 cp sl
    have hq11 := up (o := He.ga K "Book") (fs := bk4 c q D2 l) hq9 qp sl
    have hd11 := up (o := He.ga K "Book") (fs := bk4 c q D2 l) hd9 nd9 sl
    have htt11 := fun j hj => up (o := He.ga K "Book") (fs := bk4 c q D2 l) (htt9 j hj) (nt9 j hj) sl
    have hl11 := up (o := He.ga K "Book") (fs := bk4 c q D2 l) (upd_same (H := H10) (a := l) (o := .tup (((N.ks.filter fun z => decide (z ∈ L.map N.k))).map V.str))) lp (Same.refl _)
    have hp11 : upd (upd H10 l (.tup (((N.ks.filter fun z => decide (z ∈ L.map N.k))).map V.str))) p (.ins (He.ga K "Book") dx (bk4 c q D2 l)) p = _ := upd_same
    generalize upd (upd H10 l (.tup (((N.ks.filter fun z => decide (z ∈ L.map N.k))).map V.str))) p (.ins (He.ga K "Book") dx (bk4 c q D2 l)) = H11 at kp11 hc11 hq11 hd11 htt11 hl11 hp11 ⊢
    -- self.others
    refine ⟨_, rfl, p, _, dx, _, _, rfl, hp11, C.cls_Book, C.no_Book_kinds, rfl, q, rfl, ⟨_, SqT.of hq11⟩, fun D4 hD4 => ?_⟩
    refine lc_p walk_tup N.ks (stL_len _) (by rw [N.ks_len]; rw [range_len] at hz; exact hz) (fun z => decide (z ∈ O.map N.k)) V.str hD4 (fun H12 s12 => SqT.of (s12 _ _ hq11)) (fun i z x H12 H13 Qy Qn hi s12 y k1 k2 => ?_) (fun H12 s12 hM => ?_)
    · obtain ⟨rfl, e2⟩ := y
      obtain rfl : x = .str z := map_un hi e2
      refine ⟨rfl, _, rfl, _, rfl, ao, _, rfl, .inl (SqL.of (s12 _ _ (kp11 _ _ hao nop))), rfl, flat_strs _, _, rfl, ?_⟩
      show if inV (.str z) ((O.map N.k).map V.str) = true then _ else _
      rw [inV_strs]
      exact ite2 (fun h => ⟨_, rfl, k1 h _ (Same.refl _)⟩) (fun h => k2 (by simpa using h) _ (Same.refl _))
    refine ⟨D4, _, rfl, .inl ⟨SqL.of hM, fun o ho => ?_⟩⟩
    refine ⟨_, rfl, p, _, dx, _, rfl, same_new ho _ _ (s12 _ _ hp11), C.cls_Book, C.no_Book_others, (by show 4 < 1000; decide), ?_⟩
    have op : o ≠ p := fun e => by rw [e, s12 _ _ hp11] at ho; cases ho
    have so := s12.trans (same_new (o := .tup (((N.ks.filter fun z => decide (z ∈ O.map N.k))).map V.str)) ho)
    have fin : ∀ (L : List Nat) (f : Nat → Bool), (∀ i ∈ L, i < N.nk) → (∀ i, i < N.nk → f i = decide (i ∈ L)) → (N.ks.filter fun z => decide (z ∈ L.map N.k)) = someK N f := fun L f hL hf => by
      unfold Nm.ks someK
      rw [List.filter_map]
      congr 1
      apply List.filter_congr
      intro i hi
      have hi' := List.mem_range.mp hi
      show decide (N.k i ∈ L.map N.k) = f i
      rw [in_some hN hL hi', hf i hi']
    refine k _ ((kp11.trans (.of so)).put) ⟨dx, c, q, D2, l, o, tt, upd_same, ⟨co, up hc11 cp so, hco⟩, up hq11 qp so, up hd11 (ne_of hd11 hp11 (by intro q; cases q)) so, fun i hi => up (htt11 i hi) (ne_of (htt11 i hi) hp11 (by intro q; cases q)) so, ?_, ?_⟩
    · rw [fin L B.loose (by assumption) eL] at hl11
      exact up hl11 lp so
    · rw [upd_ne op, upd_same, fin O B.others hO eO]
      rfl
end
end Hp
set_option Elab.async false
set_option linter.all false
set_option maxRecDepth 100000
set_option maxHeartbeats 4000000
namespace Hp
open PySem PySem.Spec PyProof.Rows L2
section
variable {P : Program} {w : World} {K : PySem.W.Frag} {mg : Str → Option Value} {base : Heap}
def spNeedKind (K : PySem.W.Frag) : Sp := fun vs H Q _ => ∃ (b : Addr) (N : Nm) (B : IB) (i : Nat), vs = [.ref b, .str (N.k i)] ∧ BookAt K H b N B ∧ N.Ok ∧ i < N.nk ∧ ∀ H', Same H H' → Q .non H'
theorem h_need_kind (C : Ctx K mg) : ∃ fd, Has P w K mg base 2 (He.fAd K ("Book", some "need_kind")) ["self", "kind"] (spNeedKind K) fd := by
  obtain ⟨fdN, GN⟩ := h_is_name (P := P) (w := w) (base := base) C
  refine has_of C.fn_book_need_kind sc_book_need_kind (fun vs H Q E h => ?_) (fun cdv A outer s H vs Q E hr h => ?_)
  · obtain ⟨b, N, B, i, rfl, _⟩ := h
    rfl
  · obtain ⟨b, N, B, i, rfl, hB, hN, hi, k⟩ := h
    obtain ⟨dx, ac, ak, ad, al, ao, ta, h1, h2, h3, h4, h5, h6, h7⟩ := hB.ex
    refine ⟨_, pss_one (ps_if (PW.pt (pw_or (pt_not (pt_val (pe_call GN.ok hr (by rfl) C.g_is_name GN.kp GN.b .nil pass0 (pa_cons (pv 1) pa_nil)))) (pw_or1 (pt_cmpR op_notIn_seq (pv 1) (pe_fld (pv 0) rfl) (by rfl))))) (pss_one ps_never) pss_nil), ?_⟩
    refine ⟨_, rfl, N.k i, rfl, hN.kin i hi, fun H1 s1 => ⟨true, rfl, iteF ?_⟩⟩
    refine ⟨_, rfl, _, rfl, b, _, dx, _, _, rfl, s1 _ _ h1, C.cls_Book, C.no_Book_kinds, rfl, ak, _, rfl, .inr (SqT.of (s1 _ _ h3)), rfl, flat_strs _, _, rfl, ?_⟩
    show if (!inV (.str (N.k i)) (N.ks.map V.str)) = true then _ else _
    have hm : N.k i ∈ N.ks := List.mem_map.mpr ⟨i, List.mem_range.mpr hi, rfl⟩
    rw [inV_strs, decide_eq_true hm]
    exact iteF (k _ s1)
def spTarget (K : PySem.W.Frag) : Sp := fun vs H Q _ => ∃ (b : Addr) (N : Nm) (B : IB) (i j : Nat), vs = [.ref b, .str (N.k i), .str (N.v j)] ∧ BookAt K H b N B ∧ N.Ok ∧ i < N.nk ∧ j < N.nv ∧ ∀ H', Same H H' → Q (optS N.v (B.tg i j)) H'
theorem h_target (C : Ctx K mg) : ∃ fd, Has P w K mg base 3 (He.fAd K ("Book", some "target")) ["self", "kind", "value"] (spTarget K) fd := by
  obtain ⟨fdN, GN⟩ := h_is_name (P := P) (w := w) (base := base) C
  obtain ⟨fdK, GK⟩ := h_need_kind (P := P) (w := w) (base := base) C
  refine has_of C.fn_book_target sc_book_target (fun vs H Q E h => ?_) (fun cdv A outer s H vs Q E hr h => ?_)
  · obtain ⟨b, N, B, i, j, rfl, _⟩ := h
    rfl
  · obtain ⟨b, N, B, i, j, rfl, hB, hN, hi, hj, k⟩ := h
    have hu := hu_of hr
    have hr1 : Room 1 _ := hr.mono (by decide)
    obtain ⟨dx, ac, ak, ad, al, ao, ta, h1, h2, h3, h4, h5, h6, h7⟩ := hB.ex
    refine ⟨_, pss_cons (ps_expr (pe_meth (pv 0) C.cls_Book C.me_Book_need_kind GK.ok hr GK.b .nil pass0 (pa_cons (pv 1) pa_nil)))
      (pss_cons (ps_if (PW.pt (pw_or (pt_not (pt_val (pe_call GN.ok hr1 (by rfl) C.g_is_name GN.kp GN.b .nil pass0 (pa_cons (pv 2) pa_nil)))) (pw_or1 (pt_cmpR op_notIn_seq (pv 2) (pe_fld (pv 0) rfl) (by rfl))))) (pss_one ps_never) pss_nil)
      (pss_one (ps_ret (pe_ix ix_tup (pe_dget hu (pe_fld (pv 0) rfl) (pv 1) (fun _ _ => rfl)) (pe_bmT PySem.F.slot_tuple_index PySem.F.type_tuple_index mt_tup_index (pe_fld (pv 0) rfl) (pa_cons (pv 2) pa_nil)) (fun _ _ => rfl))))), ?_⟩
    refine ⟨_, rfl, b, dx, _, rfl, h1, rfl, _, rfl, b, N, B, i, rfl, hB, hN, hi, fun H1 s1 => ?_⟩
    refine ⟨_, rfl, N.v j, rfl, hN.vin j hj, fun H2 s2 => ⟨true, rfl, iteF ?_⟩⟩
    have s12 := s1.trans s2
    have hz2 := h2.mono s12
    refine ⟨_, rfl, _, rfl, b, _, dx, _, _, rfl, s12 _ _ h1, C.cls_Book, C.no_Book_choices, rfl, ac, _, rfl, .inr hz2.seq, rfl, flat_strs _, _, rfl, ?_⟩
    show if (!inV (.str (N.v j)) (N.vs.map V.str)) = true then _ else _
    have hm : N.v j ∈ N.vs := List.mem_map.mpr ⟨j, List.mem_range.mpr hj, rfl⟩
    rw [inV_strs, decide_eq_true hm]
    refine iteF ?_
    obtain ⟨o, ho, hod⟩ := id hz2
    refine ⟨_, rfl, b, _, dx, _, _, rfl, s12 _ _ h1, C.cls_Book, C.no_Book_targets, rfl, _, rfl, ad, _, rfl, dgetS (s12 _ _ h4) (valV_range N.k (fun i => V.ref (ta i)) hi fun j' hj' e => hN.kinj j' i hj' hi e), ?_⟩
    have hat : N.vs[j]? = some (N.v j) := map_at (range_at hj)
    refine ⟨_, rfl, b, _, dx, _, _, rfl, s12 _ _ h1, C.cls_Book, C.no_Book_choices, rfl, ⟨ac, o, _, rfl, ho, hod⟩, _, rfl, ac, N.vs, N.v j, j, rfl, rfl, hz2.seq, hat, fun m hm e => ?_, ?_⟩
    · have e2 : N.v j = N.v m := map_un (f := N.v) (range_at (Nat.lt_trans hm hj)) e
      have := hN.vinj j m hj (Nat.lt_trans hm hj) e2
      omega
    · exact ⟨ta i, _, (j : Int), _, rfl, rfl, SqT.of (s12 _ _ (h5 i hi)), atI_nat (map_at (range_at hj)), k _ s12⟩
/-! clicks done to a base -/
def stepV (B : IB) (v : Nat) (i : Nat) : Nat := (B.tg i v).getD v
def shownM (B : IB) (v : Nat) (ks : List Nat) : Nat := ks.foldl (stepV B) v
theorem stepV_lt {N : Nm} {B : IB} (hB : B.Ok N) {v i : Nat} (hv : v < N.nv) (hi : i < N.nk) : stepV B v i < N.nv := by
  unfold stepV
  cases e : B.tg i v with
  | none => exact hv
  | some t => exact hB i v t hi hv e
theorem shownM_lt {N : Nm} {B : IB} (hB : B.Ok N) : ∀ {ks : List Nat} {v : Nat}, v < N.nv → (∀ i ∈ ks, i < N.nk) → shownM B v ks < N.nv
  | [], v, hv, _ => hv
  | i :: ks, v, hv, h => shownM_lt hB (ks := ks) (stepV_lt hB hv (h i List.mem_cons_self)) fun j hj => h j (List.mem_cons_of_mem _ hj)
def spShownFrom (K : PySem.W.Frag) : Sp := fun vs H Q _ => ∃ (b a : Addr) (N : Nm) (B : IB) (v : Nat) (ks : List Nat), vs = [.ref b, .str (N.v v), .ref a] ∧ BookAt K H b N B ∧ H a = some (.lst (stL (ks.map N.k))) ∧ N.Ok ∧ B.Ok N ∧ v < N.nv ∧ (∀ i ∈ ks, i < N.nk) ∧ ∀ H', Same H H' → Q (.str (N.v (shownM B v ks))) H'
theorem h_shown_from (C : Ctx K mg) : ∃ fd, Has P w K mg base 4 (He.fAd K ("shown_from", none)) ["book", "base", "kinds"] (spShownFrom K) fd := by
  obtain ⟨fdT, GT⟩ := h_target (P := P) (w := w) (base := base) C
  refine has_of C.fn_shown_from sc_shown_from (fun vs H Q E h => ?_) (fun cdv A outer s H vs Q E hr h => ?_)
  · obtain ⟨b, a, N, B, v, ks, rfl, _⟩ := h
    rfl
  · obtain ⟨b, a, N, B, v, ks, rfl, hb, ha, hN, hB, hv, hks, k⟩ := h
    have nd := sc_shown_from.nd
    refine ⟨_, pss_cons (ps_set (i := 3) nd rfl (Or.inl rfl) (pv 1)) (pss_cons (ps_for PassesOwn.never rfl (pi_list (pv 2)) (pg_name (i := 4) nd rfl (Or.inl rfl))
        (pss_cons (ps_set (i := 5) nd rfl (Or.inl rfl) (pe_meth (pv 0) C.cls_Book C.me_Book_target GT.ok hr GT.b .nil pass0 (pa_cons (pv 4) (pa_cons (pv 3) pa_nil))))
        (pss_one (ps_set (i := 3) nd rfl (Or.inl rfl) (pe_ifExp (pt_cmpR op_isN (pv 5) pe_non (nomark _)) (pv 3) (pv 5))))))
      (pss_one (ps_ret (pv 3)))), ?_⟩
    refine ⟨_, rfl, _, rfl, a, rfl, ⟨_, SqL.of ha⟩, for_list (K := K) (a := a) (xs := stL (ks.map N.k)) (fun i σ H' => Same H H' ∧ ∃ x4 x5, σ = [some (.ref b), some (.str (N.v v)), some (.ref a), some (.str (N.v (shownM B v (ks.take i)))), x4, x5])
      ⟨Same.refl _, none, none, rfl⟩ (fun i σ H' _ p => SqL.of (p.1 _ _ ha)) ?_ ?_⟩
    · rintro i x σ H1 hi ⟨s1, x4, x5, rfl⟩
      have hil : i < ks.length := by
        have q := (List.getElem?_eq_some_iff.mp hi).1
        rw [stL_len, List.length_map] at q
        exact q
      have hki : ks[i]? = some ks[i] := List.getElem?_eq_getElem hil
      obtain rfl : x = .str (N.k ks[i]) := map_un (f := V.str) (map_at (f := N.k) hki) hi
      have hmem : ks[i] < N.nk := hks _ (List.getElem_mem hil)
      have hcur : shownM B v (ks.take i) < N.nv := shownM_lt hB hv fun j hj => hks j (List.mem_of_mem_take hj)
      have enext : shownM B v (ks.take (i + 1)) = stepV B (shownM B v (ks.take i)) ks[i] := by
        unfold shownM
        rw [List.take_succ, hki, List.foldl_append]
        rfl
      have hb1 := hb.mono s1
      obtain ⟨dx, ac, ak, ad, al, ao, ta, h1, _⟩ := hb1.ex
      refine ⟨_, rfl, b, dx, _, rfl, h1, rfl, _, rfl, _, rfl, b, N, B, ks[i], _, rfl, hb1, hN, hmem, hcur, fun H2 s2 => ?_⟩
      refine ⟨_, rfl, rfl, _, rfl, ?_⟩
      cases e : B.tg ks[i] (shownM B v (ks.take i)) with
      | none =>
        refine ifT rfl ⟨_, rfl, s1.trans s2, some (.str (N.k ks[i])), some (optS N.v none), ?_⟩
        rw [enext, stepV, e]
        rfl
      | some t =>
        refine ifF rfl ⟨_, rfl, s1.trans s2, some (.str (N.k ks[i])), some (optS N.v (some t)), ?_⟩
        rw [enext, stepV, e]
        rfl
    · rintro σ H1 ⟨s1, x4, x5, rfl⟩
      refine ⟨_, rfl, ?_⟩
      have e : ks.take (stL (ks.map N.k)).length = ks := by rw [stL_len, List.length_map, List.take_length]
      rw [e]
      exact k _ s1
end
end Hp
set_option Elab.async false
set_option linter.all false
set_option maxRecDepth 100000
set_option maxHeartbeats 4000000
namespace Hp
open PySem PySem.Spec PyProof.Rows L2
/-! events as texts -/
def numS (n : Nat) : Str := toString (n : Int)
def nums : List Str := (List.range 31).map numS
inductive Ev where
  | click (i : Nat)
  | other (i : Nat)
  | serve
  | refuse
  | answer (n : Nat)
  | list (m : Nat)
def Ev.word : Ev → Str
  | .click _ => "click"
  | .other _ => "other"
  | .serve => "serve"
  | .refuse => "refuse"
  | .answer _ => "answer"
  | .list _ => "list"
def Ev.str (N : Nm) : Ev → Str
  | .click i => ("click " : Str) ++ N.k i
  | .other i => ("other " : Str) ++ N.k i
  | .serve => "serve"
  | .refuse => "refuse"
  | .answer n => ("answer " : Str) ++ numS n
  | .list m => ("list " : Str) ++ numS m
def Ev.thing (N : Nm) : Ev → V
  | .click i => .str (N.k i)
  | .other i => .str (N.k i)
  | .serve => .str ""
  | .refuse => .str ""
  | .answer n => .int (n : Nat)
  | .list m => .int (m : Nat)
def Ev.In (N : Nm) : Ev → Prop
  | .click i => i < N.nk
  | .other i => i < N.nk
  | .serve => True
  | .refuse => True
  | .answer n => 1 ≤ n ∧ n ≤ 30
  | .list m => m ≤ 30
def digS : Str := "0123456789"
def digOk (z : Str) : Bool := match atI z.cps.toList 0 with
  | some c => decide (z = "0") || !decide ((⟨#[c]⟩ : Str) = "0")
  | none => false
def twoP : List V := [.str "serve", .str "refuse"]
def twoN : List V := [.str "click", .str "other"]
def twoA : List V := [.str "answer", .str "list"]
theorem ev_plain : ∀ t ∈ (["serve", "refuse"] : List Str), t.length ≤ 20 ∧ Txt.partition t " " = (t, Str.empty, Str.empty) ∧ inV (.str t) twoP = true ∧ Txt.split t " " = [t] := by decide +kernel
theorem ev_named : ∀ h ∈ (["click", "other"] : List Str), ∀ z ∈ W44, (h ++ " " ++ z).length ≤ 20 ∧ Txt.partition (h ++ " " ++ z) " " = (h, (" " : Str), z) ∧ inV (.str (h ++ " " ++ z)) twoP = false ∧ inV (.str h) twoN = true ∧ Txt.split (h ++ " " ++ z) " " = [h, z] := by decide +kernel
theorem ev_num : ∀ h ∈ (["answer", "list"] : List Str), ∀ n, n < 31 → (h ++ " " ++ numS n).length ≤ 20 ∧ Txt.partition (h ++ " " ++ numS n) " " = (h, (" " : Str), numS n) ∧ inV (.str (h ++ " " ++ numS n)) twoP = false ∧ inV (.str h) twoN = false ∧ inV (.str h) twoA = true ∧ (1 ≤ n ∨ h = "list" → ¬ (h ++ " " ++ numS n) = "answer 0") ∧ Txt.split (h ++ " " ++ numS n) " " = [h, numS n] := by decide +kernel
theorem num_ok : ∀ n, n < 31 → (numS n).length ≤ 4 ∧ PySem.intText? (numS n) = some (n : Int) ∧ ¬ numS n = "" ∧ (∀ c ∈ (numS n).cps.toList, c ∈ digS.cps.toList) ∧ digOk (numS n) = true := by decide +kernel
section
variable {P : Program} {w : World} {K : PySem.W.Frag} {mg : Str → Option Value} {base : Heap}
def spIsDecimal : Sp := fun vs H Q _ => ∃ n : Nat, vs = [.str (numS n)] ∧ n < 31 ∧ ∀ H', Same H H' → Q (.bl true) H'
theorem h_is_decimal (C : Ctx K mg) : ∃ fd, Has P w K mg base 1 (He.fAd K ("is_decimal", none)) ["text"] spIsDecimal fd := by
  refine has_of C.fn_is_decimal sc_is_decimal (fun vs H Q E h => ?_) (fun cdv A outer s H vs Q E hr h => ?_)
  · obtain ⟨n, rfl, _⟩ := h
    rfl
  · obtain ⟨n, rfl, hn, k⟩ := h
    obtain ⟨l4, _, ne, hd, hdo⟩ := num_ok n hn
    have nd := sc_is_decimal.nd
    refine ⟨_, (pss_cons (ps_if (PW.pt (pw_or (pt_cmpR op_eq (pv 0) pe_str (nomark _)) (pw_or1 (pt_not (pt_val (pe_callB (cr_all rfl) (by rfl) C.f_all (by decide +kernel) (pa_cons (pe_lc (own := [("sign", 1)]) (g := gName 1) (tt := tYes) rfl nd (pi_str (pv 0)) (blkOk_by (N := N_is_decimal) (sc := defScope s_is_decimal) (by decide +kernel)) (fun _ _ _ _ _ => (pg_name (i := 1) nd rfl (Or.inl rfl))) (fun _ _ _ _ _ => pts_nil) (fun _ _ _ _ _ => pe_cmpR op_in_sign (pv 1) pe_str (by rfl))) pa_nil))))))) (pss_one (ps_ret pe_bl)) pss_nil) (pss_one (ps_ret (pe_or (pe_cmpR op_eq (pv 0) pe_str (nomark _)) (pe_one (pe_cmpR op_ne (pe_ix ix_str (pv 0) pe_int (fun _ _ => rfl)) pe_str (nomark _))))))), ?_⟩
    refine ⟨_, rfl, rfl, _, rfl, ?_⟩
    rw [dec_strV, decide_eq_false ne]
    refine iteF ⟨_, rfl, _, rfl, fun D hD => ?_⟩
    refine lc_m walk_str (numS n).cps.toList (by simp) (by have e : (numS n).cps.toList.length = (numS n).length := by simp [Str.length]
                                                           rw [e]; exact len4 l4) (fun _ => .bl true) hD (fun _ _ => True.intro) (fun i c x H1 H2 Qy Qn hi s1 y k1 => ?_) (fun H1 s1 hL => ?_)
    · obtain ⟨rfl, c', hc', rfl⟩ := y
      have ec : c' ∈ digS.cps.toList := hd c' (by have q := Array.mem_of_getElem? hc'; simpa using q)
      refine ⟨rfl, yesT ⟨_, rfl, c', digS, rfl, rfl, ?_⟩⟩
      rw [decide_eq_true ec]
      exact k1 _ (Same.refl _)
    · refine ⟨D, (numS n).cps.toList.map fun _ => true, rfl, SqL.of (by rw [hL, List.map_map]; rfl), ?_⟩
      rw [all_true]
      refine ⟨true, rfl, iteF ⟨_, rfl, rfl, _, rfl, ?_⟩⟩
      rw [dec_strV]
      unfold digOk at hdo
      cases ea : atI (numS n).cps.toList 0 with
      | none => rw [ea] at hdo; cases hdo
      | some c =>
        rw [ea] at hdo
        by_cases e0 : numS n = "0"
        · rw [decide_eq_true e0]
          exact iteT (k _ s1)
        · rw [decide_eq_false e0]
          refine iteF ⟨_, rfl, _, 0, c, rfl, rfl, len4 l4, ea, rfl, ?_⟩
          rw [dec_strV]
          have : (!decide ((⟨#[c]⟩ : Str) = "0")) = true := by simpa [e0] using hdo
          rw [this]
          exact k _ s1
def spEventIn : Sp := fun vs H Q _ => ∃ (N : Nm) (e : Ev), vs = [.str (e.str N)] ∧ N.Ok ∧ e.In N ∧ ∀ (p : Addr) (H' : L2.Hp), Same H H' → H' p = some (.tup [.str e.word, e.thing N]) → Q (.ref p) H'
theorem h_event_in (C : Ctx K mg) : ∃ fd, Has P w K mg base 2 (He.fAd K ("event_in", none)) ["text"] spEventIn fd := by
  obtain ⟨fdN, GN⟩ := h_is_name (P := P) (w := w) (base := base) C
  obtain ⟨fdD, GD⟩ := h_is_decimal (P := P) (w := w) (base := base) C
  refine has_of C.fn_event_in sc_event_in (fun vs H Q E h => ?_) (fun cdv A outer s H vs Q E hr h => ?_)
  · obtain ⟨N, e, rfl, _⟩ := h
    rfl
  · obtain ⟨N, e, rfl, hN, he, k⟩ := h
    have nd := sc_event_in.nd
    refine ⟨_, (pss_cons (ps_if (pt_not (pt_val (pe_callB call_isi (by rfl) C.f_isinstance boot_isinstance (pa_cons (pv 0) (pa_cons (pe_bltn (v := .ty "str") (by rfl) C.f_str boot_str rfl) pa_nil))))) (pss_one (ps_ret pe_non)) pss_nil) (pss_cons (ps_asg (pe_partition (pv 0) pe_str) (pg_tup rfl (pgs_cons (pg_name (i := 1) nd rfl (Or.inl rfl)) (pgs_cons (pg_name (i := 2) nd rfl (Or.inl rfl)) (pgs_cons (pg_name (i := 3) nd rfl (Or.inl rfl)) pgs_nil))))) (pss_cons (ps_if (pt_cmpR op_in_seq (pv 0) (pe_tup (pa_cons pe_str (pa_cons pe_str pa_nil))) (by rfl)) (pss_one (ps_ret (pe_tup (pa_cons (pv 0) (pa_cons pe_str pa_nil))))) pss_nil) (pss_cons (ps_if (pt_cmpR op_in_seq (pv 1) (pe_tup (pa_cons pe_str (pa_cons pe_str pa_nil))) (by rfl)) (pss_one (ps_ret (pe_ifExp (pt_val (pe_call GN.ok (hr.mono (by decide)) (by rfl) C.g_is_name GN.kp GN.b .nil pass0 (pa_cons (pv 3) pa_nil))) (pe_tup (pa_cons (pv 1) (pa_cons (pv 3) pa_nil))) pe_non))) pss_nil) (pss_cons (ps_if (PW.pt (pw_or (pt_cmpR op_notIn_seq (pv 1) (pe_tup (pa_cons pe_str (pa_cons pe_str pa_nil))) (by rfl)) (pw_or (pt_not (pt_val (pe_call GD.ok (hr.mono (by decide)) (by rfl) C.g_is_decimal GD.kp GD.b .nil pass0 (pa_cons (pv 3) pa_nil)))) (pw_or (pt_cmpR op_gt (pe_callB call_len (by rfl) C.f_len boot_len (pa_cons (pv 3) pa_nil)) pe_int (nomark _)) (pw_or1 (pt_cmpR op_eq (pv 0) pe_str (nomark _))))))) (pss_one (ps_ret pe_non)) pss_nil) (pss_one (ps_ret (pe_tup (pa_cons (pv 1) (pa_cons (pe_callTy call_int_str (by rfl) C.f_int boot_int (pa_cons (pv 3) pa_nil)) pa_nil)))))))))), ?_⟩
    have l2 : 2 ≤ sizeLine := by decide
    refine ⟨_, rfl, .str (e.str N), .ty "str", .type "str", .type "str", true, rfl, ClsV.ty _, TyX.base (TyOf.str _), kit_ty (by decide +kernel), true, rfl, iteF ?_⟩
    have hh : ∃ (wd bl rs : Str), (e.str N).length ≤ sizeLine ∧ Txt.partition (e.str N) " " = (wd, bl, rs) ∧ ((inV (.str (e.str N)) twoP = true ∧ e.word = e.str N ∧ e.thing N = .str "") ∨ (inV (.str (e.str N)) twoP = false ∧ wd = e.word ∧
        ((inV (.str wd) twoN = true ∧ rs ∈ W44 ∧ e.thing N = .str rs) ∨ (inV (.str wd) twoN = false ∧ inV (.str wd) twoA = true ∧ ∃ n : Nat, n < 31 ∧ rs = numS n ∧ e.thing N = .int (n : Nat) ∧ ¬ e.str N = "answer 0")))) := by
      cases e with
      | click i =>
        obtain ⟨f1, f2, f3, f4, f5⟩ := ev_named "click" (by decide) _ (hN.kin i he)
        exact ⟨_, _, _, small (Nat.le_trans f1 (by decide)), f2, .inr ⟨f3, rfl, .inl ⟨f4, hN.kin i he, rfl⟩⟩⟩
      | other i =>
        obtain ⟨f1, f2, f3, f4, f5⟩ := ev_named "other" (by decide) _ (hN.kin i he)
        exact ⟨_, _, _, small (Nat.le_trans f1 (by decide)), f2, .inr ⟨f3, rfl, .inl ⟨f4, hN.kin i he, rfl⟩⟩⟩
      | serve =>
        obtain ⟨f1, f2, f3, f4⟩ := ev_plain "serve" (by decide)
        exact ⟨_, _, _, small (Nat.le_trans f1 (by decide)), f2, .inl ⟨f3, rfl, rfl⟩⟩
      | refuse =>
        obtain ⟨f1, f2, f3, f4⟩ := ev_plain "refuse" (by decide)
        exact ⟨_, _, _, small (Nat.le_trans f1 (by decide)), f2, .inl ⟨f3, rfl, rfl⟩⟩
      | answer n =>
        have hn : n < 31 := Nat.lt_succ_of_le he.2
        obtain ⟨f1, f2, f3, f4, f5, f6, f7⟩ := ev_num "answer" (by decide) n hn
        exact ⟨_, _, _, small (Nat.le_trans f1 (by decide)), f2, .inr ⟨f3, rfl, .inr ⟨f4, f5, n, hn, rfl, rfl, f6 (.inl he.1)⟩⟩⟩
      | list m =>
        have hn : m < 31 := Nat.lt_succ_of_le he
        obtain ⟨f1, f2, f3, f4, f5, f6, f7⟩ := ev_num "list" (by decide) m hn
        exact ⟨_, _, _, small (Nat.le_trans f1 (by decide)), f2, .inr ⟨f3, rfl, .inr ⟨f4, f5, m, hn, rfl, rfl, f6 (.inr rfl)⟩⟩⟩
    obtain ⟨wd, bl, rs, hl, hp, hc⟩ := hh
    refine ⟨_, rfl, ⟨_, rfl⟩, _, _, rfl, rfl, rfl, hl, fun p1 hp1 => ?_⟩
    rw [show Txt.partition (e.str N) (Str.ofString " ") = (wd, bl, rs) from hp]
    refine ⟨p1, _, rfl, SqT.of upd_same, rfl, _, _, rfl, _, _, rfl, _, _, rfl, rfl, ?_⟩
    have s1 := same_new (o := .tup [.str wd, .str bl, .str rs]) hp1
    refine ⟨_, rfl, l2, fun p2 hp2 => ⟨p2, twoP, rfl, .inr (SqT.of upd_same), rfl, rfl, _, rfl, ?_⟩⟩
    have s2 := Same.new s1 (o := .tup twoP) hp2
    rcases hc with ⟨c1, c2, c3⟩ | ⟨c1, rfl, c2⟩
    · refine ifT c1 ⟨_, rfl, l2, fun p3 hp3 => k p3 _ (Same.new s2 hp3) ?_⟩
      rw [upd_same, c2, c3]
    · refine ifF c1 ⟨_, rfl, l2, fun p3 hp3 => ⟨p3, twoN, rfl, .inr (SqT.of upd_same), rfl, rfl, _, rfl, ?_⟩⟩
      have s3 := Same.new s2 (o := .tup twoN) hp3
      rcases c2 with ⟨d1, d2, d3⟩ | ⟨d1, d2, n, hn, rfl, d3, d4⟩
      · refine ifT d1 ⟨_, rfl, rs, rfl, d2, fun H4 s4 => ⟨true, rfl, iteT ⟨_, rfl, _, rfl, l2, fun p4 hp4 => k p4 _ (Same.new (Same.trans s3 s4) hp4) ?_⟩⟩⟩
        rw [upd_same, d3]
      · refine ifF d1 ⟨_, rfl, l2, fun p4 hp4 => ⟨p4, twoA, rfl, .inr (SqT.of upd_same), rfl, rfl, _, rfl, ?_⟩⟩
        have s4 := Same.new s3 (o := .tup twoA) hp4
        refine ifF (by show (!inV (.str e.word) twoA) = false; rw [d2]; rfl) ?_
        obtain ⟨l4, hi, ne, hd, hdo⟩ := num_ok n hn
        refine ⟨_, rfl, n, rfl, hn, fun H5 s5 => ⟨true, rfl, iteF ?_⟩⟩
        refine ⟨_, rfl, _, (numS n).length, rfl, ⟨len4 l4, rfl⟩, _, _, rfl, rfl, _, rfl, ifF (decide_eq_false (by omega)) ?_⟩
        refine ⟨_, rfl, rfl, _, rfl, ifF (by rw [dec_strV]; exact decide_eq_false d4) ?_⟩
        refine ⟨_, rfl, _, rfl, _, (n : Int), rfl, hi, Nat.le_trans l4 (by decide), l2, fun p6 hp6 => k p6 _ (Same.new (Same.trans s4 s5) hp6) ?_⟩
        rw [upd_same, d3]
/-- a weaving of events -/
def WeavAt (K : PySem.W.Frag) (H : L2.Hp) (a : Addr) (ts : List Str) : Prop := ∃ dx ae : Addr, H a = some (.ins (He.ga K "Weaving") dx [("events", .ref ae)]) ∧ H ae = some (.tup (stL ts))
theorem WeavAt.mono {H H' : L2.Hp} {a : Addr} {ts : List Str} (h : WeavAt K H a ts) (s : Same H H') : WeavAt K H' a ts := by
  obtain ⟨d, e, h1, h2⟩ := h
  exact ⟨d, e, s _ _ h1, s _ _ h2⟩
def spWeavInit (K : PySem.W.Frag) : Sp := fun vs H Q _ => ∃ (p dx ae : Addr) (N : Nm) (es : List Ev), vs = [.ref p, .ref ae] ∧ H p = some (.ins (He.ga K "Weaving") dx []) ∧ H ae = some (.lst (stL (es.map (Ev.str N)))) ∧ N.Ok ∧ (∀ e ∈ es, e.In N) ∧ es.length ≤ 100 ∧
  ∀ H', Kp p H H' → WeavAt K H' p (es.map (Ev.str N)) → Q .non H'
theorem h_weaving_init (C : Ctx K mg) : ∃ fd, Has P w K mg base 3 (He.fAd K ("Weaving", some "__init__")) ["self", "events"] (spWeavInit K) fd := by
  obtain ⟨fdE, GE⟩ := h_event_in (P := P) (w := w) (base := base) C
  obtain ⟨fdS, GS⟩ := h_is_sequence (P := P) (w := w) (base := base) C
  refine has_of C.bi_weaving_init sc_weaving_init (fun vs H Q E h => ?_) (fun cdv A outer s H vs Q E hr h => ?_)
  · obtain ⟨p, dx, ae, N, es, rfl, _⟩ := h
    rfl
  · obtain ⟨p, dx, ae, N, es, rfl, hp, hae, hN, hes, hlen, k⟩ := h
    have nd := sc_weaving_init.nd
    refine ⟨_, (pss_cons (ps_if (pt_not (pt_val (pe_call GS.ok (hr.mono (by decide)) (by rfl) C.g_is_sequence GS.kp GS.b .nil pass0 (pa_cons (pv 1) pa_nil)))) (pss_one ps_never) pss_nil) (pss_cons (ps_for PassesOwn.never rfl (pi_enum (by rfl) C.f_enumerate (pa_cons (pv 1) pa_nil)) (pg_tup rfl (pgs_cons (pg_name (i := 2) nd rfl (Or.inl rfl)) (pgs_cons (pg_name (i := 3) nd rfl (Or.inl rfl)) pgs_nil))) (pss_one (ps_if (pt_cmpR op_isN (pe_call GE.ok (hr.mono (by decide)) (by rfl) C.g_event_in GE.kp GE.b .nil pass0 (pa_cons (pv 3) pa_nil)) pe_non (nomark _)) (pss_one ps_never) pss_nil))) (pss_one (ps_fld (pv 0) (pe_callTy call_tuple_of (by rfl) C.f_tuple boot_tuple (pa_cons (pv 1) pa_nil)) rfl)))), ?_⟩
    refine ⟨_, rfl, ae, _, rfl, hae, fun H1 s1 => ⟨true, rfl, iteF ?_⟩⟩
    have hae1 := s1 _ _ hae
    refine ⟨_, rfl, ae, _, rfl, SqL.of hae1, for_it walk_enum (fun i σ H' => Same H H' ∧ ∃ x2 x3, σ = [some (.ref p), some (.ref ae), x2, x3]) ⟨s1, none, none, rfl⟩ (fun i σ H' _ q => SqL.of (q.1 _ _ hae)) ?_ ?_⟩
    · rintro i x σ H2 H3 hi ⟨s2, x2, x3, rfl⟩ ⟨T, x1, y1, rfl, hT, rfl, e1, e2⟩
      rw [stL_len, List.length_map] at hi
      have hei : es[i]? = some es[i] := List.getElem?_eq_getElem hi
      obtain rfl : y1 = .str (es[i].str N) := map_un (f := V.str) (map_at (f := Ev.str N) hei) e2
      cases e1
      refine ⟨T, _, rfl, SqT.of upd_same, rfl, _, _, rfl, _, _, rfl, rfl, _, rfl, N, es[i], rfl, hN, hes _ (List.getElem_mem hi), fun q H4 s4 hq => ?_⟩
      exact ⟨rfl, _, rfl, ifF rfl ⟨(Same.new s2 hT).trans s4, some (.int (i : Nat)), some (.str (es[i].str N)), rfl⟩⟩
    · rintro σ H2 ⟨s2, x2, x3, rfl⟩
      refine ⟨_, rfl, ae, _, rfl, .inl ⟨SqL.of (s2 _ _ hae), fun l hl => ?_⟩⟩
      refine ⟨_, rfl, p, _, dx, _, rfl, same_new hl _ _ (s2 _ _ hp), C.cls_Weaving, C.no_Weaving_events, (by show 0 < 1000; decide), ?_⟩
      have lp : l ≠ p := fun e => by rw [e, s2 _ _ hp] at hl; cases hl
      exact k _ (((Kp.of s2).new hl).put) ⟨dx, l, upd_same, by rw [upd_ne lp, upd_same]⟩
end
end Hp
set_option Elab.async false
set_option linter.all false
set_option maxRecDepth 100000
set_option maxHeartbeats 4000000
namespace Hp
open PySem PySem.Spec PyProof.Rows L2
theorem word_facts : ∀ t ∈ allTests, t.length ≤ sizeLine ∧ Txt.startswith t "not " = isNot t ∧ plainT t ∈ tv_TESTS := by decide +kernel
theorem lst_facts : (∀ t ∈ lstT, ¬ t ∈ tv_OF_ANSWERS) ∧ (∀ t ∈ lstD, ¬ t ∈ tv_OF_ANSWERS) ∧ (∀ t ∈ ansD, t ∈ tv_DEEDS) := by decide +kernel
section
variable {P : Program} {w : World} {K : PySem.W.Frag} {mg : Str → Option Value} {base : Heap}
def spFits : Sp := fun vs H Q _ => ∃ wd l : Str, vs = [.str wd, .str l] ∧ (l = "list" → ¬ wd ∈ tv_OF_ANSWERS) ∧ ∀ H', Same H H' → Q (.bl true) H'
theorem h_fits_letter (C : Ctx K mg) : ∃ fd, Has P w K mg base 1 (He.fAd K ("fits_letter", none)) ["word", "letter"] spFits fd := by
  refine has_of C.fn_fits_letter sc_fits_letter (fun vs H Q E h => ?_) (fun cdv A outer s H vs Q E hr h => ?_)
  · obtain ⟨wd, l, rfl, _⟩ := h
    rfl
  · obtain ⟨wd, l, rfl, hf, k⟩ := h
    refine ⟨_, (pss_one (ps_ret (pe_or (pe_cmpR op_ne (pv 1) pe_str (nomark _)) (pe_one (pe_cmpR op_notIn_seq (pv 0) (pe_glob (v := .ref (He.ga K "OF_ANSWERS")) (by rfl) C.g_OF_ANSWERS rfl) (by rfl)))))), ?_⟩
    refine ⟨_, rfl, rfl, _, rfl, ?_⟩
    rw [dec_strV]
    by_cases e : l = "list"
    · rw [decide_eq_true e]
      refine iteF ⟨_, rfl, _, _, rfl, .inr (C.t_OF_ANSWERS H), rfl, flat_strs _, ?_⟩
      show Q (.bl (!inV (.str wd) (tv_OF_ANSWERS.map V.str))) _
      rw [inV_strs, decide_eq_false (hf e)]
      exact k _ (Same.refl _)
    · rw [decide_eq_false e]
      exact iteT (k _ (Same.refl _))
def spIsTest : Sp := fun vs H Q _ => ∃ t l : Str, vs = [.str t, .str l] ∧ tOk l t ∧ ∀ H', Same H H' → Q (.bl true) H'
theorem h_is_test (C : Ctx K mg) : ∃ fd, Has P w K mg base 2 (He.fAd K ("is_test", none)) ["value", "letter"] spIsTest fd := by
  obtain ⟨fdF, GF⟩ := h_fits_letter (P := P) (w := w) (base := base) C
  refine has_of C.fn_is_test sc_is_test (fun vs H Q E h => ?_) (fun cdv A outer s H vs Q E hr h => ?_)
  · obtain ⟨wd, l, rfl, _⟩ := h
    rfl
  · obtain ⟨t, l, rfl, ⟨hf, hl⟩, k⟩ := h
    obtain ⟨f1, f2, f3⟩ := word_facts t hf
    have nd := sc_is_test.nd
    refine ⟨_, (pss_cons (ps_if (pt_not (pt_val (pe_callB call_isi (by rfl) C.f_isinstance boot_isinstance (pa_cons (pv 0) (pa_cons (pe_bltn (v := .ty "str") (by rfl) C.f_str boot_str rfl) pa_nil))))) (pss_one (ps_ret pe_bl)) pss_nil) (pss_cons (ps_set (i := 2) nd rfl (Or.inl rfl) (pe_ifExp (pt_val (pe_m1 PySem.F.slot_str_startswith PySem.F.type_str_startswith mt_startswith (pv 0) pe_str)) (pe_slice sl_str (pv 0) (po_some pe_int) po_none) (pv 0))) (pss_one (ps_ret (pe_and (pe_cmpR op_in_seq (pv 2) (pe_glob (v := .ref (He.ga K "TESTS")) (by rfl) C.g_TESTS rfl) (by rfl)) (pe_one (pe_call GF.ok (hr.mono (by decide)) (by rfl) C.g_fits_letter GF.kp GF.b .nil pass0 (pa_cons (pv 2) (pa_cons (pv 1) pa_nil))))))))), ?_⟩
    refine ⟨_, rfl, .str t, .ty "str", .type "str", .type "str", true, rfl, ClsV.ty _, TyX.base (TyOf.str _), kit_ty (by decide +kernel), true, rfl, iteF ?_⟩
    refine ⟨_, rfl, ⟨_, rfl⟩, _, _, rfl, rfl, _, rfl, ?_⟩
    rw [show Txt.startswith t (Str.ofString "not ") = isNot t from f2]
    cases e : isNot t with
    | true =>
      refine iteT ⟨_, rfl, 4, rfl, t, rfl, f1, ?_⟩
      have e2 : cutS t (some 4) none = plainT t := by unfold plainT; rw [e]; rfl
      rw [e2]
      refine ⟨_, rfl, _, _, rfl, .inr (C.t_TESTS H), rfl, flat_strs _, _, rfl, ?_⟩
      show if inV (.str (plainT t)) (tv_TESTS.map V.str) = true then _ else _
      rw [inV_strs, decide_eq_true f3]
      exact iteT ⟨_, rfl, _, rfl, _, _, rfl, fun e => lst_facts.1 _ (hl e), k⟩
    | false =>
      refine iteF ⟨_, rfl, ?_⟩
      have e2 : t = plainT t := by unfold plainT; rw [e]; rfl
      refine ⟨_, rfl, _, _, rfl, .inr (C.t_TESTS H), rfl, flat_strs _, _, rfl, ?_⟩
      show if inV (.str t) (tv_TESTS.map V.str) = true then _ else _
      rw [inV_strs, decide_eq_true (e2 ▸ f3)]
      exact iteT ⟨_, rfl, _, rfl, _, _, rfl, fun e => lst_facts.1 _ (e2 ▸ hl e), k⟩
def spIsDeed : Sp := fun vs H Q _ => ∃ t l : Str, vs = [.str t, .str l] ∧ dOk l t ∧ ∀ H', Same H H' → Q (.bl true) H'
theorem h_is_deed (C : Ctx K mg) : ∃ fd, Has P w K mg base 2 (He.fAd K ("is_deed", none)) ["value", "letter"] spIsDeed fd := by
  obtain ⟨fdF, GF⟩ := h_fits_letter (P := P) (w := w) (base := base) C
  refine has_of C.fn_is_deed sc_is_deed (fun vs H Q E h => ?_) (fun cdv A outer s H vs Q E hr h => ?_)
  · obtain ⟨wd, l, rfl, _⟩ := h
    rfl
  · obtain ⟨t, l, rfl, ⟨hf, hl⟩, k⟩ := h
    refine ⟨_, (pss_one (ps_ret (pe_and (pe_callB call_isi (by rfl) C.f_isinstance boot_isinstance (pa_cons (pv 0) (pa_cons (pe_bltn (v := .ty "str") (by rfl) C.f_str boot_str rfl) pa_nil))) (pe_and (pe_cmpR op_in_seq (pv 0) (pe_glob (v := .ref (He.ga K "DEEDS")) (by rfl) C.g_DEEDS rfl) (by rfl)) (pe_one (pe_call GF.ok (hr.mono (by decide)) (by rfl) C.g_fits_letter GF.kp GF.b .nil pass0 (pa_cons (pv 0) (pa_cons (pv 1) pa_nil)))))))), ?_⟩
    refine ⟨_, rfl, .str t, .ty "str", .type "str", .type "str", true, rfl, ClsV.ty _, TyX.base (TyOf.str _), kit_ty (by decide +kernel), true, rfl, iteT ?_⟩
    refine ⟨_, rfl, _, _, rfl, .inr (C.t_DEEDS H), rfl, flat_strs _, _, rfl, ?_⟩
    show if inV (.str t) (tv_DEEDS.map V.str) = true then _ else _
    rw [inV_strs, decide_eq_true (lst_facts.2.2 t hf)]
    exact iteT ⟨_, rfl, _, rfl, _, _, rfl, fun e => lst_facts.2.1 _ (hl e), k⟩
def spRowInit (K : PySem.W.Frag) : Sp := fun vs H Q _ => ∃ (p dx at_ ad : Addr) (r : RowD), vs = [.ref p, .str r.letter, .ref at_, .ref ad] ∧ H p = some (.ins (He.ga K "Row") dx []) ∧ H at_ = some (.lst (stL r.tests)) ∧ H ad = some (.lst (stL r.deeds)) ∧ r.Ok ∧
  ∀ H', Kp p H H' → RowAt K H' p r → Q .non H'
theorem h_row_init (C : Ctx K mg) : ∃ fd, Has P w K mg base 3 (He.fAd K ("Row", some "__init__")) ["self", "letter", "tests", "deeds"] (spRowInit K) fd := by
  obtain ⟨fdS, GS⟩ := h_is_sequence (P := P) (w := w) (base := base) C
  obtain ⟨fdT, GT⟩ := h_is_test (P := P) (w := w) (base := base) C
  obtain ⟨fdD, GD⟩ := h_is_deed (P := P) (w := w) (base := base) C
  refine has_of C.bi_row_init sc_row_init (fun vs H Q E h => ?_) (fun cdv A outer s H vs Q E hr h => ?_)
  · obtain ⟨p, dx, at_, ad, r, rfl, _⟩ := h
    rfl
  · obtain ⟨p, dx, at_, ad, r, rfl, hp, hat, had, hok, k⟩ := h
    have nd := sc_row_init.nd
    have hlt := hok.tn
    have hld := hok.dn
    refine ⟨_, (pss_cons (ps_if (PW.pt (pw_or (pt_not (pt_val (pe_callB call_isi (by rfl) C.f_isinstance boot_isinstance (pa_cons (pv 1) (pa_cons (pe_bltn (v := .ty "str") (by rfl) C.f_str boot_str rfl) pa_nil))))) (pw_or1 (pt_cmpR op_notIn_seq (pv 1) (pe_glob (v := .ref (He.ga K "LETTERS")) (by rfl) C.g_LETTERS rfl) (by rfl))))) (pss_one ps_never) pss_nil) (pss_cons (ps_if (PW.pt (pw_or (pt_not (pt_val (pe_call GS.ok (hr.mono (by decide)) (by rfl) C.g_is_sequence GS.kp GS.b .nil pass0 (pa_cons (pv 2) pa_nil)))) (pw_or1 (pt_not (pt_val (pe_callB (cr_all rfl) (by rfl) C.f_all (by decide +kernel) (pa_cons (pe_lc (own := [("test", 4)]) (g := gName 4) (tt := tYes) rfl nd (pi_list (pv 2)) (blkOk_by (N := N_row_init) (sc := defScope s_row_init) (by decide +kernel)) (fun _ _ _ _ _ => (pg_name (i := 4) nd rfl (Or.inl rfl))) (fun _ _ _ _ _ => pts_nil) (fun _ _ _ _ _ => (pe_call GT.ok (hr.mono (by decide)) (by rfl) C.g_is_test GT.kp GT.b .nil pass0 (pa_cons (pv 4) (pa_cons (pv 1) pa_nil))))) pa_nil))))))) (pss_one ps_never) pss_nil) (pss_cons (ps_if (PW.pt (pw_or (pt_not (pt_val (pe_call GS.ok (hr.mono (by decide)) (by rfl) C.g_is_sequence GS.kp GS.b .nil pass0 (pa_cons (pv 3) pa_nil)))) (pw_or1 (pt_not (pt_val (pe_callB (cr_all rfl) (by rfl) C.f_all (by decide +kernel) (pa_cons (pe_lc (own := [("deed", 5)]) (g := gName 5) (tt := tYes) rfl nd (pi_list (pv 3)) (blkOk_by (N := N_row_init) (sc := defScope s_row_init) (by decide +kernel)) (fun _ _ _ _ _ => (pg_name (i := 5) nd rfl (Or.inl rfl))) (fun _ _ _ _ _ => pts_nil) (fun _ _ _ _ _ => (pe_call GD.ok (hr.mono (by decide)) (by rfl) C.g_is_deed GD.kp GD.b .nil pass0 (pa_cons (pv 5) (pa_cons (pv 1) pa_nil))))) pa_nil))))))) (pss_one ps_never) pss_nil) (pss_cons (ps_fld (pv 0) (pv 1) rfl) (pss_cons (ps_fld (pv 0) (pe_callTy call_tuple_of (by rfl) C.f_tuple boot_tuple (pa_cons (pv 2) pa_nil)) rfl) (pss_one (ps_fld (pv 0) (pe_callTy call_tuple_of (by rfl) C.f_tuple boot_tuple (pa_cons (pv 3) pa_nil)) rfl))))))), ?_⟩
    refine ⟨_, rfl, .str r.letter, .ty "str", .type "str", .type "str", true, rfl, ClsV.ty _, TyX.base (TyOf.str _), kit_ty (by decide +kernel), true, rfl, iteF ?_⟩
    refine ⟨_, rfl, _, _, rfl, .inr (C.t_LETTERS H), rfl, flat_strs _, _, rfl, ?_⟩
    show if (!inV (.str r.letter) (tv_LETTERS.map V.str)) = true then _ else _
    rw [inV_strs, decide_eq_true hok.l]
    refine iteF ?_
    refine ⟨_, rfl, at_, _, rfl, hat, fun H1 s1 => ⟨true, rfl, iteF ?_⟩⟩
    refine ⟨_, rfl, at_, rfl, ⟨_, SqL.of (s1 _ _ hat)⟩, fun D hD => ?_⟩
    refine lc_m walk_list r.tests (stL_len _) (small (by omega)) (fun _ => .bl true) hD (fun H2 s2 => SqL.of (s2 _ _ (s1 _ _ hat))) (fun i z x H2 H3 Qy Qn hi s2 y k1 => ?_) (fun H2 s2 hL => ?_)
    · obtain ⟨rfl, e2⟩ := y
      obtain rfl : x = .str z := map_un hi e2
      exact ⟨rfl, yesT ⟨_, rfl, _, rfl, z, r.letter, rfl, hok.t z (List.mem_of_getElem? hi), fun H4 s4 => k1 _ s4⟩⟩
    refine ⟨D, r.tests.map fun _ => true, rfl, SqL.of (by rw [hL, List.map_map]; rfl), ?_⟩
    rw [all_true]
    refine ⟨true, rfl, iteF ?_⟩
    have s12 := s1.trans s2
    refine ⟨_, rfl, ad, _, rfl, s12 _ _ had, fun H3 s3 => ⟨true, rfl, iteF ?_⟩⟩
    have s13 := s12.trans s3
    refine ⟨_, rfl, ad, rfl, ⟨_, SqL.of (s13 _ _ had)⟩, fun D2 hD2 => ?_⟩
    refine lc_m walk_list r.deeds (stL_len _) (small (by omega)) (fun _ => .bl true) hD2 (fun H4 s4 => SqL.of (s4 _ _ (s13 _ _ had))) (fun i z x H4 H5 Qy Qn hi s4 y k1 => ?_) (fun H4 s4 hM => ?_)
    · obtain ⟨rfl, e2⟩ := y
      obtain rfl : x = .str z := map_un hi e2
      exact ⟨rfl, yesT ⟨_, rfl, _, rfl, z, r.letter, rfl, hok.d z (List.mem_of_getElem? hi), fun H4 s4 => k1 _ s4⟩⟩
    refine ⟨D2, r.deeds.map fun _ => true, rfl, SqL.of (by rw [hM, List.map_map]; rfl), ?_⟩
    rw [all_true]
    refine ⟨true, rfl, iteF ?_⟩
    have s14 := s13.trans s4
    have ntp : at_ ≠ p := ne_of hat hp (by intro q; cases q)
    have ndp : ad ≠ p := ne_of had hp (by intro q; cases q)
    refine ⟨_, rfl, _, rfl, p, _, dx, _, rfl, s14 _ _ hp, C.cls_Row, C.no_Row_letter, (by show 0 < 1000; decide), ?_⟩
    have kp1 := (Kp.of (p := p) s14).put (o := .ins (He.ga K "Row") dx (putF "letter" (.str r.letter) []))
    refine ⟨_, rfl, at_, _, rfl, .inl ⟨SqL.of (kp1 _ _ hat ntp), fun t ht => ?_⟩⟩
    have tp : t ≠ p := fun e => by rw [e, upd_same] at ht; cases ht
    refine ⟨_, rfl, p, _, dx, _, rfl, same_new ht _ _ upd_same, C.cls_Row, C.no_Row_tests, (by show 1 < 1000; decide), ?_⟩
    have kp2 := (kp1.new (o := .tup (stL r.tests)) ht).put (o := .ins (He.ga K "Row") dx (putF "tests" (.ref t) (putF "letter" (.str r.letter) [])))
    refine ⟨_, rfl, ad, _, rfl, .inl ⟨SqL.of (kp2 _ _ had ndp), fun d hd => ?_⟩⟩
    have dp : d ≠ p := fun e => by rw [e, upd_same] at hd; cases hd
    refine ⟨_, rfl, p, _, dx, _, rfl, same_new hd _ _ upd_same, C.cls_Row, C.no_Row_deeds, (by show 2 < 1000; decide), ?_⟩
    refine k _ ((kp2.new hd).put) ⟨dx, t, d, upd_same, ?_, ?_⟩
    · rw [upd_ne tp]
      refine same_new hd _ _ ?_
      rw [upd_ne tp, upd_same]
    · rw [upd_ne dp, upd_same]
def spPageInit (K : PySem.W.Frag) : Sp := fun vs H Q _ => ∃ (p dx ar : Addr) (ras : List Addr) (rows : List RowD), vs = [.ref p, .ref ar] ∧ H p = some (.ins (He.ga K "Page") dx []) ∧ H ar = some (.lst (ras.map V.ref)) ∧ ras.length = rows.length ∧ ras.length ≤ 100 ∧
  (∀ (i : Nat) (ra : Addr) (r : RowD), ras[i]? = some ra → rows[i]? = some r → RowAt K H ra r) ∧ ∀ H', Kp p H H' → PageAt K H' p rows → Q .non H'
theorem h_page_init (C : Ctx K mg) : ∃ fd, Has P w K mg base 3 (He.fAd K ("Page", some "__init__")) ["self", "rows"] (spPageInit K) fd := by
  obtain ⟨fdS, GS⟩ := h_is_sequence (P := P) (w := w) (base := base) C
  refine has_of C.bi_page_init sc_page_init (fun vs H Q E h => ?_) (fun cdv A outer s H vs Q E hr h => ?_)
  · obtain ⟨p, dx, ar, ras, rows, rfl, _⟩ := h
    rfl
  · obtain ⟨p, dx, ar, ras, rows, rfl, hp, har, hl, hlen, hrows, k⟩ := h
    have nd := sc_page_init.nd
    refine ⟨_, (pss_cons (ps_if (PW.pt (pw_or (pt_not (pt_val (pe_call GS.ok (hr.mono (by decide)) (by rfl) C.g_is_sequence GS.kp GS.b .nil pass0 (pa_cons (pv 1) pa_nil)))) (pw_or1 (pt_not (pt_val (pe_callB (cr_all rfl) (by rfl) C.f_all (by decide +kernel) (pa_cons (pe_lc (own := [("row", 2)]) (g := gName 2) (tt := tYes) rfl nd (pi_list (pv 1)) (blkOk_by (N := N_page_init) (sc := defScope s_page_init) (by decide +kernel)) (fun _ _ _ _ _ => (pg_name (i := 2) nd rfl (Or.inl rfl))) (fun _ _ _ _ _ => pts_nil) (fun _ _ _ _ _ => (pe_callB (C8.call_isC C.ins_Row) (by rfl) C.f_isinstance boot_isinstance (pa_cons (pv 2) (pa_cons (pe_glob (v := .ref (He.ga K "Row")) (by rfl) C.g_Row rfl) pa_nil))))) pa_nil))))))) (pss_one ps_never) pss_nil) (pss_one (ps_fld (pv 0) (pe_callTy call_tuple_of (by rfl) C.f_tuple boot_tuple (pa_cons (pv 1) pa_nil)) rfl))), ?_⟩
    refine ⟨_, rfl, ar, _, rfl, har, fun H1 s1 => ⟨true, rfl, iteF ?_⟩⟩
    refine ⟨_, rfl, ar, rfl, ⟨_, SqL.of (s1 _ _ har)⟩, fun D hD => ?_⟩
    refine lc_m walk_list ras (List.length_map ..) (small (by omega)) (fun _ => .bl true) hD (fun H2 s2 => SqL.of (s2 _ _ (s1 _ _ har))) (fun i z x H2 H3 Qy Qn hi s2 y k1 => ?_) (fun H2 s2 hL => ?_)
    · obtain ⟨rfl, e2⟩ := y
      obtain rfl : x = .ref z := map_un hi e2
      have hil : i < rows.length := by have := (List.getElem?_eq_some_iff.mp hi).1; omega
      obtain ⟨dx2, a1, a2, r1, _⟩ := hrows i z _ hi (List.getElem?_eq_getElem hil)
      exact ⟨rfl, yesT ⟨_, rfl, z, dx2, _, rfl, s2 _ _ (s1 _ _ r1), k1 _ (Same.refl _)⟩⟩
    refine ⟨D, ras.map fun _ => true, rfl, SqL.of (by rw [hL, List.map_map]; rfl), ?_⟩
    rw [all_true]
    refine ⟨true, rfl, iteF ?_⟩
    have s12 := s1.trans s2
    refine ⟨_, rfl, ar, _, rfl, .inl ⟨SqL.of (s12 _ _ har), fun t ht => ?_⟩⟩
    have tp : t ≠ p := fun e => by rw [e, s12 _ _ hp] at ht; cases ht
    refine ⟨_, rfl, p, _, dx, _, rfl, same_new ht _ _ (s12 _ _ hp), C.cls_Page, C.no_Page_rows, (by show 0 < 1000; decide), ?_⟩
    have kp := ((Kp.of (p := p) s12).new (o := .tup (ras.map V.ref)) ht).put (o := .ins (He.ga K "Page") dx (putF "rows" (.ref t) []))
    refine k _ kp ⟨dx, t, ras, upd_same, by rw [upd_ne tp, upd_same], hl, fun i ra r e1 e2 => ?_⟩
    obtain ⟨dx2, a1, a2, r1, r2, r3⟩ := hrows i ra r e1 e2
    exact ⟨dx2, a1, a2, kp _ _ r1 (fun e => by rw [e, hp] at r1; have q := Option.some.inj r1; injection q with q1 q2 q3; cases q3), kp _ _ r2 (ne_of r2 hp (by intro q; cases q)), kp _ _ r3 (ne_of r3 hp (by intro q; cases q))⟩
end
end Hp
set_option Elab.async false
set_option linter.all false
set_option maxRecDepth 100000
set_option maxHeartbeats 4000000
namespace Hp
open PySem PySem.Spec PyProof.Rows L2
theorem tCase_y {c : Str} {tb : TS} {tr : Str → TS} {D : Ends} {σ : L2.St} {H : L2.Hp} (h : tb D σ H) : tCase c tb tr c D σ H := by
  show if c = c then _ else _
  rw [if_pos rfl]
  exact h
theorem tCase_n {c z : Str} {tb : TS} {tr : Str → TS} {D : Ends} {σ : L2.St} {H : L2.Hp} (n : ¬ z = c) (h : tr z D σ H) : tCase c tb tr z D σ H := by
  show if z = c then _ else _
  rw [if_neg n]
  exact h
theorem Kp.same {F H H' : L2.Hp} {a : Addr} (k : Kp a H H') (s : Same F H) (n : F a = none) : Same F H' := fun b o e => k b o (s b o e) (ne_of_none e n)
theorem Kp.refl {a : Addr} {H : L2.Hp} : Kp a H H := fun _ _ e _ => e
theorem slA {K : PySem.W.Frag} {H : L2.Hp} {a : Addr} {xs : List V} {lo hi : Option Int} {Q : VK} (hx : H a = some (.tup xs)) (h : ∀ p H', Same H H' → H' p = some (.tup (cutV xs lo hi)) → Q (.ref p) H') : rSlA K (.ref a) lo hi H Q := by
  refine ⟨a, xs, rfl, SqT.of hx, fun e => h a H (Same.refl _) ?_, fun _ p hp => h p _ (same_new hp) upd_same⟩
  rw [hx]
  unfold cutV
  rw [e.1, e.2, List.drop_zero, Nat.sub_zero, List.take_length]
/-- a sheet -/
structure SS where
  kinds : List Nat
  base : Nat
  cont : List Nat
  opn : List Nat
  heard : Nat
def shF (b pg ak ac ao : Addr) (base heard : V) : List (Str × V) := [("book", .ref b), ("page", .ref pg), ("kinds", .ref ak), ("base", base), ("contents", .ref ac), ("open_ones", .ref ao), ("heard", heard)]
def SheetAt (K : PySem.W.Frag) (H : L2.Hp) (a b pg : Addr) (N : Nm) (S : SS) : Prop := ∃ dx ak ac ao : Addr, H a = some (.ins (He.ga K "Sheet") dx (shF b pg ak ac ao (.str (N.v S.base)) (.int (S.heard : Nat)))) ∧ H ak = some (.tup (stL (S.kinds.map N.k))) ∧ H ac = some (.tup (inL S.cont)) ∧ H ao = some (.tup (inL S.opn))
theorem SheetAt.kept {K : PySem.W.Frag} {H H' : L2.Hp} {a b pg : Addr} {N : Nm} {S : SS} (h : SheetAt K H a b pg N S) (k : ∀ c o, H c = some o → (c = a ∨ ∃ xs, o = .tup xs) → H' c = some o) : SheetAt K H' a b pg N S := by
  obtain ⟨dx, ak, ac, ao, h1, h2, h3, h4⟩ := h
  exact ⟨dx, ak, ac, ao, k _ _ h1 (.inl rfl), k _ _ h2 (.inr ⟨_, rfl⟩), k _ _ h3 (.inr ⟨_, rfl⟩), k _ _ h4 (.inr ⟨_, rfl⟩)⟩
theorem SheetAt.mono {K : PySem.W.Frag} {H H' : L2.Hp} {a b pg : Addr} {N : Nm} {S : SS} (h : SheetAt K H a b pg N S) (s : Same H H') : SheetAt K H' a b pg N S := h.kept fun c o e _ => s c o e
structure SS.Ok (N : Nm) (M : Nat) (S : SS) : Prop where
  b : S.base < N.nv
  k : ∀ i ∈ S.kinds, i < N.nk
  o : ∀ n ∈ S.opn, 1 ≤ n ∧ n ≤ S.kinds.length
  kl : S.kinds.length ≤ M
  cl : S.cont.length ≤ M
  ol : S.opn.length ≤ M
  m : M ≤ 10000
structure Fr (K : PySem.W.Frag) (F : L2.Hp) (b pg : Addr) (N : Nm) (B : IB) (rows : List RowD) : Prop where
  b : BookAt K F b N B
  p : PageAt K F pg rows
  n : N.Ok
  bo : B.Ok N
  ro : ∀ r ∈ rows, r.Ok
  rl : rows.length ≤ 100
def optI : Option Nat → V
  | none => .non
  | some n => .int (n : Nat)
def reachedM (reach : Option Nat) (n : Nat) : Bool := match reach with
  | none => false
  | some r => decide (n ≤ r)
def rowFits (l : Str) (T : Str → Bool) (r : RowD) : Bool := decide (r.letter = l) && r.tests.all (holdsM T)
def rowAtM (rows : List RowD) (l : Str) (T : Str → Bool) : Option Nat := rows.findIdx? (rowFits l T)
section
variable {P : Program} {w : World} {K : PySem.W.Frag} {mg : Str → Option Value} {base : Heap}
def spReached : Sp := fun vs H Q _ => ∃ (reach : Option Nat) (n : Nat), vs = [optI reach, .int (n : Nat)] ∧ Q (.bl (reachedM reach n)) H
theorem h_reached (C : Ctx K mg) : ∃ fd, Has P w K mg base 1 (He.fAd K ("reached", none)) ["reach", "number"] spReached fd := by
  refine has_of C.fn_reached sc_reached (fun vs H Q E h => ?_) (fun cdv A outer s H vs Q E hr h => ?_)
  · obtain ⟨r, n, rfl, _⟩ := h
    rfl
  · obtain ⟨r, n, rfl, k⟩ := h
    refine ⟨_, (pss_one (ps_ret (pe_and (pe_cmpR op_notN (pv 0) pe_non (nomark _)) (pe_one (pe_cmpR op_ge (pv 0) (pv 1) (nomark _)))))), ?_⟩
    cases r with
    | none => exact ⟨_, rfl, rfl, _, rfl, ifF rfl k⟩
    | some r =>
      refine ⟨_, rfl, rfl, _, rfl, ifT rfl ⟨_, rfl, _, rfl, (r : Int), (n : Int), rfl, rfl, ?_⟩⟩
      have e : decide ((n : Int) ≤ (r : Int)) = reachedM (some r) n := decide_eq_decide.mpr (by omega)
      show Q (.bl (decide ((n : Int) ≤ (r : Int)))) H
      rw [e]
      exact k
def spRowAt (K : PySem.W.Frag) : Sp := fun vs H Q _ => ∃ (pg d : Addr) (l : Str) (rows : List RowD) (T : Str → Bool), vs = [.ref pg, .str l, .ref d] ∧ PageAt K H pg rows ∧ (∀ r ∈ rows, r.Ok) ∧ rows.length ≤ 100 ∧ TruthsAt H d T ∧ ∀ H', Same H H' → Q (optI (rowAtM rows l T)) H'
theorem h_row_at (C : Ctx K mg) : ∃ fd, Has P w K mg base 2 (He.fAd K ("row_at", none)) ["page", "letter", "truths"] (spRowAt K) fd := by
  obtain ⟨fdH, GH⟩ := h_holds (P := P) (w := w) (base := base) C
  refine has_of C.fn_row_at sc_row_at (fun vs H Q E h => ?_) (fun cdv A outer s H vs Q E hr h => ?_)
  · obtain ⟨pg, d, l, rows, T, rfl, _⟩ := h
    rfl
  · obtain ⟨pg, d, l, rows, T, rfl, hpg, hro, hrl, hT, k⟩ := h
    have nd := sc_row_at.nd
    obtain ⟨dxp, ar, ras, p1, p2, p3, p4⟩ := id hpg
    refine ⟨_, (pss_cons (ps_for PassesOwn.never rfl (pi_enumT (by rfl) C.f_enumerate (pa_cons (pe_fld (pv 0) rfl) pa_nil)) (pg_tup rfl (pgs_cons (pg_name (i := 3) nd rfl (Or.inl rfl)) (pgs_cons (pg_name (i := 4) nd rfl (Or.inl rfl)) pgs_nil))) (pss_one (ps_if (PW.pt (pw_and (pt_cmpR op_eq (pe_fld (pv 4) rfl) (pv 1) (nomark _)) (pw_and1 (pt_val (pe_callB (cr_all rfl) (by rfl) C.f_all (by decide +kernel) (pa_cons (pe_lc (own := [("test", 5)]) (g := gName 5) (tt := tYes) rfl nd (pi_tup (pe_fld (pv 4) rfl)) (blkOk_by (N := N_row_at) (sc := defScope s_row_at) (by decide +kernel)) (fun _ _ _ _ _ => (pg_name (i := 5) nd rfl (Or.inl rfl))) (fun _ _ _ _ _ => pts_nil) (fun _ _ _ _ _ => (pe_call GH.ok (hr.mono (by decide)) (by rfl) C.g_holds GH.kp GH.b .nil pass0 (pa_cons (pv 5) (pa_cons (pv 2) pa_nil))))) pa_nil)))))) (pss_one (ps_ret (pv 3))) pss_nil))) (pss_one (ps_ret pe_non))), ?_⟩
    refine ⟨_, rfl, pg, _, dxp, _, _, rfl, p1, C.cls_Page, C.no_Page_rows, rfl, ar, _, rfl, SqT.of p2, for_it walk_enumT (fun i σ H' => Same H H' ∧ (∀ (j : Nat) (r : RowD), j < i → rows[j]? = some r → rowFits l T r = false) ∧ ∃ x3 x4 x5, σ = [some (.ref pg), some (.str l), some (.ref d), x3, x4, x5])
      ⟨Same.refl _, fun j r hj => absurd hj (Nat.not_lt_zero j), none, none, none, rfl⟩ (fun i σ H' _ q => SqT.of (q.1 _ _ p2)) ?_ ?_⟩
    · rintro i x σ H2 H3 hi ⟨s2, hno, x3, x4, x5, rfl⟩ ⟨U, x1, y1, rfl, hU, rfl, e1, e2⟩
      rw [List.length_map] at hi
      have hia : ras[i]? = some ras[i] := List.getElem?_eq_getElem hi
      have hil : i < rows.length := by omega
      have hir : rows[i]? = some rows[i] := List.getElem?_eq_getElem hil
      obtain rfl : y1 = .ref ras[i] := map_un (f := V.ref) hia e2
      cases e1
      have hrow := p4 i _ _ hia hir
      have hmem : rows[i] ∈ rows := List.getElem_mem hil
      generalize rows[i] = r at hrow hir hmem
      generalize ras[i] = ra at hrow hia
      obtain ⟨dxr, at_, ad, r1, r2, r3⟩ := id hrow
      have s3 := Same.new s2 (o := .tup [.int (i : Nat), .ref ra]) hU
      have hok := hro r hmem
      have htn := hok.tn
      refine ⟨U, _, rfl, SqT.of upd_same, rfl, _, _, rfl, _, _, rfl, rfl, ?_⟩
      have next : ∀ H4, Same H H4 → rowFits l T r = false → ∀ x5', (Same H H4 ∧ (∀ (j : Nat) (r : RowD), j < i + 1 → rows[j]? = some r → rowFits l T r = false) ∧ ∃ x3 x4 x5, [some (V.ref pg), some (V.str l), some (V.ref d), some (V.int (i : Nat)), some (V.ref ra), x5'] = [some (V.ref pg), some (V.str l), some (V.ref d), x3, x4, x5]) := fun H4 s4 hf x5' =>
        ⟨s4, fun j r' hj hr' => by
          rcases Nat.lt_succ_iff_lt_or_eq.mp hj with h | rfl
          · exact hno j r' h hr'
          · rw [hir] at hr'
            cases hr'
            exact hf, _, _, _, rfl⟩
      refine ⟨_, rfl, ra, _, dxr, _, _, rfl, s3 _ _ r1, C.cls_Row, C.no_Row_letter, rfl, _, rfl, rfl, _, rfl, ?_⟩
      rw [dec_strV]
      by_cases el : r.letter = l
      · rw [decide_eq_true el]
        refine iteT ⟨_, rfl, ra, _, dxr, _, _, rfl, s3 _ _ r1, C.cls_Row, C.no_Row_tests, rfl, at_, rfl, ⟨_, SqT.of (s3 _ _ r2)⟩, fun D hD => ?_⟩
        refine lc_m walk_tup r.tests (stL_len _) (small (by omega)) (fun t => .bl (holdsM T t)) hD (fun H4 s4 => SqT.of (s4 _ _ (s3 _ _ r2))) (fun m z x H4 H5 Qy Qn hm s4 y k1 => ?_) (fun H4 s4 hL => ?_)
        · obtain ⟨rfl, e2⟩ := y
          obtain rfl : x = .str z := map_un hm e2
          exact ⟨rfl, yesT ⟨_, rfl, _, rfl, z, d, T, rfl, (hok.t z (List.mem_of_getElem? hm)).1, hT.mono (s3.trans s4), k1 _ (Same.refl _)⟩⟩
        refine ⟨D, r.tests.map (holdsM T), rfl, SqL.of (by rw [hL, List.map_map]; rfl), ?_⟩
        have ef : rowFits l T r = (r.tests.map (holdsM T)).all id := by
          unfold rowFits
          rw [decide_eq_true el, Bool.true_and, List.all_map]
          rfl
        rw [← ef]
        refine ⟨_, rfl, ?_⟩
        cases hf : rowFits l T r with
        | true =>
          refine iteT ⟨_, rfl, ?_⟩
          have e : rowAtM rows l T = some i := by
            unfold rowAtM
            rw [List.findIdx?_eq_some_iff_getElem]
            refine ⟨hil, ?_, fun j hj => ?_⟩
            · rw [List.getElem?_eq_getElem hil] at hir
              rw [Option.some.inj hir, hf]
            · have := hno j rows[j] hj (List.getElem?_eq_getElem (Nat.lt_trans hj hil))
              rw [this]
              decide
          rw [e] at k
          exact k _ (s3.trans s4)
        | false => exact iteF (next _ (s3.trans s4) hf _)
      · rw [decide_eq_false el]
        exact iteF (next _ s3 (by unfold rowFits; rw [decide_eq_false el]; rfl) _)
    · rintro σ H2 ⟨s2, hno, x3, x4, x5, rfl⟩
      have e : rowAtM rows l T = none := by
        unfold rowAtM
        rw [List.findIdx?_eq_none_iff]
        intro r hr
        obtain ⟨j, hj⟩ := List.mem_iff_getElem?.mp hr
        have hjl := (List.getElem?_eq_some_iff.mp hj).1
        exact hno j r (by rw [List.length_map]; omega) hj
      rw [e] at k
      exact k _ s2
def initS : SS := ⟨[], 0, [], [], 0⟩
def spSheetInit (K : PySem.W.Frag) : Sp := fun vs H Q _ => ∃ (p dx b pg : Addr) (N : Nm) (B : IB), vs = [.ref p, .ref b, .ref pg] ∧ H p = some (.ins (He.ga K "Sheet") dx []) ∧ BookAt K H b N B ∧ N.Ok ∧ ∀ H', Kp p H H' → SheetAt K H' p b pg N initS → Q .non H'
theorem h_sheet_init (C : Ctx K mg) : ∃ fd, Has P w K mg base 1 (He.fAd K ("Sheet", some "__init__")) ["self", "book", "page"] (spSheetInit K) fd := by
  refine has_of C.fn_sheet_init sc_sheet_init (fun vs H Q E h => ?_) (fun cdv A outer s H vs Q E hr h => ?_)
  · obtain ⟨p, dx, b, pg, N, B, rfl, _⟩ := h
    rfl
  · obtain ⟨p, dx, b, pg, N, B, rfl, hp, hb, hN, k⟩ := h
    obtain ⟨dxb, ac, ak, ad, al, ao, ta, h1, h2, _⟩ := hb.ex
    have nb : b ≠ p := fun e => by
      rw [e, hp] at h1
      have q := Option.some.inj h1
      injection q with q1 q2 q3
      cases q3
    have nc : ac ≠ p := by
      obtain ⟨o, hz, _⟩ := id h2
      exact ne_of hz hp (by intro q; cases q)
    refine ⟨_, (pss_cons (ps_fld (pv 0) (pv 1) rfl) (pss_cons (ps_fld (pv 0) (pv 2) rfl) (pss_cons (ps_fld (pv 0) (pe_tup pa_nil) rfl) (pss_cons (ps_fld (pv 0) (pe_ix ix_tup (pe_fld (pv 1) rfl) pe_int (fun _ _ => rfl)) rfl) (pss_cons (ps_fld (pv 0) (pe_tup pa_nil) rfl) (pss_cons (ps_fld (pv 0) (pe_tup pa_nil) rfl) (pss_one (ps_fld (pv 0) pe_int rfl)))))))), ?_⟩
    have z0 : ([] : List V).length ≤ sizeLine := Nat.zero_le _
    refine ⟨_, rfl, _, rfl, p, _, dx, _, rfl, hp, C.cls_Sheet, C.no_Sheet_book, (by show 0 < 1000; decide), ?_⟩
    refine ⟨_, rfl, _, rfl, p, _, dx, _, rfl, upd_same, C.cls_Sheet, C.no_Sheet_page, (by show 1 < 1000; decide), ?_⟩
    refine ⟨z0, fun t ht => ?_⟩
    have tp : t ≠ p := fun e => by rw [e, upd_same] at ht; cases ht
    refine ⟨_, rfl, p, _, dx, _, rfl, same_new ht _ _ upd_same, C.cls_Sheet, C.no_Sheet_kinds, (by show 2 < 1000; decide), ?_⟩
    have k1 := ((((Kp.refl (a := p) (H := H)).put (o := .ins (He.ga K "Sheet") dx (putF "book" (.ref b) []))).put (o := .ins (He.ga K "Sheet") dx (putF "page" (.ref pg) (putF "book" (.ref b) [])))).new (o := .tup []) ht).put (o := .ins (He.ga K "Sheet") dx (putF "kinds" (.ref t) (putF "page" (.ref pg) (putF "book" (.ref b) []))))
    have hb1 := k1 _ _ h1 nb
    obtain ⟨oz, hz, hod⟩ := id h2
    have hz1 := k1 _ _ hz nc
    have at0 : atI (stL N.vs) 0 = some (.str (N.v 0)) := atI_nat (j := 0) (stL_at (map_at (range_at hN.v1)))
    refine ⟨_, rfl, b, _, dxb, _, _, rfl, hb1, C.cls_Book, C.no_Book_choices, rfl, ac, _, 0, _, rfl, rfl, (FzT.seq ⟨oz, hz1, hod⟩), at0, ?_⟩
    refine ⟨_, rfl, p, _, dx, _, rfl, upd_same, C.cls_Sheet, C.no_Sheet_base, (by show 3 < 1000; decide), ?_⟩
    refine ⟨z0, fun c hc => ?_⟩
    have cp : c ≠ p := fun e => by rw [e, upd_same] at hc; cases hc
    refine ⟨_, rfl, p, _, dx, _, rfl, same_new hc _ _ upd_same, C.cls_Sheet, C.no_Sheet_contents, (by show 4 < 1000; decide), ?_⟩
    refine ⟨z0, fun o ho => ?_⟩
    have op : o ≠ p := fun e => by rw [e, upd_same] at ho; cases ho
    refine ⟨_, rfl, p, _, dx, _, rfl, same_new ho _ _ upd_same, C.cls_Sheet, C.no_Sheet_open_ones, (by show 5 < 1000; decide), ?_⟩
    refine ⟨_, rfl, p, _, dx, _, rfl, upd_same, C.cls_Sheet, C.no_Sheet_heard, (by show 6 < 1000; decide), ?_⟩
    refine k _ ((((((k1.put).new hc).put).new ho).put).put) ⟨dx, t, c, o, upd_same, ?_, ?_, ?_⟩
    · rw [upd_ne tp, upd_ne tp]
      refine same_new ho _ _ ?_
      rw [upd_ne tp]
      refine same_new hc _ _ ?_
      rw [upd_ne tp, upd_ne tp, upd_same]
      rfl
    · rw [upd_ne cp, upd_ne cp]
      refine same_new ho _ _ ?_
      rw [upd_ne cp, upd_same]
      rfl
    · rw [upd_ne op, upd_ne op, upd_same]
      rfl
def clickM (S : SS) (i : Nat) : SS := { S with kinds := S.kinds ++ [i], opn := S.opn ++ [S.kinds.length + 1] }
def spClick (K : PySem.W.Frag) : Sp := fun vs H Q _ => ∃ (a b pg : Addr) (N : Nm) (M : Nat) (S : SS) (i : Nat), vs = [.ref a, .str (N.k i)] ∧ SheetAt K H a b pg N S ∧ S.Ok N M ∧ ∀ v H', Kp a H H' → SheetAt K H' a b pg N (clickM S i) → Q v H'
theorem h_click (C : Ctx K mg) : ∃ fd, Has P w K mg base 1 (He.fAd K ("Sheet", some "click")) ["self", "kind"] (spClick K) fd := by
  refine has_of C.fn_sheet_click sc_sheet_click (fun vs H Q E h => ?_) (fun cdv A outer s H vs Q E hr h => ?_)
  · obtain ⟨a, b, pg, N, M, S, i, rfl, _⟩ := h
    rfl
  · obtain ⟨a, b, pg, N, M, S, i, rfl, ⟨dx, ak, ac, ao, h1, h2, h3, h4⟩, hok, k⟩ := h
    have m1 := hok.kl
    have m2 := hok.ol
    have m3 := hok.m
    have nk : ak ≠ a := ne_of h2 h1 (by intro q; cases q)
    have nc : ac ≠ a := ne_of h3 h1 (by intro q; cases q)
    have no : ao ≠ a := ne_of h4 h1 (by intro q; cases q)
    refine ⟨_, (pss_cons (ps_fld (pv 0) (pe_tup (StX.pa_star (pe_fld (pv 0) rfl) (pa_cons (pv 1) pa_nil))) rfl) (pss_cons (ps_fld (pv 0) (pe_tup (StX.pa_star (pe_fld (pv 0) rfl) (pa_cons (pe_callB call_len (by rfl) C.f_len boot_len (pa_cons (pe_fld (pv 0) rfl) pa_nil)) pa_nil))) rfl) (pss_one (ps_ret (pe_callB call_len (by rfl) C.f_len boot_len (pa_cons (pe_fld (pv 0) rfl) pa_nil)))))), ?_⟩
    refine ⟨_, rfl, a, _, dx, _, _, rfl, h1, C.cls_Sheet, C.no_Sheet_kinds, rfl, ak, _, rfl, .inl (SqT.of h2), _, rfl, small (by rw [List.length_append, stL_len, List.length_map]; show _ + 1 ≤ _; omega), fun t ht => ?_⟩
    have tp : t ≠ a := ne_of_none h1 ht |>.symm
    refine ⟨_, rfl, a, _, dx, _, rfl, same_new ht _ _ h1, C.cls_Sheet, C.no_Sheet_kinds, (by show 7 < 1000; decide), ?_⟩
    have k1 := ((Kp.refl (a := a) (H := H)).new (o := .tup (stL (S.kinds.map N.k) ++ [.str (N.k i)])) ht).put (o := .ins (He.ga K "Sheet") dx (shF b pg t ac ao (.str (N.v S.base)) (.int (S.heard : Nat))))
    refine ⟨_, rfl, a, _, dx, _, _, rfl, upd_same, C.cls_Sheet, C.no_Sheet_open_ones, rfl, ao, _, rfl, .inl (SqT.of (k1 _ _ h4 no)), _, rfl, a, _, dx, _, _, rfl, upd_same, C.cls_Sheet, C.no_Sheet_kinds, rfl, _, S.kinds.length + 1, rfl, .inr ⟨_, SqT.of (by rw [upd_ne tp, upd_same]), by rw [List.length_append, stL_len, List.length_map]; rfl⟩, small (by rw [List.length_append, inL_len]; show _ + 1 ≤ _; omega), fun q hq => ?_⟩
    have qp : q ≠ a := fun e => by rw [e, upd_same] at hq; cases hq
    refine ⟨_, rfl, a, _, dx, _, rfl, same_new hq _ _ upd_same, C.cls_Sheet, C.no_Sheet_open_ones, (by show 7 < 1000; decide), ?_⟩
    have ht2 : (upd (upd (upd (upd H t (.tup (stL (S.kinds.map N.k) ++ [.str (N.k i)]))) a (.ins (He.ga K "Sheet") dx (shF b pg t ac ao (.str (N.v S.base)) (.int (S.heard : Nat))))) q (.tup (inL S.opn ++ [.int ((S.kinds.length + 1 : Nat) : Int)]))) a (.ins (He.ga K "Sheet") dx (shF b pg t ac q (.str (N.v S.base)) (.int (S.heard : Nat))))) t = some (.tup (stL ((clickM S i).kinds.map N.k))) := by
      rw [upd_ne tp]
      refine same_new hq _ _ ?_
      rw [upd_ne tp, upd_same]
      unfold clickM stL
      rw [List.map_append, List.map_append]
      rfl
    refine ⟨_, rfl, a, _, dx, _, _, rfl, upd_same, C.cls_Sheet, C.no_Sheet_kinds, rfl, _, (clickM S i).kinds.length, rfl, .inr ⟨_, SqT.of ht2, (by rw [stL_len, List.length_map])⟩, k _ _ ((k1.new hq).put) ⟨dx, t, ac, q, upd_same, ht2, (k1.new hq).put _ _ h3 nc, ?_⟩⟩
    rw [upd_ne qp, upd_same]
    unfold clickM inL
    rw [List.map_append]
    rfl
end
end Hp
set_option Elab.async false
set_option linter.all false
set_option maxRecDepth 100000
set_option maxHeartbeats 4000000
namespace Hp
open PySem PySem.Spec PyProof.Rows L2
def knd (S : SS) (n : Nat) : Nat := (S.kinds[n - 1]?).getD 0
def viewM (B : IB) (S : SS) : Nat := shownM B S.base (S.opn.map (knd S))
theorem knd_at {S : SS} {n : Nat} (h1 : 1 ≤ n) (h2 : n ≤ S.kinds.length) : S.kinds[n - 1]? = some (knd S n) := by
  have h : n - 1 < S.kinds.length := by omega
  unfold knd
  rw [List.getElem?_eq_getElem h]
  rfl
theorem knd_lt {N : Nm} {M : Nat} {S : SS} (hok : S.Ok N M) {n : Nat} (h1 : 1 ≤ n) (h2 : n ≤ S.kinds.length) : knd S n < N.nk := hok.k _ (List.mem_of_getElem? (knd_at h1 h2))
theorem int_pred {n : Nat} (h : 1 ≤ n) : (n : Int) - 1 = ((n - 1 : Nat) : Int) := by omega
theorem viewM_lt {N : Nm} {M : Nat} {B : IB} {S : SS} (hB : B.Ok N) (hok : S.Ok N M) : viewM B S < N.nv := shownM_lt hB hok.b fun i hi => by
  obtain ⟨n, hn, rfl⟩ := List.mem_map.mp hi
  exact knd_lt hok (hok.o n hn).1 (hok.o n hn).2
section
variable {P : Program} {w : World} {K : PySem.W.Frag} {mg : Str → Option Value} {base : Heap}
theorem ix_kind {H : L2.Hp} {ak : Addr} {N : Nm} {S : SS} {n : Nat} {Q : VK} (h : H ak = some (.tup (stL (S.kinds.map N.k)))) (h1 : 1 ≤ n) (h2 : n ≤ S.kinds.length) (q : Q (.str (N.k (knd S n))) H) : rIxT K (.ref ak) (.int ((n : Int) - 1)) H Q := by
  refine ⟨ak, _, _, _, rfl, rfl, SqT.of h, ?_, q⟩
  rw [int_pred h1]
  exact atI_nat (stL_at (map_at (knd_at h1 h2)))
def spView (K : PySem.W.Frag) : Sp := fun vs H Q _ => ∃ (a b pg : Addr) (N : Nm) (B : IB) (M : Nat) (S : SS), vs = [.ref a] ∧ SheetAt K H a b pg N S ∧ BookAt K H b N B ∧ N.Ok ∧ B.Ok N ∧ S.Ok N M ∧ ∀ H', Same H H' → Q (.str (N.v (viewM B S))) H'
theorem h_view (C : Ctx K mg) : ∃ fd, Has P w K mg base 5 (He.fAd K ("Sheet", some "view")) ["self"] (spView K) fd := by
  obtain ⟨fdS, GS⟩ := h_shown_from (P := P) (w := w) (base := base) C
  refine has_of C.fn_sheet_view sc_sheet_view (fun vs H Q E h => ?_) (fun cdv A outer s H vs Q E hr h => ?_)
  · obtain ⟨a, b, pg, N, B, M, S, rfl, _⟩ := h
    rfl
  · obtain ⟨a, b, pg, N, B, M, S, rfl, hS, hb, hN, hB, hok, k⟩ := h
    have nd := sc_sheet_view.nd
    obtain ⟨dx, ak, ac, ao, h1, h2, h3, h4⟩ := id hS
    have m2 := hok.ol
    have m3 := hok.m
    refine ⟨_, (pss_one (ps_ret (pe_call GS.ok (hr.mono (by decide)) (by rfl) C.g_shown_from GS.kp GS.b .nil pass0 (pa_cons (pe_fld (pv 0) rfl) (pa_cons (pe_fld (pv 0) rfl) (pa_cons (pe_lc (own := [("number", 1)]) (g := gName 1) (tt := tYes) rfl nd (pi_tup (pe_fld (pv 0) rfl)) (blkOk_by (N := N_sheet_view) (sc := defScope s_sheet_view) (by decide +kernel)) (fun _ _ _ _ _ => (pg_name (i := 1) nd rfl (Or.inl rfl))) (fun _ _ _ _ _ => pts_nil) (fun _ _ _ _ _ => (pe_ix (ix_tupK K) (pe_fldK K (pv 0) rfl) (pe_sub (pv 1) pe_int) (fun _ _ => rfl)))) pa_nil)))))), ?_⟩
    refine ⟨_, rfl, a, _, dx, _, _, rfl, h1, C.cls_Sheet, C.no_Sheet_book, rfl, _, rfl, a, _, dx, _, _, rfl, h1, C.cls_Sheet, C.no_Sheet_base, rfl, _, rfl, a, _, dx, _, _, rfl, h1, C.cls_Sheet, C.no_Sheet_open_ones, rfl, ao, rfl, ⟨_, SqT.of h4⟩, fun D hD => ?_⟩
    refine lc_m walk_tup S.opn (inL_len _) (small (by omega)) (fun n => .str (N.k (knd S n))) hD (fun H2 s2 => SqT.of (s2 _ _ h4)) (fun i n x H2 H3 Qy Qn hi s2 y k1 => ?_) (fun H2 s2 hL => ?_)
    · obtain ⟨rfl, e2⟩ := y
      obtain rfl : x = .int (n : Nat) := map_un (f := fun n : Nat => V.int (n : Nat)) hi e2
      obtain ⟨n1, n2⟩ := hok.o n (List.mem_of_getElem? hi)
      exact ⟨rfl, yesT ⟨_, rfl, a, _, dx, _, _, rfl, s2 _ _ h1, C.cls_Sheet, C.no_Sheet_kinds, rfl, _, rfl, _, _, rfl, rfl, ix_kind (s2 _ _ h2) n1 n2 (k1 _ (Same.refl _))⟩⟩
    refine ⟨b, D, N, B, S.base, S.opn.map (knd S), rfl, hb.mono s2, (by rw [hL]; unfold stL; rw [List.map_map, List.map_map]; rfl), hN, hB, hok.b, fun i hi => ?_, fun H4 s4 => k _ (s2.trans s4)⟩
    obtain ⟨n, hn, rfl⟩ := List.mem_map.mp hi
    exact knd_lt hok (hok.o n hn).1 (hok.o n hn).2
/-! what a row's tests ask -/
def isNum (num : Option Nat) (n : Nat) : Bool := match num with
  | none => false
  | some m => decide (n = m)
def restM (opn : List Nat) (num : Option Nat) : List Nat := opn.filter fun n => !isNum num n
def firstM (opn : List Nat) (num : Option Nat) : Bool := match opn with
  | [] => false
  | o :: _ => isNum num o
def goneM (opn : List Nat) (num : Option Nat) : Bool := match num with
  | none => true
  | some m => !decide (m ∈ opn)
def sameM (base : Nat) (value : Option Nat) : Bool := match value with
  | none => false
  | some v => decide (v = base)
def truthsM (S : SS) (num value reach : Option Nat) (t : Str) : Bool :=
  if t = "old" then (reach.isSome && !reachedM reach S.heard) else if t = "all" then reachedM reach S.kinds.length else if t = "open" then decide (0 < (restM S.opn num).length) else
  if t = "same" then sameM S.base value else if t = "first" then firstM S.opn num else goneM S.opn num
theorem truths_vals (x1 x2 x3 x4 x5 x6 : Bool) (T : Str → Bool) (e1 : T "old" = x1) (e2 : T "all" = x2) (e3 : T "open" = x3) (e4 : T "same" = x4) (e5 : T "first" = x5) (e6 : T "gone" = x6) :
    ∀ t ∈ tv_TESTS, valV (mergeK [] [(Sum.inr ("old" : Str), V.bl x1), (Sum.inr ("all" : Str), .bl x2), (Sum.inr ("open" : Str), .bl x3), (Sum.inr ("same" : Str), .bl x4), (Sum.inr ("first" : Str), .bl x5), (Sum.inr ("gone" : Str), .bl x6)]) (Sum.inr t) = some (.bl (T t)) := by
  intro t ht
  have ht' : t = "old" ∨ t = "all" ∨ t = "open" ∨ t = "same" ∨ t = "first" ∨ t = "gone" := by simpa [tv_TESTS] using ht
  rcases ht' with rfl | rfl | rfl | rfl | rfl | rfl
  · rw [e1]; rfl
  · rw [e2]; rfl
  · rw [e3]; rfl
  · rw [e4]; rfl
  · rw [e5]; rfl
  · rw [e6]; rfl
theorem dec_isNum (num : Option Nat) (n : Nat) : (!decide (V.int (n : Nat) = optI num)) = !isNum num n := by
  cases num with
  | none => rfl
  | some m =>
    show (!decide (V.int (n : Nat) = V.int (m : Nat))) = !decide (n = m)
    rw [dec_intV]
    congr 1
    exact decide_eq_decide.mpr (by omega)
theorem scal_num (num : Option Nat) (n : Int) : scal (.int n) (optI num) = true := by cases num <;> rfl
theorem inV_num (num : Option Nat) (opn : List Nat) : (!inV (optI num) (inL opn)) = goneM opn num := by
  cases num with
  | none =>
    show (!inV .non (inL opn)) = true
    have : inV .non (inL opn) = false := by
      unfold inV inL
      rw [List.any_map, List.any_eq_false]
      intro n _ h
      cases h
    rw [this]
    rfl
  | some m =>
    have e : inL opn = (opn.map fun n : Nat => (n : Int)).map V.int := by
      unfold inL
      rw [List.map_map]
      rfl
    show (!inV (.int (m : Nat)) (inL opn)) = !decide (m ∈ opn)
    rw [e, inV_ints]
    congr 1
    refine decide_eq_decide.mpr ⟨fun h => ?_, fun h => List.mem_map.mpr ⟨m, h, rfl⟩⟩
    obtain ⟨n, hn, e⟩ := List.mem_map.mp h
    have : n = m := by omega
    exact this ▸ hn
theorem flat_num (num : Option Nat) : flatV (optI num) = true := by cases num <;> rfl
theorem flat_inL (l : List Nat) : (inL l).all flatV = true := by unfold inL; rw [List.all_map]; exact List.all_eq_true.mpr fun _ _ => rfl
def dNum : Option Nat → PyData
  | none => .none
  | some n => .int (n : Nat)
theorem dp_num {H : L2.Hp} (num : Option Nat) : Dp K H (optI num) (dNum num) := by
  cases num with
  | none => exact .non
  | some n => exact .int _
theorem first_eq (opn : List Nat) (num : Option Nat) : PyData.eqv (.tuple ((opn.take 1).map fun n : Nat => PyData.int (n : Nat))) (.tuple [dNum num]) = firstM opn num := by
  cases opn with
  | nil => rfl
  | cons o r =>
    cases num with
    | none => rfl
    | some m =>
      show ((o : Int) == (m : Int) && true) = decide (o = m)
      rw [Bool.and_true, Bool.beq_eq_decide_eq]
      exact decide_eq_decide.mpr (by omega)
theorem first_shaped (opn : List Nat) (num : Option Nat) : SeqAt.shaped (.tuple ((opn.take 1).map fun n : Nat => PyData.int (n : Nat))) = true ∧ SeqAt.shaped (.tuple [dNum num]) = true := by
  refine ⟨?_, by cases num <;> rfl⟩
  cases opn <;> rfl
theorem dp_first {H : L2.Hp} {p : Addr} (opn : List Nat) (h : H p = some (.tup (cutV (inL opn) none (some 1)))) : Dp K H (.ref p) (.tuple ((opn.take 1).map fun n : Nat => PyData.int (n : Nat))) := by
  refine .tup (SqT.of h) ?_
  cases opn with
  | nil => exact .nil
  | cons o r =>
    rw [show (1 : Int) = ((1 : Nat) : Int) from rfl, cutV_upto _ _ (by rw [inL_len]; exact Nat.succ_le_succ (Nat.zero_le _))]
    exact .cons (.int _) .nil
theorem pe_weak {X : Cx} {e : Expr} {t t' : TE} (h : PE X e t) (s : ∀ σ H Q, t' σ H Q → t σ H Q) : PE X e t' := ⟨fun pins sh σ H Q I q => h.run pins sh σ H Q I (s σ H Q q)⟩
def tOld (K : PySem.W.Frag) : TE := fun σ H Q => ∃ (a dx : Addr) (fs : List (Str × V)) (reach : Option Nat) (n : Nat), σ[3]? = some (some (optI reach)) ∧ σ[0]? = some (some (.ref a)) ∧ H a = some (.ins (He.ga K "Sheet") dx fs) ∧ fs.lookup ("heard" : Str) = some (.int (n : Nat)) ∧ Q (.bl (reach.isSome && !reachedM reach n)) H
theorem tOld_ok (C : Ctx K mg) {σ : L2.St} {H : L2.Hp} {Q : VK} {E : XK} (q : tOld K σ H Q) : tAndV (tOp (fun x y H Q => y = .non ∧ Q (.bl (!decide (x = .non))) H) (tVar 3) (tC .non)) (tNotV (tCall spReached [] E (tCons (tVar 3) (tCons (tFld K (tVar 0) "heard") tNil)))) σ H Q := by
  obtain ⟨a, dx, fs, reach, n, h3, h0, ha, hf, q⟩ := q
  cases reach with
  | none => exact ⟨_, h3, rfl, _, rfl, ifF rfl q⟩
  | some r => exact ⟨_, h3, rfl, _, rfl, ifT rfl ⟨_, h3, _, h0, a, _, dx, _, _, rfl, ha, C.cls_Sheet, C.no_Sheet_heard, hf, some r, n, rfl, _, rfl, q⟩⟩
def strIs (f : Nat → Str) (v : Option Nat) (z : Str) : Bool := match v with
  | none => false
  | some i => decide (f i = z)
def tSame (K : PySem.W.Frag) : TE := fun σ H Q => ∃ (a dx : Addr) (fs : List (Str × V)) (value : Option Nat) (z : Str) (f : Nat → Str), σ[2]? = some (some (optS f value)) ∧ σ[0]? = some (some (.ref a)) ∧ H a = some (.ins (He.ga K "Sheet") dx fs) ∧ fs.lookup ("base" : Str) = some (.str z) ∧ Q (.bl (strIs f value z)) H
theorem tSame_ok (C : Ctx K mg) {σ : L2.St} {H : L2.Hp} {Q : VK} (q : tSame K σ H Q) : tAndV (tOp (fun x y H Q => y = .non ∧ Q (.bl (!decide (x = .non))) H) (tVar 2) (tC .non)) (tOp rEq (tVar 2) (tFld K (tVar 0) "base")) σ H Q := by
  obtain ⟨a, dx, fs, value, z, f, h3, h0, ha, hf, q⟩ := q
  cases value with
  | none => exact ⟨_, h3, rfl, _, rfl, ifF rfl q⟩
  | some r =>
    refine ⟨_, h3, rfl, _, rfl, ifT rfl ⟨_, h3, _, h0, a, _, dx, _, _, rfl, ha, C.cls_Sheet, C.no_Sheet_base, hf, rfl, ?_⟩⟩
    show Q (.bl (decide (V.str (f r) = V.str z))) H
    rw [dec_strV]
    exact q
def spTruths (K : PySem.W.Frag) : Sp := fun vs H Q _ => ∃ (a b pg : Addr) (N : Nm) (M : Nat) (S : SS) (num value reach : Option Nat), vs = [.ref a, optI num, optS N.v value, optI reach] ∧ SheetAt K H a b pg N S ∧ N.Ok ∧ S.Ok N M ∧ (∀ v, value = some v → v < N.nv) ∧
  ∀ p H', Same H H' → TruthsAt H' p (truthsM S num value reach) → Q (.ref p) H'
theorem h_truths (C : Ctx K mg) : ∃ fd, Has P w K mg base 2 (He.fAd K ("Sheet", some "truths")) ["self", "number", "value", "reach"] (spTruths K) fd := by
  obtain ⟨fdR, GR⟩ := h_reached (P := P) (w := w) (base := base) C
  refine has_of C.fn_sheet_truths sc_sheet_truths (fun vs H Q E h => ?_) (fun cdv A outer s H vs Q E hr h => ?_)
  · obtain ⟨a, b, pg, N, M, S, num, value, reach, rfl, _⟩ := h
    rfl
  · obtain ⟨a, b, pg, N, M, S, num, value, reach, rfl, hS, hN, hok, hv, k⟩ := h
    have nd := sc_sheet_truths.nd
    obtain ⟨dx, ak, ac, ao, h1, h2, h3, h4⟩ := id hS
    have m2 := hok.ol
    have m3 := hok.m
    refine ⟨_, (pss_cons (ps_setLc (i := 4) (own := [("one", 5)]) (g := gName 5) rfl nd rfl rfl rfl (pi_tup (pe_fld (pv 0) rfl)) (blkOk_by (N := N_sheet_truths) (sc := defScope s_sheet_truths) (by decide +kernel)) (fun _ _ _ _ _ => (pg_name (i := 5) nd rfl (Or.inl rfl))) (fun _ _ _ _ _ => pts_one (pt_cmpR op_ne (pv 5) (pv 1) (nomark _))) (fun _ _ _ _ _ => pv 5)) (pss_one (ps_ret (pe_disp (pps_cons pe_str (pe_weak (t' := tOld K) (pe_and (pe_cmpR op_notN (pv 3) pe_non (nomark _)) (pe_one (pe_not (pe_call GR.ok (hr.mono (by decide)) (by rfl) C.g_reached GR.kp GR.b .nil pass0 (pa_cons (pv 3) (pa_cons (pe_fld (pv 0) rfl) pa_nil)))))) (fun σ H Q q => tOld_ok C q)) (pps_cons pe_str (pe_call GR.ok (hr.mono (by decide)) (by rfl) C.g_reached GR.kp GR.b .nil pass0 (pa_cons (pv 3) (pa_cons (pe_callB call_len (by rfl) C.f_len boot_len (pa_cons (pe_fld (pv 0) rfl) pa_nil)) pa_nil))) (pps_cons pe_str (pe_cmpR op_gt (pe_callB call_len (by rfl) C.f_len boot_len (pa_cons (pv 4) pa_nil)) pe_int (nomark _))
        (pps_cons pe_str (pe_weak (t' := tSame K) (pe_and (pe_cmpR op_notN (pv 2) pe_non (nomark _)) (pe_one (pe_cmpR op_eq (pv 2) (pe_fld (pv 0) rfl) (nomark _)))) (fun σ H Q q => tSame_ok C q)) (pps_cons pe_str (pe_cmpR (op_eqD hr.units) (pe_slice sl_tupA (pe_fld (pv 0) rfl) po_none (po_some pe_int)) (pe_tup (pa_cons (pv 1) pa_nil)) (nomark _))
        (pps_cons pe_str (pe_cmpR op_notIn_seq (pv 1) (pe_fld (pv 0) rfl) (by rfl)) pps_nil)))))) rfl rfl (by decide) (by decide))))), ?_⟩
    refine ⟨_, rfl, a, _, dx, _, _, rfl, h1, C.cls_Sheet, C.no_Sheet_open_ones, rfl, ao, rfl, ⟨_, SqT.of h4⟩, fun D hD => ?_⟩
    refine lc_p walk_tup S.opn (inL_len _) (small (by omega)) (fun n => !isNum num n) (fun n => .int (n : Nat)) hD (fun H2 s2 => SqT.of (s2 _ _ h4)) (fun i n x H2 H3 Qy Qn hi s2 y k1 k2 => ?_) (fun H2 s2 hL => ?_)
    · obtain ⟨rfl, e2⟩ := y
      obtain rfl : x = .int (n : Nat) := map_un (f := fun n : Nat => V.int (n : Nat)) hi e2
      refine ⟨rfl, _, rfl, _, rfl, scal_num num _, _, rfl, ?_⟩
      rw [dec_isNum]
      exact ite2 (fun h => ⟨_, rfl, k1 h _ (Same.refl _)⟩) (fun h => k2 (by simpa using h) _ (Same.refl _))
    intro p hp
    have s3 := Same.new s2 (o := .dK []) hp
    have g1 := s3 _ _ h1
    have g2 := s3 _ _ h2
    have g4 := s3 _ _ h4
    have gL : (upd H2 p (.dK [])) D = some (.lst (inL (restM S.opn num))) := same_new hp _ _ hL
    have hp0 : H p = none := by
      cases e : H p with
      | none => rfl
      | some o => rw [s2 _ _ e] at hp; cases hp
    have gt : ∀ n : Nat, decide ((0 : Int) < (n : Nat)) = decide (0 < n) := fun n => decide_eq_decide.mpr (by omega)
    refine ⟨a, dx, _, reach, S.heard, rfl, rfl, g1, rfl, ?_⟩
    refine ⟨_, rfl, _, rfl, a, _, dx, _, _, rfl, g1, C.cls_Sheet, C.no_Sheet_kinds, rfl, _, S.kinds.length, rfl, .inr ⟨_, SqT.of g2, (by rw [stL_len, List.length_map])⟩, reach, _, rfl, ?_⟩
    refine ⟨_, rfl, _, (restM S.opn num).length, rfl, .inl ⟨_, SqL.of gL, (inL_len _).symm⟩, _, _, rfl, rfl, ?_⟩
    refine ⟨a, dx, _, value, N.v S.base, N.v, rfl, rfl, g1, rfl, ?_⟩
    refine ⟨_, rfl, a, _, dx, _, _, rfl, g1, C.cls_Sheet, C.no_Sheet_open_ones, rfl, 1, rfl, slA g4 fun q H5 s5 hq => ?_⟩
    refine ⟨_, rfl, (by show 1 ≤ sizeLine; decide), fun q2 hq2 => ?_⟩
    refine ⟨_, _, dp_first S.opn (same_new hq2 _ _ hq), .tup (SqT.of upd_same) (.cons (dp_num num) .nil), (first_shaped S.opn num).1, (first_shaped S.opn num).2, ?_⟩
    rw [first_eq]
    have s6 := (s3.trans s5).trans (same_new (o := .tup [optI num]) hq2)
    refine ⟨_, rfl, _, rfl, a, _, dx, _, _, rfl, s6 _ _ h1, C.cls_Sheet, C.no_Sheet_open_ones, rfl, ao, _, rfl, .inr (SqT.of (s6 _ _ h4)), flat_num num, flat_inL _, ?_⟩
    have e6 : (if true = true then !inV (optI num) (inL S.opn) else inV (optI num) (inL S.opn)) = goneM S.opn num := by rw [if_pos rfl, inV_num]
    rw [e6]
    refine ⟨same_new hq2 _ _ (s5 _ _ upd_same), _, rfl, (by show 6 ≤ 15; decide), k p _ (fun c o e => by rw [upd_ne (ne_of_none e hp0)]; exact s6 _ _ e) ⟨_, upd_same, truths_vals _ _ _ _ _ _ _ rfl rfl ?_ ?_ rfl rfl⟩⟩
    · exact (gt _).symm
    show sameM S.base value = _
    cases value with
    | none => rfl
    | some v => exact decide_eq_decide.mpr ⟨fun h => by rw [h], fun h => hN.vinj _ _ (hv v rfl) hok.b h⟩
end
end Hp
set_option Elab.async false
set_option linter.all false
set_option maxRecDepth 100000
set_option maxHeartbeats 4000000
namespace Hp
open PySem PySem.Spec PyProof.Rows L2
def sweepM (opn : List Nat) (reach : Option Nat) : List Nat := opn.filter fun n => !reachedM reach n
def actM (B : IB) (num value reach : Option Nat) (cts : List Nat) (S : SS) (d : Str) : SS :=
  if d = "take" then (match value with | none => S | some v => { S with base := v, cont := cts }) else
  if d = "do" then (match num with | none => S | some n => { S with base := shownM B S.base [knd S n], cont := S.cont ++ [n] }) else
  if d = "drop" then { S with opn := restM S.opn num } else if d = "sweep" then { S with opn := sweepM S.opn reach } else { S with opn := [] }
theorem actM_ok {N : Nm} {M : Nat} {B : IB} {S : SS} {num value reach : Option Nat} {cts : List Nat} {d : Str} (hB : B.Ok N) (h : S.Ok N M) (hv : ∀ v, value = some v → v < N.nv) (hn : ∀ n, num = some n → 1 ≤ n ∧ n ≤ S.kinds.length) (hc : cts.length ≤ M) (hM : M + 1 ≤ 10000) : (actM B num value reach cts S d).Ok N (M + 1) ∧ (actM B num value reach cts S d).kinds = S.kinds := by
  obtain ⟨h1, h2, h3, h4, h5, h6, h7⟩ := h
  have fl : ∀ (p : Nat → Bool), (∀ n ∈ S.opn.filter p, 1 ≤ n ∧ n ≤ S.kinds.length) ∧ (S.opn.filter p).length ≤ M + 1 := fun p => ⟨fun n hn => h3 n (List.mem_filter.mp hn).1, Nat.le_trans (List.length_filter_le _ _) (by omega)⟩
  unfold actM
  split
  · cases value with
    | none => exact ⟨⟨h1, h2, h3, Nat.le_succ_of_le h4, Nat.le_succ_of_le h5, Nat.le_succ_of_le h6, hM⟩, rfl⟩
    | some v => exact ⟨⟨hv v rfl, h2, h3, by show S.kinds.length ≤ _; omega, by show cts.length ≤ _; omega, by show S.opn.length ≤ _; omega, hM⟩, rfl⟩
  split
  · cases num with
    | none => exact ⟨⟨h1, h2, h3, Nat.le_succ_of_le h4, Nat.le_succ_of_le h5, Nat.le_succ_of_le h6, hM⟩, rfl⟩
    | some n =>
      refine ⟨⟨shownM_lt hB h1 fun i hi => ?_, h2, h3, by show S.kinds.length ≤ _; omega, ?_, by show S.opn.length ≤ _; omega, hM⟩, rfl⟩
      · obtain rfl : i = knd S n := by simpa using hi
        obtain ⟨n1, n2⟩ := hn n rfl
        exact knd_lt ⟨h1, h2, h3, h4, h5, h6, h7⟩ n1 n2
      · show (S.cont ++ [n]).length ≤ M + 1
        rw [List.length_append]
        show _ + 1 ≤ _
        omega
  split
  · exact ⟨⟨h1, h2, (fl _).1, by show S.kinds.length ≤ _; omega, by show S.cont.length ≤ _; omega, (fl _).2, hM⟩, rfl⟩
  split
  · exact ⟨⟨h1, h2, (fl _).1, by show S.kinds.length ≤ _; omega, by show S.cont.length ≤ _; omega, (fl _).2, hM⟩, rfl⟩
  · exact ⟨⟨h1, h2, fun n hn => absurd hn (by simp), by show S.kinds.length ≤ _; omega, by show S.cont.length ≤ _; omega, Nat.zero_le _, hM⟩, rfl⟩
section
variable {P : Program} {w : World} {K : PySem.W.Frag} {mg : Str → Option Value} {base : Heap}
def spAct (K : PySem.W.Frag) : Sp := fun vs H Q _ => ∃ (a b pg ct : Addr) (N : Nm) (B : IB) (M : Nat) (S : SS) (num value reach : Option Nat) (cts : List Nat) (d : Str), vs = [.ref a, .str d, optI num, optS N.v value, optI reach, .ref ct] ∧ SheetAt K H a b pg N S ∧ BookAt K H b N B ∧ N.Ok ∧ B.Ok N ∧ S.Ok N M ∧
  H ct = some (.tup (inL cts)) ∧ d ∈ ansD ∧ (d = "do" → ∃ n, num = some n ∧ 1 ≤ n ∧ n ≤ S.kinds.length) ∧ ∀ H', Kp a H H' → SheetAt K H' a b pg N (actM B num value reach cts S d) → Q .non H'
theorem h_act (C : Ctx K mg) : ∃ fd, Has P w K mg base 5 (He.fAd K ("Sheet", some "act")) ["self", "deed", "number", "value", "reach", "contents"] (spAct K) fd := by
  obtain ⟨fdS, GS⟩ := h_shown_from (P := P) (w := w) (base := base) C
  obtain ⟨fdR, GR⟩ := h_reached (P := P) (w := w) (base := base) C
  refine has_of C.fn_sheet_act sc_sheet_act (fun vs H Q E h => ?_) (fun cdv A outer s H vs Q E hr h => ?_)
  · obtain ⟨a, b, pg, ct, N, B, M, S, num, value, reach, cts, d, rfl, _⟩ := h
    rfl
  · obtain ⟨a, b, pg, ct, N, B, M, S, num, value, reach, cts, d, rfl, hS, hb, hN, hB, hok, hct, hd, hdo, k⟩ := h
    have nd := sc_sheet_act.nd
    obtain ⟨dx, ak, ac, ao, h1, h2, h3, h4⟩ := id hS
    have m1 := hok.cl
    have m2 := hok.ol
    have m3 := hok.m
    have nk : ak ≠ a := ne_of h2 h1 (by intro q; cases q)
    have nc : ac ≠ a := ne_of h3 h1 (by intro q; cases q)
    have no : ao ≠ a := ne_of h4 h1 (by intro q; cases q)
    have nt : ct ≠ a := ne_of hct h1 (by intro q; cases q)
    -- a new tuple of open numbers
    have put : ∀ (p : Nat → Bool) (D p2 : Addr) (H2 : L2.Hp), Same H H2 → H2 p2 = none → actM B num value reach cts S d = { S with opn := S.opn.filter p } → Q .non (upd (upd H2 p2 (.tup (inL (S.opn.filter p)))) a (.ins (He.ga K "Sheet") dx (shF b pg ak ac p2 (.str (N.v S.base)) (.int (S.heard : Nat))))) := fun p D p2 H2 s2 hp2 e => by
      have np : p2 ≠ a := fun e => by rw [e, s2 _ _ h1] at hp2; cases hp2
      have kp := ((Kp.of (p := a) s2).new (o := HO.tup (inL (S.opn.filter p))) hp2).put (o := .ins (He.ga K "Sheet") dx (shF b pg ak ac p2 (.str (N.v S.base)) (.int (S.heard : Nat))))
      refine k _ kp ?_
      rw [e]
      exact ⟨dx, ak, ac, p2, upd_same, kp _ _ h2 nk, kp _ _ h3 nc, by rw [upd_ne np, upd_same]⟩
    refine ⟨_, (pss_one (ps_match (pv 1) (pms_cons (pss_one (ps_if (pt_cmpR op_notN (pv 3) pe_non (nomark _)) (pss_one (ps_asg (pe_tup (pa_cons (pv 3) (pa_cons (pe_callTy call_tuple_of (by rfl) C.f_tuple boot_tuple (pa_cons (pv 5) pa_nil)) pa_nil))) (pg_tup rfl (pgs_cons (pg_fld (pv 0)) (pgs_cons (pg_fld (pv 0)) pgs_nil))))) pss_nil))
      (pms_cons (pss_cons (ps_fld (pv 0) (pe_call GS.ok (hr.mono (by decide)) (by rfl) C.g_shown_from GS.kp GS.b .nil pass0 (pa_cons (pe_fld (pv 0) rfl) (pa_cons (pe_fld (pv 0) rfl) (pa_cons (pe_lst (pa_cons (pe_ix ix_tup (pe_fld (pv 0) rfl) (pe_sub (pv 2) pe_int) (fun _ _ => rfl)) pa_nil)) pa_nil)))) rfl) (pss_one (ps_fld (pv 0) (pe_tup (StX.pa_star (pe_fld (pv 0) rfl) (pa_cons (pv 2) pa_nil))) rfl)))
      (pms_cons (pss_one (ps_fld (pv 0) (pe_callTy call_tuple_of (by rfl) C.f_tuple boot_tuple (pa_cons (pe_lc (own := [("one", 6)]) (g := gName 6) rfl nd (pi_tup (pe_fld (pv 0) rfl)) (blkOk_by (N := N_sheet_act) (sc := defScope s_sheet_act) (by decide +kernel)) (fun _ _ _ _ _ => (pg_name (i := 6) nd rfl (Or.inl rfl))) (fun _ _ _ _ _ => pts_one (pt_cmpR op_ne (pv 6) (pv 2) (nomark _))) (fun _ _ _ _ _ => pv 6)) pa_nil)) rfl))
      (pms_cons (pss_one (ps_fld (pv 0) (pe_callTy call_tuple_of (by rfl) C.f_tuple boot_tuple (pa_cons (pe_lc (own := [("one", 6)]) (g := gName 6) rfl nd (pi_tup (pe_fld (pv 0) rfl)) (blkOk_by (N := N_sheet_act) (sc := defScope s_sheet_act) (by decide +kernel)) (fun _ _ _ _ _ => (pg_name (i := 6) nd rfl (Or.inl rfl))) (fun _ _ _ _ _ => pts_one (pt_not (pt_val (pe_call GR.ok (hr.mono (by decide)) (by rfl) C.g_reached GR.kp GR.b .nil pass0 (pa_cons (pv 4) (pa_cons (pv 6) pa_nil)))))) (fun _ _ _ _ _ => pv 6)) pa_nil)) rfl))
      (pms_cons (pss_one (ps_fld (pv 0) (pe_tup pa_nil) rfl)) pms_nil))))))), ?_⟩
    refine ⟨_, rfl, d, rfl, ?_⟩
    have hd' : d = "take" ∨ d = "do" ∨ d = "drop" ∨ d = "sweep" ∨ d = "clear" := by simpa [ansD] using hd
    rcases hd' with rfl | rfl | rfl | rfl | rfl
    · refine tCase_y ?_
      cases value with
      | none => exact ⟨_, rfl, rfl, _, rfl, ifF rfl (k _ Kp.refl hS)⟩
      | some v =>
        refine ⟨_, rfl, rfl, _, rfl, ifT rfl ⟨_, rfl, _, rfl, ct, _, rfl, .inr ⟨SqT.of hct, (by show 2 ≤ sizeLine; decide), fun p hp => ?_⟩⟩⟩
        have np : p ≠ a := ne_of_none h1 hp |>.symm
        refine ⟨p, _, rfl, SqT.of upd_same, rfl, _, _, rfl, _, rfl, a, _, dx, _, rfl, same_new hp _ _ h1, C.cls_Sheet, C.no_Sheet_base, (by show 7 < 1000; decide), ?_⟩
        refine ⟨_, _, rfl, _, rfl, a, _, dx, _, rfl, upd_same, C.cls_Sheet, C.no_Sheet_contents, (by show 7 < 1000; decide), rfl, ?_⟩
        have kp := (((Kp.refl (a := a) (H := H)).new (o := HO.tup [.str (N.v v), .ref ct]) hp).put (o := .ins (He.ga K "Sheet") dx (shF b pg ak ac ao (.str (N.v v)) (.int (S.heard : Nat))))).put (o := .ins (He.ga K "Sheet") dx (shF b pg ak ct ao (.str (N.v v)) (.int (S.heard : Nat))))
        exact k _ kp ⟨dx, ak, ct, ao, upd_same, kp _ _ h2 nk, kp _ _ hct nt, kp _ _ h4 no⟩
    · refine tCase_n (by decide) (tCase_y ?_)
      obtain ⟨n, rfl, n1, n2⟩ := hdo rfl
      refine ⟨_, rfl, a, _, dx, _, _, rfl, h1, C.cls_Sheet, C.no_Sheet_book, rfl, _, rfl, a, _, dx, _, _, rfl, h1, C.cls_Sheet, C.no_Sheet_base, rfl, _, rfl, a, _, dx, _, _, rfl, h1, C.cls_Sheet, C.no_Sheet_kinds, rfl, _, rfl, _, _, rfl, rfl, ix_kind h2 n1 n2 ⟨(by show 1 ≤ sizeLine; decide), fun L hL => ?_⟩⟩
      refine ⟨b, L, N, B, S.base, [knd S n], rfl, hb.mono (same_new hL), upd_same, hN, hB, hok.b, fun i hi => ?_, fun H2 s2 => ?_⟩
      · obtain rfl : i = knd S n := by simpa using hi
        exact knd_lt hok n1 n2
      have s0 := (same_new (o := HO.lst [.str (N.k (knd S n))]) hL).trans s2
      refine ⟨_, rfl, a, _, dx, _, rfl, s0 _ _ h1, C.cls_Sheet, C.no_Sheet_base, (by show 7 < 1000; decide), ?_⟩
      have kp1 := (Kp.of (p := a) s0).put (o := .ins (He.ga K "Sheet") dx (shF b pg ak ac ao (.str (N.v (shownM B S.base [knd S n]))) (.int (S.heard : Nat))))
      refine ⟨_, rfl, a, _, dx, _, _, rfl, upd_same, C.cls_Sheet, C.no_Sheet_contents, rfl, ac, _, rfl, .inl (SqT.of (kp1 _ _ h3 nc)), _, rfl, small (by rw [List.length_append, inL_len]; show _ + 1 ≤ _; omega), fun p hp => ?_⟩
      have np : p ≠ a := fun e => by rw [e, upd_same] at hp; cases hp
      refine ⟨_, rfl, a, _, dx, _, rfl, same_new hp _ _ upd_same, C.cls_Sheet, C.no_Sheet_contents, (by show 7 < 1000; decide), ?_⟩
      have kp2 := (kp1.new (o := HO.tup (inL S.cont ++ [.int (n : Nat)])) hp).put (o := .ins (He.ga K "Sheet") dx (shF b pg ak p ao (.str (N.v (shownM B S.base [knd S n]))) (.int (S.heard : Nat))))
      refine k _ kp2 ⟨dx, ak, p, ao, upd_same, kp2 _ _ h2 nk, ?_, kp2 _ _ h4 no⟩
      show _ = some (HO.tup (inL (S.cont ++ [n])))
      rw [upd_ne np, upd_same]
      unfold inL
      rw [List.map_append]
      rfl
    · refine tCase_n (by decide) (tCase_n (by decide) (tCase_y ?_))
      refine ⟨_, rfl, a, _, dx, _, _, rfl, h1, C.cls_Sheet, C.no_Sheet_open_ones, rfl, ao, rfl, ⟨_, SqT.of h4⟩, fun D hD => ?_⟩
      refine lc_p walk_tup S.opn (inL_len _) (small (by omega)) (fun n => !isNum num n) (fun n => .int (n : Nat)) hD (fun H2 s2 => SqT.of (s2 _ _ h4)) (fun i n x H2 H3 Qy Qn hi s2 y k1 k2 => ?_) (fun H2 s2 hL => ?_)
      · obtain ⟨rfl, e2⟩ := y
        obtain rfl : x = .int (n : Nat) := map_un (f := fun n : Nat => V.int (n : Nat)) hi e2
        refine ⟨rfl, _, rfl, _, rfl, scal_num num _, _, rfl, ?_⟩
        rw [dec_isNum]
        exact ite2 (fun h => ⟨_, rfl, k1 h _ (Same.refl _)⟩) (fun h => k2 (by simpa using h) _ (Same.refl _))
      refine ⟨D, _, rfl, .inl ⟨SqL.of hL, fun p hp => ⟨_, rfl, a, _, dx, _, rfl, same_new hp _ _ (s2 _ _ h1), C.cls_Sheet, C.no_Sheet_open_ones, (by show 7 < 1000; decide), put _ D p H2 s2 hp rfl⟩⟩⟩
    · refine tCase_n (by decide) (tCase_n (by decide) (tCase_n (by decide) (tCase_y ?_)))
      refine ⟨_, rfl, a, _, dx, _, _, rfl, h1, C.cls_Sheet, C.no_Sheet_open_ones, rfl, ao, rfl, ⟨_, SqT.of h4⟩, fun D hD => ?_⟩
      refine lc_p walk_tup S.opn (inL_len _) (small (by omega)) (fun n => !reachedM reach n) (fun n => .int (n : Nat)) hD (fun H2 s2 => SqT.of (s2 _ _ h4)) (fun i n x H2 H3 Qy Qn hi s2 y k1 k2 => ?_) (fun H2 s2 hL => ?_)
      · obtain ⟨rfl, e2⟩ := y
        obtain rfl : x = .int (n : Nat) := map_un (f := fun n : Nat => V.int (n : Nat)) hi e2
        refine ⟨rfl, _, rfl, _, rfl, reach, n, rfl, _, rfl, ?_⟩
        exact ite2 (fun h => ⟨_, rfl, k1 h _ (Same.refl _)⟩) (fun h => k2 (by simpa using h) _ (Same.refl _))
      refine ⟨D, _, rfl, .inl ⟨SqL.of hL, fun p hp => ⟨_, rfl, a, _, dx, _, rfl, same_new hp _ _ (s2 _ _ h1), C.cls_Sheet, C.no_Sheet_open_ones, (by show 7 < 1000; decide), put _ D p H2 s2 hp rfl⟩⟩⟩
    · refine tCase_n (by decide) (tCase_n (by decide) (tCase_n (by decide) (tCase_n (by decide) (tCase_y ?_))))
      refine ⟨Nat.zero_le _, fun p hp => ⟨_, rfl, a, _, dx, _, rfl, same_new hp _ _ h1, C.cls_Sheet, C.no_Sheet_open_ones, (by show 7 < 1000; decide), ?_⟩⟩
      have e : S.opn.filter (fun _ => false) = [] := List.filter_eq_nil_iff.mpr (by simp)
      have q := put (fun _ => false) p p H (Same.refl _) hp (by rw [e]; rfl)
      rw [e] at q
      exact q
/-! a sheet hears of an answer, or sees a list -/
def bumpM (num : Option Nat) (S : SS) : SS := match num with
  | none => S
  | some n => if S.heard < n then { S with heard := n } else S
def deedsAt (rows : List RowD) (i : Nat) : List Str := match rows[i]? with
  | none => []
  | some r => r.deeds
def afterM (B : IB) (rows : List RowD) (num value reach : Option Nat) (cts : List Nat) (S : SS) : Option Nat → SS
  | none => S
  | some i => (deedsAt rows i).foldl (actM B num value reach cts) S
def hearM (B : IB) (rows : List RowD) (wd : Str) (num value reach : Option Nat) (cts : List Nat) (S : SS) : SS := bumpM num (afterM B rows num value reach cts S (rowAtM rows wd (truthsM S num value reach)))
def hearAt (rows : List RowD) (wd : Str) (num value reach : Option Nat) (S : SS) : Option Nat := rowAtM rows wd (truthsM S num value reach)
theorem acts_ok {N : Nm} {B : IB} {num value reach : Option Nat} {cts : List Nat} (hB : B.Ok N) (hv : ∀ v, value = some v → v < N.nv) : ∀ {ds : List Str} {M : Nat} {S : SS}, S.Ok N M → (∀ n, num = some n → 1 ≤ n ∧ n ≤ S.kinds.length) → cts.length ≤ M → M + ds.length ≤ 10000 →
    (ds.foldl (actM B num value reach cts) S).Ok N (M + ds.length) ∧ (ds.foldl (actM B num value reach cts) S).kinds = S.kinds
  | [], M, S, h, _, _, _ => ⟨h, rfl⟩
  | d :: ds, M, S, h, hn, hc, hM => by
    rw [List.length_cons] at hM ⊢
    obtain ⟨h1, e1⟩ := actM_ok (reach := reach) (d := d) hB h hv hn hc (by omega)
    obtain ⟨h2, e2⟩ := acts_ok (cts := cts) hB hv (ds := ds) h1 (by rw [e1]; exact hn) (by omega) (by omega)
    rw [List.foldl_cons]
    exact ⟨by rw [show M + (ds.length + 1) = M + 1 + ds.length by omega]; exact h2, e2.trans e1⟩
theorem bump_ok {N : Nm} {M : Nat} {S : SS} {num : Option Nat} (h : S.Ok N M) : (bumpM num S).Ok N M ∧ (bumpM num S).kinds = S.kinds := by
  cases num with
  | none => exact ⟨h, rfl⟩
  | some n =>
    obtain ⟨h1, h2, h3, h4, h5, h6, h7⟩ := h
    unfold bumpM
    dsimp only
    split
    · exact ⟨⟨h1, h2, h3, h4, h5, h6, h7⟩, rfl⟩
    · exact ⟨⟨h1, h2, h3, h4, h5, h6, h7⟩, rfl⟩
theorem SS.Ok.up {N : Nm} {M M' : Nat} {S : SS} (h : S.Ok N M) (l : M ≤ M') (m : M' ≤ 10000) : S.Ok N M' := ⟨h.b, h.k, h.o, Nat.le_trans h.kl l, Nat.le_trans h.cl l, Nat.le_trans h.ol l, m⟩
theorem deedsAt_len {rows : List RowD} (hro : ∀ r ∈ rows, r.Ok) (i : Nat) : (deedsAt rows i).length ≤ 10 := by
  unfold deedsAt
  cases e : rows[i]? with
  | none => exact Nat.zero_le _
  | some r => exact (hro r (List.mem_of_getElem? e)).dn
theorem hearM_ok {N : Nm} {B : IB} {rows : List RowD} {wd : Str} {num value reach : Option Nat} {cts : List Nat} {M : Nat} {S : SS} (hB : B.Ok N) (hro : ∀ r ∈ rows, r.Ok) (h : S.Ok N M) (hv : ∀ v, value = some v → v < N.nv) (hn : ∀ n, num = some n → 1 ≤ n ∧ n ≤ S.kinds.length)
    (hc : cts.length ≤ M) (hM : M + 10 ≤ 10000) : (hearM B rows wd num value reach cts S).Ok N (M + 10) ∧ (hearM B rows wd num value reach cts S).kinds = S.kinds := by
  unfold hearM
  cases rowAtM rows wd (truthsM S num value reach) with
  | none =>
    obtain ⟨a, b⟩ := bump_ok (num := num) h
    exact ⟨a.up (by omega) hM, b⟩
  | some i =>
    have hl := deedsAt_len hro i
    obtain ⟨a, b⟩ := acts_ok (cts := cts) (reach := reach) (ds := deedsAt rows i) hB hv h hn hc (by omega)
    obtain ⟨c, d⟩ := bump_ok (num := num) a
    exact ⟨c.up (by omega) hM, d.trans b⟩
theorem pt_weak {X : Cx} {e : Expr} {t t' : TT} (h : PT X e t) (s : ∀ σ H Q, t' σ H Q → t σ H Q) : PT X e t' := ⟨fun pins sh σ H Q I q => h.run pins sh σ H Q I (s σ H Q q)⟩
def moreM (num : Option Nat) (h : Nat) : Bool := match num with
  | none => false
  | some n => decide (h < n)
def tBump (K : PySem.W.Frag) : TT := fun σ H Q => ∃ (a dx : Addr) (fs : List (Str × V)) (num : Option Nat) (n : Nat), σ[2]? = some (some (optI num)) ∧ σ[0]? = some (some (.ref a)) ∧ H a = some (.ins (He.ga K "Sheet") dx fs) ∧ fs.lookup ("heard" : Str) = some (.int (n : Nat)) ∧ Q (moreM num n) H
def spHear (K : PySem.W.Frag) : Sp := fun vs H Q _ => ∃ (a b pg ct : Addr) (F : L2.Hp) (N : Nm) (B : IB) (rows : List RowD) (M : Nat) (S : SS) (num value reach : Option Nat) (cts : List Nat) (wd : Str), vs = [.ref a, .str wd, optI num, optS N.v value, optI reach, .ref ct] ∧ SheetAt K H a b pg N S ∧
  Fr K F b pg N B rows ∧ Same F H ∧ F a = none ∧ S.Ok N M ∧ H ct = some (.tup (inL cts)) ∧ cts.length ≤ M ∧ M + 10 ≤ 10000 ∧ (∀ v, value = some v → v < N.nv) ∧ (∀ n, num = some n → 1 ≤ n ∧ n ≤ S.kinds.length) ∧ (num = none → wd = "list") ∧
  ∀ H', Kp a H H' → SheetAt K H' a b pg N (hearM B rows wd num value reach cts S) → Q (optI (hearAt rows wd num value reach S)) H'
theorem h_hear (C : Ctx K mg) : ∃ fd, Has P w K mg base 6 (He.fAd K ("Sheet", some "hear")) ["self", "word", "number", "value", "reach", "contents"] (spHear K) fd := by
  obtain ⟨fdR, GR⟩ := h_row_at (P := P) (w := w) (base := base) C
  obtain ⟨fdT, GT⟩ := h_truths (P := P) (w := w) (base := base) C
  obtain ⟨fdA, GA⟩ := h_act (P := P) (w := w) (base := base) C
  refine has_of C.fn_sheet_hear sc_sheet_hear (fun vs H Q E h => ?_) (fun cdv A outer s H vs Q E hr h => ?_)
  · obtain ⟨a, b, pg, ct, F, N, B, rows, M, S, num, value, reach, cts, wd, rfl, _⟩ := h
    rfl
  · obtain ⟨a, b, pg, ct, F, N, B, rows, M, S, num, value, reach, cts, wd, rfl, hS, fr, sF, nF, hok, hct, hcl, hM, hv, hn, hw, k⟩ := h
    have nd := sc_sheet_hear.nd
    obtain ⟨dx, ak, ac, ao, h1, h2, h3, h4⟩ := id hS
    have nt : ct ≠ a := ne_of hct h1 (by intro q; cases q)
    refine ⟨_, (pss_cons (ps_set (i := 6) nd rfl (Or.inl rfl) (pe_call GR.ok (hr.mono (by decide)) (by rfl) C.g_row_at GR.kp GR.b .nil pass0 (pa_cons (pe_fld (pv 0) rfl) (pa_cons (pv 1) (pa_cons (pe_meth (pv 0) C.cls_Sheet C.me_Sheet_truths GT.ok (hr.mono (by decide)) GT.b .nil pass0 (pa_cons (pv 2) (pa_cons (pv 3) (pa_cons (pv 4) pa_nil)))) pa_nil))))) (C8.pss_cut (ps_if (pt_cmpR op_notN (pv 6) pe_non (nomark _)) (pss_one (ps_for PassesOwn.never rfl (pi_tup (pe_fld (pe_ix ix_tup (pe_fld (pe_fld (pv 0) rfl) rfl) (pv 6) (fun _ _ => rfl)) rfl)) (pg_name (i := 7) nd rfl (Or.inl rfl)) (pss_one (ps_expr (pe_meth (pv 0) C.cls_Sheet C.me_Sheet_act GA.ok (hr.mono (by decide)) GA.b .nil pass0 (pa_cons (pv 7) (pa_cons (pv 2) (pa_cons (pv 3) (pa_cons (pv 4) (pa_cons (pv 5) pa_nil)))))))))) pss_nil) (pss_cons (ps_if (pt_weak (t' := tBump K) (PW.pt (pw_and (pt_cmpR op_notN (pv 2) pe_non (nomark _)) (pw_and1 (pt_cmpR op_gt (pv 2) (pe_fld (pv 0) rfl) (nomark _))))) (fun σ H Q q => by
        obtain ⟨a, dx, fs, num, n, h2, h0, ha, hf, q⟩ := q
        cases num with
        | none => exact ⟨_, h2, rfl, _, rfl, ifF rfl q⟩
        | some r =>
          refine ⟨_, h2, rfl, _, rfl, ifT rfl ⟨_, h2, _, h0, a, _, dx, _, _, rfl, ha, C.cls_Sheet, C.no_Sheet_heard, hf, (r : Int), (n : Int), rfl, rfl, _, rfl, ?_⟩⟩
          rw [show decide ((n : Int) < (r : Int)) = moreM (some r) n from decide_eq_decide.mpr (by omega)]
          exact q)) (pss_one (ps_fld (pv 0) (pv 2) rfl)) pss_nil) (pss_one (ps_ret (pv 6)))))), ?_⟩
    refine ⟨_, rfl, a, _, dx, _, _, rfl, h1, C.cls_Sheet, C.no_Sheet_page, rfl, _, rfl, _, rfl, a, dx, _, rfl, h1, rfl, _, rfl, _, rfl, _, rfl, a, b, pg, N, M, S, num, value, reach, rfl, hS, fr.n, hok, hv, fun d H2 s2 hT => ?_⟩
    refine ⟨pg, d, wd, rows, _, rfl, fr.p.mono (sF.trans s2), fr.ro, fr.rl, hT, fun H3 s3 => ?_⟩
    have s23 := s2.trans s3
    have hT1 : hearM B rows wd num value reach cts S = bumpM num (afterM B rows num value reach cts S (rowAtM rows wd (truthsM S num value reach))) := rfl
    have hT2 : hearAt rows wd num value reach S = rowAtM rows wd (truthsM S num value reach) := rfl
    rw [hT1, hT2] at k
    have hrow : ∀ i, rowAtM rows wd (truthsM S num value reach) = some i → ∃ r, rows[i]? = some r ∧ r.letter = wd := fun i e => by
      unfold rowAtM at e
      rw [List.findIdx?_eq_some_iff_getElem] at e
      obtain ⟨hl, hf, _⟩ := e
      refine ⟨rows[i], List.getElem?_eq_getElem hl, ?_⟩
      unfold rowFits at hf
      exact of_decide_eq_true (Bool.and_eq_true_iff.mp hf).1
    generalize rowAtM rows wd (truthsM S num value reach) = at_ at k hrow
    refine ⟨fun σ' H' => ∃ x7, σ' = [some (.ref a), some (.str wd), some (optI num), some (optS N.v value), some (optI reach), some (.ref ct), some (optI at_), x7] ∧ Kp a H H' ∧ SheetAt K H' a b pg N (afterM B rows num value reach cts S at_), ?_, ?_⟩
    · cases at_ with
      | none => exact ⟨_, rfl, rfl, _, rfl, ifF rfl ⟨_, rfl, Kp.of s23, hS.mono s23⟩⟩
      | some i =>
        obtain ⟨r, hri, hrl⟩ := hrow i rfl
        have hrok := fr.ro r (List.mem_of_getElem? hri)
        have ed : deedsAt rows i = r.deeds := by unfold deedsAt; rw [hri]
        obtain ⟨dxp, ar, ras, p1, p2, p3, p4⟩ := fr.p
        have hil := (List.getElem?_eq_some_iff.mp hri).1
        have hia : ras[i]? = some ras[i] := List.getElem?_eq_getElem (by omega)
        obtain ⟨dxr, at1, ad, r1, r2, r3⟩ := p4 i _ _ hia hri
        have sF3 := sF.trans s23
        have hia2 : atI (ras.map V.ref) (i : Int) = some (.ref ras[i]) := atI_nat (map_at hia)
        refine ⟨_, rfl, rfl, _, rfl, ifT rfl ?_⟩
        refine ⟨_, rfl, a, _, dx, _, _, rfl, s23 _ _ h1, C.cls_Sheet, C.no_Sheet_page, rfl, pg, _, dxp, _, _, rfl, sF3 _ _ p1, C.cls_Page, C.no_Page_rows, rfl, _, rfl, ar, _, (i : Int), _, rfl, rfl, SqT.of (sF3 _ _ p2), hia2, ras[i], _, dxr, _, _, rfl, sF3 _ _ r1, C.cls_Row, C.no_Row_deeds, rfl, ad, rfl, ⟨_, SqT.of (sF3 _ _ r3)⟩, ?_⟩
        have nad : ∀ H', Kp a H H' → Same F H' := fun H' kp => kp.same sF nF
        refine for_tup (K := K) (a := ad) (xs := stL r.deeds) (fun j σ' H' => Kp a H H' ∧ SheetAt K H' a b pg N ((r.deeds.take j).foldl (actM B num value reach cts) S) ∧ ∃ x7, σ' = [some (.ref a), some (.str wd), some (optI num), some (optS N.v value), some (optI reach), some (.ref ct), some (optI (some i)), x7])
          ⟨Kp.of s23, hS.mono s23, none, rfl⟩ (fun j σ' H' _ q => SqT.of (nad _ q.1 _ _ r3)) ?_ ?_
        · rintro j x σ' H4 hj ⟨kp, hS4, x7, rfl⟩
          have hjl : j < r.deeds.length := by
            have q := (List.getElem?_eq_some_iff.mp hj).1
            rw [stL_len] at q
            exact q
          have hjd : r.deeds[j]? = some r.deeds[j] := List.getElem?_eq_getElem hjl
          obtain rfl : x = .str r.deeds[j] := map_un hjd hj
          have hdk := hrok.d _ (List.getElem_mem hjl)
          have et : (r.deeds.take (j + 1)).foldl (actM B num value reach cts) S = actM B num value reach cts ((r.deeds.take j).foldl (actM B num value reach cts) S) r.deeds[j] := by
            rw [List.take_succ, hjd, List.foldl_append]
            rfl
          have hdn := hrok.dn
          have htl : (r.deeds.take j).length ≤ 10 := by rw [List.length_take]; omega
          obtain ⟨ok4, ek4⟩ := acts_ok (cts := cts) (reach := reach) (ds := r.deeds.take j) fr.bo hv hok hn hcl (by omega)
          obtain ⟨dx4, ak4, ac4, ao4, g1, _⟩ := id hS4
          refine ⟨_, rfl, a, dx4, _, rfl, g1, rfl, _, rfl, _, rfl, _, rfl, _, rfl, _, rfl, a, b, pg, ct, N, B, _, _, num, value, reach, cts, r.deeds[j], rfl, hS4, fr.b.mono (nad _ kp), fr.n, fr.bo, ok4, kp _ _ hct nt, hdk.1, fun ed => ?_, fun H5 kp5 hS5 => ⟨kp.trans kp5, ?_, _, rfl⟩⟩
          · cases num with
            | none =>
              have := hdk.2 (hrl.trans (hw rfl))
              rw [ed] at this
              exact absurd this (by decide)
            | some n => exact ⟨n, rfl, by rw [ek4]; exact hn n rfl⟩
          · rw [et]
            exact hS5
        · rintro σ' H4 ⟨kp, hS4, x7, rfl⟩
          refine ⟨x7, rfl, kp, ?_⟩
          show SheetAt K H4 a b pg N ((deedsAt rows i).foldl (actM B num value reach cts) S)
          rw [ed]
          rw [stL_len, List.take_length] at hS4
          exact hS4
    · rintro σ' H4 ⟨x7, rfl, kp, hS4⟩
      generalize afterM B rows num value reach cts S at_ = S1 at k hS4
      obtain ⟨dx4, ak4, ac4, ao4, g1, g2, g3, g4⟩ := id hS4
      refine ⟨a, dx4, _, num, S1.heard, rfl, rfl, g1, rfl, ?_⟩
      cases num with
      | none => exact ifF rfl ⟨_, rfl, k _ kp hS4⟩
      | some n =>
        have hb : bumpM (some n) S1 = if S1.heard < n then { S1 with heard := n } else S1 := rfl
        refine ite2 (fun h => ?_) (fun h => ?_)
        · rw [hb, if_pos (of_decide_eq_true h)] at k
          refine ⟨_, rfl, _, rfl, a, _, dx4, _, rfl, g1, C.cls_Sheet, C.no_Sheet_heard, (by show 7 < 1000; decide), _, rfl, k _ kp.put ⟨dx4, ak4, ac4, ao4, upd_same, ?_, ?_, ?_⟩⟩
          · rw [upd_ne (ne_of g2 g1 (by intro q; cases q))]; exact g2
          · rw [upd_ne (ne_of g3 g1 (by intro q; cases q))]; exact g3
          · rw [upd_ne (ne_of g4 g1 (by intro q; cases q))]; exact g4
        · rw [hb, if_neg (fun h2 => h (decide_eq_true h2))] at k
          exact ⟨_, rfl, k _ kp hS4⟩
/-! clicks within a sheet -/
def innerM (S : SS) : List Nat := ((List.range S.kinds.length).map (· + 1)).filter fun n => decide (n ∈ S.opn) || decide (n ∈ S.cont)
theorem inV_nat (n : Nat) (l : List Nat) : inV (.int (n : Nat)) (inL l) = decide (n ∈ l) := by
  have h := inV_num (some n) l
  have h2 : (!inV (.int (n : Nat)) (inL l)) = !decide (n ∈ l) := h
  cases h3 : inV (.int (n : Nat)) (inL l) <;> cases h4 : decide (n ∈ l) <;> rw [h3, h4] at h2 <;> first | rfl | cases h2
def spInner (K : PySem.W.Frag) : Sp := fun vs H Q _ => ∃ (a b pg : Addr) (N : Nm) (M : Nat) (S : SS), vs = [.ref a] ∧ SheetAt K H a b pg N S ∧ S.Ok N M ∧ ∀ p H', Same H H' → H' p = some (.tup (inL (innerM S))) → Q (.ref p) H'
theorem h_inner (C : Ctx K mg) : ∃ fd, Has P w K mg base 1 (He.fAd K ("Sheet", some "inner")) ["self"] (spInner K) fd := by
  refine has_of C.fn_sheet_inner sc_sheet_inner (fun vs H Q E h => ?_) (fun cdv A outer s H vs Q E hr h => ?_)
  · obtain ⟨a, b, pg, N, M, S, rfl, _⟩ := h
    rfl
  · obtain ⟨a, b, pg, N, M, S, rfl, hS, hok, k⟩ := h
    have nd := sc_sheet_inner.nd
    obtain ⟨dx, ak, ac, ao, h1, h2, h3, h4⟩ := id hS
    have m1 := hok.kl
    have m3 := hok.m
    refine ⟨_, (pss_cons (ps_set (i := 1) nd rfl (Or.inl rfl) (pe_lst pa_nil)) (pss_cons (ps_for PassesOwn.never rfl (pi_range2 (by rfl) C.f_range (pa_cons pe_int (pa_cons (pe_add (pe_callB call_len (by rfl) C.f_len boot_len (pa_cons (pe_fld (pv 0) rfl) pa_nil)) pe_int) pa_nil))) (pg_name (i := 2) nd rfl (Or.inl rfl)) (pss_one (ps_if (PW.pt (pw_or (pt_cmpR op_in_seq (pv 2) (pe_fld (pv 0) rfl) (by rfl)) (pw_or1 (pt_cmpR op_in_seq (pv 2) (pe_fld (pv 0) rfl) (by rfl))))) (pss_one (ps_expr (pe_bm PySem.F.plainAttrs_list PySem.F.slot_list_append PySem.F.type_list_append mt_append (pv 1) (pa_cons (pv 2) pa_nil)))) pss_nil))) (pss_one (ps_ret (pe_callTy call_tuple_of (by rfl) C.f_tuple boot_tuple (pa_cons (pv 1) pa_nil)))))), ?_⟩
    refine ⟨Nat.zero_le _, fun L hL => ?_⟩
    have pfx : ∀ i, i ≤ S.kinds.length → (((List.range i).map (· + 1)).filter fun n => decide (n ∈ S.opn) || decide (n ∈ S.cont)).length ≤ i := fun i _ => Nat.le_trans (List.length_filter_le _ _) (by rw [List.length_map, List.length_range]; exact Nat.le_refl _)
    refine ⟨_, rfl, a, _, dx, _, _, rfl, same_new hL _ _ h1, C.cls_Sheet, C.no_Sheet_kinds, rfl, _, S.kinds.length, rfl, .inr ⟨_, SqT.of (same_new hL _ _ h2), (by rw [stL_len, List.length_map])⟩, (S.kinds.length : Int), (1 : Int), rfl, rfl, 1, (S.kinds.length : Int) + 1, rfl, ⟨by omega, by omega, by omega, by omega⟩, ?_⟩
    rw [show ((S.kinds.length : Int) + 1 - 1).toNat = S.kinds.length by omega]
    refine for_range (fun i σ' H' => Same H H' ∧ H' L = some (.lst (inL (((List.range i).map (· + 1)).filter fun n => decide (n ∈ S.opn) || decide (n ∈ S.cont)))) ∧ ∃ x2, σ' = [some (.ref a), some (.ref L), x2]) ⟨same_new hL, upd_same, none, rfl⟩ ?_ ?_
    · rintro i σ' H2 hi ⟨s2, hL2, x2, rfl⟩
      have e1 : (1 : Int) + (i : Nat) = ((i + 1 : Nat) : Int) := by omega
      rw [e1]
      have stp : (((List.range (i + 1)).map (· + 1)).filter fun n => decide (n ∈ S.opn) || decide (n ∈ S.cont)) = (((List.range i).map (· + 1)).filter fun n => decide (n ∈ S.opn) || decide (n ∈ S.cont)) ++ (if (decide (i + 1 ∈ S.opn) || decide (i + 1 ∈ S.cont)) = true then [i + 1] else []) := by
        rw [List.range_succ, List.map_append, List.filter_append, List.map_cons, List.map_nil, List.filter_cons, List.filter_nil]
      have yes : (decide (i + 1 ∈ S.opn) || decide (i + 1 ∈ S.cont)) = true → ∃ v, [some (V.ref a), some (V.ref L), some (V.int ((i + 1 : Nat) : Int))][1]? = some (some v) ∧ tyV K "list" v H2 ∧ ∃ v1, [some (V.ref a), some (V.ref L), some (V.int ((i + 1 : Nat) : Int))][2]? = some (some v1) ∧ rAppend v [v1] H2 (fun _ H3 => Same H H3 ∧ H3 L = some (.lst (inL (((List.range (i + 1)).map (· + 1)).filter fun n => decide (n ∈ S.opn) || decide (n ∈ S.cont)))) ∧ ∃ x2, [some (V.ref a), some (V.ref L), some (V.int ((i + 1 : Nat) : Int))] = [some (.ref a), some (.ref L), x2]) := fun h => by
        refine ⟨_, rfl, .inl ⟨rfl, _, SqL.of hL2⟩, _, rfl, L, _, _, rfl, rfl, hL2, smallL (by rw [inL_len]; have := pfx i (Nat.le_of_lt hi); omega), fun c o e => ?_, ?_, _, rfl⟩
        · rw [upd_ne (ne_of_none e hL)]
          exact s2 _ _ e
        · rw [upd_same, stp, if_pos h]
          unfold inL
          rw [List.map_append]
          rfl
      refine ⟨_, rfl, _, rfl, a, _, dx, _, _, rfl, s2 _ _ h1, C.cls_Sheet, C.no_Sheet_open_ones, rfl, ao, _, rfl, .inr (SqT.of (s2 _ _ h4)), rfl, flat_inL _, _, rfl, ?_⟩
      show if inV (.int ((i + 1 : Nat) : Int)) (inL S.opn) = true then _ else _
      rw [inV_nat]
      cases ho : decide (i + 1 ∈ S.opn) with
      | true => exact iteT (yes (by rw [ho]; rfl))
      | false =>
        refine iteF ⟨_, rfl, _, rfl, a, _, dx, _, _, rfl, s2 _ _ h1, C.cls_Sheet, C.no_Sheet_contents, rfl, ac, _, rfl, .inr (SqT.of (s2 _ _ h3)), rfl, flat_inL _, _, rfl, ?_⟩
        show if inV (.int ((i + 1 : Nat) : Int)) (inL S.cont) = true then _ else _
        rw [inV_nat]
        cases hc : decide (i + 1 ∈ S.cont) with
        | true => exact iteT (yes (by rw [ho, hc]; rfl))
        | false =>
          refine iteF ⟨s2, ?_, _, rfl⟩
          rw [stp, ho, hc, if_neg (by decide), List.append_nil]
          exact hL2
    · rintro σ' H2 ⟨s2, hL2, x2, rfl⟩
      exact ⟨_, rfl, L, _, rfl, .inl ⟨SqL.of hL2, fun p hp => k p _ (Same.new s2 hp) upd_same⟩⟩
end
end Hp
set_option Elab.async false
set_option linter.all false
set_option maxRecDepth 100000
set_option maxHeartbeats 4000000
namespace Hp
open PySem PySem.Spec PyProof.Rows L2
/-! a course -/
structure Fate where
  yes : Bool
  value : Nat
  acc : List Nat
structure Mom where
  value : Nat
  reach : Nat
  acc : List Nat
structure CS where
  S : SS
  value : Nat
  fates : List Fate
  come : List Nat
  moms : List Mom
  behind : Nat
  told : Bool
  shown : List Nat
  done : List (Option Nat)
  flick : List Nat
  gained : List Str
structure Pl where
  c : Addr
  a : Addr
  mo : Addr
  sh : Addr
  dn : Addr
  fl : Addr
  ga : Addr
  b : Addr
  pg : Addr
def Pl.ms (P : Pl) : List Addr := [P.c, P.a, P.mo, P.sh, P.dn, P.fl, P.ga]
def yesS (y : Bool) : Str := if y then "yes" else "no"
def FateAt (H : L2.Hp) (p : Addr) (N : Nm) (f : Fate) : Prop := ∃ q, H p = some (.tup [.str (yesS f.yes), .str (N.v f.value), .ref q]) ∧ H q = some (.tup (inL f.acc))
def FatesAt (H : L2.Hp) (af : Addr) (N : Nm) (fs : List Fate) : Prop := ∃ fa : List Addr, H af = some (.tup (fa.map V.ref)) ∧ fa.length = fs.length ∧ ∀ (i : Nat) (p : Addr) (f : Fate), fa[i]? = some p → fs[i]? = some f → FateAt H p N f
def MomAt (H : L2.Hp) (p : Addr) (N : Nm) (m : Mom) : Prop := ∃ q, H p = some (.tup [.str (N.v m.value), .int (m.reach : Nat), .ref q]) ∧ H q = some (.tup (inL m.acc))
def MomsAt (H : L2.Hp) (am : Addr) (N : Nm) (ms : List Mom) : Prop := ∃ ma : List Addr, H am = some (.lst (ma.map V.ref)) ∧ ma.length = ms.length ∧ ∀ (i : Nat) (p : Addr) (m : Mom), ma[i]? = some p → ms[i]? = some m → MomAt H p N m
/-- tuples are kept -/
def TK (H H' : L2.Hp) : Prop := ∀ (q : Addr) (xs : List V), H q = some (.tup xs) → H' q = some (.tup xs)
theorem TK.of {H H' : L2.Hp} (s : Same H H') : TK H H' := fun q xs e => s _ _ e
theorem TK.trans {H H1 H2 : L2.Hp} (a : TK H H1) (b : TK H1 H2) : TK H H2 := fun q xs e => b _ _ (a _ _ e)
theorem FateAt.kept {H H' : L2.Hp} {p : Addr} {N : Nm} {f : Fate} (h : FateAt H p N f) (t : TK H H') : FateAt H' p N f := let ⟨q, a, b⟩ := h; ⟨q, t _ _ a, t _ _ b⟩
theorem FatesAt.kept {H H' : L2.Hp} {p : Addr} {N : Nm} {f : List Fate} (h : FatesAt H p N f) (t : TK H H') : FatesAt H' p N f := let ⟨q, a, b, c⟩ := h; ⟨q, t _ _ a, b, fun i p f e1 e2 => (c i p f e1 e2).kept t⟩
theorem MomsAt.kept {H H' : L2.Hp} {p : Addr} {N : Nm} {f : List Mom} (h : MomsAt H p N f) (t : TK H H') (l : ∀ xs, H p = some (.lst xs) → H' p = some (.lst xs)) : MomsAt H' p N f := by
  obtain ⟨q, a, b, c⟩ := h
  refine ⟨q, l _ a, b, fun i p f e1 e2 => ?_⟩
  obtain ⟨q, a, b⟩ := c i p f e1 e2
  exact ⟨q, t _ _ a, t _ _ b⟩
def coF (K : PySem.W.Frag) (P : Pl) (af aco : Addr) (value behind told : V) : List (Str × V) := [("book", .ref P.b), ("marks", .ref (He.ga K "MARKS")), ("sheet", .ref P.a), ("value", value), ("fates", .ref af), ("come", .ref aco), ("moments", .ref P.mo), ("behind", behind), ("is_told", told), ("shown", .ref P.sh), ("done", .ref P.dn), ("flickers", .ref P.fl), ("gained", .ref P.ga)]
def CoAt (K : PySem.W.Frag) (H : L2.Hp) (P : Pl) (N : Nm) (cs : CS) : Prop := ∃ dx af aco : Addr, H P.c = some (.ins (He.ga K "Course") dx (coF K P af aco (.str (N.v cs.value)) (.int (cs.behind : Nat)) (.bl cs.told))) ∧ FatesAt H af N cs.fates ∧ H aco = some (.tup (inL cs.come))
def gaL (l : List Str) : List (L2.Key × V) := l.map fun g => (Sum.inr g, V.bl true)
structure CourseAt (K : PySem.W.Frag) (H : L2.Hp) (P : Pl) (N : Nm) (cs : CS) : Prop where
  co : CoAt K H P N cs
  st : SheetAt K H P.a P.b P.pg N cs.S
  mo : MomsAt H P.mo N cs.moms
  sh : H P.sh = some (.lst (stL (cs.shown.map N.v)))
  dn : H P.dn = some (.lst (cs.done.map optI))
  fl : H P.fl = some (.lst (inL cs.flick))
  ga : H P.ga = some (.dK (gaL cs.gained))
def Gr (ms : List Addr) (H H' : L2.Hp) : Prop := ∀ b o, H b = some o → b ∉ ms → H' b = some o
theorem Gr.of {ms : List Addr} {H H' : L2.Hp} (s : Same H H') : Gr ms H H' := fun b o e _ => s _ _ e
theorem Gr.refl {ms : List Addr} {H : L2.Hp} : Gr ms H H := fun _ _ e _ => e
theorem Gr.trans {ms : List Addr} {H H1 H2 : L2.Hp} (a : Gr ms H H1) (b : Gr ms H1 H2) : Gr ms H H2 := fun c o e n => b _ _ (a _ _ e n) n
theorem Gr.kp {ms : List Addr} {m : Addr} {H H' : L2.Hp} (k : Kp m H H') (h : m ∈ ms) : Gr ms H H' := fun b o e n => k _ _ e (fun q => n (q ▸ h))
theorem Gr.same {ms : List Addr} {F H H' : L2.Hp} (g : Gr ms H H') (s : Same F H) (n : ∀ m ∈ ms, F m = none) : Same F H' := fun b o e => g _ _ (s _ _ e) (fun hm => by rw [n b hm] at e; cases e)
theorem CourseAt.nt {K : PySem.W.Frag} {H : L2.Hp} {P : Pl} {N : Nm} {cs : CS} (h : CourseAt K H P N cs) : ∀ m ∈ P.ms, ∃ o, H m = some o ∧ ∀ xs, o ≠ .tup xs := by
  obtain ⟨dx, af, aco, c1, _⟩ := h.co
  obtain ⟨dx2, ak, ac, ao, s1, _⟩ := h.st
  obtain ⟨ma, m1, _⟩ := h.mo
  intro m hm
  have hm' : m = P.c ∨ m = P.a ∨ m = P.mo ∨ m = P.sh ∨ m = P.dn ∨ m = P.fl ∨ m = P.ga := by simpa [Pl.ms] using hm
  rcases hm' with rfl | rfl | rfl | rfl | rfl | rfl | rfl
  · exact ⟨_, c1, fun xs q => by cases q⟩
  · exact ⟨_, s1, fun xs q => by cases q⟩
  · exact ⟨_, m1, fun xs q => by cases q⟩
  · exact ⟨_, h.sh, fun xs q => by cases q⟩
  · exact ⟨_, h.dn, fun xs q => by cases q⟩
  · exact ⟨_, h.fl, fun xs q => by cases q⟩
  · exact ⟨_, h.ga, fun xs q => by cases q⟩
theorem Gr.tk {K : PySem.W.Frag} {H H' : L2.Hp} {P : Pl} {N : Nm} {cs : CS} (g : Gr P.ms H H') (h : CourseAt K H P N cs) : TK H H' := fun q xs e => g _ _ e fun hm => by
  obtain ⟨o, h1, h2⟩ := h.nt q hm
  rw [h1] at e
  exact h2 xs (Option.some.inj e)
/-- what stands in H' where m alone was written: all but the part at m -/
theorem CourseAt.keep {K : PySem.W.Frag} {H H' : L2.Hp} {P : Pl} {N : Nm} {cs : CS} (h : CourseAt K H P N cs) {m : Addr} (hm : m ∈ P.ms) (k : Kp m H H') : TK H H' ∧ (P.c ≠ m → CoAt K H' P N cs) ∧ (P.a ≠ m → SheetAt K H' P.a P.b P.pg N cs.S) ∧ (P.mo ≠ m → MomsAt H' P.mo N cs.moms) ∧
    (P.sh ≠ m → H' P.sh = some (.lst (stL (cs.shown.map N.v)))) ∧ (P.dn ≠ m → H' P.dn = some (.lst (cs.done.map optI))) ∧ (P.fl ≠ m → H' P.fl = some (.lst (inL cs.flick))) ∧ (P.ga ≠ m → H' P.ga = some (.dK (gaL cs.gained))) := by
  have t : TK H H' := fun q xs e => k _ _ e fun e2 => by
    obtain ⟨o, h1, h2⟩ := h.nt m hm
    rw [e2, h1] at e
    exact h2 xs (Option.some.inj e)
  refine ⟨t, fun n => ?_, fun n => h.st.kept fun c o e q => ?_, fun n => h.mo.kept t fun xs e => k _ _ e n, fun n => k _ _ h.sh n, fun n => k _ _ h.dn n, fun n => k _ _ h.fl n, fun n => k _ _ h.ga n⟩
  · obtain ⟨dx, af, aco, c1, c2, c3⟩ := h.co
    exact ⟨dx, af, aco, k _ _ c1 n, c2.kept t, t _ _ c3⟩
  · rcases q with rfl | ⟨xs, rfl⟩
    · exact k _ _ e n
    · exact t _ _ e
structure Pl.Ne (P : Pl) : Prop where
  ca : P.c ≠ P.a
  cm : P.c ≠ P.mo
  cs : P.c ≠ P.sh
  cd : P.c ≠ P.dn
  cf : P.c ≠ P.fl
  cg : P.c ≠ P.ga
  am : P.a ≠ P.mo
  as : P.a ≠ P.sh
  ad : P.a ≠ P.dn
  af : P.a ≠ P.fl
  ag : P.a ≠ P.ga
  ms : P.mo ≠ P.sh
  md : P.mo ≠ P.dn
  mf : P.mo ≠ P.fl
  mg : P.mo ≠ P.ga
  sd : P.sh ≠ P.dn
  sf : P.sh ≠ P.fl
  sg : P.sh ≠ P.ga
  df : P.dn ≠ P.fl
  dg : P.dn ≠ P.ga
  fg : P.fl ≠ P.ga
section
variable {K : PySem.W.Frag} {H H' : L2.Hp} {P : Pl} {N : Nm} {cs : CS}
theorem CourseAt.mono (h : CourseAt K H P N cs) (s : Same H H') : CourseAt K H' P N cs := by
  obtain ⟨dx, af, aco, c1, c2, c3⟩ := h.co
  exact ⟨⟨dx, af, aco, s _ _ c1, c2.kept (.of s), s _ _ c3⟩, h.st.mono s, h.mo.kept (.of s) fun xs e => s _ _ e, s _ _ h.sh, s _ _ h.dn, s _ _ h.fl, s _ _ h.ga⟩
theorem CourseAt.at_c (h : CourseAt K H P N cs) (n : P.Ne) (k : Kp P.c H H') {value : Nat} {fates : List Fate} {come : List Nat} {behind : Nat} {told : Bool} (c : CoAt K H' P N { cs with value := value, fates := fates, come := come, behind := behind, told := told }) : CourseAt K H' P N { cs with value := value, fates := fates, come := come, behind := behind, told := told } := by
  obtain ⟨_, q1, q2, q3, q4, q5, q6, q7⟩ := h.keep (by simp [Pl.ms]) k
  exact ⟨c, q2 n.ca.symm, q3 n.cm.symm, q4 n.cs.symm, q5 n.cd.symm, q6 n.cf.symm, q7 n.cg.symm⟩
theorem CourseAt.at_a (h : CourseAt K H P N cs) (n : P.Ne) (k : Kp P.a H H') {S : SS} (c : SheetAt K H' P.a P.b P.pg N S) : CourseAt K H' P N { cs with S := S } := by
  obtain ⟨_, q1, q2, q3, q4, q5, q6, q7⟩ := h.keep (by simp [Pl.ms]) k
  exact ⟨q1 n.ca, c, q3 n.am.symm, q4 n.as.symm, q5 n.ad.symm, q6 n.af.symm, q7 n.ag.symm⟩
theorem CourseAt.at_mo (h : CourseAt K H P N cs) (n : P.Ne) (k : Kp P.mo H H') {ms : List Mom} (c : MomsAt H' P.mo N ms) : CourseAt K H' P N { cs with moms := ms } := by
  obtain ⟨_, q1, q2, q3, q4, q5, q6, q7⟩ := h.keep (by simp [Pl.ms]) k
  exact ⟨q1 n.cm, q2 n.am, c, q4 n.ms.symm, q5 n.md.symm, q6 n.mf.symm, q7 n.mg.symm⟩
theorem CourseAt.at_sh (h : CourseAt K H P N cs) (n : P.Ne) (k : Kp P.sh H H') {l : List Nat} (c : H' P.sh = some (.lst (stL (l.map N.v)))) : CourseAt K H' P N { cs with shown := l } := by
  obtain ⟨_, q1, q2, q3, q4, q5, q6, q7⟩ := h.keep (by simp [Pl.ms]) k
  exact ⟨q1 n.cs, q2 n.as, q3 n.ms, c, q5 n.sd.symm, q6 n.sf.symm, q7 n.sg.symm⟩
theorem CourseAt.at_dn (h : CourseAt K H P N cs) (n : P.Ne) (k : Kp P.dn H H') {l : List (Option Nat)} (c : H' P.dn = some (.lst (l.map optI))) : CourseAt K H' P N { cs with done := l } := by
  obtain ⟨_, q1, q2, q3, q4, q5, q6, q7⟩ := h.keep (by simp [Pl.ms]) k
  exact ⟨q1 n.cd, q2 n.ad, q3 n.md, q4 n.sd, c, q6 n.df.symm, q7 n.dg.symm⟩
theorem CourseAt.at_fl (h : CourseAt K H P N cs) (n : P.Ne) (k : Kp P.fl H H') {l : List Nat} (c : H' P.fl = some (.lst (inL l))) : CourseAt K H' P N { cs with flick := l } := by
  obtain ⟨_, q1, q2, q3, q4, q5, q6, q7⟩ := h.keep (by simp [Pl.ms]) k
  exact ⟨q1 n.cf, q2 n.af, q3 n.mf, q4 n.sf, q5 n.df, c, q7 n.fg.symm⟩
theorem CourseAt.at_ga (h : CourseAt K H P N cs) (n : P.Ne) (k : Kp P.ga H H') {l : List Str} (c : H' P.ga = some (.dK (gaL l))) : CourseAt K H' P N { cs with gained := l } := by
  obtain ⟨_, q1, q2, q3, q4, q5, q6, q7⟩ := h.keep (by simp [Pl.ms]) k
  exact ⟨q1 n.cg, q2 n.ag, q3 n.mg, q4 n.sg, q5 n.dg, q6 n.fg, c⟩
end
structure CS.Ok (N : Nm) (M : Nat) (cs : CS) : Prop where
  s : cs.S.Ok N M
  v : cs.value < N.nv
  f : ∀ f ∈ cs.fates, f.value < N.nv ∧ f.acc.length ≤ M
  fk : cs.fates.length ≤ cs.S.kinds.length
  cl : cs.come.length ≤ M
  m : ∀ m ∈ cs.moms, m.value < N.nv ∧ m.acc.length ≤ M
  ml : cs.moms.length ≤ M
  sv : ∀ v ∈ cs.shown, v < N.nv
  s0 : cs.shown ≠ []
  sl : cs.shown.length ≤ M
  dl : cs.done.length ≤ M
  fl : cs.flick.length = cs.S.kinds.length
  gn : cs.gained.Nodup
  gs : ∀ g ∈ cs.gained, g ∈ (["apart", "clung", "lost", "stuck"] : List Str)
/-- a course under way -/
structure St (K : PySem.W.Frag) (F : L2.Hp) (P : Pl) (N : Nm) (B : IB) (rows : List RowD) (M : Nat) (H : L2.Hp) (cs : CS) : Prop where
  c : CourseAt K H P N cs
  r : Fr K F P.b P.pg N B rows
  s : Same F H
  n : ∀ m ∈ P.ms, F m = none
  d : P.Ne
  o : cs.Ok N M
  l : M ≤ 5000
theorem St.mono {K : PySem.W.Frag} {F H H' : L2.Hp} {P : Pl} {N : Nm} {B : IB} {rows : List RowD} {M : Nat} {cs : CS} (h : St K F P N B rows M H cs) (s : Same H H') : St K F P N B rows M H' cs := ⟨h.c.mono s, h.r, h.s.trans s, h.n, h.d, h.o, h.l⟩
theorem St.next {K : PySem.W.Frag} {F H H' : L2.Hp} {P : Pl} {N : Nm} {B : IB} {rows : List RowD} {M M' : Nat} {cs cs' : CS} (h : St K F P N B rows M H cs) (g : Gr P.ms H H') (c : CourseAt K H' P N cs') (o : cs'.Ok N M') (l : M' ≤ 5000) : St K F P N B rows M' H' cs' := ⟨c, h.r, g.same h.s h.n, h.n, h.d, o, l⟩
def yesAt (fs : List Fate) (i : Nat) : Bool := match fs[i]? with
  | none => false
  | some f => f.yes
def acceptedM (fs : List Fate) : List Nat := ((List.range fs.length).filter (yesAt fs)).map (· + 1)
def refusedM (fs : List Fate) : List Nat := ((List.range fs.length).filter fun i => !yesAt fs i).map (· + 1)
theorem acc_len (fs : List Fate) : (acceptedM fs).length ≤ fs.length := by
  unfold acceptedM
  rw [List.length_map]
  exact Nat.le_trans (List.length_filter_le _ _) (by rw [List.length_range]; exact Nat.le_refl _)
theorem in_map (l : List Nat) : (l.map fun i : Nat => V.int ((i : Int) + 1)) = inL (l.map (· + 1)) := by
  unfold inL
  rw [List.map_map]
  rfl
section
variable {P : Program} {w : World} {K : PySem.W.Frag} {mg : Str → Option Value} {base : Heap}
def spAcc (K : PySem.W.Frag) (m : List Fate → List Nat) : Sp := fun vs H Q _ => ∃ (P : Pl) (N : Nm) (cs : CS), vs = [.ref P.c] ∧ CoAt K H P N cs ∧ cs.fates.length ≤ 10000 ∧ ∀ p H', Same H H' → H' p = some (.tup (inL (m cs.fates))) → Q (.ref p) H'
theorem h_accepted_now (C : Ctx K mg) : ∃ fd, Has P w K mg base 1 (He.fAd K ("Course", some "accepted_now")) ["self"] (spAcc K acceptedM) fd := by
  refine has_of C.fn_course_accepted_now sc_course_accepted_now (fun vs H Q E h => ?_) (fun cdv A outer s H vs Q E hr h => ?_)
  · obtain ⟨P, N, cs, rfl, _⟩ := h
    rfl
  · obtain ⟨P, N, cs, rfl, ⟨dx, af, aco, c1, ⟨fa, f1, f2, f3⟩, c3⟩, hl, k⟩ := h
    have nd := sc_course_accepted_now.nd
    refine ⟨_, (pss_one (ps_ret (pe_callTy call_tuple_of (by rfl) C.f_tuple boot_tuple (pa_cons (pe_lc (own := [("at", 1), ("fate", 2)]) (g := gTup K 2 (gCons (gName 1) (gCons (gName 2) gNil))) rfl nd (pi_enumT (by rfl) C.f_enumerate (pa_cons (pe_fld (pv 0) rfl) pa_nil)) (blkOk_by (N := N_course_accepted_now) (sc := defScope s_course_accepted_now) (by decide +kernel)) (fun _ _ _ _ _ => (pg_tup rfl (pgs_cons (pg_name (i := 1) nd rfl (Or.inl rfl)) (pgs_cons (pg_name (i := 2) nd rfl (Or.inl rfl)) pgs_nil))))
      (fun _ _ _ _ _ => pts_one (pt_cmpR op_eq (pe_ix (ix_tupK K) (pv 2) pe_int (fun _ _ => rfl)) pe_str (nomark _))) (fun _ _ _ _ _ => pe_add (pv 1) pe_int)) pa_nil)))), ?_⟩
    refine ⟨_, rfl, P.c, _, dx, _, _, rfl, c1, C.cls_Course, C.no_Course_fates, rfl, af, _, rfl, SqT.of f1, fun D hD => ?_⟩
    refine lc_p walk_enumT (List.range cs.fates.length) (by rw [List.length_map, range_len, f2]) (by rw [range_len]; exact small (by omega)) (yesAt cs.fates) (fun i => .int ((i : Int) + 1)) hD (fun H2 s2 => SqT.of (s2 _ _ f1)) (fun i n x H2 H3 Qy Qn hi s2 y k1 k2 => ?_) (fun H2 s2 hL => ?_)
    · obtain ⟨T, x1, y1, rfl, hT, rfl, e1, e2⟩ := y
      obtain ⟨rfl, hil⟩ := range_is hi
      have hfa : fa[n]? = some fa[n] := List.getElem?_eq_getElem (by omega)
      have hff : cs.fates[n]? = some cs.fates[n] := List.getElem?_eq_getElem hil
      obtain rfl : y1 = .ref fa[n] := map_un (f := V.ref) hfa e2
      cases e1
      obtain ⟨q, g1, g2⟩ := f3 n _ _ hfa hff
      have g1' := same_new (o := HO.tup [.int (n : Nat), .ref fa[n]]) hT _ _ (s2 _ _ g1)
      refine ⟨T, _, rfl, SqT.of upd_same, rfl, _, _, rfl, _, _, rfl, rfl, rfl, ?_⟩
      refine ⟨_, rfl, fa[n], _, 0, .str (yesS cs.fates[n].yes), rfl, rfl, SqT.of g1', rfl, rfl, _, rfl, ?_⟩
      have ey : yesAt cs.fates n = cs.fates[n].yes := by unfold yesAt; rw [hff]
      rw [dec_strV]
      cases hy : cs.fates[n].yes with
      | true =>
        rw [hy] at ey
        exact ifT (by decide) ⟨_, rfl, (n : Int), 1, rfl, rfl, k1 ey _ (same_new hT)⟩
      | false =>
        rw [hy] at ey
        exact ifF (by decide) (k2 ey _ (same_new hT))
    refine ⟨D, _, rfl, .inl ⟨SqL.of hL, fun p hp => k p _ (Same.new s2 hp) ?_⟩⟩
    rw [upd_same, in_map]
    rfl
theorem h_refused_now (C : Ctx K mg) : ∃ fd, Has P w K mg base 1 (He.fAd K ("Course", some "refused_now")) ["self"] (spAcc K refusedM) fd := by
  refine has_of C.fn_course_refused_now sc_course_refused_now (fun vs H Q E h => ?_) (fun cdv A outer s H vs Q E hr h => ?_)
  · obtain ⟨P, N, cs, rfl, _⟩ := h
    rfl
  · obtain ⟨P, N, cs, rfl, ⟨dx, af, aco, c1, ⟨fa, f1, f2, f3⟩, c3⟩, hl, k⟩ := h
    have nd := sc_course_refused_now.nd
    refine ⟨_, (pss_one (ps_ret (pe_callTy call_tuple_of (by rfl) C.f_tuple boot_tuple (pa_cons (pe_lc (own := [("at", 1), ("fate", 2)]) (g := gTup K 2 (gCons (gName 1) (gCons (gName 2) gNil))) rfl nd (pi_enumT (by rfl) C.f_enumerate (pa_cons (pe_fld (pv 0) rfl) pa_nil)) (blkOk_by (N := N_course_refused_now) (sc := defScope s_course_refused_now) (by decide +kernel)) (fun _ _ _ _ _ => (pg_tup rfl (pgs_cons (pg_name (i := 1) nd rfl (Or.inl rfl)) (pgs_cons (pg_name (i := 2) nd rfl (Or.inl rfl)) pgs_nil))))
      (fun _ _ _ _ _ => pts_one (pt_cmpR op_eq (pe_ix (ix_tupK K) (pv 2) pe_int (fun _ _ => rfl)) pe_str (nomark _))) (fun _ _ _ _ _ => pe_add (pv 1) pe_int)) pa_nil)))), ?_⟩
    refine ⟨_, rfl, P.c, _, dx, _, _, rfl, c1, C.cls_Course, C.no_Course_fates, rfl, af, _, rfl, SqT.of f1, fun D hD => ?_⟩
    refine lc_p walk_enumT (List.range cs.fates.length) (by rw [List.length_map, range_len, f2]) (by rw [range_len]; exact small (by omega)) (fun i => !yesAt cs.fates i) (fun i => .int ((i : Int) + 1)) hD (fun H2 s2 => SqT.of (s2 _ _ f1)) (fun i n x H2 H3 Qy Qn hi s2 y k1 k2 => ?_) (fun H2 s2 hL => ?_)
    · obtain ⟨T, x1, y1, rfl, hT, rfl, e1, e2⟩ := y
      obtain ⟨rfl, hil⟩ := range_is hi
      have hfa : fa[n]? = some fa[n] := List.getElem?_eq_getElem (by omega)
      have hff : cs.fates[n]? = some cs.fates[n] := List.getElem?_eq_getElem hil
      obtain rfl : y1 = .ref fa[n] := map_un (f := V.ref) hfa e2
      cases e1
      obtain ⟨q, g1, g2⟩ := f3 n _ _ hfa hff
      have g1' := same_new (o := HO.tup [.int (n : Nat), .ref fa[n]]) hT _ _ (s2 _ _ g1)
      refine ⟨T, _, rfl, SqT.of upd_same, rfl, _, _, rfl, _, _, rfl, rfl, rfl, ?_⟩
      refine ⟨_, rfl, fa[n], _, 0, .str (yesS cs.fates[n].yes), rfl, rfl, SqT.of g1', rfl, rfl, _, rfl, ?_⟩
      have ey : yesAt cs.fates n = cs.fates[n].yes := by unfold yesAt; rw [hff]
      rw [dec_strV]
      cases hy : cs.fates[n].yes with
      | true =>
        rw [hy] at ey
        exact ifF (by decide) (k2 (by rw [ey]; rfl) _ (same_new hT))
      | false =>
        rw [hy] at ey
        exact ifT (by decide) ⟨_, rfl, (n : Int), 1, rfl, rfl, k1 (by rw [ey]; rfl) _ (same_new hT)⟩
    refine ⟨D, _, rfl, .inl ⟨SqL.of hL, fun p hp => k p _ (Same.new s2 hp) ?_⟩⟩
    rw [upd_same, in_map]
    rfl
end
end Hp
set_option Elab.async false
set_option linter.all false
set_option maxRecDepth 100000
set_option maxHeartbeats 4000000
namespace Hp
open PySem PySem.Spec PyProof.Rows L2
theorem stp {c : Addr} {o : HO} {H2 : L2.Hp} {R : L2.Hp → Prop} (h : ∀ H3, Kp c H2 H3 → H3 c = some o → R H3) : R (upd H2 c o) := h _ (Kp.put Kp.refl) upd_same
theorem nw {p : Addr} {o : HO} {H2 : L2.Hp} {R : L2.Hp → Prop} (hp : H2 p = none) (h : ∀ H3, Same H2 H3 → H3 p = some o → R H3) : R (upd H2 p o) := h _ (same_new hp) upd_same
theorem Kp.none {c m : Addr} {H H1 : L2.Hp} (k : Kp c H H1) (h : H1 m = none) (n : m ≠ c) : H m = none := by
  cases e : H m with
  | none => rfl
  | some o => rw [k _ _ e n] at h; cases h
def initC (B : IB) : CS := ⟨initS, 0, [], [], [⟨0, 0, []⟩], 0, false, [viewM B initS], [], [], []⟩
theorem initS_ok {N : Nm} {M : Nat} (hN : N.Ok) (h : M ≤ 10000) : initS.Ok N M := ⟨hN.v1, fun i hi => absurd hi (by simp [initS]), fun i hi => absurd hi (by simp [initS]), Nat.zero_le _, Nat.zero_le _, Nat.zero_le _, h⟩
theorem initC_ok {N : Nm} {B : IB} {M : Nat} (hN : N.Ok) (hB : B.Ok N) (h1 : 1 ≤ M) (h : M ≤ 10000) : (initC B).Ok N M where
  s := initS_ok hN h
  v := hN.v1
  f := fun f hf => absurd hf (by simp [initC])
  fk := Nat.le_refl _
  cl := Nat.zero_le _
  m := fun m hm => by
    obtain rfl : m = ⟨0, 0, []⟩ := by simpa [initC] using hm
    exact ⟨hN.v1, Nat.zero_le _⟩
  ml := h1
  sv := fun v hv => by
    obtain rfl : v = viewM B initS := by simpa [initC] using hv
    exact viewM_lt hB (initS_ok hN h)
  s0 := by simp [initC]
  sl := h1
  dl := Nat.zero_le _
  fl := rfl
  gn := List.nodup_nil
  gs := fun g hg => absurd hg (by simp [initC])
section
variable {P : Program} {w : World} {K : PySem.W.Frag} {mg : Str → Option Value} {base : Heap}
def spCourseInit (K : PySem.W.Frag) : Sp := fun vs H Q _ => ∃ (c dxc b pg : Addr) (N : Nm) (B : IB), vs = [.ref c, .ref b, .ref pg, .ref (He.ga K "MARKS")] ∧ H c = some (.ins (He.ga K "Course") dxc []) ∧ BookAt K H b N B ∧ N.Ok ∧ B.Ok N ∧
  ∀ (P : Pl) H', P.c = c → P.b = b → P.pg = pg → P.Ne → (∀ m ∈ P.ms, m ≠ c → H m = none) → Kp c H H' → CourseAt K H' P N (initC B) → Q .non H'
theorem h_course_init (C : Ctx K mg) : ∃ fd, Has P w K mg base 6 (He.fAd K ("Course", some "__init__")) ["self", "book", "page", "marks"] (spCourseInit K) fd := by
  obtain ⟨fdS, GS⟩ := h_sheet_init (P := P) (w := w) (base := base) C
  obtain ⟨fdV, GV⟩ := h_view (P := P) (w := w) (base := base) C
  refine has_of C.fn_course_init sc_course_init (fun vs H Q E h => ?_) (fun cdv A outer s H vs Q E hr h => ?_)
  · obtain ⟨c, dxc, b, pg, N, B, rfl, _⟩ := h
    rfl
  · obtain ⟨c, dx, b, pg, N, B, rfl, hc, hb, hN, hB, k⟩ := h
    have hr2 : Room 2 _ := hr.mono (by decide)
    have z0 : ([] : List V).length ≤ sizeLine := Nat.zero_le _
    have z1 : 1 ≤ sizeLine := by decide
    have z3 : 3 ≤ sizeLine := by decide
    refine ⟨_, (pss_cons (ps_fld (pv 0) (pv 1) rfl) (pss_cons (ps_fld (pv 0) (pv 3) rfl) (pss_cons (ps_fld (pv 0) (pe_make C.mk_Sheet GS.ok hr2 (by rfl) C.g_Sheet GS.b .nil pass0 (pa_cons (pv 1) (pa_cons (pv 2) pa_nil))) rfl) (pss_cons (ps_fld (pv 0) (pe_ix ix_tup (pe_fld (pv 1) rfl) pe_int (fun _ _ => rfl)) rfl) (pss_cons (ps_fld (pv 0) (pe_tup pa_nil) rfl) (pss_cons (ps_fld (pv 0) (pe_tup pa_nil) rfl) (pss_cons (ps_fld (pv 0) (pe_lst (pa_cons (pe_tup (pa_cons (pe_fld (pv 0) rfl) (pa_cons pe_int (pa_cons (pe_tup pa_nil) pa_nil)))) pa_nil)) rfl) (pss_cons (ps_fld (pv 0) pe_int rfl) (pss_cons (ps_fld (pv 0) pe_bl rfl) (pss_cons (ps_fld (pv 0) (pe_lst (pa_cons (pe_meth0 (pe_fld (pv 0) rfl) C.cls_Sheet C.me_Sheet_view GV.ok (hr.mono (by decide)) GV.b .nil pass0) pa_nil)) rfl) (pss_cons (ps_fld (pv 0) (pe_lst pa_nil) rfl) (pss_cons (ps_fld (pv 0) (pe_lst pa_nil) rfl) (pss_one (ps_fld (pv 0) pe_dnewK rfl)))))))))))))), ?_⟩
    refine ⟨_, rfl, _, rfl, c, _, dx, _, rfl, hc, C.cls_Course, C.no_Course_book, (by show 0 < 1000; decide), stp fun H1 k1 c1 => ?_⟩
    refine ⟨_, rfl, _, rfl, c, _, dx, _, rfl, c1, C.cls_Course, C.no_Course_marks, (by show 1 < 1000; decide), stp fun H2 k2 c2 => ?_⟩
    have kk2 := k1.trans k2
    -- the book is kept where c alone is written
    have bk : ∀ {H'}, Kp c H H' → BookAt K H' b N B := fun {H'} kp => by
      obtain ⟨dxb, ac, ak, ad, al, ao, ta, b1, b2, b3, b4, b5, b6, b7⟩ := hb.ex
      obtain ⟨oz, bz, bo⟩ := id b2
      have nb : b ≠ c := fun e => by
        rw [e, hc] at b1
        have q := Option.some.inj b1
        injection q with q1 q2 q3
        cases q3
      exact ⟨dxb, ac, ak, ad, al, ao, ta, kp _ _ b1 nb, ⟨oz, kp _ _ bz (ne_of bz hc (by intro q; cases q)), bo⟩, kp _ _ b3 (ne_of b3 hc (by intro q; cases q)), kp _ _ b4 (ne_of b4 hc (by intro q; cases q)), fun i hi => kp _ _ (b5 i hi) (ne_of (b5 i hi) hc (by intro q; cases q)), kp _ _ b6 (ne_of b6 hc (by intro q; cases q)), kp _ _ b7 (ne_of b7 hc (by intro q; cases q))⟩
    refine ⟨_, rfl, _, rfl, fun a dxs ha hdx hne => ?_⟩
    have nac : a ≠ c := fun e => by rw [e, c2] at ha; cases ha
    have ndc : dxs ≠ c := fun e => by rw [e, c2] at hdx; cases hdx
    have sm : Same H2 (upd (upd H2 dxs (.own a)) a (.ins (He.ga K "Sheet") dxs [])) := (same_new hdx).trans (same_new (by rw [upd_ne hne.symm]; exact ha))
    refine ⟨a, dxs, b, pg, N, B, rfl, upd_same, (bk kk2).mono sm, hN, fun H3 k3 hS => ⟨rfl, ?_⟩⟩
    have k23 : Kp c H2 H3 := fun q o e n => k3 _ _ (sm _ _ e) (fun e2 => by rw [e2, ha] at e; cases e)
    have c3 : H3 c = _ := k3 _ _ (sm _ _ c2) nac.symm
    have kk3 := kk2.trans k23
    refine ⟨_, rfl, c, _, dx, _, rfl, c3, C.cls_Course, C.no_Course_sheet, (by show 2 < 1000; decide), stp fun H4 k4 c4 => ?_⟩
    have kk4 := kk3.trans k4
    obtain ⟨dxb, ac, _, _, _, _, _, b1, b2, _⟩ := (bk kk4).ex
    obtain ⟨oz, bz, bo⟩ := id b2
    have at0 : atI (stL N.vs) 0 = some (.str (N.v 0)) := atI_nat (j := 0) (stL_at (map_at (range_at hN.v1)))
    refine ⟨_, rfl, b, _, dxb, _, _, rfl, b1, C.cls_Book, C.no_Book_choices, rfl, ac, _, 0, _, rfl, rfl, b2.seq, at0, ?_⟩
    refine ⟨_, rfl, c, _, dx, _, rfl, c4, C.cls_Course, C.no_Course_value, (by show 3 < 1000; decide), stp fun H5 k5 c5 => ?_⟩
    refine ⟨z0, fun f hf => ?_⟩
    have s6 := same_new (H := H5) (p := f) (o := HO.tup []) hf; have f6 : (upd H5 f (HO.tup [])) f = some (HO.tup []) := upd_same; generalize upd H5 f (HO.tup []) = H6 at s6 f6 ⊢
    refine ⟨_, rfl, c, _, dx, _, rfl, s6 _ _ c5, C.cls_Course, C.no_Course_fates, (by show 4 < 1000; decide), stp fun H7 k7 c7 => ?_⟩
    have nfc : f ≠ c := fun e => by rw [e, c5] at hf; cases hf
    refine ⟨z0, fun m hm => ?_⟩
    have s8 := same_new (H := H7) (p := m) (o := HO.tup []) hm; have m8 : (upd H7 m (HO.tup [])) m = some (HO.tup []) := upd_same; generalize upd H7 m (HO.tup []) = H8 at s8 m8 ⊢
    refine ⟨_, rfl, c, _, dx, _, rfl, s8 _ _ c7, C.cls_Course, C.no_Course_come, (by show 5 < 1000; decide), stp fun H9 k9 c9 => ?_⟩
    have nmc : m ≠ c := fun e => by rw [e, c7] at hm; cases hm
    -- moments
    refine ⟨_, rfl, c, _, dx, _, _, rfl, c9, C.cls_Course, C.no_Course_value, rfl, z0, fun q hq => ?_⟩
    have s10 := same_new (H := H9) (p := q) (o := HO.tup []) hq; have q10 : (upd H9 q (HO.tup [])) q = some (HO.tup []) := upd_same; generalize upd H9 q (HO.tup []) = H10 at s10 q10 ⊢
    refine ⟨z3, fun t ht => ?_⟩
    have s11 := same_new (H := H10) (p := t) (o := HO.tup [.str (N.v 0), .int 0, .ref q]) ht; have t11 : (upd H10 t (HO.tup [.str (N.v 0), .int 0, .ref q])) t = some (HO.tup [.str (N.v 0), .int 0, .ref q]) := upd_same; generalize upd H10 t (HO.tup [.str (N.v 0), .int 0, .ref q]) = H11 at s11 t11 ⊢
    refine ⟨z1, fun mo hmo => ?_⟩
    have s12 := same_new (H := H11) (p := mo) (o := HO.lst [.ref t]) hmo; have mo12 : (upd H11 mo (HO.lst [.ref t])) mo = some (HO.lst [.ref t]) := upd_same; generalize upd H11 mo (HO.lst [.ref t]) = H12 at s12 mo12 ⊢
    have c12 := s12 _ _ (s11 _ _ (s10 _ _ c9))
    have nqc : q ≠ c := fun e => by rw [e, c9] at hq; cases hq
    have ntc : t ≠ c := fun e => by rw [e, s10 _ _ c9] at ht; cases ht
    have nmoc : mo ≠ c := fun e => by rw [e, s11 _ _ (s10 _ _ c9)] at hmo; cases hmo
    refine ⟨_, rfl, c, _, dx, _, rfl, c12, C.cls_Course, C.no_Course_moments, (by show 6 < 1000; decide), stp fun H13 k13 c13 => ?_⟩
    refine ⟨_, rfl, c, _, dx, _, rfl, c13, C.cls_Course, C.no_Course_behind, (by show 7 < 1000; decide), stp fun H14 k14 c14 => ?_⟩
    refine ⟨_, rfl, c, _, dx, _, rfl, c14, C.cls_Course, C.no_Course_is_told, (by show 8 < 1000; decide), stp fun H15 k15 c15 => ?_⟩
    have kk5 := kk4.trans k5
    have kk7 := (kk5.trans (.of s6)).trans k7
    have kk9 := (kk7.trans (.of s8)).trans k9
    have k9_12 : Kp c H9 H12 := .of ((s10.trans s11).trans s12)
    have kk12 := kk9.trans k9_12
    have k12_15 := (k13.trans k14).trans k15
    have kk15 := kk12.trans k12_15
    have k3_15 : Kp c H3 H15 := ((((((k4.trans k5).trans (.of s6)).trans k7).trans (.of s8)).trans k9).trans k9_12).trans k12_15
    have hS15 : SheetAt K H15 a b pg N initS := by
      obtain ⟨d1, d2, d3, d4, e1, e2, e3, e4⟩ := hS
      exact ⟨d1, d2, d3, d4, k3_15 _ _ e1 nac, k3_15 _ _ e2 (ne_of e2 c3 (by intro q; cases q)), k3_15 _ _ e3 (ne_of e3 c3 (by intro q; cases q)), k3_15 _ _ e4 (ne_of e4 c3 (by intro q; cases q))⟩
    obtain ⟨da, d2, d3, d4, e1, e2, e3, e4⟩ := id hS15
    refine ⟨_, rfl, c, _, dx, _, _, rfl, c15, C.cls_Course, C.no_Course_sheet, rfl, a, da, _, rfl, e1, rfl, a, b, pg, N, B, 1, initS, rfl, hS15, bk kk15, hN, hB, initS_ok hN (by decide), fun H16 s16 => ⟨z1, fun sh hsh => ?_⟩⟩
    have s17 := same_new (H := H16) (p := sh) (o := HO.lst [.str (N.v (viewM B initS))]) hsh; have sh17 : (upd H16 sh (HO.lst [.str (N.v (viewM B initS))])) sh = some (HO.lst [.str (N.v (viewM B initS))]) := upd_same; generalize upd H16 sh (HO.lst [.str (N.v (viewM B initS))]) = H17 at s17 sh17 ⊢
    have c17 := s17 _ _ (s16 _ _ c15)
    have nshc : sh ≠ c := fun e => by rw [e, s16 _ _ c15] at hsh; cases hsh
    refine ⟨_, rfl, c, _, dx, _, rfl, c17, C.cls_Course, C.no_Course_shown, (by show 9 < 1000; decide), stp fun H18 k18 c18 => ?_⟩
    refine ⟨z0, fun dn hdn => ?_⟩
    have s19 := same_new (H := H18) (p := dn) (o := HO.lst []) hdn; have dn19 : (upd H18 dn (HO.lst [])) dn = some (HO.lst []) := upd_same; generalize upd H18 dn (HO.lst []) = H19 at s19 dn19 ⊢
    have ndnc : dn ≠ c := fun e => by rw [e, c18] at hdn; cases hdn
    refine ⟨_, rfl, c, _, dx, _, rfl, s19 _ _ c18, C.cls_Course, C.no_Course_done, (by show 10 < 1000; decide), stp fun H20 k20 c20 => ?_⟩
    refine ⟨z0, fun fl hfl => ?_⟩
    have s21 := same_new (H := H20) (p := fl) (o := HO.lst []) hfl; have fl21 : (upd H20 fl (HO.lst [])) fl = some (HO.lst []) := upd_same; generalize upd H20 fl (HO.lst []) = H21 at s21 fl21 ⊢
    have nflc : fl ≠ c := fun e => by rw [e, c20] at hfl; cases hfl
    have ndf : dn ≠ fl := ne_of_none (k20 _ _ dn19 ndnc) hfl
    refine ⟨_, rfl, c, _, dx, _, rfl, s21 _ _ c20, C.cls_Course, C.no_Course_flickers, (by show 11 < 1000; decide), stp fun H22 k22 c22 => ?_⟩
    refine fun ga hga => ?_
    have s23 := same_new (H := H22) (p := ga) (o := HO.dK []) hga; have ga23 : (upd H22 ga (HO.dK [])) ga = some (HO.dK []) := upd_same; generalize upd H22 ga (HO.dK []) = H23 at s23 ga23 ⊢
    have ngac : ga ≠ c := fun e => by rw [e, c22] at hga; cases hga
    refine ⟨_, rfl, c, _, dx, _, rfl, s23 _ _ c22, C.cls_Course, C.no_Course_gained, (by show 12 < 1000; decide), stp fun H24 k24 c24 => ?_⟩
    have p23 := k24
    have p22 := (Kp.of (p := c) s23).trans p23
    have p21 := k22.trans p22
    have p20 := (Kp.of (p := c) s21).trans p21
    have p19 := k20.trans p20
    have p18 := (Kp.of (p := c) s19).trans p19
    have p17 := k18.trans p18
    have p16 := (Kp.of (p := c) s17).trans p17
    have p15 := (Kp.of (p := c) s16).trans p16
    have p12 := k12_15.trans p15
    have p11 := (Kp.of (p := c) s12).trans p12
    have p10 := (Kp.of (p := c) s11).trans p11
    have p9 := (Kp.of (p := c) s10).trans p10
    have p8 := k9.trans p9
    have p7 := (Kp.of (p := c) s8).trans p8
    have p6 := k7.trans p7
    have kkE := kk15.trans p15
    have kk16 := kk15.trans (.of s16)
    have kk18 := (kk16.trans (.of s17)).trans k18
    have kk20 := (kk18.trans (.of s19)).trans k20
    have kk22 := (kk20.trans (.of s21)).trans k22
    have kk11 := kk9.trans (.of (s10.trans s11))
    have E1 := p15 _ _ e1 nac
    have Emo := p12 _ _ mo12 nmoc
    have Esh := p17 _ _ sh17 nshc
    have Edn := p19 _ _ dn19 ndnc
    have Efl := p21 _ _ fl21 nflc
    have Ega := p23 _ _ ga23 ngac
    have nm : mo ≠ sh := fun e => by
      rw [e, Esh] at Emo
      have q := Option.some.inj Emo
      injection q with q1
      cases q1
    refine k ⟨c, a, mo, sh, dn, fl, ga, b, pg⟩ H24 rfl rfl rfl ⟨nac.symm, nmoc.symm, nshc.symm, ndnc.symm, nflc.symm, ngac.symm, ne_of E1 Emo (by intro q; cases q), ne_of E1 Esh (by intro q; cases q), ne_of E1 Edn (by intro q; cases q), ne_of E1 Efl (by intro q; cases q), ne_of E1 Ega (by intro q; cases q), nm, ne_of Emo Edn (by intro q; cases q), ne_of Emo Efl (by intro q; cases q), ne_of Emo Ega (by intro q; cases q), ne_of Esh Edn (by intro q; cases q), ne_of Esh Efl (by intro q; cases q), ne_of Esh Ega (by intro q; cases q), ndf, ne_of Edn Ega (by intro q; cases q), ne_of Efl Ega (by intro q; cases q)⟩ (fun x hx nx => ?_) kkE ⟨⟨dx, f, m, c24, ⟨[], p6 _ _ f6 nfc, rfl, fun i p f e1 e2 => by cases e1⟩, p8 _ _ m8 nmc⟩, ⟨da, d2, d3, d4, E1, p15 _ _ e2 (ne_of e2 c15 (by intro q; cases q)), p15 _ _ e3 (ne_of e3 c15 (by intro q; cases q)), p15 _ _ e4 (ne_of e4 c15 (by intro q; cases q))⟩, ⟨[t], Emo, rfl, fun i p mm e1 e2 => ?_⟩, Esh, Edn, Efl, Ega⟩
    · have hx' : x = c ∨ x = a ∨ x = mo ∨ x = sh ∨ x = dn ∨ x = fl ∨ x = ga := by simpa [Pl.ms] using hx
      rcases hx' with rfl | rfl | rfl | rfl | rfl | rfl | rfl
      · exact absurd rfl nx
      · exact kk2.none ha nx
      · exact kk11.none hmo nx
      · exact kk16.none hsh nx
      · exact kk18.none hdn nx
      · exact kk20.none hfl nx
      · exact kk22.none hga nx
    · cases i with
      | zero =>
        cases e1
        cases e2
        exact ⟨q, p11 _ _ t11 ntc, p10 _ _ q10 nqc⟩
      | succ i => cases e1
end
end Hp
set_option Elab.async false
set_option linter.all false
set_option maxRecDepth 100000
set_option maxHeartbeats 4000000
namespace Hp
open PySem PySem.Spec PyProof.Rows L2
structure Sk where
  kinds : List Nat
  nf : Nat
  come : List Nat
  nm : Nat
def CS.sk (cs : CS) : Sk := ⟨cs.S.kinds, cs.fates.length, cs.come, cs.moms.length⟩
def feas (N : Nm) (B : IB) (s : Sk) : Ev → Prop
  | .click i => i < N.nk
  | .other i => i < N.nk ∧ B.others i = true
  | .serve => s.nf < s.kinds.length
  | .refuse => ∃ i, s.kinds[s.nf]? = some i ∧ B.loose i = true
  | .answer n => 1 ≤ n ∧ n ≤ s.nf ∧ n ∉ s.come ∧ n ≤ 30
  | .list m => m < s.nm ∧ m ≤ 30
theorem feas.in_ {N : Nm} {B : IB} {s : Sk} {e : Ev} (h : feas N B s e) : e.In N := by
  cases e with
  | click i => exact h
  | other i => exact h.1
  | serve => exact True.intro
  | refuse => exact True.intro
  | answer n => exact ⟨h.1, h.2.2.2⟩
  | list m => exact h.2
theorem someK_mem {N : Nm} {p : Nat → Bool} {i : Nat} (hi : i < N.nk) (h : p i = true) : N.k i ∈ someK N p := List.mem_map.mpr ⟨i, List.mem_filter.mpr ⟨List.mem_range.mpr hi, h⟩, rfl⟩
theorem slF {K : PySem.W.Frag} {σ : L2.St} {H : L2.Hp} {a : Addr} {xs : List V} {lo : Option Int} {Q : VK} (hx : H a = some (.tup xs)) (h : ∀ p H', Same H H' → H' p = some (.tup (cutV xs lo none)) → Q (.ref p) H') : tNoPart σ H (fun u H3 => rSlA K (.ref a) lo u H3 Q) := slA hx h
section
variable {P : Program} {w : World} {K : PySem.W.Frag} {mg : Str → Option Value} {base : Heap}
def spPoss (K : PySem.W.Frag) : Sp := fun vs H Q _ => ∃ (F : L2.Hp) (P : Pl) (N : Nm) (B : IB) (rows : List RowD) (M : Nat) (cs : CS) (e : Ev), vs = [.ref P.c, .str e.word, e.thing N] ∧ St K F P N B rows M H cs ∧ feas N B cs.sk e ∧ ∀ H', Same H H' → Q (.bl true) H'
theorem h_is_possible (C : Ctx K mg) : ∃ fd, Has P w K mg base 1 (He.fAd K ("Course", some "is_possible")) ["self", "word", "thing"] (spPoss K) fd := by
  refine has_of C.fn_course_is_possible sc_course_is_possible (fun vs H Q E h => ?_) (fun cdv A outer s H vs Q E hr h => ?_)
  · obtain ⟨F, P, N, B, rows, M, cs, e, rfl, _⟩ := h
    rfl
  · obtain ⟨F, P, N, B, rows, M, cs, e, rfl, hst, hf, k⟩ := h
    have nd := sc_course_is_possible.nd
    have hs := hst.s
    obtain ⟨dx, af, aco, c1, ⟨fa, f1, f2, f3⟩, c3⟩ := hst.c.co
    obtain ⟨dxs, ak, ac, ao, s1, s2, s3, s4⟩ := hst.c.st
    obtain ⟨dxb, bc, bk, bd, bl, bo, bt, b1, b2, b3, b4, b5, b6, b7⟩ := (hst.r.b.mono hs).ex
    obtain ⟨ma, m1, m2, m3⟩ := hst.c.mo
    have oS := hst.o.s
    have ofk := hst.o.fk
    refine ⟨_, (pss_cons (ps_set (i := 3) nd rfl (Or.inl rfl) (pe_slice sl_tupA (pe_fld (pe_fld (pv 0) rfl) rfl) (po_some (pe_callB call_len (by rfl) C.f_len boot_len (pa_cons (pe_fld (pv 0) rfl) pa_nil))) po_none)) (pss_one (ps_match (pv 1) (pms_cons (pss_one (ps_ret (pe_cmpR op_in_seq (pv 2) (pe_fld (pe_fld (pv 0) rfl) rfl) (by rfl)))) (pms_cons (pss_one (ps_ret (pe_cmpR op_in_seq (pv 2) (pe_fld (pe_fld (pv 0) rfl) rfl) (by rfl)))) (pms_cons (pss_one (ps_ret (pe_cmpR op_gt (pe_callB call_len (by rfl) C.f_len boot_len (pa_cons (pv 3) pa_nil)) pe_int (nomark _))))
        (pms_cons (pss_one (ps_ret (pe_and (pe_cmpR op_gt (pe_callB call_len (by rfl) C.f_len boot_len (pa_cons (pv 3) pa_nil)) pe_int (nomark _)) (pe_one (pe_cmpR op_in_seq (pe_ix ix_tup (pv 3) pe_int (fun _ _ => rfl)) (pe_fld (pe_fld (pv 0) rfl) rfl) (by rfl))))))
        (pms_cons (pss_one (ps_ret (pe_and (pe_chain op_le op_le pe_int (pv 2) (pe_callB call_len (by rfl) C.f_len boot_len (pa_cons (pe_fld (pv 0) rfl) pa_nil))) (pe_one (pe_cmpR op_notIn_seq (pv 2) (pe_fld (pv 0) rfl) (by rfl)))))) (pms_any (pss_one (ps_ret (pe_cmpR op_lt (pv 2) (pe_callB call_len (by rfl) C.f_len boot_len (pa_cons (pe_fld (pv 0) rfl) pa_nil)) (nomark _))))))))))))), ?_⟩
    refine ⟨_, rfl, P.c, _, dx, _, _, rfl, c1, C.cls_Course, C.no_Course_sheet, rfl, P.a, _, dxs, _, _, rfl, s1, C.cls_Sheet, C.no_Sheet_kinds, rfl, ?_⟩
    refine ⟨_, rfl, P.c, _, dx, _, _, rfl, c1, C.cls_Course, C.no_Course_fates, rfl, _, cs.fates.length, rfl, .inr ⟨_, SqT.of f1, (by rw [List.length_map, f2])⟩, _, rfl, ?_⟩
    refine slF (K := K) s2 fun p H1 t1 hp => ?_
    rw [cutV_from _ _ (by rw [stL_len, List.length_map]; exact ofk)] at hp
    have hpl : ((stL (cs.S.kinds.map N.k)).drop cs.fates.length).length = cs.S.kinds.length - cs.fates.length := by rw [List.length_drop, stL_len, List.length_map]
    refine ⟨_, rfl, _, rfl, ?_⟩
    cases e with
    | click i =>
      refine tCase_y ⟨_, rfl, _, rfl, P.c, _, dx, _, _, rfl, t1 _ _ c1, C.cls_Course, C.no_Course_book, rfl, P.b, _, dxb, _, _, rfl, t1 _ _ b1, C.cls_Book, C.no_Book_kinds, rfl, bk, _, rfl, .inr (SqT.of (t1 _ _ b3)), rfl, flat_strs _, ?_⟩
      show Q (.bl (inV (.str (N.k i)) (N.ks.map V.str))) H1
      have hm : N.k i ∈ N.ks := List.mem_map.mpr ⟨i, List.mem_range.mpr hf, rfl⟩
      rw [inV_strs, decide_eq_true hm]
      exact k _ t1
    | other i =>
      refine tCase_n (z := "other") (by decide) (tCase_y ⟨_, rfl, _, rfl, P.c, _, dx, _, _, rfl, t1 _ _ c1, C.cls_Course, C.no_Course_book, rfl, P.b, _, dxb, _, _, rfl, t1 _ _ b1, C.cls_Book, C.no_Book_others, rfl, bo, _, rfl, .inr (SqT.of (t1 _ _ b7)), rfl, flat_strs _, ?_⟩)
      show Q (.bl (inV (.str (N.k i)) ((someK N B.others).map V.str))) H1
      rw [inV_strs, decide_eq_true (someK_mem hf.1 hf.2)]
      exact k _ t1
    | serve =>
      refine tCase_n (z := "serve") (by decide) (tCase_n (z := "serve") (by decide) (tCase_y ⟨_, rfl, _, _, rfl, .inr ⟨_, SqT.of hp, rfl⟩, _, _, rfl, rfl, ?_⟩))
      have hf' : cs.fates.length < cs.S.kinds.length := hf
      show Q (.bl (decide ((0 : Int) < (((stL (cs.S.kinds.map N.k)).drop cs.fates.length).length : Nat)))) H1
      rw [hpl, decide_eq_true (by omega)]
      exact k _ t1
    | refuse =>
      obtain ⟨i, hi, hl⟩ := hf
      have hil : cs.fates.length < cs.S.kinds.length := (List.getElem?_eq_some_iff.mp hi).1
      have hik : i < N.nk := oS.k _ (List.mem_of_getElem? hi)
      refine tCase_n (z := "refuse") (by decide) (tCase_n (z := "refuse") (by decide) (tCase_n (z := "refuse") (by decide) (tCase_y ⟨_, rfl, _, _, rfl, .inr ⟨_, SqT.of hp, rfl⟩, _, _, rfl, rfl, _, rfl, ?_⟩)))
      have hat : ((stL (cs.S.kinds.map N.k)).drop cs.fates.length)[0]? = some (.str (N.k i)) := by
        rw [List.getElem?_drop]
        exact stL_at (map_at hi)
      have hat2 : atI ((stL (cs.S.kinds.map N.k)).drop cs.fates.length) 0 = some (.str (N.k i)) := atI_nat (j := 0) hat
      refine ifT (decide_eq_true (by rw [hpl]; omega)) ⟨_, rfl, p, _, 0, _, rfl, rfl, SqT.of hp, hat2, _, rfl, P.c, _, dx, _, _, rfl, t1 _ _ c1, C.cls_Course, C.no_Course_book, rfl, P.b, _, dxb, _, _, rfl, t1 _ _ b1, C.cls_Book, C.no_Book_loose, rfl, bl, _, rfl, .inr (SqT.of (t1 _ _ b6)), rfl, flat_strs _, ?_⟩
      show Q (.bl (inV (.str (N.k i)) ((someK N B.loose).map V.str))) H1
      rw [inV_strs, decide_eq_true (someK_mem hik hl)]
      exact k _ t1
    | answer n =>
      obtain ⟨n1, n2, n3, n4⟩ := hf
      have n2' : n ≤ cs.fates.length := n2
      refine tCase_n (z := "answer") (by decide) (tCase_n (z := "answer") (by decide) (tCase_n (z := "answer") (by decide) (tCase_n (z := "answer") (by decide) (tCase_y ⟨_, rfl, _, _, rfl, rfl, _, rfl, ?_⟩))))
      refine ifT (decide_eq_true (by show (1 : Int) ≤ (n : Nat); omega)) ⟨_, rfl, P.c, _, dx, _, _, rfl, t1 _ _ c1, C.cls_Course, C.no_Course_fates, rfl, _, cs.fates.length, rfl, .inr ⟨_, SqT.of (t1 _ _ f1), (by rw [List.length_map, f2])⟩, _, _, rfl, rfl, _, rfl, ?_⟩
      refine ifT (decide_eq_true (by omega)) ⟨_, rfl, _, rfl, P.c, _, dx, _, _, rfl, t1 _ _ c1, C.cls_Course, C.no_Course_come, rfl, aco, _, rfl, .inr (SqT.of (t1 _ _ c3)), rfl, flat_inL _, ?_⟩
      show Q (.bl (!inV (.int (n : Nat)) (inL cs.come))) H1
      rw [inV_nat, decide_eq_false (show n ∉ cs.come from n3)]
      exact k _ t1
    | list m =>
      have hm : m < cs.moms.length := hf.1
      refine tCase_n (z := "list") (by decide) (tCase_n (z := "list") (by decide) (tCase_n (z := "list") (by decide) (tCase_n (z := "list") (by decide) (tCase_n (z := "list") (by decide) ⟨_, rfl, _, rfl, P.c, _, dx, _, _, rfl, t1 _ _ c1, C.cls_Course, C.no_Course_moments, rfl, _, cs.moms.length, rfl, .inl ⟨_, SqL.of (t1 _ _ m1), (by rw [List.length_map, m2])⟩, _, _, rfl, rfl, ?_⟩))))
      show Q (.bl (decide ((m : Int) < (cs.moms.length : Nat)))) H1
      rw [decide_eq_true (by omega)]
      exact k _ t1
/-! fates -/
def accOf (cs : CS) (later : Option Nat) : List Nat := acceptedM cs.fates ++ (if later.isSome then [cs.fates.length + 1] else [])
def decideM (cs : CS) (later : Option Nat) : CS := { cs with value := later.getD cs.value, fates := cs.fates ++ [⟨later.isSome, later.getD cs.value, accOf cs later⟩], come := cs.come, behind := cs.behind, told := cs.told }
theorem fates_add {H H' : L2.Hp} {p q r : Addr} {N : Nm} {fs : List Fate} {f : Fate} {fa : List Addr} (g2 : fa.length = fs.length) (g3 : ∀ (i : Nat) (p : Addr) (f : Fate), fa[i]? = some p → fs[i]? = some f → FateAt H p N f) (t : TK H H')
    (h1 : H' r = some (.tup (fa.map V.ref ++ [.ref p]))) (h2 : H' p = some (.tup [.str (yesS f.yes), .str (N.v f.value), .ref q])) (h3 : H' q = some (.tup (inL f.acc))) : FatesAt H' r N (fs ++ [f]) := by
  refine ⟨fa ++ [p], (by rw [h1, List.map_append]; rfl), (by rw [List.length_append, List.length_append, g2]; rfl), fun i p' f' e1 e2 => ?_⟩
  by_cases hi : i < fs.length
  · rw [List.getElem?_append_left (by omega)] at e1
    rw [List.getElem?_append_left hi] at e2
    exact (g3 i p' f' e1 e2).kept t
  · have hl := (List.getElem?_eq_some_iff.mp e2).1
    rw [List.length_append] at hl
    have hl' : i < fs.length + 1 := hl
    obtain rfl : i = fs.length := by omega
    rw [List.getElem?_append_right (by omega), g2, Nat.sub_self] at e1
    rw [List.getElem?_append_right (Nat.le_refl _), Nat.sub_self] at e2
    cases e1
    cases e2
    exact ⟨q, h2, h3⟩
def spDecide (K : PySem.W.Frag) : Sp := fun vs H Q _ => ∃ (F : L2.Hp) (P : Pl) (N : Nm) (B : IB) (rows : List RowD) (M : Nat) (cs : CS) (later : Option Nat), vs = [.ref P.c, optS N.v later] ∧ St K F P N B rows M H cs ∧ ∀ H', Gr P.ms H H' → CourseAt K H' P N (decideM cs later) → Q .non H'
theorem h_decide (C : Ctx K mg) : ∃ fd, Has P w K mg base 2 (He.fAd K ("Course", some "decide")) ["self", "later"] (spDecide K) fd := by
  obtain ⟨fdA, GA⟩ := h_accepted_now (P := P) (w := w) (base := base) C
  refine has_of C.fn_course_decide sc_course_decide (fun vs H Q E h => ?_) (fun cdv A outer s H vs Q E hr h => ?_)
  · obtain ⟨F, P, N, B, rows, M, cs, later, rfl, _⟩ := h
    rfl
  · obtain ⟨F, P, N, B, rows, M, cs, later, rfl, hst, k⟩ := h
    have nd := sc_course_decide.nd
    obtain ⟨dx, af, aco, c1, hF, c3⟩ := hst.c.co
    have hfl : cs.fates.length ≤ 5000 := Nat.le_trans hst.o.fk (Nat.le_trans hst.o.s.kl hst.l)
    have hal := acc_len cs.fates
    have z3 : 3 ≤ sizeLine := by decide
    refine ⟨_, (pss_cons (ps_if (pt_cmpR op_notN (pv 1) pe_non (nomark _)) (pss_one (ps_fld (pv 0) (pv 1) rfl)) pss_nil) (pss_cons (ps_par (i := 2) (j := 3) rfl nd rfl rfl (by decide) rfl rfl (pa_cons (pe_ifExp (pt_cmpR op_isN (pv 1) pe_non (nomark _)) pe_str pe_str) (pa_cons (pe_meth0 (pv 0) C.cls_Course C.me_Course_accepted_now GA.ok (hr.mono (by decide)) GA.b .nil pass0) pa_nil)) rfl) (pss_cons (ps_if (pt_cmpR op_notN (pv 1) pe_non (nomark _)) (pss_one (ps_set (i := 3) nd rfl (Or.inl rfl) (pe_tup (StX.pa_star (pv 3) (pa_cons (pe_add (pe_callB call_len (by rfl) C.f_len boot_len (pa_cons (pe_fld (pv 0) rfl) pa_nil)) pe_int) pa_nil))))) pss_nil) (pss_one (ps_fld (pv 0) (pe_tup (StX.pa_star (pe_fld (pv 0) rfl) (pa_cons (pe_tup (pa_cons (pv 2) (pa_cons (pe_fld (pv 0) rfl) (pa_cons (pv 3) pa_nil)))) pa_nil))) rfl))))), ?_⟩
    -- the end: fates grow by one
    have fin : ∀ (H3 : L2.Hp) (q t r : Addr) (H4 H5 : L2.Hp), Kp P.c H H3 → H3 P.c = some (.ins (He.ga K "Course") dx (coF K P af aco (.str (N.v (later.getD cs.value))) (.int (cs.behind : Nat)) (.bl cs.told))) → H3 q = some (.tup (inL (accOf cs later))) →
        Same H3 H4 → H4 t = some (.tup [.str (yesS later.isSome), .str (N.v (later.getD cs.value)), .ref q]) → Same H4 H5 → (∀ fa : List Addr, H af = some (.tup (fa.map V.ref)) → H5 r = some (.tup (fa.map V.ref ++ [.ref t]))) → Q .non (upd H5 P.c (.ins (He.ga K "Course") dx (coF K P r aco (.str (N.v (later.getD cs.value))) (.int (cs.behind : Nat)) (.bl cs.told)))) := by
      intro H3 q t r H4 H5 k3 c3' q3 s4 t4 s5 r5
      obtain ⟨fa, g1, g2, g3⟩ := hF
      have k5 := (k3.trans (.of (s4.trans s5))).put (o := .ins (He.ga K "Course") dx (coF K P r aco (.str (N.v (later.getD cs.value))) (.int (cs.behind : Nat)) (.bl cs.told)))
      have tk := (hst.c.keep (by simp [Pl.ms]) k5).1
      have c5 := s5 _ _ (s4 _ _ c3')
      have up : ∀ {x : Addr} {xs : List V}, H5 x = some (.tup xs) → (upd H5 P.c (.ins (He.ga K "Course") dx (coF K P r aco (.str (N.v (later.getD cs.value))) (.int (cs.behind : Nat)) (.bl cs.told)))) x = some (.tup xs) := fun {x xs} e => by
        rw [upd_ne (ne_of e c5 (by intro q; cases q))]
        exact e
      refine k _ (Gr.kp k5 (by simp [Pl.ms])) (hst.c.at_c hst.d k5 ⟨dx, r, aco, upd_same, ?_, tk _ _ c3⟩)
      exact fates_add g2 g3 tk (up (r5 fa g1)) (up (s5 _ _ t4)) (up (s5 _ _ (s4 _ _ q3)))
    cases later with
    | none =>
      refine ⟨_, rfl, rfl, _, rfl, ifF rfl ?_⟩
      refine ⟨_, rfl, rfl, _, rfl, ifT rfl ⟨_, rfl, P.c, dx, _, rfl, c1, rfl, P, N, cs, rfl, ⟨dx, af, aco, c1, hF, c3⟩, by omega, fun q H1 s1 hq => ⟨_, _, rfl, ?_⟩⟩⟩
      refine ⟨_, rfl, rfl, _, rfl, ifF rfl ?_⟩
      obtain ⟨fa, g1, g2, g3⟩ := id hF
      refine ⟨_, rfl, P.c, _, dx, _, _, rfl, s1 _ _ c1, C.cls_Course, C.no_Course_fates, rfl, af, _, rfl, .inl (SqT.of (s1 _ _ g1)), _, rfl, _, rfl, P.c, _, dx, _, _, rfl, s1 _ _ c1, C.cls_Course, C.no_Course_value, rfl, _, rfl, z3, fun t ht => ?_⟩
      have s2 := same_new (H := H1) (p := t) (o := HO.tup [.str "no", .str (N.v cs.value), .ref q]) ht; have t2 : (upd H1 t (HO.tup [.str "no", .str (N.v cs.value), .ref q])) t = some (HO.tup [.str "no", .str (N.v cs.value), .ref q]) := upd_same; generalize upd H1 t (HO.tup [.str "no", .str (N.v cs.value), .ref q]) = H2 at s2 t2 ⊢
      refine ⟨small (by rw [List.length_append, List.length_map, g2]; show _ + 1 ≤ _; omega), fun r hr' => ?_⟩
      refine ⟨_, rfl, P.c, _, dx, _, rfl, same_new hr' _ _ (s2 _ _ (s1 _ _ c1)), C.cls_Course, C.no_Course_fates, (by show 13 < 1000; decide), ?_⟩
      exact fin H1 q t r H2 _ (.of s1) (s1 _ _ c1) (by rw [hq]; show _ = some (HO.tup (inL (acceptedM cs.fates ++ []))); rw [List.append_nil]) s2 t2 (same_new hr') fun fa' e => by
        rw [g1] at e
        rw [upd_same, ← HO.tup.inj (Option.some.inj e)]
    | some v =>
      refine ⟨_, rfl, rfl, _, rfl, ifT rfl ⟨_, rfl, _, rfl, P.c, _, dx, _, rfl, c1, C.cls_Course, C.no_Course_value, (by show 13 < 1000; decide), stp (o := HO.ins (He.ga K "Course") dx (coF K P af aco (.str (N.v v)) (.int (cs.behind : Nat)) (.bl cs.told))) fun H0 k0 c0 => ?_⟩⟩
      have tk0 := (hst.c.keep (by simp [Pl.ms]) k0).1
      have co0 : CoAt K H0 P N { cs with value := v, fates := cs.fates, come := cs.come, behind := cs.behind, told := cs.told } := ⟨dx, af, aco, c0, hF.kept tk0, tk0 _ _ c3⟩
      refine ⟨_, rfl, rfl, _, rfl, ifF rfl ⟨_, rfl, P.c, dx, _, rfl, c0, rfl, P, N, _, rfl, co0, (by show cs.fates.length ≤ 10000; omega), fun q H1 s1 hq => ⟨_, _, rfl, ?_⟩⟩⟩
      obtain ⟨fa, g1, g2, g3⟩ := id hF
      have g1' := s1 _ _ (tk0 _ _ g1)
      refine ⟨_, rfl, rfl, _, rfl, ifT rfl ⟨_, rfl, q, _, rfl, .inl (SqT.of hq), _, rfl, P.c, _, dx, _, _, rfl, s1 _ _ c0, C.cls_Course, C.no_Course_fates, rfl, _, cs.fates.length, rfl, .inr ⟨_, SqT.of g1', (by rw [List.length_map, g2])⟩, (cs.fates.length : Int), 1, rfl, rfl, small (by rw [List.length_append, inL_len]; show _ + 1 ≤ _; show (acceptedM cs.fates).length + 1 ≤ _; omega), fun q2 hq2 => ?_⟩⟩
      have eq2 : inL (acceptedM cs.fates) ++ [.int ((cs.fates.length : Int) + 1)] = inL (accOf cs (some v)) := by
        unfold accOf inL
        rw [List.map_append]
        rfl
      have s2 := same_new (H := H1) (p := q2) (o := HO.tup (inL (acceptedM cs.fates) ++ [.int ((cs.fates.length : Int) + 1)])) hq2; have q22 : (upd H1 q2 (HO.tup (inL (acceptedM cs.fates) ++ [.int ((cs.fates.length : Int) + 1)]))) q2 = some (HO.tup (inL (acceptedM cs.fates) ++ [.int ((cs.fates.length : Int) + 1)])) := upd_same; generalize upd H1 q2 (HO.tup (inL (acceptedM cs.fates) ++ [.int ((cs.fates.length : Int) + 1)])) = H2 at s2 q22 ⊢
      rw [eq2] at q22
      have c2 := s2 _ _ (s1 _ _ c0)
      refine ⟨_, rfl, P.c, _, dx, _, _, rfl, c2, C.cls_Course, C.no_Course_fates, rfl, af, _, rfl, .inl (SqT.of (s2 _ _ g1')), _, rfl, _, rfl, P.c, _, dx, _, _, rfl, c2, C.cls_Course, C.no_Course_value, rfl, _, rfl, z3, fun t ht => ?_⟩
      have s3 := same_new (H := H2) (p := t) (o := HO.tup [.str "yes", .str (N.v v), .ref q2]) ht; have t3 : (upd H2 t (HO.tup [.str "yes", .str (N.v v), .ref q2])) t = some (HO.tup [.str "yes", .str (N.v v), .ref q2]) := upd_same; generalize upd H2 t (HO.tup [.str "yes", .str (N.v v), .ref q2]) = H3 at s3 t3 ⊢
      refine ⟨small (by rw [List.length_append, List.length_map, g2]; show _ + 1 ≤ _; omega), fun r hr' => ?_⟩
      refine ⟨_, rfl, P.c, _, dx, _, rfl, same_new hr' _ _ (s3 _ _ c2), C.cls_Course, C.no_Course_fates, (by show 13 < 1000; decide), ?_⟩
      exact fin H2 q2 t r H3 _ (k0.trans (.of (s1.trans s2))) c2 q22 s3 t3 (same_new hr') fun fa' e => by
        rw [g1] at e
        rw [upd_same, ← HO.tup.inj (Option.some.inj e)]
end
end Hp
set_option Elab.async false
set_option linter.all false
set_option maxRecDepth 100000
set_option maxHeartbeats 4000000
namespace Hp
open PySem PySem.Spec PyProof.Rows L2
theorem CS.Ok.up {N : Nm} {M M' : Nat} {cs : CS} (h : cs.Ok N M) (l : M ≤ M') (m : M' ≤ 10000) : cs.Ok N M' :=
  ⟨h.s.up l m, h.v, fun f hf => ⟨(h.f f hf).1, Nat.le_trans (h.f f hf).2 l⟩, h.fk, Nat.le_trans h.cl l, fun f hf => ⟨(h.m f hf).1, Nat.le_trans (h.m f hf).2 l⟩, Nat.le_trans h.ml l, h.sv, h.s0, Nat.le_trans h.sl l, Nat.le_trans h.dl l, h.fl, h.gn, h.gs⟩
def fateAt (cs : CS) (n : Nat) : Fate := (cs.fates[n - 1]?).getD ⟨false, 0, []⟩
def momAt (cs : CS) (m : Nat) : Mom := (cs.moms[m]?).getD ⟨0, 0, []⟩
theorem fateAt_is {cs : CS} {n : Nat} (h1 : 1 ≤ n) (h2 : n ≤ cs.fates.length) : cs.fates[n - 1]? = some (fateAt cs n) := by
  have h : n - 1 < cs.fates.length := by omega
  unfold fateAt
  rw [List.getElem?_eq_getElem h]
  rfl
theorem momAt_is {cs : CS} {m : Nat} (h : m < cs.moms.length) : cs.moms[m]? = some (momAt cs m) := by
  unfold momAt
  rw [List.getElem?_eq_getElem h]
  rfl
def answerM (B : IB) (rows : List RowD) (cs : CS) (n : Nat) : CS := { cs with come := cs.come ++ [n], S := hearM B rows (yesS (fateAt cs n).yes) (some n) (some (fateAt cs n).value) (some n) (fateAt cs n).acc cs.S }
def answerR (rows : List RowD) (cs : CS) (n : Nat) : Option Nat := hearAt rows (yesS (fateAt cs n).yes) (some n) (some (fateAt cs n).value) (some n) cs.S
def bringM (B : IB) (rows : List RowD) (cs : CS) (m : Nat) : CS := { cs with told := cs.told || decide (cs.behind ≤ m), S := hearM B rows "list" none (some (momAt cs m).value) (some (momAt cs m).reach) (momAt cs m).acc cs.S }
def bringR (rows : List RowD) (cs : CS) (m : Nat) : Option Nat := hearAt rows "list" none (some (momAt cs m).value) (some (momAt cs m).reach) cs.S
def happenM (B : IB) (rows : List RowD) (cs : CS) : Ev → CS
  | .click i => { cs with S := clickM cs.S i, flick := cs.flick ++ [0] }
  | .other i => { cs with value := stepV B cs.value i }
  | .serve => decideM cs (B.tg ((cs.S.kinds[cs.fates.length]?).getD 0) cs.value)
  | .refuse => decideM cs none
  | .answer n => answerM B rows cs n
  | .list m => bringM B rows cs m
def happenR (rows : List RowD) (cs : CS) : Ev → Option Nat
  | .answer n => answerR rows cs n
  | .list m => bringR rows cs m
  | _ => none
theorem decideM_ok {N : Nm} {M : Nat} {cs : CS} {later : Option Nat} (h : cs.Ok N M) (hv : ∀ v, later = some v → v < N.nv) (hf : cs.fates.length < cs.S.kinds.length) (l : M ≤ 5000) : (decideM cs later).Ok N (M + 10) := by
  have hu := h.up (M' := M + 10) (by omega) (by omega)
  have hv2 : later.getD cs.value < N.nv := by
    cases later with
    | none => exact h.v
    | some v => exact hv v rfl
  refine { hu with v := hv2, f := fun f hf2 => ?_, fk := ?_ }
  · rcases List.mem_append.mp hf2 with q | q
    · exact hu.f f q
    · obtain rfl : f = ⟨later.isSome, later.getD cs.value, accOf cs later⟩ := by simpa using q
      refine ⟨hv2, ?_⟩
      have := acc_len cs.fates
      have hk := h.s.kl
      show (accOf cs later).length ≤ M + 10
      unfold accOf
      rw [List.length_append]
      have : (if later.isSome = true then [cs.fates.length + 1] else []).length ≤ 1 := by split <;> simp
      omega
  · show (cs.fates ++ [_]).length ≤ cs.S.kinds.length
    rw [List.length_append]
    show cs.fates.length + 1 ≤ _
    omega
theorem fate_ok {N : Nm} {M : Nat} {cs : CS} (h : cs.Ok N M) {n : Nat} (h1 : 1 ≤ n) (h2 : n ≤ cs.fates.length) : (fateAt cs n).value < N.nv ∧ (fateAt cs n).acc.length ≤ M := h.f _ (List.mem_of_getElem? (fateAt_is h1 h2))
theorem mom_ok {N : Nm} {M : Nat} {cs : CS} (h : cs.Ok N M) {m : Nat} (h1 : m < cs.moms.length) : (momAt cs m).value < N.nv ∧ (momAt cs m).acc.length ≤ M := h.m _ (List.mem_of_getElem? (momAt_is h1))
theorem happenM_ok {N : Nm} {B : IB} {rows : List RowD} {M : Nat} {cs : CS} {e : Ev} (hB : B.Ok N) (hro : ∀ r ∈ rows, r.Ok) (h : cs.Ok N M) (hf : feas N B cs.sk e) (l : M ≤ 5000) : (happenM B rows cs e).Ok N (M + 10) := by
  have hu := h.up (M' := M + 10) (by omega) (by omega)
  have hs := h.s
  cases e with
  | click i =>
    have hk := hs.kl
    have ho := hs.ol
    refine { hu with s := ⟨hs.b, fun j hj => ?_, fun n hn => ?_, ?_, hu.s.cl, ?_, hu.s.m⟩, fk := ?_, fl := ?_ }
    · rcases List.mem_append.mp hj with q | q
      · exact hs.k j q
      · obtain rfl : j = i := by simpa using q
        exact hf
    · show 1 ≤ n ∧ n ≤ (cs.S.kinds ++ [i]).length
      rw [List.length_append]
      show 1 ≤ n ∧ n ≤ cs.S.kinds.length + 1
      rcases List.mem_append.mp hn with q | q
      · have := hs.o n q
        omega
      · obtain rfl : n = cs.S.kinds.length + 1 := by simpa using q
        omega
    · show (cs.S.kinds ++ [i]).length ≤ M + 10
      rw [List.length_append]
      show cs.S.kinds.length + 1 ≤ _
      omega
    · show (cs.S.opn ++ [cs.S.kinds.length + 1]).length ≤ M + 10
      rw [List.length_append]
      show cs.S.opn.length + 1 ≤ _
      omega
    · show cs.fates.length ≤ (cs.S.kinds ++ [i]).length
      rw [List.length_append]
      have := h.fk
      omega
    · show (cs.flick ++ [0]).length = (cs.S.kinds ++ [i]).length
      rw [List.length_append, List.length_append, h.fl]
      rfl
  | other i => exact { hu with v := stepV_lt hB h.v hf.1 }
  | serve =>
    refine decideM_ok h (fun v hv => ?_) hf l
    have hf' : cs.fates.length < cs.S.kinds.length := hf
    have e : cs.S.kinds[cs.fates.length]? = some cs.S.kinds[cs.fates.length] := List.getElem?_eq_getElem hf'
    rw [e] at hv
    exact hB _ _ _ (hs.k _ (List.getElem_mem hf')) h.v hv
  | refuse =>
    obtain ⟨i, hi, _⟩ := hf
    exact decideM_ok h (fun v hv => by cases hv) (List.getElem?_eq_some_iff.mp hi).1 l
  | answer n =>
    obtain ⟨n1, n2, n3, n4⟩ := hf
    obtain ⟨v1, v2⟩ := fate_ok h n1 n2
    have n2' : n ≤ cs.fates.length := n2
    have hfk := h.fk
    obtain ⟨s1, s2⟩ := hearM_ok (rows := rows) (wd := yesS (fateAt cs n).yes) (num := some n) (value := some (fateAt cs n).value) (reach := some n) (cts := (fateAt cs n).acc) hB hro hs (fun v hv => by cases hv; exact v1) (fun m hm => by cases hm; exact ⟨n1, by omega⟩) v2 (by omega)
    have hcl := h.cl
    refine { hu with s := s1, fk := ?_, fl := ?_, cl := ?_ }
    · show cs.fates.length ≤ (hearM B rows _ _ _ _ _ cs.S).kinds.length
      rw [s2]; exact h.fk
    · show (cs.come ++ [n]).length ≤ M + 10
      rw [List.length_append]
      show cs.come.length + 1 ≤ _
      omega
    · show cs.flick.length = (hearM B rows _ _ _ _ _ cs.S).kinds.length
      rw [s2]; exact h.fl
  | list m =>
    obtain ⟨v1, v2⟩ := mom_ok h hf.1
    obtain ⟨s1, s2⟩ := hearM_ok (rows := rows) (wd := "list") (num := none) (value := some (momAt cs m).value) (reach := some (momAt cs m).reach) (cts := (momAt cs m).acc) hB hro hs (fun v hv => by cases hv; exact v1) (fun m hm => by cases hm) v2 (by omega)
    refine { hu with s := s1, fk := ?_, fl := ?_ }
    · show cs.fates.length ≤ (hearM B rows _ _ _ _ _ cs.S).kinds.length
      rw [s2]; exact h.fk
    · show cs.flick.length = (hearM B rows _ _ _ _ _ cs.S).kinds.length
      rw [s2]; exact h.fl
section
variable {P : Program} {w : World} {K : PySem.W.Frag} {mg : Str → Option Value} {base : Heap}
theorem marks_in (y : Bool) : inV (.str (yesS y)) (tv_MARKS.map V.str) = true := by cases y <;> decide
theorem sa_nt {H : L2.Hp} {P : Pl} {N : Nm} {cs : CS} (h : CourseAt K H P N cs) {m : Addr} (hm : m ∈ P.ms) {q : Addr} {xs : List V} (e : H q = some (.tup xs)) : q ≠ m := fun z => by
  obtain ⟨o, h1, h2⟩ := h.nt m hm
  rw [z, h1] at e
  exact h2 xs (Option.some.inj e)
def spAnswer (K : PySem.W.Frag) : Sp := fun vs H Q _ => ∃ (F : L2.Hp) (P : Pl) (N : Nm) (B : IB) (rows : List RowD) (M : Nat) (cs : CS) (n : Nat), vs = [.ref P.c, .int (n : Nat)] ∧ St K F P N B rows M H cs ∧ 1 ≤ n ∧ n ≤ cs.fates.length ∧ ∀ H', Gr P.ms H H' → CourseAt K H' P N (answerM B rows cs n) → Q (optI (answerR rows cs n)) H'
theorem h_answer (C : Ctx K mg) : ∃ fd, Has P w K mg base 7 (He.fAd K ("Course", some "answer")) ["self", "number"] (spAnswer K) fd := by
  obtain ⟨fdH, GH⟩ := h_hear (P := P) (w := w) (base := base) C
  refine has_of C.fn_course_answer sc_course_answer (fun vs H Q E h => ?_) (fun cdv A outer s H vs Q E hr h => ?_)
  · obtain ⟨F, P, N, B, rows, M, cs, n, rfl, _⟩ := h
    rfl
  · obtain ⟨F, P, N, B, rows, M, cs, n, rfl, hst, n1, n2, k⟩ := h
    have nd := sc_course_answer.nd
    obtain ⟨dx, af, aco, c1, hF, c3⟩ := hst.c.co
    obtain ⟨fa, f1, f2, f3⟩ := id hF
    have hcl := hst.o.cl
    have hl := hst.l
    have hff := fateAt_is n1 n2
    obtain ⟨v1, v2⟩ := fate_ok hst.o n1 n2
    have kR : answerR rows cs n = hearAt rows (yesS (fateAt cs n).yes) (some n) (some (fateAt cs n).value) (some n) cs.S := rfl
    rw [kR] at k
    have kM : answerM B rows cs n = { cs with come := cs.come ++ [n], S := hearM B rows (yesS (fateAt cs n).yes) (some n) (some (fateAt cs n).value) (some n) (fateAt cs n).acc cs.S } := rfl
    rw [kM] at k
    generalize fateAt cs n = f at hff v1 v2 k
    have hfa : fa[n - 1]? = some fa[n - 1] := List.getElem?_eq_getElem (by omega)
    obtain ⟨q, g1, g2⟩ := f3 _ _ _ hfa hff
    have hat : atI (fa.map V.ref) ((n : Int) - 1) = some (.ref fa[n - 1]) := by
      rw [int_pred n1]
      exact atI_nat (map_at hfa)
    refine ⟨_, (pss_cons (ps_asg (pe_ix ix_tup (pe_fld (pv 0) rfl) (pe_sub (pv 1) pe_int) (fun _ _ => rfl)) (pg_tup rfl (pgs_cons (pg_name (i := 2) nd rfl (Or.inl rfl)) (pgs_cons (pg_name (i := 3) nd rfl (Or.inl rfl)) (pgs_cons (pg_name (i := 4) nd rfl (Or.inl rfl)) pgs_nil))))) (pss_cons (ps_fld (pv 0) (pe_tup (StX.pa_star (pe_fld (pv 0) rfl) (pa_cons (pv 1) pa_nil))) rfl) (pss_one (ps_ret (pe_meth (pe_fld (pv 0) rfl) C.cls_Sheet C.me_Sheet_hear GH.ok (hr.mono (by decide)) GH.b .nil pass0 (pa_cons (pv 2) (pa_cons (pv 1) (pa_cons (pe_ifExp (pt_cmpR op_in_seq (pv 2) (pe_fld (pv 0) rfl) (by rfl)) (pv 3) pe_non) (pa_cons (pv 1) (pa_cons (pv 4) pa_nil)))))))))), ?_⟩
    refine ⟨_, rfl, P.c, _, dx, _, _, rfl, c1, C.cls_Course, C.no_Course_fates, rfl, _, rfl, _, _, rfl, rfl, af, _, _, _, rfl, rfl, SqT.of f1, hat, ?_⟩
    refine ⟨fa[n - 1], _, rfl, SqT.of g1, rfl, _, _, rfl, _, _, rfl, _, _, rfl, rfl, ?_⟩
    refine ⟨_, rfl, P.c, _, dx, _, _, rfl, c1, C.cls_Course, C.no_Course_come, rfl, aco, _, rfl, .inl (SqT.of c3), _, rfl, small (by rw [List.length_append, inL_len]; show _ + 1 ≤ _; omega), fun p hp => ?_⟩
    refine ⟨_, rfl, P.c, _, dx, _, rfl, same_new hp _ _ c1, C.cls_Course, C.no_Course_come, (by show 13 < 1000; decide), ?_⟩
    have npc : p ≠ P.c := fun e => by rw [e, c1] at hp; cases hp
    have k1 := ((Kp.refl (a := P.c) (H := H)).new (o := .tup (inL cs.come ++ [.int (n : Nat)])) hp).put (o := .ins (He.ga K "Course") dx (coF K P af p (.str (N.v cs.value)) (.int (cs.behind : Nat)) (.bl cs.told)))
    have tk1 := (hst.c.keep (by simp [Pl.ms]) k1).1
    have ca1 : CourseAt K _ P N { cs with value := cs.value, fates := cs.fates, come := cs.come ++ [n], behind := cs.behind, told := cs.told } := hst.c.at_c hst.d k1 ⟨dx, af, p, upd_same, hF.kept tk1, by
      rw [upd_ne npc, upd_same]
      show _ = some (HO.tup (inL (cs.come ++ [n])))
      unfold inL
      rw [List.map_append]
      rfl⟩
    have c1' : (upd (upd H p (.tup (inL cs.come ++ [.int (n : Nat)]))) P.c (.ins (He.ga K "Course") dx (coF K P af p (.str (N.v cs.value)) (.int (cs.behind : Nat)) (.bl cs.told)))) P.c = _ := upd_same
    have g2' := tk1 _ _ g2
    have gr1 : Gr P.ms H _ := Gr.kp k1 (by simp [Pl.ms])
    have sF1 := gr1.same hst.s hst.n
    obtain ⟨dxs, ak, ac, ao, s1, s2, s3, s4⟩ := id ca1.st
    refine ⟨_, rfl, P.c, _, dx, _, _, rfl, c1', C.cls_Course, C.no_Course_sheet, rfl, P.a, dxs, _, rfl, s1, rfl, _, rfl, _, rfl, _, rfl, _, rfl, P.c, _, dx, _, _, rfl, c1', C.cls_Course, C.no_Course_marks, rfl, _, _, rfl, .inr (C.t_MARKS _), rfl, flat_strs _, _, rfl, ?_⟩
    rw [if_neg (by decide), marks_in]
    refine ifT rfl ⟨_, rfl, _, rfl, _, rfl, P.a, P.b, P.pg, q, F, N, B, rows, M, cs.S, some n, some f.value, some n, f.acc, yesS f.yes, rfl, ca1.st, hst.r, sF1, hst.n _ (by simp [Pl.ms]), hst.o.s, g2', v2, by omega, fun v hv => by cases hv; exact v1, fun m hm => by cases hm; exact ⟨n1, Nat.le_trans n2 hst.o.fk⟩, fun h => by (cases h), fun H2 kp2 hS2 => ?_⟩
    exact k _ (gr1.trans (Gr.kp kp2 (by simp [Pl.ms]))) (ca1.at_a hst.d kp2 hS2)
def spBring (K : PySem.W.Frag) : Sp := fun vs H Q _ => ∃ (F : L2.Hp) (P : Pl) (N : Nm) (B : IB) (rows : List RowD) (M : Nat) (cs : CS) (m : Nat), vs = [.ref P.c, .int (m : Nat)] ∧ St K F P N B rows M H cs ∧ m < cs.moms.length ∧ ∀ H', Gr P.ms H H' → CourseAt K H' P N (bringM B rows cs m) → Q (optI (bringR rows cs m)) H'
theorem h_bring (C : Ctx K mg) : ∃ fd, Has P w K mg base 7 (He.fAd K ("Course", some "bring")) ["self", "moment"] (spBring K) fd := by
  obtain ⟨fdH, GH⟩ := h_hear (P := P) (w := w) (base := base) C
  refine has_of C.fn_course_bring sc_course_bring (fun vs H Q E h => ?_) (fun cdv A outer s H vs Q E hr h => ?_)
  · obtain ⟨F, P, N, B, rows, M, cs, n, rfl, _⟩ := h
    rfl
  · obtain ⟨F, P, N, B, rows, M, cs, m, rfl, hst, n1, k⟩ := h
    have nd := sc_course_bring.nd
    obtain ⟨dx, af, aco, c1, hF, c3⟩ := hst.c.co
    obtain ⟨ma, f1, f2, f3⟩ := hst.c.mo
    have hl := hst.l
    have hff := momAt_is n1
    obtain ⟨v1, v2⟩ := mom_ok hst.o n1
    have kR : bringR rows cs m = hearAt rows "list" none (some (momAt cs m).value) (some (momAt cs m).reach) cs.S := rfl
    rw [kR] at k
    have kM : bringM B rows cs m = { cs with told := cs.told || decide (cs.behind ≤ m), S := hearM B rows "list" none (some (momAt cs m).value) (some (momAt cs m).reach) (momAt cs m).acc cs.S } := rfl
    rw [kM] at k
    generalize momAt cs m = f at hff v1 v2 k
    have hfa : ma[m]? = some ma[m] := List.getElem?_eq_getElem (by omega)
    obtain ⟨q, g1, g2⟩ := f3 _ _ _ hfa hff
    have hat : atI (ma.map V.ref) (m : Int) = some (.ref ma[m]) := atI_nat (map_at hfa)
    refine ⟨_, (pss_cons (ps_asg (pe_ix ix_list (pe_fld (pv 0) rfl) (pv 1) (fun _ _ => rfl)) (pg_tup rfl (pgs_cons (pg_name (i := 2) nd rfl (Or.inl rfl)) (pgs_cons (pg_name (i := 3) nd rfl (Or.inl rfl)) (pgs_cons (pg_name (i := 4) nd rfl (Or.inl rfl)) pgs_nil))))) (C8.pss_cut (ps_if (pt_cmpR op_ge (pv 1) (pe_fld (pv 0) rfl) (nomark _)) (pss_one (ps_fld (pv 0) pe_bl rfl)) pss_nil) (pss_one (ps_ret (pe_meth (pe_fld (pv 0) rfl) C.cls_Sheet C.me_Sheet_hear GH.ok (hr.mono (by decide)) GH.b .nil pass0 (pa_cons pe_str (pa_cons pe_non (pa_cons (pv 2) (pa_cons (pe_ifExp (pt_cmpR op_in_seq pe_str (pe_fld (pv 0) rfl) (by rfl)) (pv 3) pe_non) (pa_cons (pv 4) pa_nil)))))))))), ?_⟩
    refine ⟨_, rfl, P.c, _, dx, _, _, rfl, c1, C.cls_Course, C.no_Course_moments, rfl, _, rfl, P.mo, _, _, _, rfl, rfl, SqL.of f1, hat, ?_⟩
    refine ⟨ma[m], _, rfl, SqT.of g1, rfl, _, _, rfl, _, _, rfl, _, _, rfl, rfl, ?_⟩
    refine ⟨fun σ' H' => σ' = [some (.ref P.c), some (.int (m : Nat)), some (.str (N.v f.value)), some (.int (f.reach : Nat)), some (.ref q)] ∧ Gr P.ms H H' ∧ CourseAt K H' P N { cs with value := cs.value, fates := cs.fates, come := cs.come, behind := cs.behind, told := cs.told || decide (cs.behind ≤ m) }, ?_, ?_⟩
    · refine ⟨_, rfl, _, rfl, P.c, _, dx, _, _, rfl, c1, C.cls_Course, C.no_Course_behind, rfl, _, _, rfl, rfl, _, rfl, ?_⟩
      by_cases hb : cs.behind ≤ m
      · refine ifT (decide_eq_true (by omega)) ⟨_, rfl, P.c, _, dx, _, rfl, c1, C.cls_Course, C.no_Course_is_told, (by show 13 < 1000; decide), rfl, ?_⟩
        have k1 := (Kp.refl (a := P.c) (H := H)).put (o := .ins (He.ga K "Course") dx (coF K P af aco (.str (N.v cs.value)) (.int (cs.behind : Nat)) (.bl true)))
        have tk1 := (hst.c.keep (by simp [Pl.ms]) k1).1
        refine ⟨Gr.kp k1 (by simp [Pl.ms]), hst.c.at_c hst.d k1 ⟨dx, af, aco, ?_, hF.kept tk1, tk1 _ _ c3⟩⟩
        rw [upd_same, decide_eq_true hb, Bool.or_true]
      · refine ifF (decide_eq_false (by omega)) ⟨rfl, Gr.refl, ?_⟩
        rw [decide_eq_false hb, Bool.or_false]
        exact hst.c
    · rintro σ' H1 ⟨rfl, gr1, ca1⟩
      obtain ⟨dx1, af1, aco1, c1', _⟩ := ca1.co
      have g2' := gr1.tk hst.c _ _ g2
      have sF1 := gr1.same hst.s hst.n
      obtain ⟨dxs, ak, ac, ao, s1, s2, s3, s4⟩ := id ca1.st
      refine ⟨_, rfl, P.c, _, dx1, _, _, rfl, c1', C.cls_Course, C.no_Course_sheet, rfl, P.a, dxs, _, rfl, s1, rfl, _, rfl, _, rfl, P.c, _, dx1, _, _, rfl, c1', C.cls_Course, C.no_Course_marks, rfl, _, _, rfl, .inr (C.t_MARKS _), rfl, flat_strs _, _, rfl, ?_⟩
      rw [if_neg (by decide)]
      refine ifT (by decide) ⟨_, rfl, _, rfl, P.a, P.b, P.pg, q, F, N, B, rows, M, cs.S, none, some f.value, some f.reach, f.acc, "list", rfl, ca1.st, hst.r, sF1, hst.n _ (by simp [Pl.ms]), hst.o.s, g2', v2, by omega, fun v hv => by cases hv; exact v1, fun m hm => by (cases hm), fun _ => rfl, fun H2 kp2 hS2 => ?_⟩
      exact k _ (gr1.trans (Gr.kp kp2 (by simp [Pl.ms]))) (ca1.at_a hst.d kp2 hS2)
end
end Hp
set_option Elab.async false
set_option linter.all false
set_option maxRecDepth 100000
set_option maxHeartbeats 4000000
namespace Hp
open PySem PySem.Spec PyProof.Rows L2
section
variable {P : Program} {w : World} {K : PySem.W.Frag} {mg : Str → Option Value} {base : Heap}
def spHappen (K : PySem.W.Frag) : Sp := fun vs H Q _ => ∃ (F : L2.Hp) (P : Pl) (N : Nm) (B : IB) (rows : List RowD) (M : Nat) (cs : CS) (e : Ev), vs = [.ref P.c, .str e.word, e.thing N] ∧ St K F P N B rows M H cs ∧ feas N B cs.sk e ∧ ∀ H', Gr P.ms H H' → CourseAt K H' P N (happenM B rows cs e) → Q (optI (happenR rows cs e)) H'
theorem h_happen (C : Ctx K mg) : ∃ fd, Has P w K mg base 8 (He.fAd K ("Course", some "happen")) ["self", "word", "thing"] (spHappen K) fd := by
  obtain ⟨fdC, GC⟩ := h_click (P := P) (w := w) (base := base) C
  obtain ⟨fdT, GT⟩ := h_target (P := P) (w := w) (base := base) C
  obtain ⟨fdD, GD⟩ := h_decide (P := P) (w := w) (base := base) C
  obtain ⟨fdA, GA⟩ := h_answer (P := P) (w := w) (base := base) C
  obtain ⟨fdB, GB⟩ := h_bring (P := P) (w := w) (base := base) C
  refine has_of C.fn_course_happen sc_course_happen (fun vs H Q E h => ?_) (fun cdv A outer s H vs Q E hr h => ?_)
  · obtain ⟨F, P, N, B, rows, M, cs, e, rfl, _⟩ := h
    rfl
  · obtain ⟨F, P, N, B, rows, M, cs, e, rfl, hst, hf, k⟩ := h
    have nd := sc_course_happen.nd
    obtain ⟨dx, af, aco, c1, hF, c3⟩ := hst.c.co
    obtain ⟨fa, f1, f2, f3⟩ := id hF
    obtain ⟨dxs, ak, ac, ao, s1, s2, s3, s4⟩ := id hst.c.st
    have hb := hst.r.b.mono hst.s
    obtain ⟨dxb, bc, bk, bd, bl, bo, bt, b1, _⟩ := hb.ex
    have hN := hst.r.n
    have hs := hst.o.s
    refine ⟨_, (pss_cons (ps_match (pv 1) (pms_cons (pss_cons (ps_expr (pe_meth (pe_fld (pv 0) rfl) C.cls_Sheet C.me_Sheet_click GC.ok (hr.mono (by decide)) GC.b .nil pass0 (pa_cons (pv 2) pa_nil))) (pss_one (ps_expr (pe_bm PySem.F.plainAttrs_list PySem.F.slot_list_append PySem.F.type_list_append mt_append (pe_fld (pv 0) rfl) (pa_cons pe_int pa_nil)))))
      (pms_cons (pss_cons (ps_set (i := 3) nd rfl (Or.inl rfl) (pe_meth (pe_fld (pv 0) rfl) C.cls_Book C.me_Book_target GT.ok (hr.mono (by decide)) GT.b .nil pass0 (pa_cons (pv 2) (pa_cons (pe_fld (pv 0) rfl) pa_nil)))) (pss_one (ps_fld (pv 0) (pe_ifExp (pt_cmpR op_isN (pv 3) pe_non (nomark _)) (pe_fld (pv 0) rfl) (pv 3)) rfl)))
      (pms_cons (pss_one (ps_expr (pe_meth (pv 0) C.cls_Course C.me_Course_decide GD.ok (hr.mono (by decide)) GD.b .nil pass0 (pa_cons (pe_meth (pe_fld (pv 0) rfl) C.cls_Book C.me_Book_target GT.ok (hr.mono (by decide)) GT.b .nil pass0 (pa_cons (pe_ix ix_tup (pe_fld (pe_fld (pv 0) rfl) rfl) (pe_callB call_len (by rfl) C.f_len boot_len (pa_cons (pe_fld (pv 0) rfl) pa_nil)) (fun _ _ => rfl)) (pa_cons (pe_fld (pv 0) rfl) pa_nil))) pa_nil))))
      (pms_cons (pss_one (ps_expr (pe_meth (pv 0) C.cls_Course C.me_Course_decide GD.ok (hr.mono (by decide)) GD.b .nil pass0 (pa_cons pe_non pa_nil))))
      (pms_cons (pss_one (ps_ret (pe_meth (pv 0) C.cls_Course C.me_Course_answer GA.ok (hr.mono (by decide)) GA.b .nil pass0 (pa_cons (pv 2) pa_nil)))) (pms_any (pss_one (ps_ret (pe_meth (pv 0) C.cls_Course C.me_Course_bring GB.ok (hr.mono (by decide)) GB.b .nil pass0 (pa_cons (pv 2) pa_nil))))))))))) (pss_one (ps_ret pe_non))), ?_⟩
    refine ⟨_, rfl, _, rfl, ?_⟩
    cases e with
    | click i =>
      refine tCase_y ⟨_, rfl, P.c, _, dx, _, _, rfl, c1, C.cls_Course, C.no_Course_sheet, rfl, P.a, dxs, _, rfl, s1, rfl, _, rfl, P.a, P.b, P.pg, N, M, cs.S, i, rfl, hst.c.st, hs, fun v H1 k1 hS1 => ?_⟩
      have ca1 := hst.c.at_a hst.d k1 hS1
      have gr1 : Gr P.ms H H1 := Gr.kp k1 (by simp [Pl.ms])
      obtain ⟨dx1, af1, aco1, d1, _⟩ := ca1.co
      have hfl := hst.o.fl
      have hkl := hs.kl
      have hM := hs.m
      refine ⟨_, rfl, P.c, _, dx1, _, _, rfl, d1, C.cls_Course, C.no_Course_flickers, rfl, .inl ⟨rfl, _, SqL.of ca1.fl⟩, P.fl, _, _, rfl, rfl, ca1.fl, smallL (by rw [inL_len]; show cs.flick.length ≤ _; omega), stp fun H2 k2 c2 => ?_⟩
      refine k _ (gr1.trans (Gr.kp k2 (by simp [Pl.ms]))) (ca1.at_fl hst.d k2 (l := cs.flick ++ [0]) ?_)
      rw [c2]
      unfold inL
      rw [List.map_append]
      rfl
    | other i =>
      refine tCase_n (z := "other") (by decide) (tCase_y ⟨_, rfl, P.c, _, dx, _, _, rfl, c1, C.cls_Course, C.no_Course_book, rfl, P.b, dxb, _, rfl, b1, rfl, _, rfl, _, rfl, P.c, _, dx, _, _, rfl, c1, C.cls_Course, C.no_Course_value, rfl, P.b, N, B, i, cs.value, rfl, hb, hN, hf.1, hst.o.v, fun H1 t1 => ?_⟩)
      have ca1 := hst.c.mono t1
      have fin : ∀ v, stepV B cs.value i = v → Q .non (upd H1 P.c (.ins (He.ga K "Course") dx (coF K P af aco (.str (N.v v)) (.int (cs.behind : Nat)) (.bl cs.told)))) := fun v hv => by
        have k1 := (Kp.of (p := P.c) t1).put (o := .ins (He.ga K "Course") dx (coF K P af aco (.str (N.v v)) (.int (cs.behind : Nat)) (.bl cs.told)))
        have tk1 := (hst.c.keep (by simp [Pl.ms]) k1).1
        refine k _ (Gr.kp k1 (by simp [Pl.ms])) (hst.c.at_c hst.d k1 (value := stepV B cs.value i) ⟨dx, af, aco, ?_, hF.kept tk1, tk1 _ _ c3⟩)
        rw [upd_same]
        show some (HO.ins (He.ga K "Course") dx (coF K P af aco (.str (N.v v)) (.int (cs.behind : Nat)) (.bl cs.told))) = some (HO.ins (He.ga K "Course") dx (coF K P af aco (.str (N.v (stepV B cs.value i))) (.int (cs.behind : Nat)) (.bl cs.told)))
        rw [hv]
      refine ⟨_, rfl, rfl, _, rfl, ?_⟩
      cases e : B.tg i cs.value with
      | none =>
        refine ifT rfl ⟨_, rfl, P.c, _, dx, _, _, rfl, t1 _ _ c1, C.cls_Course, C.no_Course_value, rfl, _, rfl, P.c, _, dx, _, rfl, t1 _ _ c1, C.cls_Course, C.no_Course_value, (by show 13 < 1000; decide), ?_⟩
        exact fin cs.value (by unfold stepV; rw [e]; rfl)
      | some v =>
        refine ifF rfl ⟨_, rfl, _, rfl, P.c, _, dx, _, rfl, t1 _ _ c1, C.cls_Course, C.no_Course_value, (by show 13 < 1000; decide), ?_⟩
        exact fin v (by unfold stepV; rw [e]; rfl)
    | serve =>
      have hf' : cs.fates.length < cs.S.kinds.length := hf
      have e : cs.S.kinds[cs.fates.length]? = some cs.S.kinds[cs.fates.length] := List.getElem?_eq_getElem hf'
      have ed : (cs.S.kinds[cs.fates.length]?).getD 0 = cs.S.kinds[cs.fates.length] := by rw [e]; rfl
      have hik := hs.k _ (List.getElem_mem hf')
      have kM : happenM B rows cs .serve = decideM cs (B.tg ((cs.S.kinds[cs.fates.length]?).getD 0) cs.value) := rfl
      rw [kM, ed] at k
      have hat : atI (stL (cs.S.kinds.map N.k)) (cs.fates.length : Int) = some (.str (N.k cs.S.kinds[cs.fates.length])) := atI_nat (stL_at (map_at e))
      refine tCase_n (z := "serve") (by decide) (tCase_n (z := "serve") (by decide) (tCase_y ⟨_, rfl, P.c, dx, _, rfl, c1, rfl, _, rfl, P.c, _, dx, _, _, rfl, c1, C.cls_Course, C.no_Course_book, rfl, P.b, dxb, _, rfl, b1, rfl, _, rfl, P.c, _, dx, _, _, rfl, c1, C.cls_Course, C.no_Course_sheet, rfl, P.a, _, dxs, _, _, rfl, s1, C.cls_Sheet, C.no_Sheet_kinds, rfl, ?_⟩))
      refine ⟨_, rfl, P.c, _, dx, _, _, rfl, c1, C.cls_Course, C.no_Course_fates, rfl, _, cs.fates.length, rfl, .inr ⟨_, SqT.of f1, (by rw [List.length_map, f2])⟩, ak, _, _, _, rfl, rfl, SqT.of s2, hat, _, rfl, P.c, _, dx, _, _, rfl, c1, C.cls_Course, C.no_Course_value, rfl, ?_⟩
      exact ⟨P.b, N, B, cs.S.kinds[cs.fates.length], cs.value, rfl, hb, hN, hik, hst.o.v, fun H1 t1 => ⟨F, P, N, B, rows, M, cs, B.tg cs.S.kinds[cs.fates.length] cs.value, rfl, hst.mono t1, fun H2 g2 ca2 => k _ ((Gr.of t1).trans g2) ca2⟩⟩
    | refuse =>
      refine tCase_n (z := "refuse") (by decide) (tCase_n (z := "refuse") (by decide) (tCase_n (z := "refuse") (by decide) (tCase_y ⟨_, rfl, P.c, dx, _, rfl, c1, rfl, F, P, N, B, rows, M, cs, none, rfl, hst, fun H2 g2 ca2 => k _ g2 ca2⟩)))
    | answer n =>
      obtain ⟨n1, n2, n3, n4⟩ := hf
      exact tCase_n (z := "answer") (by decide) (tCase_n (z := "answer") (by decide) (tCase_n (z := "answer") (by decide) (tCase_n (z := "answer") (by decide) (tCase_y ⟨_, rfl, P.c, dx, _, rfl, c1, rfl, _, rfl, F, P, N, B, rows, M, cs, n, rfl, hst, n1, n2, fun H2 g2 ca2 => k _ g2 ca2⟩))))
    | list m =>
      exact tCase_n (z := "list") (by decide) (tCase_n (z := "list") (by decide) (tCase_n (z := "list") (by decide) (tCase_n (z := "list") (by decide) (tCase_n (z := "list") (by decide) ⟨_, rfl, P.c, dx, _, rfl, c1, rfl, _, rfl, F, P, N, B, rows, M, cs, m, rfl, hst, hf.1, fun H2 g2 ca2 => k _ g2 ca2⟩))))
/-! flickers -/
def flickS (inside refused : List Nat) (fl : List Nat) (n : Nat) : List Nat := if n ∈ inside ∨ n ∈ refused then fl else fl.set (n - 1) ((fl[n - 1]?).getD 0 + 1)
def flickM (ahead inside refused fl : List Nat) : List Nat := ahead.foldl (flickS inside refused) fl
theorem flickS_len (inside refused fl : List Nat) (n : Nat) : (flickS inside refused fl n).length = fl.length := by
  unfold flickS
  split
  · rfl
  · rw [List.length_set]
theorem flickM_len (inside refused : List Nat) : ∀ (ahead fl : List Nat), (flickM ahead inside refused fl).length = fl.length
  | [], _ => rfl
  | n :: r, fl => by
    show (flickM r inside refused (flickS inside refused fl n)).length = _
    rw [flickM_len inside refused r, flickS_len]
def spFlick (K : PySem.W.Frag) : Sp := fun vs H Q _ => ∃ (F : L2.Hp) (P : Pl) (N : Nm) (B : IB) (rows : List RowD) (M : Nat) (cs : CS) (ah : Addr) (ahead : List Nat), vs = [.ref P.c, .ref ah] ∧ St K F P N B rows M H cs ∧ H ah = some (.tup (inL ahead)) ∧ (∀ n ∈ ahead, 1 ≤ n ∧ n ≤ cs.flick.length) ∧
  ∀ H', Gr P.ms H H' → CourseAt K H' P N { cs with flick := flickM ahead (innerM cs.S) (refusedM cs.fates) cs.flick } → Q .non H'
theorem h_note_flickers (C : Ctx K mg) : ∃ fd, Has P w K mg base 2 (He.fAd K ("Course", some "note_flickers")) ["self", "ahead"] (spFlick K) fd := by
  obtain ⟨fdI, GI⟩ := h_inner (P := P) (w := w) (base := base) C
  obtain ⟨fdR, GR⟩ := h_refused_now (P := P) (w := w) (base := base) C
  refine has_of C.fn_course_note_flickers sc_course_note_flickers (fun vs H Q E h => ?_) (fun cdv A outer s H vs Q E hr h => ?_)
  · obtain ⟨F, P, N, B, rows, M, cs, ah, ahead, rfl, _⟩ := h
    rfl
  · obtain ⟨F, P, N, B, rows, M, cs, ah, ahead, rfl, hst, hah, hin, k⟩ := h
    have nd := sc_course_note_flickers.nd
    obtain ⟨dx, af, aco, c1, hF, c3⟩ := hst.c.co
    obtain ⟨dxs, ak, ac, ao, s1, _⟩ := id hst.c.st
    have hfl : cs.fates.length ≤ 5000 := Nat.le_trans hst.o.fk (Nat.le_trans hst.o.s.kl hst.l)
    refine ⟨_, (pss_cons (ps_par (i := 2) (j := 3) rfl nd rfl rfl (by decide) rfl rfl (pa_cons (pe_meth0 (pe_fld (pv 0) rfl) C.cls_Sheet C.me_Sheet_inner GI.ok (hr.mono (by decide)) GI.b .nil pass0) (pa_cons (pe_meth0 (pv 0) C.cls_Course C.me_Course_refused_now GR.ok (hr.mono (by decide)) GR.b .nil pass0) pa_nil)) rfl) (pss_one (ps_for PassesOwn.never rfl (pi_tup (pv 1)) (pg_name (i := 4) nd rfl (Or.inl rfl)) (pss_one (ps_if (PW.pt (pw_and (pt_cmpR op_notIn_seq (pv 4) (pv 2) (by rfl)) (pw_and1 (pt_cmpR op_notIn_seq (pv 4) (pv 3) (by rfl))))) (pss_one (ps_augS (pe_fld (pv 0) rfl) (pe_sub (pv 4) pe_int) get_list pe_int ip_add set_list)) pss_nil))))), ?_⟩
    refine ⟨_, rfl, P.c, _, dx, _, _, rfl, c1, C.cls_Course, C.no_Course_sheet, rfl, P.a, dxs, _, rfl, s1, rfl, P.a, P.b, P.pg, N, M, cs.S, rfl, hst.c.st, hst.o.s, fun pi H1 t1 hpi => ?_⟩
    refine ⟨_, rfl, P.c, dx, _, rfl, t1 _ _ c1, rfl, P, N, cs, rfl, (hst.c.mono t1).co, by omega, fun pr H2 t2 hpr => ⟨_, _, rfl, ?_⟩⟩
    have t12 := t1.trans t2
    have hpi2 := t2 _ _ hpi
    refine ⟨_, rfl, ah, rfl, ⟨_, SqT.of (t12 _ _ hah)⟩, ?_⟩
    refine for_tup (K := K) (a := ah) (xs := inL ahead) (fun i σ' H' => Kp P.fl H2 H' ∧ H' P.fl = some (.lst (inL (flickM (ahead.take i) (innerM cs.S) (refusedM cs.fates) cs.flick))) ∧ ∃ x4, σ' = [some (.ref P.c), some (.ref ah), some (.ref pi), some (.ref pr), x4]) ⟨Kp.refl, t12 _ _ hst.c.fl, none, rfl⟩ ?_ ?_ ?_
    · rintro i σ' H3 _ ⟨k3, _⟩
      exact SqT.of (k3 _ _ (t12 _ _ hah) (sa_nt hst.c (by simp [Pl.ms]) hah))
    · rintro i x σ' H3 hi ⟨k3, l3, x4, rfl⟩
      have hil : i < ahead.length := by
        have q := (List.getElem?_eq_some_iff.mp hi).1
        rw [inL_len] at q
        exact q
      have hia : ahead[i]? = some ahead[i] := List.getElem?_eq_getElem hil
      obtain rfl : x = .int (ahead[i] : Nat) := map_un (f := fun n : Nat => V.int (n : Nat)) hia hi
      have hm := hin _ (List.getElem_mem hil)
      generalize ahead[i] = n at hia hm
      have et : flickM (ahead.take (i + 1)) (innerM cs.S) (refusedM cs.fates) cs.flick = flickS (innerM cs.S) (refusedM cs.fates) (flickM (ahead.take i) (innerM cs.S) (refusedM cs.fates) cs.flick) n := by
        unfold flickM
        rw [List.take_succ, hia, List.foldl_append]
        rfl
      have hlen := flickM_len (innerM cs.S) (refusedM cs.fates) (ahead.take i) cs.flick
      rw [et]
      generalize flickM (ahead.take i) (innerM cs.S) (refusedM cs.fates) cs.flick = fl at l3 hlen
      have npi : pi ≠ P.fl := fun z => by
        rw [z, t12 _ _ hst.c.fl] at hpi2
        cases hpi2
      have npr : pr ≠ P.fl := fun z => by
        rw [z, t12 _ _ hst.c.fl] at hpr
        cases hpr
      refine ⟨_, rfl, _, rfl, pi, _, rfl, .inr (SqT.of (k3 _ _ hpi2 npi)), rfl, flat_inL _, _, rfl, ?_⟩
      show if (!inV (.int (n : Nat)) (inL (innerM cs.S))) = true then _ else _
      rw [inV_nat]
      by_cases h1 : n ∈ innerM cs.S
      · rw [decide_eq_true h1]
        refine ifF rfl ⟨k3, ?_, _, rfl⟩
        unfold flickS
        rw [if_pos (.inl h1)]
        exact l3
      · rw [decide_eq_false h1]
        refine ifT rfl ⟨_, rfl, _, rfl, pr, _, rfl, .inr (SqT.of (k3 _ _ hpr npr)), rfl, flat_inL _, _, rfl, ?_⟩
        show if (!inV (.int (n : Nat)) (inL (refusedM cs.fates))) = true then _ else _
        rw [inV_nat]
        by_cases h2 : n ∈ refusedM cs.fates
        · rw [decide_eq_true h2]
          refine ifF rfl ⟨k3, ?_, _, rfl⟩
          unfold flickS
          rw [if_pos (.inr h2)]
          exact l3
        · rw [decide_eq_false h2]
          have hc3 := k3 _ _ (t12 _ _ c1) hst.d.cf
          have hnl : n - 1 < fl.length := by omega
          have hg : fl[n - 1]? = some fl[n - 1] := List.getElem?_eq_getElem hnl
          refine ifT rfl ⟨_, rfl, P.c, _, dx, _, _, rfl, hc3, C.cls_Course, C.no_Course_flickers, rfl, _, rfl, _, _, rfl, rfl, ?_⟩
          refine ⟨P.fl, _, _, _, rfl, rfl, l3, (by omega), (by rw [int_pred hm.1]; exact map_at hg), _, _, rfl, rfl, P.fl, _, _, n - 1, rfl, rfl, l3, ?_, k3.put, ?_, _, rfl⟩
          · rw [int_pred hm.1]
            unfold ixN
            rw [if_pos (by omega), if_pos (by rw [inL_len]; omega)]
            rfl
          · rw [upd_same]
            unfold flickS
            rw [if_neg (by rintro (q | q); exact h1 q; exact h2 q), hg]
            unfold inL
            rw [List.map_set]
            rfl
    · rintro σ' H3 ⟨k3, l3, x4, rfl⟩
      rw [inL_len, List.take_length] at l3
      exact k _ ((Gr.of t12).trans (Gr.kp k3 (by simp [Pl.ms]))) ((hst.c.mono t12).at_fl hst.d k3 l3)
end
end Hp
set_option Elab.async false
set_option linter.all false
set_option maxRecDepth 100000
set_option maxHeartbeats 4000000
namespace Hp
open PySem PySem.Spec PyProof.Rows L2
def addG (g : Str) (c : Bool) (l : List Str) : List Str := if c = true then (if g ∈ l then l else l ++ [g]) else l
theorem putK_gaL (l : List Str) (g : Str) : putK (gaL l) (Sum.inr g) (.bl true) = gaL (if g ∈ l then l else l ++ [g]) := by
  by_cases h : g ∈ l
  · rw [if_pos h]
    unfold putK
    have hs : ((gaL l).any fun kv => decide (kv.1 = Sum.inr g)) = true := List.any_eq_true.mpr ⟨(Sum.inr g, .bl true), List.mem_map.mpr ⟨g, h, rfl⟩, decide_eq_true rfl⟩
    rw [if_pos hs]
    unfold gaL
    rw [List.map_map]
    apply List.map_congr_left
    intro x _
    show (if _ then _ else _) = _
    split
    · rename_i e
      have : x = g := Sum.inr.inj e
      rw [this]
    · rfl
  · rw [if_neg h, putK_new _ (valV_none fun p hp e => ?_)]
    · unfold gaL
      rw [List.map_append]
      rfl
    · obtain ⟨x, hx, rfl⟩ := List.mem_map.mp hp
      have : x = g := Sum.inr.inj e
      exact h (this ▸ hx)
theorem addG_ok {g : Str} {c : Bool} {l : List Str} (h : l.Nodup) (s : ∀ x ∈ l, x ∈ (["apart", "clung", "lost", "stuck"] : List Str)) (hg : g ∈ (["apart", "clung", "lost", "stuck"] : List Str)) : (addG g c l).Nodup ∧ ∀ x ∈ addG g c l, x ∈ (["apart", "clung", "lost", "stuck"] : List Str) := by
  unfold addG
  split
  · split
    · exact ⟨h, s⟩
    · rename_i n
      refine ⟨List.nodup_append.mpr ⟨h, List.nodup_cons.mpr ⟨by simp, List.nodup_nil⟩, fun a ha b hb e => ?_⟩, fun x hx => ?_⟩
      · have hb' : b = g := by simpa using hb
        exact n (hb' ▸ e ▸ ha)
      · rcases List.mem_append.mp hx with q | q
        · exact s x q
        · have : x = g := by simpa using q
          exact this ▸ hg
  · exact ⟨h, s⟩
theorem g4_len {l : List Str} (h : l.Nodup) (s : ∀ x ∈ l, x ∈ (["apart", "clung", "lost", "stuck"] : List Str)) : l.length ≤ 4 := List.Nodup.length_le_of_subset h s
def lastN (l : List Nat) : Nat := (l[l.length - 1]?).getD 0
def goalsM (cs : CS) : List Str :=
  if !cs.told || decide (cs.come.length < cs.S.kinds.length) then cs.gained else
  addG "stuck" (decide (0 < cs.S.opn.length)) (addG "lost" ((acceptedM cs.fates).any fun n => !decide (n ∈ innerM cs.S)) (addG "clung" ((refusedM cs.fates).any fun n => decide (n ∈ innerM cs.S)) (addG "apart" (!decide (lastN cs.shown = cs.value)) cs.gained)))
theorem goalsM_ok {cs : CS} (h : cs.gained.Nodup) (s : ∀ x ∈ cs.gained, x ∈ (["apart", "clung", "lost", "stuck"] : List Str)) : (goalsM cs).Nodup ∧ ∀ x ∈ goalsM cs, x ∈ (["apart", "clung", "lost", "stuck"] : List Str) := by
  unfold goalsM
  split
  · exact ⟨h, s⟩
  · obtain ⟨h1, s1⟩ := addG_ok (g := "apart") (c := !decide (lastN cs.shown = cs.value)) h s (by decide)
    obtain ⟨h2, s2⟩ := addG_ok (g := "clung") (c := (refusedM cs.fates).any fun n => decide (n ∈ innerM cs.S)) h1 s1 (by decide)
    obtain ⟨h3, s3⟩ := addG_ok (g := "lost") (c := (acceptedM cs.fates).any fun n => !decide (n ∈ innerM cs.S)) h2 s2 (by decide)
    exact addG_ok h3 s3 (by decide)
section
variable {P : Program} {w : World} {K : PySem.W.Frag} {mg : Str → Option Value} {base : Heap}
theorem any_map_bl (l : List Nat) (p : Nat → Bool) : (l.map p).any id = l.any p := by rw [List.any_map]; rfl
def spGoals (K : PySem.W.Frag) : Sp := fun vs H Q _ => ∃ (F : L2.Hp) (P : Pl) (N : Nm) (B : IB) (rows : List RowD) (M : Nat) (cs : CS), vs = [.ref P.c] ∧ St K F P N B rows M H cs ∧ ∀ H', Gr P.ms H H' → CourseAt K H' P N { cs with gained := goalsM cs } → Q .non H'
theorem h_note_goals (C : Ctx K mg) : ∃ fd, Has P w K mg base 2 (He.fAd K ("Course", some "note_goals")) ["self"] (spGoals K) fd := by
  obtain ⟨fdI, GI⟩ := h_inner (P := P) (w := w) (base := base) C
  obtain ⟨fdR, GR⟩ := h_refused_now (P := P) (w := w) (base := base) C
  obtain ⟨fdA, GA⟩ := h_accepted_now (P := P) (w := w) (base := base) C
  refine has_of C.fn_course_note_goals sc_course_note_goals (fun vs H Q E h => ?_) (fun cdv A outer s H vs Q E hr h => ?_)
  · obtain ⟨F, P, N, B, rows, M, cs, rfl, _⟩ := h
    rfl
  · obtain ⟨F, P, N, B, rows, M, cs, rfl, hst, k⟩ := h
    have nd := sc_course_note_goals.nd
    have hu := hu_of hr
    obtain ⟨dx, af, aco, c1, hF, c3⟩ := hst.c.co
    obtain ⟨dxs, ak, ac, ao, s1, s2, s3, s4⟩ := id hst.c.st
    have hfl : cs.fates.length ≤ 5000 := Nat.le_trans hst.o.fk (Nat.le_trans hst.o.s.kl hst.l)
    have hal := acc_len cs.fates
    have hrl : (refusedM cs.fates).length ≤ cs.fates.length := by
      unfold refusedM
      rw [List.length_map]
      exact Nat.le_trans (List.length_filter_le _ _) (by rw [List.length_range]; exact Nat.le_refl _)
    refine ⟨_, (pss_cons (ps_if (PW.pt (pw_or (pt_not (pt_val (pe_fld (pv 0) rfl))) (pw_or1 (pt_cmpR op_lt (pe_callB call_len (by rfl) C.f_len boot_len (pa_cons (pe_fld (pv 0) rfl) pa_nil)) (pe_callB call_len (by rfl) C.f_len boot_len (pa_cons (pe_fld (pe_fld (pv 0) rfl) rfl) pa_nil)) (nomark _))))) (pss_one ps_retN) pss_nil) (pss_cons (ps_set (i := 1) nd rfl (Or.inr rfl) (pe_meth0 (pe_fld (pv 0) rfl) C.cls_Sheet C.me_Sheet_inner GI.ok (hr.mono (by decide)) GI.b .nil pass0)) (C8.pss_cut (ps_if (pt_cmpR op_ne (pe_ix ix_list (pe_fld (pv 0) rfl) (pe_un un_neg pe_int) (fun _ _ => rfl)) (pe_fld (pv 0) rfl) (nomark _)) (pss_one (ps_dput hu (pe_fld (pv 0) rfl) pe_str pe_bl rfl)) pss_nil) (C8.pss_cut (ps_if (pt_val (pe_callB (cr_any rfl) (by rfl) C.f_any (by decide +kernel) (pa_cons (pe_lc (own := [("number", 2)]) (g := gName 2) (tt := tYes) rfl nd (pi_tup (pe_meth0 (pv 0) C.cls_Course C.me_Course_refused_now GR.ok (hr.mono (by decide)) GR.b .nil pass0)) (blkOk_by (N := N_course_note_goals) (sc := defScope s_course_note_goals) (by decide +kernel)) (fun _ _ _ _ _ => (pg_name (i := 2) nd rfl (Or.inl rfl))) (fun _ _ _ _ _ => pts_nil) (fun _ _ _ _ _ => (pe_cmpR (op_inK K) (pv 2) (pv 1) (by rfl)))) pa_nil))) (pss_one (ps_dput hu (pe_fld (pv 0) rfl) pe_str pe_bl rfl)) pss_nil) (C8.pss_cut (ps_if (pt_val (pe_callB (cr_any rfl) (by rfl) C.f_any (by decide +kernel) (pa_cons (pe_lc (own := [("number", 2)]) (g := gName 2) (tt := tYes) rfl nd (pi_tup (pe_meth0 (pv 0) C.cls_Course C.me_Course_accepted_now GA.ok (hr.mono (by decide)) GA.b .nil pass0)) (blkOk_by (N := N_course_note_goals) (sc := defScope s_course_note_goals) (by decide +kernel)) (fun _ _ _ _ _ => (pg_name (i := 2) nd rfl (Or.inl rfl))) (fun _ _ _ _ _ => pts_nil) (fun _ _ _ _ _ => (pe_cmpR (op_notInK K) (pv 2) (pv 1) (by rfl)))) pa_nil))) (pss_one (ps_dput hu (pe_fld (pv 0) rfl) pe_str pe_bl rfl)) pss_nil) (pss_one (ps_if (pt_cmpR op_gt (pe_callB call_len (by rfl) C.f_len boot_len (pa_cons (pe_fld (pe_fld (pv 0) rfl) rfl) pa_nil)) pe_int (nomark _)) (pss_one (ps_dput hu (pe_fld (pv 0) rfl) pe_str pe_bl rfl)) pss_nil))))))), ?_⟩
    -- what a goal adds
    have stepG : ∀ (H1 : L2.Hp) (l : List Str) (g : Str) (pi : Addr) (zs : List V), Gr P.ms H H1 → CourseAt K H1 P N { cs with gained := l } → l.Nodup → (∀ x ∈ l, x ∈ (["apart", "clung", "lost", "stuck"] : List Str)) → H1 pi = some (.tup zs) →
        ∃ H2, DPut H1 P.ga (.str g) (.bl true) H2 ∧ Gr P.ms H H2 ∧ CourseAt K H2 P N { cs with gained := addG g true l } ∧ H2 pi = some (.tup zs) := fun H1 l g pi zs g1 ca1 n1 m1 hpi => by
      have hga := ca1.ga
      have k2 := (Kp.refl (a := P.ga) (H := H1)).put (o := .dK (putK (gaL l) (Sum.inr g) (.bl true)))
      refine ⟨_, DPut.k (k := Sum.inr g) hga (smallL (by show (gaL l).length ≤ _; unfold gaL; rw [List.length_map]; have := g4_len n1 m1; omega)), g1.trans (Gr.kp k2 (by simp [Pl.ms])), ca1.at_ga hst.d k2 (l := addG g true l) ?_, (ca1.keep (by simp [Pl.ms]) k2).1 _ _ hpi⟩
      rw [upd_same, putK_gaL]
      rfl
    refine ⟨_, rfl, P.c, _, dx, _, _, rfl, c1, C.cls_Course, C.no_Course_is_told, rfl, _, rfl, ?_⟩
    have early : goalsM cs = cs.gained → Q .non H := fun e => k _ Gr.refl (by rw [e]; exact hst.c)
    cases ht : cs.told with
    | false =>
      refine ifT rfl (early ?_)
      unfold goalsM
      rw [ht]
      rfl
    | true =>
      refine ifF rfl ?_
      refine ⟨_, rfl, P.c, _, dx, _, _, rfl, c1, C.cls_Course, C.no_Course_come, rfl, _, cs.come.length, rfl, .inr ⟨_, SqT.of c3, (inL_len _).symm⟩, _, rfl, P.c, _, dx, _, _, rfl, c1, C.cls_Course, C.no_Course_sheet, rfl, P.a, _, dxs, _, _, rfl, s1, C.cls_Sheet, C.no_Sheet_kinds, rfl, _, cs.S.kinds.length, rfl, .inr ⟨_, SqT.of s2, (by rw [stL_len, List.length_map])⟩, _, _, rfl, rfl, _, rfl, ?_⟩
      by_cases hc : cs.come.length < cs.S.kinds.length
      · refine ifT (decide_eq_true (by omega)) (early ?_)
        unfold goalsM
        rw [ht, decide_eq_true hc]
        rfl
      refine ifF (decide_eq_false (by omega)) ?_
      have eG : goalsM cs = addG "stuck" (decide (0 < cs.S.opn.length)) (addG "lost" ((acceptedM cs.fates).any fun n => !decide (n ∈ innerM cs.S)) (addG "clung" ((refusedM cs.fates).any fun n => decide (n ∈ innerM cs.S)) (addG "apart" (!decide (lastN cs.shown = cs.value)) cs.gained))) := by
        unfold goalsM
        rw [ht, decide_eq_false hc]
        rfl
      rw [eG] at k
      obtain ⟨n1, m1⟩ := addG_ok (g := "apart") (c := !decide (lastN cs.shown = cs.value)) hst.o.gn hst.o.gs (by decide)
      obtain ⟨n2, m2⟩ := addG_ok (g := "clung") (c := (refusedM cs.fates).any fun n => decide (n ∈ innerM cs.S)) n1 m1 (by decide)
      obtain ⟨n3, m3⟩ := addG_ok (g := "lost") (c := (acceptedM cs.fates).any fun n => !decide (n ∈ innerM cs.S)) n2 m2 (by decide)
      refine ⟨_, rfl, P.c, _, dx, _, _, rfl, c1, C.cls_Course, C.no_Course_sheet, rfl, P.a, dxs, _, rfl, s1, rfl, P.a, P.b, P.pg, N, M, cs.S, rfl, hst.c.st, hst.o.s, fun pi H1 t1 hpi => ?_⟩
      have ca1 : CourseAt K H1 P N { cs with gained := cs.gained } := hst.c.mono t1
      generalize goalsM cs = gl at *
      -- apart
      refine ⟨fun σ' H' => σ' = [some (.ref P.c), some (.ref pi), none] ∧ Gr P.ms H H' ∧ CourseAt K H' P N { cs with gained := addG "apart" (!decide (lastN cs.shown = cs.value)) cs.gained } ∧ H' pi = some (.tup (inL (innerM cs.S))), ?_, ?_⟩
      · have hsl : 0 < cs.shown.length := List.length_pos_iff.mpr hst.o.s0
        have hlast : cs.shown[cs.shown.length - 1]? = some cs.shown[cs.shown.length - 1] := List.getElem?_eq_getElem (by omega)
        have el : lastN cs.shown = cs.shown[cs.shown.length - 1] := by unfold lastN; rw [hlast]; rfl
        have hlt : lastN cs.shown < N.nv := by rw [el]; exact hst.o.sv _ (List.getElem_mem (by omega))
        have hat : atI (stL (cs.shown.map N.v)) (-1) = some (.str (N.v (lastN cs.shown))) := by
          have hle : (stL (cs.shown.map N.v)).length = cs.shown.length := by rw [stL_len, List.length_map]
          have hi : ixN cs.shown.length (-1) = some (cs.shown.length - 1) := by
            unfold ixN
            rw [if_neg (by decide), if_pos (by omega)]
            congr 1
            omega
          unfold atI
          rw [hle, hi]
          show (stL (cs.shown.map N.v))[cs.shown.length - 1]? = _
          rw [el]
          exact stL_at (map_at hlast)
        refine ⟨_, rfl, P.c, _, dx, _, _, rfl, t1 _ _ c1, C.cls_Course, C.no_Course_shown, rfl, 1, rfl, P.sh, _, _, _, rfl, rfl, SqL.of ca1.sh, hat, _, rfl, P.c, _, dx, _, _, rfl, t1 _ _ c1, C.cls_Course, C.no_Course_value, rfl, rfl, _, rfl, ?_⟩
        have ed : decide (V.str (N.v (lastN cs.shown)) = V.str (N.v cs.value)) = decide (lastN cs.shown = cs.value) := by
          rw [dec_strV]
          exact decide_eq_decide.mpr ⟨fun h => hst.r.n.vinj _ _ hlt hst.o.v h, fun h => by rw [h]⟩
        rw [ed]
        cases hd : decide (lastN cs.shown = cs.value) with
        | true => exact ifF rfl ⟨rfl, Gr.of t1, ca1, hpi⟩
        | false =>
          obtain ⟨H2, hp, h2⟩ := stepG H1 cs.gained "apart" pi _ (Gr.of t1) ca1 hst.o.gn hst.o.gs hpi
          exact ifT rfl ⟨_, rfl, P.c, _, dx, _, _, rfl, t1 _ _ c1, C.cls_Course, C.no_Course_gained, rfl, P.ga, H2, rfl, hp, rfl, h2⟩
      generalize addG "apart" (!decide (lastN cs.shown = cs.value)) cs.gained = l1 at *
      rintro σ2 H2 ⟨rfl, gr2, ca2, hpi2⟩
      -- clung
      refine ⟨fun σ' H' => σ' = [some (.ref P.c), some (.ref pi), none] ∧ Gr P.ms H H' ∧ CourseAt K H' P N { cs with gained := addG "clung" ((refusedM cs.fates).any fun n => decide (n ∈ innerM cs.S)) l1 } ∧ H' pi = some (.tup (inL (innerM cs.S))), ?_, ?_⟩
      · obtain ⟨dx2, af2, aco2, d2, _⟩ := ca2.co
        refine ⟨_, rfl, P.c, dx2, _, rfl, d2, rfl, P, N, _, rfl, ca2.co, (by show cs.fates.length ≤ _; omega), fun pr H3 t3 hpr => ⟨pr, rfl, ⟨_, SqT.of hpr⟩, fun D hD => ?_⟩⟩
        refine lc_m walk_tup (refusedM cs.fates) (inL_len _) (small (by omega)) (fun n => .bl (decide (n ∈ innerM cs.S))) hD (fun H4 t4 => SqT.of (t4 _ _ hpr)) (fun i n x H4 H5 Qy Qn hi t4 y k1 => ?_) (fun H4 t4 hL => ?_)
        · obtain ⟨rfl, e2⟩ := y
          obtain rfl : x = .int (n : Nat) := map_un (f := fun n : Nat => V.int (n : Nat)) hi e2
          refine ⟨rfl, yesT ⟨_, rfl, _, rfl, pi, _, rfl, .inr (SqT.of (t4 _ _ (t3 _ _ hpi2))), rfl, flat_inL _, ?_⟩⟩
          show Qy (.bl (inV (.int (n : Nat)) (inL (innerM cs.S)))) _
          rw [inV_nat]
          exact k1 _ (Same.refl _)
        have t34 := t3.trans t4
        refine ⟨D, (refusedM cs.fates).map fun n => decide (n ∈ innerM cs.S), rfl, SqL.of (by rw [hL, List.map_map]; rfl), ?_⟩
        rw [any_map_bl]
        refine ⟨_, rfl, ?_⟩
        have ca4 := ca2.mono t34
        obtain ⟨dx4, af4, aco4, d4, _⟩ := ca4.co
        cases (refusedM cs.fates).any fun n => decide (n ∈ innerM cs.S) with
        | false => exact ifF rfl ⟨rfl, gr2.trans (Gr.of t34), ca4, t34 _ _ hpi2⟩
        | true =>
          obtain ⟨H5, hp, h5⟩ := stepG H4 l1 "clung" pi _ (gr2.trans (Gr.of t34)) ca4 n1 m1 (t34 _ _ hpi2)
          exact ifT rfl ⟨_, rfl, P.c, _, dx4, _, _, rfl, d4, C.cls_Course, C.no_Course_gained, rfl, P.ga, H5, rfl, hp, rfl, h5⟩
      generalize addG "clung" ((refusedM cs.fates).any fun n => decide (n ∈ innerM cs.S)) l1 = l2 at *
      clear hpi2 ca2 gr2 H2
      rintro σ2 H2 ⟨rfl, gr2, ca2, hpi2⟩
      -- lost
      refine ⟨fun σ' H' => σ' = [some (.ref P.c), some (.ref pi), none] ∧ Gr P.ms H H' ∧ CourseAt K H' P N { cs with gained := addG "lost" ((acceptedM cs.fates).any fun n => !decide (n ∈ innerM cs.S)) l2 } ∧ H' pi = some (.tup (inL (innerM cs.S))), ?_, ?_⟩
      · obtain ⟨dx2, af2, aco2, d2, _⟩ := ca2.co
        refine ⟨_, rfl, P.c, dx2, _, rfl, d2, rfl, P, N, _, rfl, ca2.co, (by show cs.fates.length ≤ _; omega), fun pr H3 t3 hpr => ⟨pr, rfl, ⟨_, SqT.of hpr⟩, fun D hD => ?_⟩⟩
        refine lc_m walk_tup (acceptedM cs.fates) (inL_len _) (small (by omega)) (fun n => .bl (!decide (n ∈ innerM cs.S))) hD (fun H4 t4 => SqT.of (t4 _ _ hpr)) (fun i n x H4 H5 Qy Qn hi t4 y k1 => ?_) (fun H4 t4 hL => ?_)
        · obtain ⟨rfl, e2⟩ := y
          obtain rfl : x = .int (n : Nat) := map_un (f := fun n : Nat => V.int (n : Nat)) hi e2
          refine ⟨rfl, yesT ⟨_, rfl, _, rfl, pi, _, rfl, .inr (SqT.of (t4 _ _ (t3 _ _ hpi2))), rfl, flat_inL _, ?_⟩⟩
          show Qy (.bl (!inV (.int (n : Nat)) (inL (innerM cs.S)))) _
          rw [inV_nat]
          exact k1 _ (Same.refl _)
        have t34 := t3.trans t4
        refine ⟨D, (acceptedM cs.fates).map fun n => !decide (n ∈ innerM cs.S), rfl, SqL.of (by rw [hL, List.map_map]; rfl), ?_⟩
        rw [any_map_bl]
        refine ⟨_, rfl, ?_⟩
        have ca4 := ca2.mono t34
        obtain ⟨dx4, af4, aco4, d4, _⟩ := ca4.co
        cases (acceptedM cs.fates).any fun n => !decide (n ∈ innerM cs.S) with
        | false => exact ifF rfl ⟨rfl, gr2.trans (Gr.of t34), ca4, t34 _ _ hpi2⟩
        | true =>
          obtain ⟨H5, hp, h5⟩ := stepG H4 l2 "lost" pi _ (gr2.trans (Gr.of t34)) ca4 n2 m2 (t34 _ _ hpi2)
          exact ifT rfl ⟨_, rfl, P.c, _, dx4, _, _, rfl, d4, C.cls_Course, C.no_Course_gained, rfl, P.ga, H5, rfl, hp, rfl, h5⟩
      generalize addG "lost" ((acceptedM cs.fates).any fun n => !decide (n ∈ innerM cs.S)) l2 = l3 at *
      clear hpi2 ca2 gr2 H2
      rintro σ2 H2 ⟨rfl, gr2, ca2, hpi2⟩
      -- stuck
      obtain ⟨dx2, af2, aco2, d2, _⟩ := ca2.co
      obtain ⟨dxs2, ak2, ac2, ao2, g1, g2, g3, g4⟩ := ca2.st
      refine ⟨_, rfl, P.c, _, dx2, _, _, rfl, d2, C.cls_Course, C.no_Course_sheet, rfl, P.a, _, dxs2, _, _, rfl, g1, C.cls_Sheet, C.no_Sheet_open_ones, rfl, _, cs.S.opn.length, rfl, .inr ⟨_, SqT.of g4, (inL_len _).symm⟩, _, _, rfl, rfl, _, rfl, ?_⟩
      have e0 : decide ((0 : Int) < (cs.S.opn.length : Nat)) = decide (0 < cs.S.opn.length) := decide_eq_decide.mpr (by omega)
      rw [e0]
      cases hd : decide (0 < cs.S.opn.length) with
      | false =>
        rw [hd] at k
        exact ifF rfl (k _ gr2 ca2)
      | true =>
        rw [hd] at k
        obtain ⟨H5, hp, h5, h6, _⟩ := stepG H2 l3 "stuck" pi _ gr2 ca2 n3 m3 hpi2
        exact ifT rfl ⟨_, rfl, P.c, _, dx2, _, _, rfl, d2, C.cls_Course, C.no_Course_gained, rfl, P.ga, H5, rfl, hp, k _ h5 h6⟩
end
end Hp
set_option Elab.async false
set_option linter.all false
set_option maxRecDepth 100000
set_option maxHeartbeats 4000000
namespace Hp
open PySem PySem.Spec PyProof.Rows L2
def Ev.back : Ev → Bool
  | .serve => true
  | .refuse => true
  | .other _ => true
  | _ => false
def go1 (B : IB) (rows : List RowD) (cs : CS) (e : Ev) : CS := { happenM B rows cs e with done := cs.done ++ [happenR rows cs e] }
def go2 (B : IB) (rows : List RowD) (cs : CS) (e : Ev) : CS := { go1 B rows cs e with behind := if e.back then cs.done.length + 1 else (go1 B rows cs e).behind, told := if e.back then false else (go1 B rows cs e).told }
def momOf (cs : CS) : Mom := ⟨cs.value, cs.fates.length, acceptedM cs.fates⟩
def go3 (B : IB) (cs : CS) : CS := { cs with moms := cs.moms ++ [momOf cs], shown := cs.shown ++ [viewM B cs.S] }
def go4 (ahead : List Nat) (cs : CS) : CS := { cs with flick := flickM ahead (innerM cs.S) (refusedM cs.fates) cs.flick }
def go5 (cs : CS) : CS := { cs with gained := goalsM cs }
def goM (B : IB) (rows : List RowD) (cs : CS) (e : Ev) : CS := go5 (go4 (innerM cs.S) (go3 B (go2 B rows cs e)))
theorem happen_done (B : IB) (rows : List RowD) (cs : CS) (e : Ev) : (happenM B rows cs e).done = cs.done ∧ (happenM B rows cs e).moms = cs.moms ∧ (happenM B rows cs e).shown = cs.shown := by cases e <;> exact ⟨rfl, rfl, rfl⟩
def stepSk (s : Sk) : Ev → Sk
  | .click i => { s with kinds := s.kinds ++ [i], nm := s.nm + 1 }
  | .other _ => { s with nm := s.nm + 1 }
  | .serve => { s with nf := s.nf + 1, nm := s.nm + 1 }
  | .refuse => { s with nf := s.nf + 1, nm := s.nm + 1 }
  | .answer n => { s with come := s.come ++ [n], nm := s.nm + 1 }
  | .list _ => { s with nm := s.nm + 1 }
section
variable {N : Nm} {B : IB} {rows : List RowD} {M : Nat} {cs : CS} {e : Ev}
theorem go1_ok (hB : B.Ok N) (hro : ∀ r ∈ rows, r.Ok) (h : cs.Ok N M) (hf : feas N B cs.sk e) (l : M ≤ 5000) : (go1 B rows cs e).Ok N (M + 10) := by
  have hu := happenM_ok hB hro h hf l
  refine { hu with dl := ?_ }
  show (cs.done ++ [_]).length ≤ M + 10
  rw [List.length_append]
  have := h.dl
  show cs.done.length + 1 ≤ _
  omega
theorem go2_ok (hB : B.Ok N) (hro : ∀ r ∈ rows, r.Ok) (h : cs.Ok N M) (hf : feas N B cs.sk e) (l : M ≤ 5000) : (go2 B rows cs e).Ok N (M + 10) := { go1_ok hB hro h hf l with }
theorem go3_ok (hB : B.Ok N) {cs : CS} (h : cs.Ok N M) (l : M ≤ 5000) : (go3 B cs).Ok N (M + 10) := by
  have hu := h.up (M' := M + 10) (by omega) (by omega)
  have hal := acc_len cs.fates
  have hfk := h.fk
  have hkl := h.s.kl
  refine { hu with m := fun m hm => ?_, ml := ?_, sv := fun v hv => ?_, s0 := ?_, sl := ?_ }
  · rcases List.mem_append.mp hm with q | q
    · exact hu.m m q
    · obtain rfl : m = momOf cs := by simpa using q
      refine ⟨h.v, ?_⟩
      show (acceptedM cs.fates).length ≤ _
      omega
  · show (cs.moms ++ [_]).length ≤ _
    rw [List.length_append]
    have := h.ml
    show cs.moms.length + 1 ≤ _
    omega
  · rcases List.mem_append.mp hv with q | q
    · exact hu.sv v q
    · obtain rfl : v = viewM B cs.S := by simpa using q
      exact viewM_lt hB h.s
  · show cs.shown ++ [_] ≠ []
    simp
  · show (cs.shown ++ [_]).length ≤ _
    rw [List.length_append]
    have := h.sl
    show cs.shown.length + 1 ≤ _
    omega
theorem go4_ok {cs : CS} {ahead : List Nat} (h : cs.Ok N M) : (go4 ahead cs).Ok N M := by
  refine { h with fl := ?_ }
  show (flickM _ _ _ cs.flick).length = _
  rw [flickM_len]
  exact h.fl
theorem go5_ok {cs : CS} (h : cs.Ok N M) : (go5 cs).Ok N M := by
  obtain ⟨a, b⟩ := goalsM_ok h.gn h.gs
  exact { h with gn := a, gs := b }
theorem goM_ok (hB : B.Ok N) (hro : ∀ r ∈ rows, r.Ok) (h : cs.Ok N M) (hf : feas N B cs.sk e) (l : M + 10 ≤ 5000) : (goM B rows cs e).Ok N (M + 20) := go5_ok (go4_ok (go3_ok hB (go2_ok hB hro h hf (by omega)) l))
theorem happen_sk (hB : B.Ok N) (hro : ∀ r ∈ rows, r.Ok) (h : cs.Ok N M) (hf : feas N B cs.sk e) (l : M + 10 ≤ 5000) : (happenM B rows cs e).S.kinds = (stepSk cs.sk e).kinds ∧ (happenM B rows cs e).fates.length = (stepSk cs.sk e).nf ∧ (happenM B rows cs e).come = (stepSk cs.sk e).come := by
  cases e with
  | click i => exact ⟨rfl, rfl, rfl⟩
  | other i => exact ⟨rfl, rfl, rfl⟩
  | serve => exact ⟨rfl, by show (cs.fates ++ [_]).length = cs.fates.length + 1; rw [List.length_append]; rfl, rfl⟩
  | refuse => exact ⟨rfl, by show (cs.fates ++ [_]).length = cs.fates.length + 1; rw [List.length_append]; rfl, rfl⟩
  | answer n =>
    obtain ⟨n1, n2, n3, n4⟩ := hf
    obtain ⟨v1, v2⟩ := fate_ok h n1 n2
    have n2' : n ≤ cs.fates.length := n2
    have hfk := h.fk
    exact ⟨(hearM_ok (rows := rows) (wd := yesS (fateAt cs n).yes) (num := some n) (value := some (fateAt cs n).value) (reach := some n) (cts := (fateAt cs n).acc) hB hro h.s (fun v hv => by cases hv; exact v1) (fun m hm => by cases hm; exact ⟨n1, by omega⟩) v2 (by omega)).2, rfl, rfl⟩
  | list m =>
    obtain ⟨v1, v2⟩ := mom_ok h hf.1
    exact ⟨(hearM_ok (rows := rows) (wd := "list") (num := none) (value := some (momAt cs m).value) (reach := some (momAt cs m).reach) (cts := (momAt cs m).acc) hB hro h.s (fun v hv => by cases hv; exact v1) (fun m hm => by cases hm) v2 (by omega)).2, rfl, rfl⟩
theorem goM_sk (hB : B.Ok N) (hro : ∀ r ∈ rows, r.Ok) (h : cs.Ok N M) (hf : feas N B cs.sk e) (l : M + 10 ≤ 5000) : (goM B rows cs e).sk = stepSk cs.sk e := by
  obtain ⟨a, b, c⟩ := happen_sk hB hro h hf l
  have hm : (goM B rows cs e).moms.length = (stepSk cs.sk e).nm := by
    show ((happenM B rows cs e).moms ++ [_]).length = _
    rw [(happen_done B rows cs e).2.1, List.length_append]
    cases e <;> rfl
  show Sk.mk (happenM B rows cs e).S.kinds (happenM B rows cs e).fates.length (happenM B rows cs e).come (goM B rows cs e).moms.length = _
  rw [a, b, c, hm]
end
def threeB : List V := [.str "serve", .str "refuse", .str "other"]
theorem back_in (e : Ev) : inV (.str e.word) threeB = e.back := by cases e <;> rfl
theorem innerM_in (S : SS) : ∀ n ∈ innerM S, 1 ≤ n ∧ n ≤ S.kinds.length := fun n hn => by
  obtain ⟨h1, _⟩ := List.mem_filter.mp hn
  obtain ⟨i, hi, rfl⟩ := List.mem_map.mp h1
  have := List.mem_range.mp hi
  omega
theorem kinds_grow (B : IB) (rows : List RowD) {N : Nm} {M : Nat} {cs : CS} {e : Ev} (hB : B.Ok N) (hro : ∀ r ∈ rows, r.Ok) (h : cs.Ok N M) (hf : feas N B cs.sk e) (l : M + 10 ≤ 5000) : cs.S.kinds.length ≤ (happenM B rows cs e).S.kinds.length := by
  rw [(happen_sk hB hro h hf l).1]
  cases e with
  | click i => show _ ≤ (cs.S.kinds ++ [i]).length; rw [List.length_append]; omega
  | _ => exact Nat.le_refl _
theorem moms_add {H H' : L2.Hp} {p q r : Addr} {N : Nm} {fs : List Mom} {f : Mom} {fa : List Addr} (g2 : fa.length = fs.length) (g3 : ∀ (i : Nat) (p : Addr) (f : Mom), fa[i]? = some p → fs[i]? = some f → MomAt H p N f) (t : TK H H')
    (h1 : H' r = some (.lst (fa.map V.ref ++ [.ref p]))) (h2 : H' p = some (.tup [.str (N.v f.value), .int (f.reach : Nat), .ref q])) (h3 : H' q = some (.tup (inL f.acc))) : MomsAt H' r N (fs ++ [f]) := by
  refine ⟨fa ++ [p], (by rw [h1, List.map_append]; rfl), (by rw [List.length_append, List.length_append, g2]; rfl), fun i p' f' e1 e2 => ?_⟩
  by_cases hi : i < fs.length
  · rw [List.getElem?_append_left (by omega)] at e1
    rw [List.getElem?_append_left hi] at e2
    obtain ⟨q, a, b⟩ := g3 i p' f' e1 e2
    exact ⟨q, t _ _ a, t _ _ b⟩
  · have hl := (List.getElem?_eq_some_iff.mp e2).1
    rw [List.length_append] at hl
    have hl' : i < fs.length + 1 := hl
    obtain rfl : i = fs.length := by omega
    rw [List.getElem?_append_right (by omega), g2, Nat.sub_self] at e1
    rw [List.getElem?_append_right (Nat.le_refl _), Nat.sub_self] at e2
    cases e1
    cases e2
    exact ⟨q, h2, h3⟩
section
variable {P : Program} {w : World} {K : PySem.W.Frag} {mg : Str → Option Value} {base : Heap}
def spGo (K : PySem.W.Frag) : Sp := fun vs H Q _ => ∃ (F : L2.Hp) (P : Pl) (N : Nm) (B : IB) (rows : List RowD) (M : Nat) (cs : CS) (e : Ev), vs = [.ref P.c, .str (e.str N)] ∧ St K F P N B rows M H cs ∧ feas N B cs.sk e ∧ M + 20 ≤ 5000 ∧ ∀ H', Gr P.ms H H' → CourseAt K H' P N (goM B rows cs e) → Q .non H'
theorem h_go (C : Ctx K mg) : ∃ fd, Has P w K mg base 9 (He.fAd K ("Course", some "go")) ["self", "event"] (spGo K) fd := by
  obtain ⟨fdE, GE⟩ := h_event_in (P := P) (w := w) (base := base) C
  obtain ⟨fdP, GP⟩ := h_is_possible (P := P) (w := w) (base := base) C
  obtain ⟨fdI, GI⟩ := h_inner (P := P) (w := w) (base := base) C
  obtain ⟨fdH, GH⟩ := h_happen (P := P) (w := w) (base := base) C
  obtain ⟨fdA, GA⟩ := h_accepted_now (P := P) (w := w) (base := base) C
  obtain ⟨fdV, GV⟩ := h_view (P := P) (w := w) (base := base) C
  obtain ⟨fdF, GF⟩ := h_note_flickers (P := P) (w := w) (base := base) C
  obtain ⟨fdG, GG⟩ := h_note_goals (P := P) (w := w) (base := base) C
  refine has_of C.fn_course_go sc_course_go (fun vs H Q E h => ?_) (fun cdv A outer s H vs Q E hr h => ?_)
  · obtain ⟨F, P, N, B, rows, M, cs, e, rfl, _⟩ := h
    rfl
  · obtain ⟨F, P, N, B, rows, M, cs, e, rfl, hst, hf, hM, k⟩ := h
    have nd := sc_course_go.nd
    obtain ⟨dx, af, aco, c1, _⟩ := hst.c.co
    have hdl := hst.o.dl
    refine ⟨_, (pss_cons (ps_set (i := 2) nd rfl (Or.inl rfl) (pe_callB call_len (by rfl) C.f_len boot_len (pa_cons (pe_fld (pv 0) rfl) pa_nil))) (pss_cons (ps_asg (pe_call GE.ok (hr.mono (by decide)) (by rfl) C.g_event_in GE.kp GE.b .nil pass0 (pa_cons (pv 1) pa_nil)) (pg_tup rfl (pgs_cons (pg_name (i := 3) nd rfl (Or.inl rfl)) (pgs_cons (pg_name (i := 4) nd rfl (Or.inl rfl)) pgs_nil)))) (pss_cons (ps_if (pt_not (pt_val (pe_meth (pv 0) C.cls_Course C.me_Course_is_possible GP.ok (hr.mono (by decide)) GP.b .nil pass0 (pa_cons (pv 3) (pa_cons (pv 4) pa_nil))))) (pss_one ps_never) pss_nil) (pss_cons (ps_set (i := 5) nd rfl (Or.inl rfl) (pe_meth0 (pe_fld (pv 0) rfl) C.cls_Sheet C.me_Sheet_inner GI.ok (hr.mono (by decide)) GI.b .nil pass0)) (C8.pss_cut (ps_expr (pe_bm PySem.F.plainAttrs_list PySem.F.slot_list_append PySem.F.type_list_append mt_append (pe_fld (pv 0) rfl) (pa_cons (pe_meth (pv 0) C.cls_Course C.me_Course_happen GH.ok (hr.mono (by decide)) GH.b .nil pass0 (pa_cons (pv 3) (pa_cons (pv 4) pa_nil))) pa_nil))) (C8.pss_cut (ps_if (pt_cmpR op_in_seq (pv 3) (pe_tup (pa_cons pe_str (pa_cons pe_str (pa_cons pe_str pa_nil)))) (by rfl)) (pss_one (ps_asg (pe_tup (pa_cons (pe_add (pv 2) pe_int) (pa_cons pe_bl pa_nil))) (pg_tup rfl (pgs_cons (pg_fld (pv 0)) (pgs_cons (pg_fld (pv 0)) pgs_nil))))) pss_nil) (C8.pss_cut (ps_expr (pe_bm PySem.F.plainAttrs_list PySem.F.slot_list_append PySem.F.type_list_append mt_append (pe_fld (pv 0) rfl) (pa_cons (pe_tup (pa_cons (pe_fld (pv 0) rfl) (pa_cons (pe_callB call_len (by rfl) C.f_len boot_len (pa_cons (pe_fld (pv 0) rfl) pa_nil)) (pa_cons (pe_meth0 (pv 0) C.cls_Course C.me_Course_accepted_now GA.ok (hr.mono (by decide)) GA.b .nil pass0) pa_nil)))) pa_nil))) (pss_cons (ps_expr (pe_bm PySem.F.plainAttrs_list PySem.F.slot_list_append PySem.F.type_list_append mt_append (pe_fld (pv 0) rfl) (pa_cons (pe_meth0 (pe_fld (pv 0) rfl) C.cls_Sheet C.me_Sheet_view GV.ok (hr.mono (by decide)) GV.b .nil pass0) pa_nil))) (pss_cons (ps_expr (pe_meth (pv 0) C.cls_Course C.me_Course_note_flickers GF.ok (hr.mono (by decide)) GF.b .nil pass0 (pa_cons (pv 5) pa_nil))) (pss_one (ps_expr (pe_meth0 (pv 0) C.cls_Course C.me_Course_note_goals GG.ok (hr.mono (by decide)) GG.b .nil pass0)))))))))))), ?_⟩
    refine ⟨_, rfl, P.c, _, dx, _, _, rfl, c1, C.cls_Course, C.no_Course_done, rfl, _, cs.done.length, rfl, .inl ⟨_, SqL.of hst.c.dn, (by rw [List.length_map])⟩, ?_⟩
    refine ⟨_, rfl, N, e, rfl, hst.r.n, hf.in_, fun p H1 t1 hp => ⟨p, _, rfl, SqT.of hp, rfl, _, _, rfl, _, _, rfl, rfl, ?_⟩⟩
    refine ⟨_, rfl, P.c, dx, _, rfl, t1 _ _ c1, rfl, _, rfl, _, rfl, F, P, N, B, rows, M, cs, e, rfl, hst.mono t1, hf, fun H2 t2 => ⟨true, rfl, iteF ?_⟩⟩
    have t12 := t1.trans t2
    obtain ⟨dxs, ak, ac, ao, s1, _⟩ := id hst.c.st
    refine ⟨_, rfl, P.c, _, dx, _, _, rfl, t12 _ _ c1, C.cls_Course, C.no_Course_sheet, rfl, P.a, dxs, _, rfl, t12 _ _ s1, rfl, P.a, P.b, P.pg, N, M, cs.S, rfl, hst.c.st.mono t12, hst.o.s, fun pi H3 t3 hpi => ?_⟩
    have t13 := t12.trans t3
    have st3 := hst.mono t13
    have oks := happenM_ok (rows := rows) hst.r.bo hst.r.ro hst.o hf (by omega)
    have ok1 := go1_ok (rows := rows) hst.r.bo hst.r.ro hst.o hf (by omega)
    have ok2 := go2_ok (rows := rows) hst.r.bo hst.r.ro hst.o hf (by omega)
    have kgr := kinds_grow B rows hst.r.bo hst.r.ro hst.o hf (by omega)
    -- happen
    refine ⟨fun σ' H' => σ' = [some (.ref P.c), some (.str (e.str N)), some (.int (cs.done.length : Nat)), some (.str e.word), some (e.thing N), some (.ref pi)] ∧ Gr P.ms H H' ∧ H' pi = some (.tup (inL (innerM cs.S))) ∧ CourseAt K H' P N (go1 B rows cs e), ?_, ?_⟩
    · refine ⟨_, rfl, P.c, _, dx, _, _, rfl, t13 _ _ c1, C.cls_Course, C.no_Course_done, rfl, .inl ⟨rfl, _, SqL.of st3.c.dn⟩, _, rfl, P.c, dx, _, rfl, t13 _ _ c1, rfl, _, rfl, _, rfl, F, P, N, B, rows, M, cs, e, rfl, st3, hf, fun H4 g4 ca4 => ?_⟩
      have hdn := ca4.dn
      rw [(happen_done B rows cs e).1] at hdn
      refine ⟨P.dn, _, _, rfl, rfl, hdn, smallL (by rw [List.length_map]; omega), stp fun H5 k5 d5 => ⟨rfl, ((Gr.of t13).trans g4).trans (Gr.kp k5 (by simp [Pl.ms])), (ca4.keep (by simp [Pl.ms]) k5).1 _ _ (g4.tk st3.c _ _ hpi), ca4.at_dn hst.d k5 (l := cs.done ++ [happenR rows cs e]) ?_⟩⟩
      rw [d5, List.map_append]
      rfl
    rintro σ4 H4 ⟨rfl, g4, hpi4, ca4⟩
    -- behind
    refine ⟨fun σ' H' => σ' = [some (.ref P.c), some (.str (e.str N)), some (.int (cs.done.length : Nat)), some (.str e.word), some (e.thing N), some (.ref pi)] ∧ Gr P.ms H H' ∧ H' pi = some (.tup (inL (innerM cs.S))) ∧ CourseAt K H' P N (go2 B rows cs e), ?_, ?_⟩
    · obtain ⟨dx4, af4, aco4, d4, hF4, e4⟩ := ca4.co
      refine ⟨_, rfl, (by show 3 ≤ sizeLine; decide), fun q hq => ⟨q, threeB, rfl, .inr (SqT.of upd_same), rfl, rfl, _, rfl, ?_⟩⟩
      have ca5 := ca4.mono (same_new (o := HO.tup [.str "serve", .str "refuse", .str "other"]) hq)
      have g5 := g4.trans (Gr.of (same_new (o := HO.tup [.str "serve", .str "refuse", .str "other"]) hq))
      have hpi5 := same_new (o := HO.tup [.str "serve", .str "refuse", .str "other"]) hq _ _ hpi4
      have d5 := same_new (o := HO.tup [.str "serve", .str "refuse", .str "other"]) hq _ _ d4
      have hF5 := hF4.kept (TK.of (same_new (o := HO.tup [.str "serve", .str "refuse", .str "other"]) hq))
      have e5 := same_new (o := HO.tup [.str "serve", .str "refuse", .str "other"]) hq _ _ e4
      generalize upd H4 q (HO.tup [.str "serve", .str "refuse", .str "other"]) = H5 at ca5 g5 hpi5 d5 hF5 e5 ⊢
      show if inV (.str e.word) threeB = true then _ else _
      rw [back_in]
      cases hb : e.back with
      | false =>
        refine ifF rfl ⟨rfl, g5, hpi5, ?_⟩
        have e2 : go2 B rows cs e = go1 B rows cs e := by unfold go2; rw [hb]; rfl
        rw [e2]
        exact ca5
      | true =>
        refine ifT rfl ⟨_, rfl, (cs.done.length : Int), 1, rfl, rfl, (by show 2 ≤ sizeLine; decide), fun t ht => ?_⟩
        have ntc : t ≠ P.c := fun z => by rw [z, d5] at ht; cases ht
        refine ⟨t, _, rfl, SqT.of upd_same, rfl, _, _, rfl, _, rfl, P.c, _, dx4, _, rfl, same_new ht _ _ d5, C.cls_Course, C.no_Course_behind, (by show 13 < 1000; decide), ?_⟩
        refine ⟨_, _, rfl, _, rfl, P.c, _, dx4, _, rfl, upd_same, C.cls_Course, C.no_Course_is_told, (by show 13 < 1000; decide), rfl, rfl, ?_⟩
        have k6 := (((Kp.refl (a := P.c) (H := H5)).new (o := .tup [.int ((cs.done.length : Int) + 1), .bl false]) ht).put (o := .ins (He.ga K "Course") dx4 (coF K P af4 aco4 (.str (N.v (go1 B rows cs e).value)) (.int ((cs.done.length : Int) + 1)) (.bl (go1 B rows cs e).told)))).put (o := .ins (He.ga K "Course") dx4 (coF K P af4 aco4 (.str (N.v (go1 B rows cs e).value)) (.int ((cs.done.length : Int) + 1)) (.bl false)))
        have tk6 := (ca5.keep (by simp [Pl.ms]) k6).1
        refine ⟨g5.trans (Gr.kp k6 (by simp [Pl.ms])), tk6 _ _ hpi5, ?_⟩
        have e2 : go2 B rows cs e = { go1 B rows cs e with value := (go1 B rows cs e).value, fates := (go1 B rows cs e).fates, come := (go1 B rows cs e).come, behind := cs.done.length + 1, told := false } := by unfold go2; rw [hb]; rfl
        rw [e2]
        exact ca5.at_c hst.d k6 ⟨dx4, af4, aco4, upd_same, hF5.kept tk6, tk6 _ _ e5⟩
    rintro σ5 H5 ⟨rfl, g5, hpi5, ca5⟩
    have kM : goM B rows cs e = go5 (go4 (innerM cs.S) (go3 B (go2 B rows cs e))) := rfl
    rw [kM] at k
    have hS2 : (go2 B rows cs e).S = (happenM B rows cs e).S := rfl
    rw [← hS2] at kgr
    generalize go2 B rows cs e = c2 at *
    have hkl := ok2.s.kl
    have hfk := ok2.fk
    have hml := ok2.ml
    have hsl := ok2.sl
    -- moments
    refine ⟨fun σ' H' => σ' = [some (.ref P.c), some (.str (e.str N)), some (.int (cs.done.length : Nat)), some (.str e.word), some (e.thing N), some (.ref pi)] ∧ Gr P.ms H H' ∧ H' pi = some (.tup (inL (innerM cs.S))) ∧ CourseAt K H' P N { c2 with moms := c2.moms ++ [momOf c2] }, ?_, ?_⟩
    · obtain ⟨dx5, af5, aco5, d5, hF5, e5⟩ := id ca5.co
      obtain ⟨fa, f1, f2, f3⟩ := id hF5
      obtain ⟨ma, m1, m2, m3⟩ := ca5.mo
      refine ⟨_, rfl, P.c, _, dx5, _, _, rfl, d5, C.cls_Course, C.no_Course_moments, rfl, .inl ⟨rfl, _, SqL.of m1⟩, ?_⟩
      refine ⟨_, rfl, P.c, _, dx5, _, _, rfl, d5, C.cls_Course, C.no_Course_value, rfl, _, rfl, P.c, _, dx5, _, _, rfl, d5, C.cls_Course, C.no_Course_fates, rfl, _, c2.fates.length, rfl, .inr ⟨_, SqT.of f1, (by rw [List.length_map, f2])⟩, _, rfl, P.c, dx5, _, rfl, d5, rfl, P, N, c2, rfl, ca5.co, by omega, fun pa H6 t6 hpa => ?_⟩
      refine ⟨(by show 3 ≤ sizeLine; decide), fun t ht => ?_⟩
      have s7 := same_new (H := H6) (p := t) (o := HO.tup [.str (N.v c2.value), .int (c2.fates.length : Nat), .ref pa]) ht; have t7 : (upd H6 t (HO.tup [.str (N.v c2.value), .int (c2.fates.length : Nat), .ref pa])) t = some (HO.tup [.str (N.v c2.value), .int (c2.fates.length : Nat), .ref pa]) := upd_same; generalize upd H6 t (HO.tup [.str (N.v c2.value), .int (c2.fates.length : Nat), .ref pa]) = H7 at s7 t7 ⊢
      have t57 := t6.trans s7
      refine ⟨P.mo, _, _, rfl, rfl, t57 _ _ m1, smallL (by rw [List.length_map]; omega), stp fun H8 k8 m8 => ?_⟩
      have ca7 := ca5.mono t57
      have tk8 := (ca7.keep (by simp [Pl.ms]) k8).1
      refine ⟨rfl, (g5.trans (Gr.of t57)).trans (Gr.kp k8 (by simp [Pl.ms])), tk8 _ _ (t57 _ _ hpi5), ca7.at_mo hst.d k8 (ms := c2.moms ++ [momOf c2]) (moms_add (f := momOf c2) m2 m3 ((TK.of t57).trans tk8) m8 (tk8 _ _ t7) (tk8 _ _ (s7 _ _ hpa)))⟩
    rintro σ6 H6 ⟨rfl, g6, hpi6, ca6⟩
    -- shown
    obtain ⟨dx6, af6, aco6, d6, _⟩ := id ca6.co
    obtain ⟨dxs6, ak6, ac6, ao6, x6, _⟩ := id ca6.st
    have sF6 := g6.same hst.s hst.n
    refine ⟨_, rfl, P.c, _, dx6, _, _, rfl, d6, C.cls_Course, C.no_Course_shown, rfl, .inl ⟨rfl, _, SqL.of ca6.sh⟩, _, rfl, P.c, _, dx6, _, _, rfl, d6, C.cls_Course, C.no_Course_sheet, rfl, P.a, dxs6, _, rfl, x6, rfl, P.a, P.b, P.pg, N, B, M + 10, c2.S, rfl, ca6.st, hst.r.b.mono sF6, hst.r.n, hst.r.bo, ok2.s, fun H7 t7 => ?_⟩
    refine ⟨P.sh, _, _, rfl, rfl, t7 _ _ ca6.sh, smallL (by show (stL (c2.shown.map N.v)).length ≤ _; rw [stL_len, List.length_map]; omega), stp fun H8 k8 m8 => ?_⟩
    have ca7 := ca6.mono t7
    have ca8 : CourseAt K H8 P N (go3 B c2) := ca7.at_sh hst.d k8 (l := c2.shown ++ [viewM B c2.S]) (by
      rw [m8]
      show some (HO.lst (stL (c2.shown.map N.v) ++ [V.str (N.v (viewM B c2.S))])) = some (HO.lst (stL ((c2.shown ++ [viewM B c2.S]).map N.v)))
      unfold stL
      rw [List.map_append, List.map_append]
      rfl)
    have g8 := (g6.trans (Gr.of t7)).trans (Gr.kp k8 (by simp [Pl.ms]))
    have hpi8 := (ca7.keep (by simp [Pl.ms]) k8).1 _ _ (t7 _ _ hpi6)
    have ok3 := go3_ok (B := B) hst.r.bo ok2 (by omega)
    have st8 : St K F P N B rows (M + 20) H8 (go3 B c2) := hst.next g8 ca8 ok3 (by omega)
    obtain ⟨dx8, af8, aco8, d8, _⟩ := id ca8.co
    refine ⟨_, rfl, P.c, dx8, _, rfl, d8, rfl, _, rfl, F, P, N, B, rows, M + 20, go3 B c2, pi, innerM cs.S, rfl, st8, hpi8, fun n hn => ?_, fun H9 g9 ca9 => ?_⟩
    · have := innerM_in cs.S n hn
      have hfl := ok3.fl
      have e3 : (go3 B c2).S = c2.S := rfl
      rw [e3] at hfl
      omega
    have st9 : St K F P N B rows (M + 20) H9 (go4 (innerM cs.S) (go3 B c2)) := st8.next g9 ca9 (go4_ok ok3) (by omega)
    obtain ⟨dx9, af9, aco9, d9, _⟩ := id ca9.co
    exact ⟨_, rfl, P.c, dx9, _, rfl, d9, rfl, F, P, N, B, rows, M + 20, _, rfl, st9, fun H10 g10 ca10 => k _ ((g8.trans g9).trans g10) ca10⟩
end
end Hp
set_option Elab.async false
set_option linter.all false
set_option maxRecDepth 100000
set_option maxHeartbeats 4000000
namespace Hp
open PySem PySem.Spec PyProof.Rows L2
/-! what is left of a course -/
def plF (a1 a2 a3 a4 a5 a6 a7 a8 : Addr) (value b heard : V) : List (Str × V) := [("shown", .ref a1), ("value", value), ("base", b), ("opened", .ref a2), ("heard", heard), ("done", .ref a3), ("accepted", .ref a4), ("refused", .ref a5), ("inside", .ref a6), ("flickers", .ref a7), ("goals", .ref a8)]
def PlayedAt (K : PySem.W.Frag) (H : L2.Hp) (p : Addr) (N : Nm) (cs : CS) : Prop := ∃ (dx a1 a2 a3 a4 a5 a6 a7 a8 : Addr) (ys : List Str), H p = some (.ins (He.ga K "Played") dx (plF a1 a2 a3 a4 a5 a6 a7 a8 (.str (N.v cs.value)) (.str (N.v cs.S.base)) (.int (cs.S.heard : Nat)))) ∧
  H a1 = some (.tup (stL (cs.shown.map N.v))) ∧ H a2 = some (.tup (inL cs.S.opn)) ∧ H a3 = some (.tup (cs.done.map optI)) ∧ H a4 = some (.tup (inL (acceptedM cs.fates))) ∧ H a5 = some (.tup (inL (refusedM cs.fates))) ∧ H a6 = some (.tup (inL (innerM cs.S))) ∧ H a7 = some (.tup (inL cs.flick)) ∧ H a8 = some (.tup (stL ys)) ∧
  ys.Perm cs.gained ∧ sortedS ys = true
theorem PlayedAt.mono {K : PySem.W.Frag} {H H' : L2.Hp} {p : Addr} {N : Nm} {cs : CS} (h : PlayedAt K H p N cs) (s : Same H H') : PlayedAt K H' p N cs := by
  obtain ⟨dx, a1, a2, a3, a4, a5, a6, a7, a8, ys, h0, h1, h2, h3, h4, h5, h6, h7, h8, h9, h10⟩ := h
  exact ⟨dx, a1, a2, a3, a4, a5, a6, a7, a8, ys, s _ _ h0, s _ _ h1, s _ _ h2, s _ _ h3, s _ _ h4, s _ _ h5, s _ _ h6, s _ _ h7, s _ _ h8, h9, h10⟩
def feasAll (N : Nm) (B : IB) : Sk → List Ev → Prop
  | _, [] => True
  | s, e :: r => feas N B s e ∧ feasAll N B (stepSk s e) r
theorem feasAll_at {N : Nm} {B : IB} : ∀ {es : List Ev} {s : Sk} {i : Nat} {e : Ev}, feasAll N B s es → es[i]? = some e → feas N B ((es.take i).foldl stepSk s) e
  | [], _, _, _, _, h => by cases h
  | a :: r, s, 0, e, h, hi => by
    cases hi
    exact h.1
  | a :: r, s, i + 1, e, h, hi => feasAll_at (es := r) (s := stepSk s a) h.2 hi
theorem feasAll_add {N : Nm} {B : IB} : ∀ {es : List Ev} {s : Sk} {e : Ev}, feasAll N B s es → feas N B (es.foldl stepSk s) e → feasAll N B s (es ++ [e])
  | [], _, _, _, h => ⟨h, True.intro⟩
  | a :: r, s, e, h, hi => ⟨h.1, feasAll_add (es := r) (s := stepSk s a) h.2 hi⟩
def runM (B : IB) (rows : List RowD) (es : List Ev) : CS := es.foldl (goM B rows) (initC B)
def sk0 : Sk := ⟨[], 0, [], 1⟩
section
variable {P : Program} {w : World} {K : PySem.W.Frag} {mg : Str → Option Value} {base : Heap}
def spPlayed (K : PySem.W.Frag) : Sp := fun vs H Q _ => ∃ (p dxp : Addr) (F : L2.Hp) (P : Pl) (N : Nm) (B : IB) (rows : List RowD) (M : Nat) (cs : CS), vs = [.ref p, .ref P.c] ∧ H p = some (.ins (He.ga K "Played") dxp []) ∧ St K F P N B rows M H cs ∧ (∀ m ∈ P.ms, m ≠ p) ∧ F p = none ∧ ∀ H', Same F H' → PlayedAt K H' p N cs → Q .non H'
theorem h_played_init (C : Ctx K mg) : ∃ fd, Has P w K mg base 2 (He.fAd K ("Played", some "__init__")) ["self", "course"] (spPlayed K) fd := by
  obtain ⟨fdI, GI⟩ := h_inner (P := P) (w := w) (base := base) C
  obtain ⟨fdA, GA⟩ := h_accepted_now (P := P) (w := w) (base := base) C
  obtain ⟨fdR, GR⟩ := h_refused_now (P := P) (w := w) (base := base) C
  refine has_of C.fn_played_init sc_played_init (fun vs H Q E h => ?_) (fun cdv A outer s H vs Q E hr h => ?_)
  · obtain ⟨p, dxp, F, P, N, B, rows, M, cs, rfl, _⟩ := h
    rfl
  · obtain ⟨p, dx, F, P, N, B, rows, M, cs, rfl, hp, hst, hne, hFp, k⟩ := h
    have nd := sc_played_init.nd
    have hfl : cs.fates.length ≤ 5000 := Nat.le_trans hst.o.fk (Nat.le_trans hst.o.s.kl hst.l)
    refine ⟨_, (pss_cons (ps_set (i := 2) nd rfl (Or.inl rfl) (pe_fld (pv 1) rfl)) (pss_cons (ps_fld (pv 0) (pe_callTy call_tuple_of (by rfl) C.f_tuple boot_tuple (pa_cons (pe_fld (pv 1) rfl) pa_nil)) rfl) (pss_cons (ps_fld (pv 0) (pe_fld (pv 1) rfl) rfl) (pss_cons (ps_fld (pv 0) (pe_fld (pv 2) rfl) rfl) (pss_cons (ps_fld (pv 0) (pe_fld (pv 2) rfl) rfl) (pss_cons (ps_fld (pv 0) (pe_fld (pv 2) rfl) rfl) (pss_cons (ps_fld (pv 0) (pe_callTy call_tuple_of (by rfl) C.f_tuple boot_tuple (pa_cons (pe_fld (pv 1) rfl) pa_nil)) rfl) (pss_cons (ps_fld (pv 0) (pe_meth0 (pv 1) C.cls_Course C.me_Course_accepted_now GA.ok (hr.mono (by decide)) GA.b .nil pass0) rfl) (pss_cons (ps_fld (pv 0) (pe_meth0 (pv 1) C.cls_Course C.me_Course_refused_now GR.ok (hr.mono (by decide)) GR.b .nil pass0) rfl) (pss_cons (ps_fld (pv 0) (pe_meth0 (pv 2) C.cls_Sheet C.me_Sheet_inner GI.ok (hr.mono (by decide)) GI.b .nil pass0) rfl) (pss_cons (ps_fld (pv 0) (pe_callTy call_tuple_of (by rfl) C.f_tuple boot_tuple (pa_cons (pe_fld (pv 1) rfl) pa_nil)) rfl) (pss_one (ps_fld (pv 0) (pe_callTy call_tuple_of (by rfl) C.f_tuple boot_tuple (pa_cons (pe_callB cr_sortedS (by rfl) C.f_sorted (by decide +kernel) (pa_cons (pe_lock (pe_lc (own := [("goal", 3)]) (g := gName 3) (tt := tYes) rfl nd (pi_keys (pe_fld (pv 1) rfl)) (blkOk_by (N := N_played_init) (sc := defScope s_played_init) (by decide +kernel)) (fun _ _ _ _ _ => (pg_name (i := 3) nd rfl (Or.inl rfl))) (fun _ _ _ _ _ => pts_nil) (fun _ _ _ _ _ => (pe_callTy SkE.call_str_str (by rfl) C.f_str boot_str (pa_cons (pv 3) pa_nil))))) pa_nil)) pa_nil)) rfl))))))))))))), ?_⟩
    -- p alone is written
    have ck : ∀ {H'}, Kp p H H' → CourseAt K H' P N cs := fun {H'} kp => by
      have n7 := hne
      have c0 := hst.c
      obtain ⟨dx0, af, aco, c1, c2, c3⟩ := c0.co
      have tk : TK H H' := fun q xs e => kp _ _ e (ne_of e hp (by intro q; cases q))
      have q1 := hne P.c (by simp [Pl.ms])
      refine ⟨⟨dx0, af, aco, kp _ _ c1 q1, c2.kept tk, tk _ _ c3⟩, c0.st.kept fun c o e q => ?_, c0.mo.kept tk fun xs e => kp _ _ e (hne _ (by simp [Pl.ms])), kp _ _ c0.sh (hne _ (by simp [Pl.ms])), kp _ _ c0.dn (hne _ (by simp [Pl.ms])), kp _ _ c0.fl (hne _ (by simp [Pl.ms])), kp _ _ c0.ga (hne _ (by simp [Pl.ms]))⟩
      rcases q with rfl | ⟨xs, rfl⟩
      · exact kp _ _ e (hne _ (by simp [Pl.ms]))
      · exact tk _ _ e
    have cf : ∀ {H'}, Kp p H H' → ∃ dxc af aco, H' P.c = some (.ins (He.ga K "Course") dxc (coF K P af aco (.str (N.v cs.value)) (.int (cs.behind : Nat)) (.bl cs.told))) := fun {H'} kp => by
      obtain ⟨a, b, c, d, _⟩ := (ck kp).co
      exact ⟨a, b, c, d⟩
    have sf : ∀ {H'}, Kp p H H' → ∃ dxs ak ac ao, H' P.a = some (.ins (He.ga K "Sheet") dxs (shF P.b P.pg ak ac ao (.str (N.v cs.S.base)) (.int (cs.S.heard : Nat)))) ∧ H' ao = some (.tup (inL cs.S.opn)) := fun {H'} kp => by
      obtain ⟨a, b, c, d, e, f, g, h⟩ := (ck kp).st
      exact ⟨a, b, c, d, e, h⟩
    obtain ⟨d0, f0, m0, c0⟩ := cf (H' := H) Kp.refl
    refine ⟨_, rfl, P.c, _, d0, _, _, rfl, c0, C.cls_Course, C.no_Course_sheet, rfl, ?_⟩
    refine ⟨_, rfl, P.c, _, d0, _, _, rfl, c0, C.cls_Course, C.no_Course_shown, rfl, P.sh, _, rfl, .inl ⟨SqL.of hst.c.sh, fun a1 ha1 => ?_⟩⟩
    have s1 := same_new (H := H) (p := a1) (o := HO.tup (stL (cs.shown.map N.v))) ha1; have a11 : (upd H a1 (HO.tup (stL (cs.shown.map N.v)))) a1 = some (HO.tup (stL (cs.shown.map N.v))) := upd_same; generalize upd H a1 (HO.tup (stL (cs.shown.map N.v))) = H1 at s1 a11 ⊢
    have n1 : a1 ≠ p := fun e => by rw [e, hp] at ha1; cases ha1
    refine ⟨_, rfl, p, _, dx, _, rfl, s1 _ _ hp, C.cls_Played, C.no_Played_shown, (by show 0 < 1000; decide), stp fun H2 k2 p2 => ?_⟩
    have kk2 := (Kp.of (p := p) s1).trans k2
    obtain ⟨d2, f2, m2, c2⟩ := cf kk2
    refine ⟨_, rfl, P.c, _, d2, _, _, rfl, c2, C.cls_Course, C.no_Course_value, rfl, _, rfl, p, _, dx, _, rfl, p2, C.cls_Played, C.no_Played_value, (by show 1 < 1000; decide), stp fun H3 k3 p3 => ?_⟩
    have kk3 := kk2.trans k3
    obtain ⟨d3, ak3, ac3, ao3, c3, _⟩ := sf kk3
    refine ⟨_, rfl, P.a, _, d3, _, _, rfl, c3, C.cls_Sheet, C.no_Sheet_base, rfl, _, rfl, p, _, dx, _, rfl, p3, C.cls_Played, C.no_Played_base, (by show 2 < 1000; decide), stp fun H4 k4 p4 => ?_⟩
    have kk4 := kk3.trans k4
    obtain ⟨d4, ak4, ac4, a2, c4, o4⟩ := sf kk4
    have n2 : a2 ≠ p := ne_of o4 p4 (by intro q; cases q)
    refine ⟨_, rfl, P.a, _, d4, _, _, rfl, c4, C.cls_Sheet, C.no_Sheet_open_ones, rfl, _, rfl, p, _, dx, _, rfl, p4, C.cls_Played, C.no_Played_opened, (by show 3 < 1000; decide), stp fun H5 k5 p5 => ?_⟩
    have kk5 := kk4.trans k5
    obtain ⟨d5, ak5, ac5, ao5, c5, _⟩ := sf kk5
    refine ⟨_, rfl, P.a, _, d5, _, _, rfl, c5, C.cls_Sheet, C.no_Sheet_heard, rfl, _, rfl, p, _, dx, _, rfl, p5, C.cls_Played, C.no_Played_heard, (by show 4 < 1000; decide), stp fun H6 k6 p6 => ?_⟩
    have kk6 := kk5.trans k6
    obtain ⟨d6, f6, m6, c6⟩ := cf kk6
    refine ⟨_, rfl, P.c, _, d6, _, _, rfl, c6, C.cls_Course, C.no_Course_done, rfl, P.dn, _, rfl, .inl ⟨SqL.of (ck kk6).dn, fun a3 ha3 => ?_⟩⟩
    have s7 := same_new (H := H6) (p := a3) (o := HO.tup (cs.done.map optI)) ha3; have a37 : (upd H6 a3 (HO.tup (cs.done.map optI))) a3 = some (HO.tup (cs.done.map optI)) := upd_same; generalize upd H6 a3 (HO.tup (cs.done.map optI)) = H7 at s7 a37 ⊢
    have n3 : a3 ≠ p := fun e => by rw [e, p6] at ha3; cases ha3
    refine ⟨_, rfl, p, _, dx, _, rfl, s7 _ _ p6, C.cls_Played, C.no_Played_done, (by show 5 < 1000; decide), stp fun H8 k8 p8 => ?_⟩
    have kk8 := (kk6.trans (.of s7)).trans k8
    obtain ⟨d8, f8, m8, c8⟩ := cf kk8
    refine ⟨_, rfl, P.c, d8, _, rfl, c8, rfl, P, N, cs, rfl, (ck kk8).co, by omega, fun a4 H9 s9 a49 => ?_⟩
    have p9 := s9 _ _ p8
    have n4 : a4 ≠ p := ne_of a49 p9 (by intro q; cases q)
    refine ⟨_, rfl, p, _, dx, _, rfl, p9, C.cls_Played, C.no_Played_accepted, (by show 6 < 1000; decide), stp fun H10 k10 p10 => ?_⟩
    have kk10 := (kk8.trans (.of s9)).trans k10
    obtain ⟨d10, f10, m10, c10⟩ := cf kk10
    refine ⟨_, rfl, P.c, d10, _, rfl, c10, rfl, P, N, cs, rfl, (ck kk10).co, by omega, fun a5 H11 s11 a511 => ?_⟩
    have p11 := s11 _ _ p10
    have n5 : a5 ≠ p := ne_of a511 p11 (by intro q; cases q)
    refine ⟨_, rfl, p, _, dx, _, rfl, p11, C.cls_Played, C.no_Played_refused, (by show 7 < 1000; decide), stp fun H12 k12 p12 => ?_⟩
    have kk12 := (kk10.trans (.of s11)).trans k12
    obtain ⟨d12, ak12, ac12, ao12, c12, _⟩ := sf kk12
    refine ⟨_, rfl, P.a, d12, _, rfl, c12, rfl, P.a, P.b, P.pg, N, M, cs.S, rfl, (ck kk12).st, hst.o.s, fun a6 H13 s13 a613 => ?_⟩
    have p13 := s13 _ _ p12
    have n6 : a6 ≠ p := ne_of a613 p13 (by intro q; cases q)
    refine ⟨_, rfl, p, _, dx, _, rfl, p13, C.cls_Played, C.no_Played_inside, (by show 8 < 1000; decide), stp fun H14 k14 p14 => ?_⟩
    have kk14 := (kk12.trans (.of s13)).trans k14
    obtain ⟨d14, f14, m14, c14⟩ := cf kk14
    refine ⟨_, rfl, P.c, _, d14, _, _, rfl, c14, C.cls_Course, C.no_Course_flickers, rfl, P.fl, _, rfl, .inl ⟨SqL.of (ck kk14).fl, fun a7 ha7 => ?_⟩⟩
    have s15 := same_new (H := H14) (p := a7) (o := HO.tup (inL cs.flick)) ha7; have a715 : (upd H14 a7 (HO.tup (inL cs.flick))) a7 = some (HO.tup (inL cs.flick)) := upd_same; generalize upd H14 a7 (HO.tup (inL cs.flick)) = H15 at s15 a715 ⊢
    have n7 : a7 ≠ p := fun e => by rw [e, p14] at ha7; cases ha7
    refine ⟨_, rfl, p, _, dx, _, rfl, s15 _ _ p14, C.cls_Played, C.no_Played_flickers, (by show 9 < 1000; decide), stp fun H16 k16 p16 => ?_⟩
    have kk16 := (kk14.trans (.of s15)).trans k16
    obtain ⟨d16, f16, m16, c16⟩ := cf kk16
    have hga := (ck kk16).ga
    have hgl := g4_len hst.o.gn hst.o.gs
    have ngc : P.ga ≠ P.c := hst.d.cg.symm
    refine ⟨P.ga, .dK (gaL cs.gained), hga, True.intro, fun od => ?_⟩
    refine ⟨_, rfl, P.c, _, d16, _, _, rfl, (by rw [upd_ne ngc.symm]; exact c16), C.cls_Course, C.no_Course_gained, rfl, P.ga, od, rfl, .inl ⟨_, upd_same, fun D hD => ?_⟩⟩
    refine lc_m walk_keys cs.gained (by unfold gaL; rw [List.length_map]) (small (by omega)) V.str hD (fun H17 t17 => t17 _ _ upd_same) (fun i g x H17 H18 Qy Qn hi t17 y k1 => ?_) (fun H17 t17 hL => ?_)
    · obtain ⟨rfl, kx, v, e1, rfl⟩ := y
      have e2 := map_at (f := fun g => ((Sum.inr g : L2.Key), V.bl true)) hi
      have e3 : (gaL cs.gained)[i]? = some (Sum.inr g, V.bl true) := e2
      rw [e3] at e1
      cases e1
      exact ⟨rfl, yesT ⟨_, rfl, g, rfl, k1 _ (Same.refl _)⟩⟩
    have nDg : D ≠ P.ga := fun e => by rw [e, upd_same] at hD; cases hD
    have s17 : Same H16 (upd H17 P.ga (.dK (gaL cs.gained))) := fun b o e => by
      by_cases hb : b = P.ga
      · subst hb
        rw [upd_same, ← hga, e]
      · rw [upd_ne hb]
        exact t17 _ _ (by rw [upd_ne hb]; exact e)
    refine ⟨t17 _ _ upd_same, D, cs.gained, rfl, SqL.of (by rw [upd_ne nDg, hL]), by omega, fun ys L hperm hsort hL2 => ?_⟩
    refine ⟨L, _, rfl, .inl ⟨SqL.of upd_same, fun a8 ha8 => ?_⟩⟩
    have s18 := s17.trans (same_new (o := HO.lst (ys.map V.str)) hL2)
    have s19 := s18.trans (same_new (o := HO.tup (ys.map V.str)) ha8)
    have p19 := s19 _ _ p16
    have n8 : a8 ≠ p := fun e => by rw [e, s18 _ _ p16] at ha8; cases ha8
    refine ⟨_, rfl, p, _, dx, _, rfl, p19, C.cls_Played, C.no_Played_goals, (by show 10 < 1000; decide), ?_⟩
    have e19 : (upd (upd (upd H17 P.ga (.dK (gaL cs.gained))) L (.lst (ys.map V.str))) a8 (.tup (ys.map V.str))) a8 = some (.tup (stL ys)) := upd_same
    generalize upd (upd (upd H17 P.ga (.dK (gaL cs.gained))) L (.lst (ys.map V.str))) a8 (.tup (ys.map V.str)) = H19 at s19 p19 e19 ⊢
    have p16_ := (Kp.of (p := p) s19).put (o := HO.ins (He.ga K "Played") dx (plF a1 a2 a3 a4 a5 a6 a7 a8 (.str (N.v cs.value)) (.str (N.v cs.S.base)) (.int (cs.S.heard : Nat))))
    have p15_ := k16.trans p16_
    have p14_ := (Kp.of (p := p) s15).trans p15_
    have p13_ := k14.trans p14_
    have p11_ := k12.trans ((Kp.of (p := p) s13).trans p13_)
    have p9_ := k10.trans ((Kp.of (p := p) s11).trans p11_)
    have p7_ := k8.trans ((Kp.of (p := p) s9).trans p9_)
    have p6_ := (Kp.of (p := p) s7).trans p7_
    have p4_ := (k5.trans k6).trans p6_
    have p1_ := ((k2.trans k3).trans k4).trans p4_
    have pE := (Kp.of (p := p) s1).trans p1_
    refine k _ (pE.same hst.s hFp) ⟨dx, a1, a2, a3, a4, a5, a6, a7, a8, ys, upd_same, p1_ _ _ a11 n1, p4_ _ _ o4 n2, p7_ _ _ a37 n3, p9_ _ _ a49 n4, p11_ _ _ a511 n5, p13_ _ _ a613 n6, p15_ _ _ a715 n7, ?_, hperm, hsort⟩
    rw [upd_ne n8]
    exact e19
end
end Hp
set_option Elab.async false
set_option linter.all false
set_option maxRecDepth 100000
set_option maxHeartbeats 4000000
namespace Hp
open PySem PySem.Spec PyProof.Rows L2
section
variable {P : Program} {w : World} {K : PySem.W.Frag} {mg : Str → Option Value} {base : Heap}
def spPlay (K : PySem.W.Frag) : Sp := fun vs H Q _ => ∃ (b pg wv : Addr) (N : Nm) (B : IB) (rows : List RowD) (es : List Ev), vs = [.ref b, .ref pg, .ref wv, .ref (He.ga K "MARKS")] ∧ Fr K H b pg N B rows ∧ WeavAt K H wv (es.map (Ev.str N)) ∧ feasAll N B sk0 es ∧ es.length ≤ 20 ∧
  ∀ p H', Same H H' → PlayedAt K H' p N (runM B rows es) → Q (.ref p) H'
theorem h_play (C : Ctx K mg) : ∃ fd, Has P w K mg base 10 (He.fAd K ("play", none)) ["book", "page", "weaving", "marks"] (spPlay K) fd ∧ ∃ ds, Vals [V.ref (He.ga K "MARKS")] ds ∧ Binds K fd ["book", "page", "weaving", "marks"] ds := by
  obtain ⟨fdC, GC⟩ := h_course_init (P := P) (w := w) (base := base) C
  obtain ⟨fdG, GG⟩ := h_go (P := P) (w := w) (base := base) C
  obtain ⟨fdP, GP⟩ := h_played_init (P := P) (w := w) (base := base) C
  obtain ⟨fd, F, b0⟩ := C.bi_play
  refine ⟨fd, ⟨F.ok sc_play (fun vs H Q E h => ?_) fun cdv A outer s H vs Q E hr h => ?_, b0, F.kp⟩, ?_⟩
  · obtain ⟨b, pg, wv, N, B, rows, es, rfl, _⟩ := h
    rfl
  · suffices hh : ∃ t, PSs (cxOf CX0 P w K mg base N_play "play" (defScope s_play) (He.fAd K ("play", none)) cdv A outer s H E).nox (defBody s_play) t ∧ t { nx := fun _ H' => Q .non H', rt := Q } (start N_play vs) H by
      obtain ⟨t, h1, h2⟩ := hh
      exact ⟨t, PSs.nox h1, h2⟩
    obtain ⟨b, pg, wv, N, B, rows, es, rfl, hfr, hwv, hfe, hle, k⟩ := h
    have nd := sc_play.nd
    have hr7 : Room 7 _ := hr.mono (by decide)
    have hr3 : Room 3 _ := hr.mono (by decide)
    obtain ⟨dxw, ae, w1, w2⟩ := hwv
    refine ⟨_, (pss_cons (ps_set (i := 4) nd rfl (Or.inl rfl) (pe_make C.mk_Course GC.ok hr7 (by rfl) C.g_Course GC.b .nil pass0 (pa_cons (pv 0) (pa_cons (pv 1) (pa_cons (pe_callTy call_tuple_of (by rfl) C.f_tuple boot_tuple (pa_cons (pv 3) pa_nil)) pa_nil))))) (pss_cons (ps_for PassesOwn.never rfl (pi_tup (pe_fld (pv 2) rfl)) (pg_name (i := 5) nd rfl (Or.inl rfl)) (pss_one (ps_expr (pe_meth (pv 4) C.cls_Course C.me_Course_go GG.ok (hr.mono (by decide)) GG.b .nil pass0 (pa_cons (pv 5) pa_nil))))) (pss_one (ps_ret (pe_make C.mk_Played GP.ok hr3 (by rfl) C.g_Played GP.b .nil pass0 (pa_cons (pv 4) pa_nil)))))), ?_⟩
    refine ⟨_, rfl, _, rfl, _, rfl, _, _, rfl, .inr ⟨C.t_MARKS H, fun c dxc hc hdc hne => ?_⟩⟩
    have sm : Same H (upd (upd H dxc (.own c)) c (.ins (He.ga K "Course") dxc [])) := (same_new hdc).trans (same_new (by rw [upd_ne hne.symm]; exact hc))
    refine ⟨c, dxc, b, pg, N, B, rfl, upd_same, hfr.b.mono sm, hfr.n, hfr.bo, fun P H1 e1 e2 e3 hNe hnone k1 ca1 => ⟨rfl, ?_⟩⟩
    subst e1 e2 e3
    have s1 : Same H H1 := k1.same sm hc
    have hn : ∀ m ∈ P.ms, H m = none := fun m hm => by
      by_cases e : m = P.c
      · rw [e]; exact hc
      · have q := hnone m hm e
        cases e2 : H m with
        | none => rfl
        | some o => rw [sm _ _ e2] at q; cases q
    have st1 : St K H P N B rows 10 H1 (initC B) := ⟨ca1, hfr, s1, hn, hNe, initC_ok hfr.n hfr.bo (by decide) (by decide), by decide⟩
    refine ⟨_, rfl, wv, _, dxw, _, _, rfl, s1 _ _ w1, C.cls_Weaving, C.no_Weaving_events, rfl, ae, rfl, ⟨_, SqT.of (s1 _ _ w2)⟩, ?_⟩
    refine for_tup (K := K) (a := ae) (xs := stL (es.map (Ev.str N))) (fun i σ' H' => St K H P N B rows (10 + 20 * i) H' ((es.take i).foldl (goM B rows) (initC B)) ∧ ((es.take i).foldl (goM B rows) (initC B)).sk = (es.take i).foldl stepSk sk0 ∧ ∃ x5, σ' = [some (.ref P.b), some (.ref P.pg), some (.ref wv), some (.ref (He.ga K "MARKS")), some (.ref P.c), x5]) ⟨st1, rfl, none, rfl⟩ (fun i σ' H' _ q => SqT.of (q.1.s _ _ w2)) ?_ ?_
    · rintro i x σ' H2 hi ⟨st2, esk, x5, rfl⟩
      have hil : i < es.length := by
        have q := (List.getElem?_eq_some_iff.mp hi).1
        rw [stL_len, List.length_map] at q
        exact q
      have hei : es[i]? = some es[i] := List.getElem?_eq_getElem hil
      obtain rfl : x = .str (es[i].str N) := map_un (f := V.str) (map_at (f := Ev.str N) hei) hi
      have hfi := feasAll_at hfe hei
      rw [← esk] at hfi
      have et : (es.take (i + 1)).foldl (goM B rows) (initC B) = goM B rows ((es.take i).foldl (goM B rows) (initC B)) es[i] := by
        rw [List.take_succ, hei, List.foldl_append]
        rfl
      have et2 : (es.take (i + 1)).foldl stepSk sk0 = stepSk ((es.take i).foldl stepSk sk0) es[i] := by
        rw [List.take_succ, hei, List.foldl_append]
        rfl
      rw [et, et2, ← esk]
      obtain ⟨dx2, af2, aco2, c2, _⟩ := id st2.c.co
      refine ⟨_, rfl, P.c, dx2, _, rfl, c2, rfl, _, rfl, H, P, N, B, rows, 10 + 20 * i, _, es[i], rfl, st2, hfi, by omega, fun H3 g3 ca3 => ⟨?_, goM_sk hfr.bo hfr.ro st2.o hfi (by omega), _, rfl⟩⟩
      have ok3 := goM_ok (rows := rows) hfr.bo hfr.ro st2.o hfi (by omega)
      rw [show 10 + 20 * (i + 1) = 10 + 20 * i + 20 by omega]
      exact st2.next g3 ca3 ok3 (by omega)
    · rintro σ' H2 ⟨st2, _, x5, rfl⟩
      have el : es.take (stL (es.map (Ev.str N))).length = es := by rw [stL_len, List.length_map, List.take_length]
      rw [el] at st2
      refine ⟨_, rfl, fun p dxp hp hdp hnp => ?_⟩
      have sm2 : Same H2 (upd (upd H2 dxp (.own p)) p (.ins (He.ga K "Played") dxp [])) := (same_new hdp).trans (same_new (by rw [upd_ne hnp.symm]; exact hp))
      have hHp : H p = none := by
        cases e : H p with
        | none => rfl
        | some o => rw [st2.s _ _ e] at hp; cases hp
      refine ⟨p, dxp, H, P, N, B, rows, _, _, rfl, upd_same, st2.mono sm2, fun m hm e => ?_, hHp, fun H3 s3 pl => ⟨rfl, k p _ s3 pl⟩⟩
      obtain ⟨o, ho, _⟩ := st2.c.nt m hm
      rw [e, hp] at ho
      cases ho
  · obtain ⟨ds, h1, h2⟩ := FunD.binds1 (ps := ["book", "page", "weaving", "marks"]) F 3 0 (by simp [d_play, He.DefD.dvs]) rfl fun _ _ _ _ _ _ _ us its hl hi => match us, its, hl, hi with | [_, _, _], [_], _, _ => ⟨_, rfl, rfl⟩
    exact ⟨ds, h1, h2⟩
end
end Hp
set_option Elab.async false
set_option linter.all false
set_option maxRecDepth 100000
set_option maxHeartbeats 4000000
namespace Hp
open PySem PySem.Spec PyProof.Rows L2
/-! lists as data -/
theorem lay_all {α : Type} {f : α → PyData} : ∀ {l : List α}, (∀ x ∈ l, (f x).canLay0 = true) → PyData.canLayAll0 (l.map f) = true
  | [], _ => rfl
  | x :: r, h => by
    show (PyData.canLay0 (f x) && PyData.canLayAll0 (r.map f)) = true
    rw [h x List.mem_cons_self, lay_all fun y hy => h y (List.mem_cons_of_mem _ hy)]
    rfl
theorem depth_all {α : Type} {f : α → PyData} {n : Nat} : ∀ {l : List α}, (∀ x ∈ l, (f x).depth ≤ n) → PyData.depthAll (l.map f) ≤ n
  | [], _ => Nat.zero_le _
  | x :: r, h => by
    show max (PyData.depth (f x)) (PyData.depthAll (r.map f)) ≤ n
    exact Nat.max_le.mpr ⟨h x List.mem_cons_self, depth_all fun y hy => h y (List.mem_cons_of_mem _ hy)⟩
theorem shaped_list {α : Type} {f : α → PyData} {l : List α} (h : ∀ x ∈ l, (f x).canLay0 = true) (d : ∀ x ∈ l, (f x).depth ≤ 0) : SeqAt.shaped (.list (l.map f)) = true := by
  have h1 := lay_all h
  have h2 := depth_all d
  unfold SeqAt.shaped
  rw [Bool.and_eq_true_iff]
  refine ⟨h1, decide_eq_true ?_⟩
  show PyData.depthAll (l.map f) + 1 ≤ 64
  omega
theorem dp_all {K : PySem.W.Frag} {H : L2.Hp} {α : Type} {v : α → V} {f : α → PyData} : ∀ {l : List α}, (∀ x ∈ l, Dp K H (v x) (f x)) → DpAll K H (l.map v) (l.map f)
  | [], _ => .nil
  | x :: r, h => .cons (h x List.mem_cons_self) (dp_all fun y hy => h y (List.mem_cons_of_mem _ hy))
theorem shaped_nil : SeqAt.shaped (.list []) = true := rfl
theorem eqv_nil : ∀ (ds : List PyData), PyData.eqv (.list ds) (.list []) = ds.isEmpty
  | [] => rfl
  | _ :: _ => rfl
/-- xs != [] -/
theorem ne_nil {K : PySem.W.Frag} {H : L2.Hp} {α : Type} {v : α → V} {f : α → PyData} {a b : Addr} {l : List α} {Q : VK} (ha : SqL K H a (l.map v)) (hb : SqL K H b []) (hd : ∀ x ∈ l, Dp K H (v x) (f x)) (h : ∀ x ∈ l, (f x).canLay0 = true) (d : ∀ x ∈ l, (f x).depth ≤ 0)
    (q : Q (.bl (!l.isEmpty)) H) : rNeD K (.ref a) (.ref b) H Q := by
  refine ⟨_, _, .lst ha (dp_all hd), .lst hb .nil, shaped_list h d, shaped_nil, ?_⟩
  rw [eqv_nil, List.isEmpty_map]
  exact q
theorem ne_nil_ints {K : PySem.W.Frag} {H : L2.Hp} {a b : Addr} {l : List Int} {Q : VK} (ha : SqL K H a (l.map V.int)) (hb : SqL K H b []) (q : Q (.bl (!l.isEmpty)) H) : rNeD K (.ref a) (.ref b) H Q :=
  ne_nil (f := PyData.int) ha hb (fun x _ => .int x) (fun _ _ => rfl) (fun _ _ => Nat.le_refl _) q
theorem ne_nil_strs {K : PySem.W.Frag} {H : L2.Hp} {a b : Addr} {l : List Str} {Q : VK} (ha : SqL K H a (stL l)) (hb : SqL K H b []) (hs : ∀ z ∈ l, PyData.canLay0 (.str z) = true) (q : Q (.bl (!l.isEmpty)) H) : rNeD K (.ref a) (.ref b) H Q :=
  ne_nil (f := PyData.str) ha hb (fun x _ => .str x) hs (fun _ _ => Nat.le_refl _) q
theorem lay_w44 : ∀ z ∈ W44, PyData.canLay0 (.str z) = true := by decide +kernel
/-! the deal of a script -/
structure DealAt (H : L2.Hp) (d ce : Addr) : Prop where
  n : ce ≠ d
  ex : ∃ (cs : List Int) (bl : Int), H d = some (.lst [.ref ce, .int bl]) ∧ H ce = some (.lst (cs.map V.int)) ∧ 0 ≤ bl ∧ bl < 2147483648 ∧ (∀ c ∈ cs, 0 ≤ c) ∧ cs.length ≤ 63
theorem DealAt.mono {H H' : L2.Hp} {d ce : Addr} (h : DealAt H d ce) (s : Same H H') : DealAt H' d ce := by
  obtain ⟨n, cs, bl, h1, h2, h3⟩ := h
  exact ⟨n, cs, bl, s _ _ h1, s _ _ h2, h3⟩
structure Dl (F H : L2.Hp) (d ce : Addr) : Prop where
  s : Same F H
  nd : F d = none
  nc : F ce = none
  da : DealAt H d ce
abbrev GrD (d ce : Addr) (H H' : L2.Hp) : Prop := Gr [d, ce] H H'
section
variable {F F' H H' : L2.Hp} {d ce p : Addr} {o o0 : HO}
theorem Dl.gr (h : Dl F H d ce) (g : GrD d ce H H') (da : DealAt H' d ce) : Dl F H' d ce := ⟨g.same h.s (fun m hm => by
  have hm' : m = d ∨ m = ce := by simpa using hm
  rcases hm' with rfl | rfl
  · exact h.nd
  · exact h.nc), h.nd, h.nc, da⟩
theorem Dl.mono (h : Dl F H d ce) (s : Same H H') : Dl F H' d ce := ⟨h.s.trans s, h.nd, h.nc, h.da.mono s⟩
theorem Dl.free (h : Dl F H d ce) (n : H p = none) : F p = none := by
  cases e : F p with
  | none => rfl
  | some o => rw [h.s _ _ e] at n; cases n
theorem Dl.some (h : Dl F H d ce) : (∃ o, H d = some o) ∧ ∃ o, H ce = some o := by
  obtain ⟨_, cs, bl, h1, h2, _⟩ := h.da
  exact ⟨⟨_, h1⟩, ⟨_, h2⟩⟩
theorem Same.upd2 (s : Same F H) (hp : H p = none) : Same (upd F p o) (upd H p o) := fun b u e => by
  by_cases hb : b = p
  · subst hb; rw [upd_same] at e ⊢; exact e
  · rw [upd_ne hb] at e ⊢; exact s _ _ e
theorem Dl.new (h : Dl F H d ce) (hp : H p = none) : Dl (upd F p o) (upd H p o) d ce := by
  obtain ⟨⟨o1, e1⟩, ⟨o2, e2⟩⟩ := h.some
  exact ⟨Same.upd2 h.s hp, by rw [upd_ne (ne_of_none e1 hp)]; exact h.nd, by rw [upd_ne (ne_of_none e2 hp)]; exact h.nc, h.da.mono (same_new hp)⟩
theorem Dl.snew (h : Dl F H d ce) (hp : H p = none) : Same F (upd F p o) := same_new (h.free hp)
/-- an object of the caller's own is written -/
theorem Dl.put (h : Dl F H d ce) (hp : F p = Option.some o0) : Dl (upd F p o) (upd H p o) d ce := by
  have n1 : d ≠ p := fun e => by rw [← e, h.nd] at hp; cases hp
  have n2 : ce ≠ p := fun e => by rw [← e, h.nc] at hp; cases hp
  obtain ⟨n, cs, bl, h1, h2, h3⟩ := h.da
  refine ⟨fun b u e => ?_, by rw [upd_ne n1]; exact h.nd, by rw [upd_ne n2]; exact h.nc, n, cs, bl, by rw [upd_ne n1]; exact h1, by rw [upd_ne n2]; exact h2, h3⟩
  by_cases hb : b = p
  · subst hb; rw [upd_same] at e ⊢; exact e
  · rw [upd_ne hb] at e ⊢; exact h.s _ _ e
theorem Same.put (s : Same F F') (n : F p = Option.none) : Same F (upd F' p o) := fun b u e => by
  rw [upd_ne (ne_of_none e n)]
  exact s _ _ e
end
section
variable {P : Program} {w : World} {K : PySem.W.Frag} {mg : Str → Option Value} {base : Heap}
def spLDeal (K : PySem.W.Frag) : Sp := fun vs H Q _ => ∃ (sc : Addr) (zs : List Int), vs = [.ref sc, .int 0] ∧ SqL K H sc (zs.map V.int) ∧ ∀ H' d ce, Same H H' → DealAt H' d ce → H d = none → H ce = none → Q (.ref d) H'
theorem h_l_deal (C : Ctx K mg) : ∃ fd, Has P w K mg base 1 (He.fAd K ("_law_deal", none)) ["_law_script", "_law_base"] (spLDeal K) fd := by
  refine has_of C.fn_l_deal sc_l_deal (fun vs H Q E h => ?_) (fun cdv A outer s H vs Q E hr h => ?_)
  · obtain ⟨sc, zs, rfl, _⟩ := h
    rfl
  · obtain ⟨sc, zs, rfl, hsc, k⟩ := h
    have nd := sc_l_deal.nd
    have sqm : ∀ {H'}, Same H H' → SqL K H' sc (zs.map V.int) := fun {H'} s => by
      rcases hsc with (h | ⟨o, h⟩) | h
      · exact .inl (.inl (s _ _ h))
      · exact .inl (.inr ⟨o, s _ _ h⟩)
      · exact .inr h
    refine ⟨_, (pss_cons (ps_setLc (i := 2) (own := [("_law_cell", 3)]) (g := gName 3) (tt := tYes) rfl nd rfl rfl rfl (pi_list (pe_slice sl_list (pv 0) (po_some (pv 1)) (po_some pe_int))) (blkOk_by (N := N_l_deal) (sc := defScope s_l_deal) (by decide +kernel)) (fun _ _ _ _ _ => (pg_name (i := 3) nd rfl (Or.inl rfl))) (fun _ _ _ _ _ => pts_nil) (fun _ _ _ _ _ => (pe_callB call_abs (by rfl) C.f_abs boot_abs (pa_cons (pv 3) pa_nil)))) (pss_cons (ps_set (i := 4) nd rfl (Or.inl rfl) (pe_add pe_int (pe_op op_mul pe_int (pv 1)))) (pss_cons (ps_for PassesOwn.never rfl (pi_list (pv 2)) (pg_name (i := 3) nd rfl (Or.inl rfl)) (pss_one (ps_set (i := 4) nd rfl (Or.inl rfl) (pe_op op_mod (pe_callTy call_int1 (by rfl) C.f_int boot_int (pa_cons (pe_add (pe_op op_mul (pv 4) pe_int) (pe_op op_mod (pe_callTy call_int1 (by rfl) C.f_int boot_int (pa_cons (pv 3) pa_nil)) pe_int)) pa_nil)) pe_int)))) (pss_one (ps_ret (pe_lst (pa_cons (pe_revL (pe_lc (own := [("_law_cell", 3)]) (g := gName 3) rfl nd (pi_list (pv 2)) (blkOk_by (N := N_l_deal) (sc := defScope s_l_deal) (by decide +kernel)) (fun _ _ _ _ _ => (pg_name (i := 3) nd rfl (Or.inl rfl))) (fun _ _ _ _ _ => pts_one (pt_cmpR op_ge (pv 3) (pe_op op_pow pe_int pe_int) (nomark _))) (fun _ _ _ _ _ => pv 3))) (pa_cons (pv 4) pa_nil)))))))), ?_⟩
    refine ⟨_, rfl, _, rfl, 0, rfl, 63, rfl, sc, _, rfl, hsc, fun p1 hp1 => ?_⟩
    obtain ⟨ks, hks, hkl⟩ : ∃ ks : List Int, cutV (zs.map V.int) (some 0) (some 63) = ks.map V.int ∧ ks.length ≤ 63 := by
      refine ⟨(zs.drop (HT.sIx (zs.map V.int).length 0 (some 0))).take (HT.sIx (zs.map V.int).length (zs.map V.int).length (some 63) - HT.sIx (zs.map V.int).length 0 (some 0)), ?_, ?_⟩
      · unfold cutV
        rw [← List.map_drop, ← List.map_take]
      · rw [List.length_take]
        have h1 : HT.sIx (zs.map V.int).length (zs.map V.int).length (some 63) = min 63 (zs.map V.int).length := HT.sIx_nat _ _ 63
        rw [h1]
        omega
    rw [hks]
    have s1 := same_new (o := .lst (ks.map V.int)) hp1
    have e1 : (upd H p1 (.lst (ks.map V.int))) p1 = some (.lst (ks.map V.int)) := upd_same
    generalize upd H p1 (.lst (ks.map V.int)) = H1 at s1 e1 ⊢
    refine ⟨p1, rfl, ⟨_, SqL.of e1⟩, fun D hD => ?_⟩
    refine lc_m walk_list ks (List.length_map ..) (small (by omega)) (fun c => .int (if c < 0 then -c else c)) hD (fun H2 s2 => SqL.of (s2 _ _ e1)) (fun i z x H2 H3 Qy Qn hi s2 y k1 => ?_) (fun H2 s2 hL => ?_)
    · obtain ⟨rfl, e2⟩ := y
      obtain rfl : x = .int z := map_un hi e2
      exact ⟨rfl, yesT ⟨_, rfl, z, rfl, k1 _ (Same.refl _)⟩⟩
    have hL' : H2 D = some (.lst ((ks.map fun c => if c < 0 then -c else c).map V.int)) := by rw [hL, List.map_map]; rfl
    have hab : ∀ c ∈ (ks.map fun c => if c < 0 then -c else c), (0 : Int) ≤ c := fun c hc => by
      obtain ⟨z, _, rfl⟩ := List.mem_map.mp hc
      split <;> omega
    have hal : (ks.map fun c => if c < 0 then -c else c).length ≤ 63 := by rw [List.length_map]; exact hkl
    generalize (ks.map fun c => if c < 0 then -c else c) = as at hL' hab hal
    refine ⟨_, rfl, _, _, rfl, rfl, .inl ⟨by decide, by decide⟩, _, _, rfl, rfl, ?_⟩
    have s12 := s1.trans s2
    refine ⟨_, rfl, D, rfl, ⟨_, SqL.of hL'⟩, for_list (K := K) (a := D) (xs := as.map V.int) (fun i σ' H' => Same H2 H' ∧ ∃ (x3 : Option V) (bl : Int), 0 ≤ bl ∧ bl < 2147483648 ∧ σ' = [some (.ref sc), some (.int 0), some (.ref D), x3, some (.int bl)]) ⟨Same.refl _, none, _, by decide, by decide, rfl⟩ (fun i σ' H' _ q => SqL.of (q.1 _ _ hL')) ?_ ?_⟩
    · rintro i x σ' H3 hi ⟨s3, x3, bl, b1, b2, rfl⟩
      have hil : i < as.length := by
        have q := (List.getElem?_eq_some_iff.mp hi).1
        rw [List.length_map] at q
        exact q
      obtain rfl : x = .int as[i] := map_un (f := V.int) (List.getElem?_eq_getElem hil) hi
      refine ⟨_, rfl, _, _, rfl, rfl, .inl ⟨by omega, by omega⟩, _, rfl, .inl ⟨_, rfl, _, _, rfl, rfl, (by show (0 : Int) < 2147483629; decide), _, _, rfl, rfl, .inl ⟨_, rfl, _, _, rfl, rfl, (by show (0 : Int) < 2147483647; decide), ?_⟩⟩⟩
      exact ⟨s3, _, _, Int.emod_nonneg _ (by decide), Int.lt_trans (Int.emod_lt_of_pos _ (by decide)) (by decide), rfl⟩
    · rintro σ' H3 ⟨s3, x3, bl, b1, b2, rfl⟩
      have hL3 := s3 _ _ hL'
      refine ⟨_, rfl, D, rfl, ⟨_, SqL.of hL3⟩, fun D2 hD2 => ?_⟩
      refine lc_p walk_list as (List.length_map ..) (small (by omega)) (fun c => decide (c ≥ (10 : Int) ^ 18)) V.int hD2 (fun H4 s4 => SqL.of (s4 _ _ hL3)) (fun i z x H4 H5 Qy Qn hi s4 y k1 k2 => ?_) (fun H4 s4 hM => ?_)
      · obtain ⟨rfl, e2⟩ := y
        obtain rfl : x = .int z := map_un hi e2
        refine ⟨rfl, _, rfl, _, _, rfl, rfl, ⟨by decide, by decide, by decide⟩, _, _, rfl, rfl, _, rfl, ?_⟩
        exact ite2 (fun h => ⟨_, rfl, k1 h _ (Same.refl _)⟩) (fun h => k2 (by simpa using h) _ (Same.refl _))
      refine ⟨D2, _, rfl, SqL.of hM, fun p5 hp5 => ?_⟩
      rw [← List.map_reverse]
      have hcs : ∀ c ∈ (as.filter fun c => decide (c ≥ (10 : Int) ^ 18)).reverse, (0 : Int) ≤ c := fun c hc => hab c (List.mem_filter.mp (List.mem_reverse.mp hc)).1
      have hcl : (as.filter fun c => decide (c ≥ (10 : Int) ^ 18)).reverse.length ≤ 63 := by
        rw [List.length_reverse]
        exact Nat.le_trans (List.length_filter_le _ _) hal
      generalize (as.filter fun c => decide (c ≥ (10 : Int) ^ 18)).reverse = cs at hcs hcl ⊢
      refine ⟨_, rfl, (by show 2 ≤ sizeLine; decide), fun d hd => ?_⟩
      have s4 := (s12.trans s3).trans s4
      have s5 := s4.trans (same_new (o := HO.lst (cs.map V.int)) hp5)
      have np : p5 ≠ d := fun e => by rw [← e, upd_same] at hd; cases hd
      refine k _ d p5 (s5.trans (same_new hd)) ⟨np, cs, bl, upd_same, by rw [upd_ne np, upd_same], b1, b2, hcs, hcl⟩ ?_ ?_
      · cases e : H d with
        | none => rfl
        | some o => rw [s5 _ _ e] at hd; cases hd
      · cases e : H p5 with
        | none => rfl
        | some o => rw [s4 _ _ e] at hp5; cases hp5
end
end Hp
set_option Elab.async false
set_option linter.all false
set_option maxRecDepth 100000
set_option maxHeartbeats 4000000
namespace Hp
open PySem PySem.Spec PyProof.Rows L2
def tDeal (i : Nat) (f : List Int → Bool) : TT := fun σ H Q => ∃ (d ce : Addr) (cs : List Int) (bl : Int), σ[i]? = some (some (.ref d)) ∧ H d = some (.lst [.ref ce, .int bl]) ∧ H ce = some (.lst (cs.map V.int)) ∧ ∀ H', Same H H' → Q (f cs) H'
def lastZ (cs : List Int) : Bool := match cs.getLast? with
  | none => false
  | some z => decide (z = 0)
theorem at_last {cs : List Int} {z : Int} (h : cs.getLast? = some z) : atI (cs.map V.int) (-1) = some (.int z) := by
  have hl : 0 < cs.length := by
    cases cs with
    | nil => cases h
    | cons a r => exact Nat.succ_pos _
  have hi : ixN cs.length (-1) = some (cs.length - 1) := by
    unfold ixN
    rw [if_neg (by decide), if_pos (by omega)]
    congr 1
    omega
  unfold atI
  rw [List.length_map, hi]
  show (cs.map V.int)[cs.length - 1]? = _
  rw [List.getElem?_map, ← List.getLast?_eq_getElem?, h]
  rfl
section
variable {P : Program} {w : World} {K : PySem.W.Frag} {mg : Str → Option Value} {base : Heap}
def spDraw (K : PySem.W.Frag) : Sp := fun vs H Q _ => ∃ (d ce : Addr) (n : Nat), vs = [.ref d, .int (n : Nat)] ∧ DealAt H d ce ∧ 0 < n ∧ n ≤ 1000 ∧ ∀ H' (r : Nat), GrD d ce H H' → DealAt H' d ce → r < n → Q (.int (r : Nat)) H'
theorem h_l_draw (C : Ctx K mg) : ∃ fd, Has P w K mg base 1 (He.fAd K ("_law_draw", none)) ["_law_deal_here", "_law_amount"] (spDraw K) fd := by
  refine has_of C.fn_l_draw sc_l_draw (fun vs H Q E h => ?_) (fun cdv A outer s H vs Q E hr h => ?_)
  · obtain ⟨d, ce, n, rfl, _⟩ := h
    rfl
  · obtain ⟨d, ce, n, rfl, ⟨nc, cs, bl, hd, hc, b1, b2, hcs, hcl⟩, n1, n2, k⟩ := h
    have nd := sc_l_draw.nd
    have z0 : ([] : List V).length ≤ sizeLine := Nat.zero_le _
    have a0 : ∀ {ce : Addr} {bl : Int}, atI [V.ref ce, V.int bl] 0 = some (.ref ce) := rfl
    have a1 : ∀ {ce : Addr} {bl : Int}, atI [V.ref ce, V.int bl] 1 = some (.int bl) := rfl
    refine ⟨_, (pss_cons (ps_while PassesOwn.never (pt_weak (t' := tDeal 0 lastZ) (PW.pt (pw_and (pt_cmpR (op_neD hr.units) (pe_ix ix_list (pv 0) pe_int (fun _ _ => rfl)) (pe_lst pa_nil) (nomark _)) (pw_and1 (pt_cmpR op_eq (pe_ix ix_list (pe_ix ix_list (pv 0) pe_int (fun _ _ => rfl)) (pe_un un_neg pe_int) (fun _ _ => rfl)) pe_int (nomark _))))) (fun σ H Q q => by
        obtain ⟨d, ce, cs, bl, e0, hd, hc, q⟩ := q
        refine ⟨_, e0, d, _, _, _, rfl, rfl, SqL.of hd, a0, z0, fun p hp => ne_nil_ints (SqL.of (same_new hp _ _ hc)) (SqL.of upd_same) ⟨_, rfl, ?_⟩⟩
        cases e : cs.getLast? with
        | none =>
          have en : cs = [] := List.getLast?_eq_none_iff.mp e
          subst en
          exact ifF rfl (q _ (same_new hp))
        | some z =>
          have ez : (!cs.isEmpty) = true := by
            cases cs with
            | nil => cases e
            | cons a r => rfl
          refine ifT ez ⟨_, e0, d, _, _, _, rfl, rfl, SqL.of (same_new hp _ _ hd), a0, 1, rfl, ce, _, _, _, rfl, rfl, SqL.of (same_new hp _ _ hc), at_last e, rfl, _, rfl, ?_⟩
          rw [dec_intV]
          have q1 := q _ (same_new (o := .lst []) hp)
          unfold lastZ at q1
          rw [e] at q1
          exact q1)) (pss_one (ps_expr (pe_bm0 PySem.F.plainAttrs_list PySem.F.slot_list_pop PySem.F.type_list_pop mt_pop (pe_ix ix_list (pv 0) pe_int (fun _ _ => rfl)))))) (pss_cons (ps_if (pt_weak (t' := tDeal 0 (fun cs => !cs.isEmpty)) (pt_cmpR (op_neD hr.units) (pe_ix ix_list (pv 0) pe_int (fun _ _ => rfl)) (pe_lst pa_nil) (nomark _)) (fun σ H Q q => by
        obtain ⟨d, ce, cs, bl, e0, hd, hc, q⟩ := q
        exact ⟨_, e0, d, _, _, _, rfl, rfl, SqL.of hd, a0, z0, fun p hp => ne_nil_ints (SqL.of (same_new hp _ _ hc)) (SqL.of upd_same) ⟨_, rfl, q _ (same_new hp)⟩⟩))
        (pss_cons (ps_set (i := 2) nd rfl (Or.inl rfl) (pe_bm0 PySem.F.plainAttrs_list PySem.F.slot_list_pop PySem.F.type_list_pop mt_pop (pe_ix ix_list (pv 0) pe_int (fun _ _ => rfl)))) (pss_cons (ps_expr (pe_bm PySem.F.plainAttrs_list PySem.F.slot_list_append PySem.F.type_list_append mt_append (pe_ix ix_list (pv 0) pe_int (fun _ _ => rfl)) (pa_cons (pe_op op_fdiv (pv 2) (pv 1)) pa_nil))) (pss_one (ps_ret (pe_op op_mod (pe_callTy call_int1 (by rfl) C.f_int boot_int (pa_cons (pv 2) pa_nil)) (pv 1)))))) pss_nil) (pss_cons (ps_asg (pe_op op_mod (pe_callTy call_int1 (by rfl) C.f_int boot_int (pa_cons (pe_add (pe_op op_mul (pe_ix ix_list (pv 0) pe_int (fun _ _ => rfl)) pe_int) pe_int) pa_nil)) pe_int) (pg_sub (pv 0) pe_int set_list (fun _ => rfl))) (pss_one (ps_ret (pe_op op_mod (pe_callTy call_int1 (by rfl) C.f_int boot_int (pa_cons (pe_op op_fdiv (pe_ix ix_list (pv 0) pe_int (fun _ _ => rfl)) pe_int) pa_nil)) (pv 1))))))), ?_⟩
    refine while_by (fun σ' H' => GrD d ce H H' ∧ ∃ cs' : List Int, H' d = some (.lst [.ref ce, .int bl]) ∧ H' ce = some (.lst (cs'.map V.int)) ∧ (∀ c ∈ cs', 0 ≤ c) ∧ cs'.length ≤ 63 ∧ σ' = [some (.ref d), some (.int (n : Nat)), none])
      (fun σ' H' => match H' ce with | some (.lst xs) => xs.length | _ => 0) ⟨Gr.refl, cs, hd, hc, hcs, hcl, rfl⟩ ?_ (fun σ H Q Q' hq h => by
        obtain ⟨d, ce, cs, bl, e0, hd, hc, q⟩ := h
        exact ⟨d, ce, cs, bl, e0, hd, hc, fun H' s' => hq _ _ (q H' s')⟩)
    rintro σ' H1 ⟨g1, cs1, d1, c1, n1', l1, rfl⟩
    refine ⟨d, ce, cs1, bl, rfl, d1, c1, fun H2 s2 => ?_⟩
    have d2 := s2 _ _ d1
    have c2 := s2 _ _ c1
    have g2 := g1.trans (Gr.of s2)
    have grce : ∀ {H3 : L2.Hp} {o : HO}, GrD d ce H H3 → GrD d ce H (upd H3 ce o) := fun {H3 o} g b u e nb => by
      rw [upd_ne (fun z => nb (by rw [z]; simp))]
      exact g _ _ e nb
    have grd : ∀ {H3 : L2.Hp} {o : HO}, GrD d ce H H3 → GrD d ce H (upd H3 d o) := fun {H3 o} g b u e nb => by
      rw [upd_ne (fun z => nb (by rw [z]; simp))]
      exact g _ _ e nb
    have popl : ∀ {cs : List Int} {z : Int}, cs.getLast? = some z → (cs.map V.int)[(cs.map V.int).length - 1]? = some (.int z) ∧ (cs.map V.int).dropLast = cs.dropLast.map V.int ∧ 0 < cs.length := fun {cs z} h => by
      refine ⟨by rw [List.length_map, List.getElem?_map, ← List.getLast?_eq_getElem?, h]; rfl, List.map_dropLast.symm, ?_⟩
      cases cs with
      | nil => cases h
      | cons a r => exact Nat.succ_pos _
    cases hz : lastZ cs1 with
    | true =>
      refine iteT ?_
      cases e : cs1.getLast? with
      | none => unfold lastZ at hz; rw [e] at hz; cases hz
      | some z =>
        obtain ⟨e1, e2, e3⟩ := popl e
        refine ⟨_, rfl, d, _, _, _, rfl, rfl, SqL.of d2, a0, .inl ⟨rfl, _, SqL.of c2⟩, ce, _, _, rfl, rfl, c2, e1, ?_⟩
        rw [e2]
        refine ⟨⟨grce g2, cs1.dropLast, by rw [upd_ne nc.symm]; exact d2, upd_same, fun c hc => n1' c (List.dropLast_subset _ hc), by rw [List.length_dropLast]; omega, rfl⟩, ?_⟩
        show (match (upd H2 ce (.lst (cs1.dropLast.map V.int))) ce with | some (.lst xs) => xs.length | _ => 0) < (match H1 ce with | some (.lst xs) => xs.length | _ => 0)
        rw [upd_same, c1]
        show (cs1.dropLast.map V.int).length < (cs1.map V.int).length
        rw [List.length_map, List.length_map, List.length_dropLast]
        omega
    | false =>
      refine iteF ?_
      refine ⟨d, ce, cs1, bl, rfl, d2, c2, fun H3 s3 => ?_⟩
      have d3 := s3 _ _ d2
      have c3 := s3 _ _ c2
      have g3 := g2.trans (Gr.of s3)
      have nn : (0 : Int) < (n : Nat) := by omega
      cases e : cs1.getLast? with
      | none =>
        have en : cs1 = [] := List.getLast?_eq_none_iff.mp e
        subst en
        refine ifF rfl ?_
        refine ⟨_, rfl, d, _, _, _, rfl, rfl, SqL.of d3, a1, _, _, rfl, rfl, .inl ⟨by omega, by omega⟩, _, _, rfl, rfl, .inl ⟨_, rfl, _, _, rfl, rfl, (by show (0 : Int) < 2147483647; decide), ?_⟩⟩
        have m1 : 0 ≤ (bl * 48271 + 11) % 2147483647 := Int.emod_nonneg _ (by decide)
        have m2 : (bl * 48271 + 11) % 2147483647 < 2147483648 := Int.lt_trans (Int.emod_lt_of_pos _ (by decide)) (by decide)
        refine ⟨_, rfl, d, _, 1, 1, rfl, rfl, d3, rfl, ?_⟩
        have d4 : (upd H3 d (.lst [.ref ce, .int ((bl * 48271 + 11) % 2147483647)])) d = some (.lst [.ref ce, .int ((bl * 48271 + 11) % 2147483647)]) := upd_same
        have c4 : (upd H3 d (.lst [.ref ce, .int ((bl * 48271 + 11) % 2147483647)])) ce = _ := (upd_ne nc).trans c3
        have g4 := grd (o := .lst [.ref ce, .int ((bl * 48271 + 11) % 2147483647)]) g3
        refine ⟨_, rfl, d, _, _, _, rfl, rfl, SqL.of d4, a1, _, _, rfl, rfl, ⟨by decide, by decide⟩, .inl ⟨_, rfl, _, rfl, _, _, rfl, rfl, nn, ?_⟩⟩
        show Q (.int (((bl * 48271 + 11) % 2147483647 / 8) % (n : Int))) (upd H3 d (.lst [.ref ce, .int ((bl * 48271 + 11) % 2147483647)]))
        generalize (bl * 48271 + 11) % 2147483647 = b' at *
        have r1 : 0 ≤ (b' / 8) % (n : Int) := Int.emod_nonneg _ (by omega)
        have r2 : (b' / 8) % (n : Int) < n := Int.emod_lt_of_pos _ nn
        obtain ⟨r, hr'⟩ : ∃ r : Nat, (b' / 8) % (n : Int) = (r : Int) := ⟨((b' / 8) % (n : Int)).toNat, by omega⟩
        rw [hr'] at r2 ⊢
        exact k _ r g4 ⟨nc, [], b', d4, c4, m1, m2, n1', l1⟩ (by omega)
      | some z =>
        obtain ⟨e1, e2, e3⟩ := popl e
        have ez : (!cs1.isEmpty) = true := by
          cases cs1 with
          | nil => cases e
          | cons a r => rfl
        have hz0 : 0 ≤ z := n1' z (List.mem_of_getLast? e)
        refine ifT ez ⟨_, rfl, d, _, _, _, rfl, rfl, SqL.of d3, a0, .inl ⟨rfl, _, SqL.of c3⟩, ce, _, _, rfl, rfl, c3, e1, ?_⟩
        rw [e2]
        have d4 : (upd H3 ce (.lst (cs1.dropLast.map V.int))) d = _ := (upd_ne nc.symm).trans d3
        have c4 : (upd H3 ce (.lst (cs1.dropLast.map V.int))) ce = _ := upd_same
        have g4 := grce (o := .lst (cs1.dropLast.map V.int)) g3
        generalize upd H3 ce (.lst (cs1.dropLast.map V.int)) = H4 at d4 c4 g4 ⊢
        refine ⟨_, rfl, d, _, _, _, rfl, rfl, SqL.of d4, a0, .inl ⟨rfl, _, SqL.of c4⟩, _, rfl, _, rfl, _, _, rfl, rfl, ⟨nn, by show (n : Int) < 1073741824; omega⟩, ce, _, _, rfl, rfl, c4, smallL (by rw [List.length_map, List.length_dropLast]; omega), ?_⟩
        have ec : cs1.dropLast.map V.int ++ [.int (z / (n : Int))] = (cs1.dropLast ++ [z / (n : Int)]).map V.int := by rw [List.map_append]; rfl
        rw [ec]
        refine ⟨_, rfl, .inl ⟨_, rfl, _, rfl, _, _, rfl, rfl, nn, ?_⟩⟩
        have r1 : 0 ≤ z % (n : Int) := Int.emod_nonneg _ (by omega)
        have r2 : z % (n : Int) < n := Int.emod_lt_of_pos _ nn
        obtain ⟨r, hr'⟩ : ∃ r : Nat, z % (n : Int) = (r : Int) := ⟨(z % (n : Int)).toNat, by omega⟩
        show Q (.int (z % (n : Int))) _
        rw [hr'] at r2 ⊢
        refine k _ r (grce g4) ⟨nc, cs1.dropLast ++ [z / (n : Int)], bl, (by rw [upd_ne nc.symm]; exact d4), upd_same, b1, b2, fun c hc => ?_, ?_⟩ (by omega)
        · rcases List.mem_append.mp hc with q | q
          · exact n1' c (List.dropLast_subset _ q)
          · have q' : c = z / (n : Int) := by simpa using q
            rw [q']
            exact Int.ediv_nonneg hz0 (by omega)
        · rw [List.length_append, List.length_dropLast]
          show _ + 1 ≤ _
          omega
end
end Hp
set_option Elab.async false
set_option linter.all false
set_option maxRecDepth 100000
set_option maxHeartbeats 4000000
namespace Hp
open PySem PySem.Spec PyProof.Rows L2
def tNe (i : Nat) : TT := fun σ H Q => ∃ (l : Addr) (zs : List Str), σ[i]? = some (some (.ref l)) ∧ H l = some (.lst (stL zs)) ∧ (∀ z ∈ zs, PyData.canLay0 (.str z) = true) ∧ ∀ H', Same H H' → Q (!zs.isEmpty) H'
theorem erase_map {α β : Type} (f : α → β) : ∀ (l : List α) (i : Nat), (l.map f).eraseIdx i = (l.eraseIdx i).map f
  | [], _ => rfl
  | _ :: _, 0 => rfl
  | a :: l, i + 1 => by
    show f a :: (l.map f).eraseIdx i = f a :: (l.eraseIdx i).map f
    rw [erase_map f l i]
theorem erase_perm {α : Type} : ∀ (l : List α) (i : Nat) (h : i < l.length), (l[i] :: l.eraseIdx i).Perm l
  | [], _, h => absurd h (Nat.not_lt_zero _)
  | a :: l, 0, _ => List.Perm.refl _
  | a :: l, i + 1, h => (List.Perm.swap a (l[i]'(Nat.lt_of_succ_lt_succ h)) (l.eraseIdx i)).trans ((erase_perm l i (Nat.lt_of_succ_lt_succ h)).cons a)
theorem seqI {r n : Nat} (h : r < n) : seqIndex? (r : Int) n = some r := by
  unfold seqIndex?
  simp
  omega
section
variable {P : Program} {w : World} {K : PySem.W.Frag} {mg : Str → Option Value} {base : Heap}
def spMixed (K : PySem.W.Frag) : Sp := fun vs H Q _ => ∃ (F : L2.Hp) (d ce a : Addr) (zs : List Str), vs = [.ref d, .ref a] ∧ Dl F H d ce ∧ F a = some (.lst (stL zs)) ∧ (∀ z ∈ zs, PyData.canLay0 (.str z) = true) ∧ zs.length ≤ 100 ∧
  ∀ (F' H' : L2.Hp) (p : Addr) (ys : List Str), Same F F' → Dl F' H' d ce → F' p = some (.lst (stL ys)) → ys.Perm zs → Q (.ref p) H'
theorem h_l_mixed (C : Ctx K mg) : ∃ fd, Has P w K mg base 2 (He.fAd K ("_law_mixed", none)) ["_law_deal_here", "_law_some"] (spMixed K) fd := by
  obtain ⟨fdD, GD⟩ := h_l_draw (P := P) (w := w) (base := base) C
  refine has_of C.fn_l_mixed sc_l_mixed (fun vs H Q E h => ?_) (fun cdv A outer s H vs Q E hr h => ?_)
  · obtain ⟨F, d, ce, a, zs, rfl, _⟩ := h
    rfl
  · obtain ⟨F, d, ce, a, zs, rfl, hD, ha, hlay, hlen, k⟩ := h
    have nd := sc_l_mixed.nd
    have z0 : ([] : List V).length ≤ sizeLine := Nat.zero_le _
    refine ⟨_, (pss_cons (ps_par (i := 2) (j := 3) rfl nd rfl rfl (by decide) rfl rfl (pa_cons (pe_callTy call_list_of (by rfl) C.f_list boot_list (pa_cons (pv 1) pa_nil)) (pa_cons (pe_lst pa_nil) pa_nil)) rfl) (pss_cons (ps_while PassesOwn.never (pt_weak (t' := tNe 2) (pt_cmpR (op_neD hr.units) (pv 2) (pe_lst pa_nil) (nomark _)) (fun σ H Q q => by
        obtain ⟨l, zs, e0, hl, hz, q⟩ := q
        exact ⟨_, e0, z0, fun p hp => ne_nil_strs (SqL.of (same_new hp _ _ hl)) (SqL.of upd_same) hz ⟨_, rfl, q _ (same_new hp)⟩⟩))
        (pss_one (ps_expr (pe_bm PySem.F.plainAttrs_list PySem.F.slot_list_append PySem.F.type_list_append mt_append (pv 3) (pa_cons (pe_bm PySem.F.plainAttrs_list PySem.F.slot_list_pop PySem.F.type_list_pop mt_popAt (pv 2) (pa_cons (pe_call GD.ok (hr.mono (by decide)) (by rfl) C.g_l_draw GD.kp GD.b .nil pass0 (pa_cons (pv 0) (pa_cons (pe_callB call_len_seq (by rfl) C.f_len boot_len (pa_cons (pv 2) pa_nil)) pa_nil))) pa_nil)) pa_nil))))) (pss_one (ps_ret (pv 3))))), ?_⟩
    have haH := hD.s _ _ ha
    refine ⟨_, rfl, a, _, rfl, .inl (SqL.of haH), fun l hl => ⟨z0, fun f hf => ⟨_, _, rfl, ?_⟩⟩⟩
    have D1 := hD.new (o := .lst (stL zs)) hl
    have S1 := hD.snew (o := .lst (stL zs)) hl
    have D2 := D1.new (o := .lst []) hf
    have S2 := D1.snew (o := .lst []) hf
    have nlf : l ≠ f := fun e => by rw [← e, upd_same] at hf; cases hf
    have Fl : F l = none := hD.free hl
    have Ff : F f = none := by
      have q := D1.free hf
      rw [upd_ne nlf.symm] at q
      exact q
    refine while_by (fun σ' H' => ∃ (F' : L2.Hp) (left found : List Str), Same F F' ∧ Dl F' H' d ce ∧ F' l = some (.lst (stL left)) ∧ F' f = some (.lst (stL found)) ∧ (left ++ found).Perm zs ∧ σ' = [some (.ref d), some (.ref a), some (.ref l), some (.ref f)])
      (fun σ' H' => match H' l with | some (.lst xs) => xs.length | _ => 0) ⟨_, zs, [], S1.trans S2, D2, (by rw [upd_ne nlf, upd_same]), upd_same, (by rw [List.append_nil]), rfl⟩ ?_ (fun σ H Q Q' hq h => by
        obtain ⟨l, zs, e0, hl, hz, q⟩ := h
        exact ⟨l, zs, e0, hl, hz, fun H' s' => hq _ _ (q H' s')⟩)
    rintro σ' H1 ⟨F1, left, found, sF, D, fl, ff, hp, rfl⟩
    have hl1 := D.s _ _ fl
    have mem : ∀ z ∈ left, PyData.canLay0 (.str z) = true := fun z hz => hlay z (hp.mem_iff.mp (List.mem_append_left _ hz))
    have lens : left.length + found.length = zs.length := by rw [← List.length_append]; exact hp.length_eq
    refine ⟨l, left, rfl, hl1, mem, fun H2 s2 => ?_⟩
    cases left with
    | nil => exact iteF ⟨_, rfl, k F1 H2 f found sF (D.mono s2) ff hp⟩
    | cons z0' r0 =>
      have E2 := D.mono s2
      have hl2 := s2 _ _ hl1
      have hf2 := E2.s _ _ ff
      generalize hlf : z0' :: r0 = left at *
      have hpos : 0 < left.length := by rw [← hlf]; exact Nat.succ_pos _
      refine ifT (by rw [← hlf]; rfl) ?_
      refine ⟨_, rfl, .inl ⟨rfl, _, SqL.of hf2⟩, _, rfl, .inl ⟨rfl, _, SqL.of hl2⟩, _, rfl, _, rfl, l, _, rfl, .inl (SqL.of hl2), d, ce, left.length, (by rw [stL_len]; rfl), E2.da, hpos, by omega, fun H3 r g3 da3 hr3 => ?_⟩
      have E3 := E2.gr g3 da3
      have hl3 := E3.s _ _ fl
      have hf3 := E3.s _ _ ff
      have hget : left[r]? = some left[r] := List.getElem?_eq_getElem hr3
      refine ⟨l, _, (r : Int), r, _, rfl, rfl, hl3, by omega, by omega, seqI (by rw [stL_len]; exact hr3), stL_at hget, ?_⟩
      have E4 := E3.put (o := .lst (stL (left.eraseIdx r))) fl
      have ee : (stL left).eraseIdx r = stL (left.eraseIdx r) := erase_map V.str left r
      rw [ee]
      have ff4 : (upd F1 l (.lst (stL (left.eraseIdx r)))) f = some (.lst (stL found)) := (upd_ne nlf.symm).trans ff
      have hf4 := E4.s _ _ ff4
      refine ⟨f, _, _, rfl, rfl, hf4, smallL (by rw [stL_len]; omega), ?_⟩
      have ea : stL found ++ [.str left[r]] = stL (found ++ [left[r]]) := by unfold stL; rw [List.map_append]; rfl
      rw [ea]
      have E5 := E4.put (o := .lst (stL (found ++ [left[r]]))) ff4
      refine ⟨⟨_, left.eraseIdx r, found ++ [left[r]], Same.put (Same.put sF Fl) Ff, E5, (by rw [upd_ne nlf, upd_same]), upd_same, ?_, rfl⟩, ?_⟩
      · have p1 : (left[r] :: left.eraseIdx r).Perm left := erase_perm left r hr3
        have p2 : (left.eraseIdx r ++ (found ++ [left[r]])).Perm ((left[r] :: left.eraseIdx r) ++ found) := by
          rw [← List.append_assoc]
          exact List.perm_append_singleton _ _
        exact (p2.trans (p1.append_right found)).trans hp
      · show (match (upd (upd H3 l (.lst (stL (left.eraseIdx r)))) f (.lst (stL (found ++ [left[r]])))) l with | some (.lst xs) => xs.length | _ => 0) < (match H1 l with | some (.lst xs) => xs.length | _ => 0)
        rw [upd_ne nlf, upd_same, hl1]
        show (stL (left.eraseIdx r)).length < (stL left).length
        rw [stL_len, stL_len, List.length_eraseIdx, if_pos hr3]
        omega
theorem lay22 : (∀ z ∈ W22, PyData.canLay0 (.str z) = true) ∧ W22.Nodup ∧ W22.length = 22 ∧ (∀ z ∈ W22, z ∈ W44) := by decide +kernel
def spWords (K : PySem.W.Frag) : Sp := fun vs H Q _ => ∃ (F : L2.Hp) (d ce : Addr) (n : Nat), vs = [.ref d, .int (n : Nat)] ∧ Dl F H d ce ∧ n ≤ 22 ∧
  ∀ (F' H' : L2.Hp) (p : Addr) (ys : List Str), Same F F' → Dl F' H' d ce → F' p = some (.lst (stL ys)) → ys.Nodup → (∀ y ∈ ys, y ∈ W22) → ys.length = n → Q (.ref p) H'
theorem h_l_words (C : Ctx K mg) : ∃ fd, Has P w K mg base 3 (He.fAd K ("_law_words", none)) ["_law_deal_here", "_law_many"] (spWords K) fd := by
  obtain ⟨fdM, GM⟩ := h_l_mixed (P := P) (w := w) (base := base) C
  refine has_of C.fn_l_words sc_l_words (fun vs H Q E h => ?_) (fun cdv A outer s H vs Q E hr h => ?_)
  · obtain ⟨F, d, ce, n, rfl, _⟩ := h
    rfl
  · obtain ⟨F, d, ce, n, rfl, hD, hn, k⟩ := h
    have nd := sc_l_words.nd
    refine ⟨_, (pss_cons (ps_set (i := 2) nd rfl (Or.inl rfl) (pe_lst (pa_cons pe_str (pa_cons pe_str (pa_cons pe_str (pa_cons pe_str (pa_cons pe_str (pa_cons pe_str (pa_cons pe_str (pa_cons pe_str (pa_cons pe_str (pa_cons pe_str (pa_cons pe_str (pa_cons pe_str (pa_cons pe_str (pa_cons pe_str pa_nil)))))))))))))))) (pss_cons (ps_set (i := 2) nd rfl (Or.inl rfl) (pe_op op_cat (pv 2) (pe_lst (pa_cons pe_str (pa_cons pe_str (pa_cons pe_str (pa_cons pe_str (pa_cons pe_str (pa_cons pe_str (pa_cons pe_str (pa_cons pe_str pa_nil))))))))))) (pss_one (ps_ret (pe_slice sl_list (pe_call GM.ok (hr.mono (by decide)) (by rfl) C.g_l_mixed GM.kp GM.b .nil pass0 (pa_cons (pv 0) (pa_cons (pv 2) pa_nil))) po_none (po_some (pv 1))))))), ?_⟩
    refine ⟨(by show 14 ≤ sizeLine; decide), fun p1 hp1 => ?_⟩
    refine ⟨_, rfl, (by show 8 ≤ sizeLine; decide), fun p2 hp2 => ?_⟩
    have D1 := hD.new (o := .lst (stL W22a)) hp1
    have D2 := D1.new (o := .lst (stL W22b)) hp2
    have n12 : p1 ≠ p2 := fun e => by rw [← e, upd_same] at hp2; cases hp2
    refine ⟨p1, p2, stL W22a, stL W22b, rfl, rfl, (by rw [upd_ne n12]; exact upd_same), upd_same, (by show 22 ≤ sizeLine; decide), fun p3 hp3 => ?_⟩
    have D3 := D2.new (o := .lst (stL W22a ++ stL W22b)) hp3
    have S3 := ((hD.snew (o := .lst (stL W22a)) hp1).trans (D1.snew (o := .lst (stL W22b)) hp2)).trans (D2.snew (o := .lst (stL W22a ++ stL W22b)) hp3)
    refine ⟨_, rfl, _, rfl, _, d, ce, p3, W22, rfl, D3, (by rw [upd_same]; unfold W22 stL; rw [List.map_append]), lay22.1, (by rw [lay22.2.2.1]; decide), fun F4 H4 p4 ys s4 D4 e4 hperm => ?_⟩
    refine ⟨_, rfl, n, rfl, p4, _, rfl, SqL.of (D4.s _ _ e4), fun p5 hp5 => ?_⟩
    have hl : ys.length = 22 := by rw [hperm.length_eq, lay22.2.2.1]
    have ec : cutV (stL ys) none (some (n : Int)) = stL (ys.take n) := by
      rw [cutV_upto _ _ (by rw [stL_len]; omega)]
      unfold stL
      rw [List.map_take]
    rw [ec]
    refine k _ _ p5 (ys.take n) ((S3.trans s4).trans (D4.snew (o := .lst (stL (ys.take n))) hp5)) (D4.new hp5) upd_same ?_ (fun y hy => hperm.mem_iff.mp (List.mem_of_mem_take hy)) (by rw [List.length_take]; omega)
    exact List.Nodup.sublist (List.take_sublist n ys) (hperm.nodup_iff.mpr lay22.2.1)
end
end Hp
set_option Elab.async false
set_option linter.all false
set_option maxRecDepth 100000
set_option maxHeartbeats 4000000
namespace Hp
open PySem PySem.Spec PyProof.Rows L2
/-! a book as the law has it -/
structure BookF (F : L2.Hp) (p : Addr) (N : Nm) (B : IB) (L O : List Nat) : Prop where
  ex : ∃ as_ ak al ao : Addr, F p = some (.tup [.ref as_, .ref ak, .ref al, .ref ao]) ∧ F as_ = some (.lst (stL N.vs)) ∧ KindsIn F ak N B ∧ F al = some (.lst (stL (L.map N.k))) ∧ F ao = some (.lst (stL (O.map N.k)))
theorem BookF.mono {F F' : L2.Hp} {p : Addr} {N : Nm} {B : IB} {L O : List Nat} (h : BookF F p N B L O) (s : Same F F') : BookF F' p N B L O := by
  obtain ⟨a, b, c, d, h1, h2, h3, h4, h5⟩ := h.ex
  exact ⟨a, b, c, d, s _ _ h1, s _ _ h2, h3.mono s, s _ _ h4, s _ _ h5⟩
structure BkOk (N : Nm) (B : IB) (L O : List Nat) : Prop where
  n : N.Ok
  v : ∀ i, i < N.nv → N.v i ∈ W22
  k : ∀ i, i < N.nk → N.k i ∈ W22
  b : B.Ok N
  ln : L.Nodup
  on : O.Nodup
  lk : ∀ i ∈ L, i < N.nk
  ok : ∀ i ∈ O, i < N.nk
  ll : L.length ≤ 100
  ol : O.length ≤ 100
  le : ∀ i, i < N.nk → B.loose i = decide (i ∈ L)
  oe : ∀ i, i < N.nk → B.others i = decide (i ∈ O)
def nmOf (vs ks : List Str) : Nm := ⟨vs.length, ks.length, fun i => (vs[i]?).getD "", fun i => (ks[i]?).getD ""⟩
theorem getD_at {l : List Str} {i : Nat} (h : i < l.length) : (l[i]?).getD "" = l[i] := by
  rw [List.getElem?_eq_getElem h]
  rfl
theorem rgGetD (l : List Str) : (List.range l.length).map (fun i => (l[i]?).getD ("" : Str)) = l := by
  apply List.ext_getElem
  · rw [List.length_map, List.length_range]
  · intro i h1 h2
    rw [List.getElem_map, List.getElem_range]
    exact getD_at h2
theorem nmOf_ok {vs ks : List Str} (v1 : 1 ≤ vs.length) (v3 : vs.length ≤ 3) (k3 : ks.length ≤ 3) (vd : vs.Nodup) (kd : ks.Nodup) (vi : ∀ y ∈ vs, y ∈ W22) (ki : ∀ y ∈ ks, y ∈ W22) : (nmOf vs ks).Ok ∧ (∀ i, i < vs.length → (nmOf vs ks).v i ∈ W22) ∧ (∀ i, i < ks.length → (nmOf vs ks).k i ∈ W22) := by
  have gv : ∀ i, i < vs.length → (nmOf vs ks).v i ∈ W22 := fun i hi => by
    show (vs[i]?).getD "" ∈ W22
    rw [getD_at hi]
    exact vi _ (List.getElem_mem hi)
  have gk : ∀ i, i < ks.length → (nmOf vs ks).k i ∈ W22 := fun i hi => by
    show (ks[i]?).getD "" ∈ W22
    rw [getD_at hi]
    exact ki _ (List.getElem_mem hi)
  refine ⟨⟨v1, v3, k3, fun i hi => lay22.2.2.2 _ (gv i hi), fun i hi => lay22.2.2.2 _ (gk i hi), fun i j hi hj e => ?_, fun i j hi hj e => ?_⟩, gv, gk⟩
  · have e' : (vs[i]?).getD "" = (vs[j]?).getD "" := e
    have hi' : i < vs.length := hi
    have hj' : j < vs.length := hj
    rw [getD_at hi', getD_at hj'] at e'
    exact nodup_ix vd (List.getElem?_eq_getElem hi') (by rw [e']; exact List.getElem?_eq_getElem hj')
  · have e' : (ks[i]?).getD "" = (ks[j]?).getD "" := e
    have hi' : i < ks.length := hi
    have hj' : j < ks.length := hj
    rw [getD_at hi', getD_at hj'] at e'
    exact nodup_ix kd (List.getElem?_eq_getElem hi') (by rw [e']; exact List.getElem?_eq_getElem hj')
theorem nodup_of_map {α β : Type} {f : α → β} : ∀ {l : List α}, (l.map f).Nodup → l.Nodup
  | [], _ => List.nodup_nil
  | a :: l, h => List.nodup_cons.mpr ⟨fun hm => (List.nodup_cons.mp h).1 (List.mem_map.mpr ⟨a, hm, rfl⟩), nodup_of_map (List.nodup_cons.mp h).2⟩
/-- some names by their numbers -/
theorem by_num {vs ks ys zs : List Str} (kd : ks.Nodup) (hp : ys.Perm ks) (n : Nat) : ∃ L : List Nat, L.map (nmOf vs ks).k = ys.take n ∧ L.Nodup ∧ (∀ i ∈ L, i < ks.length) ∧ L.length ≤ ks.length := by
  have hm : ∀ y ∈ ys.take n, y ∈ ks := fun y hy => hp.mem_iff.mp (List.mem_of_mem_take hy)
  have hnd : (ys.take n).Nodup := List.Nodup.sublist (List.take_sublist n ys) (hp.nodup_iff.mpr kd)
  have e : ((ys.take n).map fun y => ks.idxOf y).map (nmOf vs ks).k = ys.take n := by
    rw [List.map_map]
    conv => rhs; rw [← List.map_id (ys.take n)]
    apply List.map_congr_left
    intro y hy
    have hl := List.idxOf_lt_length_of_mem (hm y hy)
    show (ks[ks.idxOf y]?).getD "" = y
    rw [getD_at hl]
    exact List.getElem_idxOf hl
  refine ⟨(ys.take n).map fun y => ks.idxOf y, e, ?_, fun i hi => ?_, ?_⟩
  · rw [← e] at hnd
    exact nodup_of_map hnd
  · obtain ⟨y, hy, rfl⟩ := List.mem_map.mp hi
    exact List.idxOf_lt_length_of_mem (hm y hy)
  · rw [List.length_map, List.length_take, hp.length_eq]
    omega
section
variable {P : Program} {w : World} {K : PySem.W.Frag} {mg : Str → Option Value} {base : Heap}
def spLBook (K : PySem.W.Frag) : Sp := fun vs H Q _ => ∃ (F : L2.Hp) (d ce : Addr), vs = [.ref d, .int 3] ∧ Dl F H d ce ∧
  ∀ (F' H' : L2.Hp) (p : Addr) (N : Nm) (B : IB) (L O : List Nat), Same F F' → Dl F' H' d ce → BookF F' p N B L O → BkOk N B L O → Q (.ref p) H'
theorem h_l_book (C : Ctx K mg) : ∃ fd, Has P w K mg base 4 (He.fAd K ("_law_book", none)) ["_law_deal_here", "_law_most"] (spLBook K) fd := by
  obtain ⟨fdM, GM⟩ := h_l_mixed (P := P) (w := w) (base := base) C
  obtain ⟨fdW, GW⟩ := h_l_words (P := P) (w := w) (base := base) C
  obtain ⟨fdD, GD⟩ := h_l_draw (P := P) (w := w) (base := base) C
  refine has_of C.fn_l_book sc_l_book (fun vs H Q E h => ?_) (fun cdv A outer s H vs Q E hr h => ?_)
  · obtain ⟨F, d, ce, rfl, _⟩ := h
    rfl
  · obtain ⟨F, d, ce, rfl, hD, k⟩ := h
    have nd := sc_l_book.nd
    refine ⟨_, (pss_cons (ps_set (i := 2) nd rfl (Or.inr rfl) (pe_call GW.ok (hr.mono (by decide)) (by rfl) C.g_l_words GW.kp GW.b .nil pass0 (pa_cons (pv 0) (pa_cons (pe_add pe_int (pe_call GD.ok (hr.mono (by decide)) (by rfl) C.g_l_draw GD.kp GD.b .nil pass0 (pa_cons (pv 0) (pa_cons (pv 1) pa_nil)))) pa_nil)))) (pss_cons (ps_set (i := 3) nd rfl (Or.inl rfl) (pe_call GW.ok (hr.mono (by decide)) (by rfl) C.g_l_words GW.kp GW.b .nil pass0 (pa_cons (pv 0) (pa_cons (pe_call GD.ok (hr.mono (by decide)) (by rfl) C.g_l_draw GD.kp GD.b .nil pass0 (pa_cons (pv 0) (pa_cons (pe_add (pv 1) pe_int) pa_nil))) pa_nil)))) (pss_cons (ps_set (i := 4) nd rfl (Or.inl rfl) (pe_lst pa_nil)) (pss_cons (ps_for PassesOwn.never rfl (pi_list (pv 3)) (pg_name (i := 5) nd rfl (Or.inl rfl)) (pss_one (ps_expr (pe_bm PySem.F.plainAttrs_list PySem.F.slot_list_append PySem.F.type_list_append mt_append (pv 4) (pa_cons (pe_tup (pa_cons (pv 5) (pa_cons (pe_lc (own := [("_law_one", 6)]) (g := gName 6) (tt := tYes) rfl nd (pi_list (pv 2)) (blkOk_by (N := N_l_book) (sc := defScope s_l_book) (by decide +kernel)) (fun _ _ _ _ _ => (pg_name (i := 6) nd rfl (Or.inl rfl))) (fun _ _ _ _ _ => pts_nil) (fun _ _ _ _ _ => (pe_ix (ix_listK K) (pe_op op_cat (pv 2) (pe_lst (pa_cons pe_non pa_nil))) (pe_call GD.ok (hr.mono (by decide)) (by rfl) C.g_l_draw GD.kp GD.b .nil pass0 (pa_cons (pv 0) (pa_cons (pe_add (pe_callB (call_lenK K) (by rfl) C.f_len boot_len (pa_cons (pv 2) pa_nil)) pe_int) pa_nil))) (fun _ _ => rfl)))) pa_nil))) pa_nil))))) (pss_cons (ps_set (i := 7) nd rfl (Or.inl rfl) (pe_slice sl_list (pe_call GM.ok (hr.mono (by decide)) (by rfl) C.g_l_mixed GM.kp GM.b .nil pass0 (pa_cons (pv 0) (pa_cons (pv 3) pa_nil))) po_none (po_some (pe_call GD.ok (hr.mono (by decide)) (by rfl) C.g_l_draw GD.kp GD.b .nil pass0 (pa_cons (pv 0) (pa_cons (pe_add (pe_callB call_len_seq (by rfl) C.f_len boot_len (pa_cons (pv 3) pa_nil)) pe_int) pa_nil)))))) (pss_one (ps_ret (pe_tup (pa_cons (pv 2) (pa_cons (pv 4) (pa_cons (pv 7) (pa_cons (pe_slice sl_list (pe_call GM.ok (hr.mono (by decide)) (by rfl) C.g_l_mixed GM.kp GM.b .nil pass0 (pa_cons (pv 0) (pa_cons (pv 3) pa_nil))) po_none (po_some (pe_call GD.ok (hr.mono (by decide)) (by rfl) C.g_l_draw GD.kp GD.b .nil pass0 (pa_cons (pv 0) (pa_cons (pe_add (pe_callB call_len_seq (by rfl) C.f_len boot_len (pa_cons (pv 3) pa_nil)) pe_int) pa_nil))))) pa_nil)))))))))))), ?_⟩
    refine ⟨_, rfl, _, rfl, _, rfl, d, ce, 3, rfl, hD.da, by decide, by decide, fun H1 r1 g1 da1 hr1 => ?_⟩
    have D1 := hD.gr g1 da1
    refine ⟨1, (r1 : Int), rfl, rfl, F, d, ce, 1 + r1, (by rw [show ((1 + r1 : Nat) : Int) = 1 + (r1 : Int) by omega]; rfl), D1, by omega, fun F2 H2 pv2 vs s2 D2 ev nv iv lv => ?_⟩
    refine ⟨_, rfl, _, rfl, _, rfl, 3, 1, rfl, rfl, d, ce, 4, rfl, D2.da, by decide, by decide, fun H3 r3 g3 da3 hr3 => ?_⟩
    have D3 := D2.gr g3 da3
    refine ⟨F2, d, ce, r3, rfl, D3, by omega, fun F4 H4 pk ks s4 D4 ek nk ik lk => ?_⟩
    have ev4 := s4 _ _ ev
    obtain ⟨okN, okv, okk⟩ := nmOf_ok (vs := vs) (ks := ks) (by omega) (by omega) (by omega) nv nk iv ik
    refine ⟨Nat.zero_le _, fun kk hkk => ?_⟩
    have D5 := D4.new (o := .lst []) hkk
    have s5 := D4.snew (o := .lst []) hkk
    have nkk : F4 kk = none := D4.free hkk
    refine ⟨_, rfl, pk, rfl, ⟨_, SqL.of (D5.s _ _ (s5 _ _ ek))⟩, ?_⟩
    refine for_list (K := K) (a := pk) (xs := stL ks) (fun i σ' H' => ∃ (F' : L2.Hp) (ps ta : Nat → Addr) (T : Nat → List (Option Nat)) (x5 : Option V), Same F4 F' ∧ Dl F' H' d ce ∧ F' kk = some (.lst ((List.range i).map fun j => V.ref (ps j))) ∧
      (∀ j, j < i → F' (ps j) = some (.tup [.str ((ks[j]?).getD ""), .ref (ta j)]) ∧ F' (ta j) = some (.lst ((T j).map (optS (nmOf vs ks).v))) ∧ (T j).length = vs.length ∧ ∀ t, some t ∈ T j → t < vs.length) ∧ σ' = [some (.ref d), some (.int 3), some (.ref pv2), some (.ref pk), some (.ref kk), x5, none, none])
      ⟨_, fun _ => 0, fun _ => 0, fun _ => [], none, s5, D5, upd_same, fun j hj => absurd hj (Nat.not_lt_zero j), rfl⟩ (fun i σ' H' _ q => ?_) ?_ ?_
    · obtain ⟨F', ps, ta, T, x5, q1, q2, _⟩ := q
      exact SqL.of (q2.s _ _ (q1 _ _ ek))
    · rintro i x σ' H6 hi ⟨F6, ps, ta, T, x5, s6, D6, ekk, hT, rfl⟩
      have hil : i < ks.length := by
        have q := (List.getElem?_eq_some_iff.mp hi).1
        rw [stL_len] at q
        exact q
      obtain rfl : x = .str ks[i] := map_un (f := V.str) (List.getElem?_eq_getElem hil) hi
      have ev6 := s6 _ _ ev4
      refine ⟨_, rfl, .inl ⟨rfl, _, SqL.of (D6.s _ _ ekk)⟩, _, rfl, _, rfl, pv2, rfl, ⟨_, SqL.of (D6.s _ _ ev6)⟩, fun D hDn => ?_⟩
      have nD : F6 D = none := D6.free hDn
      refine lc_it (walk_list (K := K) (xs := stL vs)) (fun j H' => ∃ (F' : L2.Hp) (t : List (Option Nat)), Same F6 F' ∧ Dl F' H' d ce ∧ F' D = some (.lst (t.map (optS (nmOf vs ks).v))) ∧ t.length = j ∧ ∀ x, some x ∈ t → x < vs.length) ⟨_, [], D6.snew (o := .lst []) hDn, D6.new hDn, upd_same, rfl, fun x hx => by cases hx⟩ (fun j H' _ q => ?_) (fun j x H7 H7' hj q y => ?_) (fun H7 q => ?_)
      · obtain ⟨F', t, q1, q2, _⟩ := q
        exact SqL.of (q2.s _ _ (q1 _ _ ev6))
      · obtain ⟨F7, t, s7, D7, eD, tl, tb⟩ := q
        obtain ⟨rfl, e2⟩ := y
        rw [stL_len] at hj
        have ev7 := s7 _ _ ev6
        refine ⟨rfl, yesT ⟨_, rfl, (by show 1 ≤ sizeLine; decide), fun q hq => ?_⟩⟩
        have D8 := D7.new (o := .lst [.non]) hq
        have s8 := D7.snew (o := .lst [.non]) hq
        have ev8 := s8 _ _ ev7
        refine ⟨pv2, q, stL vs, [.non], rfl, rfl, D8.s _ _ ev8, upd_same, small (by rw [stL_len]; show _ + 1 ≤ _; omega), fun q2 hq2 => ?_⟩
        have D9 := D8.new (o := .lst (stL vs ++ [.non])) hq2
        have s9 := D8.snew (o := .lst (stL vs ++ [.non])) hq2
        have ev9 := s9 _ _ ev8
        refine ⟨_, rfl, _, rfl, _, vs.length, rfl, .inl ⟨_, SqL.of (D9.s _ _ ev9), (stL_len _).symm⟩, (vs.length : Int), 1, rfl, rfl, d, ce, vs.length + 1, rfl, D9.da, by omega, by omega, fun H10 r g10 da10 hr10 => ?_⟩
        have D10 := D9.gr g10 da10
        have eq2 : (upd (upd F7 q (.lst [.non])) q2 (.lst (stL vs ++ [.non]))) q2 = _ := upd_same
        have hat : (stL vs ++ [V.non])[r]? = some (optS (nmOf vs ks).v (if r < vs.length then some r else none)) := by
          by_cases hrl : r < vs.length
          · rw [if_pos hrl, List.getElem?_append_left (by rw [stL_len]; exact hrl)]
            show (stL vs)[r]? = some (.str ((vs[r]?).getD ""))
            rw [getD_at hrl]
            exact stL_at (List.getElem?_eq_getElem hrl)
          · rw [if_neg hrl, List.getElem?_append_right (by rw [stL_len]; omega), stL_len, show r - vs.length = 0 by omega]
            rfl
        refine ⟨q2, _, (r : Int), _, rfl, rfl, SqL.of (D10.s _ _ eq2), atI_nat hat, ?_⟩
        have eD10 := s9 _ _ (s8 _ _ eD)
        refine ⟨_, D10.s _ _ eD10, smallL (by rw [List.length_map, tl]; omega), _, t ++ [if r < vs.length then some r else none], Same.put ((s7.trans s8).trans s9) nD, D10.put eD10, ?_, (by rw [List.length_append, tl]; rfl), fun x hx => ?_⟩
        · rw [upd_same, List.map_append]
          rfl
        · rcases List.mem_append.mp hx with q | q
          · exact tb x q
          · have q' : some x = if r < vs.length then some r else none := by simpa using q
            split at q'
            · cases q'; assumption
            · cases q'
      · obtain ⟨F7, t, s7, D7, eD, tl, tb⟩ := q
        rw [stL_len] at tl
        refine ⟨(by show 2 ≤ sizeLine; decide), fun tp htp => ?_⟩
        have D8 := D7.new (o := .tup [.str ks[i], .ref D]) htp
        have s8 := D7.snew (o := .tup [.str ks[i], .ref D]) htp
        have ekk8 := s8 _ _ (s7 _ _ ekk)
        refine ⟨kk, _, _, rfl, rfl, D8.s _ _ ekk8, smallL (by rw [List.length_map, List.length_range]; omega), ?_⟩
        have D9 := D8.put (o := .lst (((List.range i).map fun j => V.ref (ps j)) ++ [.ref tp])) ekk8
        have nkk6 : ∀ {a : Addr} {o : HO}, F6 a = some o → (∀ xs, o ≠ .lst xs) → a ≠ kk := fun {a o} e n z => by
          rw [z, ekk] at e
          exact n _ (Option.some.inj e).symm
        refine ⟨_, fun j => if j = i then tp else ps j, fun j => if j = i then D else ta j, fun j => if j = i then t else T j, _, Same.put ((s6.trans s7).trans s8) nkk, D9, ?_, fun j hj => ?_, rfl⟩
        · rw [upd_same, List.range_succ, List.map_append]
          congr 3
          · apply List.map_congr_left
            intro j hj
            have := List.mem_range.mp hj
            show V.ref (ps j) = V.ref (if j = i then tp else ps j)
            rw [if_neg (by omega)]
          · show [V.ref tp] = [V.ref (if i = i then tp else ps i)]
            rw [if_pos rfl]
        · have nDk : D ≠ kk := fun z => by rw [z, ekk] at nD; cases nD
          have ntk : tp ≠ kk := (ne_of_none (D7.s _ _ (s7 _ _ ekk)) htp).symm
          by_cases hji : j = i
          · subst hji
            dsimp only
            rw [if_pos rfl, if_pos rfl, if_pos rfl]
            refine ⟨?_, ?_, tl, tb⟩
            · rw [upd_ne ntk, upd_same, getD_at hil]
            · rw [upd_ne nDk]
              exact s8 _ _ eD
          · dsimp only
            rw [if_neg hji, if_neg hji, if_neg hji]
            obtain ⟨t1, t2, t3, t4⟩ := hT j (by omega)
            have nta : ta j ≠ kk := fun z => by
              rw [z, ekk] at t2
              have q := HO.lst.inj (Option.some.inj t2)
              have hh : i = (T j).length := by
                have := congrArg List.length q
                rw [List.length_map, List.length_map, List.length_range] at this
                exact this
              cases i with
              | zero => omega
              | succ i' =>
                rw [List.range_succ_eq_map] at q
                cases hTj : T j with
                | nil => rw [hTj] at q; cases q
                | cons a r =>
                  rw [hTj] at q
                  have q2 := (List.cons.inj q).1
                  cases a <;> cases q2
            refine ⟨?_, ?_, t3, t4⟩
            · rw [upd_ne (nkk6 t1 (fun xs q => by cases q))]
              exact s8 _ _ (s7 _ _ t1)
            · rw [upd_ne nta]
              exact s8 _ _ (s7 _ _ t2)
    · rintro σ' H6 ⟨F6, ps, ta, T, x5, s6, D6, ekk, hT, rfl⟩
      rw [stL_len] at ekk hT
      have ek6 := s6 _ _ ek
      have ev6 := s6 _ _ ev4
      have hlk : ∀ z ∈ ks, PyData.canLay0 (.str z) = true := fun z hz => lay22.1 z (ik z hz)
      refine ⟨_, rfl, _, rfl, F6, d, ce, pk, ks, rfl, D6, ek6, hlk, by omega, fun F7 H7 p7 ys s7 D7 e7 hp7 => ?_⟩
      refine ⟨_, rfl, _, rfl, pk, _, rfl, .inl (SqL.of (D7.s _ _ (s7 _ _ ek6))), (ks.length : Int), 1, (by rw [stL_len]), rfl, d, ce, ks.length + 1, rfl, D7.da, by omega, by omega, fun H8 r8 g8 da8 hr8 => ?_⟩
      have D8 := D7.gr g8 da8
      have hyl : ys.length = ks.length := hp7.length_eq
      refine ⟨(r8 : Int), rfl, p7, _, rfl, SqL.of (D8.s _ _ e7), fun pl hpl => ?_⟩
      have ec : cutV (stL ys) none (some (r8 : Int)) = stL (ys.take r8) := by
        rw [cutV_upto _ _ (by rw [stL_len]; omega)]
        unfold stL
        rw [List.map_take]
      rw [ec]
      have D9 := D8.new (o := .lst (stL (ys.take r8))) hpl
      have s9 := D8.snew (o := .lst (stL (ys.take r8))) hpl
      have ek9 := s9 _ _ (s7 _ _ ek6)
      refine ⟨_, rfl, _, rfl, _, rfl, _, rfl, _, rfl, _, d, ce, pk, ks, rfl, D9, ek9, hlk, by omega, fun F10 H10 p10 zs s10 D10 e10 hp10 => ?_⟩
      refine ⟨_, rfl, _, rfl, pk, _, rfl, .inl (SqL.of (D10.s _ _ (s10 _ _ ek9))), (ks.length : Int), 1, (by rw [stL_len]), rfl, d, ce, ks.length + 1, rfl, D10.da, by omega, by omega, fun H11 r11 g11 da11 hr11 => ?_⟩
      have D11 := D10.gr g11 da11
      have hzl : zs.length = ks.length := hp10.length_eq
      refine ⟨(r11 : Int), rfl, p10, _, rfl, SqL.of (D11.s _ _ e10), fun po hpo => ?_⟩
      have ec2 : cutV (stL zs) none (some (r11 : Int)) = stL (zs.take r11) := by
        rw [cutV_upto _ _ (by rw [stL_len]; omega)]
        unfold stL
        rw [List.map_take]
      rw [ec2]
      have D12 := D11.new (o := .lst (stL (zs.take r11))) hpo
      have s12 := D11.snew (o := .lst (stL (zs.take r11))) hpo
      refine ⟨(by show 4 ≤ sizeLine; decide), fun pb hpb => ?_⟩
      have D13 := D12.new (o := .tup [.ref pv2, .ref kk, .ref pl, .ref po]) hpb
      have s13 := D12.snew (o := .tup [.ref pv2, .ref kk, .ref pl, .ref po]) hpb
      obtain ⟨L, L1, L2', L3, L4⟩ := by_num (vs := vs) (zs := ks) nk hp7 r8
      obtain ⟨O, O1, O2, O3, O4⟩ := by_num (vs := vs) (zs := ks) nk hp10 r11
      have s6E := (((s7.trans s9).trans s10).trans s12).trans s13
      refine k _ _ pb (nmOf vs ks) ⟨fun i j => ((T i)[j]?).getD none, fun i => decide (i ∈ L), fun i => decide (i ∈ O)⟩ L O ((((s2.trans s4).trans s6)).trans s6E) D13 ⟨pv2, kk, pl, po, upd_same, ?_, ⟨ps, ta, s6E _ _ ekk, fun i hi => ?_⟩, ?_, ?_⟩ ⟨okN, okv, okk, fun i j t hi hj ht => ?_, L2', O2, L3, O3, by omega, by omega, fun _ _ => rfl, fun _ _ => rfl⟩
      · rw [s6E _ _ ev6]
        show _ = some (HO.lst (stL ((List.range vs.length).map fun i => (vs[i]?).getD "")))
        rw [rgGetD]
      · obtain ⟨t1, t2, t3, t4⟩ := hT i hi
        refine ⟨s6E _ _ t1, ?_⟩
        rw [s6E _ _ t2]
        congr 2
        show (T i).map (optS (nmOf vs ks).v) = (List.range vs.length).map fun j => optS (nmOf vs ks).v (((T i)[j]?).getD none)
        apply List.ext_getElem
        · rw [List.length_map, List.length_map, List.length_range, t3]
        · intro m h1 h2
          rw [List.length_map] at h1
          rw [List.getElem_map, List.getElem_map, List.getElem_range, List.getElem?_eq_getElem h1]
          rfl
      · rw [L1]
        exact s13 _ _ (s12 _ _ (s10 _ _ upd_same))
      · rw [O1]
        exact s13 _ _ upd_same
      · obtain ⟨t1, t2, t3, t4⟩ := hT i hi
        have hj' : j < (T i).length := by rw [t3]; exact hj
        have ht' : ((T i)[j]?).getD none = some t := ht
        rw [List.getElem?_eq_getElem hj'] at ht'
        have ht2 : (T i)[j] = some t := ht'
        exact t4 t (ht2 ▸ List.getElem_mem hj')
end
end Hp
set_option Elab.async false
set_option linter.all false
set_option maxRecDepth 100000
set_option maxHeartbeats 4000000
namespace Hp
open PySem PySem.Spec PyProof.Rows L2
/-! a comprehension in whose turns the deal is drawn from; its items are flat -/
section
variable {J : It} {n : Nat} {G : L2.Hp → Prop} {Y : Nat → L2.Hp → V → L2.Hp → Prop} {g : TG} {tt : TT} {te : TE} {vs : List Nat} {σ : L2.St} {F H1 : L2.Hp} {D d ce : Addr} {Qd : L2.Hp → Prop}
theorem lc_ds (w : Walk J n G Y) (hn : n ≤ 1000) (hDl : Dl F H1 d ce) (hD : H1 D = none) (hG : ∀ F' H, Same F F' → Dl F' H d ce → G H) (Pr : Nat → V → Prop)
    (hs : ∀ i x F' H H' (Qy : V → L2.Hp → Prop) (Qn : L2.Hp → Prop), i < n → Same F F' → Dl F' H d ce → Y i H x H' → (∀ F'' H4 y, Same F' F'' → Dl F'' H4 d ce → Pr i y → Qy y H4) →
      g x (wipe σ vs) H' fun σ2 H2 => wipe σ2 vs = wipe σ vs ∧ tt σ2 H2 fun b H3 => if b = true then te σ2 H3 Qy else Qn H3)
    (hd : ∀ F' H (ys : List V), Same F F' → Dl F' H d ce → F' D = some (.lst ys) → ys.length = n → (∀ i y, ys[i]? = some y → Pr i y) → Qd H) :
    ∃ W : Nat → Nat → L2.Hp → Prop, (∃ m, W 0 m (upd H1 D (.lst []))) ∧ ∀ i m H, W i m H →
      (J.stop i H ∧ Qd H) ∨ (J.go i H ∧ ∃ Nx : L2.Hp → Prop, (∀ H', Nx H' → ∃ m', m' < m ∧ W (i + 1) m' H') ∧ ∀ x H', J.yld i H x H' → g x (wipe σ vs) H' fun σ2 H2 => wipe σ2 vs = wipe σ vs ∧ tt σ2 H2 fun b H3 =>
        if b = true then te σ2 H3 fun y H4 => ∃ acc, H4 D = some (.lst acc) ∧ acc.length < sizeLine ∧ Nx (upd H4 D (.lst (acc ++ [y]))) else Nx H3) := by
  have nD : F D = none := hDl.free hD
  refine lc_it w (fun i H => ∃ (F' : L2.Hp) (ys : List V), Same F F' ∧ Dl F' H d ce ∧ F' D = some (.lst ys) ∧ ys.length = i ∧ ∀ i y, ys[i]? = some y → Pr i y) ⟨_, [], hDl.snew (o := .lst []) hD, hDl.new hD, upd_same, rfl, fun i y e => by cases e⟩ (fun i H _ q => ?_) (fun i x H H' hi q y => ?_) (fun H q => ?_)
  · obtain ⟨F', ys, q1, q2, _⟩ := q
    exact hG F' H q1 q2
  · obtain ⟨F', ys, q1, q2, q3, q4, q5⟩ := q
    refine hs i x F' H H' _ _ hi q1 q2 y fun F'' H4 z s4 D4 hp => ?_
    have e4 := s4 _ _ q3
    refine ⟨ys, D4.s _ _ e4, smallL (by omega), _, ys ++ [z], Same.put (q1.trans s4) nD, D4.put e4, upd_same, (by rw [List.length_append, q4]; rfl), fun j y e => ?_⟩
    by_cases hj : j < ys.length
    · rw [List.getElem?_append_left hj] at e
      exact q5 j y e
    · have hl := (List.getElem?_eq_some_iff.mp e).1
      rw [List.length_append] at hl
      have hl' : j < ys.length + 1 := hl
      obtain rfl : j = ys.length := by omega
      rw [List.getElem?_append_right (Nat.le_refl _), Nat.sub_self] at e
      cases e
      rw [q4]
      exact hp
  · obtain ⟨F', ys, q1, q2, q3, q4, q5⟩ := q
    exact hd F' H ys q1 q2 q3 q4 q5
end
/-- a list of texts from what is known of its items -/
theorem strs_of {P : Str → Prop} : ∀ {ys : List V}, (∀ (i : Nat) (y : V), ys[i]? = some y → ∃ z : Str, y = V.str z ∧ P z) → ∃ zs : List Str, ys = stL zs ∧ ∀ z ∈ zs, P z
  | [], _ => ⟨[], rfl, fun z hz => by cases hz⟩
  | y :: ys, h => by
    obtain ⟨z, rfl, hz⟩ := h 0 y rfl
    obtain ⟨zs, rfl, hzs⟩ := strs_of (ys := ys) fun i y e => h (i + 1) y e
    refine ⟨z :: zs, rfl, fun x hx => ?_⟩
    rcases List.mem_cons.mp hx with rfl | q
    · exact hz
    · exact hzs x q
theorem row_facts : (∀ t ∈ ansT, t ∈ allTests ∧ (("not " : Str) ++ t) ∈ allTests ∧ plainT t = t ∧ plainT (("not " : Str) ++ t) = t ∧ t.length ≤ 100) := by decide +kernel
structure RowX (F : L2.Hp) (p at_ ad : Addr) (r : RowD) : Prop where
  h1 : F p = some (.tup [.str r.letter, .ref at_, .ref ad])
  h2 : F at_ = some (.lst (stL r.tests))
  h3 : F ad = some (.lst (stL r.deeds))
theorem RowX.mono {F F' : L2.Hp} {p a b : Addr} {r : RowD} (h : RowX F p a b r) (s : Same F F') : RowX F' p a b r := ⟨s _ _ h.h1, s _ _ h.h2, s _ _ h.h3⟩
section
variable {P : Program} {w : World} {K : PySem.W.Frag} {mg : Str → Option Value} {base : Heap}
def spLRow (K : PySem.W.Frag) : Sp := fun vs H Q _ => ∃ (F : L2.Hp) (d ce : Addr), vs = [.ref d] ∧ Dl F H d ce ∧
  ∀ (F' H' : L2.Hp) (p a b : Addr) (r : RowD), Same F F' → Dl F' H' d ce → RowX F' p a b r → F p = none → F a = none → F b = none → r.Ok → Q (.ref p) H'
theorem h_l_row (C : Ctx K mg) : ∃ fd, Has P w K mg base 2 (He.fAd K ("_law_row", none)) ["_law_deal_here"] (spLRow K) fd := by
  obtain ⟨fdD, GD⟩ := h_l_draw (P := P) (w := w) (base := base) C
  refine has_of C.fn_l_row sc_l_row (fun vs H Q E h => ?_) (fun cdv A outer s H vs Q E hr h => ?_)
  · obtain ⟨F, d, ce, rfl, _⟩ := h
    rfl
  · obtain ⟨F, d, ce, rfl, hD, k⟩ := h
    have nd := sc_l_row.nd
    refine ⟨_, (pss_cons (ps_set (i := 1) nd rfl (Or.inl rfl) (pe_ix ix_list (pe_lst (pa_cons pe_str (pa_cons pe_str (pa_cons pe_str pa_nil)))) (pe_call GD.ok (hr.mono (by decide)) (by rfl) C.g_l_draw GD.kp GD.b .nil pass0 (pa_cons (pv 0) (pa_cons pe_int pa_nil))) (fun _ _ => rfl))) (pss_cons (ps_asg (pe_tup (pa_cons (pe_lst (pa_cons pe_str (pa_cons pe_str (pa_cons pe_str (pa_cons pe_str pa_nil))))) (pa_cons (pe_lst (pa_cons pe_str (pa_cons pe_str (pa_cons pe_str pa_nil)))) pa_nil))) (pg_tup rfl (pgs_cons (pg_name (i := 2) nd rfl (Or.inr rfl)) (pgs_cons (pg_name (i := 3) nd rfl (Or.inr rfl)) pgs_nil)))) (C8.pss_cut (ps_if (pt_cmpR op_ne (pv 1) pe_str (nomark _)) (pss_one (ps_asg (pe_tup (pa_cons (pe_op op_cat (pv 2) (pe_lst (pa_cons pe_str (pa_cons pe_str pa_nil)))) (pa_cons (pe_op op_cat (pv 3) (pe_lst (pa_cons pe_str (pa_cons pe_str pa_nil)))) pa_nil))) (pg_tup rfl (pgs_cons (pg_name (i := 2) nd rfl (Or.inr rfl)) (pgs_cons (pg_name (i := 3) nd rfl (Or.inr rfl)) pgs_nil))))) pss_nil) (pss_cons (ps_setLc (i := 4) (own := [("_law_turn", 5)]) (g := gName 5) (tt := tYes) rfl nd rfl rfl rfl (pi_range1 (by rfl) C.f_range (pa_cons (pe_call GD.ok (hr.mono (by decide)) (by rfl) C.g_l_draw GD.kp GD.b .nil pass0 (pa_cons (pv 0) (pa_cons pe_int pa_nil))) pa_nil)) (blkOk_by (N := N_l_row) (sc := defScope s_l_row) (by decide +kernel)) (fun _ _ _ _ _ => (pg_name (i := 5) nd rfl (Or.inl rfl))) (fun _ _ _ _ _ => pts_nil) (fun _ _ _ _ _ => (pe_ix (ix_listK K) (pv 2) (pe_call GD.ok (hr.mono (by decide)) (by rfl) C.g_l_draw GD.kp GD.b .nil pass0 (pa_cons (pv 0) (pa_cons (pe_callB (call_lenK K) (by rfl) C.f_len boot_len (pa_cons (pv 2) pa_nil)) pa_nil))) (fun _ _ => rfl)))) (pss_cons (ps_setLc (i := 4) (own := [("_law_test", 6)]) (g := gName 6) (tt := tYes) rfl nd rfl rfl rfl (pi_list (pv 4)) (blkOk_by (N := N_l_row) (sc := defScope s_l_row) (by decide +kernel)) (fun _ _ _ _ _ => (pg_name (i := 6) nd rfl (Or.inl rfl))) (fun _ _ _ _ _ => pts_nil) (fun _ _ _ _ _ => pe_ifExp (pt_cmpR op_eq (pe_call GD.ok (hr.mono (by decide)) (by rfl) C.g_l_draw GD.kp GD.b .nil pass0 (pa_cons (pv 0) (pa_cons pe_int pa_nil))) pe_int (nomark _)) (pe_op op_add_str pe_str (pv 6)) (pv 6))) (pss_one (ps_ret (pe_tup (pa_cons (pv 1) (pa_cons (pv 4) (pa_cons (pe_lc (own := [("_law_turn", 5)]) (g := gName 5) (tt := tYes) rfl nd (pi_range1 (by rfl) C.f_range (pa_cons (pe_call GD.ok (hr.mono (by decide)) (by rfl) C.g_l_draw GD.kp GD.b .nil pass0 (pa_cons (pv 0) (pa_cons pe_int pa_nil))) pa_nil)) (blkOk_by (N := N_l_row) (sc := defScope s_l_row) (by decide +kernel)) (fun _ _ _ _ _ => (pg_name (i := 5) nd rfl (Or.inl rfl))) (fun _ _ _ _ _ => pts_nil) (fun _ _ _ _ _ => (pe_ix (ix_listK K) (pv 3) (pe_call GD.ok (hr.mono (by decide)) (by rfl) C.g_l_draw GD.kp GD.b .nil pass0 (pa_cons (pv 0) (pa_cons (pe_callB (call_lenK K) (by rfl) C.f_len boot_len (pa_cons (pv 3) pa_nil)) pa_nil))) (fun _ _ => rfl)))) pa_nil))))))))))), ?_⟩
    refine ⟨(by show 3 ≤ sizeLine; decide), fun p1 hp1 => ?_⟩
    have D1 := hD.new (o := .lst [.str "yes", .str "no", .str "list"]) hp1
    have s1 := hD.snew (o := .lst [.str "yes", .str "no", .str "list"]) hp1
    have e1 : (upd F p1 (.lst [.str "yes", .str "no", .str "list"])) p1 = _ := upd_same
    refine ⟨_, rfl, d, ce, 3, rfl, D1.da, by decide, by decide, fun H2 r2 g2 da2 hr2 => ?_⟩
    have D2 := D1.gr g2 da2
    obtain ⟨le, hle, hlm⟩ : ∃ le : Str, [V.str "yes", V.str "no", V.str "list"][r2]? = some (.str le) ∧ le ∈ tv_LETTERS := by
      have h3 : r2 = 0 ∨ r2 = 1 ∨ r2 = 2 := by omega
      rcases h3 with rfl | rfl | rfl
      · exact ⟨"yes", rfl, by decide⟩
      · exact ⟨"no", rfl, by decide⟩
      · exact ⟨"list", rfl, by decide⟩
    refine ⟨p1, _, (r2 : Int), _, rfl, rfl, SqL.of (D2.s _ _ e1), atI_nat hle, ?_⟩
    refine ⟨(by show 4 ≤ sizeLine; decide), fun p3 hp3 => ⟨(by show 3 ≤ sizeLine; decide), fun p4 hp4 => ⟨(by show 2 ≤ sizeLine; decide), fun p5 hp5 => ?_⟩⟩⟩
    have D3 := D2.new (o := .lst (stL lstT)) hp3
    have s3 := D2.snew (o := .lst (stL lstT)) hp3
    have D4 := D3.new (o := .lst (stL lstD)) hp4
    have s4 := D3.snew (o := .lst (stL lstD)) hp4
    have D5 := D4.new (o := .tup [.ref p3, .ref p4]) hp5
    have s5 := D4.snew (o := .tup [.ref p3, .ref p4]) hp5
    have e3 := s5 _ _ (s4 _ _ (upd_same (H := upd F p1 (.lst [.str "yes", .str "no", .str "list"])) (a := p3) (o := .lst (stL lstT))))
    have e4 := s5 _ _ (upd_same (H := upd (upd F p1 (.lst [.str "yes", .str "no", .str "list"])) p3 (.lst (stL lstT))) (a := p4) (o := .lst (stL lstD)))
    have sA := ((s1.trans s3).trans s4).trans s5
    refine ⟨p5, _, rfl, SqT.of upd_same, rfl, _, _, rfl, _, _, rfl, rfl, ?_⟩
    refine ⟨fun σ' H' => ∃ (F' : L2.Hp) (tl dl : Addr) (TS DS : List Str), Same F F' ∧ Dl F' H' d ce ∧ F' tl = some (.lst (stL TS)) ∧ F' dl = some (.lst (stL DS)) ∧ (∀ t ∈ TS, t ∈ ansT ∧ (le = "list" → t ∈ lstT)) ∧ (∀ t ∈ DS, t ∈ ansD ∧ (le = "list" → t ∈ lstD)) ∧ 0 < TS.length ∧ TS.length ≤ 10 ∧ 0 < DS.length ∧ DS.length ≤ 10 ∧
      σ' = [some (.ref d), some (.str le), some (.ref tl), some (.ref dl), none, none, none], ?_, ?_⟩
    · refine ⟨_, rfl, rfl, _, rfl, ?_⟩
      rw [dec_strV]
      by_cases el : le = "list"
      · rw [decide_eq_true el]
        exact ifF rfl ⟨_, p3, p4, lstT, lstD, sA, D5, e3, e4, fun t ht => ⟨(by decide : ∀ t ∈ lstT, t ∈ ansT) t ht, fun _ => ht⟩, fun t ht => ⟨(by decide : ∀ t ∈ lstD, t ∈ ansD) t ht, fun _ => ht⟩, by decide, by decide, by decide, by decide, rfl⟩
      · rw [decide_eq_false el]
        refine ifT rfl ⟨_, rfl, (by show 2 ≤ sizeLine; decide), fun q1 hq1 => ?_⟩
        have D6 := D5.new (o := .lst (stL ["first", "gone"])) hq1
        have s6 := D5.snew (o := .lst (stL ["first", "gone"])) hq1
        refine ⟨p3, q1, stL lstT, stL ["first", "gone"], rfl, rfl, D6.s _ _ (s6 _ _ e3), upd_same, (by show 6 ≤ sizeLine; decide), fun q2 hq2 => ?_⟩
        have D7 := D6.new (o := .lst (stL ansT)) hq2
        have s7 := D6.snew (o := .lst (stL ansT)) hq2
        refine ⟨_, rfl, (by show 2 ≤ sizeLine; decide), fun q3 hq3 => ?_⟩
        have D8 := D7.new (o := .lst (stL ["do", "drop"])) hq3
        have s8 := D7.snew (o := .lst (stL ["do", "drop"])) hq3
        refine ⟨p4, q3, stL lstD, stL ["do", "drop"], rfl, rfl, D8.s _ _ (s8 _ _ (s7 _ _ (s6 _ _ e4))), upd_same, (by show 5 ≤ sizeLine; decide), fun q4 hq4 => ?_⟩
        have D9 := D8.new (o := .lst (stL (lstD ++ (["do", "drop"] : List Str)))) hq4
        have s9 := D8.snew (o := .lst (stL (lstD ++ (["do", "drop"] : List Str)))) hq4
        refine ⟨(by show 2 ≤ sizeLine; decide), fun q5 hq5 => ?_⟩
        have D10 := D9.new (o := .tup [.ref q2, .ref q4]) hq5
        have s10 := D9.snew (o := .tup [.ref q2, .ref q4]) hq5
        refine ⟨q5, _, rfl, SqT.of upd_same, rfl, _, _, rfl, _, _, rfl, rfl, ?_⟩
        refine ⟨_, q2, q4, ansT, lstD ++ (["do", "drop"] : List Str), ((((sA.trans s6).trans s7).trans s8).trans s9).trans s10, D10, s10 _ _ (s9 _ _ (s8 _ _ upd_same)), s10 _ _ upd_same, fun t ht => ⟨ht, fun e => absurd e el⟩, fun t ht => ⟨(by decide : ∀ t ∈ lstD ++ (["do", "drop"] : List Str), t ∈ ansD) t ht, fun e => absurd e el⟩, by decide, by decide, by decide, by decide, rfl⟩
    rintro σ' H6 ⟨F6, tl, dl, TS, DS, s6, D6, etl, edl, hTS, hDS, lT0, lT, lD0, lD, rfl⟩
    -- tests
    refine ⟨_, rfl, d, ce, 5, rfl, D6.da, by decide, by decide, fun H7 r7 g7 da7 hr7 => ⟨(r7 : Int), rfl, by omega, by omega, fun X1 hX1 => ?_⟩⟩
    have D7 := D6.gr g7 da7
    refine lc_ds (walk_range (lo := 0) (n := (r7 : Int).toNat)) (by omega) D7 hX1 (fun _ _ _ _ => True.intro) (fun _ y => ∃ z, y = .str z ∧ z ∈ TS) (fun i x F8 H8 H8' Qy Qn hi s8 D8 y k1 => ?_) (fun F8 H8 ys s8 D8 e8 l8 hys => ?_)
    · obtain ⟨rfl, rfl⟩ := y
      have etl8 := s8 _ _ etl
      refine ⟨rfl, yesT ⟨_, rfl, _, rfl, _, rfl, _, TS.length, rfl, .inl ⟨_, SqL.of (D8.s _ _ etl8), (stL_len _).symm⟩, d, ce, TS.length, rfl, D8.da, lT0, by omega, fun H9 r9 g9 da9 hr9 => ?_⟩⟩
      have D9 := D8.gr g9 da9
      exact ⟨tl, _, (r9 : Int), _, rfl, rfl, SqL.of (D9.s _ _ etl8), atI_nat (stL_at (List.getElem?_eq_getElem hr9)), k1 F8 H9 _ (Same.refl _) D9 ⟨_, rfl, List.getElem_mem hr9⟩⟩
    obtain ⟨zs, rfl, hzs⟩ := strs_of hys
    rw [stL_len] at l8
    -- with not
    refine ⟨_, rfl, X1, rfl, ⟨_, SqL.of (D8.s _ _ e8)⟩, fun X2 hX2 => ?_⟩
    refine lc_ds (walk_list (K := K) (xs := stL zs)) (by rw [stL_len]; omega) D8 hX2 (fun F' H' s' D' => SqL.of (D'.s _ _ (s' _ _ e8))) (fun _ y => ∃ z, y = .str z ∧ tOk le z) (fun i x F9 H9 H9' Qy Qn hi s9 D9 y k1 => ?_) (fun F9 H9 ys s9 D9 e9 l9 hys => ?_)
    · obtain ⟨rfl, e2⟩ := y
      rw [stL_len] at hi
      obtain rfl : x = .str zs[i] := map_un (f := V.str) (List.getElem?_eq_getElem hi) e2
      obtain ⟨t1, t2⟩ := hTS _ (hzs _ (List.getElem_mem hi))
      obtain ⟨f1, f2, f3, f4, f5⟩ := row_facts _ t1
      refine ⟨rfl, yesT ⟨_, rfl, d, ce, 3, rfl, D9.da, by decide, by decide, fun H10 r10 g10 da10 hr10 => ⟨rfl, _, rfl, ?_⟩⟩⟩
      have D10 := D9.gr g10 da10
      refine ite2 (fun _ => ⟨_, rfl, _, _, rfl, rfl, (by show (4 : Nat) + zs[i].length ≤ sizeLine; exact small (by omega)), k1 F9 H10 _ (Same.refl _) D10 ⟨_, rfl, f2, fun e => by rw [f4]; exact t2 e⟩⟩) (fun _ => ⟨_, rfl, k1 F9 H10 _ (Same.refl _) D10 ⟨_, rfl, f1, fun e => by rw [f3]; exact t2 e⟩⟩)
    obtain ⟨ws, rfl, hws⟩ := strs_of hys
    rw [stL_len, stL_len] at l9
    -- deeds
    refine ⟨_, rfl, _, rfl, _, rfl, d, ce, 5, rfl, D9.da, by decide, by decide, fun H10 r10 g10 da10 hr10 => ⟨(r10 : Int), rfl, by omega, by omega, fun X3 hX3 => ?_⟩⟩
    have D10 := D9.gr g10 da10
    refine lc_ds (walk_range (lo := 0) (n := (r10 : Int).toNat)) (by omega) D10 hX3 (fun _ _ _ _ => True.intro) (fun _ y => ∃ z, y = .str z ∧ dOk le z) (fun i x F11 H11 H11' Qy Qn hi s11 D11 y k1 => ?_) (fun F11 H11 ys s11 D11 e11 l11 hys => ?_)
    · obtain ⟨rfl, rfl⟩ := y
      have edl8 := s11 _ _ (s9 _ _ (s8 _ _ edl))
      refine ⟨rfl, yesT ⟨_, rfl, _, rfl, _, rfl, _, DS.length, rfl, .inl ⟨_, SqL.of (D11.s _ _ edl8), (stL_len _).symm⟩, d, ce, DS.length, rfl, D11.da, lD0, by omega, fun H12 r12 g12 da12 hr12 => ?_⟩⟩
      have D12 := D11.gr g12 da12
      exact ⟨dl, _, (r12 : Int), _, rfl, rfl, SqL.of (D12.s _ _ edl8), atI_nat (stL_at (List.getElem?_eq_getElem hr12)), k1 F11 H12 _ (Same.refl _) D12 ⟨_, rfl, hDS _ (List.getElem_mem hr12)⟩⟩
    obtain ⟨us, rfl, hus⟩ := strs_of hys
    rw [stL_len] at l11
    refine ⟨(by show 3 ≤ sizeLine; decide), fun pr hpr => ?_⟩
    have D12 := D11.new (o := .tup [.str le, .ref X2, .ref X3]) hpr
    have s12 := D11.snew (o := .tup [.str le, .ref X2, .ref X3]) hpr
    have sAll := ((((s6.trans s8).trans s9).trans s11))
    have fr : ∀ {a : Addr} {F' : L2.Hp}, Same F F' → F' a = none → F a = none := fun {a F'} s h => by
      cases e : F a with
      | none => rfl
      | some o => rw [s _ _ e] at h; cases h
    exact k _ _ pr X2 X3 ⟨le, ws, us⟩ (sAll.trans s12) D12 ⟨upd_same, s12 _ _ (s11 _ _ e9), s12 _ _ e11⟩ (fr sAll (D11.free hpr)) (fr (s6.trans s8) (D8.free hX2)) (fr ((s6.trans s8).trans s9) (D10.free hX3)) ⟨hlm, hws, hus, by show ws.length ≤ 10; omega, by show us.length ≤ 10; omega⟩
end
end Hp
set_option Elab.async false
set_option linter.all false
set_option maxRecDepth 100000
set_option maxHeartbeats 4000000
namespace Hp
open PySem PySem.Spec PyProof.Rows L2
def RowsF (F : L2.Hp) (pr : Addr) (rows : List RowD) : Prop := ∃ l : List (Addr × Addr × Addr), F pr = some (.lst (l.map fun t => V.ref t.1)) ∧ l.length = rows.length ∧ ∀ (i : Nat) (t : Addr × Addr × Addr) (r : RowD), l[i]? = some t → rows[i]? = some r → RowX F t.1 t.2.1 t.2.2 r
theorem RowsF.mono {F F' : L2.Hp} {pr : Addr} {rows : List RowD} (h : RowsF F pr rows) (s : Same F F') : RowsF F' pr rows := by
  obtain ⟨l, a, b, c⟩ := h
  exact ⟨l, s _ _ a, b, fun i t r e1 e2 => (c i t r e1 e2).mono s⟩
theorem app_at {α : Type} {l : List α} {x y : α} {j : Nat} (e : (l ++ [x])[j]? = some y) : (j < l.length ∧ l[j]? = some y) ∨ (j = l.length ∧ y = x) := by
  by_cases hj : j < l.length
  · rw [List.getElem?_append_left hj] at e
    exact .inl ⟨hj, e⟩
  · have hl := (List.getElem?_eq_some_iff.mp e).1
    rw [List.length_append] at hl
    have hl' : j < l.length + 1 := hl
    obtain rfl : j = l.length := by omega
    rw [List.getElem?_append_right (Nat.le_refl _), Nat.sub_self] at e
    exact .inr ⟨rfl, (Option.some.inj e).symm⟩
section
variable {P : Program} {w : World} {K : PySem.W.Frag} {mg : Str → Option Value} {base : Heap}
def spWorld (K : PySem.W.Frag) : Sp := fun vs H Q _ => ∃ (F : L2.Hp) (d ce : Addr), vs = [.ref d] ∧ Dl F H d ce ∧
  ∀ (F' H' : L2.Hp) (p pb pr : Addr) (N : Nm) (B : IB) (L O : List Nat) (rows : List RowD), Same F F' → Dl F' H' d ce → F' p = some (.tup [.ref pb, .ref pr]) → BookF F' pb N B L O → BkOk N B L O → RowsF F' pr rows → (∀ r ∈ rows, r.Ok) → rows.length ≤ 6 → Q (.ref p) H'
theorem h_l_world (C : Ctx K mg) : ∃ fd, Has P w K mg base 5 (He.fAd K ("_law_world", none)) ["_law_deal_here"] (spWorld K) fd := by
  obtain ⟨fdB, GB⟩ := h_l_book (P := P) (w := w) (base := base) C
  obtain ⟨fdR, GR⟩ := h_l_row (P := P) (w := w) (base := base) C
  obtain ⟨fdD, GD⟩ := h_l_draw (P := P) (w := w) (base := base) C
  refine has_of C.fn_l_world sc_l_world (fun vs H Q E h => ?_) (fun cdv A outer s H vs Q E hr h => ?_)
  · obtain ⟨F, d, ce, rfl, _⟩ := h
    rfl
  · obtain ⟨F, d, ce, rfl, hD, k⟩ := h
    have nd := sc_l_world.nd
    refine ⟨_, (pss_cons (ps_set (i := 1) nd rfl (Or.inl rfl) (pe_call GB.ok (hr.mono (by decide)) (by rfl) C.g_l_book GB.kp GB.b .nil pass0 (pa_cons (pv 0) (pa_cons pe_int pa_nil)))) (pss_one (ps_ret (pe_tup (pa_cons (pv 1) (pa_cons (pe_lc (own := [("_law_row_here", 2)]) (g := gName 2) (tt := tYes) rfl nd (pi_range1 (by rfl) C.f_range (pa_cons (pe_call GD.ok (hr.mono (by decide)) (by rfl) C.g_l_draw GD.kp GD.b .nil pass0 (pa_cons (pv 0) (pa_cons pe_int pa_nil))) pa_nil)) (blkOk_by (N := N_l_world) (sc := defScope s_l_world) (by decide +kernel)) (fun _ _ _ _ _ => (pg_name (i := 2) nd rfl (Or.inl rfl))) (fun _ _ _ _ _ => pts_nil) (fun _ _ _ _ _ => (pe_call GR.ok (hr.mono (by decide)) (by rfl) C.g_l_row GR.kp GR.b .nil pass0 (pa_cons (pv 0) pa_nil)))) pa_nil)))))), ?_⟩
    refine ⟨_, rfl, F, d, ce, rfl, hD, fun F1 H1 pb N B L O s1 D1 hb hok => ?_⟩
    refine ⟨_, rfl, _, rfl, d, ce, 7, rfl, D1.da, by decide, by decide, fun H2 r2 g2 da2 hr2 => ⟨(r2 : Int), rfl, by omega, by omega, fun D hDn => ?_⟩⟩
    have D2 := D1.gr g2 da2
    have nD := D2.free hDn
    refine lc_it (walk_range (lo := 0) (n := (r2 : Int).toNat)) (fun j H' => ∃ (F' : L2.Hp) (l : List (Addr × Addr × Addr)) (rows : List RowD), Same F1 F' ∧ Dl F' H' d ce ∧ F' D = some (.lst (l.map fun t => V.ref t.1)) ∧ l.length = j ∧ rows.length = j ∧
      (∀ (i : Nat) (t : Addr × Addr × Addr) (r : RowD), l[i]? = some t → rows[i]? = some r → RowX F' t.1 t.2.1 t.2.2 r ∧ t.1 ≠ D ∧ t.2.1 ≠ D ∧ t.2.2 ≠ D) ∧ ∀ r ∈ rows, r.Ok) ⟨_, [], [], D2.snew (o := .lst []) hDn, D2.new hDn, upd_same, rfl, rfl, fun i t r e => (by cases e), fun r hr => (by cases hr)⟩ (fun _ _ _ _ => True.intro) (fun j x H3 H3' hj q y => ?_) (fun H3 q => ?_)
    · obtain ⟨F3, l, rows, s3, D3, eD, ll, lr, hrw, hro⟩ := q
      obtain ⟨rfl, rfl⟩ := y
      refine ⟨rfl, yesT ⟨_, rfl, F3, d, ce, rfl, D3, fun F4 H4 p a b r s4 D4 hx n1 n2 n3 hok => ?_⟩⟩
      have eD4 := s4 _ _ eD
      have ne : ∀ {z : Addr}, F3 z = none → z ≠ D := fun {z} h e => by rw [e, eD] at h; cases h
      refine ⟨_, D4.s _ _ eD4, smallL (by rw [List.length_map]; omega), _, l ++ [(p, a, b)], rows ++ [r], Same.put (s3.trans s4) nD, D4.put eD4, by rw [upd_same, List.map_append]; rfl, by rw [List.length_append, ll]; rfl, by rw [List.length_append, lr]; rfl, fun i t r' e1 e2 => ?_, fun r' hr' => ?_⟩
      · have kp : ∀ {p a b : Addr} {r : RowD} {o : HO}, RowX F4 p a b r → p ≠ D → a ≠ D → b ≠ D → RowX (upd F4 D o) p a b r := fun {p a b r o} h q1 q2 q3 => ⟨by rw [upd_ne q1]; exact h.h1, by rw [upd_ne q2]; exact h.h2, by rw [upd_ne q3]; exact h.h3⟩
        rcases app_at e1 with ⟨c1, c2⟩ | ⟨c1, rfl⟩
        · rcases app_at e2 with ⟨c3, c4⟩ | ⟨c3, rfl⟩
          · obtain ⟨u1, u2, u3, u4⟩ := hrw i t r' c2 c4
            exact ⟨kp (u1.mono s4) u2 u3 u4, u2, u3, u4⟩
          · omega
        · rcases app_at e2 with ⟨c3, c4⟩ | ⟨c3, rfl⟩
          · omega
          · exact ⟨kp hx (ne n1) (ne n2) (ne n3), ne n1, ne n2, ne n3⟩
      · rcases List.mem_append.mp hr' with q | q
        · exact hro r' q
        · obtain rfl : r' = r := by simpa using q
          exact hok
    · obtain ⟨F3, l, rows, s3, D3, eD, ll, lr, hrw, hro⟩ := q
      refine ⟨(by show 2 ≤ sizeLine; decide), fun p hp => ?_⟩
      have s4 := D3.snew (o := .tup [.ref pb, .ref D]) hp
      exact k _ _ p pb D N B L O rows ((s1.trans s3).trans s4) (D3.new hp) upd_same (hb.mono (s3.trans s4)) hok ⟨l, s4 _ _ eD, by omega, fun i t r e1 e2 => (hrw i t r e1 e2).1.mono s4⟩ hro (by omega)
def spLPage (K : PySem.W.Frag) : Sp := fun vs H Q _ => ∃ (pr : Addr) (rows : List RowD), vs = [.ref pr] ∧ RowsF H pr rows ∧ (∀ r ∈ rows, r.Ok) ∧ rows.length ≤ 100 ∧ ∀ p H', Same H H' → PageAt K H' p rows → Q (.ref p) H'
theorem h_l_page (C : Ctx K mg) : ∃ fd, Has P w K mg base 5 (He.fAd K ("_law_page", none)) ["_law_rows"] (spLPage K) fd := by
  obtain ⟨fdP, GP⟩ := h_page_init (P := P) (w := w) (base := base) C
  obtain ⟨fdR, GR⟩ := h_row_init (P := P) (w := w) (base := base) C
  refine has_of C.fn_l_page sc_l_page (fun vs H Q E h => ?_) (fun cdv A outer s H vs Q E hr h => ?_)
  · obtain ⟨pr, rows, rfl, _⟩ := h
    rfl
  · obtain ⟨pr, rows, rfl, ⟨l, e1, e2, e3⟩, hro, hrl, k⟩ := h
    have nd := sc_l_page.nd
    have hr4 : Room 4 _ := hr.mono (by decide)
    refine ⟨_, (pss_one (ps_ret (pe_make C.mk_Page GP.ok hr4 (by rfl) C.g_Page GP.b .nil pass0 (pa_cons (pe_lc (own := [("_law_row_here", 1)]) (g := gName 1) (tt := tYes) rfl nd (pi_list (pv 0)) (blkOk_by (N := N_l_page) (sc := defScope s_l_page) (by decide +kernel)) (fun _ _ _ _ _ => (pg_name (i := 1) nd rfl (Or.inl rfl))) (fun _ _ _ _ _ => pts_nil) (fun _ _ _ _ _ => pe_make C.mk_Row GR.ok hr4 (by rfl) C.g_Row GR.b .nil pass0 (pa_cons (pe_ix (ix_tupK K) (pv 1) pe_int (fun _ _ => rfl)) (pa_cons (pe_ix (ix_tupK K) (pv 1) pe_int (fun _ _ => rfl)) (pa_cons (pe_ix (ix_tupK K) (pv 1) pe_int (fun _ _ => rfl)) pa_nil))))) pa_nil)))), ?_⟩
    refine ⟨_, rfl, pr, rfl, ⟨_, SqL.of e1⟩, fun D hDn => ?_⟩
    refine lc_it (walk_list (K := K) (xs := l.map fun t => V.ref t.1)) (fun j H' => Same H H' ∧ ∃ ras : List Addr, H' D = some (.lst (ras.map V.ref)) ∧ ras.length = j ∧ ∀ (i : Nat) (ra : Addr) (r : RowD), ras[i]? = some ra → rows[i]? = some r → RowAt K H' ra r) ⟨same_new hDn, [], upd_same, rfl, fun i ra r e => (by cases e)⟩ (fun j H' _ q => SqL.of (q.1 _ _ e1)) (fun j x H3 H3' hj q y => ?_) (fun H3 q => ?_)
    · obtain ⟨s3, ras, eD, lr, hra⟩ := q
      obtain ⟨rfl, e4⟩ := y
      rw [List.length_map] at hj
      have hjr : j < rows.length := by omega
      have hlj : l[j]? = some l[j] := List.getElem?_eq_getElem hj
      obtain rfl : x = .ref l[j].1 := map_un (f := fun t : Addr × Addr × Addr => V.ref t.1) hlj e4
      have hx := e3 j _ _ hlj (List.getElem?_eq_getElem hjr)
      have hmem := hro _ (List.getElem_mem hjr)
      have hrj : rows[j]? = some rows[j] := List.getElem?_eq_getElem hjr
      generalize rows[j] = r at hx hmem hrj
      generalize l[j] = t at hx
      have x1 := s3 _ _ hx.h1
      refine ⟨rfl, yesT ⟨_, rfl, t.1, _, 0, _, rfl, rfl, SqT.of x1, rfl, _, rfl, t.1, _, 1, _, rfl, rfl, SqT.of x1, rfl, _, rfl, t.1, _, 2, _, rfl, rfl, SqT.of x1, rfl, fun q dq hq hdq hne => ?_⟩⟩
      have sm : Same H3' (upd (upd H3' dq (.own q)) q (.ins (He.ga K "Row") dq [])) := (same_new hdq).trans (same_new (by rw [upd_ne hne.symm]; exact hq))
      refine ⟨q, dq, t.2.1, t.2.2, r, rfl, upd_same, sm _ _ (s3 _ _ hx.h2), sm _ _ (s3 _ _ hx.h3), hmem, fun H4 k4 hR => ⟨rfl, ?_⟩⟩
      have s4 : Same H3' H4 := k4.same sm hq
      have eD4 := s4 _ _ eD
      have nqD : q ≠ D := fun e => by rw [e, eD] at hq; cases hq
      have kp : ∀ {ra : Addr} {r : RowD} {o : HO}, RowAt K H4 ra r → RowAt K (upd H4 D o) ra r := fun {ra r o} h => by
        obtain ⟨d1, d2, d3, g1, g2, g3⟩ := h
        exact ⟨d1, d2, d3, by rw [upd_ne (ne_of g1 eD4 (by intro q; cases q))]; exact g1, by rw [upd_ne (ne_of g2 eD4 (by intro q; cases q))]; exact g2, by rw [upd_ne (ne_of g3 eD4 (by intro q; cases q))]; exact g3⟩
      refine ⟨_, eD4, smallL (by rw [List.length_map]; omega), fun b o e => ?_, ras ++ [q], by rw [upd_same, List.map_append]; rfl, by rw [List.length_append, lr]; rfl, fun i ra r' c1 c2 => ?_⟩
      · rw [upd_ne (ne_of_none e hDn)]
        exact s4 _ _ (s3 _ _ e)
      · rcases app_at c1 with ⟨c3, c4⟩ | ⟨c3, rfl⟩
        · exact kp ((hra i ra r' c4 c2).mono s4)
        · rw [c3, lr, hrj] at c2
          cases c2
          exact kp hR
    · obtain ⟨s3, ras, eD, lr, hra⟩ := q
      rw [List.length_map] at lr
      intro q dq hq hdq hne
      have sm : Same H3 (upd (upd H3 dq (.own q)) q (.ins (He.ga K "Page") dq [])) := (same_new hdq).trans (same_new (by rw [upd_ne hne.symm]; exact hq))
      exact ⟨q, dq, D, ras, rows, rfl, upd_same, sm _ _ eD, by omega, by omega, fun i ra r c1 c2 => (hra i ra r c1 c2).mono sm, fun H4 k4 hP => ⟨rfl, k q _ (k4.same (s3.trans sm) (by
        cases e : H q with
        | none => rfl
        | some o => rw [s3 _ _ e] at hq; cases hq)) hP⟩⟩
def spAfter (K : PySem.W.Frag) : Sp := fun vs H Q _ => ∃ (pb : Addr) (N : Nm) (B : IB) (L O : List Nat) (i j : Nat), vs = [.ref pb, .str (N.k i), .str (N.v j)] ∧ BookF H pb N B L O ∧ BkOk N B L O ∧ i < N.nk ∧ j < N.nv ∧ ∀ H', Same H H' → Q (optS N.v (B.tg i j)) H'
theorem h_l_after (C : Ctx K mg) : ∃ fd, Has P w K mg base 1 (He.fAd K ("_law_after", none)) ["_law_book_here", "_law_kind", "_law_value"] (spAfter K) fd := by
  refine has_of C.fn_l_after sc_l_after (fun vs H Q E h => ?_) (fun cdv A outer s H vs Q E hr h => ?_)
  · obtain ⟨pb, N, B, L, O, i, j, rfl, _⟩ := h
    rfl
  · obtain ⟨pb, N, B, L, O, i, j, rfl, ⟨as_, ak, al, ao, e0, e1, ⟨ps, ta, e2, e3⟩, e4, e5⟩, hok, hi, hj, k⟩ := h
    have nd := sc_l_after.nd
    have hN := hok.n
    have hk3 := hN.k3
    refine ⟨_, (pss_cons (ps_asg (pv 0) (pg_tup rfl (pgs_cons (pg_name (i := 3) nd rfl (Or.inl rfl)) (pgs_cons (pg_name (i := 4) nd rfl (Or.inl rfl)) (pgs_cons (pg_name (i := 5) nd rfl (Or.inl rfl)) (pgs_cons (pg_name (i := 6) nd rfl (Or.inl rfl)) pgs_nil)))))) (pss_cons (ps_set (i := 7) nd rfl (Or.inl rfl) (pe_ix ix_list (pe_lc (own := [("_law_name", 8), ("_law_told", 9)]) (g := gTup K 2 (gCons (gName 8) (gCons (gName 9) (gNil)))) rfl nd (pi_list (pv 4)) (blkOk_by (N := N_l_after) (sc := defScope s_l_after) (by decide +kernel)) (fun _ _ _ _ _ => (pg_tup rfl (pgs_cons (pg_name (i := 8) nd rfl (Or.inl rfl)) (pgs_cons (pg_name (i := 9) nd rfl (Or.inl rfl)) pgs_nil)))) (fun _ _ _ _ _ => pts_one (pt_cmpR op_eq (pv 8) (pv 1) (nomark _))) (fun _ _ _ _ _ => pv 9)) pe_int (fun _ _ => rfl))) (pss_one (ps_ret (pe_ix ix_list (pv 7) (pe_bm PySem.F.plainAttrs_list PySem.F.slot_list_index PySem.F.type_list_index mt_index (pv 3) (pa_cons (pv 2) pa_nil)) (fun _ _ => rfl)))))), ?_⟩
    refine ⟨_, rfl, pb, _, rfl, SqT.of e0, rfl, _, _, rfl, _, _, rfl, _, _, rfl, _, _, rfl, rfl, ?_⟩
    refine ⟨_, rfl, ak, rfl, ⟨_, SqL.of e2⟩, fun D hDn => ?_⟩
    refine lc_p walk_list (List.range N.nk) (List.length_map ..) (small (by rw [List.length_range]; omega)) (fun m => decide (m = i)) (fun m => .ref (ta m)) hDn (fun H2 s2 => SqL.of (s2 _ _ e2)) (fun m n x H2 H3 Qy Qn hm s2 y k1 k2 => ?_) (fun H2 s2 hL => ?_)
    · obtain ⟨rfl, e6⟩ := y
      obtain rfl : x = .ref (ps n) := map_un (f := fun i => V.ref (ps i)) hm e6
      obtain ⟨rfl, hlt⟩ := range_is hm
      refine ⟨ps n, _, rfl, SqT.of (s2 _ _ (e3 n hlt).1), rfl, _, _, rfl, _, _, rfl, rfl, rfl, _, rfl, _, rfl, rfl, _, rfl, ?_⟩
      have ed : decide (V.str (N.k n) = V.str (N.k i)) = decide (n = i) := by
        rw [dec_strV]
        exact decide_eq_decide.mpr ⟨fun h => hN.kinj _ _ hlt hi h, fun h => by rw [h]⟩
      rw [ed]
      exact ite2 (fun h => ⟨_, rfl, k1 h _ (Same.refl _)⟩) (fun h => k2 (by simpa using h) _ (Same.refl _))
    have ef : ((List.range N.nk).filter fun m => decide (m = i)) = [i] := by
      have hh : ∀ n, i < n → (List.range n).filter (fun m => decide (m = i)) = [i] := fun n => by
        induction n with
        | zero => intro h; omega
        | succ n ih =>
          intro h
          rw [List.range_succ, List.filter_append]
          by_cases hn : n = i
          · subst hn
            have : (List.range n).filter (fun m => decide (m = n)) = [] := List.filter_eq_nil_iff.mpr fun a ha => by
              have := List.mem_range.mp ha
              simp
              omega
            rw [this, List.nil_append, List.filter_cons, if_pos (decide_eq_true rfl), List.filter_nil]
          · rw [ih (by omega), List.filter_cons, if_neg (by simpa using hn), List.filter_nil, List.append_nil]
      exact hh _ hi
    rw [ef] at hL
    refine ⟨D, _, 0, .ref (ta i), rfl, rfl, SqL.of hL, rfl, ?_⟩
    have hrow : (B.row N i)[j]? = some (optS N.v (B.tg i j)) := map_at (range_at hj)
    have hv : N.vs[j]? = some (N.v j) := map_at (range_at hj)
    refine ⟨_, rfl, _, rfl, .inl ⟨rfl, _, SqL.of (s2 _ _ e1)⟩, _, rfl, as_, _, .str (N.v j), j, .str (N.v j), rfl, rfl, SqL.of (s2 _ _ e1), rfl, flat_strs _, stL_at hv, ?_, fun m z' hm hz => ?_, ?_⟩
    · rw [eqV_str]; exact decide_eq_true rfl
    · have hvm : N.vs[m]? = some (N.v m) := map_at (range_at (Nat.lt_trans hm hj))
      obtain rfl : z' = .str (N.v m) := map_un (f := V.str) hvm hz
      rw [eqV_str]
      refine decide_eq_false fun e => ?_
      have := hN.vinj _ _ (Nat.lt_trans hm hj) hj e
      omega
    · exact ⟨ta i, _, (j : Int), _, rfl, rfl, SqL.of (s2 _ _ (e3 i hi).2), atI_nat hrow, k _ s2⟩
end
end Hp
set_option Elab.async false
set_option linter.all false
set_option maxRecDepth 100000
set_option maxHeartbeats 4000000
namespace Hp
open PySem PySem.Spec PyProof.Rows L2
/-! the law's page: a dict -/
structure LP where
  kinds : List Nat
  base : Nat
  opn : List Nat
  heard : Nat
  held : List V
def pgK (b : V) (ao : Addr) (h : V) (ak ah : Addr) : List (L2.Key × V) := [(Sum.inr ("base" : Str), b), (Sum.inr ("open" : Str), .ref ao), (Sum.inr ("heard" : Str), h), (Sum.inr ("kinds" : Str), .ref ak), (Sum.inr ("held" : Str), .ref ah)]
structure PgAt (H : L2.Hp) (g : Addr) (N : Nm) (L : LP) : Prop where
  ex : ∃ ao ak ah : Addr, H g = some (.dK (pgK (.str (N.v L.base)) ao (.int (L.heard : Nat)) ak ah)) ∧ H ao = some (.lst (inL L.opn)) ∧ H ak = some (.lst (stL (L.kinds.map N.k))) ∧ H ah = some (.lst L.held)
theorem PgAt.mono {H H' : L2.Hp} {g : Addr} {N : Nm} {L : LP} (h : PgAt H g N L) (s : Same H H') : PgAt H' g N L := by
  obtain ⟨a, b, c, h1, h2, h3, h4⟩ := h.ex
  exact ⟨a, b, c, s _ _ h1, s _ _ h2, s _ _ h3, s _ _ h4⟩
structure LP.Ok (N : Nm) (M : Nat) (L : LP) : Prop where
  b : L.base < N.nv
  k : ∀ i ∈ L.kinds, i < N.nk
  o : ∀ n ∈ L.opn, 1 ≤ n ∧ n ≤ L.kinds.length
  ol : L.opn.length ≤ M
  hl : L.held.length ≤ M
  kl : L.kinds.length ≤ 8
  m : M ≤ 10000
/-- a letter: word, number, value, reach, accepted -/
def LetAt (H : L2.Hp) (p : Addr) (N : Nm) (wd : Str) (n v r : Nat) (acc : List V) : Prop := ∃ q : Addr, H p = some (.tup [.str wd, .int (n : Nat), .str (N.v v), .int (r : Nat), .ref q]) ∧ H q = some (.lst acc)
theorem LetAt.mono {H H' : L2.Hp} {p : Addr} {N : Nm} {wd : Str} {n v r : Nat} {acc : List V} (h : LetAt H p N wd n v r acc) (s : Same H H') : LetAt H' p N wd n v r acc := let ⟨q, a, b⟩ := h; ⟨q, s _ _ a, s _ _ b⟩
section
variable {P : Program} {w : World} {K : PySem.W.Frag} {mg : Str → Option Value} {base : Heap}
theorem ix_kindL {H : L2.Hp} {ak : Addr} {N : Nm} {ks : List Nat} {n : Nat} {Q : VK} (h : H ak = some (.lst (stL (ks.map N.k)))) (h1 : 1 ≤ n) (h2 : n ≤ ks.length) (q : ∀ i, i ∈ ks → ks[n - 1]? = some i → Q (.str (N.k i)) H) : rIxL K (.ref ak) (.int ((n : Int) - 1)) H Q := by
  have hl : n - 1 < ks.length := by omega
  have e := List.getElem?_eq_getElem hl
  refine ⟨ak, _, _, _, rfl, rfl, SqL.of h, ?_, q _ (List.getElem_mem hl) e⟩
  rw [int_pred h1]
  exact atI_nat (stL_at (map_at e))
def spShows (K : PySem.W.Frag) : Sp := fun vs H Q _ => ∃ (pb g : Addr) (N : Nm) (B : IB) (L O : List Nat) (M : Nat) (Z : LP), vs = [.ref pb, .ref g] ∧ BookF H pb N B L O ∧ BkOk N B L O ∧ PgAt H g N Z ∧ Z.Ok N M ∧ ∀ H' j, Same H H' → j < N.nv → Q (.str (N.v j)) H'
theorem h_l_shows (C : Ctx K mg) : ∃ fd, Has P w K mg base 2 (He.fAd K ("_law_shows", none)) ["_law_book_here", "_law_page_here"] (spShows K) fd := by
  obtain ⟨fdA, GA⟩ := h_l_after (P := P) (w := w) (base := base) C
  refine has_of C.fn_l_shows sc_l_shows (fun vs H Q E h => ?_) (fun cdv A outer s H vs Q E hr h => ?_)
  · obtain ⟨pb, g, N, B, L, O, M, Z, rfl, _⟩ := h
    rfl
  · obtain ⟨pb, g, N, B, L, O, M, Z, rfl, hb, hbk, hg, hok, k⟩ := h
    have nd := sc_l_shows.nd
    have hu := hu_of hr
    obtain ⟨ao, ak, ah, g1, g2, g3, g4⟩ := id hg.ex
    refine ⟨_, (pss_cons (ps_set (i := 2) nd rfl (Or.inl rfl) (pe_dget hu (pv 1) pe_str (fun _ _ => rfl))) (pss_cons (ps_for PassesOwn.never rfl (pi_list (pe_dget hu (pv 1) pe_str (fun _ _ => rfl))) (pg_name (i := 3) nd rfl (Or.inl rfl)) (pss_cons (ps_set (i := 4) nd rfl (Or.inl rfl) (pe_call GA.ok (hr.mono (by decide)) (by rfl) C.g_l_after GA.kp GA.b .nil pass0 (pa_cons (pv 0) (pa_cons (pe_ix ix_list (pe_dget hu (pv 1) pe_str (fun _ _ => rfl)) (pe_sub (pv 3) pe_int) (fun _ _ => rfl)) (pa_cons (pv 2) pa_nil))))) (pss_one (ps_set (i := 2) nd rfl (Or.inl rfl) (pe_ifExp (pt_cmpR op_isN (pv 4) pe_non (nomark _)) (pv 2) (pv 4)))))) (pss_one (ps_ret (pv 2))))), ?_⟩
    refine ⟨_, rfl, g, _, rfl, dgetS g1 rfl, ?_⟩
    refine ⟨_, rfl, g, _, rfl, dgetS g1 rfl, ao, rfl, ⟨_, SqL.of g2⟩, ?_⟩
    refine for_list (K := K) (a := ao) (xs := inL Z.opn) (fun i σ' H' => Same H H' ∧ ∃ (j : Nat) (x3 x4 : Option V), j < N.nv ∧ σ' = [some (.ref pb), some (.ref g), some (.str (N.v j)), x3, x4]) ⟨Same.refl _, Z.base, none, none, hok.b, rfl⟩ (fun i σ' H' _ q => SqL.of (q.1 _ _ g2)) ?_ ?_
    · rintro i x σ' H1 hi ⟨s1, j, x3, x4, hj, rfl⟩
      have hil : i < Z.opn.length := by
        have q := (List.getElem?_eq_some_iff.mp hi).1
        rw [inL_len] at q
        exact q
      obtain rfl : x = .int (Z.opn[i] : Nat) := map_un (f := fun n : Nat => V.int (n : Nat)) (List.getElem?_eq_getElem hil) hi
      obtain ⟨n1, n2⟩ := hok.o _ (List.getElem_mem hil)
      generalize Z.opn[i] = n at n1 n2
      refine ⟨_, rfl, _, rfl, g, _, rfl, dgetS (s1 _ _ g1) rfl, _, rfl, _, _, rfl, rfl, ix_kindL (s1 _ _ g3) n1 n2 fun kd hkd _ => ?_⟩
      refine ⟨_, rfl, pb, N, B, L, O, kd, j, rfl, hb.mono s1, hbk, hok.k kd hkd, hj, fun H2 s2 => ?_⟩
      refine ⟨_, rfl, rfl, _, rfl, ?_⟩
      cases e : B.tg kd j with
      | none => exact ifT rfl ⟨_, rfl, s1.trans s2, j, _, _, hj, rfl⟩
      | some t => exact ifF rfl ⟨_, rfl, s1.trans s2, t, _, _, hbk.b kd j t (hok.k kd hkd) hj e, rfl⟩
    · rintro σ' H1 ⟨s1, j, x3, x4, hj, rfl⟩
      exact ⟨_, rfl, k _ j s1 hj⟩
def spIsSo (K : PySem.W.Frag) : Sp := fun vs H Q _ => ∃ (t : Str) (p g : Addr) (N : Nm) (wd : Str) (n v r : Nat) (acc : List V) (M : Nat) (Z : LP), vs = [.str t, .ref p, .ref g] ∧ LetAt H p N wd n v r acc ∧ PgAt H g N Z ∧ Z.Ok N M ∧ ∀ H' b, Same H H' → Q (.bl b) H'
theorem h_l_is_so (C : Ctx K mg) : ∃ fd, Has P w K mg base 1 (He.fAd K ("_law_is_so", none)) ["_law_test", "_law_letter", "_law_page_here"] (spIsSo K) fd := by
  refine has_of C.fn_l_is_so sc_l_is_so (fun vs H Q E h => ?_) (fun cdv A outer s H vs Q E hr h => ?_)
  · obtain ⟨t, p, g, N, wd, n, v, r, acc, M, Z, rfl, _⟩ := h
    rfl
  · obtain ⟨t, p, g, N, wd, n, v, r, acc, M, Z, rfl, ⟨q, hp, hq⟩, hg, hok, k⟩ := h
    have nd := sc_l_is_so.nd
    have hu := hu_of hr
    obtain ⟨ao, ak, ah, g1, g2, g3, g4⟩ := id hg.ex
    have m1 := hok.ol
    have m2 := hok.m
    refine ⟨_, (pss_cons (ps_asg (pv 1) (pg_tup rfl (pgs_cons (pg_name (i := 3) nd rfl (Or.inl rfl)) (pgs_cons (pg_name (i := 4) nd rfl (Or.inr rfl)) (pgs_cons (pg_name (i := 5) nd rfl (Or.inl rfl)) (pgs_cons (pg_name (i := 6) nd rfl (Or.inl rfl)) (pgs_cons (pg_name (i := 7) nd rfl (Or.inl rfl)) pgs_nil))))))) (pss_cons (ps_if (pt_cmpR op_eq (pv 0) pe_str (nomark _)) (pss_one (ps_ret (pe_cmpR op_lt (pv 6) (pe_dget hu (pv 2) pe_str (fun _ _ => rfl)) (nomark _)))) pss_nil) (pss_cons (ps_if (pt_cmpR op_eq (pv 0) pe_str (nomark _)) (pss_one (ps_ret (pe_cmpR op_ge (pv 6) (pe_callB call_len_seq (by rfl) C.f_len boot_len (pa_cons (pe_dget hu (pv 2) pe_str (fun _ _ => rfl)) pa_nil)) (nomark _)))) pss_nil) (pss_cons (ps_if (pt_cmpR op_eq (pv 0) pe_str (nomark _)) (pss_one (ps_ret (pe_cmpR op_eq (pv 5) (pe_dget hu (pv 2) pe_str (fun _ _ => rfl)) (nomark _)))) pss_nil) (pss_cons (ps_if (pt_cmpR op_eq (pv 0) pe_str (nomark _)) (pss_one (ps_ret (pe_cmpR (op_neD hr.units) (pe_lc (own := [("_law_one", 8)]) (g := gName 8) rfl nd (pi_list (pe_dget hu (pv 2) pe_str (fun _ _ => rfl))) (blkOk_by (N := N_l_is_so) (sc := defScope s_l_is_so) (by decide +kernel)) (fun _ _ _ _ _ => (pg_name (i := 8) nd rfl (Or.inl rfl))) (fun _ _ _ _ _ => pts_one (pt_cmpR op_ne (pv 8) (pv 4) (nomark _))) (fun _ _ _ _ _ => pv 8)) (pe_lst pa_nil) (nomark _)))) pss_nil) (pss_cons (ps_if (pt_cmpR op_eq (pv 0) pe_str (nomark _)) (pss_one (ps_ret (pe_cmpR op_notIn_seq (pv 4) (pe_dget hu (pv 2) pe_str (fun _ _ => rfl)) (by rfl)))) pss_nil) (pss_one (ps_ret (pe_cmpR (op_eqD hr.units) (pe_slice sl_list (pe_dget hu (pv 2) pe_str (fun _ _ => rfl)) po_none (po_some pe_int)) (pe_lst (pa_cons (pv 4) pa_nil)) (nomark _)))))))))), ?_⟩
    refine ⟨_, rfl, p, _, rfl, SqT.of hp, rfl, _, _, rfl, _, _, rfl, _, _, rfl, _, _, rfl, _, _, rfl, rfl, ?_⟩
    refine ⟨_, rfl, rfl, _, rfl, ite2 (fun _ => ⟨_, rfl, _, rfl, g, _, rfl, dgetS g1 rfl, _, _, rfl, rfl, k _ _ (Same.refl _)⟩) (fun _ => ?_)⟩
    refine ⟨_, rfl, rfl, _, rfl, ite2 (fun _ => ⟨_, rfl, _, rfl, g, _, rfl, dgetS g1 rfl, ak, _, rfl, .inl (SqL.of g3), _, _, rfl, rfl, k _ _ (Same.refl _)⟩) (fun _ => ?_)⟩
    refine ⟨_, rfl, rfl, _, rfl, ite2 (fun _ => ⟨_, rfl, _, rfl, g, _, rfl, dgetS g1 rfl, rfl, k _ _ (Same.refl _)⟩) (fun _ => ?_)⟩
    refine ⟨_, rfl, rfl, _, rfl, ite2 (fun _ => ?_) (fun _ => ?_)⟩
    · refine ⟨_, rfl, g, _, rfl, dgetS g1 rfl, ao, rfl, ⟨_, SqL.of g2⟩, fun D hD => ?_⟩
      refine lc_p walk_list Z.opn (inL_len _) (small (by omega)) (fun m => !decide (m = n)) (fun m => .int (m : Nat)) hD (fun H2 s2 => SqL.of (s2 _ _ g2)) (fun i m x H2 H3 Qy Qn hi s2 y k1 k2 => ?_) (fun H2 s2 hL => ?_)
      · obtain ⟨rfl, e2⟩ := y
        obtain rfl : x = .int (m : Nat) := map_un (f := fun n : Nat => V.int (n : Nat)) hi e2
        refine ⟨rfl, _, rfl, _, rfl, rfl, _, rfl, ?_⟩
        have e3 : (!decide (V.int (m : Nat) = V.int (n : Nat))) = !decide (m = n) := by
          rw [dec_intV]
          congr 1
          exact decide_eq_decide.mpr (by omega)
        rw [e3]
        exact ite2 (fun h => ⟨_, rfl, k1 h _ (Same.refl _)⟩) (fun h => k2 (by simpa using h) _ (Same.refl _))
      refine ⟨Nat.zero_le _, fun p2 hp2 => ?_⟩
      have eL : ((Z.opn.filter fun m => !decide (m = n)).map fun m : Nat => V.int (m : Nat)) = ((Z.opn.filter fun m => !decide (m = n)).map fun m : Nat => (m : Int)).map V.int := by rw [List.map_map]; rfl
      rw [eL] at hL
      exact ne_nil_ints (SqL.of (same_new hp2 _ _ hL)) (SqL.of upd_same) (k _ _ (s2.trans (same_new hp2)))
    refine ⟨_, rfl, rfl, _, rfl, ite2 (fun _ => ⟨_, rfl, _, rfl, g, _, rfl, dgetS g1 rfl, ao, _, rfl, .inl (SqL.of g2), rfl, flat_inL _, k _ _ (Same.refl _)⟩) (fun _ => ?_)⟩
    refine ⟨_, rfl, g, _, rfl, dgetS g1 rfl, 1, rfl, ao, _, rfl, SqL.of g2, fun p2 hp2 => ?_⟩
    refine ⟨_, rfl, (by show 1 ≤ sizeLine; decide), fun p3 hp3 => ?_⟩
    have e2 := same_new (o := .lst [.int (n : Nat)]) hp3 _ _ (upd_same (H := H) (a := p2) (o := .lst (cutV (inL Z.opn) none (some 1))))
    have e3 : ∃ ds : List PyData, DpAll K (upd (upd H p2 (.lst (cutV (inL Z.opn) none (some 1)))) p3 (.lst [.int (n : Nat)])) (cutV (inL Z.opn) none (some 1)) ds ∧ SeqAt.shaped (.list ds) = true := by
      cases Z.opn with
      | nil => exact ⟨[], .nil, rfl⟩
      | cons o r =>
        refine ⟨[.int (o : Nat)], ?_, rfl⟩
        rw [show (1 : Int) = ((1 : Nat) : Int) from rfl, cutV_upto _ _ (by rw [inL_len]; exact Nat.succ_le_succ (Nat.zero_le _))]
        exact .cons (.int _) .nil
    obtain ⟨ds, d1, d2⟩ := e3
    exact ⟨_, _, .lst (SqL.of e2) d1, .lst (SqL.of upd_same) (.cons (.int _) .nil), d2, rfl, k _ _ ((same_new hp2).trans (same_new hp3))⟩
end
end Hp
set_option Elab.async false
set_option linter.all false
set_option maxRecDepth 100000
set_option maxHeartbeats 4000000
namespace Hp
open PySem PySem.Spec PyProof.Rows L2
section
variable {P : Program} {w : World} {K : PySem.W.Frag} {mg : Str → Option Value} {base : Heap}
theorem pg_after {H H' : L2.Hp} {g ao ak ah : Addr} {N : Nm} {Z : LP} (h : Kp g H H') (b1 : ∃ o, H g = some o ∧ ∀ xs, o ≠ .lst xs) (h1 : H' g = some (.dK (pgK (.str (N.v Z.base)) ao (.int (Z.heard : Nat)) ak ah))) (h2 : H ao = some (.lst (inL Z.opn))) (h3 : H ak = some (.lst (stL (Z.kinds.map N.k)))) (h4 : H ah = some (.lst Z.held)) : PgAt H' g N Z := by
  obtain ⟨o, e1, e2⟩ := b1
  have ne : ∀ {q : Addr} {xs : List V}, H q = some (.lst xs) → q ≠ g := fun {q xs} e z => by
    rw [z, e1] at e
    exact e2 xs (Option.some.inj e)
  exact ⟨ao, ak, ah, h1, h _ _ h2 (ne h2), h _ _ h3 (ne h3), h _ _ h4 (ne h4)⟩
def spLDeed (K : PySem.W.Frag) : Sp := fun vs H Q _ => ∃ (dd : Str) (pb p g : Addr) (N : Nm) (B : IB) (L O : List Nat) (wd : Str) (n v r : Nat) (acc : List V) (M : Nat) (Z : LP), vs = [.ref pb, .str dd, .ref p, .ref g] ∧ BookF H pb N B L O ∧ BkOk N B L O ∧ LetAt H p N wd n v r acc ∧ acc.length ≤ M ∧ v < N.nv ∧ dd ∈ ansD ∧
  (dd = "do" → 1 ≤ n ∧ n ≤ Z.kinds.length) ∧ PgAt H g N Z ∧ Z.Ok N M ∧ M + 1 ≤ 10000 ∧ ∀ H' Z', Kp g H H' → PgAt H' g N Z' → Z'.Ok N (M + 1) → Z'.kinds = Z.kinds → Q .non H'
theorem h_l_deed (C : Ctx K mg) : ∃ fd, Has P w K mg base 2 (He.fAd K ("_law_deed", none)) ["_law_book_here", "_law_deed_here", "_law_letter", "_law_page_here"] (spLDeed K) fd := by
  obtain ⟨fdA, GA⟩ := h_l_after (P := P) (w := w) (base := base) C
  refine has_of C.fn_l_deed sc_l_deed (fun vs H Q E h => ?_) (fun cdv A outer s H vs Q E hr h => ?_)
  · obtain ⟨dd, pb, p, g, N, B, L, O, wd, n, v, r, acc, M, Z, rfl, _⟩ := h
    rfl
  · obtain ⟨dd, pb, p, g, N, B, L, O, wd, n, v, r, acc, M, Z, rfl, hb, hbk, ⟨q, hp, hq⟩, hal, hv, hdd, hdo, hg, hok, hM, k⟩ := h
    have nd := sc_l_deed.nd
    have hu := hu_of hr
    obtain ⟨ao, ak, ah, g1, g2, g3, g4⟩ := id hg.ex
    have m1 := hok.ol
    have m3 := hok.hl
    have m2 := hok.m
    have l5 : ∀ {b : V} {ao : Addr} {h : V} {ak ah : Addr}, (pgK b ao h ak ah).length < sizeLine := fun {_ _ _ _ _} => by show 5 < sizeLine; decide
    have nl : ∀ {H' : L2.Hp}, Same H H' → ∃ o, H' g = some o ∧ ∀ xs, o ≠ .lst xs := fun {H'} s => ⟨_, s _ _ g1, fun xs q => by cases q⟩
    -- the open ones anew
    have opn : ∀ (l : List Nat) (D : Addr) (H2 : L2.Hp), Same H H2 → H2 D = some (.lst (inL l)) → (∀ n ∈ l, n ∈ Z.opn) → l.length ≤ Z.opn.length → Q .non (upd H2 g (.dK (pgK (.str (N.v Z.base)) D (.int (Z.heard : Nat)) ak ah))) := fun l D H2 s2 hD hl hl2 => by
      have kp := (Kp.of (p := g) s2).put (o := .dK (pgK (.str (N.v Z.base)) D (.int (Z.heard : Nat)) ak ah))
      refine k _ { Z with opn := l } kp (pg_after (H := H2) (Z := { Z with opn := l }) ((Kp.refl).put) (nl s2) upd_same hD (s2 _ _ g3) (s2 _ _ g4)) ⟨hok.b, hok.k, fun n hn => hok.o n (hl n hn), by show l.length ≤ _; omega, by show Z.held.length ≤ _; omega, hok.kl, hM⟩ rfl
    refine ⟨_, (pss_cons (ps_asg (pv 2) (pg_tup rfl (pgs_cons (pg_name (i := 4) nd rfl (Or.inl rfl)) (pgs_cons (pg_name (i := 5) nd rfl (Or.inr rfl)) (pgs_cons (pg_name (i := 6) nd rfl (Or.inl rfl)) (pgs_cons (pg_name (i := 7) nd rfl (Or.inr rfl)) (pgs_cons (pg_name (i := 8) nd rfl (Or.inl rfl)) pgs_nil))))))) (pss_one (ps_if (pt_cmpR op_eq (pv 1) pe_str (nomark _)) (pss_one (ps_asg (pe_tup (pa_cons (pv 6) (pa_cons (pe_callTy call_list_of (by rfl) C.f_list boot_list (pa_cons (pv 8) pa_nil)) pa_nil))) (pg_tup rfl (pgs_cons (pg_sub (pv 3) pe_str (set_dict hu) (fun _ => rfl)) (pgs_cons (pg_sub (pv 3) pe_str (set_dict hu) (fun _ => rfl)) pgs_nil)))))
      (pss_one (ps_if (pt_cmpR op_eq (pv 1) pe_str (nomark _)) (pss_cons (ps_set (i := 9) nd rfl (Or.inl rfl) (pe_call GA.ok (hr.mono (by decide)) (by rfl) C.g_l_after GA.kp GA.b .nil pass0 (pa_cons (pv 0) (pa_cons (pe_ix ix_list (pe_dget hu (pv 3) pe_str (fun _ _ => rfl)) (pe_sub (pv 5) pe_int) (fun _ _ => rfl)) (pa_cons (pe_dget hu (pv 3) pe_str (fun _ _ => rfl)) pa_nil))))) (pss_cons (ps_dput hu (pv 3) pe_str (pe_ifExp (pt_cmpR op_isN (pv 9) pe_non (nomark _)) (pe_dget hu (pv 3) pe_str (fun _ _ => rfl)) (pv 9)) rfl) (pss_one (ps_dput hu (pv 3) pe_str (pe_op op_cat (pe_dget hu (pv 3) pe_str (fun _ _ => rfl)) (pe_lst (pa_cons (pv 5) pa_nil))) rfl))))
      (pss_one (ps_if (pt_cmpR op_eq (pv 1) pe_str (nomark _)) (pss_one (ps_dput hu (pv 3) pe_str (pe_lc (own := [("_law_one", 10)]) (g := gName 10) rfl nd (pi_list (pe_dget hu (pv 3) pe_str (fun _ _ => rfl))) (blkOk_by (N := N_l_deed) (sc := defScope s_l_deed) (by decide +kernel)) (fun _ _ _ _ _ => (pg_name (i := 10) nd rfl (Or.inl rfl))) (fun _ _ _ _ _ => pts_one (pt_cmpR op_ne (pv 10) (pv 5) (nomark _))) (fun _ _ _ _ _ => pv 10)) rfl))
      (pss_one (ps_if (pt_cmpR op_eq (pv 1) pe_str (nomark _)) (pss_one (ps_dput hu (pv 3) pe_str (pe_lc (own := [("_law_one", 10)]) (g := gName 10) rfl nd (pi_list (pe_dget hu (pv 3) pe_str (fun _ _ => rfl))) (blkOk_by (N := N_l_deed) (sc := defScope s_l_deed) (by decide +kernel)) (fun _ _ _ _ _ => (pg_name (i := 10) nd rfl (Or.inl rfl))) (fun _ _ _ _ _ => pts_one (pt_cmpR op_gt (pv 10) (pv 7) (nomark _))) (fun _ _ _ _ _ => pv 10)) rfl))
      (pss_one (ps_dput hu (pv 3) pe_str (pe_lst pa_nil) rfl))))))))))), ?_⟩
    refine ⟨_, rfl, p, _, rfl, SqT.of hp, rfl, _, _, rfl, _, _, rfl, _, _, rfl, _, _, rfl, _, _, rfl, rfl, ?_⟩
    refine ⟨_, rfl, rfl, _, rfl, ite2 (fun _ => ?_) (fun _ => ?_)⟩
    · refine ⟨_, rfl, _, rfl, q, _, rfl, .inl (SqL.of hq), fun l hl => ⟨(by show 2 ≤ sizeLine; decide), fun t ht => ?_⟩⟩
      have s1 := (same_new (o := .lst acc) hl).trans (same_new (o := .tup [.str (N.v v), .ref l]) ht)
      have nlg : l ≠ g := (ne_of_none g1 hl).symm
      have ntl : l ≠ t := ne_of_none (upd_same (H := H) (a := l) (o := .lst acc)) ht
      have el : (upd (upd H l (.lst acc)) t (.tup [.str (N.v v), .ref l])) l = some (.lst acc) := by rw [upd_ne ntl, upd_same]
      refine ⟨t, _, rfl, SqT.of upd_same, rfl, _, _, rfl, _, rfl, g, _, rfl, DPut.k (k := Sum.inr "base") (s1 _ _ g1) l5, _, _, rfl, _, rfl, g, _, rfl, DPut.k (k := Sum.inr "held") upd_same l5, rfl, ?_⟩
      have kp := ((Kp.of (p := g) s1).put (o := .dK (pgK (.str (N.v v)) ao (.int (Z.heard : Nat)) ak ah))).put (o := .dK (pgK (.str (N.v v)) ao (.int (Z.heard : Nat)) ak l))
      refine k _ { Z with base := v, held := acc } kp (pg_after (Z := { Z with base := v, held := acc }) (H := upd (upd H l (.lst acc)) t (.tup [.str (N.v v), .ref l])) (((Kp.refl).put).put) (nl s1) upd_same (s1 _ _ g2) (s1 _ _ g3) el) ⟨hv, hok.k, hok.o, by show Z.opn.length ≤ _; omega, by show acc.length ≤ _; omega, hok.kl, hM⟩ rfl
    refine ⟨_, rfl, rfl, _, rfl, ite2 (fun e => ?_) (fun _ => ?_)⟩
    · have ed : dd = "do" := by
        rw [dec_strV] at e
        exact of_decide_eq_true e
      obtain ⟨n1, n2⟩ := hdo ed
      refine ⟨_, rfl, _, rfl, g, _, rfl, dgetS g1 rfl, _, rfl, _, _, rfl, rfl, ix_kindL g3 n1 n2 fun kd hkd _ => ?_⟩
      refine ⟨_, rfl, g, _, rfl, dgetS g1 rfl, pb, N, B, L, O, kd, Z.base, rfl, hb, hbk, hok.k kd hkd, hok.b, fun H2 s2 => ?_⟩
      have fin : ∀ v', v' < N.nv → ∃ v1, ([some (V.ref pb), some (V.str dd), some (V.ref p), some (V.ref g), some (V.str wd), some (V.int (n : Nat)), some (V.str (N.v v)), some (V.int (r : Nat)), some (V.ref q), some (optS N.v (B.tg kd Z.base)), none] : L2.St)[3]? = some (some v1) ∧ True := fun _ _ => ⟨_, rfl, True.intro⟩
      have rest : ∀ v', v' < N.nv → ∀ x : V, x = .str (N.v v') → Q .non (upd H g (.dK [])) ∨ True := fun _ _ _ _ => .inr True.intro
      refine ⟨_, rfl, rfl, _, rfl, ?_⟩
      have tail : ∀ v', v' < N.nv → ∀ H3 : L2.Hp, H3 = upd H2 g (.dK (pgK (.str (N.v v')) ao (.int (Z.heard : Nat)) ak ah)) → (∀ p2, H3 p2 = none → ∀ p3, (upd H3 p2 (.lst [.int (n : Nat)])) p3 = none → Q .non (upd (upd (upd H3 p2 (.lst [.int (n : Nat)])) p3 (.lst (Z.held ++ [.int (n : Nat)]))) g (.dK (pgK (.str (N.v v')) ao (.int (Z.heard : Nat)) ak p3)))) := fun v' hv' H3 e3 p2 hp2 p3 hp3 => by
        subst e3
        have k3 := (Kp.of (p := g) s2).put (o := .dK (pgK (.str (N.v v')) ao (.int (Z.heard : Nat)) ak ah))
        have s4 := (same_new (o := .lst [.int (n : Nat)]) hp2).trans (same_new (o := .lst (Z.held ++ [.int (n : Nat)])) hp3)
        have kp := (k3.trans (.of s4)).put (o := .dK (pgK (.str (N.v v')) ao (.int (Z.heard : Nat)) ak p3))
        have ne : ∀ {q : Addr} {xs : List V}, H q = some (.lst xs) → q ≠ g := fun {q xs} e z => by rw [z, g1] at e; cases e
        have np3 : p3 ≠ g := fun z => by rw [z, same_new hp2 _ _ upd_same] at hp3; cases hp3
        refine k _ { Z with base := v', held := Z.held ++ [.int (n : Nat)] } kp ⟨ao, ak, p3, upd_same, kp _ _ g2 (ne g2), kp _ _ g3 (ne g3), by rw [upd_ne np3, upd_same]⟩ ⟨hv', hok.k, hok.o, by show Z.opn.length ≤ _; omega, by show (Z.held ++ [_]).length ≤ _; rw [List.length_append]; show _ + 1 ≤ _; omega, hok.kl, hM⟩ rfl
      cases et : B.tg kd Z.base with
      | none =>
        refine ifT rfl ⟨_, rfl, g, _, rfl, dgetS (s2 _ _ g1) rfl, _, rfl, g, _, rfl, DPut.k (k := Sum.inr "base") (s2 _ _ g1) l5, ?_⟩
        have e3 : (upd H2 g (.dK (pgK (.str (N.v Z.base)) ao (.int (Z.heard : Nat)) ak ah))) g = _ := upd_same
        refine ⟨_, rfl, g, _, rfl, dgetS e3 rfl, _, rfl, (by show 1 ≤ sizeLine; decide), fun p2 hp2 => ?_⟩
        have nag : ah ≠ g := fun z => by rw [z, g1] at g4; cases g4
        refine ⟨ah, p2, Z.held, [.int (n : Nat)], rfl, rfl, same_new hp2 _ _ ((upd_ne nag).trans (s2 _ _ g4)), upd_same, small (by show _ + 1 ≤ _; omega), fun p3 hp3 => ?_⟩
        refine ⟨_, rfl, g, _, rfl, DPut.k (k := Sum.inr "held") (same_new hp3 _ _ (same_new hp2 _ _ e3)) l5, tail Z.base hok.b _ rfl p2 hp2 p3 hp3⟩
      | some t =>
        refine ifF rfl ⟨_, rfl, _, rfl, g, _, rfl, DPut.k (k := Sum.inr "base") (s2 _ _ g1) l5, ?_⟩
        have e3 : (upd H2 g (.dK (pgK (.str (N.v t)) ao (.int (Z.heard : Nat)) ak ah))) g = _ := upd_same
        refine ⟨_, rfl, g, _, rfl, dgetS e3 rfl, _, rfl, (by show 1 ≤ sizeLine; decide), fun p2 hp2 => ?_⟩
        have nag : ah ≠ g := fun z => by rw [z, g1] at g4; cases g4
        refine ⟨ah, p2, Z.held, [.int (n : Nat)], rfl, rfl, same_new hp2 _ _ ((upd_ne nag).trans (s2 _ _ g4)), upd_same, small (by show _ + 1 ≤ _; omega), fun p3 hp3 => ?_⟩
        refine ⟨_, rfl, g, _, rfl, DPut.k (k := Sum.inr "held") (same_new hp3 _ _ (same_new hp2 _ _ e3)) l5, tail t (hbk.b kd Z.base t (hok.k kd hkd) hok.b et) _ rfl p2 hp2 p3 hp3⟩
    refine ⟨_, rfl, rfl, _, rfl, ite2 (fun _ => ?_) (fun _ => ?_)⟩
    · refine ⟨_, rfl, g, _, rfl, dgetS g1 rfl, ao, rfl, ⟨_, SqL.of g2⟩, fun D hD => ?_⟩
      refine lc_p walk_list Z.opn (inL_len _) (small (by omega)) (fun m => !decide (m = n)) (fun m => .int (m : Nat)) hD (fun H2 s2 => SqL.of (s2 _ _ g2)) (fun i m x H2 H3 Qy Qn hi s2 y k1 k2 => ?_) (fun H2 s2 hL => ?_)
      · obtain ⟨rfl, e2⟩ := y
        obtain rfl : x = .int (m : Nat) := map_un (f := fun n : Nat => V.int (n : Nat)) hi e2
        refine ⟨rfl, _, rfl, _, rfl, rfl, _, rfl, ?_⟩
        have e3 : (!decide (V.int (m : Nat) = V.int (n : Nat))) = !decide (m = n) := by
          rw [dec_intV]
          congr 1
          exact decide_eq_decide.mpr (by omega)
        rw [e3]
        exact ite2 (fun h => ⟨_, rfl, k1 h _ (Same.refl _)⟩) (fun h => k2 (by simpa using h) _ (Same.refl _))
      exact ⟨_, rfl, g, _, rfl, DPut.k (k := Sum.inr "open") (s2 _ _ g1) l5, opn _ D H2 s2 hL (fun n hn => (List.mem_filter.mp hn).1) (List.length_filter_le _ _)⟩
    refine ⟨_, rfl, rfl, _, rfl, ite2 (fun _ => ?_) (fun _ => ?_)⟩
    · refine ⟨_, rfl, g, _, rfl, dgetS g1 rfl, ao, rfl, ⟨_, SqL.of g2⟩, fun D hD => ?_⟩
      refine lc_p walk_list Z.opn (inL_len _) (small (by omega)) (fun m => decide ((r : Int) < (m : Int))) (fun m => .int (m : Nat)) hD (fun H2 s2 => SqL.of (s2 _ _ g2)) (fun i m x H2 H3 Qy Qn hi s2 y k1 k2 => ?_) (fun H2 s2 hL => ?_)
      · obtain ⟨rfl, e2⟩ := y
        obtain rfl : x = .int (m : Nat) := map_un (f := fun n : Nat => V.int (n : Nat)) hi e2
        refine ⟨rfl, _, rfl, _, rfl, _, _, rfl, rfl, _, rfl, ?_⟩
        exact ite2 (fun h => ⟨_, rfl, k1 h _ (Same.refl _)⟩) (fun h => k2 (by simpa using h) _ (Same.refl _))
      exact ⟨_, rfl, g, _, rfl, DPut.k (k := Sum.inr "open") (s2 _ _ g1) l5, opn _ D H2 s2 hL (fun n hn => (List.mem_filter.mp hn).1) (List.length_filter_le _ _)⟩
    refine ⟨Nat.zero_le _, fun D hD => ⟨_, rfl, g, _, rfl, DPut.k (k := Sum.inr "open") (same_new hD _ _ g1) l5, opn [] D _ (same_new hD) upd_same (fun n hn => by cases hn) (Nat.zero_le _)⟩⟩
end
end Hp
set_option Elab.async false
set_option linter.all false
set_option maxRecDepth 100000
set_option maxHeartbeats 4000000
namespace Hp
open PySem PySem.Spec PyProof.Rows L2
theorem LP.Ok.up {N : Nm} {M M' : Nat} {Z : LP} (h : Z.Ok N M) (l : M ≤ M') (m : M' ≤ 10000) : Z.Ok N M' := ⟨h.b, h.k, h.o, Nat.le_trans h.ol l, Nat.le_trans h.hl l, h.kl, m⟩
section
variable {P : Program} {w : World} {K : PySem.W.Frag} {mg : Str → Option Value} {base : Heap}
def spHears (K : PySem.W.Frag) : Sp := fun vs H Q _ => ∃ (F : L2.Hp) (pb pr p g : Addr) (N : Nm) (B : IB) (L O : List Nat) (rows : List RowD) (wd : Str) (n v r : Nat) (acc : List V) (M : Nat) (Z : LP), vs = [.ref pb, .ref pr, .ref p, .ref g] ∧ BookF F pb N B L O ∧ BkOk N B L O ∧ RowsF F pr rows ∧ (∀ r ∈ rows, r.Ok) ∧ rows.length ≤ 100 ∧ LetAt F p N wd n v r acc ∧ Same F H ∧ F g = none ∧
  acc.length ≤ M ∧ v < N.nv ∧ (wd ≠ "list" → 1 ≤ n ∧ n ≤ Z.kinds.length) ∧ PgAt H g N Z ∧ Z.Ok N M ∧ M + 10 ≤ 10000 ∧ ∀ H' Z' x, Kp g H H' → PgAt H' g N Z' → Z'.Ok N (M + 10) → Z'.kinds = Z.kinds → Q x H'
theorem h_l_hears (C : Ctx K mg) : ∃ fd, Has P w K mg base 3 (He.fAd K ("_law_hears", none)) ["_law_book_here", "_law_rows", "_law_letter", "_law_page_here"] (spHears K) fd := by
  obtain ⟨fdI, GI⟩ := h_l_is_so (P := P) (w := w) (base := base) C
  obtain ⟨fdD, GD⟩ := h_l_deed (P := P) (w := w) (base := base) C
  refine has_of C.fn_l_hears sc_l_hears (fun vs H Q E h => ?_) (fun cdv A outer s H vs Q E hr h => ?_)
  · obtain ⟨F, pb, pr, p, g, N, B, L, O, rows, wd, n, v, r, acc, M, Z, rfl, _⟩ := h
    rfl
  · obtain ⟨F, pb, pr, p, g, N, B, L, O, rows, wd, n, v, r, acc, M, Z, rfl, hb, hbk, ⟨rl, l1, l2, l3⟩, hro, hrl, hlet, sF, nF, hal, hv, hn, hg, hok, hM, k⟩ := h
    have nd := sc_l_hears.nd
    have hu := hu_of hr
    obtain ⟨q, hp, hq⟩ := id hlet
    obtain ⟨ao, ak, ah, g1, _⟩ := id hg.ex
    refine ⟨_, (pss_cons (ps_set (i := 4) nd rfl (Or.inl rfl) pe_non) (C8.pss_cut (ps_for PassesOwn.never rfl (pi_enum (by rfl) C.f_enumerate (pa_cons (pv 1) pa_nil)) (pg_tup rfl (pgs_cons (pg_name (i := 5) nd rfl (Or.inl rfl)) (pgs_cons (pg_name (i := 6) nd rfl (Or.inl rfl)) pgs_nil))) (pss_cons (ps_set (i := 7) nd rfl (Or.inl rfl) (pe_cmpR op_eq (pe_ix ix_tup (pv 6) pe_int (fun _ _ => rfl)) (pe_ix ix_tup (pv 2) pe_int (fun _ _ => rfl)) (nomark _))) (C8.pss_cut (ps_for PassesOwn.never rfl (pi_list (pe_ifExp (pt_val (pv 7)) (pe_ix ix_tup (pv 6) pe_int (fun _ _ => rfl)) (pe_lst pa_nil))) (pg_name (i := 8) nd rfl (Or.inl rfl)) (pss_cons (ps_set (i := 9) nd rfl (Or.inl rfl) (pe_ifExp (pt_cmpR op_eq (pe_slice sl_str (pv 8) po_none (po_some pe_int)) pe_str (nomark _)) (pe_slice sl_str (pv 8) (po_some pe_int) po_none) (pv 8))) (pss_one (ps_set (i := 7) nd rfl (Or.inl rfl) (pe_and (pv 7) (pe_one (pe_cmpR op_eq (pe_call GI.ok (hr.mono (by decide)) (by rfl) C.g_l_is_so GI.kp GI.b .nil pass0 (pa_cons (pv 9) (pa_cons (pv 2) (pa_cons (pv 3) pa_nil)))) (pe_cmpR op_eq (pv 9) (pv 8) (nomark _)) (nomark _)))))))) (pss_one (ps_if (pt_val (pv 7)) (pss_cons (ps_set (i := 4) nd rfl (Or.inl rfl) (pv 5)) (pss_cons (ps_for PassesOwn.never rfl (pi_list (pe_ix ix_tup (pv 6) pe_int (fun _ _ => rfl))) (pg_name (i := 10) nd rfl (Or.inl rfl)) (pss_one (ps_expr (pe_call GD.ok (hr.mono (by decide)) (by rfl) C.g_l_deed GD.kp GD.b .nil pass0 (pa_cons (pv 0) (pa_cons (pv 10) (pa_cons (pv 2) (pa_cons (pv 3) pa_nil)))))))) (pss_one ps_break))) pss_nil))))) (C8.pss_cut (ps_if (pt_cmpR op_ne (pe_ix ix_tup (pv 2) pe_int (fun _ _ => rfl)) pe_str (nomark _)) (pss_one (ps_dput hu (pv 3) pe_str (pe_callB (call_max2 rfl) (by rfl) C.f_max boot_max (pa_cons (pe_callTy call_int1 (by rfl) C.f_int boot_int (pa_cons (pe_dget hu (pv 3) pe_str (fun _ _ => rfl)) pa_nil)) (pa_cons (pe_callTy call_int1 (by rfl) C.f_int boot_int (pa_cons (pe_ix ix_tup (pv 2) pe_int (fun _ _ => rfl)) pa_nil)) pa_nil))) rfl)) pss_nil) (pss_one (ps_ret (pv 4)))))), ?_⟩
    let Mid : L2.St → L2.Hp → Prop := fun σ' H' => ∃ (x4 : V) (x5 x6 x7 x8 x9 x10 : Option V) (Z' : LP), σ' = [some (.ref pb), some (.ref pr), some (.ref p), some (.ref g), some x4, x5, x6, x7, x8, x9, x10] ∧ Kp g H H' ∧ PgAt H' g N Z' ∧ Z'.Ok N (M + 10) ∧ Z'.kinds = Z.kinds
    refine ⟨Mid, ?_, ?_⟩
    · refine ⟨_, rfl, pr, _, rfl, SqL.of (sF _ _ l1), ?_⟩
      refine for_it walk_enum (fun i σ' H' => Same H H' ∧ ∃ (x5 x6 x7 x8 x9 x10 : Option V), σ' = [some (.ref pb), some (.ref pr), some (.ref p), some (.ref g), some .non, x5, x6, x7, x8, x9, x10]) ⟨Same.refl _, none, none, none, none, none, none, rfl⟩ (fun i σ' H' _ q => SqL.of (q.1 _ _ (sF _ _ l1))) ?_ ?_
      · rintro i x σ' H1 H1' hi ⟨s1, x5, x6, x7, x8, x9, x10, rfl⟩ ⟨T, y1, y2, rfl, hT, rfl, e1, e2⟩
        rw [List.length_map] at hi
        have hil : i < rows.length := by omega
        have hli : rl[i]? = some rl[i] := List.getElem?_eq_getElem hi
        have hri : rows[i]? = some rows[i] := List.getElem?_eq_getElem hil
        obtain rfl : y2 = .ref rl[i].1 := map_un (f := fun t : Addr × Addr × Addr => V.ref t.1) hli e2
        cases e1
        have hx := l3 i _ _ hli hri
        have hrow := hro _ (List.getElem_mem hil)
        generalize rows[i] = row at hx hrow
        generalize rl[i] = t at hx
        have s2 := Same.new s1 (o := .tup [.int (i : Nat), .ref t.1]) hT
        have sF2 := sF.trans s2
        generalize hH2 : upd H1 T (.tup [.int (i : Nat), .ref t.1]) = H2 at s2 sF2 ⊢
        have hT2 : H2 T = some (.tup [.int (i : Nat), .ref t.1]) := by rw [← hH2]; exact upd_same
        have b0 : atI [V.str row.letter, V.ref t.2.1, V.ref t.2.2] 0 = some (.str row.letter) := rfl
        have b1 : atI [V.str row.letter, V.ref t.2.1, V.ref t.2.2] 1 = some (.ref t.2.1) := rfl
        have b2 : atI [V.str row.letter, V.ref t.2.1, V.ref t.2.2] 2 = some (.ref t.2.2) := rfl
        have c0 : atI [V.str wd, V.int (n : Nat), V.str (N.v v), V.int (r : Nat), V.ref q] 0 = some (.str wd) := rfl
        refine ⟨T, _, rfl, SqT.of hT2, rfl, _, _, rfl, _, _, rfl, rfl, ?_⟩
        refine ⟨_, rfl, t.1, _, 0, _, rfl, rfl, SqT.of (sF2 _ _ hx.h1), b0, _, rfl, p, _, 0, _, rfl, rfl, SqT.of (sF2 _ _ hp), c0, rfl, ?_⟩
        refine ⟨fun σ' H' => Same H H' ∧ ∃ (b : Bool) (x8 x9 : Option V), (b = true → row.letter = wd) ∧ σ' = [some (.ref pb), some (.ref pr), some (.ref p), some (.ref g), some .non, some (.int (i : Nat)), some (.ref t.1), some (.bl b), x8, x9, x10], ?_, ?_⟩
        · refine ⟨_, rfl, _, rfl, ite2 (fun hc => ?_) (fun hc => ?_)⟩
          · have el : row.letter = wd := by
              have hc' := of_decide_eq_true hc
              exact V.str.inj hc'
            refine ⟨_, rfl, t.1, _, 1, _, rfl, rfl, SqT.of (sF2 _ _ hx.h1), b1, t.2.1, rfl, ⟨_, SqL.of (sF2 _ _ hx.h2)⟩, ?_⟩
            refine for_list (K := K) (a := t.2.1) (xs := stL row.tests) (fun j σ' H' => Same H H' ∧ ∃ (b : Bool) (x8 x9 : Option V), σ' = [some (.ref pb), some (.ref pr), some (.ref p), some (.ref g), some .non, some (.int (i : Nat)), some (.ref t.1), some (.bl b), x8, x9, x10]) ⟨s2, _, _, _, rfl⟩ (fun j σ' H' _ q => SqL.of (q.1 _ _ (sF _ _ hx.h2))) ?_ ?_
            · rintro j x σ' H3 hj ⟨s3, b, z8, z9, rfl⟩
              have hjl : j < row.tests.length := by
                have q := (List.getElem?_eq_some_iff.mp hj).1
                rw [stL_len] at q
                exact q
              obtain rfl : x = .str row.tests[j] := map_un (f := V.str) (List.getElem?_eq_getElem hjl) hj
              have ht := (hrow.t _ (List.getElem_mem hjl)).1
              obtain ⟨tl, _⟩ := tests_ok _ ht
              generalize row.tests[j] = ts at tl
              have go : ∀ pl : Str, ∃ w, ([some (V.ref pb), some (V.ref pr), some (V.ref p), some (V.ref g), some V.non, some (V.int (i : Nat)), some (V.ref t.1), some (V.bl b), some (V.str ts), some (V.str pl), x10] : L2.St)[7]? = some (some w) ∧ ∃ c, w = .bl c ∧ True := fun pl => ⟨_, rfl, b, rfl, True.intro⟩
              have sF3 := sF.trans s3
              refine ⟨_, rfl, 4, rfl, ts, rfl, tl, rfl, _, rfl, ite2 (fun _ => ?_) (fun _ => ?_)⟩
              · refine ⟨_, rfl, 4, rfl, ts, rfl, tl, ?_⟩
                refine ⟨_, rfl, b, rfl, ite2 (fun _ => ?_) (fun _ => ⟨s3, false, _, _, rfl⟩)⟩
                refine ⟨_, rfl, _, rfl, _, rfl, _, p, g, N, wd, n, v, r, acc, M, Z, rfl, hlet.mono sF3, hg.mono s3, hok, fun H4 c s4 => ?_⟩
                exact ⟨_, rfl, _, rfl, rfl, rfl, s3.trans s4, _, _, _, rfl⟩
              · refine ⟨_, rfl, ?_⟩
                refine ⟨_, rfl, b, rfl, ite2 (fun _ => ?_) (fun _ => ⟨s3, false, _, _, rfl⟩)⟩
                refine ⟨_, rfl, _, rfl, _, rfl, _, p, g, N, wd, n, v, r, acc, M, Z, rfl, hlet.mono sF3, hg.mono s3, hok, fun H4 c s4 => ?_⟩
                exact ⟨_, rfl, _, rfl, rfl, rfl, s3.trans s4, _, _, _, rfl⟩
            · rintro σ' H3 ⟨s3, b, z8, z9, rfl⟩
              exact ⟨s3, b, z8, z9, fun _ => el, rfl⟩
          · refine ⟨Nat.zero_le _, fun D hD => ?_⟩
            have hcf : decide (V.str row.letter = V.str wd) = false := by simpa using hc
            refine ⟨D, rfl, ⟨_, SqL.of upd_same⟩, for_list (K := K) (a := D) (xs := []) (fun j σ' H' => H' D = some (.lst []) ∧ Same H H' ∧ σ' = [some (.ref pb), some (.ref pr), some (.ref p), some (.ref g), some .non, some (.int (i : Nat)), some (.ref t.1), some (.bl false), x8, x9, x10]) ⟨upd_same, Same.new s2 hD, by rw [← hcf]; rfl⟩ (fun j σ' H' _ q => SqL.of q.1) (fun j x σ' H3 hj => by cases hj) ?_⟩
            rintro σ' H3 ⟨_, s3, rfl⟩
            exact ⟨s3, false, _, _, (fun h => by cases h), rfl⟩
        · rintro σ' H3 ⟨s3, b, z8, z9, hbl, rfl⟩
          refine ⟨_, rfl, b, rfl, ite2 (fun hbt => ?_) (fun _ => ⟨s3, _, _, _, _, _, _, rfl⟩)⟩
          have el := hbl hbt
          have sF3 := sF.trans s3
          refine ⟨_, rfl, ?_⟩
          refine ⟨_, rfl, t.1, _, 2, _, rfl, rfl, SqT.of (sF3 _ _ hx.h1), b2, t.2.2, rfl, ⟨_, SqL.of (sF3 _ _ hx.h3)⟩, ?_⟩
          have hdn := hrow.dn
          refine for_list (K := K) (a := t.2.2) (xs := stL row.deeds) (fun j σ' H' => Kp g H H' ∧ ∃ (Z' : LP) (x10 : Option V), PgAt H' g N Z' ∧ Z'.Ok N (M + j) ∧ Z'.kinds = Z.kinds ∧ σ' = [some (.ref pb), some (.ref pr), some (.ref p), some (.ref g), some (.int (i : Nat)), some (.int (i : Nat)), some (.ref t.1), some (.bl b), z8, z9, x10]) ⟨Kp.of s3, Z, _, hg.mono s3, hok, rfl, rfl⟩ (fun j σ' H' _ q => SqL.of (q.1.same sF nF _ _ hx.h3)) ?_ ?_
          · rintro j x σ' H4 hj ⟨kp, Z', y10, hg', hok', hkk, rfl⟩
            have hjl : j < row.deeds.length := by
              have q := (List.getElem?_eq_some_iff.mp hj).1
              rw [stL_len] at q
              exact q
            obtain rfl : x = .str row.deeds[j] := map_un (f := V.str) (List.getElem?_eq_getElem hjl) hj
            obtain ⟨hd1, hd2⟩ := hrow.d _ (List.getElem_mem hjl)
            have sF4 := kp.same sF nF
            refine ⟨_, rfl, _, rfl, _, rfl, _, rfl, row.deeds[j], pb, p, g, N, B, L, O, wd, n, v, r, acc, M + j, Z', rfl, hb.mono sF4, hbk, hlet.mono sF4, by omega, hv, hd1, fun ed => ?_, hg', hok', by omega, fun H5 Z2 kp5 hg5 hok5 hk5 => ⟨kp.trans kp5, Z2, _, hg5, hok5, hk5.trans hkk, rfl⟩⟩
            rw [hkk]
            refine hn fun ew => ?_
            have := hd2 (el.trans ew)
            rw [ed] at this
            exact absurd this (by decide)
          · rintro σ' H4 ⟨kp, Z', y10, hg', hok', hkk, rfl⟩
            rw [stL_len] at hok'
            exact ⟨_, _, _, _, _, _, _, Z', rfl, kp, hg', hok'.up (by omega) hM, hkk⟩
      · rintro σ' H1 ⟨s1, x5, x6, x7, x8, x9, x10, rfl⟩
        exact ⟨_, _, _, _, _, _, _, Z, rfl, Kp.of s1, hg.mono s1, hok.up (by omega) hM, rfl⟩
    · rintro σ' H1 ⟨x4, x5, x6, x7, x8, x9, x10, Z', rfl, kp, hg', hok', hkk⟩
      have sF1 := kp.same sF nF
      have c0 : atI [V.str wd, V.int (n : Nat), V.str (N.v v), V.int (r : Nat), V.ref q] 0 = some (.str wd) := rfl
      have c1 : atI [V.str wd, V.int (n : Nat), V.str (N.v v), V.int (r : Nat), V.ref q] 1 = some (.int (n : Nat)) := rfl
      obtain ⟨bo, bk, bh, d1, d2, d3, d4⟩ := id hg'.ex
      refine ⟨fun σ' H' => ∃ Z2 : LP, σ' = [some (.ref pb), some (.ref pr), some (.ref p), some (.ref g), some x4, x5, x6, x7, x8, x9, x10] ∧ Kp g H H' ∧ PgAt H' g N Z2 ∧ Z2.Ok N (M + 10) ∧ Z2.kinds = Z.kinds, ?_, ?_⟩
      · refine ⟨_, rfl, p, _, 0, _, rfl, rfl, SqT.of (sF1 _ _ hp), c0, rfl, _, rfl, ite2 (fun _ => ?_) (fun _ => ⟨Z', rfl, kp, hg', hok', hkk⟩)⟩
        refine ⟨_, rfl, g, _, rfl, dgetS d1 rfl, .inl ⟨_, rfl, _, rfl, p, _, 1, _, rfl, rfl, SqT.of (sF1 _ _ hp), c1, .inl ⟨_, rfl, _, _, rfl, ?_⟩⟩⟩
        obtain ⟨hh, ehh⟩ : ∃ hh : Nat, (if (n : Int) > (Z'.heard : Int) then (n : Int) else (Z'.heard : Int)) = (hh : Int) := by
          split
          · exact ⟨n, rfl⟩
          · exact ⟨_, rfl⟩
        rw [ehh]
        refine ⟨_, rfl, g, _, rfl, DPut.k (k := Sum.inr "heard") d1 (by show 5 < sizeLine; decide), ?_⟩
        have k2 := (Kp.refl (a := g) (H := H1)).put (o := .dK (pgK (.str (N.v Z'.base)) bo (.int (hh : Nat)) bk bh))
        exact ⟨{ Z' with heard := hh }, rfl, kp.trans k2, pg_after (H := H1) (Z := { Z' with heard := hh }) k2 ⟨_, d1, fun xs q => by cases q⟩ upd_same d2 d3 d4, ⟨hok'.b, hok'.k, hok'.o, hok'.ol, hok'.hl, hok'.kl, hok'.m⟩, hkk⟩
      · rintro σ' H2 ⟨Z2, rfl, kp2, hg2, hok2, hk2⟩
        exact ⟨_, rfl, k _ Z2 x4 kp2 hg2 hok2 hk2⟩
end
end Hp
set_option Elab.async false
set_option linter.all false
set_option maxRecDepth 100000
set_option maxHeartbeats 4000000
namespace Hp
open PySem PySem.Spec PyProof.Rows L2
structure LF where
  wd : Str
  v : Nat
  acc : List V
structure LM where
  v : Nat
  r : Nat
  acc : List V
structure LS where
  L : LP
  value : Nat
  fates : List LF
  come : List Nat
  moms : List LM
  shown : List V
  done : List V
def LS.sk (Z : LS) : Sk := ⟨Z.L.kinds, Z.fates.length, Z.come, Z.moms.length⟩
def stK (g : Addr) (value : V) (af ac am ash ad : Addr) : List (L2.Key × V) := [(Sum.inr ("page" : Str), .ref g), (Sum.inr ("value" : Str), value), (Sum.inr ("fates" : Str), .ref af), (Sum.inr ("come" : Str), .ref ac), (Sum.inr ("moments" : Str), .ref am), (Sum.inr ("shown" : Str), .ref ash), (Sum.inr ("done" : Str), .ref ad)]
def FatesL (H : L2.Hp) (af : Addr) (N : Nm) (fs : List LF) : Prop := ∃ fa : List Addr, H af = some (.lst (fa.map V.ref)) ∧ fa.length = fs.length ∧ ∀ (i : Nat) (p : Addr) (f : LF), fa[i]? = some p → fs[i]? = some f → ∃ q, H p = some (.tup [.str f.wd, .str (N.v f.v), .ref q]) ∧ H q = some (.lst f.acc)
def MomsL (H : L2.Hp) (am : Addr) (N : Nm) (ms : List LM) : Prop := ∃ ma : List Addr, H am = some (.lst (ma.map V.ref)) ∧ ma.length = ms.length ∧ ∀ (i : Nat) (p : Addr) (m : LM), ma[i]? = some p → ms[i]? = some m → ∃ q, H p = some (.tup [.str (N.v m.v), .int (m.r : Nat), .ref q]) ∧ H q = some (.lst m.acc)
/-- lists and tuples are kept -/
structure LK (H H' : L2.Hp) : Prop where
  l : ∀ (q : Addr) (xs : List V), H q = some (.lst xs) → H' q = some (.lst xs)
  t : ∀ (q : Addr) (xs : List V), H q = some (.tup xs) → H' q = some (.tup xs)
theorem LK.trans {H H1 H2 : L2.Hp} (a : LK H H1) (b : LK H1 H2) : LK H H2 := ⟨fun q xs e => b.l _ _ (a.l _ _ e), fun q xs e => b.t _ _ (a.t _ _ e)⟩
theorem LK.of {H H' : L2.Hp} (s : Same H H') : LK H H' := ⟨fun q xs e => s _ _ e, fun q xs e => s _ _ e⟩
theorem FatesL.kept {H H' : L2.Hp} {af : Addr} {N : Nm} {fs : List LF} (h : FatesL H af N fs) (k : LK H H') : FatesL H' af N fs := by
  obtain ⟨a, b, c, d⟩ := h
  refine ⟨a, k.l _ _ b, c, fun i p f e1 e2 => ?_⟩
  obtain ⟨q, x, y⟩ := d i p f e1 e2
  exact ⟨q, k.t _ _ x, k.l _ _ y⟩
theorem MomsL.kept {H H' : L2.Hp} {af : Addr} {N : Nm} {fs : List LM} (h : MomsL H af N fs) (k : LK H H') : MomsL H' af N fs := by
  obtain ⟨a, b, c, d⟩ := h
  refine ⟨a, k.l _ _ b, c, fun i p f e1 e2 => ?_⟩
  obtain ⟨q, x, y⟩ := d i p f e1 e2
  exact ⟨q, k.t _ _ x, k.l _ _ y⟩
structure StL (H : L2.Hp) (s g : Addr) (N : Nm) (Z : LS) : Prop where
  ne : s ≠ g
  p : PgAt H g N Z.L
  ex : ∃ af ac am ash ad : Addr, H s = some (.dK (stK g (.str (N.v Z.value)) af ac am ash ad)) ∧ FatesL H af N Z.fates ∧ H ac = some (.lst (inL Z.come)) ∧ MomsL H am N Z.moms ∧ H ash = some (.lst Z.shown) ∧ H ad = some (.lst Z.done)
theorem StL.mono {H H' : L2.Hp} {s g : Addr} {N : Nm} {Z : LS} (h : StL H s g N Z) (m : Same H H') : StL H' s g N Z := by
  obtain ⟨a, b, c, d, e, h1, h2, h3, h4, h5, h6⟩ := h.ex
  exact ⟨h.ne, h.p.mono m, a, b, c, d, e, m _ _ h1, h2.kept (.of m), m _ _ h3, h4.kept (.of m), m _ _ h5, m _ _ h6⟩
/-- the page alone is written -/
theorem StL.at_g {H H' : L2.Hp} {s g : Addr} {N : Nm} {Z : LS} (h : StL H s g N Z) (k : Kp g H H') {L : LP} (p : PgAt H' g N L) : StL H' s g N { Z with L := L } ∧ LK H H' := by
  obtain ⟨a, b, c, g1, _⟩ := h.p.ex
  have lk : LK H H' := ⟨fun q xs e => k _ _ e (fun z => by rw [z, g1] at e; cases e), fun q xs e => k _ _ e (fun z => by rw [z, g1] at e; cases e)⟩
  obtain ⟨a, b, c, d, e, h1, h2, h3, h4, h5, h6⟩ := h.ex
  exact ⟨⟨h.ne, p, a, b, c, d, e, k _ _ h1 h.ne, h2.kept lk, lk.l _ _ h3, h4.kept lk, lk.l _ _ h5, lk.l _ _ h6⟩, lk⟩
/-- the state alone is written, the page kept -/
theorem StL.lk_s {H H' : L2.Hp} {s g : Addr} {N : Nm} {Z : LS} (h : StL H s g N Z) (k : Kp s H H') : LK H H' ∧ PgAt H' g N Z.L := by
  obtain ⟨a, b, c, d, e, h1, h2, h3, h4, h5, h6⟩ := h.ex
  have lk : LK H H' := ⟨fun q xs e => k _ _ e (fun z => by rw [z, h1] at e; cases e), fun q xs e => k _ _ e (fun z => by rw [z, h1] at e; cases e)⟩
  obtain ⟨a, b, c, g1, g2, g3, g4⟩ := h.p.ex
  exact ⟨lk, a, b, c, k _ _ g1 h.ne.symm, lk.l _ _ g2, lk.l _ _ g3, lk.l _ _ g4⟩
structure LS.Ok (N : Nm) (M : Nat) (Z : LS) : Prop where
  l : Z.L.Ok N M
  v : Z.value < N.nv
  f : ∀ f ∈ Z.fates, f.v < N.nv ∧ f.acc.length ≤ M ∧ f.wd ∈ (["yes", "no"] : List Str)
  fk : Z.fates.length ≤ Z.L.kinds.length
  m : ∀ m ∈ Z.moms, m.v < N.nv ∧ m.acc.length ≤ M
  cl : Z.come.length ≤ M
  ml : Z.moms.length ≤ M
  sl : Z.shown.length ≤ M
  dl : Z.done.length ≤ M
theorem LS.Ok.up {N : Nm} {M M' : Nat} {Z : LS} (h : Z.Ok N M) (l : M ≤ M') (m : M' ≤ 10000) : Z.Ok N M' :=
  ⟨h.l.up l m, h.v, fun f hf => ⟨(h.f f hf).1, Nat.le_trans (h.f f hf).2.1 l, (h.f f hf).2.2⟩, h.fk, fun f hf => ⟨(h.m f hf).1, Nat.le_trans (h.m f hf).2 l⟩, Nat.le_trans h.cl l, Nat.le_trans h.ml l, Nat.le_trans h.sl l, Nat.le_trans h.dl l⟩
def initL : LS := ⟨⟨[], 0, [], 0, []⟩, 0, [], [], [⟨0, 0, []⟩], [], []⟩
theorem initL_ok {N : Nm} {M : Nat} (hN : N.Ok) (h1 : 1 ≤ M) (h : M ≤ 10000) : initL.Ok N M where
  l := ⟨hN.v1, (fun i hi => by cases hi), (fun i hi => by cases hi), Nat.zero_le _, Nat.zero_le _, Nat.zero_le _, h⟩
  v := hN.v1
  f := fun f hf => by cases hf
  fk := Nat.le_refl _
  m := fun m hm => by
    obtain rfl : m = ⟨0, 0, []⟩ := by simpa [initL] using hm
    exact ⟨hN.v1, Nat.zero_le _⟩
  cl := Nat.zero_le _
  ml := h1
  sl := Nat.zero_le _
  dl := Nat.zero_le _
theorem merge_pg {b h : V} {ao ak ah : Addr} : mergeK [] (pgK b ao h ak ah) = pgK b ao h ak ah := rfl
def st5 (g : Addr) (value : V) (af ac am : Addr) : List (L2.Key × V) := [(Sum.inr ("page" : Str), .ref g), (Sum.inr ("value" : Str), value), (Sum.inr ("fates" : Str), .ref af), (Sum.inr ("come" : Str), .ref ac), (Sum.inr ("moments" : Str), .ref am)]
def st2 (ash ad : Addr) : List (L2.Key × V) := [(Sum.inr ("shown" : Str), .ref ash), (Sum.inr ("done" : Str), .ref ad)]
theorem merge_st5 {g : Addr} {v : V} {a b c : Addr} : mergeK [] (st5 g v a b c) = st5 g v a b c := rfl
theorem merge_st2 {a b : Addr} : mergeK [] (st2 a b) = st2 a b := rfl
theorem merge_st7 {g : Addr} {v : V} {a b c d e : Addr} : mergeK (st5 g v a b c) (st2 d e) = stK g v a b c d e := rfl
section
variable {P : Program} {w : World} {K : PySem.W.Frag} {mg : Str → Option Value} {base : Heap}
def spBegun (K : PySem.W.Frag) : Sp := fun vs H Q _ => ∃ (pb : Addr) (N : Nm) (B : IB) (L O : List Nat), vs = [.ref pb] ∧ BookF H pb N B L O ∧ BkOk N B L O ∧ ∀ H' s g, Same H H' → H s = none → H g = none → StL H' s g N initL → Q (.ref s) H'
theorem h_l_begun (C : Ctx K mg) : ∃ fd, Has P w K mg base 1 (He.fAd K ("_law_begun", none)) ["_law_book_here"] (spBegun K) fd := by
  refine has_of C.fn_l_begun sc_l_begun (fun vs H Q E h => ?_) (fun cdv A outer s H vs Q E hr h => ?_)
  · obtain ⟨pb, N, B, L, O, rfl, _⟩ := h
    rfl
  · obtain ⟨pb, N, B, L, O, rfl, ⟨as_, ak, al, ao, b0, b1, _⟩, hbk, k⟩ := h
    have nd := sc_l_begun.nd
    have z0 : ([] : List V).length ≤ sizeLine := Nat.zero_le _
    have hv1 := hbk.n.v1
    have t0 : atI [V.ref as_, V.ref ak, V.ref al, V.ref ao] 0 = some (.ref as_) := rfl
    have t1 : atI (stL N.vs) 0 = some (.str (N.v 0)) := atI_nat (j := 0) (stL_at (map_at (range_at hv1)))
    refine ⟨_, (pss_cons (ps_set (i := 1) nd rfl (Or.inl rfl) (pe_disp (pps_cons pe_str (pe_ix ix_list (pe_ix ix_tup (pv 0) pe_int (fun _ _ => rfl)) pe_int (fun _ _ => rfl)) (pps_cons pe_str (pe_lst pa_nil) (pps_cons pe_str pe_int (pps_cons pe_str (pe_lst pa_nil) (pps_cons pe_str (pe_lst pa_nil) pps_nil))))) rfl rfl (by decide) (by decide))) (pss_cons (ps_set (i := 2) nd rfl (Or.inl rfl) (pe_disp (pps_cons pe_str (pv 1) (pps_cons pe_str (pe_ix ix_list (pe_ix ix_tup (pv 0) pe_int (fun _ _ => rfl)) pe_int (fun _ _ => rfl)) (pps_cons pe_str (pe_lst pa_nil) (pps_cons pe_str (pe_lst pa_nil) (pps_cons pe_str (pe_lst (pa_cons (pe_tup (pa_cons (pe_ix ix_list (pe_ix ix_tup (pv 0) pe_int (fun _ _ => rfl)) pe_int (fun _ _ => rfl)) (pa_cons pe_int (pa_cons (pe_lst pa_nil) pa_nil)))) pa_nil)) pps_nil))))) rfl rfl (by decide) (by decide))) (pss_cons (ps_expr (pe_bm PySem.F.plainAttrs_dict PySem.F.slot_dict_update PySem.F.type_dict_update mt_update (pv 2) (pa_cons (pe_disp (pps_cons pe_str (pe_lst pa_nil) (pps_cons pe_str (pe_lst pa_nil) pps_nil)) rfl rfl (by decide) (by decide)) pa_nil))) (pss_one (ps_ret (pv 2)))))), ?_⟩
    intro g hg
    have s1 := same_new (o := .dK []) hg
    refine ⟨_, rfl, pb, _, 0, _, rfl, rfl, SqT.of (s1 _ _ b0), t0, as_, _, 0, _, rfl, rfl, SqL.of (s1 _ _ b1), t1, ?_⟩
    have gg1 : (upd H g (.dK [])) g = some (.dK []) := upd_same
    generalize upd H g (.dK []) = H1 at s1 gg1 ⊢
    refine ⟨z0, fun o1 ho1 => ?_⟩
    have s2 := same_new (H := H1) (p := o1) (o := HO.lst []) ho1; have o12 : (upd H1 o1 (HO.lst [])) o1 = some (HO.lst []) := upd_same; generalize upd H1 o1 (HO.lst []) = H2 at s2 o12 ⊢
    refine ⟨z0, fun o2 ho2 => ?_⟩
    have s3 := same_new (H := H2) (p := o2) (o := HO.lst []) ho2; have o23 : (upd H2 o2 (HO.lst [])) o2 = some (HO.lst []) := upd_same; generalize upd H2 o2 (HO.lst []) = H3 at s3 o23 ⊢
    refine ⟨z0, fun o3 ho3 => ?_⟩
    have s4 := same_new (H := H3) (p := o3) (o := HO.lst []) ho3; have o34 : (upd H3 o3 (HO.lst [])) o3 = some (HO.lst []) := upd_same; generalize upd H3 o3 (HO.lst []) = H4 at s4 o34 ⊢
    have s14 := (s2.trans s3).trans s4
    refine ⟨s14 _ _ gg1, pgK (.str (N.v 0)) o1 (.int 0) o2 o3, rfl, (by show 5 ≤ 15; decide), ?_⟩
    rw [merge_pg]
    have n1 : o1 ≠ g := fun e => by rw [e, gg1] at ho1; cases ho1
    have n2 : o2 ≠ g := fun e => by rw [e, s2 _ _ gg1] at ho2; cases ho2
    have n3 : o3 ≠ g := fun e => by rw [e, s3 _ _ (s2 _ _ gg1)] at ho3; cases ho3
    have s5 : Same H (upd H4 g (.dK (pgK (.str (N.v 0)) o1 (.int 0) o2 o3))) := fun b o e => by
      rw [upd_ne (ne_of_none e hg)]
      exact s14 _ _ (s1 _ _ e)
    have g5 : (upd H4 g (.dK (pgK (.str (N.v 0)) o1 (.int 0) o2 o3))) g = _ := upd_same
    have a5 : (upd H4 g (.dK (pgK (.str (N.v 0)) o1 (.int 0) o2 o3))) o1 = some (.lst []) := (upd_ne n1).trans (s4 _ _ (s3 _ _ o12))
    have c5 : (upd H4 g (.dK (pgK (.str (N.v 0)) o1 (.int 0) o2 o3))) o2 = some (.lst []) := (upd_ne n2).trans (s4 _ _ o23)
    have d5 : (upd H4 g (.dK (pgK (.str (N.v 0)) o1 (.int 0) o2 o3))) o3 = some (.lst []) := (upd_ne n3).trans o34
    generalize upd H4 g (.dK (pgK (.str (N.v 0)) o1 (.int 0) o2 o3)) = H5 at s5 g5 a5 c5 d5 ⊢
    -- the state
    intro stt hstt
    have s6 := same_new (H := H5) (p := stt) (o := HO.dK []) hstt; have stt6 : (upd H5 stt (HO.dK [])) stt = some (HO.dK []) := upd_same; generalize upd H5 stt (HO.dK []) = H6 at s6 stt6 ⊢
    have s06 := s5.trans s6
    have nsg : stt ≠ g := fun e => by rw [e, g5] at hstt; cases hstt
    refine ⟨_, rfl, _, rfl, pb, _, 0, _, rfl, rfl, SqT.of (s06 _ _ b0), t0, as_, _, 0, _, rfl, rfl, SqL.of (s06 _ _ b1), t1, ?_⟩
    refine ⟨z0, fun af haf => ?_⟩
    have s7 := same_new (H := H6) (p := af) (o := HO.lst []) haf; have af7 : (upd H6 af (HO.lst [])) af = some (HO.lst []) := upd_same; generalize upd H6 af (HO.lst []) = H7 at s7 af7 ⊢
    refine ⟨z0, fun ac hac => ?_⟩
    have s8 := same_new (H := H7) (p := ac) (o := HO.lst []) hac; have ac8 : (upd H7 ac (HO.lst [])) ac = some (HO.lst []) := upd_same; generalize upd H7 ac (HO.lst []) = H8 at s8 ac8 ⊢
    have s08 := (s06.trans s7).trans s8
    refine ⟨_, rfl, pb, _, 0, _, rfl, rfl, SqT.of (s08 _ _ b0), t0, as_, _, 0, _, rfl, rfl, SqL.of (s08 _ _ b1), t1, z0, fun q hq => ?_⟩
    have s9 := same_new (H := H8) (p := q) (o := HO.lst []) hq; have q9 : (upd H8 q (HO.lst [])) q = some (HO.lst []) := upd_same; generalize upd H8 q (HO.lst []) = H9 at s9 q9 ⊢
    refine ⟨(by show 3 ≤ sizeLine; decide), fun t ht => ?_⟩
    have s10 := same_new (H := H9) (p := t) (o := HO.tup [.str (N.v 0), .int 0, .ref q]) ht; have t10 : (upd H9 t (HO.tup [.str (N.v 0), .int 0, .ref q])) t = some (HO.tup [.str (N.v 0), .int 0, .ref q]) := upd_same; generalize upd H9 t (HO.tup [.str (N.v 0), .int 0, .ref q]) = H10 at s10 t10 ⊢
    refine ⟨(by show 1 ≤ sizeLine; decide), fun am ham => ?_⟩
    have s11 := same_new (H := H10) (p := am) (o := HO.lst [.ref t]) ham; have am11 : (upd H10 am (HO.lst [.ref t])) am = some (HO.lst [.ref t]) := upd_same; generalize upd H10 am (HO.lst [.ref t]) = H11 at s11 am11 ⊢
    have s6_11 := (((s7.trans s8).trans s9).trans s10).trans s11
    refine ⟨s6_11 _ _ stt6, st5 g (.str (N.v 0)) af ac am, rfl, (by show 5 ≤ 15; decide), ?_⟩
    rw [merge_st5]
    have k12 := (Kp.refl (a := stt) (H := H11)).put (o := .dK (st5 g (.str (N.v 0)) af ac am))
    have e12 : (upd H11 stt (.dK (st5 g (.str (N.v 0)) af ac am))) stt = _ := upd_same
    generalize upd H11 stt (.dK (st5 g (.str (N.v 0)) af ac am)) = H12 at k12 e12 ⊢
    -- update
    refine ⟨_, rfl, .inr (.inr (.inl ⟨rfl, .inl ⟨_, e12⟩⟩)), fun m hm => ?_⟩
    have s13 := same_new (H := H12) (p := m) (o := HO.dK []) hm; have m13 : (upd H12 m (HO.dK [])) m = some (HO.dK []) := upd_same; generalize upd H12 m (HO.dK []) = H13 at s13 m13 ⊢
    refine ⟨z0, fun ash hash => ?_⟩
    have s14 := same_new (H := H13) (p := ash) (o := HO.lst []) hash; have ash14 : (upd H13 ash (HO.lst [])) ash = some (HO.lst []) := upd_same; generalize upd H13 ash (HO.lst []) = H14 at s14 ash14 ⊢
    refine ⟨z0, fun ad had => ?_⟩
    have s15 := same_new (H := H14) (p := ad) (o := HO.lst []) had; have ad15 : (upd H14 ad (HO.lst [])) ad = some (HO.lst []) := upd_same; generalize upd H14 ad (HO.lst []) = H15 at s15 ad15 ⊢
    have s1315 := s14.trans s15
    refine ⟨s1315 _ _ m13, st2 ash ad, rfl, (by show 2 ≤ 15; decide), ?_⟩
    rw [merge_st2]
    have s1215 := s13.trans s1315
    have e15 := s1215 _ _ e12
    have nsm : stt ≠ m := ne_of_none e12 hm
    refine ⟨stt, m, st5 g (.str (N.v 0)) af ac am, st2 ash ad, rfl, rfl, (upd_ne nsm).trans e15, upd_same, nsm, (by show 7 ≤ sizeLine; decide), ?_⟩
    rw [merge_st7]
    refine ⟨_, rfl, ?_⟩
    have kE : Kp stt H11 (upd (upd H15 m (.dK (st2 ash ad))) stt (.dK (stK g (.str (N.v 0)) af ac am ash ad))) := fun b o e n => by
      rw [upd_ne n, upd_ne (ne_of_none (k12 _ _ e n) hm)]
      exact s1215 _ _ (k12 _ _ e n)
    have up : ∀ {b : Addr} {o : HO}, H15 b = some o → b ≠ m → b ≠ stt → (upd (upd H15 m (.dK (st2 ash ad))) stt (.dK (stK g (.str (N.v 0)) af ac am ash ad))) b = some o := fun {b o} e n1 n2 => by rw [upd_ne n2, upd_ne n1]; exact e
    have s5_11 := s6.trans s6_11
    have lift5 : ∀ {b : Addr} {o : HO}, H5 b = some o → b ≠ stt → (upd (upd H15 m (.dK (st2 ash ad))) stt (.dK (stK g (.str (N.v 0)) af ac am ash ad))) b = some o := fun {b o} e n => kE _ _ (s5_11 _ _ e) n
    have nn : ∀ {b : Addr} {o : HO}, H5 b = some o → b ≠ stt := fun {b o} e => ne_of_none e hstt
    have ne11 : ∀ {b : Addr} {xs : List V}, H11 b = some (.lst xs) → b ≠ stt := fun {b xs} e z => by rw [z, s6_11 _ _ stt6] at e; cases e
    have ne11t : ∀ {b : Addr} {xs : List V}, H11 b = some (.tup xs) → b ≠ stt := fun {b xs} e z => by rw [z, s6_11 _ _ stt6] at e; cases e
    have q_af : H11 af = some (.lst []) := ((((s8.trans s9).trans s10).trans s11)) _ _ af7
    have q_ac : H11 ac = some (.lst []) := ((s9.trans s10).trans s11) _ _ ac8
    have q_q : H11 q = some (.lst []) := (s10.trans s11) _ _ q9
    have q_t : H11 t = some (.tup [.str (N.v 0), .int 0, .ref q]) := s11 _ _ t10
    have nms : ∀ {b : Addr} {o : HO}, H15 b = some o → H12 b = none → b ≠ stt := fun {b o} _ h z => by rw [z, e12] at h; cases h
    have nash : ash ≠ m := fun z => by rw [z, m13] at hash; cases hash
    have nad : ad ≠ m := fun z => by rw [z, s14 _ _ m13] at had; cases had
    have nash2 : ash ≠ stt := fun z => by rw [z, s13 _ _ e12] at hash; cases hash
    have nad2 : ad ≠ stt := fun z => by rw [z, s14 _ _ (s13 _ _ e12)] at had; cases had
    refine k _ stt g (fun b o e => kE _ _ (s5_11 _ _ (s5 _ _ e)) (nn (s5 _ _ e))) ?_ hg ⟨nsg, ⟨o1, o2, o3, lift5 g5 nsg.symm, lift5 a5 (nn a5), lift5 c5 (nn c5), lift5 d5 (nn d5)⟩, af, ac, am, ash, ad, upd_same, ⟨[], kE _ _ q_af (ne11 q_af), rfl, fun i p f c1 c2 => (by cases c1)⟩, kE _ _ q_ac (ne11 q_ac), ⟨[t], kE _ _ am11 (ne11 am11), rfl, fun i p f c1 c2 => ?_⟩, up (s15 _ _ ash14) nash nash2, up ad15 nad nad2⟩
    · cases e : H stt with
      | none => rfl
      | some o => rw [s5 _ _ e] at hstt; cases hstt
    · cases i with
      | zero =>
        cases c1
        cases c2
        exact ⟨q, kE _ _ q_t (ne11t q_t), kE _ _ q_q (ne11 q_q)⟩
      | succ i => cases c1
end
end Hp
set_option Elab.async false
set_option linter.all false
set_option maxRecDepth 100000
set_option maxHeartbeats 4000000
namespace Hp
open PySem PySem.Spec PyProof.Rows L2
section
variable {H : L2.Hp} {s g af ac am ash ad r : Addr} {v x : V}
theorem dp_va (h : H s = some (.dK (stK g v af ac am ash ad))) : DPut H s (.str "value") x (upd H s (.dK (stK g x af ac am ash ad))) := DPut.k (k := Sum.inr "value") h (by show 7 < sizeLine; decide)
theorem dp_fa (h : H s = some (.dK (stK g v af ac am ash ad))) : DPut H s (.str "fates") (.ref r) (upd H s (.dK (stK g v r ac am ash ad))) := DPut.k (k := Sum.inr "fates") h (by show 7 < sizeLine; decide)
theorem dp_co (h : H s = some (.dK (stK g v af ac am ash ad))) : DPut H s (.str "come") (.ref r) (upd H s (.dK (stK g v af r am ash ad))) := DPut.k (k := Sum.inr "come") h (by show 7 < sizeLine; decide)
theorem dp_mo (h : H s = some (.dK (stK g v af ac am ash ad))) : DPut H s (.str "moments") (.ref r) (upd H s (.dK (stK g v af ac r ash ad))) := DPut.k (k := Sum.inr "moments") h (by show 7 < sizeLine; decide)
theorem dp_sh (h : H s = some (.dK (stK g v af ac am ash ad))) : DPut H s (.str "shown") (.ref r) (upd H s (.dK (stK g v af ac am r ad))) := DPut.k (k := Sum.inr "shown") h (by show 7 < sizeLine; decide)
theorem dp_do (h : H s = some (.dK (stK g v af ac am ash ad))) : DPut H s (.str "done") (.ref r) (upd H s (.dK (stK g v af ac am ash r))) := DPut.k (k := Sum.inr "done") h (by show 7 < sizeLine; decide)
theorem dp_ki {b h' : V} {ao ak ah : Addr} (h : H g = some (.dK (pgK b ao h' ak ah))) : DPut H g (.str "kinds") (.ref r) (upd H g (.dK (pgK b ao h' r ah))) := DPut.k (k := Sum.inr "kinds") h (by show 5 < sizeLine; decide)
theorem dp_op {b h' : V} {ao ak ah : Addr} (h : H g = some (.dK (pgK b ao h' ak ah))) : DPut H g (.str "open") (.ref r) (upd H g (.dK (pgK b r h' ak ah))) := DPut.k (k := Sum.inr "open") h (by show 5 < sizeLine; decide)
end
def Ev.words (N : Nm) : Ev → List Str
  | .click i => ["click", N.k i]
  | .other i => ["other", N.k i]
  | .serve => ["serve"]
  | .refuse => ["refuse"]
  | .answer n => ["answer", numS n]
  | .list m => ["list", numS m]
theorem split_ev {N : Nm} {e : Ev} (hN : N.Ok) (h : e.In N) : Txt.split (e.str N) " " = e.words N ∧ (e.str N).length ≤ 20 := by
  cases e with
  | click i =>
    obtain ⟨f1, f2, f3, f4, f5⟩ := ev_named "click" (by decide) _ (hN.kin i h)
    exact ⟨f5, f1⟩
  | other i =>
    obtain ⟨f1, f2, f3, f4, f5⟩ := ev_named "other" (by decide) _ (hN.kin i h)
    exact ⟨f5, f1⟩
  | serve =>
    obtain ⟨f1, f2, f3, f4⟩ := ev_plain "serve" (by decide)
    exact ⟨f4, f1⟩
  | refuse =>
    obtain ⟨f1, f2, f3, f4⟩ := ev_plain "refuse" (by decide)
    exact ⟨f4, f1⟩
  | answer n =>
    obtain ⟨f1, f2, f3, f4, f5, f6, f7⟩ := ev_num "answer" (by decide) n (Nat.lt_succ_of_le h.2)
    exact ⟨f7, f1⟩
  | list m =>
    obtain ⟨f1, f2, f3, f4, f5, f6, f7⟩ := ev_num "list" (by decide) m (Nat.lt_succ_of_le h)
    exact ⟨f7, f1⟩
theorem words_0 (N : Nm) (e : Ev) : (e.words N)[0]? = some e.word := by cases e <;> rfl
section
variable {H H' : L2.Hp} {s g : Addr} {N : Nm} {Z : LS}
theorem StL.write (h : StL H s g N Z) (k : Kp s H H') {Z' : LS} {af ac am ash ad : Addr} (eL : Z'.L = Z.L) (e : H' s = some (.dK (stK g (.str (N.v Z'.value)) af ac am ash ad))) (f : FatesL H' af N Z'.fates) (c : H' ac = some (.lst (inL Z'.come))) (m : MomsL H' am N Z'.moms) (sh : H' ash = some (.lst Z'.shown)) (d : H' ad = some (.lst Z'.done)) : StL H' s g N Z' :=
  ⟨h.ne, by rw [eL]; exact (h.lk_s k).2, af, ac, am, ash, ad, e, f, c, m, sh, d⟩
end
theorem fatesL_add {H H' : L2.Hp} {r p q : Addr} {N : Nm} {fs : List LF} {f : LF} {fa : List Addr} (g2 : fa.length = fs.length) (g3 : ∀ (i : Nat) (p : Addr) (f : LF), fa[i]? = some p → fs[i]? = some f → ∃ q, H p = some (.tup [.str f.wd, .str (N.v f.v), .ref q]) ∧ H q = some (.lst f.acc)) (k : LK H H')
    (h1 : H' r = some (.lst (fa.map V.ref ++ [.ref p]))) (h2 : H' p = some (.tup [.str f.wd, .str (N.v f.v), .ref q])) (h3 : H' q = some (.lst f.acc)) : FatesL H' r N (fs ++ [f]) := by
  refine ⟨fa ++ [p], (by rw [h1, List.map_append]; rfl), (by rw [List.length_append, List.length_append, g2]; rfl), fun i p' f' e1 e2 => ?_⟩
  rcases app_at e1 with ⟨c1, c2⟩ | ⟨c1, rfl⟩
  · rcases app_at e2 with ⟨c3, c4⟩ | ⟨c3, rfl⟩
    · obtain ⟨q, x, y⟩ := g3 i p' f' c2 c4
      exact ⟨q, k.t _ _ x, k.l _ _ y⟩
    · omega
  · rcases app_at e2 with ⟨c3, c4⟩ | ⟨c3, rfl⟩
    · omega
    · exact ⟨q, h2, h3⟩
theorem momsL_add {H H' : L2.Hp} {r p q : Addr} {N : Nm} {fs : List LM} {f : LM} {fa : List Addr} (g2 : fa.length = fs.length) (g3 : ∀ (i : Nat) (p : Addr) (f : LM), fa[i]? = some p → fs[i]? = some f → ∃ q, H p = some (.tup [.str (N.v f.v), .int (f.r : Nat), .ref q]) ∧ H q = some (.lst f.acc)) (k : LK H H')
    (h1 : H' r = some (.lst (fa.map V.ref ++ [.ref p]))) (h2 : H' p = some (.tup [.str (N.v f.v), .int (f.r : Nat), .ref q])) (h3 : H' q = some (.lst f.acc)) : MomsL H' r N (fs ++ [f]) := by
  refine ⟨fa ++ [p], (by rw [h1, List.map_append]; rfl), (by rw [List.length_append, List.length_append, g2]; rfl), fun i p' f' e1 e2 => ?_⟩
  rcases app_at e1 with ⟨c1, c2⟩ | ⟨c1, rfl⟩
  · rcases app_at e2 with ⟨c3, c4⟩ | ⟨c3, rfl⟩
    · obtain ⟨q, x, y⟩ := g3 i p' f' c2 c4
      exact ⟨q, k.t _ _ x, k.l _ _ y⟩
    · omega
  · rcases app_at e2 with ⟨c3, c4⟩ | ⟨c3, rfl⟩
    · omega
    · exact ⟨q, h2, h3⟩
section
variable {P : Program} {w : World} {K : PySem.W.Frag} {mg : Str → Option Value} {base : Heap}
def spHappens (K : PySem.W.Frag) : Sp := fun vs H Q _ => ∃ (F : L2.Hp) (pb pr s g : Addr) (N : Nm) (B : IB) (L O : List Nat) (rows : List RowD) (M : Nat) (Z : LS) (e : Ev), vs = [.ref pb, .ref pr, .ref s, .str (e.str N)] ∧ BookF F pb N B L O ∧ BkOk N B L O ∧ RowsF F pr rows ∧ (∀ r ∈ rows, r.Ok) ∧ rows.length ≤ 100 ∧ Same F H ∧ F s = none ∧ F g = none ∧
  StL H s g N Z ∧ Z.Ok N M ∧ feas N B Z.sk e ∧ (∀ i, e = .click i → Z.L.kinds.length < 8) ∧ 10 ≤ M ∧ M + 30 ≤ 5000 ∧ ∀ H' Z', Gr [s, g] H H' → StL H' s g N Z' → Z'.Ok N (M + 30) → Z'.sk = stepSk Z.sk e → Q .non H'
theorem h_l_happens (C : Ctx K mg) : ∃ fd, Has P w K mg base 4 (He.fAd K ("_law_happens", none)) ["_law_book_here", "_law_rows", "_law_state", "_law_event"] (spHappens K) fd := by
  obtain ⟨fdA, GA⟩ := h_l_after (P := P) (w := w) (base := base) C
  obtain ⟨fdH, GH⟩ := h_l_hears (P := P) (w := w) (base := base) C
  obtain ⟨fdS, GS⟩ := h_l_shows (P := P) (w := w) (base := base) C
  refine has_of C.fn_l_happens sc_l_happens (fun vs H Q E h => ?_) (fun cdv A outer s0 H vs Q E hr h => ?_)
  · obtain ⟨F, pb, pr, s, g, N, B, L, O, rows, M, Z, e, rfl, _⟩ := h
    rfl
  · obtain ⟨F, pb, pr, s, g, N, B, L, O, rows, M, Z, e, rfl, hb, hbk, hrf, hro, hrl, sF, nFs, nFg, hst, hok, hfe, h8, hM0, hM, k⟩ := h
    have nd := sc_l_happens.nd
    have hu := hu_of hr
    have hN := hbk.n
    obtain ⟨hsp, hel⟩ := split_ev hN hfe.in_
    obtain ⟨af, ac, am, ash, ad, e1, ⟨fa, f1, f2, f3⟩, e3, e4, e5, e6⟩ := id hst.ex
    have hfk := hok.fk
    have hkl := hok.l.kl
    have nFm : ∀ m ∈ [s, g], F m = none := fun m hm => by
      have hm' : m = s ∨ m = g := by simpa using hm
      rcases hm' with rfl | rfl
      · exact nFs
      · exact nFg
    refine ⟨_, (pss_cons (ps_par3 (i := 4) (j := 5) (l := 6) rfl nd rfl rfl rfl (by decide) (by decide) (by decide) rfl rfl rfl (pa_cons (pe_split (pv 3) pe_str) (pa_cons (pe_dget hu (pv 2) pe_str (fun _ _ => rfl)) (pa_cons pe_non pa_nil))) rfl) (pss_cons (ps_setLc (i := 7) (own := [("_law_at", 8), ("_law_fate", 9)]) (g := gTup K 2 (gCons (gName 8) (gCons (gName 9) (gNil)))) rfl nd rfl rfl rfl (pi_enum (by rfl) C.f_enumerate (pa_cons (pe_dget hu (pv 2) pe_str (fun _ _ => rfl)) pa_nil)) (blkOk_by (N := N_l_happens) (sc := defScope s_l_happens) (by decide +kernel)) (fun _ _ _ _ _ => (pg_tup rfl (pgs_cons (pg_name (i := 8) nd rfl (Or.inl rfl)) (pgs_cons (pg_name (i := 9) nd rfl (Or.inl rfl)) pgs_nil)))) (fun _ _ _ _ _ => pts_one (pt_cmpR op_eq (pe_ix (ix_tupK K) (pv 9) pe_int (fun _ _ => rfl)) pe_str (nomark _))) (fun _ _ _ _ _ => pe_add (pv 8) pe_int)) (C8.pss_cut (ps_if (pt_cmpR op_eq (pe_ix ix_list (pv 4) pe_int (fun _ _ => rfl)) pe_str (nomark _)) (pss_cons (ps_dput hu (pv 5) pe_str (pe_op op_cat (pe_dget hu (pv 5) pe_str (fun _ _ => rfl)) (pe_lst (pa_cons (pe_ix ix_list (pv 4) pe_int (fun _ _ => rfl)) pa_nil))) rfl) (pss_one (ps_dput hu (pv 5) pe_str (pe_op op_cat (pe_dget hu (pv 5) pe_str (fun _ _ => rfl)) (pe_lst (pa_cons (pe_callB call_len_seq (by rfl) C.f_len boot_len (pa_cons (pe_dget hu (pv 5) pe_str (fun _ _ => rfl)) pa_nil)) pa_nil))) rfl)))
        (pss_one (ps_if (pt_cmpR op_eq (pe_ix ix_list (pv 4) pe_int (fun _ _ => rfl)) pe_str (nomark _)) (pss_cons (ps_set (i := 10) nd rfl (Or.inl rfl) (pe_call GA.ok (hr.mono (by decide)) (by rfl) C.g_l_after GA.kp GA.b .nil pass0 (pa_cons (pv 0) (pa_cons (pe_ix ix_list (pv 4) pe_int (fun _ _ => rfl)) (pa_cons (pe_dget hu (pv 2) pe_str (fun _ _ => rfl)) pa_nil))))) (pss_one (ps_dput hu (pv 2) pe_str (pe_ifExp (pt_cmpR op_isN (pv 10) pe_non (nomark _)) (pe_dget hu (pv 2) pe_str (fun _ _ => rfl)) (pv 10)) rfl)))
        (pss_one (ps_if (pt_cmpR op_in_seq (pe_ix ix_list (pv 4) pe_int (fun _ _ => rfl)) (pe_tup (pa_cons pe_str (pa_cons pe_str pa_nil))) (by rfl)) (pss_cons (ps_set (i := 11) nd rfl (Or.inl rfl) (pe_add (pe_callB call_len_seq (by rfl) C.f_len boot_len (pa_cons (pe_dget hu (pv 2) pe_str (fun _ _ => rfl)) pa_nil)) pe_int)) (pss_cons (ps_set (i := 10) nd rfl (Or.inl rfl) (pe_call GA.ok (hr.mono (by decide)) (by rfl) C.g_l_after GA.kp GA.b .nil pass0 (pa_cons (pv 0) (pa_cons (pe_ix ix_list (pe_dget hu (pv 5) pe_str (fun _ _ => rfl)) (pe_sub (pv 11) pe_int) (fun _ _ => rfl)) (pa_cons (pe_dget hu (pv 2) pe_str (fun _ _ => rfl)) pa_nil))))) (C8.pss_cut (ps_if (PW.pt (pw_and (pt_cmpR op_eq (pe_ix ix_list (pv 4) pe_int (fun _ _ => rfl)) pe_str (nomark _)) (pw_and1 (pt_cmpR op_notN (pv 10) pe_non (nomark _))))) (pss_one (ps_asg (pe_tup (pa_cons (pv 10) (pa_cons (pe_op op_cat (pv 7) (pe_lst (pa_cons (pv 11) pa_nil))) pa_nil))) (pg_tup rfl (pgs_cons (pg_sub (pv 2) pe_str (set_dict hu) (fun _ => rfl)) (pgs_cons (pg_name (i := 7) nd rfl (Or.inl rfl)) pgs_nil))))) pss_nil) (C8.pss_cut (ps_set (i := 12) nd rfl (Or.inl rfl) (pe_ifExp (pt_cmpR op_in_seq (pv 11) (pv 7) (by rfl)) pe_str pe_str)) (pss_one (ps_dput hu (pv 2) pe_str (pe_op op_cat (pe_dget hu (pv 2) pe_str (fun _ _ => rfl)) (pe_lst (pa_cons (pe_tup (pa_cons (pv 12) (pa_cons (pe_dget hu (pv 2) pe_str (fun _ _ => rfl)) (pa_cons (pv 7) pa_nil)))) pa_nil))) rfl))))))
        (pss_one (ps_if (pt_cmpR op_eq (pe_ix ix_list (pv 4) pe_int (fun _ _ => rfl)) pe_str (nomark _)) (pss_cons (ps_set (i := 11) nd rfl (Or.inl rfl) (pe_callTy call_int_str (by rfl) C.f_int boot_int (pa_cons (pe_ix ix_list (pv 4) pe_int (fun _ _ => rfl)) pa_nil))) (pss_cons (ps_asg (pe_ix ix_list (pe_dget hu (pv 2) pe_str (fun _ _ => rfl)) (pe_sub (pv 11) pe_int) (fun _ _ => rfl)) (pg_tup rfl (pgs_cons (pg_name (i := 12) nd rfl (Or.inl rfl)) (pgs_cons (pg_name (i := 13) nd rfl (Or.inl rfl)) (pgs_cons (pg_name (i := 14) nd rfl (Or.inl rfl)) pgs_nil))))) (pss_cons (ps_dput hu (pv 2) pe_str (pe_op op_cat (pe_dget hu (pv 2) pe_str (fun _ _ => rfl)) (pe_lst (pa_cons (pv 11) pa_nil))) rfl) (pss_one (ps_set (i := 6) nd rfl (Or.inl rfl) (pe_call GH.ok (hr.mono (by decide)) (by rfl) C.g_l_hears GH.kp GH.b .nil pass0 (pa_cons (pv 0) (pa_cons (pv 1) (pa_cons (pe_tup (pa_cons (pv 12) (pa_cons (pv 11) (pa_cons (pv 13) (pa_cons (pv 11) (pa_cons (pv 14) pa_nil)))))) (pa_cons (pv 5) pa_nil))))))))))
        (pss_cons (ps_asg (pe_ix ix_list (pe_dget hu (pv 2) pe_str (fun _ _ => rfl)) (pe_callTy call_int_str (by rfl) C.f_int boot_int (pa_cons (pe_ix ix_list (pv 4) pe_int (fun _ _ => rfl)) pa_nil)) (fun _ _ => rfl)) (pg_tup rfl (pgs_cons (pg_name (i := 13) nd rfl (Or.inl rfl)) (pgs_cons (pg_name (i := 15) nd rfl (Or.inl rfl)) (pgs_cons (pg_name (i := 14) nd rfl (Or.inl rfl)) pgs_nil))))) (pss_one (ps_set (i := 6) nd rfl (Or.inl rfl) (pe_call GH.ok (hr.mono (by decide)) (by rfl) C.g_l_hears GH.kp GH.b .nil pass0 (pa_cons (pv 0) (pa_cons (pv 1) (pa_cons (pe_tup (pa_cons pe_str (pa_cons pe_int (pa_cons (pv 13) (pa_cons (pv 15) (pa_cons (pv 14) pa_nil)))))) (pa_cons (pv 5) pa_nil))))))))))))))) (pss_cons (ps_dput hu (pv 2) pe_str (pe_op op_cat (pe_dget hu (pv 2) pe_str (fun _ _ => rfl)) (pe_lst (pa_cons (pe_tup (pa_cons (pe_dget hu (pv 2) pe_str (fun _ _ => rfl)) (pa_cons (pe_callB call_len_seq (by rfl) C.f_len boot_len (pa_cons (pe_dget hu (pv 2) pe_str (fun _ _ => rfl)) pa_nil)) (pa_cons (pv 7) pa_nil)))) pa_nil))) rfl) (pss_cons (ps_dput hu (pv 2) pe_str (pe_op op_cat (pe_dget hu (pv 2) pe_str (fun _ _ => rfl)) (pe_lst (pa_cons (pe_call GS.ok (hr.mono (by decide)) (by rfl) C.g_l_shows GS.kp GS.b .nil pass0 (pa_cons (pv 0) (pa_cons (pv 5) pa_nil))) pa_nil))) rfl) (pss_one (ps_dput hu (pv 2) pe_str (pe_op op_cat (pe_dget hu (pv 2) pe_str (fun _ _ => rfl)) (pe_lst (pa_cons (pv 6) pa_nil))) rfl))))))), ?_⟩
    refine ⟨_, rfl, ⟨_, rfl⟩, _, _, rfl, rfl, rfl, small (by omega), fun wp hwp => ?_⟩
    rw [show Txt.split (e.str N) (Str.ofString " ") = e.words N from hsp]
    have t1 := same_new (o := .lst (stL (e.words N))) hwp
    have w1 : (upd H wp (.lst (stL (e.words N)))) wp = some (.lst (stL (e.words N))) := upd_same
    show ∃ v, _
    refine ⟨_, rfl, s, _, rfl, dgetS (t1 _ _ e1) rfl, ⟨_, _, _, rfl, ?_⟩⟩
    refine ⟨_, rfl, s, _, rfl, dgetS (t1 _ _ e1) rfl, af, _, rfl, SqL.of (t1 _ _ f1), fun D hD => ?_⟩
    refine lc_p walk_enum (List.range Z.fates.length) (by rw [List.length_map, range_len, f2]) (by rw [range_len]; exact small (by omega)) (fun i => decide (((Z.fates[i]?).getD ⟨"", 0, []⟩).wd = "yes")) (fun i => .int ((i : Int) + 1)) hD (fun H2 s2 => SqL.of (s2 _ _ (t1 _ _ f1))) (fun i m x H2 H3 Qy Qn hi s2 y k1 k2 => ?_) (fun H2 s2 hL => ?_)
    · obtain ⟨T, x1, y1, rfl, hT, rfl, c1, c2⟩ := y
      obtain ⟨rfl, hil⟩ := range_is hi
      have hfa : fa[m]? = some fa[m] := List.getElem?_eq_getElem (by omega)
      have hff : Z.fates[m]? = some Z.fates[m] := List.getElem?_eq_getElem hil
      obtain rfl : y1 = .ref fa[m] := map_un (f := V.ref) hfa c2
      cases c1
      obtain ⟨q, g1, g2⟩ := f3 m _ _ hfa hff
      have g1' := same_new (o := HO.tup [.int (m : Nat), .ref fa[m]]) hT _ _ (s2 _ _ (t1 _ _ g1))
      refine ⟨T, _, rfl, SqT.of upd_same, rfl, _, _, rfl, _, _, rfl, rfl, rfl, ?_⟩
      refine ⟨_, rfl, fa[m], _, 0, .str Z.fates[m].wd, rfl, rfl, SqT.of g1', rfl, rfl, _, rfl, ?_⟩
      rw [dec_strV]
      have ek : decide (((Z.fates[m]?).getD ⟨"", 0, []⟩).wd = "yes") = decide (Z.fates[m].wd = "yes") := by rw [hff]; rfl
      exact ite2 (fun h => ⟨_, rfl, (m : Int), 1, rfl, rfl, k1 (ek.trans h) _ (same_new hT)⟩) (fun h => k2 (ek.trans (by simpa using h)) _ (same_new hT))
    obtain ⟨ns, hns, hnl⟩ : ∃ ns : List Nat, H2 D = some (.lst (inL ns)) ∧ ns.length ≤ Z.fates.length := by
      refine ⟨_, hL.trans (congrArg (fun l => some (HO.lst l)) (in_map _)), ?_⟩
      rw [List.length_map]
      exact Nat.le_trans (List.length_filter_le _ _) (by rw [List.length_range]; exact Nat.le_refl _)
    have t2 := t1.trans s2
    have w2 := s2 _ _ w1
    have st2 := hst.mono t2
    have sF2 := sF.trans t2
    clear hL w1
    refine ⟨fun σ' H' => ∃ (acA : Addr) (ns : List Nat) (x6 : V) (x8 x9 x10 x11 x12 x13 x14 x15 : Option V) (Z1 : LS), σ' = [some (.ref pb), some (.ref pr), some (.ref s), some (.str (e.str N)), some (.ref wp), some (.ref g), some x6, some (.ref acA), x8, x9, x10, x11, x12, x13, x14, x15] ∧ Gr [s, g] H H' ∧ StL H' s g N Z1 ∧ H' acA = some (.lst (inL ns)) ∧ ns.length ≤ M ∧ Z1.Ok N (M + 20) ∧
      Z1.L.kinds = (stepSk Z.sk e).kinds ∧ Z1.fates.length = (stepSk Z.sk e).nf ∧ Z1.come = (stepSk Z.sk e).come ∧ Z1.moms.length = Z.moms.length, ?_, ?_⟩
    · -- what happens
      obtain ⟨ao, ak, ah, g1, g2, g3, g4⟩ := id st2.p.ex
      obtain ⟨bf, bc, bm, bsh, bd, d1, ⟨fb, u1, u2, u3⟩, d3, ⟨ma, m1, m2, m3⟩, d5, d6⟩ := id st2.ex
      have gr2 : Gr [s, g] H H2 := .of t2
      have ok0 := hok.up (M' := M + 20) (by omega) (by omega)
      have hol := hok.l.ol
      have hcl := hok.cl
      have hml := hok.ml
      have nsM : ns.length ≤ M := by omega
      have w0 : atI (stL (e.words N)) 0 = some (.str e.word) := atI_nat (j := 0) (stL_at (words_0 N e))
      have er_s : ∀ {H : L2.Hp}, Same F H → Same F (fun b => if b = g then none else H b) := fun {H} sf b o q => by
        show (if b = g then none else H b) = some o
        rw [if_neg (fun z => by rw [z, nFg] at q; cases q)]
        exact sf _ _ q
      have er_H : ∀ {H : L2.Hp}, Same (fun b => if b = g then none else H b) H := fun {H} b o q => by
        have q' : (if b = g then none else H b) = some o := q
        split at q'
        · cases q'
        · exact q'
      have er_in : ∀ {H : L2.Hp} {b : Addr} {o : HO}, H b = some o → b ≠ g → (fun b => if b = g then none else H b) b = some o := fun {H b o} q n => by
        show (if b = g then none else H b) = some o
        rw [if_neg n]
        exact q
      have er_g : ∀ {H : L2.Hp}, (fun b => if b = g then none else H b) g = (none : Option HO) := fun {H} => if_pos rfl
      cases e with
      | click i =>
        have w1 : atI (stL ((Ev.click i).words N)) 1 = some (.str (N.k i)) := rfl
        refine ⟨_, rfl, wp, _, 0, .str "click", rfl, rfl, SqL.of w2, w0, rfl, _, rfl, ifT (by rw [dec_strV]; decide) ?_⟩
        refine ⟨_, rfl, g, _, rfl, dgetS g1 rfl, _, rfl, wp, _, 1, _, rfl, rfl, SqL.of w2, w1, (by show 1 ≤ sizeLine; decide), fun q hq => ?_⟩
        have s3 := same_new (H := H2) (p := q) (o := HO.lst [.str (N.k i)]) hq; have q3 : (upd H2 q (HO.lst [.str (N.k i)])) q = some (HO.lst [.str (N.k i)]) := upd_same; generalize upd H2 q (HO.lst [.str (N.k i)]) = H3 at s3 q3 ⊢
        refine ⟨ak, q, _, _, rfl, rfl, s3 _ _ g3, q3, small (by rw [stL_len, List.length_map]; show _ + 1 ≤ _; omega), fun r hrr => ?_⟩
        have ek : stL (Z.L.kinds.map N.k) ++ [.str (N.k i)] = stL ((Z.L.kinds ++ [i]).map N.k) := by unfold stL; rw [List.map_append, List.map_append]; rfl
        rw [ek]
        have s4 := same_new (o := HO.lst (stL ((Z.L.kinds ++ [i]).map N.k))) hrr
        have r4 : (upd H3 r (.lst (stL ((Z.L.kinds ++ [i]).map N.k)))) r = _ := upd_same
        generalize upd H3 r (.lst (stL ((Z.L.kinds ++ [i]).map N.k))) = H4 at s4 r4 ⊢
        have t24 := s3.trans s4
        refine ⟨_, rfl, g, _, rfl, dp_ki (t24 _ _ g1), ?_⟩
        have k5 := (Kp.refl (a := g) (H := H4)).put (o := .dK (pgK (.str (N.v Z.L.base)) ao (.int (Z.L.heard : Nat)) r ah))
        have g5 : (upd H4 g (.dK (pgK (.str (N.v Z.L.base)) ao (.int (Z.L.heard : Nat)) r ah))) g = _ := upd_same
        generalize upd H4 g (.dK (pgK (.str (N.v Z.L.base)) ao (.int (Z.L.heard : Nat)) r ah)) = H5 at k5 g5 ⊢
        have ng : ∀ {b : Addr} {xs : List V}, H4 b = some (.lst xs) → b ≠ g := fun {b xs} q z => by rw [z, t24 _ _ g1] at q; cases q
        have r5 := k5 _ _ r4 (ng r4)
        have a5 := k5 _ _ (t24 _ _ g2) (ng (t24 _ _ g2))
        have h5 := k5 _ _ (t24 _ _ g4) (ng (t24 _ _ g4))
        refine ⟨_, rfl, g, _, rfl, dgetS g5 rfl, _, rfl, g, _, rfl, dgetS g5 rfl, r, _, rfl, .inl (SqL.of r5), (by show 1 ≤ sizeLine; decide), fun q6 hq6 => ?_⟩
        have el : ((stL ((Z.L.kinds ++ [i]).map N.k)).length : Int) = ((Z.L.kinds.length + 1 : Nat) : Int) := by rw [stL_len, List.length_map, List.length_append]; rfl
        rw [el]
        have s6 := same_new (H := H5) (p := q6) (o := HO.lst [.int ((Z.L.kinds.length + 1 : Nat) : Int)]) hq6; have q66 : (upd H5 q6 (HO.lst [.int ((Z.L.kinds.length + 1 : Nat) : Int)])) q6 = some (HO.lst [.int ((Z.L.kinds.length + 1 : Nat) : Int)]) := upd_same; generalize upd H5 q6 (HO.lst [.int ((Z.L.kinds.length + 1 : Nat) : Int)]) = H6 at s6 q66 ⊢
        refine ⟨ao, q6, _, _, rfl, rfl, s6 _ _ a5, q66, small (by rw [inL_len]; show _ + 1 ≤ _; omega), fun r7 hr7 => ?_⟩
        have eo : inL Z.L.opn ++ [.int ((Z.L.kinds.length + 1 : Nat) : Int)] = inL (Z.L.opn ++ [Z.L.kinds.length + 1]) := by unfold inL; rw [List.map_append]; rfl
        rw [eo]
        have s7 := same_new (o := HO.lst (inL (Z.L.opn ++ [Z.L.kinds.length + 1]))) hr7
        have r77 : (upd H6 r7 (.lst (inL (Z.L.opn ++ [Z.L.kinds.length + 1])))) r7 = _ := upd_same
        generalize upd H6 r7 (.lst (inL (Z.L.opn ++ [Z.L.kinds.length + 1]))) = H7 at s7 r77 ⊢
        have t57 := s6.trans s7
        refine ⟨_, rfl, g, _, rfl, dp_op (t57 _ _ g5), ?_⟩
        have kA := ((Kp.of (p := g) t24).trans k5).trans ((Kp.of (p := g) t57).put (o := .dK (pgK (.str (N.v Z.L.base)) r7 (.int (Z.L.heard : Nat)) r ah)))
        have n7 : ∀ {b : Addr} {xs : List V}, H7 b = some (.lst xs) → b ≠ g := fun {b xs} q z => by rw [z, t57 _ _ g5] at q; cases q
        have pgN : PgAt (upd H7 g (.dK (pgK (.str (N.v Z.L.base)) r7 (.int (Z.L.heard : Nat)) r ah))) g N { Z.L with kinds := Z.L.kinds ++ [i], opn := Z.L.opn ++ [Z.L.kinds.length + 1] } :=
          ⟨r7, r, ah, upd_same, (upd_ne (n7 r77)).trans r77, (upd_ne (n7 (t57 _ _ r5))).trans (t57 _ _ r5), (upd_ne (n7 (t57 _ _ h5))).trans (t57 _ _ h5)⟩
        obtain ⟨stN, lkN⟩ := st2.at_g kA pgN
        have h8' := h8 i rfl
        refine ⟨D, ns, _, _, _, _, _, _, _, _, _, _, rfl, gr2.trans (Gr.kp kA (by simp)), stN, lkN.l _ _ hns, nsM, { ok0 with l := ⟨hok.l.b, fun j hj => ?_, fun n hn => ?_, ?_, ok0.l.hl, ?_, ok0.l.m⟩, fk := ?_ }, rfl, rfl, rfl, rfl⟩
        · rcases List.mem_append.mp hj with c | c
          · exact hok.l.k j c
          · obtain rfl : j = i := by simpa using c
            exact hfe
        · show 1 ≤ n ∧ n ≤ (Z.L.kinds ++ [i]).length
          rw [List.length_append]
          show 1 ≤ n ∧ n ≤ Z.L.kinds.length + 1
          rcases List.mem_append.mp hn with c | c
          · have := hok.l.o n c
            omega
          · obtain rfl : n = Z.L.kinds.length + 1 := by simpa using c
            omega
        · show (Z.L.opn ++ [_]).length ≤ M + 20
          rw [List.length_append]
          show _ + 1 ≤ _
          omega
        · show (Z.L.kinds ++ [i]).length ≤ 8
          rw [List.length_append]
          show _ + 1 ≤ _
          omega
        · show Z.fates.length ≤ (Z.L.kinds ++ [i]).length
          rw [List.length_append]
          omega
      | other i =>
        have w1 : atI (stL ((Ev.other i).words N)) 1 = some (.str (N.k i)) := rfl
        refine ⟨_, rfl, wp, _, 0, .str "other", rfl, rfl, SqL.of w2, w0, rfl, _, rfl, ifF (by rw [dec_strV]; decide) ?_⟩
        refine ⟨_, rfl, wp, _, 0, .str "other", rfl, rfl, SqL.of w2, w0, rfl, _, rfl, ifT (by rw [dec_strV]; decide) ?_⟩
        refine ⟨_, rfl, _, rfl, wp, _, 1, _, rfl, rfl, SqL.of w2, w1, _, rfl, s, _, rfl, dgetS d1 rfl, pb, N, B, L, O, i, Z.value, rfl, hb.mono sF2, hbk, hfe.1, hok.v, fun H3 s3 => ?_⟩
        have st3 := st2.mono s3
        have wr : ∀ v', v' < N.nv → ∃ Z1 : LS, StL (upd H3 s (.dK (stK g (.str (N.v v')) bf bc bm bsh bd))) s g N Z1 ∧ Kp s H3 (upd H3 s (.dK (stK g (.str (N.v v')) bf bc bm bsh bd))) ∧ LK H3 (upd H3 s (.dK (stK g (.str (N.v v')) bf bc bm bsh bd))) ∧ Z1.Ok N (M + 20) ∧ Z1.L.kinds = Z.L.kinds ∧ Z1.fates.length = Z.fates.length ∧ Z1.come = Z.come ∧ Z1.moms.length = Z.moms.length := fun v' hv' => by
          have k4 := (Kp.refl (a := s) (H := H3)).put (o := .dK (stK g (.str (N.v v')) bf bc bm bsh bd))
          have lk4 := (st3.lk_s k4).1
          refine ⟨{ Z with value := v' }, st3.write (Z' := { Z with value := v' }) k4 rfl upd_same ((FatesL.kept ⟨fb, u1, u2, u3⟩ (.of s3)).kept lk4) (lk4.l _ _ (s3 _ _ d3)) ((MomsL.kept ⟨ma, m1, m2, m3⟩ (.of s3)).kept lk4) (lk4.l _ _ (s3 _ _ d5)) (lk4.l _ _ (s3 _ _ d6)), k4, lk4, { ok0 with v := hv' }, rfl, rfl, rfl, rfl⟩
        refine ⟨_, rfl, rfl, _, rfl, ?_⟩
        cases et : B.tg i Z.value with
        | none =>
          obtain ⟨Z1, y1, y2, y3, y4, y5, y6, y7, y8⟩ := wr Z.value hok.v
          exact ifT rfl ⟨_, rfl, s, _, rfl, dgetS (s3 _ _ d1) rfl, _, rfl, s, _, rfl, dp_va (s3 _ _ d1), D, ns, _, _, _, _, _, _, _, _, _, Z1, rfl, (gr2.trans (.of s3)).trans (Gr.kp y2 (by simp)), y1, y3.l _ _ (s3 _ _ hns), nsM, y4, y5, y6, y7, y8⟩
        | some v' =>
          obtain ⟨Z1, y1, y2, y3, y4, y5, y6, y7, y8⟩ := wr v' (hbk.b i Z.value v' hfe.1 hok.v et)
          exact ifF rfl ⟨_, rfl, _, rfl, s, _, rfl, dp_va (s3 _ _ d1), D, ns, _, _, _, _, _, _, _, _, _, Z1, rfl, (gr2.trans (.of s3)).trans (Gr.kp y2 (by simp)), y1, y3.l _ _ (s3 _ _ hns), nsM, y4, y5, y6, y7, y8⟩
      | serve =>
        have hlt : Z.fates.length < Z.L.kinds.length := hfe
        refine ⟨_, rfl, wp, _, 0, .str "serve", rfl, rfl, SqL.of w2, w0, rfl, _, rfl, ifF (by rw [dec_strV]; decide) ?_⟩
        refine ⟨_, rfl, wp, _, 0, .str "serve", rfl, rfl, SqL.of w2, w0, rfl, _, rfl, ifF (by rw [dec_strV]; decide) ?_⟩
        refine ⟨_, rfl, wp, _, 0, .str "serve", rfl, rfl, SqL.of w2, w0, (by show 2 ≤ sizeLine; decide), fun p3 hp3 => ?_⟩
        have s3 := same_new (H := H2) (p := p3) (o := HO.tup [.str "serve", .str "refuse"]) hp3; have p33 : (upd H2 p3 (HO.tup [.str "serve", .str "refuse"])) p3 = some (HO.tup [.str "serve", .str "refuse"]) := upd_same; generalize upd H2 p3 (HO.tup [.str "serve", .str "refuse"]) = H3 at s3 p33 ⊢
        refine ⟨p3, twoP, rfl, .inr (SqT.of p33), rfl, rfl, _, rfl, ifT rfl ?_⟩
        have w3 := s3 _ _ w2
        refine ⟨_, rfl, s, _, rfl, dgetS (s3 _ _ d1) rfl, bf, _, rfl, .inl (SqL.of (s3 _ _ u1)), _, _, rfl, rfl, ?_⟩
        rw [List.length_map, u2]
        dsimp only
        rw [show ((Z.fates.length : Nat) : Int) + 1 = ((Z.fates.length + 1 : Nat) : Int) by omega]
        refine ⟨_, rfl, _, rfl, g, _, rfl, dgetS (s3 _ _ g1) rfl, _, rfl, _, _, rfl, rfl, ix_kindL (s3 _ _ g3) (Nat.succ_le_succ (Nat.zero_le _)) hlt fun kd hkd _ => ?_⟩
        refine ⟨_, rfl, s, _, rfl, dgetS (s3 _ _ d1) rfl, pb, N, B, L, O, kd, Z.value, rfl, hb.mono (sF2.trans s3), hbk, hok.l.k kd hkd, hok.v, fun H4 s4 => ?_⟩
        have t24 := s3.trans s4
        have st4 := st2.mono t24
        have hns4 := t24 _ _ hns
        have hlat : ∀ v', B.tg kd Z.value = some v' → v' < N.nv := fun v' h => hbk.b kd Z.value v' (hok.l.k kd hkd) hok.v h
        generalize B.tg kd Z.value = later at hlat ⊢
        refine ⟨fun σ' H' => ∃ (acA : Addr) (ns' : List Nat) (v' : Nat) (x8 x9 x10 x12 x13 x14 x15 : Option V), σ' = [some (.ref pb), some (.ref pr), some (.ref s), some (.str (Ev.serve.str N)), some (.ref wp), some (.ref g), some .non, some (.ref acA), x8, x9, x10, some (.int ((Z.fates.length + 1 : Nat) : Int)), x12, x13, x14, x15] ∧ Gr [s, g] H H' ∧ StL H' s g N { Z with value := v' } ∧ H' acA = some (.lst (inL ns')) ∧ ns'.length ≤ M ∧ v' < N.nv, ?_, ?_⟩
        · have stay : ∃ (acA : Addr) (ns' : List Nat) (v' : Nat) (x8 x9 x10 x12 x13 x14 x15 : Option V), [some (V.ref pb), some (.ref pr), some (.ref s), some (.str (Ev.serve.str N)), some (.ref wp), some (.ref g), some .non, some (.ref D), none, none, some (optS N.v later), some (.int ((Z.fates.length + 1 : Nat) : Int)), none, none, none, none] = [some (V.ref pb), some (.ref pr), some (.ref s), some (.str (Ev.serve.str N)), some (.ref wp), some (.ref g), some .non, some (.ref acA), x8, x9, x10, some (.int ((Z.fates.length + 1 : Nat) : Int)), x12, x13, x14, x15] ∧ Gr [s, g] H H4 ∧ StL H4 s g N { Z with value := v' } ∧ H4 acA = some (.lst (inL ns')) ∧ ns'.length ≤ M ∧ v' < N.nv :=
            ⟨D, ns, Z.value, _, _, _, _, _, _, _, rfl, gr2.trans (.of t24), st4, hns4, nsM, hok.v⟩
          cases later with
          | none => exact ⟨_, rfl, wp, _, 0, .str "serve", rfl, rfl, SqL.of (s4 _ _ w3), w0, rfl, _, rfl, ifT (by rw [dec_strV]; decide) ⟨_, rfl, rfl, _, rfl, ifF rfl stay⟩⟩
          | some v' =>
            refine ⟨_, rfl, wp, _, 0, .str "serve", rfl, rfl, SqL.of (s4 _ _ w3), w0, rfl, _, rfl, ifT (by rw [dec_strV]; decide) ⟨_, rfl, rfl, _, rfl, ifT rfl ?_⟩⟩
            refine ⟨_, rfl, _, rfl, _, rfl, (by show 1 ≤ sizeLine; decide), fun q hq => ?_⟩
            have s5 := same_new (H := H4) (p := q) (o := HO.lst [.int ((Z.fates.length + 1 : Nat) : Int)]) hq; have q5 : (upd H4 q (HO.lst [.int ((Z.fates.length + 1 : Nat) : Int)])) q = some (HO.lst [.int ((Z.fates.length + 1 : Nat) : Int)]) := upd_same; generalize upd H4 q (HO.lst [.int ((Z.fates.length + 1 : Nat) : Int)]) = H5 at s5 q5 ⊢
            refine ⟨D, q, _, _, rfl, rfl, s5 _ _ hns4, q5, small (by rw [inL_len]; show _ + 1 ≤ _; omega), fun rr hrr => ?_⟩
            have en : inL ns ++ [.int ((Z.fates.length + 1 : Nat) : Int)] = inL (ns ++ [Z.fates.length + 1]) := by unfold inL; rw [List.map_append]; rfl
            rw [en]
            have s6 := same_new (o := HO.lst (inL (ns ++ [Z.fates.length + 1]))) hrr
            have rr6 : (upd H5 rr (.lst (inL (ns ++ [Z.fates.length + 1])))) rr = _ := upd_same
            generalize upd H5 rr (.lst (inL (ns ++ [Z.fates.length + 1]))) = H6 at s6 rr6 ⊢
            refine ⟨(by show 2 ≤ sizeLine; decide), fun t ht => ?_⟩
            have s7 := same_new (o := HO.tup [optS N.v (some v'), .ref rr]) ht
            have t47 := (s5.trans s6).trans s7
            have st7 := st4.mono t47
            obtain ⟨b1, b2, b3, b4, b5, c1, c2, c3, c4, c5, c6⟩ := id st7.ex
            refine ⟨t, _, rfl, SqT.of upd_same, rfl, _, _, rfl, _, rfl, s, _, rfl, dp_va c1, _, _, rfl, rfl, ?_⟩
            have k8 := (Kp.refl (a := s) (H := upd H6 t (.tup [optS N.v (some v'), .ref rr]))).put (o := .dK (stK g (.str (N.v v')) b1 b2 b3 b4 b5))
            have lk8 := (st7.lk_s k8).1
            refine ⟨rr, ns ++ [Z.fates.length + 1], v', _, _, _, _, _, _, _, rfl, (gr2.trans (.of (t24.trans t47))).trans (Gr.kp k8 (by simp)), st7.write (Z' := { Z with value := v' }) k8 rfl upd_same (c2.kept lk8) (lk8.l _ _ c3) (c4.kept lk8) (lk8.l _ _ c5) (lk8.l _ _ c6), lk8.l _ _ (s7 _ _ rr6), ?_, hlat v' rfl⟩
            rw [List.length_append]
            show _ + 1 ≤ _
            omega
        rintro σ' H5 ⟨acA, ns', v', x8, x9, x10, x12, x13, x14, x15, rfl, gr5, st5, ha5, hn5, hv5⟩
        refine ⟨fun σ' H' => ∃ wd : Str, wd ∈ (["yes", "no"] : List Str) ∧ H' = H5 ∧ σ' = [some (.ref pb), some (.ref pr), some (.ref s), some (.str (Ev.serve.str N)), some (.ref wp), some (.ref g), some .non, some (.ref acA), x8, x9, x10, some (.int ((Z.fates.length + 1 : Nat) : Int)), some (.str wd), x13, x14, x15], ?_, ?_⟩
        · refine ⟨_, rfl, _, rfl, acA, _, rfl, .inl (SqL.of ha5), rfl, flat_inL _, _, rfl, ite2 (fun _ => ⟨"yes", by decide, rfl, rfl⟩) (fun _ => ⟨"no", by decide, rfl, rfl⟩)⟩
        rintro σ' H5' ⟨wd, hwd, rfl, rfl⟩
        obtain ⟨b1, b2, b3, b4, b5, c1, ⟨fc, v1, v2, v3⟩, c3, c4, c5, c6⟩ := id st5.ex
        refine ⟨_, rfl, s, _, rfl, dgetS c1 rfl, _, rfl, _, rfl, s, _, rfl, dgetS c1 rfl, _, rfl, (by show 3 ≤ sizeLine; decide), fun t ht => ?_⟩
        have s6 := same_new (H := H5') (p := t) (o := HO.tup [.str wd, .str (N.v v'), .ref acA]) ht; have t6 : (upd H5' t (HO.tup [.str wd, .str (N.v v'), .ref acA])) t = some (HO.tup [.str wd, .str (N.v v'), .ref acA]) := upd_same; generalize upd H5' t (HO.tup [.str wd, .str (N.v v'), .ref acA]) = H6 at s6 t6 ⊢
        refine ⟨(by show 1 ≤ sizeLine; decide), fun q hq => ?_⟩
        have s7 := same_new (H := H6) (p := q) (o := HO.lst [.ref t]) hq; have q7 : (upd H6 q (HO.lst [.ref t])) q = some (HO.lst [.ref t]) := upd_same; generalize upd H6 q (HO.lst [.ref t]) = H7 at s7 q7 ⊢
        have t57 := s6.trans s7
        have hfl : fc.length = Z.fates.length := v2
        refine ⟨b1, q, _, _, rfl, rfl, t57 _ _ v1, q7, small (by rw [List.length_map]; show _ + 1 ≤ _; omega), fun rr hrr => ?_⟩
        have s8 := same_new (H := H7) (p := rr) (o := HO.lst (fc.map V.ref ++ [.ref t])) hrr; have rr8 : (upd H7 rr (HO.lst (fc.map V.ref ++ [.ref t]))) rr = some (HO.lst (fc.map V.ref ++ [.ref t])) := upd_same; generalize upd H7 rr (HO.lst (fc.map V.ref ++ [.ref t])) = H8 at s8 rr8 ⊢
        have t58 := t57.trans s8
        refine ⟨_, rfl, s, _, rfl, dp_fa (t58 _ _ c1), ?_⟩
        have k9 := (Kp.refl (a := s) (H := H8)).put (o := .dK (stK g (.str (N.v v')) rr b2 b3 b4 b5))
        have lk9 := ((st5.mono t58).lk_s k9).1
        refine ⟨acA, ns', _, _, _, _, _, _, _, _, _, { Z with value := v', fates := Z.fates ++ [⟨wd, v', inL ns'⟩] }, rfl, (gr5.trans (.of t58)).trans (Gr.kp k9 (by simp)), (st5.mono t58).write (Z' := { Z with value := v', fates := Z.fates ++ [⟨wd, v', inL ns'⟩] }) k9 rfl upd_same (fatesL_add (f := ⟨wd, v', inL ns'⟩) v2 v3 ((LK.of t58).trans lk9) (lk9.l _ _ rr8) (lk9.t _ _ (s8 _ _ (s7 _ _ t6))) (lk9.l _ _ (t58 _ _ ha5))) (lk9.l _ _ (t58 _ _ c3)) ((c4.kept (.of t58)).kept lk9) (lk9.l _ _ (t58 _ _ c5)) (lk9.l _ _ (t58 _ _ c6)), lk9.l _ _ (t58 _ _ ha5), hn5, { ok0 with v := hv5, f := fun f hf => ?_, fk := ?_ }, rfl, ?_, rfl, rfl⟩
        · rcases List.mem_append.mp hf with c | c
          · exact ok0.f f c
          · obtain rfl : f = ⟨wd, v', inL ns'⟩ := by simpa using c
            exact ⟨hv5, by show (inL ns').length ≤ _; rw [inL_len]; omega, hwd⟩
        · show (Z.fates ++ [_]).length ≤ Z.L.kinds.length
          rw [List.length_append]
          exact hlt
        · show (Z.fates ++ [_]).length = Z.fates.length + 1
          rw [List.length_append]
          rfl
      | refuse =>
        have hlt : Z.fates.length < Z.L.kinds.length := by
          obtain ⟨i, hi, _⟩ := hfe
          exact (List.getElem?_eq_some_iff.mp hi).1
        refine ⟨_, rfl, wp, _, 0, .str "refuse", rfl, rfl, SqL.of w2, w0, rfl, _, rfl, ifF (by rw [dec_strV]; decide) ?_⟩
        refine ⟨_, rfl, wp, _, 0, .str "refuse", rfl, rfl, SqL.of w2, w0, rfl, _, rfl, ifF (by rw [dec_strV]; decide) ?_⟩
        refine ⟨_, rfl, wp, _, 0, .str "refuse", rfl, rfl, SqL.of w2, w0, (by show 2 ≤ sizeLine; decide), fun p3 hp3 => ?_⟩
        have s3 := same_new (H := H2) (p := p3) (o := HO.tup [.str "serve", .str "refuse"]) hp3; have p33 : (upd H2 p3 (HO.tup [.str "serve", .str "refuse"])) p3 = some (HO.tup [.str "serve", .str "refuse"]) := upd_same; generalize upd H2 p3 (HO.tup [.str "serve", .str "refuse"]) = H3 at s3 p33 ⊢
        refine ⟨p3, twoP, rfl, .inr (SqT.of p33), rfl, rfl, _, rfl, ifT rfl ?_⟩
        have w3 := s3 _ _ w2
        refine ⟨_, rfl, s, _, rfl, dgetS (s3 _ _ d1) rfl, bf, _, rfl, .inl (SqL.of (s3 _ _ u1)), _, _, rfl, rfl, ?_⟩
        rw [List.length_map, u2]
        dsimp only
        rw [show ((Z.fates.length : Nat) : Int) + 1 = ((Z.fates.length + 1 : Nat) : Int) by omega]
        refine ⟨_, rfl, _, rfl, g, _, rfl, dgetS (s3 _ _ g1) rfl, _, rfl, _, _, rfl, rfl, ix_kindL (s3 _ _ g3) (Nat.succ_le_succ (Nat.zero_le _)) hlt fun kd hkd _ => ?_⟩
        refine ⟨_, rfl, s, _, rfl, dgetS (s3 _ _ d1) rfl, pb, N, B, L, O, kd, Z.value, rfl, hb.mono (sF2.trans s3), hbk, hok.l.k kd hkd, hok.v, fun H4 s4 => ?_⟩
        have t24 := s3.trans s4
        have st4 := st2.mono t24
        have hns4 := t24 _ _ hns
        have hlat : ∀ v', B.tg kd Z.value = some v' → v' < N.nv := fun v' h => hbk.b kd Z.value v' (hok.l.k kd hkd) hok.v h
        generalize B.tg kd Z.value = later at hlat ⊢
        refine ⟨fun σ' H' => ∃ (acA : Addr) (ns' : List Nat) (v' : Nat) (x8 x9 x10 x12 x13 x14 x15 : Option V), σ' = [some (.ref pb), some (.ref pr), some (.ref s), some (.str (Ev.refuse.str N)), some (.ref wp), some (.ref g), some .non, some (.ref acA), x8, x9, x10, some (.int ((Z.fates.length + 1 : Nat) : Int)), x12, x13, x14, x15] ∧ Gr [s, g] H H' ∧ StL H' s g N { Z with value := v' } ∧ H' acA = some (.lst (inL ns')) ∧ ns'.length ≤ M ∧ v' < N.nv, ?_, ?_⟩
        · have stay : ∃ (acA : Addr) (ns' : List Nat) (v' : Nat) (x8 x9 x10 x12 x13 x14 x15 : Option V), [some (V.ref pb), some (.ref pr), some (.ref s), some (.str (Ev.refuse.str N)), some (.ref wp), some (.ref g), some .non, some (.ref D), none, none, some (optS N.v later), some (.int ((Z.fates.length + 1 : Nat) : Int)), none, none, none, none] = [some (V.ref pb), some (.ref pr), some (.ref s), some (.str (Ev.refuse.str N)), some (.ref wp), some (.ref g), some .non, some (.ref acA), x8, x9, x10, some (.int ((Z.fates.length + 1 : Nat) : Int)), x12, x13, x14, x15] ∧ Gr [s, g] H H4 ∧ StL H4 s g N { Z with value := v' } ∧ H4 acA = some (.lst (inL ns')) ∧ ns'.length ≤ M ∧ v' < N.nv :=
            ⟨D, ns, Z.value, _, _, _, _, _, _, _, rfl, gr2.trans (.of t24), st4, hns4, nsM, hok.v⟩
          exact ⟨_, rfl, wp, _, 0, .str "refuse", rfl, rfl, SqL.of (s4 _ _ w3), w0, rfl, _, rfl, ifF (by rw [dec_strV]; decide) (ifF rfl stay)⟩
        rintro σ' H5 ⟨acA, ns', v', x8, x9, x10, x12, x13, x14, x15, rfl, gr5, st5, ha5, hn5, hv5⟩
        refine ⟨fun σ' H' => ∃ wd : Str, wd ∈ (["yes", "no"] : List Str) ∧ H' = H5 ∧ σ' = [some (.ref pb), some (.ref pr), some (.ref s), some (.str (Ev.refuse.str N)), some (.ref wp), some (.ref g), some .non, some (.ref acA), x8, x9, x10, some (.int ((Z.fates.length + 1 : Nat) : Int)), some (.str wd), x13, x14, x15], ?_, ?_⟩
        · refine ⟨_, rfl, _, rfl, acA, _, rfl, .inl (SqL.of ha5), rfl, flat_inL _, _, rfl, ite2 (fun _ => ⟨"yes", by decide, rfl, rfl⟩) (fun _ => ⟨"no", by decide, rfl, rfl⟩)⟩
        rintro σ' H5' ⟨wd, hwd, rfl, rfl⟩
        obtain ⟨b1, b2, b3, b4, b5, c1, ⟨fc, v1, v2, v3⟩, c3, c4, c5, c6⟩ := id st5.ex
        refine ⟨_, rfl, s, _, rfl, dgetS c1 rfl, _, rfl, _, rfl, s, _, rfl, dgetS c1 rfl, _, rfl, (by show 3 ≤ sizeLine; decide), fun t ht => ?_⟩
        have s6 := same_new (H := H5') (p := t) (o := HO.tup [.str wd, .str (N.v v'), .ref acA]) ht; have t6 : (upd H5' t (HO.tup [.str wd, .str (N.v v'), .ref acA])) t = some (HO.tup [.str wd, .str (N.v v'), .ref acA]) := upd_same; generalize upd H5' t (HO.tup [.str wd, .str (N.v v'), .ref acA]) = H6 at s6 t6 ⊢
        refine ⟨(by show 1 ≤ sizeLine; decide), fun q hq => ?_⟩
        have s7 := same_new (H := H6) (p := q) (o := HO.lst [.ref t]) hq; have q7 : (upd H6 q (HO.lst [.ref t])) q = some (HO.lst [.ref t]) := upd_same; generalize upd H6 q (HO.lst [.ref t]) = H7 at s7 q7 ⊢
        have t57 := s6.trans s7
        have hfl : fc.length = Z.fates.length := v2
        refine ⟨b1, q, _, _, rfl, rfl, t57 _ _ v1, q7, small (by rw [List.length_map]; show _ + 1 ≤ _; omega), fun rr hrr => ?_⟩
        have s8 := same_new (H := H7) (p := rr) (o := HO.lst (fc.map V.ref ++ [.ref t])) hrr; have rr8 : (upd H7 rr (HO.lst (fc.map V.ref ++ [.ref t]))) rr = some (HO.lst (fc.map V.ref ++ [.ref t])) := upd_same; generalize upd H7 rr (HO.lst (fc.map V.ref ++ [.ref t])) = H8 at s8 rr8 ⊢
        have t58 := t57.trans s8
        refine ⟨_, rfl, s, _, rfl, dp_fa (t58 _ _ c1), ?_⟩
        have k9 := (Kp.refl (a := s) (H := H8)).put (o := .dK (stK g (.str (N.v v')) rr b2 b3 b4 b5))
        have lk9 := ((st5.mono t58).lk_s k9).1
        refine ⟨acA, ns', _, _, _, _, _, _, _, _, _, { Z with value := v', fates := Z.fates ++ [⟨wd, v', inL ns'⟩] }, rfl, (gr5.trans (.of t58)).trans (Gr.kp k9 (by simp)), (st5.mono t58).write (Z' := { Z with value := v', fates := Z.fates ++ [⟨wd, v', inL ns'⟩] }) k9 rfl upd_same (fatesL_add (f := ⟨wd, v', inL ns'⟩) v2 v3 ((LK.of t58).trans lk9) (lk9.l _ _ rr8) (lk9.t _ _ (s8 _ _ (s7 _ _ t6))) (lk9.l _ _ (t58 _ _ ha5))) (lk9.l _ _ (t58 _ _ c3)) ((c4.kept (.of t58)).kept lk9) (lk9.l _ _ (t58 _ _ c5)) (lk9.l _ _ (t58 _ _ c6)), lk9.l _ _ (t58 _ _ ha5), hn5, { ok0 with v := hv5, f := fun f hf => ?_, fk := ?_ }, rfl, ?_, rfl, rfl⟩
        · rcases List.mem_append.mp hf with c | c
          · exact ok0.f f c
          · obtain rfl : f = ⟨wd, v', inL ns'⟩ := by simpa using c
            exact ⟨hv5, by show (inL ns').length ≤ _; rw [inL_len]; omega, hwd⟩
        · show (Z.fates ++ [_]).length ≤ Z.L.kinds.length
          rw [List.length_append]
          exact hlt
        · show (Z.fates ++ [_]).length = Z.fates.length + 1
          rw [List.length_append]
          rfl
      | answer n =>
        obtain ⟨n1, n2, n3, n4⟩ := hfe
        have n2' : n ≤ Z.fates.length := n2
        obtain ⟨i1, i2, _⟩ := num_ok n (by omega)
        have w1 : atI (stL ((Ev.answer n).words N)) 1 = some (.str (numS n)) := rfl
        refine ⟨_, rfl, wp, _, 0, .str "answer", rfl, rfl, SqL.of w2, w0, rfl, _, rfl, ifF (by rw [dec_strV]; decide) ?_⟩
        refine ⟨_, rfl, wp, _, 0, .str "answer", rfl, rfl, SqL.of w2, w0, rfl, _, rfl, ifF (by rw [dec_strV]; decide) ?_⟩
        refine ⟨_, rfl, wp, _, 0, .str "answer", rfl, rfl, SqL.of w2, w0, (by show 2 ≤ sizeLine; decide), fun p3 hp3 => ?_⟩
        have s3 := same_new (H := H2) (p := p3) (o := HO.tup [.str "serve", .str "refuse"]) hp3; have p33 : (upd H2 p3 (HO.tup [.str "serve", .str "refuse"])) p3 = some (HO.tup [.str "serve", .str "refuse"]) := upd_same; generalize upd H2 p3 (HO.tup [.str "serve", .str "refuse"]) = H3 at s3 p33 ⊢
        refine ⟨p3, twoP, rfl, .inr (SqT.of p33), rfl, rfl, _, rfl, ifF rfl ?_⟩
        have w3 := s3 _ _ w2
        refine ⟨_, rfl, wp, _, 0, .str "answer", rfl, rfl, SqL.of w3, w0, rfl, _, rfl, ifT (by rw [dec_strV]; decide) ?_⟩
        refine ⟨_, rfl, wp, _, 1, _, rfl, rfl, SqL.of w3, w1, _, (n : Int), rfl, i2, Nat.le_trans i1 (by decide), ?_⟩
        have hfa : fb[n - 1]? = some fb[n - 1] := List.getElem?_eq_getElem (by omega)
        have hff : Z.fates[n - 1]? = some Z.fates[n - 1] := List.getElem?_eq_getElem (by omega)
        obtain ⟨q, x1, x2⟩ := u3 _ _ _ hfa hff
        have hfo := hok.f _ (List.mem_of_getElem? hff)
        generalize Z.fates[n - 1] = f at x1 x2 hfo hff
        generalize fb[n - 1] = pf at x1 hfa
        have hat : atI (fb.map V.ref) ((n : Int) - 1) = some (.ref pf) := by
          rw [int_pred n1]
          exact atI_nat (map_at hfa)
        refine ⟨_, rfl, s, _, rfl, dgetS (s3 _ _ d1) rfl, _, rfl, _, _, rfl, rfl, bf, _, _, _, rfl, rfl, SqL.of (s3 _ _ u1), hat, pf, _, rfl, SqT.of (s3 _ _ x1), rfl, _, _, rfl, _, _, rfl, _, _, rfl, rfl, ?_⟩
        refine ⟨_, rfl, s, _, rfl, dgetS (s3 _ _ d1) rfl, _, rfl, (by show 1 ≤ sizeLine; decide), fun q4 hq4 => ?_⟩
        have s4 := same_new (H := H3) (p := q4) (o := HO.lst [.int (n : Nat)]) hq4; have q44 : (upd H3 q4 (HO.lst [.int (n : Nat)])) q4 = some (HO.lst [.int (n : Nat)]) := upd_same; generalize upd H3 q4 (HO.lst [.int (n : Nat)]) = H4 at s4 q44 ⊢
        have t24 := s3.trans s4
        refine ⟨bc, q4, _, _, rfl, rfl, t24 _ _ d3, q44, small (by rw [inL_len]; show _ + 1 ≤ _; omega), fun rr hrr => ?_⟩
        have en : inL Z.come ++ [.int (n : Nat)] = inL (Z.come ++ [n]) := by unfold inL; rw [List.map_append]; rfl
        rw [en]
        have s5 := same_new (o := HO.lst (inL (Z.come ++ [n]))) hrr
        have rr5 : (upd H4 rr (.lst (inL (Z.come ++ [n])))) rr = _ := upd_same
        generalize upd H4 rr (.lst (inL (Z.come ++ [n]))) = H5 at s5 rr5 ⊢
        have t25 := t24.trans s5
        have st5 := st2.mono t25
        refine ⟨_, rfl, s, _, rfl, dp_co (t25 _ _ d1), ?_⟩
        have k6 := (Kp.refl (a := s) (H := H5)).put (o := .dK (stK g (.str (N.v Z.value)) bf rr bm bsh bd))
        have lk6 := (st5.lk_s k6).1
        have lk26 := (LK.of t25).trans lk6
        have st6 : StL (upd H5 s (.dK (stK g (.str (N.v Z.value)) bf rr bm bsh bd))) s g N { Z with come := Z.come ++ [n] } := st5.write (Z' := { Z with come := Z.come ++ [n] }) k6 rfl upd_same (FatesL.kept ⟨fb, u1, u2, u3⟩ lk26) (lk6.l _ _ rr5) (MomsL.kept ⟨ma, m1, m2, m3⟩ lk26) (lk26.l _ _ d5) (lk26.l _ _ d6)
        have gr6 : Gr [s, g] H (upd H5 s (.dK (stK g (.str (N.v Z.value)) bf rr bm bsh bd))) := (gr2.trans (.of t25)).trans (Gr.kp k6 (by simp))
        have hns6 := lk26.l _ _ hns
        have x26 := lk26.l _ _ x2
        generalize upd H5 s (.dK (stK g (.str (N.v Z.value)) bf rr bm bsh bd)) = H6 at st6 gr6 hns6 x26 ⊢
        refine ⟨_, rfl, _, rfl, _, rfl, _, rfl, _, rfl, _, rfl, _, rfl, (by show 5 ≤ sizeLine; decide), fun t ht => ?_⟩
        have s7 := same_new (H := H6) (p := t) (o := HO.tup [.str f.wd, .int (n : Nat), .str (N.v f.v), .int (n : Nat), .ref q]) ht; have t7 : (upd H6 t (HO.tup [.str f.wd, .int (n : Nat), .str (N.v f.v), .int (n : Nat), .ref q])) t = some (HO.tup [.str f.wd, .int (n : Nat), .str (N.v f.v), .int (n : Nat), .ref q]) := upd_same; generalize upd H6 t (HO.tup [.str f.wd, .int (n : Nat), .str (N.v f.v), .int (n : Nat), .ref q]) = H7 at s7 t7 ⊢
        have sF7 := (gr6.same sF nFm).trans s7
        have st7 := st6.mono s7
        obtain ⟨y1, y2, y3, y4, _⟩ := st7.p.ex
        have ntg : t ≠ g := ne_of t7 y4 (by intro q; cases q)
        have nqg : q ≠ g := ne_of (s7 _ _ x26) y4 (by intro q; cases q)
        refine ⟨_, rfl, (fun b => if b = g then none else H7 b), pb, pr, t, g, N, B, L, O, rows, f.wd, n, f.v, n, f.acc, M, Z.L, rfl, hb.mono (er_s sF7), hbk, hrf.mono (er_s sF7), hro, hrl, ⟨q, er_in t7 ntg, er_in (s7 _ _ x26) nqg⟩, er_H, er_g, hfo.2.1, hfo.1, fun _ => ⟨n1, by omega⟩, st7.p, hok.l, by omega, fun H8 L' x k8 p8 ok8 kk8 => ?_⟩
        obtain ⟨stN, lkN⟩ := st7.at_g k8 p8
        refine ⟨D, ns, x, _, _, _, _, _, _, _, _, { Z with come := Z.come ++ [n], L := L' }, rfl, (gr6.trans (.of s7)).trans (Gr.kp k8 (by simp)), stN, lkN.l _ _ (s7 _ _ hns6), nsM, { ok0 with l := ok8.up (by omega) (by omega), fk := ?_, cl := ?_ }, kk8, rfl, rfl, rfl⟩
        · show Z.fates.length ≤ L'.kinds.length
          rw [kk8]
          exact hfk
        · show (Z.come ++ [n]).length ≤ M + 20
          rw [List.length_append]
          show _ + 1 ≤ _
          omega
      | list m =>
        have hm : m < Z.moms.length := hfe.1
        have hm30 := hfe.2
        obtain ⟨i1, i2, _⟩ := num_ok m (by omega)
        have w1 : atI (stL ((Ev.list m).words N)) 1 = some (.str (numS m)) := rfl
        refine ⟨_, rfl, wp, _, 0, .str "list", rfl, rfl, SqL.of w2, w0, rfl, _, rfl, ifF (by rw [dec_strV]; decide) ?_⟩
        refine ⟨_, rfl, wp, _, 0, .str "list", rfl, rfl, SqL.of w2, w0, rfl, _, rfl, ifF (by rw [dec_strV]; decide) ?_⟩
        refine ⟨_, rfl, wp, _, 0, .str "list", rfl, rfl, SqL.of w2, w0, (by show 2 ≤ sizeLine; decide), fun p3 hp3 => ?_⟩
        have s3 := same_new (H := H2) (p := p3) (o := HO.tup [.str "serve", .str "refuse"]) hp3; have p33 : (upd H2 p3 (HO.tup [.str "serve", .str "refuse"])) p3 = some (HO.tup [.str "serve", .str "refuse"]) := upd_same; generalize upd H2 p3 (HO.tup [.str "serve", .str "refuse"]) = H3 at s3 p33 ⊢
        refine ⟨p3, twoP, rfl, .inr (SqT.of p33), rfl, rfl, _, rfl, ifF rfl ?_⟩
        have w3 := s3 _ _ w2
        refine ⟨_, rfl, wp, _, 0, .str "list", rfl, rfl, SqL.of w3, w0, rfl, _, rfl, ifF (by rw [dec_strV]; decide) ?_⟩
        have hfa : ma[m]? = some ma[m] := List.getElem?_eq_getElem (by omega)
        have hff : Z.moms[m]? = some Z.moms[m] := List.getElem?_eq_getElem hm
        obtain ⟨q, x1, x2⟩ := m3 _ _ _ hfa hff
        have hfo := hok.m _ (List.mem_of_getElem? hff)
        generalize Z.moms[m] = f at x1 x2 hfo hff
        generalize ma[m] = pf at x1 hfa
        have hat : atI (ma.map V.ref) (m : Int) = some (.ref pf) := atI_nat (map_at hfa)
        refine ⟨_, rfl, s, _, rfl, dgetS (s3 _ _ d1) rfl, _, rfl, wp, _, 1, _, rfl, rfl, SqL.of w3, w1, _, (m : Int), rfl, i2, Nat.le_trans i1 (by decide), bm, _, _, _, rfl, rfl, SqL.of (s3 _ _ m1), hat, pf, _, rfl, SqT.of (s3 _ _ x1), rfl, _, _, rfl, _, _, rfl, _, _, rfl, rfl, ?_⟩
        refine ⟨_, rfl, _, rfl, _, rfl, _, rfl, _, rfl, (by show 5 ≤ sizeLine; decide), fun t ht => ?_⟩
        have s7 := same_new (H := H3) (p := t) (o := HO.tup [.str "list", .int 0, .str (N.v f.v), .int (f.r : Nat), .ref q]) ht; have t7 : (upd H3 t (HO.tup [.str "list", .int 0, .str (N.v f.v), .int (f.r : Nat), .ref q])) t = some (HO.tup [.str "list", .int 0, .str (N.v f.v), .int (f.r : Nat), .ref q]) := upd_same; generalize upd H3 t (HO.tup [.str "list", .int 0, .str (N.v f.v), .int (f.r : Nat), .ref q]) = H7 at s7 t7 ⊢
        have t27 := s3.trans s7
        have sF7 := sF2.trans t27
        have st7 := st2.mono t27
        obtain ⟨y1, y2, y3, y4, _⟩ := st7.p.ex
        have ntg : t ≠ g := ne_of t7 y4 (by intro q; cases q)
        have nqg : q ≠ g := ne_of (t27 _ _ x2) y4 (by intro q; cases q)
        refine ⟨_, rfl, (fun b => if b = g then none else H7 b), pb, pr, t, g, N, B, L, O, rows, "list", 0, f.v, f.r, f.acc, M, Z.L, rfl, hb.mono (er_s sF7), hbk, hrf.mono (er_s sF7), hro, hrl, ⟨q, er_in t7 ntg, er_in (t27 _ _ x2) nqg⟩, er_H, er_g, hfo.2, hfo.1, fun h => absurd rfl h, st7.p, hok.l, by omega, fun H8 L' x k8 p8 ok8 kk8 => ?_⟩
        obtain ⟨stN, lkN⟩ := st7.at_g k8 p8
        refine ⟨D, ns, x, _, _, _, _, _, _, _, _, { Z with L := L' }, rfl, (gr2.trans (.of t27)).trans (Gr.kp k8 (by simp)), stN, lkN.l _ _ (t27 _ _ hns), nsM, { ok0 with l := ok8.up (by omega) (by omega), fk := ?_ }, kk8, rfl, rfl, rfl⟩
        show Z.fates.length ≤ L'.kinds.length
        rw [kk8]
        exact hfk
    · rintro σ' H3 ⟨acA, ns3, x6, x8, x9, x10, x11, x12, x13, x14, x15, Z1, rfl, gr3, st3, ha3, hn3, ok3, q1, q2, q3, q4⟩
      -- moments
      obtain ⟨bf, bc, bm, bsh, bd, d1, ⟨fb, u1, u2, u3⟩, d3, ⟨ma, m1, m2, m3⟩, d5, d6⟩ := id st3.ex
      have l7 : ∀ {v : V} {a b c d e : Addr}, (stK g v a b c d e).length < sizeLine := fun {_ _ _ _ _ _} => by show 7 < sizeLine; decide
      have hml := ok3.ml
      have hsl := ok3.sl
      have hdl := ok3.dl
      refine ⟨_, rfl, s, _, rfl, dgetS d1 rfl, ?_⟩
      refine ⟨_, rfl, s, _, rfl, dgetS d1 rfl, _, rfl, s, _, rfl, dgetS d1 rfl, bf, _, rfl, .inl (SqL.of u1), _, rfl, (by show 3 ≤ sizeLine; decide), fun t ht => ?_⟩
      rw [List.length_map, u2]
      have s4 := same_new (H := H3) (p := t) (o := HO.tup [.str (N.v Z1.value), .int (Z1.fates.length : Nat), .ref acA]) ht; have t4 : (upd H3 t (HO.tup [.str (N.v Z1.value), .int (Z1.fates.length : Nat), .ref acA])) t = some (HO.tup [.str (N.v Z1.value), .int (Z1.fates.length : Nat), .ref acA]) := upd_same; generalize upd H3 t (HO.tup [.str (N.v Z1.value), .int (Z1.fates.length : Nat), .ref acA]) = H4 at s4 t4 ⊢
      refine ⟨(by show 1 ≤ sizeLine; decide), fun q hq => ?_⟩
      have s5 := same_new (H := H4) (p := q) (o := HO.lst [.ref t]) hq; have q5 : (upd H4 q (HO.lst [.ref t])) q = some (HO.lst [.ref t]) := upd_same; generalize upd H4 q (HO.lst [.ref t]) = H5 at s5 q5 ⊢
      have t35 := s4.trans s5
      refine ⟨bm, q, _, _, rfl, rfl, t35 _ _ m1, q5, small (by rw [List.length_map]; show _ + 1 ≤ _; omega), fun rr hrr => ?_⟩
      have s6 := same_new (H := H5) (p := rr) (o := HO.lst (ma.map V.ref ++ [.ref t])) hrr; have rr6 : (upd H5 rr (HO.lst (ma.map V.ref ++ [.ref t]))) rr = some (HO.lst (ma.map V.ref ++ [.ref t])) := upd_same; generalize upd H5 rr (HO.lst (ma.map V.ref ++ [.ref t])) = H6 at s6 rr6 ⊢
      have t36 := t35.trans s6
      refine ⟨_, rfl, s, _, rfl, dp_mo (t36 _ _ d1), ?_⟩
      have k7 := (Kp.refl (a := s) (H := H6)).put (o := .dK (stK g (.str (N.v Z1.value)) bf bc rr bsh bd))
      have e7 : (upd H6 s (.dK (stK g (.str (N.v Z1.value)) bf bc rr bsh bd))) s = _ := upd_same
      have lk7 := ((st3.mono t36).lk_s k7).1
      have st7 : StL (upd H6 s (.dK (stK g (.str (N.v Z1.value)) bf bc rr bsh bd))) s g N { Z1 with moms := Z1.moms ++ [⟨Z1.value, Z1.fates.length, inL ns3⟩] } :=
        (st3.mono t36).write (Z' := { Z1 with moms := Z1.moms ++ [⟨Z1.value, Z1.fates.length, inL ns3⟩] }) k7 rfl e7 ((FatesL.kept ⟨fb, u1, u2, u3⟩ (.of t36)).kept lk7) (lk7.l _ _ (t36 _ _ d3)) (momsL_add (f := ⟨Z1.value, Z1.fates.length, inL ns3⟩) m2 m3 ((LK.of t36).trans lk7) (lk7.l _ _ rr6) (lk7.t _ _ (s6 _ _ (s5 _ _ t4))) (lk7.l _ _ (t36 _ _ ha3))) (lk7.l _ _ (t36 _ _ d5)) (lk7.l _ _ (t36 _ _ d6))
      have gr7 : Gr [s, g] H (upd H6 s (.dK (stK g (.str (N.v Z1.value)) bf bc rr bsh bd))) := (gr3.trans (.of t36)).trans (Gr.kp k7 (by simp))
      generalize upd H6 s (.dK (stK g (.str (N.v Z1.value)) bf bc rr bsh bd)) = H7 at k7 e7 lk7 st7 gr7 ⊢
      -- shown
      have sF7 := gr7.same sF nFm
      refine ⟨_, rfl, s, _, rfl, dgetS e7 rfl, _, rfl, _, rfl, pb, g, N, B, L, O, M + 20, _, rfl, hb.mono sF7, hbk, st7.p, ok3.l, fun H8 j s8 hj => ?_⟩
      refine ⟨(by show 1 ≤ sizeLine; decide), fun q9 hq9 => ?_⟩
      have s9 := same_new (H := H8) (p := q9) (o := HO.lst [.str (N.v j)]) hq9; have q99 : (upd H8 q9 (HO.lst [.str (N.v j)])) q9 = some (HO.lst [.str (N.v j)]) := upd_same; generalize upd H8 q9 (HO.lst [.str (N.v j)]) = H9 at s9 q99 ⊢
      have t79 := s8.trans s9
      refine ⟨bsh, q9, Z1.shown, _, rfl, rfl, t79 _ _ (lk7.l _ _ (t36 _ _ d5)), q99, small (by show _ + 1 ≤ _; omega), fun r10 hr10 => ?_⟩
      have s10 := same_new (H := H9) (p := r10) (o := HO.lst (Z1.shown ++ [.str (N.v j)])) hr10; have r1010 : (upd H9 r10 (HO.lst (Z1.shown ++ [.str (N.v j)]))) r10 = some (HO.lst (Z1.shown ++ [.str (N.v j)])) := upd_same; generalize upd H9 r10 (HO.lst (Z1.shown ++ [.str (N.v j)])) = H10 at s10 r1010 ⊢
      have t710 := t79.trans s10
      refine ⟨_, rfl, s, _, rfl, dp_sh (t710 _ _ e7), ?_⟩
      have k11 := (Kp.refl (a := s) (H := H10)).put (o := .dK (stK g (.str (N.v Z1.value)) bf bc rr r10 bd))
      have e11 : (upd H10 s (.dK (stK g (.str (N.v Z1.value)) bf bc rr r10 bd))) s = _ := upd_same
      have st10 := st7.mono t710
      have lk11 := (st10.lk_s k11).1
      obtain ⟨_, _, _, _, _, y1, y2, y3, y4, y5, y6⟩ := id st10.ex
      have y1' := (t710 _ _ e7).symm.trans y1
      have y7 := HO.dK.inj (Option.some.inj y1')
      injection y7 with z1 z2
      injection z2 with z3 z4
      injection z4 with z5 z6
      injection z6 with z7 z8
      injection z8 with z9 z10
      injection z10 with z11 z12
      injection z12 with z13 z14
      injection z5 with z5a z5b
      injection z7 with z7a z7b
      injection z9 with z9a z9b
      injection z13 with z13a z13b
      injection z5b with z5c
      injection z7b with z7c
      injection z9b with z9c
      injection z13b with z13c
      subst z5c z7c z9c z13c
      have st11 : StL (upd H10 s (.dK (stK g (.str (N.v Z1.value)) bf bc rr r10 bd))) s g N { Z1 with moms := Z1.moms ++ [⟨Z1.value, Z1.fates.length, inL ns3⟩], shown := Z1.shown ++ [.str (N.v j)] } :=
        st10.write (Z' := { Z1 with moms := Z1.moms ++ [⟨Z1.value, Z1.fates.length, inL ns3⟩], shown := Z1.shown ++ [.str (N.v j)] }) k11 rfl e11 (y2.kept lk11) (lk11.l _ _ y3) (y4.kept lk11) (lk11.l _ _ r1010) (lk11.l _ _ y6)
      have y2' := y2.kept lk11
      have y3' := lk11.l _ _ y3
      have y4' := y4.kept lk11
      have y6' := lk11.l _ _ y6
      have r11 := lk11.l _ _ r1010
      have gr11 : Gr [s, g] H (upd H10 s (.dK (stK g (.str (N.v Z1.value)) bf bc rr r10 bd))) := (gr7.trans (.of t710)).trans (Gr.kp k11 (by simp))
      generalize upd H10 s (.dK (stK g (.str (N.v Z1.value)) bf bc rr r10 bd)) = H11 at k11 e11 lk11 st11 gr11 y2' y3' y4' y6' r11 ⊢
      -- done
      refine ⟨_, rfl, s, _, rfl, dgetS e11 rfl, _, rfl, (by show 1 ≤ sizeLine; decide), fun q12 hq12 => ?_⟩
      have s12 := same_new (H := H11) (p := q12) (o := HO.lst [x6]) hq12; have q1212 : (upd H11 q12 (HO.lst [x6])) q12 = some (HO.lst [x6]) := upd_same; generalize upd H11 q12 (HO.lst [x6]) = H12 at s12 q1212 ⊢
      refine ⟨bd, q12, Z1.done, _, rfl, rfl, s12 _ _ y6', q1212, small (by show _ + 1 ≤ _; omega), fun r13 hr13 => ?_⟩
      have s13 := same_new (H := H12) (p := r13) (o := HO.lst (Z1.done ++ [x6])) hr13; have r1313 : (upd H12 r13 (HO.lst (Z1.done ++ [x6]))) r13 = some (HO.lst (Z1.done ++ [x6])) := upd_same; generalize upd H12 r13 (HO.lst (Z1.done ++ [x6])) = H13 at s13 r1313 ⊢
      have t1113 := s12.trans s13
      refine ⟨_, rfl, s, _, rfl, dp_do (t1113 _ _ e11), ?_⟩
      have k14 := (Kp.refl (a := s) (H := H13)).put (o := .dK (stK g (.str (N.v Z1.value)) bf bc rr r10 r13))
      have st13 := st11.mono t1113
      have lk14 := (st13.lk_s k14).1
      have okM := ok3.up (M' := M + 30) (by omega) (by omega)
      refine k _ { Z1 with moms := Z1.moms ++ [⟨Z1.value, Z1.fates.length, inL ns3⟩], shown := Z1.shown ++ [.str (N.v j)], done := Z1.done ++ [x6] } ((gr11.trans (.of t1113)).trans (Gr.kp k14 (by simp)))
        (st13.write (Z' := { Z1 with moms := Z1.moms ++ [⟨Z1.value, Z1.fates.length, inL ns3⟩], shown := Z1.shown ++ [.str (N.v j)], done := Z1.done ++ [x6] }) k14 rfl upd_same ((y2'.kept (.of t1113)).kept lk14) (lk14.l _ _ (t1113 _ _ y3')) ((y4'.kept (.of t1113)).kept lk14) (lk14.l _ _ (t1113 _ _ r11)) (lk14.l _ _ r1313)) ?_ ?_
      · refine { okM with m := fun m hm => ?_, ml := ?_, sl := ?_, dl := ?_ }
        · rcases List.mem_append.mp hm with c | c
          · exact okM.m m c
          · obtain rfl : m = ⟨Z1.value, Z1.fates.length, inL ns3⟩ := by simpa using c
            refine ⟨ok3.v, ?_⟩
            show (inL ns3).length ≤ M + 30
            rw [inL_len]
            omega
        · show (Z1.moms ++ [_]).length ≤ M + 30
          rw [List.length_append]
          show _ + 1 ≤ _
          omega
        · show (Z1.shown ++ [_]).length ≤ M + 30
          rw [List.length_append]
          show _ + 1 ≤ _
          omega
        · show (Z1.done ++ [_]).length ≤ M + 30
          rw [List.length_append]
          show _ + 1 ≤ _
          omega
      · have e4 : (Z1.moms ++ [(⟨Z1.value, Z1.fates.length, inL ns3⟩ : LM)]).length = (stepSk Z.sk e).nm := by
          rw [List.length_append, q4]
          cases e <;> rfl
        show Sk.mk Z1.L.kinds Z1.fates.length Z1.come (Z1.moms ++ [(⟨Z1.value, Z1.fates.length, inL ns3⟩ : LM)]).length = _
        rw [e4, q1, q2, q3]
end
end Hp
set_option Elab.async false
set_option linter.all false
set_option maxRecDepth 100000
set_option maxHeartbeats 4000000
namespace Hp
open PySem PySem.Spec PyProof.Rows L2
def okE (N : Nm) (B : IB) (Z : LS) (e : Ev) : Prop := feas N B Z.sk e ∧ ∀ i, e = .click i → Z.L.kinds.length < 8
structure EvsAt (F F' : L2.Hp) (a : Addr) (N : Nm) (B : IB) (Z : LS) (c : Nat) : Prop where
  ex : ∃ evs : List Ev, F' a = some (.lst (stL (evs.map (Ev.str N)))) ∧ (∀ e ∈ evs, okE N B Z e) ∧ 0 < evs.length ∧ evs.length ≤ c
  n : F a = none
theorem rep_evs (N : Nm) (e : Ev) : ∀ n : Nat, (List.replicate n [V.str (e.str N)]).flatten = stL ((List.replicate n e).map (Ev.str N))
  | 0 => rfl
  | n + 1 => by
    rw [List.replicate_succ, List.replicate_succ, List.flatten_cons, rep_evs N e n]
    rfl
theorem evs_new {F F' H' : L2.Hp} {d ce r : Addr} {N : Nm} {B : IB} {Z : LS} {c : Nat} (D : Dl F' H' d ce) (S : Same F F') (hr : H' r = none) (evs : List Ev) (ok : ∀ e ∈ evs, okE N B Z e) (h0 : 0 < evs.length) (hc : evs.length ≤ c) :
    Same F (upd F' r (.lst (stL (evs.map (Ev.str N))))) ∧ Dl (upd F' r (.lst (stL (evs.map (Ev.str N))))) (upd H' r (.lst (stL (evs.map (Ev.str N))))) d ce ∧ EvsAt F (upd F' r (.lst (stL (evs.map (Ev.str N))))) r N B Z c := by
  refine ⟨S.trans (D.snew hr), D.new hr, ⟨evs, upd_same, ok, h0, hc⟩, ?_⟩
  cases e : F r with
  | none => rfl
  | some o => rw [D.s _ _ (S _ _ e)] at hr; cases hr
theorem ok_app {N : Nm} {B : IB} {Z : LS} {evs : List Ev} {e : Ev} {n : Nat} (h : ∀ e ∈ evs, okE N B Z e) (he : okE N B Z e) : ∀ x ∈ evs ++ List.replicate n e, okE N B Z x := fun x hx => by
  rcases List.mem_append.mp hx with c | c
  · exact h x c
  · rw [(List.mem_replicate.mp c).2]
    exact he
section
variable {P : Program} {w : World} {K : PySem.W.Frag} {mg : Str → Option Value} {base : Heap}
def spNext (K : PySem.W.Frag) : Sp := fun vs H Q _ => ∃ (F : L2.Hp) (d ce pb s g : Addr) (N : Nm) (B : IB) (L O : List Nat) (M : Nat) (Z : LS), vs = [.ref d, .ref pb, .ref s] ∧ Dl F H d ce ∧ BookF F pb N B L O ∧ BkOk N B L O ∧ StL F s g N Z ∧ Z.Ok N M ∧ 0 < Z.moms.length ∧ Z.moms.length ≤ 30 ∧
  ∀ F' H' e, Same F F' → Dl F' H' d ce → okE N B Z e → Q (.str (e.str N)) H'
theorem h_l_next (C : Ctx K mg) : ∃ fd, Has P w K mg base 2 (He.fAd K ("_law_next", none)) ["_law_deal_here", "_law_book_here", "_law_state"] (spNext K) fd := by
  obtain ⟨fdD, GD⟩ := h_l_draw (P := P) (w := w) (base := base) C
  refine has_of C.fn_l_next sc_l_next (fun vs H Q E h => ?_) (fun cdv A outer s0 H vs Q E hr h => ?_)
  · obtain ⟨F, d, ce, pb, s, g, N, B, L, O, M, Z, rfl, _⟩ := h
    rfl
  · obtain ⟨F, d, ce, pb, s, g, N, B, L, O, M, Z, rfl, hD, ⟨as_, bk, al, bo, b0, b1, ⟨ps, ta, b2, b3⟩, b4, b5⟩, hbk, hst, hok, hm0, hm30, k⟩ := h
    have nd := sc_l_next.nd
    have hu := hu_of hr
    have hN := hbk.n
    have hk3 := hN.k3
    have hfk := hok.fk
    have hkl := hok.l.kl
    have hll := hbk.ll
    have holl := hbk.ol
    obtain ⟨ao, ak, ah, g1, g2, g3, g4⟩ := id hst.p.ex
    obtain ⟨bf, bc, bm, bsh, bd, d1, ⟨fb, u1, u2, u3⟩, d3, ⟨ma, m1, m2, m3⟩, d5, d6⟩ := id hst.ex
    have z0 : ([] : List V).length ≤ sizeLine := Nat.zero_le _
    have tb : ∀ {a b c d : Addr} (i : Nat), atI [V.ref a, V.ref b, V.ref c, V.ref d] (i : Int) = [V.ref a, V.ref b, V.ref c, V.ref d][i]? := fun {a b c d} i => by
      unfold atI ixN
      rw [if_pos (by omega)]
      split
      · rw [Int.toNat_natCast]; rfl
      · rename_i h
        rw [List.getElem?_eq_none (by show 4 ≤ i; have h' : ¬ ((i : Int) < ((4 : Nat) : Int)) := h; omega)]
        rfl
    refine ⟨_, (pss_cons (ps_par (i := 3) (j := 4) rfl nd rfl rfl (by decide) rfl rfl (pa_cons (pe_lc (own := [("_law_name", 5), ("_law_targets", 6)]) (g := gTup K 2 (gCons (gName 5) (gCons (gName 6) (gNil)))) (tt := tYes) rfl nd (pi_list (pe_ix ix_tup (pv 1) pe_int (fun _ _ => rfl))) (blkOk_by (N := N_l_next) (sc := defScope s_l_next) (by decide +kernel)) (fun _ _ _ _ _ => (pg_tup rfl (pgs_cons (pg_name (i := 5) nd rfl (Or.inl rfl)) (pgs_cons (pg_name (i := 6) nd rfl (Or.inl rfl)) pgs_nil)))) (fun _ _ _ _ _ => pts_nil) (fun _ _ _ _ _ => pv 5)) (pa_cons (pe_dget hu (pv 2) pe_str (fun _ _ => rfl)) pa_nil)) rfl) (pss_cons (ps_set (i := 7) nd rfl (Or.inl rfl) (pe_lst (pa_cons (pe_op op_add_str pe_str (pe_callTy call_str_int (by rfl) C.f_str boot_str (pa_cons (pe_sub (pe_callB call_len_seq (by rfl) C.f_len boot_len (pa_cons (pe_dget hu (pv 2) pe_str (fun _ _ => rfl)) pa_nil)) pe_int) pa_nil))) (pa_cons (pe_op op_add_str pe_str (pe_callTy call_str_int (by rfl) C.f_str boot_str (pa_cons (pe_call GD.ok (hr.mono (by decide)) (by rfl) C.g_l_draw GD.kp GD.b .nil pass0 (pa_cons (pv 0) (pa_cons (pe_callB call_len_seq (by rfl) C.f_len boot_len (pa_cons (pe_dget hu (pv 2) pe_str (fun _ _ => rfl)) pa_nil)) pa_nil))) pa_nil))) pa_nil)))) (C8.pss_cut (ps_if (PW.pt (pw_and (pt_cmpR (op_neD hr.units) (pv 3) (pe_lst pa_nil) (nomark _)) (pw_and1 (pt_cmpR op_lt (pe_callB call_len_seq (by rfl) C.f_len boot_len (pa_cons (pe_dget hu (pv 4) pe_str (fun _ _ => rfl)) pa_nil)) pe_int (nomark _))))) (pss_one (ps_set (i := 7) nd rfl (Or.inl rfl) (pe_op op_cat (pv 7) (pe_op op_rep (pe_lst (pa_cons (pe_op op_add_str pe_str (pe_ix ix_list (pv 3) (pe_call GD.ok (hr.mono (by decide)) (by rfl) C.g_l_draw GD.kp GD.b .nil pass0 (pa_cons (pv 0) (pa_cons (pe_callB call_len_seq (by rfl) C.f_len boot_len (pa_cons (pv 3) pa_nil)) pa_nil))) (fun _ _ => rfl))) pa_nil)) pe_int)))) pss_nil) (C8.pss_cut (ps_if (pt_cmpR op_gt (pe_callB call_len_seq (by rfl) C.f_len boot_len (pa_cons (pe_dget hu (pv 4) pe_str (fun _ _ => rfl)) pa_nil)) (pe_callB call_len_seq (by rfl) C.f_len boot_len (pa_cons (pe_dget hu (pv 2) pe_str (fun _ _ => rfl)) pa_nil)) (nomark _)) (pss_cons (ps_set (i := 7) nd rfl (Or.inl rfl) (pe_op op_cat (pv 7) (pe_op op_rep (pe_lst (pa_cons pe_str pa_nil)) pe_int))) (pss_one (ps_if (pt_cmpR op_in_seq (pe_ix ix_list (pe_dget hu (pv 4) pe_str (fun _ _ => rfl)) (pe_callB call_len_seq (by rfl) C.f_len boot_len (pa_cons (pe_dget hu (pv 2) pe_str (fun _ _ => rfl)) pa_nil)) (fun _ _ => rfl)) (pe_ix ix_tup (pv 1) pe_int (fun _ _ => rfl)) (by rfl)) (pss_one (ps_expr (pe_bm PySem.F.plainAttrs_list PySem.F.slot_list_append PySem.F.type_list_append mt_append (pv 7) (pa_cons pe_str pa_nil)))) pss_nil))) pss_nil) (pss_cons (ps_for PassesOwn.never rfl (pi_range2 (by rfl) C.f_range (pa_cons pe_int (pa_cons (pe_add (pe_callB call_len_seq (by rfl) C.f_len boot_len (pa_cons (pe_dget hu (pv 2) pe_str (fun _ _ => rfl)) pa_nil)) pe_int) pa_nil))) (pg_name (i := 8) nd rfl (Or.inl rfl)) (pss_one (ps_if (pt_cmpR op_notIn_seq (pv 8) (pe_dget hu (pv 2) pe_str (fun _ _ => rfl)) (by rfl)) (pss_one (ps_set (i := 7) nd rfl (Or.inl rfl) (pe_op op_cat (pv 7) (pe_op op_rep (pe_lst (pa_cons (pe_op op_add_str pe_str (pe_callTy call_str_int (by rfl) C.f_str boot_str (pa_cons (pv 8) pa_nil))) pa_nil)) pe_int)))) pss_nil))) (C8.pss_cut (ps_if (pt_cmpR (op_neD hr.units) (pe_ix ix_tup (pv 1) pe_int (fun _ _ => rfl)) (pe_lst pa_nil) (nomark _)) (pss_one (ps_expr (pe_bm PySem.F.plainAttrs_list PySem.F.slot_list_append PySem.F.type_list_append mt_append (pv 7) (pa_cons (pe_op op_add_str pe_str (pe_ix ix_list (pe_ix ix_tup (pv 1) pe_int (fun _ _ => rfl)) (pe_call GD.ok (hr.mono (by decide)) (by rfl) C.g_l_draw GD.kp GD.b .nil pass0 (pa_cons (pv 0) (pa_cons (pe_callB call_len_seq (by rfl) C.f_len boot_len (pa_cons (pe_ix ix_tup (pv 1) pe_int (fun _ _ => rfl)) pa_nil)) pa_nil))) (fun _ _ => rfl))) pa_nil)))) pss_nil) (pss_one (ps_ret (pe_ix ix_list (pv 7) (pe_call GD.ok (hr.mono (by decide)) (by rfl) C.g_l_draw GD.kp GD.b .nil pass0 (pa_cons (pv 0) (pa_cons (pe_callB call_len_seq (by rfl) C.f_len boot_len (pa_cons (pv 7) pa_nil)) pa_nil))) (fun _ _ => rfl)))))))))), ?_⟩
    have sF := hD.s
    have tb1 : atI [V.ref as_, V.ref bk, V.ref al, V.ref bo] 1 = some (.ref bk) := tb 1
    have tb2 : atI [V.ref as_, V.ref bk, V.ref al, V.ref bo] 2 = some (.ref al) := tb 2
    have tb3 : atI [V.ref as_, V.ref bk, V.ref al, V.ref bo] 3 = some (.ref bo) := tb 3
    refine ⟨_, rfl, pb, _, 1, _, rfl, rfl, SqT.of (sF _ _ b0), tb1, bk, rfl, ⟨_, SqL.of (sF _ _ b2)⟩, fun D hDn => ?_⟩
    refine lc_m walk_list (List.range N.nk) (List.length_map ..) (small (by rw [List.length_range]; omega)) (fun i => .str (N.k i)) hDn (fun H2 s2 => SqL.of (s2 _ _ (sF _ _ b2))) (fun i z x H2 H3 Qy Qn hi s2 y k1 => ?_) (fun H2 s2 hL => ?_)
    · obtain ⟨rfl, e2⟩ := y
      obtain rfl : x = .ref (ps z) := map_un (f := fun i => V.ref (ps i)) hi e2
      obtain ⟨rfl, hlt⟩ := range_is hi
      exact ⟨ps z, _, rfl, SqT.of (s2 _ _ (sF _ _ (b3 z hlt).1)), rfl, _, _, rfl, _, _, rfl, rfl, rfl, yesT ⟨_, rfl, k1 _ (Same.refl _)⟩⟩
    have hL2 : H2 D = some (.lst (stL N.ks)) := by rw [hL]; unfold stL Nm.ks; rw [List.map_map]; rfl
    -- the names are put into the frozen part
    obtain ⟨F2, S2, D2, fD⟩ : ∃ F2, Same F F2 ∧ Dl F2 H2 d ce ∧ F2 D = some (.lst (stL N.ks)) := by
      have q := hD.mono s2
      refine ⟨upd F D (.lst (stL N.ks)), hD.snew hDn, ⟨fun b o e => ?_, ?_, ?_, q.da⟩, upd_same⟩
      · by_cases hb : b = D
        · subst hb
          rw [upd_same] at e
          rw [hL2, ← e]
        · rw [upd_ne hb] at e
          exact q.s _ _ e
      · obtain ⟨⟨o, e⟩, _⟩ := hD.some
        rw [upd_ne (ne_of_none e hDn)]
        exact hD.nd
      · obtain ⟨_, ⟨o, e⟩⟩ := hD.some
        rw [upd_ne (ne_of_none e hDn)]
        exact hD.nc
    have h1 := D2.s _ _ (S2 _ _ d1)
    have hmm := D2.s _ _ (S2 _ _ m1)
    refine ⟨_, rfl, s, _, rfl, dgetS h1 rfl, ⟨_, _, rfl, ?_⟩⟩
    have ln : ∀ n : Nat, n < 31 → (numS n).length ≤ 4 := fun n hn => (num_ok n hn).1
    have lg : ∀ n : Nat, n < 31 → ((n : Nat) : Int).natAbs.log2 < 1920 := fun n hn => Nat.lt_of_le_of_lt (Nat.log2_le_self _) (by show n < 1920; omega)
    have l1 : 1 ≤ sizeLine := by decide
    have fr : ∀ {b : Addr} {o : HO} {F' H' : L2.Hp}, F b = some o → Same F2 F' → Dl F' H' d ce → H' b = some o := fun {b o F' H'} e S D => D.s _ _ (S _ _ (S2 _ _ e))
    have hlk : ∀ z ∈ N.ks, PyData.canLay0 (.str z) = true := fun z hz => lay_w44 z (hN.kmem z hz)
    refine ⟨_, rfl, s, _, rfl, dgetS h1 rfl, bm, _, rfl, .inl (SqL.of hmm), _, _, rfl, rfl, ?_⟩
    rw [List.length_map, m2]
    dsimp only
    rw [show ((Z.moms.length : Nat) : Int) - 1 = ((Z.moms.length - 1 : Nat) : Int) by omega]
    refine ⟨_, rfl, lg _ (by omega), _, _, rfl, rfl, small (by show 5 + (numS (Z.moms.length - 1)).length ≤ _; have := ln (Z.moms.length - 1) (by omega); omega), ?_⟩
    refine ⟨_, rfl, _, rfl, s, _, rfl, dgetS h1 rfl, bm, _, rfl, .inl (SqL.of hmm), d, ce, Z.moms.length, (by rw [List.length_map, m2]; rfl), D2.da, hm0, by omega, fun H3 r3 gr3 da3 hr3 => ?_⟩
    have D3 := D2.gr gr3 da3
    refine ⟨_, rfl, lg r3 (by omega), _, _, rfl, rfl, small (by show 5 + (numS r3).length ≤ _; have := ln r3 (by omega); omega), (by show 2 ≤ sizeLine; decide), fun p4 hp4 => ?_⟩
    obtain ⟨S4, D4, E4⟩ := evs_new (N := N) (B := B) (Z := Z) (c := 2) D3 (Same.refl F2) hp4 [.list (Z.moms.length - 1), .list r3] (fun e he => by
      have he' : e = .list (Z.moms.length - 1) ∨ e = .list r3 := by simpa using he
      rcases he' with rfl | rfl
      · exact ⟨⟨by show Z.moms.length - 1 < Z.moms.length; omega, by omega⟩, fun i h => by cases h⟩
      · exact ⟨⟨hr3, by omega⟩, fun i h => by cases h⟩) (by show 0 < 2; decide) (by show 2 ≤ 2; decide)
    -- clicks
    refine ⟨fun σ' H' => ∃ (F' : L2.Hp) (a : Addr), σ' = [some (.ref d), some (.ref pb), some (.ref s), some (.ref D), some (.ref g), none, none, some (.ref a), none] ∧ Same F2 F' ∧ Dl F' H' d ce ∧ EvsAt F2 F' a N B Z 5, ?_, ?_⟩
    · have stay : ∀ {H5 : L2.Hp} {p : Addr}, H5 = upd (upd H3 p4 (.lst (stL ([Ev.list (Z.moms.length - 1), .list r3].map (Ev.str N))))) p (.lst []) → (upd H3 p4 (.lst (stL ([Ev.list (Z.moms.length - 1), .list r3].map (Ev.str N))))) p = none → ∃ (F' : L2.Hp) (a : Addr), [some (V.ref d), some (.ref pb), some (.ref s), some (.ref D), some (.ref g), none, none, some (.ref p4), none] = [some (V.ref d), some (.ref pb), some (.ref s), some (.ref D), some (.ref g), none, none, some (.ref a), none] ∧ Same F2 F' ∧ Dl F' H5 d ce ∧ EvsAt F2 F' a N B Z 5 := fun {H5 p} e hp => by
        subst e
        obtain ⟨evs, v1, v2, v3, v4⟩ := E4.ex
        exact ⟨_, p4, rfl, S4, D4.mono (same_new hp), ⟨evs, v1, v2, v3, by omega⟩, E4.n⟩
      refine ⟨_, rfl, z0, fun p5 hp5 => ne_nil_strs (SqL.of (same_new hp5 _ _ (D4.s _ _ (S4 _ _ fD)))) (SqL.of upd_same) hlk ⟨_, rfl, ite2 (fun hne => ?_) (fun _ => stay rfl hp5)⟩⟩
      have D5 := D4.mono (same_new (o := .lst []) hp5)
      have hpos : 0 < N.nk := by
        rw [← N.ks_len]
        cases hks : N.ks with
        | nil => rw [hks] at hne; cases hne
        | cons a r => exact Nat.succ_pos _
      refine ⟨_, rfl, g, _, rfl, dgetS (fr g1 S4 D5) rfl, ak, _, rfl, .inl (SqL.of (fr g3 S4 D5)), _, _, rfl, rfl, _, rfl, ite2 (fun h8 => ?_) (fun _ => stay rfl hp5)⟩
      have h8' : Z.L.kinds.length < 8 := by
        have := of_decide_eq_true h8
        rw [stL_len, List.length_map] at this
        omega
      refine ⟨_, rfl, _, rfl, _, rfl, _, rfl, D, _, rfl, .inl (SqL.of (D5.s _ _ (S4 _ _ fD))), d, ce, N.nk, (by rw [stL_len, N.ks_len]; rfl), D5.da, hpos, by omega, fun H6 r6 gr6 da6 hr6 => ?_⟩
      have D6 := D5.gr gr6 da6
      have hkn : N.ks[r6]? = some (N.k r6) := map_at (range_at hr6)
      refine ⟨D, _, (r6 : Int), _, rfl, rfl, SqL.of (D6.s _ _ (S4 _ _ fD)), atI_nat (stL_at hkn), _, _, rfl, rfl, small (by show 6 + (N.k r6).length ≤ _; have := (name_ok _ (hN.kin r6 hr6)).1.2; omega), l1, fun q7 hq7 => ?_⟩
      have D7 := D6.new (o := .lst [.str ((Ev.click r6).str N)]) hq7
      have S7 := D6.snew (o := .lst [.str ((Ev.click r6).str N)]) hq7
      refine ⟨q7, 3, _, rfl, rfl, upd_same, by decide, by decide, (by show 1 * 3 ≤ sizeLine; decide), fun p8 hp8 => ?_⟩
      have D8 := D7.new (o := .lst (List.replicate 3 [V.str ((Ev.click r6).str N)]).flatten) hp8
      have S8 := D7.snew (o := .lst (List.replicate 3 [V.str ((Ev.click r6).str N)]).flatten) hp8
      obtain ⟨evs, v1, v2, v3, v4⟩ := E4.ex
      refine ⟨p4, p8, _, _, rfl, rfl, D8.s _ _ (S8 _ _ (S7 _ _ v1)), upd_same, small (by rw [stL_len, List.length_map]; show _ + 3 ≤ _; omega), fun p9 hp9 => ?_⟩
      have ee : stL (evs.map (Ev.str N)) ++ (List.replicate 3 [V.str ((Ev.click r6).str N)]).flatten = stL ((evs ++ List.replicate 3 (Ev.click r6)).map (Ev.str N)) := by
        rw [rep_evs]
        unfold stL
        rw [List.map_append, List.map_append]
      obtain ⟨S9, D9, E9⟩ := evs_new (N := N) (B := B) (Z := Z) (c := 5) D8 ((S4.trans S7).trans S8) hp9 (evs ++ List.replicate 3 (Ev.click r6)) (ok_app v2 ⟨hr6, fun i h => by cases h; exact h8'⟩) (by rw [List.length_append]; omega) (by rw [List.length_append, List.length_replicate]; omega)
      rw [← ee] at S9 D9 E9
      exact ⟨_, p9, rfl, S9, D9, E9⟩
    rintro σ' H5 ⟨F5, a5, rfl, S5, D5, E5⟩
    clear S4 D4 E4
    -- serving
    refine ⟨fun σ' H' => ∃ (F' : L2.Hp) (a : Addr), σ' = [some (.ref d), some (.ref pb), some (.ref s), some (.ref D), some (.ref g), none, none, some (.ref a), none] ∧ Same F2 F' ∧ Dl F' H' d ce ∧ EvsAt F2 F' a N B Z 10, ?_, ?_⟩
    · refine ⟨_, rfl, g, _, rfl, dgetS (fr g1 S5 D5) rfl, ak, _, rfl, .inl (SqL.of (fr g3 S5 D5)), _, rfl, s, _, rfl, dgetS (fr d1 S5 D5) rfl, bf, _, rfl, .inl (SqL.of (fr u1 S5 D5)), _, _, rfl, rfl, _, rfl, ite2 (fun hgt => ?_) (fun _ => ?_)⟩
      · have hlt : Z.fates.length < Z.L.kinds.length := by
          have := of_decide_eq_true hgt
          rw [stL_len, List.length_map, List.length_map, u2] at this
          omega
        refine ⟨_, rfl, l1, fun q7 hq7 => ?_⟩
        have D7 := D5.new (o := .lst [.str (Ev.serve.str N)]) hq7
        have S7 := D5.snew (o := .lst [.str (Ev.serve.str N)]) hq7
        refine ⟨q7, 4, _, rfl, rfl, upd_same, by decide, by decide, (by show 1 * 4 ≤ sizeLine; decide), fun p8 hp8 => ?_⟩
        have D8 := D7.new (o := .lst (List.replicate 4 [V.str (Ev.serve.str N)]).flatten) hp8
        have S8 := D7.snew (o := .lst (List.replicate 4 [V.str (Ev.serve.str N)]).flatten) hp8
        obtain ⟨evs, v1, v2, v3, v4⟩ := E5.ex
        refine ⟨a5, p8, _, _, rfl, rfl, D8.s _ _ (S8 _ _ (S7 _ _ v1)), upd_same, small (by rw [stL_len, List.length_map]; show _ + 4 ≤ _; omega), fun p9 hp9 => ?_⟩
        have ee : stL (evs.map (Ev.str N)) ++ (List.replicate 4 [V.str (Ev.serve.str N)]).flatten = stL ((evs ++ List.replicate 4 Ev.serve).map (Ev.str N)) := by
          rw [rep_evs]
          unfold stL
          rw [List.map_append, List.map_append]
        obtain ⟨S9, D9, E9⟩ := evs_new (N := N) (B := B) (Z := Z) (c := 9) D8 ((S5.trans S7).trans S8) hp9 (evs ++ List.replicate 4 Ev.serve) (ok_app v2 ⟨hlt, fun i h => by cases h⟩) (by rw [List.length_append]; omega) (by rw [List.length_append, List.length_replicate]; omega)
        rw [← ee] at S9 D9 E9
        have n9 : F2 p9 = none := E9.n
        have w2 : ∀ e ∈ evs ++ List.replicate 4 Ev.serve, okE N B Z e := ok_app v2 ⟨hlt, fun i h => by cases h⟩
        have w3 : 0 < (evs ++ List.replicate 4 Ev.serve).length := by rw [List.length_append]; omega
        have w4 : (evs ++ List.replicate 4 Ev.serve).length ≤ 9 := by rw [List.length_append, List.length_replicate]; omega
        have X9l : (stL (evs.map (Ev.str N)) ++ (List.replicate 4 [V.str (Ev.serve.str N)]).flatten).length < 100 := by
          rw [ee, stL_len, List.length_map]
          omega
        have ek : Z.L.kinds[Z.fates.length]? = some Z.L.kinds[Z.fates.length] := List.getElem?_eq_getElem hlt
        have hki := hok.l.k _ (List.getElem_mem hlt)
        have f9 := upd_same (H := upd (upd F5 q7 (.lst [.str (Ev.serve.str N)])) p8 (.lst (List.replicate 4 [V.str (Ev.serve.str N)]).flatten)) (a := p9) (o := .lst (stL (evs.map (Ev.str N)) ++ (List.replicate 4 [V.str (Ev.serve.str N)]).flatten))
        refine ⟨_, rfl, g, _, rfl, dgetS (fr g1 S9 D9) rfl, _, rfl, s, _, rfl, dgetS (fr d1 S9 D9) rfl, bf, _, rfl, .inl (SqL.of (fr u1 S9 D9)), ak, _, (Z.fates.length : Int), _, rfl, (by rw [List.length_map, u2]), SqL.of (fr g3 S9 D9), atI_nat (stL_at (map_at ek)), ?_⟩
        refine ⟨_, rfl, pb, _, 2, _, rfl, rfl, SqT.of (fr b0 S9 D9), tb2, al, _, rfl, .inl (SqL.of (fr b4 S9 D9)), rfl, flat_strs _, _, rfl, ?_⟩
        show if inV (.str (N.k Z.L.kinds[Z.fates.length])) ((L.map N.k).map V.str) = true then _ else _
        rw [inV_strs, in_some hN hbk.lk hki]
        refine ite2 (fun hin => ?_) (fun _ => ⟨_, p9, rfl, S9, D9, ⟨evs ++ List.replicate 4 Ev.serve, f9.trans (congrArg (fun l => some (HO.lst l)) ee), w2, w3, by omega⟩, n9⟩)
        have D10 := D9.put (o := .lst ((stL (evs.map (Ev.str N)) ++ (List.replicate 4 [V.str (Ev.serve.str N)]).flatten) ++ [.str (Ev.refuse.str N)])) f9
        refine ⟨_, rfl, .inl ⟨rfl, _, SqL.of upd_same⟩, p9, _, _, rfl, rfl, upd_same, smallL (Nat.le_trans (Nat.le_of_lt X9l) (by decide)), ?_⟩
        refine ⟨_, p9, rfl, Same.put S9 n9, D10, ⟨(evs ++ List.replicate 4 Ev.serve) ++ [Ev.refuse], ?_, fun e he => ?_, by rw [List.length_append]; omega, by rw [List.length_append]; show _ + 1 ≤ _; omega⟩, n9⟩
        · rw [upd_same, ee]
          unfold stL
          rw [List.map_append (l₁ := evs ++ List.replicate 4 Ev.serve), List.map_append (l₁ := (evs ++ List.replicate 4 Ev.serve).map (Ev.str N))]
          rfl
        · rcases List.mem_append.mp he with c | c
          · exact w2 e c
          · obtain rfl : e = Ev.refuse := by simpa using c
            exact ⟨⟨_, ek, by rw [hbk.le _ hki]; exact hin⟩, fun i h => by cases h⟩
      · obtain ⟨evs, v1, v2, v3, v4⟩ := E5.ex
        exact ⟨F5, a5, rfl, S5, D5, ⟨evs, v1, v2, v3, by omega⟩, E5.n⟩
    rintro σ' H6 ⟨F6, a6, rfl, S6, D6, E6⟩
    clear S5 D5 E5
    -- answers
    refine ⟨_, rfl, s, _, rfl, dgetS (fr d1 S6 D6) rfl, bf, _, rfl, .inl (SqL.of (fr u1 S6 D6)), _, _, rfl, rfl, 1, (Z.fates.length : Int) + 1, (by rw [List.length_map, u2]), ⟨by omega, by omega, by omega, by omega⟩, ?_⟩
    rw [show ((Z.fates.length : Int) + 1 - 1).toNat = Z.fates.length by omega]
    refine for_range (fun i σ' H' => ∃ (F' : L2.Hp) (a : Addr) (x8 : Option V), σ' = [some (.ref d), some (.ref pb), some (.ref s), some (.ref D), some (.ref g), none, none, some (.ref a), x8] ∧ Same F2 F' ∧ Dl F' H' d ce ∧ EvsAt F2 F' a N B Z (10 + 2 * i)) ⟨F6, a6, none, rfl, S6, D6, E6⟩ ?_ ?_
    · rintro i σ' H7 hi ⟨F7, a7, x8, rfl, S7, D7, E7⟩
      rw [show (1 : Int) + (i : Nat) = ((i + 1 : Nat) : Int) by omega]
      obtain ⟨evs, v1, v2, v3, v4⟩ := E7.ex
      refine ⟨_, rfl, _, rfl, s, _, rfl, dgetS (fr d1 S7 D7) rfl, bc, _, rfl, .inl (SqL.of (fr d3 S7 D7)), rfl, flat_inL _, _, rfl, ?_⟩
      show if (!inV (.int ((i + 1 : Nat) : Int)) (inL Z.come)) = true then _ else _
      rw [inV_nat]
      refine ite2 (fun hin => ?_) (fun _ => ⟨F7, a7, _, rfl, S7, D7, ⟨evs, v1, v2, v3, by omega⟩, E7.n⟩)
      have hni : i + 1 ∉ Z.come := by simpa using hin
      refine ⟨_, rfl, _, rfl, _, rfl, lg (i + 1) (by omega), _, _, rfl, rfl, small (by show 7 + (numS (i + 1)).length ≤ _; have := ln (i + 1) (by omega); omega), l1, fun q7 hq7 => ?_⟩
      have D8 := D7.new (o := .lst [.str ((Ev.answer (i + 1)).str N)]) hq7
      have S8 := D7.snew (o := .lst [.str ((Ev.answer (i + 1)).str N)]) hq7
      refine ⟨q7, 2, _, rfl, rfl, upd_same, by decide, by decide, (by show 1 * 2 ≤ sizeLine; decide), fun p8 hp8 => ?_⟩
      have D9 := D8.new (o := .lst (List.replicate 2 [V.str ((Ev.answer (i + 1)).str N)]).flatten) hp8
      have S9 := D8.snew (o := .lst (List.replicate 2 [V.str ((Ev.answer (i + 1)).str N)]).flatten) hp8
      refine ⟨a7, p8, _, _, rfl, rfl, D9.s _ _ (S9 _ _ (S8 _ _ v1)), upd_same, small (by rw [stL_len, List.length_map]; show _ + 2 ≤ _; omega), fun p9 hp9 => ?_⟩
      have ee : stL (evs.map (Ev.str N)) ++ (List.replicate 2 [V.str ((Ev.answer (i + 1)).str N)]).flatten = stL ((evs ++ List.replicate 2 (Ev.answer (i + 1))).map (Ev.str N)) := by
        rw [rep_evs]
        unfold stL
        rw [List.map_append, List.map_append]
      obtain ⟨S10, D10, E10⟩ := evs_new (N := N) (B := B) (Z := Z) (c := 10 + 2 * (i + 1)) D9 ((S7.trans S8).trans S9) hp9 (evs ++ List.replicate 2 (Ev.answer (i + 1))) (ok_app v2 ⟨⟨Nat.succ_le_succ (Nat.zero_le _), hi, hni, by omega⟩, fun i h => by cases h⟩) (by rw [List.length_append]; omega) (by rw [List.length_append, List.length_replicate]; omega)
      rw [← ee] at S10 D10 E10
      exact ⟨_, p9, _, rfl, S10, D10, E10⟩
    rintro σ' H7 ⟨F7, a7, x8, rfl, S7, D7, E7⟩
    -- others
    refine ⟨fun σ' H' => ∃ (F' : L2.Hp) (a : Addr), σ' = [some (.ref d), some (.ref pb), some (.ref s), some (.ref D), some (.ref g), none, none, some (.ref a), x8] ∧ Same F2 F' ∧ Dl F' H' d ce ∧ EvsAt F2 F' a N B Z 30, ?_, ?_⟩
    · obtain ⟨evs, v1, v2, v3, v4⟩ := E7.ex
      have hol : ∀ z ∈ O.map N.k, PyData.canLay0 (.str z) = true := fun z hz => by
        obtain ⟨o, ho, rfl⟩ := List.mem_map.mp hz
        exact lay_w44 _ (hN.kin o (hbk.ok o ho))
      refine ⟨_, rfl, pb, _, 3, _, rfl, rfl, SqT.of (fr b0 S7 D7), tb3, z0, fun p8 hp8 => ne_nil_strs (SqL.of (same_new hp8 _ _ (fr b5 S7 D7))) (SqL.of upd_same) hol ⟨_, rfl, ite2 (fun hne => ?_) (fun _ => ?_)⟩⟩
      · have D8 := D7.mono (same_new (o := .lst []) hp8)
        have hpos : 0 < O.length := by
          cases hO : O with
          | nil => rw [hO] at hne; cases hne
          | cons a r => exact Nat.succ_pos _
        refine ⟨_, rfl, .inl ⟨rfl, _, SqL.of (D8.s _ _ v1)⟩, _, rfl, pb, _, 3, _, rfl, rfl, SqT.of (fr b0 S7 D8), tb3, _, rfl, _, rfl, pb, _, 3, _, rfl, rfl, SqT.of (fr b0 S7 D8), tb3, bo, _, rfl, .inl (SqL.of (fr b5 S7 D8)), d, ce, O.length, (by rw [stL_len, List.length_map]; rfl), D8.da, hpos, by omega, fun H9 r9 gr9 da9 hr9 => ?_⟩
        have D9 := D8.gr gr9 da9
        have hom : O[r9] ∈ O := List.getElem_mem hr9
        have hoe : O[r9]? = some O[r9] := List.getElem?_eq_getElem hr9
        have hok9 := hbk.ok _ hom
        refine ⟨bo, _, (r9 : Int), _, rfl, rfl, SqL.of (fr b5 S7 D9), atI_nat (stL_at (map_at hoe)), _, _, rfl, rfl, small (by show 6 + (N.k O[r9]).length ≤ _; have := (name_ok _ (hN.kin _ hok9)).1.2; omega), a7, _, _, rfl, rfl, D9.s _ _ v1, smallL (by rw [stL_len, List.length_map]; omega), ?_⟩
        have D10 := D9.put (o := .lst (stL (evs.map (Ev.str N)) ++ [.str ((Ev.other O[r9]).str N)])) v1
        refine ⟨_, a7, rfl, Same.put S7 E7.n, D10, ⟨evs ++ [Ev.other O[r9]], ?_, fun e he => ?_, by rw [List.length_append]; omega, by rw [List.length_append]; show _ + 1 ≤ _; omega⟩, E7.n⟩
        · rw [upd_same]
          unfold stL
          rw [List.map_append, List.map_append]
          rfl
        · rcases List.mem_append.mp he with c | c
          · exact v2 e c
          · obtain rfl : e = Ev.other O[r9] := by simpa using c
            exact ⟨⟨hok9, by rw [hbk.oe _ hok9]; exact decide_eq_true hom⟩, fun i h => by cases h⟩
      · exact ⟨F7, a7, rfl, S7, D7.mono (same_new hp8), ⟨evs, v1, v2, v3, by omega⟩, E7.n⟩
    rintro σ' H8 ⟨F8, a8, rfl, S8, D8, E8⟩
    obtain ⟨evs, v1, v2, v3, v4⟩ := E8.ex
    refine ⟨_, rfl, _, rfl, _, rfl, a8, _, rfl, .inl (SqL.of (D8.s _ _ v1)), d, ce, evs.length, (by rw [stL_len, List.length_map]; rfl), D8.da, v3, by omega, fun H9 r9 gr9 da9 hr9 => ?_⟩
    have D9 := D8.gr gr9 da9
    have he : evs[r9]? = some evs[r9] := List.getElem?_eq_getElem hr9
    exact ⟨a8, _, (r9 : Int), _, rfl, rfl, SqL.of (D9.s _ _ v1), atI_nat (stL_at (map_at he)), k F8 H9 evs[r9] (S2.trans S8) D9 (v2 _ (List.getElem_mem hr9))⟩
end
end Hp
set_option Elab.async false
set_option linter.all false
set_option maxRecDepth 100000
set_option maxHeartbeats 4000000
namespace Hp
open PySem PySem.Spec PyProof.Rows L2
abbrev ledScope : Scope := { kind := .function, names := [((".0" : Str), .local), (("_law_name" : Str), .local), (("_law_targets" : Str), .local), (("_law_led_here" : Str), .cell)], isGenerator := false, isCoroutine := false }
/-- words of the law, and what they are led to -/
def LedAt (H : L2.Hp) (a : Addr) (f : Str → Str) : Prop := ∃ kvs : List (L2.Key × V), H a = some (.dK kvs) ∧ ∀ z ∈ W22, valV kvs (Sum.inr z) = some (.str (f z))
theorem LedAt.mono {H H' : L2.Hp} {a : Addr} {f : Str → Str} (h : LedAt H a f) (s : Same H H') : LedAt H' a f := let ⟨k, x, y⟩ := h; ⟨k, s _ _ x, y⟩
structure LedOk (f : Str → Str) : Prop where
  inj : ∀ a b, a ∈ W22 → b ∈ W22 → f a = f b → a = b
  img : ∀ a, a ∈ W22 → f a ∈ W44
def Nm.led (N : Nm) (f : Str → Str) : Nm := ⟨N.nv, N.nk, fun i => f (N.v i), fun i => f (N.k i)⟩
theorem led_ok {N : Nm} {B : IB} {L O : List Nat} {f : Str → Str} (h : BkOk N B L O) (l : LedOk f) : (N.led f).Ok where
  v1 := h.n.v1
  v3 := h.n.v3
  k3 := h.n.k3
  vin := fun i hi => l.img _ (h.v i hi)
  kin := fun i hi => l.img _ (h.k i hi)
  vinj := fun i j hi hj e => h.n.vinj i j hi hj (l.inj _ _ (h.v i hi) (h.v j hj) e)
  kinj := fun i j hi hj e => h.n.kinj i j hi hj (l.inj _ _ (h.k i hi) (h.k j hj) e)
section
variable {P : Program} {w : World} {K : PySem.W.Frag} {mg : Str → Option Value} {base : Heap}
theorem pi_listK {X : Cx} {e tg : Expr} {te : TE} (K : PySem.W.Frag) (he : PE X e te) (h : X.K = K := by rfl) : PI X tg e (iList K te) := h ▸ pi_list he
def spLed (K : PySem.W.Frag) : Sp := fun vs H Q _ => ∃ (pb ld : Addr) (N : Nm) (B : IB) (L O : List Nat) (f : Str → Str), vs = [.ref pb, .ref ld] ∧ BookF H pb N B L O ∧ BkOk N B L O ∧ LedAt H ld f ∧ LedOk f ∧ ∀ p H', Same H H' → BookAt K H' p (N.led f) B → Q (.ref p) H'
theorem h_l_led (C : Ctx K mg) : ∃ fd, Has P w K mg base 6 (He.fAd K ("_law_led", none)) ["_law_book_here", "_law_led_here"] (spLed K) fd := by
  obtain ⟨fdB, GB⟩ := h_book_init (P := P) (w := w) (base := base) C
  refine has_of C.fn_l_led sc_l_led (fun vs H Q E h => ?_) (fun cdv A outer s H vs Q E hr h => ?_)
  · obtain ⟨pb, ld, N, B, L, O, f, rfl, _⟩ := h
    rfl
  · obtain ⟨pb, ld, N, B, L, O, f, rfl, ⟨as_, ak, al, ao, e0, e1, ⟨ps, ta, e2, e3⟩, e4, e5⟩, hbk, hld, hf, k⟩ := h
    have nd := sc_l_led.nd
    have hu := hu_of hr
    have hr5 : Room 5 _ := hr.mono (by decide)
    obtain ⟨kvs, l1, l2⟩ := id hld
    refine ⟨_, (pss_cons (ps_asg (pv 0) (pg_tup rfl (pgs_cons (pg_name (i := 2) nd rfl (Or.inl rfl)) (pgs_cons (pg_name (i := 3) nd rfl (Or.inl rfl)) (pgs_cons (pg_name (i := 4) nd rfl (Or.inl rfl)) (pgs_cons (pg_name (i := 5) nd rfl (Or.inl rfl)) pgs_nil)))))) (pss_cons (ps_setLc (i := 6) (own := [("_law_name", 7), ("_law_targets", 8)]) (g := gTup K 2 (gCons (gName 7) (gCons (gName 8) (gNil)))) (tt := tYes) rfl nd rfl rfl rfl (pi_list (pv 3)) (blkOk_by (N := N_l_led) (sc := defScope s_l_led) (by decide +kernel)) (fun _ _ _ _ _ => (pg_tup rfl (pgs_cons (pg_name (i := 7) nd rfl (Or.inl rfl)) (pgs_cons (pg_name (i := 8) nd rfl (Or.inl rfl)) pgs_nil)))) (fun _ _ _ _ _ => pts_nil) (fun _ _ _ _ _ => (pe_tup (pa_cons (pe_dget hu (pv 1) (pv 7) (fun _ _ => rfl)) (pa_cons (pe_lc (own := [("_law_one", 9)]) (g := gName 9) (tt := tYes) rfl nd (pi_listK K (pv 8)) (blkOk_by (N := N_l_led) (sc := ledScope) (by decide +kernel)) (fun _ _ _ _ _ => (pg_name (i := 9) nd rfl (Or.inl rfl))) (fun _ _ _ _ _ => pts_nil) (fun _ _ _ _ _ => pe_ifExp (pt_cmpR op_isN (pv 9) pe_non (nomark _)) pe_non (pe_dget hu (pv 1) (pv 9) (fun _ _ => rfl)))) pa_nil))))) (pss_one (ps_ret (pe_make C.mk_Book GB.ok hr5 (by rfl) C.g_Book GB.b .nil pass0 (pa_cons (pe_lc (own := [("_law_one", 9)]) (g := gName 9) (tt := tYes) rfl nd (pi_list (pv 2)) (blkOk_by (N := N_l_led) (sc := defScope s_l_led) (by decide +kernel)) (fun _ _ _ _ _ => (pg_name (i := 9) nd rfl (Or.inl rfl))) (fun _ _ _ _ _ => pts_nil) (fun _ _ _ _ _ => (pe_dget hu (pv 1) (pv 9) (fun _ _ => rfl)))) (pa_cons (pv 6) (pa_cons (pe_lc (own := [("_law_one", 9)]) (g := gName 9) (tt := tYes) rfl nd (pi_list (pv 4)) (blkOk_by (N := N_l_led) (sc := defScope s_l_led) (by decide +kernel)) (fun _ _ _ _ _ => (pg_name (i := 9) nd rfl (Or.inl rfl))) (fun _ _ _ _ _ => pts_nil) (fun _ _ _ _ _ => (pe_dget hu (pv 1) (pv 9) (fun _ _ => rfl)))) (pa_cons (pe_lc (own := [("_law_one", 9)]) (g := gName 9) (tt := tYes) rfl nd (pi_list (pv 5)) (blkOk_by (N := N_l_led) (sc := defScope s_l_led) (by decide +kernel)) (fun _ _ _ _ _ => (pg_name (i := 9) nd rfl (Or.inl rfl))) (fun _ _ _ _ _ => pts_nil) (fun _ _ _ _ _ => (pe_dget hu (pv 1) (pv 9) (fun _ _ => rfl)))) pa_nil))))))))), ?_⟩
    have hk3 := hbk.n.k3
    have hv3 := hbk.n.v3
    have hll := hbk.ll
    have hol := hbk.ol
    have rng : ∀ n, (List.range n).length = n := fun n => List.length_range
    refine ⟨_, rfl, pb, _, rfl, SqT.of e0, rfl, _, _, rfl, _, _, rfl, _, _, rfl, _, _, rfl, rfl, ?_⟩
    refine ⟨_, rfl, ak, rfl, ⟨_, SqL.of e2⟩, fun D hD => ?_⟩
    refine lc_it (walk_list (K := K) (xs := (List.range N.nk).map fun i => V.ref (ps i))) (fun j H' => Same H H' ∧ ∃ ps' ta' : Nat → Addr, H' D = some (.lst ((List.range j).map fun i => V.ref (ps' i))) ∧ ∀ i, i < j → H' (ps' i) = some (.tup [.str (f (N.k i)), .ref (ta' i)]) ∧ H' (ta' i) = some (.lst (B.row (N.led f) i)) ∧ ta' i ≠ D) ⟨same_new hD, fun _ => 0, fun _ => 0, upd_same, fun i hi => absurd hi (Nat.not_lt_zero i)⟩ (fun j H' _ q => SqL.of (q.1 _ _ e2)) (fun j x H1 H1' hj q y => ?_) (fun H1 q => ?_)
    · obtain ⟨s1, ps', ta', eD, hT⟩ := q
      obtain ⟨rfl, e6⟩ := y
      rw [List.length_map, rng] at hj
      obtain rfl : x = .ref (ps j) := map_un (f := fun i => V.ref (ps i)) (range_at hj) e6
      have ta1 := s1 _ _ (e3 j hj).2
      refine ⟨ps j, _, rfl, SqT.of (s1 _ _ (e3 j hj).1), rfl, _, _, rfl, _, _, rfl, rfl, rfl, yesT ?_⟩
      refine ⟨_, rfl, _, rfl, ld, _, rfl, dgetS (s1 _ _ l1) (l2 _ (hbk.k j hj)), _, rfl, ta j, rfl, ⟨_, SqL.of ta1⟩, fun D2 hD2 => ?_⟩
      refine lc_m (walk_list (K := K) (xs := B.row N j)) (List.range N.nv) (by rw [B.row_len, rng]) (small (by rw [rng]; omega)) (fun m => optS (N.led f).v (B.tg j m)) hD2 (fun H3 s3 => SqL.of (s3 _ _ ta1)) (fun m z x H3 H3' Qy Qn hm s3 y k1 => ?_) (fun H3 s3 hL => ?_)
      · obtain ⟨rfl, e7⟩ := y
        obtain ⟨rfl, hlt⟩ := range_is hm
        obtain rfl : x = optS N.v (B.tg j z) := map_un (f := fun m => optS N.v (B.tg j m)) hm e7
        refine ⟨rfl, yesT ⟨_, rfl, rfl, _, rfl, ?_⟩⟩
        cases et : B.tg j z with
        | none =>
          rw [et] at k1
          exact ifT rfl (k1 _ (Same.refl _))
        | some t =>
          rw [et] at k1
          exact ifF rfl ⟨_, rfl, _, rfl, ld, _, rfl, dgetS (s3 _ _ (s1 _ _ l1)) (l2 _ (hbk.v t (hbk.b j z t hj hlt et))), k1 _ (Same.refl _)⟩
      refine ⟨(by show 2 ≤ sizeLine; decide), fun t ht => ?_⟩
      have s4 := s3.trans (same_new (o := .tup [.str (f (N.k j)), .ref D2]) ht)
      have eD4 := s4 _ _ eD
      have nD2 : D2 ≠ D := fun z => by rw [z, eD] at hD2; cases hD2
      have ntD : t ≠ D := fun z => by rw [z, s3 _ _ eD] at ht; cases ht
      have hD24 := same_new (o := .tup [.str (f (N.k j)), .ref D2]) ht _ _ hL
      refine ⟨_, eD4, smallL (by rw [List.length_map, rng]; omega), fun b o e => ?_, fun i => if i = j then t else ps' i, fun i => if i = j then D2 else ta' i, ?_, fun i hi => ?_⟩
      · rw [upd_ne (ne_of_none e hD)]
        exact s4 _ _ (s1 _ _ e)
      · rw [upd_same, List.range_succ, List.map_append]
        congr 3
        · apply List.map_congr_left
          intro i hi
          have := List.mem_range.mp hi
          show V.ref (ps' i) = V.ref (if i = j then t else ps' i)
          rw [if_neg (by omega)]
        · show [V.ref t] = [V.ref (if j = j then t else ps' j)]
          rw [if_pos rfl]
      · by_cases hij : i = j
        · subst hij
          dsimp only
          rw [if_pos rfl, if_pos rfl]
          exact ⟨by rw [upd_ne ntD, upd_same], by rw [upd_ne nD2]; exact hD24, nD2⟩
        · dsimp only
          rw [if_neg hij, if_neg hij]
          obtain ⟨h1, h2, h3⟩ := hT i (by omega)
          exact ⟨by rw [upd_ne (ne_of h1 eD (by intro q; cases q))]; exact s4 _ _ h1, by rw [upd_ne h3]; exact s4 _ _ h2, h3⟩
    obtain ⟨s1, ps', ta', eD, hT⟩ := q
    rw [List.length_map, rng] at eD hT
    have l1' := s1 _ _ l1
    -- values
    refine ⟨_, rfl, as_, rfl, ⟨_, SqL.of (s1 _ _ e1)⟩, fun D2 hD2 => ?_⟩
    refine lc_m (walk_list (K := K) (xs := stL N.vs)) (List.range N.nv) (by rw [stL_len, N.vs_len, rng]) (small (by rw [rng]; omega)) (fun m => .str (f (N.v m))) hD2 (fun H2 s2 => SqL.of (s2 _ _ (s1 _ _ e1))) (fun m z x H2 H2' Qy Qn hm s2 y k1 => ?_) (fun H2 s2 hL2 => ?_)
    · obtain ⟨rfl, e7⟩ := y
      obtain ⟨rfl, hlt⟩ := range_is hm
      obtain rfl : x = .str (N.v z) := map_un (f := V.str) (map_at (f := N.v) hm) e7
      exact ⟨rfl, yesT ⟨_, rfl, _, rfl, ld, _, rfl, dgetS (s2 _ _ l1') (l2 _ (hbk.v z hlt)), k1 _ (Same.refl _)⟩⟩
    have s12 := s1.trans s2
    refine ⟨_, rfl, _, rfl, al, rfl, ⟨_, SqL.of (s12 _ _ e4)⟩, fun D3 hD3 => ?_⟩
    refine lc_m (walk_list (K := K) (xs := stL (L.map N.k))) L (by rw [stL_len, List.length_map]) (small (by omega)) (fun m => .str (f (N.k m))) hD3 (fun H3 s3 => SqL.of (s3 _ _ (s12 _ _ e4))) (fun m z x H3 H3' Qy Qn hm s3 y k1 => ?_) (fun H3 s3 hL3 => ?_)
    · obtain ⟨rfl, e7⟩ := y
      obtain rfl : x = .str (N.k z) := map_un (f := V.str) (map_at (f := N.k) hm) e7
      exact ⟨rfl, yesT ⟨_, rfl, _, rfl, ld, _, rfl, dgetS (s3 _ _ (s2 _ _ l1')) (l2 _ (hbk.k z (hbk.lk z (List.mem_of_getElem? hm)))), k1 _ (Same.refl _)⟩⟩
    have s13 := s12.trans s3
    refine ⟨_, rfl, ao, rfl, ⟨_, SqL.of (s13 _ _ e5)⟩, fun D4 hD4 => ?_⟩
    refine lc_m (walk_list (K := K) (xs := stL (O.map N.k))) O (by rw [stL_len, List.length_map]) (small (by omega)) (fun m => .str (f (N.k m))) hD4 (fun H4 s4 => SqL.of (s4 _ _ (s13 _ _ e5))) (fun m z x H4 H4' Qy Qn hm s4 y k1 => ?_) (fun H4 s4 hL4 => ?_)
    · obtain ⟨rfl, e7⟩ := y
      obtain rfl : x = .str (N.k z) := map_un (f := V.str) (map_at (f := N.k) hm) e7
      exact ⟨rfl, yesT ⟨_, rfl, _, rfl, ld, _, rfl, dgetS (s4 _ _ (s3 _ _ (s2 _ _ l1'))) (l2 _ (hbk.k z (hbk.ok z (List.mem_of_getElem? hm)))), k1 _ (Same.refl _)⟩⟩
    intro b db hb hdb hne
    have sm : Same H4 (upd (upd H4 db (.own b)) b (.ins (He.ga K "Book") db [])) := (same_new hdb).trans (same_new (by rw [upd_ne hne.symm]; exact hb))
    have s24 := s3.trans s4
    have s14 := s2.trans s24
    have hmap : ∀ l : List Nat, (l.map fun m => V.str (f (N.k m))) = stL (l.map (N.led f).k) := fun l => by unfold stL; rw [List.map_map]; rfl
    refine ⟨b, db, D2, D, D3, D4, N.led f, B, L, O, rfl, upd_same, ?_, ⟨ps', ta', sm _ _ (s14 _ _ eD), fun i hi => ⟨sm _ _ (s14 _ _ (hT i hi).1), sm _ _ (s14 _ _ (hT i hi).2.1)⟩⟩, ?_, ?_, led_ok hbk hf, hbk.b, hbk.ln, hbk.on, hbk.lk, hbk.ok, hll, hol, hbk.le, hbk.oe, fun H5 k5 hB => ⟨rfl, k b _ (k5.same ((s1.trans s14).trans sm) ?_) hB⟩⟩
    · refine sm _ _ (s24 _ _ (hL2.trans ?_))
      unfold stL Nm.vs
      rw [List.map_map]
      rfl
    · exact sm _ _ (s4 _ _ (hL3.trans (congrArg (fun l => some (HO.lst l)) (hmap L))))
    · exact sm _ _ (hL4.trans (congrArg (fun l => some (HO.lst l)) (hmap O)))
    · cases e : H b with
      | none => rfl
      | some o => rw [(s1.trans s14) _ _ e] at hb; cases hb
end
end Hp
set_option Elab.async false
set_option linter.all false
set_option maxRecDepth 100000
set_option maxHeartbeats 4000000
namespace Hp
open PySem PySem.Calls PySem.Spec PyProof.Rows PyProof.V PySem.W
/-! list(zip(a, b)) of two lists -/
structure ZSt (h : Heap) (z TI TO i1 i2 l1 l2 S : Addr) (xs ys : Array Value) (i : Nat) : Prop where
  ti : IsPair h TI (.ref i1) (.ref i2)
  h1 : h.IsListIter i1 l1 i
  h2 : h.IsListIter i2 l2 i
  a1 : h.IsList l1 xs
  a2 : h.IsList l2 ys
  zz : (IsZip h z TI TO .none ∧ ∃ a b, IsPair h TO a b) ∨ ∃ (T : Addr) (f : Bool) (oT : Obj), IsZipHeld h z TI TO T f ∧ h.get? T = some oT ∧ T ≠ z ∧ T ≠ i1 ∧ T ≠ i2 ∧ T ≠ S
structure ZAp (z TI TO i1 i2 l1 l2 S : Addr) : Prop where
  z : z ≠ S
  TI : TI ≠ S
  TO : TO ≠ S
  i1 : i1 ≠ S
  i2 : i2 ≠ S
  l1 : l1 ≠ S
  l2 : l2 ≠ S
theorem ZSt.keep {h h' : Heap} {z TI TO i1 i2 l1 l2 S : Addr} {xs ys : Array Value} {i : Nat} (x : ZSt h z TI TO i1 i2 l1 l2 S xs ys i) (n : ZAp z TI TO i1 i2 l1 l2 S) (hk : ∀ b o, b ≠ S → h.get? b = some o → h'.get? b = some o) : ZSt h' z TI TO i1 i2 l1 l2 S xs ys i := by
  obtain ⟨a, b, c, d, e, f⟩ := x
  refine ⟨hk _ _ n.TI a, b.at fun o q => hk _ o n.i1 q, c.at fun o q => hk _ o n.i2 q, d.at fun o q => hk _ o n.l1 q, e.at fun o q => hk _ o n.l2 q, ?_⟩
  rcases f with ⟨f, x, y, g⟩ | ⟨T, f, oT, g, hT, r1, r2, r3, r4⟩
  · exact .inl ⟨hk _ _ n.z f, x, y, hk _ _ n.TO g⟩
  · exact .inr ⟨T, f, oT, hk _ _ n.z g, hk _ _ r4 hT, r1, r2, r3, r4⟩
section
variable {prog : Program} {w : World} {A : Around} {E : Value → Shared → Prop} {s : Shared} {z TI TO i1 i2 l1 l2 S : Addr} {xs ys : Array Value} {i : Nat}
theorem zst_item {x y : Value} {Q : Option Value → Shared → Prop} (D : ZipApart z TI TO i1 i2 l1 l2) (st : ZSt s.heap z TI TO i1 i2 l1 l2 S xs ys i) (hS : S < s.heap.objs.size) (ex : xs[i]? = some x) (ey : ys[i]? = some y)
    (hQ : ∀ h', ZSt h' z TI TO i1 i2 l1 l2 S xs ys (i + 1) → h'.get? s.heap.objs.size = some { cls := .type "tuple", data := .seq #[x, y] } → h'.objs.size = s.heap.objs.size + 1 → (∀ c o, c ∉ [z, TO, i1, i2] → s.heap.get? c = some o → h'.get? c = some o) → Q (some (.ref s.heap.objs.size)) { s with heap := h' }) :
    wpAny (model prog w) A (pyNext (.ref z)) Q E s := by
  obtain ⟨hTI, h1, h2, hl1, hl2, hz⟩ := st
  have lt : ∀ {c o}, s.heap.get? c = some o → s.heap.objs.size ≠ c := fun e => Nat.ne_of_gt (Heap.lt_size e)
  have n1 : s.heap.objs.size ≠ i1 := let ⟨_, e, _⟩ := h1; lt e
  have n2 : s.heap.objs.size ≠ i2 := let ⟨_, e, _⟩ := h2; lt e
  rcases hz with ⟨hz, a, b, hTO⟩ | ⟨T, f, oT, hz, hT, r1, r2, r3, r4⟩
  · refine wpAny_pyNext_zip_item D hz hTI hTO h1 h2 hl1 hl2 ex ey fun h' a1 a2 a3 a4 a5 a6 hk => ?_
    exact hQ h' ⟨hk _ _ D.TIz D.TITO D.TIi1 D.TIi2 hTI, a3, a4, hl1.at fun o e => hk _ o D.l1z D.l1TO D.l1i1 D.l1i2 e, hl2.at fun o e => hk _ o D.l2z D.l2TO D.l2i1 D.l2i2 e, .inr ⟨s.heap.objs.size, false, _, a1, a5, lt hz, n1, n2, Nat.ne_of_gt hS⟩⟩ a5 a6
      fun c o hc e => hk c o (fun q => hc (by simp [q])) (fun q => hc (by simp [q])) (fun q => hc (by simp [q])) (fun q => hc (by simp [q])) e
  · refine wpAny_pyNext_zip_item_held D hz hT hTI h1 h2 hl1 hl2 ex ey fun h' a1 a3 a4 a5 a6 hk => ?_
    exact hQ h' ⟨hk _ _ D.TIz D.TIi1 D.TIi2 hTI, a3, a4, hl1.at fun o e => hk _ o D.l1z D.l1i1 D.l1i2 e, hl2.at fun o e => hk _ o D.l2z D.l2i1 D.l2i2 e, .inr ⟨T, true, oT, a1, hk _ _ r1 r2 r3 hT, r1, r2, r3, r4⟩⟩ a5 a6
      fun c o hc e => hk c o (fun q => hc (by simp [q])) (fun q => hc (by simp [q])) (fun q => hc (by simp [q])) e
theorem zst_done {Q : Option Value → Shared → Prop} (hh : A.handled = none) (D : ZipApart z TI TO i1 i2 l1 l2) (st : ZSt s.heap z TI TO i1 i2 l1 l2 S xs ys i) (hend : xs[i]? = none)
    (hQ : ∀ h', (∀ c o, c ∉ [z, TO, i1, i2] → s.heap.get? c = some o → h'.get? c = some o) → Q none { s with heap := h' }) : wpAny (model prog w) A (pyNext (.ref z)) Q E s := by
  obtain ⟨hTI, h1, h2, hl1, hl2, hz⟩ := st
  rcases hz with ⟨hz, a, b, hTO⟩ | ⟨T, f, oT, hz, hT, r1, r2, r3, r4⟩
  · exact wpAny_pyNext_zip_end hh D hz hTI hTO h1 h2 hl1 hl2 (.inl hend) fun h' hk => hQ h' fun c o hc e => hk c o (fun q => hc (by simp [q])) (fun q => hc (by simp [q])) (fun q => hc (by simp [q])) (fun q => hc (by simp [q])) e
  · exact wpAny_pyNext_zip_end_held hh D hz hT hTI h1 h2 hl1 hl2 (.inl hend) fun h' hk => hQ h' fun c o hc e => hk c o (fun q => hc (by simp [q])) (fun q => hc (by simp [q])) (fun q => hc (by simp [q])) e
end
section
variable {prog : Program} {w : World} {K : Type} [DecidableEq K] {knd : KeyKind prog w K} {A : Around} {s : Shared} {R : Result → Shared → Prop} {kvs : List (K × Value)} {z TI TO i1 i2 l1 l2 S : Addr} {xs ys : Array Value}
theorem zl_loop (hh : A.handled = none) (D : ZipApart z TI TO i1 i2 l1 l2) (N : ZAp z TI TO i1 i2 l1 l2 S) (hn : kvs.length ≤ sizeLine) (hx0 : xs.size = kvs.length) (hab : ∀ c ∈ [z, TO, i1, i2], c < S)
    (hkx : ∀ (i : Nat) (k : K) (v : Value), kvs[i]? = some (k, v) → ∃ key : Value, xs[i]? = some key ∧ knd.is k key = true ∧ ys[i]? = some v) (res : Value) {h₁ : Heap}
    (hR : ∀ h' tk acc c as, (∀ b o, b ≠ S → b ∉ [z, TO, i1, i2] → h₁.get? b = some o → h'.get? b = some o) → h'.get? S = some { cls := .type "list", dict := none, data := .seq acc c, slots := #[] } → as.length = kvs.length → KdxG knd kvs S h' as →
      acc.toList = as.map Value.ref → R (.ok (.ret res)) { s with heap := h', toks := tk }) :
    ∀ (k i : Nat) (h : Heap) (tk c : Nat) (acc : Array Value) (as : List Addr), kvs.length - i = k → i ≤ kvs.length → ZSt h z TI TO i1 i2 l1 l2 S xs ys i → (∀ b o, b ≠ S → b ∉ [z, TO, i1, i2] → h₁.get? b = some o → h.get? b = some o) →
      h.get? S = some { cls := .type "list", dict := none, data := .seq acc c, slots := #[] } → acc.toList = as.map Value.ref → as.length = i → KdxG knd kvs S h as →
      codeAny (model prog w) A (.builtin "list.extend.loop" ⟨[.ref S, .ref z, res], []⟩) R { s with heap := h, toks := tk } := by
  have hSn : S ∉ [z, TO, i1, i2] := fun q => absurd (hab S q) (Nat.lt_irrefl _)
  intro k
  induction k with
  | zero =>
    intro i h tk c acc as hk hi hst hkeep hS hacc hal hG
    refine codeAny_builtin PySem.F.entry_extend_loop ?_
    rw [Around.under_plainId PySem.F.plain_extend_loop _]
    show wpAny _ A.in1 (pyNext (.ref z) >>= _) _ _ _
    refine wpAny_bind (zst_done (s := { s with heap := h, toks := tk }) (A := A.in1) hh D hst (Array.getElem?_eq_none (by omega)) fun h' he => ?_)
    refine wpAny_pure (hR h' tk acc c as (fun b o h1 h2 e => he b o h2 (hkeep b o h1 h2 e)) (he S _ hSn hS) (by omega) ⟨hG.rise, hG.above, fun j a hj => ?_⟩ hacc)
    obtain ⟨key, kk, x, e1, e2, e3⟩ := hG.pairs j a hj
    have ha := hG.above a (List.mem_of_getElem? hj)
    exact ⟨key, kk, x, e1, e2, he a _ (fun q => absurd (hab a q) (Nat.not_lt.mpr (Nat.le_of_lt ha))) e3⟩
  | succ k ih =>
    intro i h tk c acc as hk hi hst hkeep hS hacc hal hG
    have hlt : i < kvs.length := by omega
    obtain ⟨⟨kk, x⟩, hx⟩ : ∃ p, kvs[i]? = some p := ⟨kvs[i], List.getElem?_eq_getElem hlt⟩
    obtain ⟨key, ex, hkey, ey⟩ := hkx i kk x hx
    have hsz : acc.size = i := by rw [← Array.length_toList, hacc, List.length_map, hal]
    refine codeAny_builtin PySem.F.entry_extend_loop ?_
    rw [Around.under_plainId PySem.F.plain_extend_loop _]
    show wpAny _ A.in1 (pyNext (.ref z) >>= _) _ _ _
    refine wpAny_bind (zst_item (s := { s with heap := h, toks := tk }) (S := S) D hst (Heap.lt_size hS) ex ey fun h' hst' ht hz hkp => ?_)
    dsimp only at ht hz hkp ⊢
    have hS' := hkp S _ hSn hS
    have up : ∀ b o, b ≠ S → h'.get? b = some o → (h'.update S (Obj.mapSeq (·.push (Value.ref h.objs.size)))).get? b = some o := fun b o hb e => (Heap.get?_update_other _ _ (Ne.symm hb)).trans e
    have hSl : S < h.objs.size := Heap.lt_size hS
    show wpAny _ A.in1 (updateSeq S (·.push (Value.ref h.objs.size)) >>= _) _ _ _
    refine wpAny_bind ?_
    refine wpAny_updateSeq hS' rfl (wpAny_pure ⟨plainId_quiet PySem.F.plain_extend_loop _, ih (i + 1) _ tk _ (acc.push (Value.ref h.objs.size)) (as ++ [h.objs.size]) (by omega) hlt (hst'.keep N up)
      (fun b o h1 h2 e => up b o h1 (hkp b o h2 (hkeep b o h1 h2 e))) (Heap.get?_update_self _ hS' rfl) (by rw [Array.toList_push, hacc, List.map_append]; rfl) (by rw [List.length_append, hal]; rfl) ⟨?_, ?_, ?_⟩⟩) (by rw [hsz]; omega) (by show (acc.push (Value.ref h.objs.size)).size ≤ sizeLine + 1; rw [Array.size_push, hsz]; omega)
    · refine List.pairwise_append.mpr ⟨hG.rise, List.pairwise_singleton _ _, fun a ha b hb => ?_⟩
      rw [List.mem_singleton.mp hb]
      exact hG.there ha
    · intro a ha
      rcases List.mem_append.mp ha with ha | ha
      · exact hG.above a ha
      · rw [List.mem_singleton.mp ha]; exact hSl
    · intro j b hj
      rcases Nat.lt_trichotomy j as.length with h1 | h1 | h1
      · rw [List.getElem?_append_left h1] at hj
        obtain ⟨key', k', x', e1, e2, e3⟩ := hG.pairs j b hj
        have hb := hG.above b (List.mem_of_getElem? hj)
        exact ⟨key', k', x', e1, e2, up b _ (Nat.ne_of_gt hb) (hkp b _ (fun q => absurd (hab b q) (Nat.not_lt.mpr (Nat.le_of_lt hb))) e3)⟩
      · subst h1
        have hb : h.objs.size = b := by simpa using hj
        subst hb
        exact ⟨key, kk, x, by rw [hal]; exact hx, hkey, up _ _ (Nat.ne_of_gt hSl) ht⟩
      · have hnone : (as ++ [h.objs.size])[j]? = none := List.getElem?_eq_none (by rw [List.length_append, List.length_singleton]; omega)
        rw [hnone] at hj; cases hj
end
theorem zip_no_len : typeLookup (.type "zip") "__len__" = pure none := am_miss_of_fast (by decide +kernel)
theorem zip_no_hint : typeLookup (.type "zip") "__length_hint__" = pure none := am_miss_of_fast (by decide +kernel)
section
variable {prog : Program} {w : World} {A : Around} {E : Value → Shared → Prop} {s : Shared} {r : Addr}
theorem zl_hint (hT : s.TypeIs (.ref r) "zip") {Q : Bool → Shared → Prop} (h : Q true s) : wpAny (model prog w) A (Builtin.List.listLengthHint (.ref r)) Q E s := by
  unfold Builtin.List.listLengthHint
  refine wpAny_bind (wpAny_specialOf hT zip_no_len ?_)
  refine wpAny_ite_split (fun hab => absurd hab (by decide)) (fun _ => ?_)
  refine wpAny_ite_split (fun hab => absurd hab (by decide)) (fun _ => ?_)
  refine wpAny_bind (wpAny_specialOf hT zip_no_hint ?_)
  exact wpAny_pure h
end
section
variable {prog : Program} {w : World} {K : Type} [DecidableEq K] {knd : KeyKind prog w K} {A : Around} {E : Value → Shared → Prop} {s : Shared} {kvs : List (K × Value)} {z TI TO i1 i2 l1 l2 S : Addr} {xs ys : Array Value}
theorem zl_extend {R : Result → Shared → Prop} (hh : A.handled = none) (D : ZipApart z TI TO i1 i2 l1 l2) (N : ZAp z TI TO i1 i2 l1 l2 S) (hn : kvs.length ≤ sizeLine) (hx0 : xs.size = kvs.length) (hab : ∀ c ∈ [z, TO, i1, i2], c < S)
    (hkx : ∀ (i : Nat) (k : K) (v : Value), kvs[i]? = some (k, v) → ∃ key : Value, xs[i]? = some key ∧ knd.is k key = true ∧ ys[i]? = some v) (hz0 : IsZip s.heap z TI TO .none) (hst : ZSt s.heap z TI TO i1 i2 l1 l2 S xs ys 0) (res : Value) (c₀ : Nat)
    (hS : s.heap.get? S = some { cls := .type "list", data := .seq #[] c₀ })
    (hR : ∀ h' tk acc c as, (∀ b o, b ≠ S → b ∉ [z, TO, i1, i2] → s.heap.get? b = some o → h'.get? b = some o) → h'.get? S = some { cls := .type "list", dict := none, data := .seq acc c, slots := #[] } → as.length = kvs.length → KdxG knd kvs S h' as →
      acc.toList = as.map Value.ref → R (.ok (.ret res)) { s with heap := h', toks := tk }) :
    wpAny (model prog w) A.in1 (Builtin.List.listExtendWith (.ref S) (.ref z) res)
      (fun fin s' => match fin with | .done f => R (.ok f) s' | .again c' => c'.quiet = true ∧ codeAny (model prog w) A c' R s') (fun e s' => R (.error e) s') s := by
  have hT : s.TypeIs (.ref z) "zip" := ⟨_, hz0, rfl⟩
  have key : ∀ (h : Heap) (c₁ tk : Nat), (∀ b o, b ≠ S → s.heap.get? b = some o → h.get? b = some o) →
      h.get? S = some { cls := .type "list", data := .seq #[] c₁ } → codeAny (model prog w) A (.builtin "list.extend.loop" ⟨[.ref S, .ref z, res], []⟩) R { s with heap := h, toks := tk } := by
    intro h c₁ tk hk hS₁
    exact zl_loop (knd := knd) (kvs := kvs) (s := s) (h₁ := s.heap) hh D N hn hx0 hab hkx res hR kvs.length 0 h tk c₁ #[] [] (Nat.sub_zero _) (Nat.zero_le _) (hst.keep N hk) (fun b o hb _ e => hk b o hb e) hS₁ rfl rfl
      ⟨List.Pairwise.nil, (fun _ ha => nomatch ha), (fun j a hj => by simp at hj)⟩
  unfold Builtin.List.listExtendWith
  refine wpAny_bind (wpAny_typeOf (T := "zip") hT ?_)
  have h1 : Builtin.List.listSameRef (.ref S) (.ref z) = false := by simp [Builtin.List.listSameRef, N.z.symm]
  have h2 : (Value.type "zip" == Value.type "list") = false := by decide
  have h3 : (Value.type "zip" == Value.type "tuple") = false := by decide
  simp only [h1, h2, h3, Bool.or_false, Bool.false_eq_true, if_false]
  refine wpAny_bind (wpAny_pyIter_zip hz0 ?_)
  refine wpAny_bind (wpAny_holding (zl_hint hT ?_))
  refine wpAny_ite_split (fun _ => ?_) (fun hab => absurd (by simp) hab)
  refine wpAny_bind (wpAny_rule ?_)
  refine wpAny_bind ?_
  show wpAny _ _ (updateSeq S (·.push .none) >>= fun _ => updateSeq S (·.pop)) _ _ _
  refine wpAny_bind (wpAny_updateSeq hS rfl ?_)
  have hS₂ := Heap.get?_update_self (Obj.mapSeq (·.push Value.none)) hS rfl
  refine wpAny_updateSeq (hz := by seq_fits) hS₂ rfl ?_
  have hS₃ := Heap.get?_update_self (Obj.mapSeq (·.pop)) hS₂ rfl
  refine wpAny_pure ⟨plainId_quiet PySem.F.plain_extend_loop _, key _ _ _ (fun b o hb e => ?_) hS₃⟩
  exact (Heap.get?_update_other _ _ (Ne.symm hb)).trans ((Heap.get?_update_other _ _ (Ne.symm hb)).trans e)
theorem zl_init {R : Result → Shared → Prop} (hh : A.handled = none) (D : ZipApart z TI TO i1 i2 l1 l2) (N : ZAp z TI TO i1 i2 l1 l2 S) (hn : kvs.length ≤ sizeLine) (hx0 : xs.size = kvs.length) (hab : ∀ c ∈ [z, TO, i1, i2], c < S)
    (hkx : ∀ (i : Nat) (k : K) (v : Value), kvs[i]? = some (k, v) → ∃ key : Value, xs[i]? = some key ∧ knd.is k key = true ∧ ys[i]? = some v) (hz0 : IsZip s.heap z TI TO .none) (hst : ZSt s.heap z TI TO i1 i2 l1 l2 S xs ys 0)
    (hS : s.heap.get? S = some { cls := .type "list", data := .seq #[] })
    (hR : ∀ h' tk acc c as, (∀ b o, b ≠ S → b ∉ [z, TO, i1, i2] → s.heap.get? b = some o → h'.get? b = some o) → h'.get? S = some { cls := .type "list", dict := none, data := .seq acc c, slots := #[] } → as.length = kvs.length → KdxG knd kvs S h' as →
      acc.toList = as.map Value.ref → R (.ok (.ret .none)) { s with heap := h', toks := tk }) :
    wpAny (model prog w) A.in1 (Builtin.«list.__init__» ⟨[.ref S, .ref z], []⟩)
      (fun fin s' => match fin with | .done f => R (.ok f) s' | .again c' => c'.quiet = true ∧ codeAny (model prog w) A c' R s') (fun e s' => R (.error e) s') s := by
  show wpAny _ _ (do let old ← Builtin.List.listItems (.ref S); Builtin.List.listUpdate (.ref S) (fun _ => #[]); letGo old.toList.reverse; Builtin.List.listExtendWith (.ref S) (.ref z) .none) _ _ s
  refine wpAny_bind ?_
  unfold Builtin.List.listItems
  refine wpAny_bind (wpAny_seqItems hS rfl (wpAny_pure ?_))
  show wpAny _ _ (updateSeq S (fun _ => #[]) >>= fun _ => letGo (#[] : Array Value).toList.reverse >>= fun _ => Builtin.List.listExtendWith (.ref S) (.ref z) .none) _ _ s
  refine wpAny_bind (wpAny_updateSeq hS rfl ?_)
  have hS₂ := Heap.get?_update_self (Obj.mapSeq (fun _ => (#[] : Array Value))) hS rfl
  have oth : ∀ b o, b ≠ S → s.heap.get? b = some o → (s.heap.update S (Obj.mapSeq (fun _ => (#[] : Array Value)))).get? b = some o :=
    fun b o hb e => (Heap.get?_update_other _ _ (Ne.symm hb)).trans e
  refine wpAny_bind (wpAny_letGo ?_)
  refine zl_extend (knd := knd) (kvs := kvs) hh D N hn hx0 hab hkx (oth _ _ N.z hz0) (hst.keep N oth) .none _ hS₂ (fun h' tk acc c as hk hS' hl hG hacc => ?_)
  exact hR h' tk acc c as (fun b o hb hc e => hk b o hb hc (oth b o hb e)) hS' hl hG hacc
theorem zl_call {Q : Value → Shared → Prop} (hh : A.handled = none) (D : ZipApart z TI TO i1 i2 l1 l2) (N : ZAp z TI TO i1 i2 l1 l2 s.heap.objs.size) (hn : kvs.length ≤ sizeLine) (hx0 : xs.size = kvs.length) (hab : ∀ c ∈ [z, TO, i1, i2], c < s.heap.objs.size)
    (hkx : ∀ (i : Nat) (k : K) (v : Value), kvs[i]? = some (k, v) → ∃ key : Value, xs[i]? = some key ∧ knd.is k key = true ∧ ys[i]? = some v) (hz0 : IsZip s.heap z TI TO .none) (hst : ZSt s.heap z TI TO i1 i2 l1 l2 s.heap.objs.size xs ys 0)
    (hQ : ∀ h' tk acc c as, (∀ b o, b ∉ [z, TO, i1, i2] → s.heap.get? b = some o → h'.get? b = some o) → h'.get? s.heap.objs.size = some { cls := .type "list", dict := none, data := .seq acc c, slots := #[] } → as.length = kvs.length → KdxG knd kvs s.heap.objs.size h' as →
      acc.toList = as.map Value.ref → Q (.ref s.heap.objs.size) { s with heap := h', toks := tk }) :
    wpAny (model prog w) A (call (.type "list") [.ref z]) Q E s := by
  refine callType_codes (Q₁ := fun obj s₁ => obj = .ref s.heap.objs.size ∧ s₁ = { s with heap := s.heap.push { cls := .type "list", data := .seq #[] } }) PySem.F.called_list (PySem.F.typeCall_list_1 _) PySem.F.entry_list_init
    (code_list_new _ ⟨rfl, rfl⟩) fun obj s₁ h₁ => ?_
  obtain ⟨rfl, rfl⟩ := h₁
  have hS : (s.heap.push { cls := .type "list", data := .seq #[] }).get? s.heap.objs.size = some { cls := .type "list", data := .seq #[] } := Heap.get?_push_size _ rfl
  have pk : ∀ b o, s.heap.get? b = some o → (s.heap.push { cls := .type "list", data := .seq #[] }).get? b = some o := fun b o e => Heap.get?_push_of_some _ e
  refine ⟨⟨_, hS, rfl⟩, PySem.F.args_list_init_2 _ _, zl_init (knd := knd) (kvs := kvs) (A := A.in1) hh D N hn hx0 hab hkx (pk _ _ hz0) (hst.keep N fun b o _ e => pk b o e) hS (fun h' tk acc c as hk hS' hl hG hacc => ?_)⟩
  exact ⟨rfl, hQ h' tk acc c as (fun b o hb e => hk b o (Nat.ne_of_lt (Heap.lt_size e)) hb (pk b o e)) hS' hl hG hacc⟩
end
/-- a heap cut off -/
def cutH (h : Heap) (n : Nat) : Heap := { h with objs := h.objs.extract 0 n }
theorem cutH_size {h : Heap} {n : Nat} (hn : n ≤ h.objs.size) : (cutH h n).objs.size = n := by
  show (h.objs.extract 0 n).size = n
  rw [Array.size_extract, Nat.sub_zero]
  exact Nat.min_eq_left hn
theorem cutH_get {h : Heap} {n b : Nat} (hb : b < n) : (cutH h n).get? b = h.get? b := by
  have e : (h.objs.extract 0 n)[b]? = h.objs[b]? := by
    rw [Array.getElem?_extract]
    by_cases hh : b < min n h.objs.size - 0
    · rw [if_pos hh, Nat.zero_add]
    · rw [if_neg hh]
      have : h.objs.size ≤ b := by omega
      exact (Array.getElem?_eq_none this).symm
  have e' : (cutH h n).objs[b]? = h.objs[b]? := e
  unfold Heap.get?
  rw [e']
theorem cutH_some {h : Heap} {n b : Nat} {o : Obj} (e : (cutH h n).get? b = some o) : h.get? b = some o := by
  by_cases hb : b < n
  · rw [← cutH_get hb]; exact e
  · have hl : b < (cutH h n).objs.size := Heap.lt_size e
    have h2 : (cutH h n).objs.size ≤ n := by
      show (h.objs.extract 0 n).size ≤ n
      rw [Array.size_extract, Nat.sub_zero]
      exact Nat.min_le_left _ _
    omega
def zkv (ws ys : List Str) : List (L2.Key × L2.V) := List.zipWith (fun a b => ((Sum.inr a : L2.Key), L2.V.str b)) ws ys
def zkvs (ws : List Str) (vs : List Value) : List (L2.Key × Value) := List.zipWith (fun a b => ((Sum.inr a : L2.Key), b)) ws vs
theorem zkv_KV : ∀ {ws ys : List Str} {vs : List Value}, L2.Vals (ys.map L2.V.str) vs → L2.KV (zkv ws ys) (zkvs ws vs)
  | [], _, _, _ => by
    unfold zkv zkvs
    rw [List.zipWith_nil_left, List.zipWith_nil_left]
    exact .nil
  | _ :: _, [], _, h => by
    cases h
    exact .nil
  | w :: ws, y :: ys, _, h => by
    cases h with
    | cons a b => exact .cons ⟨rfl, a⟩ (zkv_KV b)
theorem zkvs_at : ∀ {ws : List Str} {us vs : List Value} {i : Nat} {k : L2.Key} {v : Value}, L2.Vals (ws.map L2.V.str) us → (zkvs ws vs)[i]? = some (k, v) → ∃ key : Value, us[i]? = some key ∧ L2.RelV (L2.kV k) key ∧ vs[i]? = some v
  | [], _, _, _, _, _, _, h => by
    unfold zkvs at h
    rw [List.zipWith_nil_left] at h
    cases h
  | _ :: _, _, [], _, _, _, _, h => by cases h
  | w :: ws, _, v0 :: vs, 0, k, v, r, h => by
    cases r with
    | cons a b =>
      have e := Option.some.inj h
      injection e with e1 e2
      subst e1 e2
      exact ⟨_, rfl, a, rfl⟩
  | w :: ws, _, v0 :: vs, i + 1, k, v, r, h => by
    cases r with
    | cons a b => exact zkvs_at (ws := ws) (vs := vs) (i := i) b h
open L2 in
/-- list(zip(a, b)), a and b lists of texts of one length -/
def tListZip (K : PySem.W.Frag) (ta : TA) : TE := fun σ H Q => ta σ H fun vs H1 => ∃ (a b : Addr) (ws ys : List Str), vs = [.ref a, .ref b] ∧ SqL K H1 a (ws.map V.str) ∧ SqL K H1 b (ys.map V.str) ∧ ws.length = ys.length ∧
  ∀ (H' : L2.Hp) (p : Addr) (ts : List Addr), (∀ b o, H1 b = some o → H' b = some o) → H1 p = none → H' p = some (.lst (ts.map V.ref)) → Paired (fun (t : Addr) (q : L2.Key × V) => H' t = some (.tup [kV q.1, q.2])) ts (zkv ws ys) → Q (.ref p) H'
open L2 in
theorem pe_listZip {X : Cx} {e e2 : Expr} {ta : TA} {p p2 cpos pos : Pos} (hc : X.calm = true) (hgl : Gl X "list") (hml : X.mg "list" = none) (hgz : Gl X "zip") (hmz : X.mg "zip" = none) (ha : PA X [e, e2] ta)
    (hs1 : starEach [.Call (.Name "zip" p2) [e, e2] [] cpos] X.env = (false, eval (.Call (.Name "zip" p2) [e, e2] [] cpos) X.env) :: starEach [] X.env := by rfl)
    (hs : starEach [e, e2] X.env = (false, eval e X.env) :: starEach [e2] X.env := by rfl) (hpl : (backTo cpos (starEach [e2] X.env)).any (·.1) = false := by rfl) :
    PE X (.Call (.Name "list" p) [.Call (.Name "zip" p2) [e, e2] [] cpos] [] pos) (tListZip X.K ta) := by
  refine ⟨fun pins s σ H Q I hq => ?_⟩
  refine wpAny_Call_Name_kw (ld_blt I hgl hml boot_list ?_)
  refine PyProof.Rows.callWith_type1 ?_ hs1 rfl
  rw [hs1]
  show wpAny _ _ (spliced ((false, eval (.Call (.Name "zip" p2) [e, e2] [] cpos) X.env) :: backTo pos (starEach [] X.env))) _ _ s
  refine Calls.spliced_cons ?_
  refine wpAny_Call_Name_kw (ld_blt I hgz hmz PyProof.Rows.boot_zip ?_)
  refine PyProof.Rows.callWith_type1 (thn (ha.run cpos pins s σ H _ I hq) fun us s1 ⟨vs, H1, I1, r1, q1⟩ => ?_) hs hpl
  obtain ⟨a, b, ws, ys, ex, hqx, hqy, hlen, q⟩ := q1
  subst ex
  cases r1 with
  | cons r rr =>
    cases rr with
    | cons r' rr =>
      cases rr
      cases r
      cases r'
      obtain ⟨its, rv, p1, hz1⟩ := I1.list hqx
      obtain ⟨its2, rv2, p2, hz2⟩ := I1.list hqy
      have la : a < s1.heap.objs.size := p1.lt
      have lb : b < s1.heap.objs.size := p2.lt
      have c1 : its.length = ws.length := by rw [← rv.length, List.length_map]
      have c2 : its2.length = ys.length := by rw [← rv2.length, List.length_map]
      refine call_zip_2 p1.isList p2.isList fun h' hz hTI hTO h1 h2 hsz hk => ?_
      refine Calls.spliced_nil ?_
      have I2 : L2.Inv X pins σ H1 { s1 with heap := h' } := I1.kept (t' := s1.toks) hk
      have D := PySem.W.ktu_apart s1.heap.objs.size a b la lb
      have zl : (zkvs ws its2).length = ws.length := by
        unfold zkvs
        rw [List.length_zipWith]
        omega
      have ap : ZAp (s1.heap.objs.size + 4) (s1.heap.objs.size + 2) (s1.heap.objs.size + 3) s1.heap.objs.size (s1.heap.objs.size + 1) a b h'.objs.size := by
        rw [hsz]
        exact ⟨Nat.ne_of_lt (by omega), Nat.ne_of_lt (by omega), Nat.ne_of_lt (by omega), Nat.ne_of_lt (by omega), Nat.ne_of_lt (by omega), Nat.ne_of_lt (Nat.lt_of_lt_of_le la (by omega)), Nat.ne_of_lt (Nat.lt_of_lt_of_le lb (by omega))⟩
      have chs : ∀ c ∈ [s1.heap.objs.size + 4, s1.heap.objs.size + 3, s1.heap.objs.size, s1.heap.objs.size + 1], s1.heap.objs.size ≤ c ∧ c < h'.objs.size := fun c hcm => by
        rw [hsz]
        have e' : c = s1.heap.objs.size + 4 ∨ c = s1.heap.objs.size + 3 ∨ c = s1.heap.objs.size ∨ c = s1.heap.objs.size + 1 := by simpa using hcm
        rcases e' with z | z | z | z <;> rw [z] <;> constructor <;> omega
      have zst : ZSt h' (s1.heap.objs.size + 4) (s1.heap.objs.size + 2) (s1.heap.objs.size + 3) s1.heap.objs.size (s1.heap.objs.size + 1) a b h'.objs.size its.toArray its2.toArray 0 :=
        ⟨hTI, h1, h2, p1.isList.at fun o q => hk _ o q, p2.isList.at fun o q => hk _ o q, .inl ⟨hz, _, _, hTO⟩⟩
      refine zl_call (s := { s1 with heap := h' }) (knd := mixKind X.prog X.w) (kvs := zkvs ws its2) (I1.ok.hd hc) D ap (by rw [zl]; rw [List.length_map] at hz1; exact hz1) (by rw [zl]; simp; omega) (fun c hcm => (chs c hcm).2) (fun i k v hi => ?_) hz zst fun h3 tk acc c as hk3 hS hl hG hacc => ?_
      · obtain ⟨key, x1, x2, x3⟩ := zkvs_at rv hi
        exact ⟨key, by simpa using x1, L2.kV_is x2, by simpa using x3⟩
      · have hle : h'.objs.size ≤ h3.objs.size := Nat.le_of_lt (Heap.lt_size hS)
        have cs := cutH_size hle
        have I3 : L2.Inv X pins σ H1 { s1 with heap := cutH h3 h'.objs.size } := I1.turnedL (t' := s1.toks) (ch := [s1.heap.objs.size + 4, s1.heap.objs.size + 3, s1.heap.objs.size, s1.heap.objs.size + 1]) (fun b o hb e => (cutH_get (Heap.lt_size (hk b o e))).trans (hk3 b o hb (hk b o e))) (fun c hcm => I1.fpOk (chs c hcm).1 (I1.hok.fresh (chs c hcm).1))
        obtain ⟨H', k1, k2, k3, k4, k5, k6, J⟩ := LiI.items_laid (s := { s1 with heap := cutH h3 h'.objs.size }) (h' := h3) (tk := tk) (kvs := zkv ws ys) (vs := zkvs ws its2) (acc := acc) (c := c) (as := as) I3 (by unfold zkv; rw [List.length_zipWith]; rw [List.length_map] at hz1; exact Nat.le_trans (Nat.min_le_left _ _) hz1) (zkv_KV rv2) (fun b o e => cutH_some e) (by show h3.get? (cutH h3 h'.objs.size).objs.size = _; rw [cs]; exact hS) hl (by show PySem.W.KdxG (mixKind X.prog X.w) (zkvs ws its2) (cutH h3 h'.objs.size).objs.size h3 as; rw [cs]; exact hG) hacc
        have cs2 : ({ s1 with heap := cutH h3 h'.objs.size } : Shared).heap.objs.size = h'.objs.size := cs
        rw [cs2] at k2 k5
        exact ⟨.ref h'.objs.size, H', J, rfl, q H' _ as k1 k2 k5 k6⟩
end Hp
set_option Elab.async false
set_option linter.all false
set_option maxRecDepth 100000
set_option maxHeartbeats 4000000
namespace Hp
open PySem PySem.Spec PyProof.Rows L2
def G4 : List Str := ["apart", "clung", "lost", "stuck"]
def allL : Nat → List (List Str)
  | 0 => [[]]
  | n + 1 => [] :: (allL n).flatMap fun l => G4.map fun g => g :: l
theorem allL_mem : ∀ {n : Nat} {l : List Str}, l.length ≤ n → (∀ x ∈ l, x ∈ G4) → l ∈ allL n
  | 0, [], _, _ => by simp [allL]
  | 0, _ :: _, h, _ => absurd h (Nat.not_succ_le_zero _)
  | n + 1, [], _, _ => List.mem_cons_self
  | n + 1, a :: l, h, m => List.mem_cons_of_mem _ (List.mem_flatMap.mpr ⟨l, allL_mem (Nat.le_of_succ_le_succ h) fun x hx => m x (List.mem_cons_of_mem _ hx), List.mem_map.mpr ⟨a, m a List.mem_cons_self, rfl⟩⟩)
def canon (l : List Str) : List Str := G4.filter fun g => decide (g ∈ l)
theorem canon_all : ∀ l ∈ allL 4, sortedS l = true → l.Nodup → l = canon l := by decide +kernel
theorem canon_lay : ∀ g ∈ G4, PyData.canLay0 (.str g) = true := by decide +kernel
theorem canon_is {l ys : List Str} (hn : l.Nodup) (hs : ∀ x ∈ l, x ∈ G4) (hp : ys.Perm l) (so : sortedS ys = true) : ys = canon l := by
  have hn' : ys.Nodup := hp.nodup_iff.mpr hn
  have hs' : ∀ x ∈ ys, x ∈ G4 := fun x hx => hs x (hp.mem_iff.mp hx)
  have e := canon_all ys (allL_mem (g4_len hn' hs') hs') so hn'
  have e2 : canon ys = canon l := by
    unfold canon
    apply List.filter_congr
    intro g _
    exact decide_eq_decide.mpr hp.mem_iff
  rw [e, e2]
def intD (n : Nat) : PyData := .int (n : Nat)
def dN (cs : CS) : PyData := .list [.tuple (cs.done.map dNum), .tuple (cs.S.opn.map intD), .int (cs.S.heard : Nat), .tuple ((acceptedM cs.fates).map intD), .tuple ((refusedM cs.fates).map intD), .tuple ((innerM cs.S).map intD), .tuple (cs.flick.map intD), .tuple ((canon cs.gained).map PyData.str)]
theorem lay_t {α : Type} {f : α → PyData} {l : List α} (h : ∀ x ∈ l, (f x).canLay0 = true) : PyData.canLay0 (.tuple (l.map f)) = true := lay_all h
theorem dep_t {α : Type} {f : α → PyData} {l : List α} (h : ∀ x ∈ l, (f x).depth ≤ 0) : PyData.depth (.tuple (l.map f)) ≤ 1 := Nat.succ_le_succ (depth_all h)
theorem canon_in (l : List Str) : ∀ x ∈ canon l, x ∈ G4 := fun x hx => (List.mem_filter.mp hx).1
theorem dN_lay (cs : CS) : (dN cs).canLay0 = true := by
  have i1 : ∀ l : List Nat, PyData.canLay0 (.tuple (l.map intD)) = true := fun l => lay_t fun _ _ => rfl
  have i2 : PyData.canLay0 (.tuple (cs.done.map dNum)) = true := lay_t fun x _ => by cases x <;> rfl
  have i3 : PyData.canLay0 (.tuple ((canon cs.gained).map PyData.str)) = true := lay_t fun x hx => canon_lay x (canon_in _ x hx)
  unfold dN
  show (_ && (_ && (_ && (_ && (_ && (_ && (_ && (_ && true)))))))) = true
  rw [i2, i1, i1, i1, i1, i1, i3]
  rfl
theorem dN_shaped (cs : CS) : SeqAt.shaped (dN cs) = true := by
  unfold SeqAt.shaped
  rw [Bool.and_eq_true_iff]
  refine ⟨dN_lay cs, decide_eq_true ?_⟩
  have i1 : ∀ l : List Nat, PyData.depth (.tuple (l.map intD)) ≤ 1 := fun l => dep_t fun _ _ => Nat.le_refl _
  have i2 : PyData.depth (.tuple (cs.done.map dNum)) ≤ 1 := dep_t fun x _ => by cases x <;> exact Nat.le_refl _
  have i3 : PyData.depth (.tuple ((canon cs.gained).map PyData.str)) ≤ 1 := dep_t fun x _ => Nat.le_refl _
  show max _ (max _ (max _ (max _ (max _ (max _ (max _ (max _ 0))))))) + 1 ≤ 64
  have h1 := i1 cs.S.opn
  have h2 := i1 (acceptedM cs.fates)
  have h3 := i1 (refusedM cs.fates)
  have h4 := i1 (innerM cs.S)
  have h5 := i1 cs.flick
  have h6 : PyData.depth (.int (cs.S.heard : Nat)) ≤ 1 := Nat.zero_le _
  refine Nat.succ_le_succ ?_
  refine Nat.le_trans (m := 1) ?_ (by decide)
  exact Nat.max_le.mpr ⟨i2, Nat.max_le.mpr ⟨h1, Nat.max_le.mpr ⟨h6, Nat.max_le.mpr ⟨h2, Nat.max_le.mpr ⟨h3, Nat.max_le.mpr ⟨h4, Nat.max_le.mpr ⟨h5, Nat.max_le.mpr ⟨i3, Nat.zero_le _⟩⟩⟩⟩⟩⟩⟩⟩
def NumAt (H : L2.Hp) (q : Addr) (cs : CS) : Prop := ∃ (a2 a3 a4 a5 a6 a7 a8 : Addr), H q = some (.lst [.ref a3, .ref a2, .int (cs.S.heard : Nat), .ref a4, .ref a5, .ref a6, .ref a7, .ref a8]) ∧
  H a2 = some (.tup (inL cs.S.opn)) ∧ H a3 = some (.tup (cs.done.map optI)) ∧ H a4 = some (.tup (inL (acceptedM cs.fates))) ∧ H a5 = some (.tup (inL (refusedM cs.fates))) ∧ H a6 = some (.tup (inL (innerM cs.S))) ∧ H a7 = some (.tup (inL cs.flick)) ∧ H a8 = some (.tup (stL (canon cs.gained)))
theorem NumAt.mono {H H' : L2.Hp} {q : Addr} {cs : CS} (h : NumAt H q cs) (s : Same H H') : NumAt H' q cs := by
  obtain ⟨a2, a3, a4, a5, a6, a7, a8, h0, h2, h3, h4, h5, h6, h7, h8⟩ := h
  exact ⟨a2, a3, a4, a5, a6, a7, a8, s _ _ h0, s _ _ h2, s _ _ h3, s _ _ h4, s _ _ h5, s _ _ h6, s _ _ h7, s _ _ h8⟩
theorem num_dp {K : PySem.W.Frag} {H : L2.Hp} {q : Addr} {cs : CS} (h : NumAt H q cs) : Dp K H (.ref q) (dN cs) := by
  obtain ⟨a2, a3, a4, a5, a6, a7, a8, h0, h2, h3, h4, h5, h6, h7, h8⟩ := h
  have it : ∀ {a : Addr} {l : List Nat}, H a = some (.tup (inL l)) → Dp K H (.ref a) (.tuple (l.map intD)) := fun {a l} h => .tup (SqT.of h) (dp_all fun x _ => .int _)
  refine .lst (SqL.of h0) (.cons (.tup (SqT.of h3) (dp_all fun x _ => dp_num x)) (.cons (it h2) (.cons (.int _) (.cons (it h4) (.cons (it h5) (.cons (it h6) (.cons (it h7) (.cons (.tup (SqT.of h8) (dp_all fun x _ => .str x)) .nil))))))))
section
variable {P : Program} {w : World} {K : PySem.W.Frag} {mg : Str → Option Value} {base : Heap}
def spNumbers (K : PySem.W.Frag) : Sp := fun vs H Q _ => ∃ (p : Addr) (N : Nm) (cs : CS), vs = [.ref p] ∧ PlayedAt K H p N cs ∧ cs.gained.Nodup ∧ (∀ x ∈ cs.gained, x ∈ G4) ∧ ∀ q H', Same H H' → NumAt H' q cs → Q (.ref q) H'
theorem h_l_numbers (C : Ctx K mg) : ∃ fd, Has P w K mg base 1 (He.fAd K ("_law_numbers", none)) ["_law_played_here"] (spNumbers K) fd := by
  refine has_of C.fn_l_numbers sc_l_numbers (fun vs H Q E h => ?_) (fun cdv A outer s H vs Q E hr h => ?_)
  · obtain ⟨p, N, cs, rfl, _⟩ := h
    rfl
  · obtain ⟨p, N, cs, rfl, ⟨dx, a1, a2, a3, a4, a5, a6, a7, a8, ys, h0, h1, h2, h3, h4, h5, h6, h7, h8, hp, hso⟩, hnd, hg, k⟩ := h
    have nd := sc_l_numbers.nd
    have ey := canon_is hnd hg hp hso
    subst ey
    refine ⟨_, (pss_cons (ps_set (i := 1) nd rfl (Or.inl rfl) (pe_lst (pa_cons (pe_fld (pv 0) rfl) (pa_cons (pe_fld (pv 0) rfl) (pa_cons (pe_fld (pv 0) rfl) (pa_cons (pe_fld (pv 0) rfl) (pa_cons (pe_fld (pv 0) rfl) pa_nil))))))) (pss_one (ps_ret (pe_op op_cat (pv 1) (pe_lst (pa_cons (pe_fld (pv 0) rfl) (pa_cons (pe_fld (pv 0) rfl) (pa_cons (pe_fld (pv 0) rfl) pa_nil)))))))), ?_⟩
    refine ⟨_, rfl, p, _, dx, _, _, rfl, h0, C.cls_Played, C.no_Played_done, rfl, _, rfl, p, _, dx, _, _, rfl, h0, C.cls_Played, C.no_Played_opened, rfl, _, rfl, p, _, dx, _, _, rfl, h0, C.cls_Played, C.no_Played_heard, rfl, _, rfl, p, _, dx, _, _, rfl, h0, C.cls_Played, C.no_Played_accepted, rfl, _, rfl, p, _, dx, _, _, rfl, h0, C.cls_Played, C.no_Played_refused, rfl, (by show 5 ≤ sizeLine; decide), fun q1 hq1 => ?_⟩
    have s1 := same_new (H := H) (p := q1) (o := HO.lst [.ref a3, .ref a2, .int (cs.S.heard : Nat), .ref a4, .ref a5]) hq1; have q11 : (upd H q1 (HO.lst [.ref a3, .ref a2, .int (cs.S.heard : Nat), .ref a4, .ref a5])) q1 = some (HO.lst [.ref a3, .ref a2, .int (cs.S.heard : Nat), .ref a4, .ref a5]) := upd_same; generalize upd H q1 (HO.lst [.ref a3, .ref a2, .int (cs.S.heard : Nat), .ref a4, .ref a5]) = H1 at s1 q11 ⊢
    have h01 := s1 _ _ h0
    refine ⟨_, rfl, _, rfl, p, _, dx, _, _, rfl, h01, C.cls_Played, C.no_Played_inside, rfl, _, rfl, p, _, dx, _, _, rfl, h01, C.cls_Played, C.no_Played_flickers, rfl, _, rfl, p, _, dx, _, _, rfl, h01, C.cls_Played, C.no_Played_goals, rfl, (by show 3 ≤ sizeLine; decide), fun q2 hq2 => ?_⟩
    have s2 := same_new (H := H1) (p := q2) (o := HO.lst [.ref a6, .ref a7, .ref a8]) hq2; have q22 : (upd H1 q2 (HO.lst [.ref a6, .ref a7, .ref a8])) q2 = some (HO.lst [.ref a6, .ref a7, .ref a8]) := upd_same; generalize upd H1 q2 (HO.lst [.ref a6, .ref a7, .ref a8]) = H2 at s2 q22 ⊢
    have s12 := s1.trans s2
    refine ⟨q1, q2, _, _, rfl, rfl, s2 _ _ q11, q22, (by show 8 ≤ sizeLine; decide), fun q3 hq3 => k q3 _ (Same.new s12 hq3) ?_⟩
    have sn := s12.trans (same_new (o := HO.lst ([.ref a3, .ref a2, .int (cs.S.heard : Nat), .ref a4, .ref a5] ++ [.ref a6, .ref a7, .ref a8])) hq3)
    exact ⟨a2, a3, a4, a5, a6, a7, a8, upd_same, sn _ _ h2, sn _ _ h3, sn _ _ h4, sn _ _ h5, sn _ _ h6, sn _ _ h7, sn _ _ h8⟩
end
end Hp
set_option Elab.async false
set_option linter.all false
set_option maxRecDepth 100000
set_option maxHeartbeats 4000000
namespace Hp
open PySem PySem.Spec PyProof.Rows L2
theorem merge_nodup : ∀ {kvs acc : List (L2.Key × V)}, ((acc ++ kvs).map (·.1)).Nodup → mergeK acc kvs = acc ++ kvs
  | [], acc, _ => (List.append_nil acc).symm
  | (k, v) :: r, acc, h => by
    have hk : valV acc k = none := valV_none fun p hp e => by
      rw [List.map_append, List.map_cons] at h
      have h2 := (List.nodup_append.mp h).2.2
      exact h2 p.1 (List.mem_map.mpr ⟨p, hp, rfl⟩) k List.mem_cons_self e
    have e : putK acc k v = acc ++ [(k, v)] := putK_new _ hk
    show mergeK (putK acc k v) r = acc ++ (k, v) :: r
    rw [e, merge_nodup (by rw [List.append_assoc]; exact h), List.append_assoc]
    rfl
theorem zkv_keys : ∀ {ws ys : List Str}, ws.length = ys.length → (zkv ws ys).map (·.1) = ws.map fun z => (Sum.inr z : L2.Key)
  | [], [], _ => rfl
  | [], _ :: _, h => by cases h
  | _ :: _, [], h => by cases h
  | w :: ws, y :: ys, h => by
    show Sum.inr w :: (zkv ws ys).map (·.1) = Sum.inr w :: ws.map fun z => (Sum.inr z : L2.Key)
    rw [zkv_keys (Nat.succ.inj h)]
theorem zkv_val : ∀ {ws ys : List Str} {i : Nat} {z y : Str}, ws.Nodup → ws[i]? = some z → ys[i]? = some y → valV (zkv ws ys) (Sum.inr z) = some (.str y)
  | [], _, _, _, _, _, h, _ => by cases h
  | _ :: _, [], _, _, _, _, _, h => by cases h
  | w :: ws, y0 :: ys, 0, z, y, _, h1, h2 => by
    cases h1
    cases h2
    show (List.find? _ ((Sum.inr w, V.str y0) :: zkv ws ys)).map (·.2) = _
    rw [List.find?_cons, decide_eq_true rfl]
    rfl
  | w :: ws, y0 :: ys, i + 1, z, y, hn, h1, h2 => by
    obtain ⟨n1, n2⟩ := List.nodup_cons.mp hn
    have ih := zkv_val (ws := ws) (ys := ys) (i := i) n2 h1 h2
    have ne : ¬ ((Sum.inr w : L2.Key) = Sum.inr z) := fun e => n1 (by rw [Sum.inr.inj e]; exact List.mem_of_getElem? h1)
    show (List.find? _ ((Sum.inr w, V.str y0) :: zkv ws ys)).map (·.2) = _
    rw [List.find?_cons, decide_eq_false ne]
    exact ih
theorem f22 : F22.Nodup ∧ F22.length = 22 ∧ (∀ z ∈ F22, z ∈ W44) ∧ (∀ z ∈ F22, PyData.canLay0 (.str z) = true) := by decide +kernel
theorem led_of {ys : List Str} (hp : ys.Perm F22) : ∃ f : Str → Str, (∀ z ∈ W22, valV (mergeK [] (zkv W22 ys)) (Sum.inr z) = some (.str (f z))) ∧ LedOk f := by
  have hl : ys.length = 22 := hp.length_eq.trans f22.2.1
  have hl2 : W22.length = ys.length := lay22.2.2.1.trans hl.symm
  have hn : ys.Nodup := hp.nodup_iff.mpr f22.1
  have hk : ((zkv W22 ys).map (·.1)).Nodup := by
    rw [zkv_keys hl2]
    exact nodup_map_inj lay22.2.1 fun a b _ _ e => Sum.inr.inj e
  have em : mergeK [] (zkv W22 ys) = zkv W22 ys := merge_nodup (acc := []) hk
  have ix : ∀ z ∈ W22, W22[W22.idxOf z]? = some z ∧ W22.idxOf z < ys.length := fun z hz => by
    have h1 := List.idxOf_lt_length_of_mem hz
    refine ⟨?_, by rw [← hl2]; exact h1⟩
    rw [List.getElem?_eq_getElem h1]
    exact congrArg some (List.getElem_idxOf h1)
  have gt : ∀ z ∈ W22, ys[W22.idxOf z]? = some ((ys[W22.idxOf z]?).getD "") := fun z hz => by
    rw [List.getElem?_eq_getElem (ix z hz).2]
    rfl
  refine ⟨fun z => (ys[W22.idxOf z]?).getD "", fun z hz => ?_, fun a b ha hb e => ?_, fun a ha => ?_⟩
  · rw [em]
    exact zkv_val lay22.2.1 (ix z hz).1 (gt z hz)
  · have e1 := gt a ha
    have e2 := gt b hb
    have e' : (ys[W22.idxOf a]?).getD "" = (ys[W22.idxOf b]?).getD "" := e
    rw [e'] at e1
    have ij := nodup_ix hn e1 e2
    have h1 := (ix a ha).1
    rw [ij, (ix b hb).1] at h1
    exact (Option.some.inj h1).symm
  · exact f22.2.2.1 _ (hp.mem_iff.mp (List.mem_of_getElem? (gt a ha)))
/-- the texts of both runs -/
theorem str_led {N : Nm} {f : Str → Str} {e : Ev} (h : e.In N) : e.str (N.led f) = match e with | .click i => (("click" : Str) ++ " ") ++ f (N.k i) | .other i => (("other" : Str) ++ " ") ++ f (N.k i) | e => e.str N := by
  cases e <;> rfl
theorem run_ok {N : Nm} {B : IB} {rows : List RowD} (hB : B.Ok N) (hro : ∀ r ∈ rows, r.Ok) : ∀ {es : List Ev} {cs : CS} {M : Nat}, cs.Ok N M → feasAll N B cs.sk es → M + 20 * es.length ≤ 4000 → (es.foldl (goM B rows) cs).Ok N (M + 20 * es.length)
  | [], cs, M, h, _, _ => h
  | e :: es, cs, M, h, hf, hM => by
    rw [List.length_cons] at hM ⊢
    have h1 := goM_ok (rows := rows) hB hro h hf.1 (by omega)
    have h2 := goM_sk (rows := rows) hB hro h hf.1 (by omega)
    have h3 := run_ok hB hro (es := es) h1 (by rw [h2]; exact hf.2) (by omega)
    rw [List.foldl_cons, show M + 20 * (es.length + 1) = M + 20 + 20 * es.length by omega]
    exact h3
theorem runM_ok {N : Nm} {B : IB} {rows : List RowD} (hN : N.Ok) (hB : B.Ok N) (hro : ∀ r ∈ rows, r.Ok) {es : List Ev} (hf : feasAll N B sk0 es) (hl : es.length ≤ 20) : (runM B rows es).Ok N (10 + 20 * es.length) :=
  run_ok hB hro (initC_ok hN hB (by decide) (by decide)) hf (by omega)
theorem feas_led {N : Nm} {B : IB} {f : Str → Str} {s : Sk} {e : Ev} (h : feas N B s e) : feas (N.led f) B s e := by
  cases e <;> exact h
theorem feasAll_led {N : Nm} {B : IB} {f : Str → Str} : ∀ {es : List Ev} {s : Sk}, feasAll N B s es → feasAll (N.led f) B s es
  | [], _, _ => True.intro
  | _ :: _, _, h => ⟨feas_led h.1, feasAll_led h.2⟩
theorem feasAll_in {N : Nm} {B : IB} : ∀ {es : List Ev} {s : Sk}, feasAll N B s es → ∀ e ∈ es, e.In N
  | [], _, _, _, h => by cases h
  | a :: r, s, h, e, he => by
    rcases List.mem_cons.mp he with rfl | q
    · exact h.1.in_
    · exact feasAll_in h.2 e q
theorem strs_lay {zs : List Str} (h : ∀ z ∈ zs, z ∈ W44) : PyData.canLay0 (.list (zs.map PyData.str)) = true := lay_all fun z hz => lay_w44 z (h z hz)
theorem strs_ne {K : PySem.W.Frag} {H : L2.Hp} {a b : Addr} {zs : List Str} {Q : VK} (ha : H a = some (.lst (stL zs))) (hb : H b = some (.lst (stL zs))) (h : ∀ z ∈ zs, z ∈ W44) (q : Q (.bl false) H) : rNeD K (.ref a) (.ref b) H Q := by
  have sh : SeqAt.shaped (.list (zs.map PyData.str)) = true := shaped_list (fun z hz => lay_w44 z (h z hz)) (fun _ _ => Nat.le_refl _)
  refine ⟨_, _, .lst (SqL.of ha) (dp_all fun x _ => .str x), .lst (SqL.of hb) (dp_all fun x _ => .str x), sh, sh, ?_⟩
  rw [SeqAt.eqv_refl _ (strs_lay h)]
  exact q
theorem num_ne {K : PySem.W.Frag} {H : L2.Hp} {a b : Addr} {cs : CS} {Q : VK} (ha : NumAt H a cs) (hb : NumAt H b cs) (q : Q (.bl false) H) : rNeD K (.ref a) (.ref b) H Q := by
  refine ⟨_, _, num_dp ha, num_dp hb, dN_shaped cs, dN_shaped cs, ?_⟩
  rw [SeqAt.eqv_refl _ (dN_lay cs)]
  exact q
end Hp
set_option Elab.async false
set_option linter.all false
set_option maxRecDepth 100000
set_option maxHeartbeats 4000000
namespace Hp
open PySem PySem.Spec PyProof.Rows L2
theorem Dl.add {F H H2 : L2.Hp} {d ce D : Addr} {o : HO} (h : Dl F H d ce) (s : Same H H2) (n : H D = Option.none) (e : H2 D = Option.some o) : ∃ F2, Same F F2 ∧ Dl F2 H2 d ce ∧ F2 D = Option.some o := by
  have q := h.mono s
  refine ⟨upd F D o, h.snew n, ⟨fun b u e' => ?_, ?_, ?_, q.da⟩, upd_same⟩
  · by_cases hb : b = D
    · subst hb
      rw [upd_same] at e'
      rw [e, ← e']
    · rw [upd_ne hb] at e'
      exact q.s _ _ e'
  · obtain ⟨⟨o, e'⟩, _⟩ := h.some
    rw [upd_ne (ne_of_none e' n)]
    exact h.nd
  · obtain ⟨_, ⟨o, e'⟩⟩ := h.some
    rw [upd_ne (ne_of_none e' n)]
    exact h.nc
def er2 (H : L2.Hp) (d ce : Addr) : L2.Hp := fun b => if b = d ∨ b = ce then none else H b
theorem er2_in {H : L2.Hp} {d ce b : Addr} {o : HO} (e : H b = some o) (h1 : b ≠ d) (h2 : b ≠ ce) : er2 H d ce b = some o := by
  show (if b = d ∨ b = ce then none else H b) = some o
  rw [if_neg (by rintro (q | q); exact h1 q; exact h2 q)]
  exact e
theorem er2_of {H : L2.Hp} {d ce b : Addr} {o : HO} (e : er2 H d ce b = some o) : H b = some o ∧ b ≠ d ∧ b ≠ ce := by
  have e' : (if b = d ∨ b = ce then none else H b) = some o := e
  split at e'
  · cases e'
  · rename_i h
    exact ⟨e', fun q => h (.inl q), fun q => h (.inr q)⟩
theorem er2_d {H : L2.Hp} {d ce : Addr} : er2 H d ce d = none ∧ er2 H d ce ce = none := ⟨if_pos (.inl rfl), if_pos (.inr rfl)⟩
theorem StL.er {H : L2.Hp} {d ce s g : Addr} {N : Nm} {Z : LS} (h : StL H s g N Z) (h1 : ∃ o u, H d = some (.frz o u)) (h2 : ∃ o u, H ce = some (.frz o u)) : StL (er2 H d ce) s g N Z := by
  obtain ⟨o1, u1, e1⟩ := h1
  obtain ⟨o2, u2, e2⟩ := h2
  have inn : ∀ {b : Addr} {o : HO}, H b = some o → (∀ x u, o ≠ .frz x u) → er2 H d ce b = some o := fun {b o} e n => er2_in e (fun q => by rw [q, e1] at e; exact n _ _ (Option.some.inj e).symm) (fun q => by rw [q, e2] at e; exact n _ _ (Option.some.inj e).symm)
  have lk : LK H (er2 H d ce) := ⟨fun q xs e => inn e (fun _ _ z => by cases z), fun q xs e => inn e (fun _ _ z => by cases z)⟩
  obtain ⟨ao, ak, ah, g1, g2, g3, g4⟩ := h.p.ex
  obtain ⟨a, b, c, d', e, k1, k2, k3, k4, k5, k6⟩ := h.ex
  exact ⟨h.ne, ⟨ao, ak, ah, inn g1 (fun _ _ z => by cases z), lk.l _ _ g2, lk.l _ _ g3, lk.l _ _ g4⟩, a, b, c, d', e, inn k1 (fun _ _ z => by cases z), k2.kept lk, lk.l _ _ k3, k4.kept lk, lk.l _ _ k5, lk.l _ _ k6⟩
theorem paired_mono {α β : Type} {F G : α → β → Prop} (h : ∀ a b, F a b → G a b) : ∀ {xs : List α} {ys : List β}, Paired F xs ys → Paired G xs ys
  | _, _, .nil => .nil
  | _, _, .cons r t => .cons (h _ _ r) (paired_mono h t)
theorem cut_small {z : Str} (h : z ∈ W22) : ("q" : Str).length + (cutS z (some 1) none).length ≤ sizeLine := small ((by decide +kernel : ∀ z ∈ W22, ("q" : Str).length + (cutS z (some 1) none).length ≤ 100000) z h)
section
variable {P : Program} {w : World} {K : PySem.W.Frag} {mg : Str → Option Value} {base : Heap}
def spLaw (K : PySem.W.Frag) : Sp := fun vs H Q _ => ∃ (sc : Addr) (zs : List Int), vs = [.ref sc] ∧ SqL K H sc (zs.map V.int) ∧ ∀ H', Q (.bl true) H'
theorem all_of {nm qual : Str} {st : Stmt} {N ps : List Str} {sp : Sp} {k : Nat} {f : Addr} (h : ∃ fd, FunD K nm qual (defArgs st) (defBody st) (defScope st) [] [] f fd ∧ Binds K fd ps []) (S : FnScope N ps (defScope st))
    (len : ∀ vs H Q E, sp vs H Q E → vs.length = ps.length)
    (body : ∀ (base : Heap) (cdv : Value) (A : Around) (outer : List Env) (s : Shared) (H : L2.Hp) (vs : List V) (Q : VK) (E : XK), Room k (A.deeper (envOfC qual (defScope st) s.heap.objs.size f cdv)) → sp vs H Q E →
      ∃ t, PSs (cxOf CX0 P w K mg base N qual (defScope st) f cdv A outer s H E).nox (defBody st) t ∧ t { nx := fun _ H' => Q .non H', rt := Q } (start N vs) H) :
    ∃ fd, FunD K nm qual (defArgs st) (defBody st) (defScope st) [] [] f fd ∧ ∀ base : Heap, FnOk P w K mg base CX0 (k + 1) f fd ps sp := by
  obtain ⟨fd, F, _⟩ := h
  refine ⟨fd, F, fun base => F.ok S len fun cdv A outer s H vs Q E hr hsp => ?_⟩
  obtain ⟨t, h1, h2⟩ := body base cdv A outer s H vs Q E hr hsp
  exact ⟨t, PSs.nox h1, h2⟩
theorem h_law (C : Ctx K mg) : ∃ fd, FunD K "law" "law" (defArgs s_law) (defBody s_law) (defScope s_law) [] [] (He.fAd K ("law", none)) fd ∧ ∀ base : Heap, FnOk P w K mg base CX0 12 (He.fAd K ("law", none)) fd ["_law_script"] (spLaw K) := by
  refine all_of C.fn_law sc_law (fun vs H Q E h => ?_) (fun base cdv A outer s0 H vs Q E hr h => ?_)
  · obtain ⟨sc, zs, rfl, _⟩ := h
    rfl
  · obtain ⟨fd1, G1⟩ := h_l_deal (P := P) (w := w) (base := base) C
    obtain ⟨fd2, G2⟩ := h_l_world (P := P) (w := w) (base := base) C
    obtain ⟨fd3, G3⟩ := h_l_mixed (P := P) (w := w) (base := base) C
    obtain ⟨fd4, G4⟩ := h_l_begun (P := P) (w := w) (base := base) C
    obtain ⟨fd5, G5⟩ := h_l_draw (P := P) (w := w) (base := base) C
    obtain ⟨fd6, G6⟩ := h_l_next (P := P) (w := w) (base := base) C
    obtain ⟨fd7, G7⟩ := h_l_happens (P := P) (w := w) (base := base) C
    obtain ⟨fd8, G8⟩ := h_l_page (P := P) (w := w) (base := base) C
    obtain ⟨fd9, G9, ds9, v9, b9⟩ := h_play (P := P) (w := w) (base := base) C
    obtain ⟨fdA, GA⟩ := h_l_led (P := P) (w := w) (base := base) C
    obtain ⟨fdB, GB⟩ := h_l_numbers (P := P) (w := w) (base := base) C
    obtain ⟨fdC, GC⟩ := h_book_init (P := P) (w := w) (base := base) C
    obtain ⟨fdD, GD⟩ := h_weaving_init (P := P) (w := w) (base := base) C
    obtain ⟨sc, zs, rfl, hsc, k⟩ := h
    have nd := sc_law.nd
    have hu := hu_of hr
    have hr5 : Room 5 _ := hr.mono (by decide)
    have hr4 : Room 4 _ := hr.mono (by decide)
    refine ⟨_, (pss_cons (ps_set (i := 1) nd rfl (Or.inl rfl) (pe_call G1.ok (hr.mono (by decide)) (by rfl) C.g_l_deal G1.kp G1.b .nil pass0 (pa_cons (pv 0) (pa_cons pe_int pa_nil)))) (pss_cons (ps_set (i := 2) nd rfl (Or.inl rfl) (pe_lst (pa_cons pe_str (pa_cons pe_str (pa_cons pe_str (pa_cons pe_str (pa_cons pe_str (pa_cons pe_str (pa_cons pe_str (pa_cons pe_str (pa_cons pe_str (pa_cons pe_str (pa_cons pe_str (pa_cons pe_str (pa_cons pe_str (pa_cons pe_str pa_nil)))))))))))))))) (pss_cons (ps_set (i := 2) nd rfl (Or.inl rfl) (pe_op op_cat (pv 2) (pe_lst (pa_cons pe_str (pa_cons pe_str (pa_cons pe_str (pa_cons pe_str (pa_cons pe_str (pa_cons pe_str (pa_cons pe_str (pa_cons pe_str pa_nil))))))))))) (pss_cons (ps_setLc (i := 3) (own := [("_law_word", 4)]) (g := gName 4) (tt := tYes) rfl nd rfl rfl rfl (pi_list (pv 2)) (blkOk_by (N := N_law) (sc := defScope s_law) (by decide +kernel)) (fun _ _ _ _ _ => (pg_name (i := 4) nd rfl (Or.inl rfl))) (fun _ _ _ _ _ => pts_nil) (fun _ _ _ _ _ => pe_ifExp (pt_cmpR op_lt (pe_callB (call_lenK K) (by rfl) C.f_len boot_len (pa_cons (pv 4) pa_nil)) pe_int (nomark _)) (pe_op op_add_str (pv 4) pe_str) (pe_op op_add_str pe_str (pe_slice sl_str (pv 4) (po_some pe_int) po_none)))) (pss_cons (ps_for PassesOwn.never rfl (pi_range1 (by rfl) C.f_range (pa_cons pe_int pa_nil)) (pg_name (i := 5) nd rfl (Or.inl rfl)) (pss_cons (ps_asg (pe_call G2.ok (hr.mono (by decide)) (by rfl) C.g_l_world G2.kp G2.b .nil pass0 (pa_cons (pv 1) pa_nil)) (pg_tup rfl (pgs_cons (pg_name (i := 6) nd rfl (Or.inl rfl)) (pgs_cons (pg_name (i := 7) nd rfl (Or.inl rfl)) pgs_nil)))) (pss_cons (ps_asg (pe_tup (pa_cons (pe_callTy (call_dictP rfl) (by rfl) C.f_dict boot_dict (pa_cons (pe_listZip rfl (by rfl) C.f_list (by rfl) C.f_zip (pa_cons (pv 2) (pa_cons (pe_call G3.ok (hr.mono (by decide)) (by rfl) C.g_l_mixed G3.kp G3.b .nil pass0 (pa_cons (pv 1) (pa_cons (pv 3) pa_nil))) pa_nil))) pa_nil)) (pa_cons (pe_lock (pe_lock (pe_call G4.ok (hr.mono (by decide)) (by rfl) C.g_l_begun G4.kp G4.b .nil pass0 (pa_cons (pv 6) pa_nil)))) (pa_cons (pe_lst pa_nil) (pa_cons (pe_lst pa_nil) pa_nil))))) (pg_tup rfl (pgs_cons (pg_name (i := 8) nd rfl (Or.inr rfl)) (pgs_cons (pg_name (i := 9) nd rfl (Or.inl rfl)) (pgs_cons (pg_name (i := 10) nd rfl (Or.inl rfl)) (pgs_cons (pg_name (i := 11) nd rfl (Or.inl rfl)) pgs_nil)))))) (C8.pss_cut (ps_for PassesOwn.never rfl (pi_range1 (by rfl) C.f_range (pa_cons (pe_call G5.ok (hr.mono (by decide)) (by rfl) C.g_l_draw G5.kp G5.b .nil pass0 (pa_cons (pv 1) (pa_cons pe_int pa_nil))) pa_nil)) (pg_name (i := 12) nd rfl (Or.inl rfl)) (pss_cons (ps_set (i := 13) nd rfl (Or.inl rfl) (pe_call G6.ok (hr.mono (by decide)) (by rfl) C.g_l_next G6.kp G6.b .nil pass0 (pa_cons (pv 1) (pa_cons (pv 6) (pa_cons (pv 9) pa_nil))))) (C8.pss_cut (ps_lock (ps_lock (ps_lock (ps_lock (ps_expr (pe_call G7.ok (hr.mono (by decide)) (by rfl) C.g_l_happens G7.kp G7.b .nil pass0 (pa_cons (pv 6) (pa_cons (pv 7) (pa_cons (pv 9) (pa_cons (pv 13) pa_nil)))))))))) (pss_cons (ps_expr (pe_bm PySem.F.plainAttrs_list PySem.F.slot_list_append PySem.F.type_list_append mt_append (pv 10) (pa_cons (pv 13) pa_nil))) (pss_cons (ps_set (i := 14) nd rfl (Or.inl rfl) (pe_split (pv 13) pe_str)) (pss_one (ps_expr (pe_bm PySem.F.plainAttrs_list PySem.F.slot_list_append PySem.F.type_list_append mt_append (pv 11) (pa_cons (pe_ifExp (pt_cmpR op_in_seq (pe_ix ix_list (pv 14) pe_int (fun _ _ => rfl)) (pe_tup (pa_cons pe_str (pa_cons pe_str pa_nil))) (by rfl)) (pe_op op_add_str (pe_op op_add_str (pe_ix ix_list (pv 14) pe_int (fun _ _ => rfl)) pe_str) (pe_dget hu (pv 8) (pe_ix ix_list (pv 14) pe_int (fun _ _ => rfl)) (fun _ _ => rfl))) (pv 13)) pa_nil))))))))) (pss_cons (ps_set (i := 15) nd rfl (Or.inl rfl) (pe_call G8.ok (hr.mono (by decide)) (by rfl) C.g_l_page G8.kp G8.b .nil pass0 (pa_cons (pv 7) pa_nil))) (pss_cons (ps_set (i := 16) nd rfl (Or.inl rfl) (pe_call G9.ok (hr.mono (by decide)) (by rfl) C.g_play G9.kp b9 v9 pass0 (pa_cons (pe_make C.mk_Book GC.ok hr5 (by rfl) C.g_Book GC.b .nil pass0 (pa_cons (pe_ix ix_tup (pv 6) pe_int (fun _ _ => rfl)) (pa_cons (pe_ix ix_tup (pv 6) pe_int (fun _ _ => rfl)) (pa_cons (pe_ix ix_tup (pv 6) pe_int (fun _ _ => rfl)) (pa_cons (pe_ix ix_tup (pv 6) pe_int (fun _ _ => rfl)) pa_nil))))) (pa_cons (pv 15) (pa_cons (pe_make C.mk_Weaving GD.ok hr4 (by rfl) C.g_Weaving GD.b .nil pass0 (pa_cons (pv 10) pa_nil)) pa_nil))))) (pss_cons (ps_set (i := 17) nd rfl (Or.inl rfl) (pe_call G9.ok (hr.mono (by decide)) (by rfl) C.g_play G9.kp b9 v9 pass0 (pa_cons (pe_call GA.ok (hr.mono (by decide)) (by rfl) C.g_l_led GA.kp GA.b .nil pass0 (pa_cons (pv 6) (pa_cons (pv 8) pa_nil))) (pa_cons (pv 15) (pa_cons (pe_make C.mk_Weaving GD.ok hr4 (by rfl) C.g_Weaving GD.b .nil pass0 (pa_cons (pv 11) pa_nil)) pa_nil))))) (pss_cons (ps_if (PW.pt (pw_or (pt_cmpR (op_neD hr.units) (pe_call GB.ok (hr.mono (by decide)) (by rfl) C.g_l_numbers GB.kp GB.b .nil pass0 (pa_cons (pv 16) pa_nil)) (pe_call GB.ok (hr.mono (by decide)) (by rfl) C.g_l_numbers GB.kp GB.b .nil pass0 (pa_cons (pv 17) pa_nil)) (nomark _)) (pw_or1 (pt_cmpR (op_neD hr.units) (pe_lc (own := [("_law_value", 18)]) (g := gName 18) (tt := tYes) rfl nd (pi_tup (pe_fld (pv 16) rfl)) (blkOk_by (N := N_law) (sc := defScope s_law) (by decide +kernel)) (fun _ _ _ _ _ => (pg_name (i := 18) nd rfl (Or.inl rfl))) (fun _ _ _ _ _ => pts_nil) (fun _ _ _ _ _ => (pe_dget hu (pv 8) (pv 18) (fun _ _ => rfl)))) (pe_callTy call_list_of (by rfl) C.f_list boot_list (pa_cons (pe_fld (pv 17) rfl) pa_nil)) (nomark _))))) (pss_one (ps_ret pe_bl)) pss_nil) (pss_one (ps_if (pt_cmpR (op_neD hr.units) (pe_lst (pa_cons (pe_dget hu (pv 8) (pe_fld (pv 16) rfl) (fun _ _ => rfl)) (pa_cons (pe_dget hu (pv 8) (pe_fld (pv 16) rfl) (fun _ _ => rfl)) pa_nil))) (pe_lst (pa_cons (pe_fld (pv 17) rfl) (pa_cons (pe_fld (pv 17) rfl) pa_nil))) (nomark _)) (pss_one (ps_ret pe_bl)) pss_nil)))))))))) (pss_one (ps_ret pe_bl))))))), ?_⟩
    refine ⟨_, rfl, sc, zs, rfl, hsc, fun H1 d ce s1 da n1 n2 => ?_⟩
    have D1 : Dl H H1 d ce := ⟨s1, n1, n2, da⟩
    refine ⟨(by show 14 ≤ sizeLine; decide), fun p1 hp1 => ?_⟩
    refine ⟨_, rfl, (by show 8 ≤ sizeLine; decide), fun p2 hp2 => ?_⟩
    have D2 := D1.new (o := .lst (stL W22a)) hp1
    have D3 := D2.new (o := .lst (stL W22b)) hp2
    have n12 : p1 ≠ p2 := fun e => by rw [← e, upd_same] at hp2; cases hp2
    refine ⟨p1, p2, stL W22a, stL W22b, rfl, rfl, (by rw [upd_ne n12]; exact upd_same), upd_same, (by show 22 ≤ sizeLine; decide), fun wd hwd => ?_⟩
    have ew : stL W22a ++ stL W22b = stL W22 := by unfold W22 stL; rw [List.map_append]
    rw [ew]
    have D4 := D3.new (o := .lst (stL W22)) hwd
    have w4 : (upd (upd (upd H1 p1 (.lst (stL W22a))) p2 (.lst (stL W22b))) wd (.lst (stL W22))) wd = some (.lst (stL W22)) := upd_same
    have fw4 : (upd (upd (upd H p1 (.lst (stL W22a))) p2 (.lst (stL W22b))) wd (.lst (stL W22))) wd = some (.lst (stL W22)) := upd_same
    generalize upd (upd (upd H p1 (.lst (stL W22a))) p2 (.lst (stL W22b))) wd (.lst (stL W22)) = F4 at D4 fw4
    have w22l : ∀ z ∈ W22, z.length ≤ 4 := fun z hz => (name_ok z (lay22.2.2.2 z hz)).1.2
    refine ⟨_, rfl, wd, rfl, ⟨_, SqL.of w4⟩, fun fr hfr => ?_⟩
    refine lc_m (walk_list (K := K) (xs := stL W22)) W22 (stL_len _) (by rw [lay22.2.2.1]; decide) (fun z => .str (freshW z)) hfr (fun H5 s5 => SqL.of (s5 _ _ w4)) (fun i z x H5 H5' Qy Qn hi s5 y k1 => ?_) (fun H5 s5 hL => ?_)
    · obtain ⟨rfl, e2⟩ := y
      obtain rfl : x = .str z := map_un hi e2
      have hz := w22l z (List.mem_of_getElem? hi)
      refine ⟨rfl, yesT ⟨_, rfl, _, z.length, rfl, ⟨len4 hz, rfl⟩, _, _, rfl, rfl, _, rfl, ite2 (fun h => ?_) (fun h => ?_)⟩⟩
      · have e : freshW z = z ++ "q" := by unfold freshW; rw [if_pos h]
        rw [e] at k1
        exact ⟨_, rfl, _, _, rfl, rfl, small (by show z.length + 1 ≤ _; omega), k1 _ (Same.refl _)⟩
      · have e : freshW z = "q" ++ cutS z (some 1) none := by unfold freshW; rw [if_neg h]
        rw [e] at k1
        exact ⟨_, rfl, 1, rfl, z, rfl, len4 hz, _, _, rfl, rfl, cut_small (List.mem_of_getElem? hi), k1 _ (Same.refl _)⟩
    have hL2 : H5 fr = some (.lst (stL F22)) := by rw [hL]; unfold F22 stL; rw [List.map_map]; rfl
    obtain ⟨F5, S5, D5, f5⟩ := Dl.add D4 s5 hfr hL2
    have fw5 := S5 _ _ fw4
    clear hL w4
    refine ⟨3, rfl, by decide, by decide, for_range (n := 3) (fun t σ' H' => ∃ (F' : L2.Hp) (x4 x5 x6 x7 x8 x9 x10 x11 x12 x13 x14 x15 x16 x17 x18 : Option V), Same F5 F' ∧ Dl F' H' d ce ∧ σ' = [some (.ref sc), some (.ref d), some (.ref wd), some (.ref fr), x4, x5, x6, x7, x8, x9, x10, x11, x12, x13, x14, x15, x16, x17, x18]) ⟨F5, _, _, _, _, _, _, _, _, _, _, _, _, _, _, _, Same.refl _, D5, rfl⟩ ?_ ?_⟩
    · rintro t σ' H6 ht ⟨F6, x4, x5, x6, x7, x8, x9, x10, x11, x12, x13, x14, x15, x16, x17, x18, S6, D6, rfl⟩
      refine ⟨_, rfl, F6, d, ce, rfl, D6, fun F7 H7 p pb pr N B L O rows S7 D7 ep hb hbk hrf hro hrl => ?_⟩
      refine ⟨p, _, rfl, SqT.of (D7.s _ _ ep), rfl, _, _, rfl, _, _, rfl, rfl, ?_⟩
      have S57 := S6.trans S7
      have fwd := S57 _ _ fw5
      have ffr := S57 _ _ f5
      refine ⟨_, rfl, _, rfl, _, rfl, F7, d, ce, fr, F22, rfl, D7, ffr, f22.2.2.2, (by rw [f22.2.1]; decide), fun F8 H8 pm ys S8 D8 em hpm => ?_⟩
      have hyl : W22.length = ys.length := lay22.2.2.1.trans (hpm.length_eq.trans f22.2.1).symm
      refine ⟨wd, pm, W22, ys, rfl, SqL.of (D8.s _ _ (S8 _ _ fwd)), SqL.of (D8.s _ _ em), hyl, fun H9 pz ts k9 nz ez hzP => ?_⟩
      refine ⟨pz, ts, zkv W22 ys, rfl, SqL.of ez, paired_mono (fun t q h => SqT.of h) hzP, fun ld hld => ?_⟩
      obtain ⟨f, hf1, hf2⟩ := led_of hpm
      have s8a : Same H8 (upd H9 ld (.dK (mergeK [] (zkv W22 ys)))) := fun b o e => same_new hld _ _ (k9 _ _ e)
      have nld : H8 ld = none := by
        cases e : H8 ld with
        | none => rfl
        | some o => rw [k9 _ _ e] at hld; cases hld
      obtain ⟨F10, S10, D10, e10⟩ := Dl.add D8 s8a nld upd_same
      have hled : LedAt F10 ld f := ⟨_, e10, hf1⟩
      have S810 := S8.trans S10
      generalize upd H9 ld (.dK (mergeK [] (zkv W22 ys))) = H10 at D10 s8a ⊢
      obtain ⟨ncd, cs0, bl0, hd10, hc10, hbl1, hbl2, hcs0, hcl0⟩ := id D10.da
      refine ⟨d, _, hd10, True.intro, fun od => ⟨ce, _, (upd_ne ncd).trans hc10, True.intro, fun oc => ?_⟩⟩
      have lockIn : ∀ {b : Addr} {o : HO}, H10 b = some o → b ≠ d → b ≠ ce → (upd (upd H10 d (.frz od (.lst [.ref ce, .int bl0]))) ce (.frz oc (.lst (cs0.map V.int)))) b = some o := fun {b o} e n1 n2 => by rw [upd_ne n2, upd_ne n1]; exact e
      have F10n : ∀ {b : Addr} {o : HO}, F10 b = some o → b ≠ d ∧ b ≠ ce := fun {b o} e => ⟨(fun q => by rw [q, D10.nd] at e; cases e), (fun q => by rw [q, D10.nc] at e; cases e)⟩
      have sLk : Same F10 (upd (upd H10 d (.frz od (.lst [.ref ce, .int bl0]))) ce (.frz oc (.lst (cs0.map V.int)))) := fun b o e => lockIn (D10.s _ _ e) (F10n e).1 (F10n e).2
      refine ⟨_, rfl, pb, N, B, L, O, rfl, (hb.mono S810).mono sLk, hbk, fun H11 s g s11 ns ng st11 => ?_⟩
      have fd11 : H11 d = some (.frz od (.lst [.ref ce, .int bl0])) := s11 _ _ ((upd_ne ncd.symm).trans upd_same)
      have fc11 : H11 ce = some (.frz oc (.lst (cs0.map V.int))) := s11 _ _ upd_same
      refine ⟨fc11, (upd_ne ncd.symm).trans fd11, ?_⟩
      have stF : StL (er2 H11 d ce) s g N initL := st11.er ⟨_, _, fd11⟩ ⟨_, _, fc11⟩
      have D11 : Dl (er2 H11 d ce) (upd (upd H11 ce (.lst (cs0.map V.int))) d (.lst [.ref ce, .int bl0])) d ce :=
        ⟨fun b o e => (upd_ne (er2_of e).2.1).trans ((upd_ne (er2_of e).2.2).trans (er2_of e).1), er2_d.1, er2_d.2, ncd, cs0, bl0, upd_same, (upd_ne ncd).trans upd_same, hbl1, hbl2, hcs0, hcl0⟩
      have S1011 : Same F10 (er2 H11 d ce) := fun b o e => er2_in (s11 _ _ (sLk _ _ e)) (F10n e).1 (F10n e).2
      have freeF : ∀ {b : Addr}, (upd (upd H10 d (.frz od (.lst [.ref ce, .int bl0]))) ce (.frz oc (.lst (cs0.map V.int)))) b = none → F10 b = none := fun {b} h => by
        cases e : F10 b with
        | none => rfl
        | some o => rw [sLk _ _ e] at h; cases h
      have fs := freeF ns
      have fg := freeF ng
      generalize upd (upd H11 ce (.lst (cs0.map V.int))) d (.lst [.ref ce, .int bl0]) = H12 at D11 ⊢
      generalize er2 H11 d ce = F11 at stF D11 S1011
      refine ⟨Nat.zero_le _, fun ev hev => ?_⟩
      have D12 := D11.new (o := .lst []) hev
      have S12 := D11.snew (o := .lst []) hev
      refine ⟨Nat.zero_le _, fun ot hot => ?_⟩
      have D13 := D12.new (o := .lst []) hot
      have S13 := D12.snew (o := .lst []) hot
      refine ⟨(by show 4 ≤ sizeLine; decide), fun tt htt => ?_⟩
      have D14 := D13.new (o := .tup [.ref ld, .ref s, .ref ev, .ref ot]) htt
      have S14 := D13.snew (o := .tup [.ref ld, .ref s, .ref ev, .ref ot]) htt
      have fev : F10 ev = none := by
        cases e : F10 ev with
        | none => rfl
        | some o => rw [D11.s _ _ (S1011 _ _ e)] at hev; cases hev
      have fot : F10 ot = none := by
        cases e : F10 ot with
        | none => rfl
        | some o => rw [D12.s _ _ (S12 _ _ (S1011 _ _ e))] at hot; cases hot
      have nev : ev ≠ ot := ne_of_none (upd_same (H := H12) (a := ev) (o := .lst [])) hot
      have eev := S14 _ _ (S13 _ _ (upd_same (H := F11) (a := ev) (o := .lst [])))
      have eot := S14 _ _ (upd_same (H := upd F11 ev (.lst [])) (a := ot) (o := .lst []))
      have st14 := stF.mono ((S12.trans S13).trans S14)
      have S1014 := ((S1011.trans S12).trans S13).trans S14
      have st14e : StL (er2 (upd (upd (upd F11 ev (.lst [])) ot (.lst [])) tt (.tup [.ref ld, .ref s, .ref ev, .ref ot])) ev ot) s g N initL := stF.mono fun b o e => er2_in (((S12.trans S13).trans S14) _ _ e) (ne_of_none (D11.s _ _ e) hev) (ne_of_none (D12.s _ _ (S12 _ _ e)) hot)
      have nts : tt ≠ s := fun z => by
        obtain ⟨_, _, _, _, _, y, _⟩ := stF.ex
        rw [z, D13.s _ _ (S13 _ _ (S12 _ _ y))] at htt
        cases htt
      refine ⟨tt, _, rfl, SqT.of upd_same, rfl, _, _, rfl, _, _, rfl, _, _, rfl, _, _, rfl, rfl, ?_⟩
      have hb10 := hb.mono S810
      have hrf10 := hrf.mono S810
      refine ⟨fun σ' H' => ∃ (F' : L2.Hp) (es : List Ev) (x5 x12 x13 x14 : Option V), σ' = [some (.ref sc), some (.ref d), some (.ref wd), some (.ref fr), x4, x5, some (.ref pb), some (.ref pr), some (.ref ld), some (.ref s), some (.ref ev), some (.ref ot), x12, x13, x14, x15, x16, x17, x18] ∧ Same F10 F' ∧ Dl F' H' d ce ∧ F' ev = some (.lst (stL (es.map (Ev.str N)))) ∧ F' ot = some (.lst (stL (es.map (Ev.str (N.led f))))) ∧ feasAll N B sk0 es ∧ es.length ≤ 16, ?_, ?_⟩
      · refine ⟨_, rfl, d, ce, 17, rfl, D14.da, by decide, by decide, fun H15 r15 gr15 da15 hr15 => ⟨(r15 : Int), rfl, by omega, by omega, ?_⟩⟩
        have D15 := D14.gr gr15 da15
        refine for_range (n := (r15 : Int).toNat) (fun i σ' H' => ∃ (F' : L2.Hp) (es : List Ev) (Z : LS) (x12 x13 x14 : Option V), σ' = [some (.ref sc), some (.ref d), some (.ref wd), some (.ref fr), x4, some (.int (0 + (t : Nat))), some (.ref pb), some (.ref pr), some (.ref ld), some (.ref s), some (.ref ev), some (.ref ot), x12, x13, x14, x15, x16, x17, x18] ∧ Same F10 F' ∧ Dl F' H' d ce ∧ F' ev = some (.lst (stL (es.map (Ev.str N)))) ∧ F' ot = some (.lst (stL (es.map (Ev.str (N.led f))))) ∧ feasAll N B sk0 es ∧ es.length = i ∧
          StL (er2 F' ev ot) s g N Z ∧ Z.Ok N (10 + 30 * i) ∧ Z.sk = es.foldl stepSk sk0 ∧ Z.moms.length = i + 1) ⟨_, [], initL, _, _, _, rfl, S1014, D15, eev, eot, True.intro, rfl, st14e, initL_ok hbk.n (by decide) (by decide), rfl, rfl⟩ ?_ ?_
        · rintro i σ' H16 hi ⟨F', es, Z, y12, y13, y14, rfl, S16, D16, e16, o16, hfe, hel, st16, ok16, sk16, ml16⟩
          have hi17 : i < 17 := by omega
          have hsk := sk16
          refine ⟨_, rfl, _, rfl, _, rfl, F', d, ce, pb, s, g, N, B, L, O, 10 + 30 * i, Z, rfl, D16, hb10.mono S16, hbk, st16.mono (fun b o e => (er2_of e).1), ok16, by omega, by omega, fun F1 H1 e S1 D1 he => ?_⟩
          obtain ⟨ncd1, cs1, bl1, hd1, hc1, hb11, hb12, hcs1, hcl1⟩ := id D1.da
          have st1e : StL (er2 F1 ev ot) s g N Z := st16.mono fun b o e => er2_in (S1 _ _ (er2_of e).1) (er2_of e).2.1 (er2_of e).2.2
          have st1 : StL F1 s g N Z := st1e.mono fun b o e => (er2_of e).1
          have e1 := S1 _ _ e16
          have o1 := S1 _ _ o16
          have F1n : ∀ {b : Addr} {o : HO}, F1 b = some o → b ≠ d ∧ b ≠ ce := fun {b o} e => ⟨(fun q => by rw [q, D1.nd] at e; cases e), (fun q => by rw [q, D1.nc] at e; cases e)⟩
          refine ⟨fun σ' H' => ∃ (F2 : L2.Hp) (Z2 : LS), σ' = [some (.ref sc), some (.ref d), some (.ref wd), some (.ref fr), x4, some (.int (0 + (t : Nat))), some (.ref pb), some (.ref pr), some (.ref ld), some (.ref s), some (.ref ev), some (.ref ot), some (.int (0 + (i : Nat))), some (.str (e.str N)), y14, x15, x16, x17, x18] ∧ Same F10 F2 ∧ Dl F2 H' d ce ∧ F2 ev = some (.lst (stL (es.map (Ev.str N)))) ∧ F2 ot = some (.lst (stL (es.map (Ev.str (N.led f))))) ∧ StL (er2 F2 ev ot) s g N Z2 ∧ Z2.Ok N (10 + 30 * i + 30) ∧ Z2.sk = stepSk Z.sk e, ?_, ?_⟩
          · refine ⟨d, _, hd1, True.intro, fun od => ⟨ce, _, (upd_ne ncd1).trans hc1, True.intro, fun oc => ⟨ev, _, (upd_ne (F1n e1).2).trans ((upd_ne (F1n e1).1).trans (D1.s _ _ e1)), True.intro, fun oe => ⟨ot, _, (upd_ne nev.symm).trans ((upd_ne (F1n o1).2).trans ((upd_ne (F1n o1).1).trans (D1.s _ _ o1))), True.intro, fun oo => ?_⟩⟩⟩⟩
            have sLk1 : ∀ {b : Addr} {o : HO}, F1 b = some o → b ≠ ev → b ≠ ot → (upd (upd (upd (upd H1 d (.frz od (.lst [.ref ce, .int bl1]))) ce (.frz oc (.lst (cs1.map V.int)))) ev (.frz oe (.lst (stL (es.map (Ev.str N)))))) ot (.frz oo (.lst (stL (es.map (Ev.str (N.led f))))))) b = some o := fun {b o} e n1 n2 => by
              rw [upd_ne n2, upd_ne n1, upd_ne (F1n e).2, upd_ne (F1n e).1]
              exact D1.s _ _ e
            have s10L : Same F10 (upd (upd (upd (upd H1 d (.frz od (.lst [.ref ce, .int bl1]))) ce (.frz oc (.lst (cs1.map V.int)))) ev (.frz oe (.lst (stL (es.map (Ev.str N)))))) ot (.frz oo (.lst (stL (es.map (Ev.str (N.led f))))))) := fun b o e => sLk1 (S1 _ _ (S16 _ _ e)) (fun q => by rw [q, fev] at e; cases e) (fun q => by rw [q, fot] at e; cases e)
            have stLk := st1e.mono (H' := upd (upd (upd (upd H1 d (.frz od (.lst [.ref ce, .int bl1]))) ce (.frz oc (.lst (cs1.map V.int)))) ev (.frz oe (.lst (stL (es.map (Ev.str N)))))) ot (.frz oo (.lst (stL (es.map (Ev.str (N.led f))))))) fun b o e => sLk1 (er2_of e).1 (er2_of e).2.1 (er2_of e).2.2
            refine ⟨_, rfl, _, rfl, _, rfl, _, rfl, F10, pb, pr, s, g, N, B, L, O, rows, 10 + 30 * i, Z, e, rfl, hb10, hbk, hrf10, hro, by omega, s10L, fs, fg, stLk, ok16, he.1, he.2, by omega, by omega, fun H2 Z2 gr2 st2 ok2 sk2 => ?_⟩
            obtain ⟨_, _, _, _, _, ys1, _⟩ := st1.ex
            obtain ⟨_, _, _, yg1, _⟩ := st1.p.ex
            have dv : d ≠ ev := (F1n e1).1.symm
            have cv : ce ≠ ev := (F1n e1).2.symm
            have dt : d ≠ ot := (F1n o1).1.symm
            have ct : ce ≠ ot := (F1n o1).2.symm
            have sv : s ≠ ev := fun q => by rw [q, e1] at ys1; cases ys1
            have gv : g ≠ ev := fun q => by rw [q, e1] at yg1; cases yg1
            have so : s ≠ ot := fun q => by rw [q, o1] at ys1; cases ys1
            have go : g ≠ ot := fun q => by rw [q, o1] at yg1; cases yg1
            have a1 := F1n ys1
            have a2 := F1n yg1
            have fo2 : H2 ot = some (.frz oo (.lst (stL (es.map (Ev.str (N.led f)))))) := gr2 _ _ upd_same (by simp [so.symm, go.symm])
            have fe2 : H2 ev = some (.frz oe (.lst (stL (es.map (Ev.str N))))) := gr2 _ _ ((upd_ne nev).trans upd_same) (by simp [sv.symm, gv.symm])
            have fc2 : H2 ce = some (.frz oc (.lst (cs1.map V.int))) := gr2 _ _ ((upd_ne ct).trans ((upd_ne cv).trans upd_same)) (by simp [a1.2.symm, a2.2.symm])
            have fd2 : H2 d = some (.frz od (.lst [.ref ce, .int bl1])) := gr2 _ _ ((upd_ne dt).trans ((upd_ne dv).trans ((upd_ne ncd1.symm).trans upd_same))) (by simp [a1.1.symm, a2.1.symm])
            refine ⟨fo2, (upd_ne nev).trans fe2, (upd_ne cv).trans ((upd_ne ct).trans fc2), (upd_ne ncd1.symm).trans ((upd_ne dv).trans ((upd_ne dt).trans fd2)), ?_⟩
            have stE := (st2.er ⟨_, _, fd2⟩ ⟨_, _, fc2⟩).er (d := ev) (ce := ot) ⟨_, _, er2_in fe2 dv.symm cv.symm⟩ ⟨_, _, er2_in fo2 dt.symm ct.symm⟩
            have nm : ∀ {b : Addr} {o : HO}, (upd (upd (er2 (er2 H2 d ce) ev ot) ot (.lst (stL (es.map (Ev.str (N.led f)))))) ev (.lst (stL (es.map (Ev.str N))))) b = some o → b ≠ ev → b ≠ ot → H2 b = some o ∧ b ≠ d ∧ b ≠ ce := fun {b o} e n1 n2 => by
              rw [upd_ne n1, upd_ne n2] at e
              exact er2_of (er2_of e).1
            refine ⟨upd (upd (er2 (er2 H2 d ce) ev ot) ot (.lst (stL (es.map (Ev.str (N.led f)))))) ev (.lst (stL (es.map (Ev.str N)))), Z2, rfl, ?_, ?_, upd_same, (upd_ne nev.symm).trans upd_same, stE.mono fun b o e => er2_in ((upd_ne (er2_of e).2.1).trans ((upd_ne (er2_of e).2.2).trans e)) (er2_of e).2.1 (er2_of e).2.2, ok2, sk2⟩
            · refine Same.put (Same.put (fun b o e => ?_) fot) fev
              have f1 := S1 _ _ (S16 _ _ e)
              have c1 : b ≠ s := fun q => by rw [q, fs] at e; cases e
              have c2 : b ≠ g := fun q => by rw [q, fg] at e; cases e
              exact er2_in (er2_in (gr2 _ _ (s10L _ _ e) (by simp [c1, c2])) (F1n f1).1 (F1n f1).2) (fun q => by rw [q, fev] at e; cases e) (fun q => by rw [q, fot] at e; cases e)
            · refine ⟨fun b o e => ?_, (upd_ne dv).trans ((upd_ne dt).trans ((if_neg (by rintro (q | q); exact dv q; exact dt q)).trans er2_d.1)), (upd_ne cv).trans ((upd_ne ct).trans ((if_neg (by rintro (q | q); exact cv q; exact ct q)).trans er2_d.2)), ncd1, cs1, bl1, upd_same, (upd_ne ncd1).trans upd_same, hb11, hb12, hcs1, hcl1⟩
              by_cases hbv : b = ev
              · subst hbv
                rw [upd_same] at e
                rw [upd_ne dv.symm, upd_ne cv.symm, upd_same]
                exact e
              by_cases hbt : b = ot
              · subst hbt
                rw [upd_ne nev.symm, upd_same] at e
                rw [upd_ne dt.symm, upd_ne ct.symm, upd_ne nev.symm, upd_same]
                exact e
              obtain ⟨e1', n1', n2'⟩ := nm e hbv hbt
              rw [upd_ne n1', upd_ne n2', upd_ne hbv, upd_ne hbt]
              exact e1'
          rintro σ' H2 ⟨F2, Z2, rfl, S2, D2, e2, o2, st2, ok2, sk2⟩
          have sz : ∀ g : Nm, (stL (es.map (Ev.str g))).length < sizeLine := fun g => smallL (by rw [stL_len, List.length_map]; omega)
          have D3 := D2.put (o := .lst (stL (es.map (Ev.str N)) ++ [.str (e.str N)])) e2
          have o3 : (upd F2 ev (.lst (stL (es.map (Ev.str N)) ++ [.str (e.str N)]))) ot = _ := (upd_ne nev.symm).trans o2
          obtain ⟨hsp, hel2⟩ := split_ev hbk.n he.1.in_
          have nst : ∀ {b : Addr} {kv : List (L2.Key × V)}, F2 b = some (.dK kv) → b ≠ ev := fun {b kv} h q => by rw [q, e2] at h; cases h
          refine ⟨_, rfl, .inl ⟨rfl, _, SqL.of (D2.s _ _ e2)⟩, _, rfl, ev, _, _, rfl, rfl, D2.s _ _ e2, sz N, ?_⟩
          refine ⟨_, rfl, ⟨_, rfl⟩, _, _, rfl, rfl, rfl, small (by omega), fun wp hwp => ?_⟩
          rw [show Txt.split (e.str N) (Str.ofString " ") = e.words N from hsp]
          have w1 := upd_same (H := upd H2 ev (.lst (stL (es.map (Ev.str N)) ++ [.str (e.str N)]))) (a := wp) (o := .lst (stL (e.words N)))
          have w0 : atI (stL (e.words N)) 0 = some (.str e.word) := atI_nat (j := 0) (stL_at (words_0 N e))
          have D4 := D3.mono (same_new (o := .lst (stL (e.words N))) hwp)
          refine ⟨_, rfl, .inl ⟨rfl, _, SqL.of (D4.s _ _ o3)⟩, _, rfl, wp, _, 0, _, rfl, rfl, SqL.of w1, w0, (by show 2 ≤ sizeLine; decide), fun q hq => ⟨q, twoN, rfl, .inr (SqT.of upd_same), rfl, rfl, _, rfl, ?_⟩⟩
          have D5 := D4.mono (same_new (o := .tup twoN) hq)
          have w5 := same_new (o := .tup twoN) hq _ _ w1
          have D6 := D5.put (o := .lst (stL (es.map (Ev.str (N.led f))) ++ [.str (e.str (N.led f))])) o3
          have foev : (upd (upd F2 ev (.lst (stL (es.map (Ev.str N)) ++ [.str (e.str N)]))) ot (.lst (stL (es.map (Ev.str (N.led f))) ++ [.str (e.str (N.led f))]))) ev = some (.lst (stL (es.map (Ev.str N)) ++ [.str (e.str N)])) := (upd_ne nev).trans upd_same
          have S6' : Same F10 (upd (upd F2 ev (.lst (stL (es.map (Ev.str N)) ++ [.str (e.str N)]))) ot (.lst (stL (es.map (Ev.str (N.led f))) ++ [.str (e.str (N.led f))]))) := Same.put (Same.put S2 fev) fot
          have lk6 : LK F2 (upd (upd F2 ev (.lst (stL (es.map (Ev.str N)) ++ [.str (e.str N)]))) ot (.lst (stL (es.map (Ev.str (N.led f))) ++ [.str (e.str (N.led f))]))) ∨ True := .inr True.intro
          have eS : ∀ g : Nm, stL (es.map (Ev.str g)) ++ [.str (e.str g)] = stL ((es ++ [e]).map (Ev.str g)) := fun g => by
            unfold stL
            rw [List.map_append, List.map_append]
            rfl
          have st6 : StL (er2 (upd (upd F2 ev (.lst (stL (es.map (Ev.str N)) ++ [.str (e.str N)]))) ot (.lst (stL (es.map (Ev.str (N.led f))) ++ [.str (e.str (N.led f))]))) ev ot) s g N Z2 := st2.mono fun b o e => er2_in ((upd_ne (er2_of e).2.2).trans ((upd_ne (er2_of e).2.1).trans (er2_of e).1)) (er2_of e).2.1 (er2_of e).2.2
          have fin : ∃ (F' : L2.Hp) (es' : List Ev) (Z : LS), Same F10 F' ∧ Dl F' (upd (upd (upd (upd H2 ev (.lst (stL (es.map (Ev.str N)) ++ [.str (e.str N)]))) wp (.lst (stL (e.words N)))) q (.tup twoN)) ot (.lst (stL (es.map (Ev.str (N.led f))) ++ [.str (e.str (N.led f))]))) d ce ∧ F' ev = some (.lst (stL (es'.map (Ev.str N)))) ∧ F' ot = some (.lst (stL (es'.map (Ev.str (N.led f))))) ∧ feasAll N B sk0 es' ∧ es'.length = i + 1 ∧
              StL (er2 F' ev ot) s g N Z ∧ Z.Ok N (10 + 30 * (i + 1)) ∧ Z.sk = es'.foldl stepSk sk0 ∧ Z.moms.length = i + 1 + 1 := by
            refine ⟨_, es ++ [e], Z2, S6', D6, ?_, ?_, feasAll_add hfe (by rw [← hsk]; exact he.1), by rw [List.length_append, hel]; rfl, st6, by rw [show 10 + 30 * (i + 1) = 10 + 30 * i + 30 by omega]; exact ok2, ?_, ?_⟩
            · rw [foev, eS]
            · rw [upd_same, eS]
            · rw [sk2, hsk, List.foldl_append]
              rfl
            · have h1 : Z2.sk.nm = Z2.moms.length := rfl
              rw [← h1, sk2]
              have h2 : (stepSk Z.sk e).nm = Z.sk.nm + 1 := by cases e <;> rfl
              rw [h2]
              show Z.moms.length + 1 = _
              rw [ml16]
          obtain ⟨F9, es9, Z9, z1, z2, z3, z4, z5, z6, z7, z8, z9, z10⟩ := fin
          obtain ⟨kvs, lk1, lk2⟩ := id hled
          cases e with
          | click m =>
            have hm : N.k m ∈ W22 := hbk.k m he.1
            have hfl : (f (N.k m)).length ≤ 4 := (name_ok _ (hf2.img _ hm)).1.2
            have w1' : atI (stL ((Ev.click m).words N)) 1 = some (.str (N.k m)) := rfl
            refine ifT rfl ⟨_, rfl, wp, _, 0, .str "click", rfl, rfl, SqL.of w5, w0, _, _, rfl, rfl, small (by decide), _, rfl, _, rfl, wp, _, 1, .str (N.k m), rfl, rfl, SqL.of w5, w1', ld, _, rfl, dgetS (D5.s _ _ (Same.put S2 fev _ _ lk1)) (lk2 _ hm), _, _, rfl, rfl, small (by show 6 + (f (N.k m)).length ≤ _; omega), ot, _, _, rfl, rfl, D5.s _ _ o3, sz (N.led f), ?_⟩
            exact ⟨F9, es9, Z9, _, _, _, rfl, z1, z2, z3, z4, z5, z6, z7, z8, z9, z10⟩
          | other m =>
            have hm : N.k m ∈ W22 := hbk.k m he.1.1
            have hfl : (f (N.k m)).length ≤ 4 := (name_ok _ (hf2.img _ hm)).1.2
            have w1' : atI (stL ((Ev.other m).words N)) 1 = some (.str (N.k m)) := rfl
            refine ifT rfl ⟨_, rfl, wp, _, 0, .str "other", rfl, rfl, SqL.of w5, w0, _, _, rfl, rfl, small (by decide), _, rfl, _, rfl, wp, _, 1, .str (N.k m), rfl, rfl, SqL.of w5, w1', ld, _, rfl, dgetS (D5.s _ _ (Same.put S2 fev _ _ lk1)) (lk2 _ hm), _, _, rfl, rfl, small (by show 6 + (f (N.k m)).length ≤ _; omega), ot, _, _, rfl, rfl, D5.s _ _ o3, sz (N.led f), ?_⟩
            exact ⟨F9, es9, Z9, _, _, _, rfl, z1, z2, z3, z4, z5, z6, z7, z8, z9, z10⟩
          | serve => exact ifF rfl ⟨_, rfl, ot, _, _, rfl, rfl, D5.s _ _ o3, sz (N.led f), F9, es9, Z9, _, _, _, rfl, z1, z2, z3, z4, z5, z6, z7, z8, z9, z10⟩
          | refuse => exact ifF rfl ⟨_, rfl, ot, _, _, rfl, rfl, D5.s _ _ o3, sz (N.led f), F9, es9, Z9, _, _, _, rfl, z1, z2, z3, z4, z5, z6, z7, z8, z9, z10⟩
          | answer m => exact ifF rfl ⟨_, rfl, ot, _, _, rfl, rfl, D5.s _ _ o3, sz (N.led f), F9, es9, Z9, _, _, _, rfl, z1, z2, z3, z4, z5, z6, z7, z8, z9, z10⟩
          | list m => exact ifF rfl ⟨_, rfl, ot, _, _, rfl, rfl, D5.s _ _ o3, sz (N.led f), F9, es9, Z9, _, _, _, rfl, z1, z2, z3, z4, z5, z6, z7, z8, z9, z10⟩
        · rintro σ' H16 ⟨F', es, Z, y12, y13, y14, rfl, S16, D16, e16, o16, hfe, hel, st16, ok16, sk16, ml16⟩
          exact ⟨F', es, _, _, _, _, rfl, S16, D16, e16, o16, hfe, by omega⟩
      rintro σ' H16 ⟨F', es, y5, y12, y13, y14, rfl, S16, D16, e16, o16, hfe, hel⟩
      have rok := runM_ok (rows := rows) hbk.n hbk.b hro hfe (by omega)
      have hN2 := led_ok hbk hf2
      have hfe2 := feasAll_led (f := f) hfe
      have hb16 := (hb10.mono S16).mono D16.s
      have hr16 := (hrf10.mono S16).mono D16.s
      have e16' := D16.s _ _ e16
      have o16' := D16.s _ _ o16
      have ld16 := (hled.mono S16).mono D16.s
      have SF : Same F5 F' := (S57.trans S810).trans S16
      -- the page
      refine ⟨_, rfl, pr, rows, rfl, hr16, hro, by omega, fun pg H17 s17 hpg => ?_⟩
      -- the first book, the first run
      have hb17 := hb16.mono s17
      obtain ⟨as_, ak, al, ao, b0, b1, b2, b3, b4⟩ := id hb17.ex
      refine ⟨_, rfl, pb, _, 0, .ref as_, rfl, rfl, SqT.of b0, rfl, _, rfl, pb, _, 1, .ref ak, rfl, rfl, SqT.of b0, rfl, _, rfl, pb, _, 2, .ref al, rfl, rfl, SqT.of b0, rfl, _, rfl, pb, _, 3, .ref ao, rfl, rfl, SqT.of b0, rfl, fun k1 dk1 hk1 hdk1 hne1 => ?_⟩
      have sm1 : Same H17 (upd (upd H17 dk1 (.own k1)) k1 (.ins (He.ga K "Book") dk1 [])) := (same_new hdk1).trans (same_new (by rw [upd_ne hne1.symm]; exact hk1))
      refine ⟨k1, dk1, as_, ak, al, ao, N, B, L, O, rfl, upd_same, sm1 _ _ b1, b2.mono sm1, sm1 _ _ b3, sm1 _ _ b4, hbk.n, hbk.b, hbk.ln, hbk.on, hbk.lk, hbk.ok, hbk.ll, hbk.ol, hbk.le, hbk.oe, fun H18 kp18 hB18 => ⟨rfl, ?_⟩⟩
      have s18 : Same H17 H18 := kp18.same sm1 hk1
      refine ⟨_, rfl, _, rfl, fun w1 dw1 hw1 hdw1 hnw1 => ?_⟩
      have sm2 : Same H18 (upd (upd H18 dw1 (.own w1)) w1 (.ins (He.ga K "Weaving") dw1 [])) := (same_new hdw1).trans (same_new (by rw [upd_ne hnw1.symm]; exact hw1))
      refine ⟨w1, dw1, ev, N, es, rfl, upd_same, sm2 _ _ (s18 _ _ (s17 _ _ e16')), hbk.n, feasAll_in hfe, by omega, fun H19 kp19 hW19 => ⟨rfl, ?_⟩⟩
      have s19 : Same H18 H19 := kp19.same sm2 hw1
      refine ⟨k1, pg, w1, N, B, rows, es, rfl, ⟨hB18.mono s19, hpg.mono (s18.trans s19), hbk.n, hbk.b, hro, by omega⟩, hW19, hfe, by omega, fun p1 H20 s20 hP1 => ?_⟩
      have s1720 : Same H17 H20 := (s18.trans s19).trans s20
      have s1620 : Same H16 H20 := s17.trans s1720
      -- the other book, the other run
      refine ⟨_, rfl, _, rfl, pb, ld, N, B, L, O, f, rfl, hb16.mono s1620, hbk, ld16.mono s1620, hf2, fun k2 H21 s21 hB21 => ?_⟩
      refine ⟨_, rfl, _, rfl, fun w2 dw2 hw2 hdw2 hnw2 => ?_⟩
      have sm3 : Same H21 (upd (upd H21 dw2 (.own w2)) w2 (.ins (He.ga K "Weaving") dw2 [])) := (same_new hdw2).trans (same_new (by rw [upd_ne hnw2.symm]; exact hw2))
      refine ⟨w2, dw2, ot, N.led f, es, rfl, upd_same, sm3 _ _ (s21 _ _ (s1620 _ _ o16')), hN2, feasAll_in hfe2, by omega, fun H22 kp22 hW22 => ⟨rfl, ?_⟩⟩
      have s22 : Same H21 H22 := kp22.same sm3 hw2
      refine ⟨k2, pg, w2, N.led f, B, rows, es, rfl, ⟨hB21.mono s22, hpg.mono (s1720.trans (s21.trans s22)), hN2, hbk.b, hro, by omega⟩, hW22, hfe2, by omega, fun p2 H23 s23 hP2 => ?_⟩
      have s2023 : Same H20 H23 := (s21.trans s22).trans s23
      have hP1' := hP1.mono s2023
      have ld23 := ld16.mono (s1620.trans s2023)
      have D23 := D16.mono (s1620.trans s2023)
      generalize runM B rows es = cs at rok hP1 hP1' hP2
      -- what is told of rows and clicks
      refine ⟨_, rfl, p1, N, cs, rfl, hP1', rok.gn, rok.gs, fun q1 H24 s24 hn1 => ⟨_, rfl, p2, N.led f, cs, rfl, hP2.mono s24, rok.gn, rok.gs, fun q2 H25 s25 hn2 => num_ne (hn1.mono s25) hn2 ⟨_, rfl, iteF ?_⟩⟩⟩
      have s2325 := s24.trans s25
      obtain ⟨dx1, a1, _, _, _, _, _, _, _, _, g0, g1, _⟩ := hP1'.mono s2325
      obtain ⟨dx2, a2, _, _, _, _, _, _, _, _, h0, h1, _⟩ := hP2.mono s2325
      obtain ⟨kvs, lk1, lk2⟩ := ld23.mono s2325
      have D25 := D23.mono s2325
      -- what is shown
      refine ⟨_, rfl, p1, _, dx1, _, _, rfl, g0, C.cls_Played, C.no_Played_shown, rfl, a1, rfl, ⟨_, SqT.of g1⟩, fun D hD => ?_⟩
      refine lc_m walk_tup cs.shown (by rw [stL_len, List.length_map]) (small (by have := rok.sl; omega)) (fun j => .str (f (N.v j))) hD (fun H26 t26 => SqT.of (t26 _ _ g1)) (fun i j x H26 H26' Qy Qn hi t26 y k1 => ?_) (fun H26 t26 hL => ?_)
      · obtain ⟨rfl, e2⟩ := y
        obtain rfl : x = .str (N.v j) := map_un (f := V.str) (map_at (f := N.v) hi) e2
        exact ⟨rfl, yesT ⟨_, rfl, _, rfl, ld, _, rfl, dgetS (t26 _ _ lk1) (lk2 _ (hbk.v j (rok.sv j (List.mem_of_getElem? hi)))), k1 _ (Same.refl _)⟩⟩
      have hL' : H26 D = some (.lst (stL (cs.shown.map (N.led f).v))) := by rw [hL]; unfold stL; rw [List.map_map]; rfl
      refine ⟨_, rfl, p2, _, dx2, _, _, rfl, t26 _ _ h0, C.cls_Played, C.no_Played_shown, rfl, a2, _, rfl, .inr (SqT.of (t26 _ _ h1)), fun l hl => ?_⟩
      refine strs_ne (same_new hl _ _ hL') upd_same (fun z hz => ?_) ⟨_, rfl, iteF ?_⟩
      · obtain ⟨j, hj, rfl⟩ := List.mem_map.mp hz
        exact hN2.vin j (rok.sv j hj)
      have t27 : Same H25 (upd H26 l (.lst (stL (cs.shown.map (N.led f).v)))) := t26.trans (same_new hl)
      generalize upd H26 l (.lst (stL (cs.shown.map (N.led f).v))) = H27 at t27 ⊢
      -- the field and the base
      refine ⟨_, rfl, _, rfl, p1, _, dx1, _, _, rfl, t27 _ _ g0, C.cls_Played, C.no_Played_value, rfl, ld, _, rfl, dgetS (t27 _ _ lk1) (lk2 _ (hbk.v _ rok.v)), _, rfl, _, rfl, p1, _, dx1, _, _, rfl, t27 _ _ g0, C.cls_Played, C.no_Played_base, rfl, ld, _, rfl, dgetS (t27 _ _ lk1) (lk2 _ (hbk.v _ rok.s.b)), (by show 2 ≤ sizeLine; decide), fun m1 hm1 => ?_⟩
      have t28 := t27.trans (same_new (o := .lst [.str (f (N.v cs.value)), .str (f (N.v cs.S.base))]) hm1)
      refine ⟨_, rfl, p2, _, dx2, _, _, rfl, t28 _ _ h0, C.cls_Played, C.no_Played_value, rfl, _, rfl, p2, _, dx2, _, _, rfl, t28 _ _ h0, C.cls_Played, C.no_Played_base, rfl, (by show 2 ≤ sizeLine; decide), fun m2 hm2 => ?_⟩
      refine strs_ne (zs := [f (N.v cs.value), f (N.v cs.S.base)]) (same_new hm2 _ _ upd_same) upd_same (fun z hz => ?_) ⟨_, rfl, iteF ?_⟩
      · rcases List.mem_cons.mp hz with rfl | hz
        · exact hf2.img _ (hbk.v _ rok.v)
        · rw [List.mem_singleton.mp hz]
          exact hf2.img _ (hbk.v _ rok.s.b)
      exact ⟨F', _, _, _, _, _, _, _, _, _, _, _, _, _, _, _, SF, D25.mono (t28.trans (same_new hm2)), rfl⟩
    · rintro σ' H6 ⟨F6, x4, x5, x6, x7, x8, x9, x10, x11, x12, x13, x14, x15, x16, x17, x18, S6, D6, rfl⟩
      exact k _
end
end Hp
set_option Elab.async false
set_option linter.all false
set_option maxRecDepth 100000
set_option maxHeartbeats 0
namespace Hp
open PySem PySem.Spec PyProof.Rows L2
theorem facts {P : Program} {w : World} {K : PySem.W.Frag} {h : Heap} {mg : Str → Option Value} {f : Addr} (X : K.In h) (G : h.Ns mainGlobals mg) (hfa : mg ("law" : Str) = some (.ref f)) (c : He.SaysD fal fnl K) (t : exB K = true) :
    ∃ fd : FuncData, (∀ (s : Shared) (v : Value), BindsTo s fd ⟨[v], []⟩ [("_law_script", v)]) ∧ ∀ base : Heap, K.In base → base.Ns mainGlobals mg → FnOk P w K mg base CX0 12 f fd ["_law_script"] (spLaw K) := by
  have C : Ctx K mg := ⟨⟨h, X, G⟩, c, t⟩
  obtain ⟨fd, F, hF⟩ := h_law (P := P) (w := w) C
  have e := hfa.symm.trans C.g_law
  cases e
  have b := FunD.bindsA (ps := ["_law_script"]) F fun _ _ _ _ _ _ us hl => match us, hl with | [_], _ => rfl
  exact ⟨fd, fun s v => b s [v] rfl, fun base _ _ => hF base⟩
end Hp
open PySem PySem.W PySem.Calls PyProof.Rows
theorem PySem.Challenge.cw_hastypage_k93_whole_other_names_in_runs_holds : PySem.Challenge.rw_hastypage_k93_whole_other_names_in_runs.Holds := by
  w_on; o_law
  refine HandSHeadRun.head_any (r := Hp.R) (q := Hp.qv) (H := Hp.hk) (ob := Hp.ob) (M := 60000) (loose := Hp.names) (d := HandSHeadRun.topDef Hp.R.prog 73) (kwd := []) Hp.ob_eq
    (by kernel_rfl) (fun s => by kernel_rfl) Hp.run (by kernel_rfl) (by kernel_rfl) (by kernel_rfl) (by rfl) (by first | assumption | decide +kernel) (by decide +kernel) ⟨rfl, rfl, rfl, rfl, rfl, by decide +kernel⟩ ?hw ?hc
  case hw => w_witness2
  case hc =>
    refine L2.walk_ofE (l := PySem.Challenge.rw_hastypage_k93_whole_other_names_in_runs) (n := 63) (k := 12) (x := "_law_script") (CX := L2.CX0) rfl (by decide) (by kernel_rfl) ⟨rfl, by decide, by decide⟩ ?F (fun _ _ _ _ z => z)
    intro w mg fa h Y G hmg0
    obtain ⟨K, KX, c, t⟩ := Y
    have hmg : mg ("law" : PySem.Str) = some (.ref fa) := by
      have e : (HandSHeadRun.topDef Hp.R.prog 73).name = ("law" : PySem.Str) := by kernel_rfl
      rw [← e]
      exact hmg0
    obtain ⟨fd, hb, hF⟩ := Hp.facts (P := (PySem.Challenge.rw_hastypage_k93_whole_other_names_in_runs).prog) (w := w) KX G hmg c t
    exact ⟨K, fd, Hp.spLaw K, KX, hb, fun H a ns hl _ hS => ⟨a, ns, rfl, hS, fun _ => rfl⟩, hF⟩
