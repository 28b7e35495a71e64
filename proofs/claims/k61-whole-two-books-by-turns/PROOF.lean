import PyProof.Rows.All
import Wide.All
import OpenK.AllK
import Wide.FinOn
import KE.KIntText
import HandS.ForMost
import HandS.Walk
import KE.GoesEnum
import KE.KDictPairs
import KE.KDictZip
import HandS.Strs
import KE.KEqDict
import KE.SortData
import HandS.SetKeys
import HandS.Zip
import HandS.More
import HandS.TupAny
import HandS.Deep
import HandS.CallRecv
import KE.DataEq
import KE.KStateDown
import HandS.Head0
import HandS.Head1
import HandS.Head2
import HandS.HeadEnd
import HandS.HeadHook1
import PySem.Challenge.RW_nameholes_k61_whole_two_books_by_turns
set_option Elab.async false
set_option linter.all false
set_option maxRecDepth 100000
set_option maxHeartbeats 0
set_option maxHeartbeats 0
namespace Nh
open PySem PySem.Spec PyProof.Rows L2
def topS (i : Nat) : Stmt := PySem.Challenge.pw_nameholes_k61_whole_two_books_by_turns.main.body.getD i (.Pass ⟨0, 0, 0, 0⟩)
abbrev s_all_within : Stmt := topS 9
abbrev s_book___init__ : Stmt := inClass (topS 34) 0
abbrev s_book_drop : Stmt := inClass (topS 34) 3
abbrev s_book_entry : Stmt := inClass (topS 34) 2
abbrev s_book_fitting : Stmt := inClass (topS 34) 6
abbrev s_book_is_narrower : Stmt := inClass (topS 34) 8
abbrev s_book_is_wider : Stmt := inClass (topS 34) 7
abbrev s_book_narrowest : Stmt := inClass (topS 34) 9
abbrev s_book_put : Stmt := inClass (topS 34) 1
abbrev s_book_rows_for : Stmt := inClass (topS 34) 5
abbrev s_book_rows_of : Stmt := inClass (topS 34) 10
abbrev s_book_same_entries : Stmt := inClass (topS 34) 11
abbrev s_book_word_of : Stmt := inClass (topS 34) 4
abbrev s_called_by : Stmt := topS 18
abbrev s_figures : Stmt := topS 22
abbrev s_free_names : Stmt := topS 8
abbrev s_is_bare : Stmt := topS 10
abbrev s_is_clear : Stmt := topS 16
abbrev s_l_anew_right : Stmt := topS 65
abbrev s_l_bound : Stmt := topS 42
abbrev s_l_cell_at : Stmt := topS 36
abbrev s_l_deed : Stmt := topS 58
abbrev s_l_emptied_right : Stmt := topS 66
abbrev s_l_entry : Stmt := topS 56
abbrev s_l_fits : Stmt := topS 60
abbrev s_l_fitting : Stmt := topS 61
abbrev s_l_free : Stmt := topS 49
abbrev s_l_given : Stmt := topS 46
abbrev s_l_hole : Stmt := topS 44
abbrev s_l_in_scope : Stmt := topS 54
abbrev s_l_laid : Stmt := topS 52
abbrev s_l_made : Stmt := topS 51
abbrev s_l_neat : Stmt := topS 47
abbrev s_l_part : Stmt := topS 45
abbrev s_l_put : Stmt := topS 57
abbrev s_l_question : Stmt := topS 59
abbrev s_l_rows : Stmt := topS 50
abbrev s_l_scope_of : Stmt := topS 53
abbrev s_l_size : Stmt := topS 55
abbrev s_l_stands : Stmt := topS 63
abbrev s_l_take : Stmt := topS 38
abbrev s_l_tape : Stmt := topS 37
abbrev s_l_term : Stmt := topS 43
abbrev s_l_tongue : Stmt := topS 40
abbrev s_l_words : Stmt := topS 39
abbrev s_laid_on : Stmt := topS 25
abbrev s_law : Stmt := topS 67
abbrev s_match : Stmt := topS 28
abbrev s_names_of : Stmt := topS 7
abbrev s_names_taken : Stmt := topS 23
abbrev s_neat : Stmt := topS 20
abbrev s_neat_in : Stmt := topS 33
abbrev s_neat_scope : Stmt := topS 32
abbrev s_part_called_by : Stmt := topS 19
abbrev s_rows_got : Stmt := topS 26
abbrev s_sort_in : Stmt := topS 14
abbrev s_sorter___init__ : Stmt := inClass (topS 13) 0
abbrev s_sorter_sort_of : Stmt := inClass (topS 13) 1
abbrev s_sorter_sort_of_form : Stmt := inClass (topS 13) 3
abbrev s_sorter_sort_of_hole : Stmt := inClass (topS 13) 2
abbrev s_sorts_of : Stmt := topS 31
abbrev s_straight_within : Stmt := topS 6
abbrev s_takes_names : Stmt := topS 15
abbrev s_told_of : Stmt := topS 12
abbrev s_wider : Stmt := topS 29
abbrev dn_straight_within : He.FnD := ⟨("straight_within", none), "straight_within", "straight_within", defArgs s_straight_within, defBody s_straight_within, defScope s_straight_within⟩
abbrev dn_names_of : He.FnD := ⟨("names_of", none), "names_of", "names_of", defArgs s_names_of, defBody s_names_of, defScope s_names_of⟩
abbrev dn_free_names : He.FnD := ⟨("free_names", none), "free_names", "free_names", defArgs s_free_names, defBody s_free_names, defScope s_free_names⟩
abbrev dn_all_within : He.FnD := ⟨("all_within", none), "all_within", "all_within", defArgs s_all_within, defBody s_all_within, defScope s_all_within⟩
abbrev dn_is_bare : He.FnD := ⟨("is_bare", none), "is_bare", "is_bare", defArgs s_is_bare, defBody s_is_bare, defScope s_is_bare⟩
abbrev dn_told_of : He.FnD := ⟨("told_of", none), "told_of", "told_of", defArgs s_told_of, defBody s_told_of, defScope s_told_of⟩
abbrev dn_sort_in : He.FnD := ⟨("sort_in", none), "sort_in", "sort_in", defArgs s_sort_in, defBody s_sort_in, defScope s_sort_in⟩
abbrev dn_takes_names : He.FnD := ⟨("takes_names", none), "takes_names", "takes_names", defArgs s_takes_names, defBody s_takes_names, defScope s_takes_names⟩
abbrev dn_is_clear : He.FnD := ⟨("is_clear", none), "is_clear", "is_clear", defArgs s_is_clear, defBody s_is_clear, defScope s_is_clear⟩
abbrev dn_called_by : He.FnD := ⟨("called_by", none), "called_by", "called_by", defArgs s_called_by, defBody s_called_by, defScope s_called_by⟩
abbrev dn_part_called_by : He.FnD := ⟨("part_called_by", none), "part_called_by", "part_called_by", defArgs s_part_called_by, defBody s_part_called_by, defScope s_part_called_by⟩
abbrev dn_neat : He.FnD := ⟨("neat", none), "neat", "neat", defArgs s_neat, defBody s_neat, defScope s_neat⟩
abbrev dn_figures : He.FnD := ⟨("figures", none), "figures", "figures", defArgs s_figures, defBody s_figures, defScope s_figures⟩
abbrev dn_names_taken : He.FnD := ⟨("names_taken", none), "names_taken", "names_taken", defArgs s_names_taken, defBody s_names_taken, defScope s_names_taken⟩
abbrev dn_laid_on : He.FnD := ⟨("laid_on", none), "laid_on", "laid_on", defArgs s_laid_on, defBody s_laid_on, defScope s_laid_on⟩
abbrev dn_rows_got : He.FnD := ⟨("rows_got", none), "rows_got", "rows_got", defArgs s_rows_got, defBody s_rows_got, defScope s_rows_got⟩
abbrev dn_match : He.FnD := ⟨("match", none), "match", "match", defArgs s_match, defBody s_match, defScope s_match⟩
abbrev dn_wider : He.FnD := ⟨("wider", none), "wider", "wider", defArgs s_wider, defBody s_wider, defScope s_wider⟩
abbrev dn_sorts_of : He.FnD := ⟨("sorts_of", none), "sorts_of", "sorts_of", defArgs s_sorts_of, defBody s_sorts_of, defScope s_sorts_of⟩
abbrev dn_neat_scope : He.FnD := ⟨("neat_scope", none), "neat_scope", "neat_scope", defArgs s_neat_scope, defBody s_neat_scope, defScope s_neat_scope⟩
abbrev dn_neat_in : He.FnD := ⟨("neat_in", none), "neat_in", "neat_in", defArgs s_neat_in, defBody s_neat_in, defScope s_neat_in⟩
abbrev dn_l_cell_at : He.FnD := ⟨("_law_cell_at", none), "_law_cell_at", "_law_cell_at", defArgs s_l_cell_at, defBody s_l_cell_at, defScope s_l_cell_at⟩
abbrev dn_l_tape : He.FnD := ⟨("_law_tape", none), "_law_tape", "_law_tape", defArgs s_l_tape, defBody s_l_tape, defScope s_l_tape⟩
abbrev dn_l_take : He.FnD := ⟨("_law_take", none), "_law_take", "_law_take", defArgs s_l_take, defBody s_l_take, defScope s_l_take⟩
abbrev dn_l_words : He.FnD := ⟨("_law_words", none), "_law_words", "_law_words", defArgs s_l_words, defBody s_l_words, defScope s_l_words⟩
abbrev dn_l_tongue : He.FnD := ⟨("_law_tongue", none), "_law_tongue", "_law_tongue", defArgs s_l_tongue, defBody s_l_tongue, defScope s_l_tongue⟩
abbrev dn_l_bound : He.FnD := ⟨("_law_bound", none), "_law_bound", "_law_bound", defArgs s_l_bound, defBody s_l_bound, defScope s_l_bound⟩
abbrev dn_l_term : He.FnD := ⟨("_law_term", none), "_law_term", "_law_term", defArgs s_l_term, defBody s_l_term, defScope s_l_term⟩
abbrev dn_l_hole : He.FnD := ⟨("_law_hole", none), "_law_hole", "_law_hole", defArgs s_l_hole, defBody s_l_hole, defScope s_l_hole⟩
abbrev dn_l_part : He.FnD := ⟨("_law_part", none), "_law_part", "_law_part", defArgs s_l_part, defBody s_l_part, defScope s_l_part⟩
abbrev dn_l_given : He.FnD := ⟨("_law_given", none), "_law_given", "_law_given", defArgs s_l_given, defBody s_l_given, defScope s_l_given⟩
abbrev dn_l_neat : He.FnD := ⟨("_law_neat", none), "_law_neat", "_law_neat", defArgs s_l_neat, defBody s_l_neat, defScope s_l_neat⟩
abbrev dn_l_free : He.FnD := ⟨("_law_free", none), "_law_free", "_law_free", defArgs s_l_free, defBody s_l_free, defScope s_l_free⟩
abbrev dn_l_rows : He.FnD := ⟨("_law_rows", none), "_law_rows", "_law_rows", defArgs s_l_rows, defBody s_l_rows, defScope s_l_rows⟩
abbrev dn_l_made : He.FnD := ⟨("_law_made", none), "_law_made", "_law_made", defArgs s_l_made, defBody s_l_made, defScope s_l_made⟩
abbrev dn_l_laid : He.FnD := ⟨("_law_laid", none), "_law_laid", "_law_laid", defArgs s_l_laid, defBody s_l_laid, defScope s_l_laid⟩
abbrev dn_l_scope_of : He.FnD := ⟨("_law_scope_of", none), "_law_scope_of", "_law_scope_of", defArgs s_l_scope_of, defBody s_l_scope_of, defScope s_l_scope_of⟩
abbrev dn_l_in_scope : He.FnD := ⟨("_law_in_scope", none), "_law_in_scope", "_law_in_scope", defArgs s_l_in_scope, defBody s_l_in_scope, defScope s_l_in_scope⟩
abbrev dn_l_size : He.FnD := ⟨("_law_size", none), "_law_size", "_law_size", defArgs s_l_size, defBody s_l_size, defScope s_l_size⟩
abbrev dn_l_entry : He.FnD := ⟨("_law_entry", none), "_law_entry", "_law_entry", defArgs s_l_entry, defBody s_l_entry, defScope s_l_entry⟩
abbrev dn_l_put : He.FnD := ⟨("_law_put", none), "_law_put", "_law_put", defArgs s_l_put, defBody s_l_put, defScope s_l_put⟩
abbrev dn_l_deed : He.FnD := ⟨("_law_deed", none), "_law_deed", "_law_deed", defArgs s_l_deed, defBody s_l_deed, defScope s_l_deed⟩
abbrev dn_l_question : He.FnD := ⟨("_law_question", none), "_law_question", "_law_question", defArgs s_l_question, defBody s_l_question, defScope s_l_question⟩
abbrev dn_l_fits : He.FnD := ⟨("_law_fits", none), "_law_fits", "_law_fits", defArgs s_l_fits, defBody s_l_fits, defScope s_l_fits⟩
abbrev dn_l_fitting : He.FnD := ⟨("_law_fitting", none), "_law_fitting", "_law_fitting", defArgs s_l_fitting, defBody s_l_fitting, defScope s_l_fitting⟩
abbrev dn_l_stands : He.FnD := ⟨("_law_stands", none), "_law_stands", "_law_stands", defArgs s_l_stands, defBody s_l_stands, defScope s_l_stands⟩
abbrev dn_l_anew_right : He.FnD := ⟨("_law_anew_right", none), "_law_anew_right", "_law_anew_right", defArgs s_l_anew_right, defBody s_l_anew_right, defScope s_l_anew_right⟩
abbrev dn_l_emptied_right : He.FnD := ⟨("_law_emptied_right", none), "_law_emptied_right", "_law_emptied_right", defArgs s_l_emptied_right, defBody s_l_emptied_right, defScope s_l_emptied_right⟩
abbrev dn_law : He.FnD := ⟨("law", none), "law", "law", defArgs s_law, defBody s_law, defScope s_law⟩
abbrev dn_sorter___init__ : He.FnD := ⟨("Sorter", some "__init__"), "__init__", "Sorter.__init__", defArgs s_sorter___init__, defBody s_sorter___init__, defScope s_sorter___init__⟩
abbrev dn_sorter_sort_of : He.FnD := ⟨("Sorter", some "sort_of"), "sort_of", "Sorter.sort_of", defArgs s_sorter_sort_of, defBody s_sorter_sort_of, defScope s_sorter_sort_of⟩
abbrev dn_sorter_sort_of_hole : He.FnD := ⟨("Sorter", some "sort_of_hole"), "sort_of_hole", "Sorter.sort_of_hole", defArgs s_sorter_sort_of_hole, defBody s_sorter_sort_of_hole, defScope s_sorter_sort_of_hole⟩
abbrev dn_sorter_sort_of_form : He.FnD := ⟨("Sorter", some "sort_of_form"), "sort_of_form", "Sorter.sort_of_form", defArgs s_sorter_sort_of_form, defBody s_sorter_sort_of_form, defScope s_sorter_sort_of_form⟩
abbrev dn_book___init__ : He.FnD := ⟨("Book", some "__init__"), "__init__", "Book.__init__", defArgs s_book___init__, defBody s_book___init__, defScope s_book___init__⟩
abbrev dn_book_put : He.FnD := ⟨("Book", some "put"), "put", "Book.put", defArgs s_book_put, defBody s_book_put, defScope s_book_put⟩
abbrev dn_book_entry : He.FnD := ⟨("Book", some "entry"), "entry", "Book.entry", defArgs s_book_entry, defBody s_book_entry, defScope s_book_entry⟩
abbrev dn_book_drop : He.FnD := ⟨("Book", some "drop"), "drop", "Book.drop", defArgs s_book_drop, defBody s_book_drop, defScope s_book_drop⟩
abbrev dn_book_word_of : He.FnD := ⟨("Book", some "word_of"), "word_of", "Book.word_of", defArgs s_book_word_of, defBody s_book_word_of, defScope s_book_word_of⟩
abbrev dn_book_rows_for : He.FnD := ⟨("Book", some "rows_for"), "rows_for", "Book.rows_for", defArgs s_book_rows_for, defBody s_book_rows_for, defScope s_book_rows_for⟩
abbrev dn_book_fitting : He.FnD := ⟨("Book", some "fitting"), "fitting", "Book.fitting", defArgs s_book_fitting, defBody s_book_fitting, defScope s_book_fitting⟩
abbrev dn_book_is_wider : He.FnD := ⟨("Book", some "is_wider"), "is_wider", "Book.is_wider", defArgs s_book_is_wider, defBody s_book_is_wider, defScope s_book_is_wider⟩
abbrev dn_book_is_narrower : He.FnD := ⟨("Book", some "is_narrower"), "is_narrower", "Book.is_narrower", defArgs s_book_is_narrower, defBody s_book_is_narrower, defScope s_book_is_narrower⟩
abbrev dn_book_narrowest : He.FnD := ⟨("Book", some "narrowest"), "narrowest", "Book.narrowest", defArgs s_book_narrowest, defBody s_book_narrowest, defScope s_book_narrowest⟩
abbrev dn_book_rows_of : He.FnD := ⟨("Book", some "rows_of"), "rows_of", "Book.rows_of", defArgs s_book_rows_of, defBody s_book_rows_of, defScope s_book_rows_of⟩
abbrev dn_book_same_entries : He.FnD := ⟨("Book", some "same_entries"), "same_entries", "Book.same_entries", defArgs s_book_same_entries, defBody s_book_same_entries, defScope s_book_same_entries⟩
def fn0 : List He.FnD := [dn_straight_within, dn_names_of, dn_free_names, dn_all_within, dn_is_bare, dn_told_of, dn_sort_in, dn_takes_names, dn_is_clear, dn_called_by, dn_part_called_by, dn_neat, dn_figures, dn_names_taken, dn_laid_on, dn_rows_got, dn_match, dn_wider, dn_sorts_of, dn_neat_scope, dn_neat_in, dn_l_cell_at, dn_l_tape, dn_l_take, dn_l_words, dn_l_tongue, dn_l_bound, dn_l_term, dn_l_hole, dn_l_part]
def fn1 : List He.FnD := [dn_l_given, dn_l_neat, dn_l_free, dn_l_rows, dn_l_made, dn_l_laid, dn_l_scope_of, dn_l_in_scope, dn_l_size, dn_l_entry, dn_l_put, dn_l_deed, dn_l_question, dn_l_fits, dn_l_fitting, dn_l_stands, dn_l_anew_right, dn_l_emptied_right, dn_law, dn_sorter___init__, dn_sorter_sort_of, dn_sorter_sort_of_hole, dn_sorter_sort_of_form, dn_book___init__, dn_book_put, dn_book_entry, dn_book_drop, dn_book_word_of, dn_book_rows_for, dn_book_fitting]
def fn2 : List He.FnD := [dn_book_is_wider, dn_book_is_narrower, dn_book_narrowest, dn_book_rows_of, dn_book_same_entries]
def fn : List He.FnD := fn0 ++ fn1 ++ fn2
def fa0 : List He.Fa := [.glo "straight_within", .glo "names_of", .glo "free_names", .glo "all_within", .glo "is_bare", .glo "told_of", .glo "sort_in", .glo "takes_names", .glo "is_clear", .glo "called_by", .glo "part_called_by", .glo "neat", .glo "figures", .glo "names_taken", .glo "laid_on", .glo "rows_got", .glo "match", .glo "wider", .glo "sorts_of", .glo "neat_scope", .glo "neat_in", .glo "_law_cell_at", .glo "_law_tape", .glo "_law_take", .glo "_law_words", .glo "_law_tongue", .glo "_law_bound", .glo "_law_term", .glo "_law_hole", .glo "_law_part"]
def fa1 : List He.Fa := [.glo "_law_given", .glo "_law_neat", .glo "_law_free", .glo "_law_rows", .glo "_law_made", .glo "_law_laid", .glo "_law_scope_of", .glo "_law_in_scope", .glo "_law_size", .glo "_law_entry", .glo "_law_put", .glo "_law_deed", .glo "_law_question", .glo "_law_fits", .glo "_law_fitting", .glo "_law_stands", .glo "_law_anew_right", .glo "_law_emptied_right", .glo "law", .keep "straight_within", .keep "names_of", .keep "free_names", .keep "all_within", .keep "is_bare", .keep "told_of", .keep "sort_in", .keep "takes_names", .keep "is_clear", .keep "called_by", .keep "part_called_by"]
def fa2 : List He.Fa := [.keep "neat", .keep "figures", .keep "names_taken", .keep "laid_on", .keep "rows_got", .keep "match", .keep "wider", .keep "sorts_of", .keep "neat_scope", .keep "neat_in", .keep "_law_cell_at", .keep "_law_tape", .keep "_law_take", .keep "_law_words", .keep "_law_tongue", .keep "_law_bound", .keep "_law_term", .keep "_law_hole", .keep "_law_part", .keep "_law_given", .keep "_law_neat", .keep "_law_free", .keep "_law_rows", .keep "_law_made", .keep "_law_laid", .keep "_law_scope_of", .keep "_law_in_scope", .keep "_law_size", .keep "_law_entry", .keep "_law_put"]
def fa3 : List He.Fa := [.keep "_law_deed", .keep "_law_question", .keep "_law_fits", .keep "_law_fitting", .keep "_law_stands", .keep "_law_anew_right", .keep "_law_emptied_right", .keep "law", .free "len", .free "sorted", .free "all", .free "any", .free "max", .free "min", .free "sum", .free "abs", .free "tuple", .free "list", .free "dict", .free "str", .free "int", .free "set", .free "range", .free "zip", .free "enumerate", .glo "Sorter", .cls "Sorter", .mkr "Sorter", .noat "Sorter" "forms", .noat "Sorter" "holes"]
def fa4 : List He.Fa := [.glo "Book", .cls "Book", .mkr "Book", .noat "Book" "tongue", .noat "Book" "entries", .noat "Book" "next_number", .meth "Sorter" "__init__", .meth "Sorter" "sort_of", .meth "Sorter" "sort_of_hole", .meth "Sorter" "sort_of_form", .meth "Book" "__init__", .meth "Book" "put", .meth "Book" "entry", .meth "Book" "drop", .meth "Book" "word_of", .meth "Book" "rows_for", .meth "Book" "fitting", .meth "Book" "is_wider", .meth "Book" "is_narrower", .meth "Book" "narrowest", .meth "Book" "rows_of", .meth "Book" "same_entries"]
def fa : List He.Fa := fa0 ++ fa1 ++ fa2 ++ fa3 ++ fa4
def loose0 : List PySem.Str := ["TermError", "NoNumber", "NoEntry", "NoFit", "straight_within", "names_of", "free_names", "all_within", "is_bare", "told_of", "Sorter", "sort_in", "takes_names", "is_clear", "called_by", "part_called_by", "neat", "figures", "names_taken", "laid_on", "rows_got", "match", "wider", "sorts_of", "neat_scope", "neat_in", "Book", "_law_cell_at", "_law_tape", "_law_take"]
def loose1 : List PySem.Str := ["_law_words", "_law_tongue", "_law_scope", "_law_bound", "_law_term", "_law_hole", "_law_part", "_law_given", "_law_neat", "_law_standing", "_law_free", "_law_rows", "_law_made", "_law_laid", "_law_scope_of", "_law_in_scope", "_law_size", "_law_entry", "_law_put", "_law_deed", "_law_question", "_law_fits", "_law_fitting", "_law_is_wider", "_law_stands", "_law_copied", "_law_anew_right", "_law_emptied_right"]
def loose : List PySem.Str := loose0 ++ loose1
abbrev R : PySem.W.OpenRow := PySem.W.OpenLaw.row PySem.Challenge.rw_nameholes_k61_whole_two_books_by_turns
abbrev hk : PySem.W.Hook := He.hookE 5 fa fn
def ob (s : PySem.W.SharedT) : He.Al := He.obsG 5 fa fn (HandSHeadRun.getT s)
theorem ob_eq (s : PySem.W.SharedT) : ob s = hk.obs s.abs := He.obsG_eq (HandSHeadRun.getT_eq s)
theorem run (w : World) : HandSHeadRun.RunEq R (PySem.W.view R.prog [67]) hk ob 6000 loose w := by
  intro os
  kernel_rfl
end Nh
/-! ## NhA -/
namespace Nh
open PySem

/-! ### terms -/
inductive Tm where
  | name (x : Str)
  | hole (h : Str) (xs : List Str)
  | form (f : Str) (ps : List (List Str × Tm))

theorem Tm.lt_of_mem {f : Str} {ps : List (List Str × Tm)} {p : List Str × Tm} (hp : p ∈ ps) : sizeOf p.2 < sizeOf (Tm.form f ps) := by
  have h := List.sizeOf_lt_of_mem hp
  obtain ⟨a, b⟩ := p
  simp only [Prod.mk.sizeOf_spec, Tm.form.sizeOf_spec] at *
  omega
theorem Tm.ind {P : Tm → Prop} (hn : ∀ x, P (.name x)) (hh : ∀ h xs, P (.hole h xs)) (hf : ∀ f ps, (∀ p ∈ ps, P p.2) → P (.form f ps)) : ∀ t, P t
  | .name x => hn x
  | .hole h xs => hh h xs
  | .form f ps => hf f ps fun p hp => Tm.ind hn hh hf p.2
termination_by t => sizeOf t
decreasing_by exact Tm.lt_of_mem hp

/-! ### figures -/
def fig (k : Nat) : Str := Str.ofString (toString ((k : Nat) : Int))
theorem fig_inj {i j : Nat} (h : fig i = fig j) : i = j := by
  have e := congrArg (fun z : Str => PySem.NumText.digitsVal z.cps.toList) h
  simp only [fig, PySem.W.KIN.signs_num, PySem.W.KIN.val_back] at e
  exact e
theorem fig_ne {i j : Nat} (h : i ≠ j) : fig i ≠ fig j := fun e => h (fig_inj e)
def figs (lv n : Nat) : List Str := (List.range n).map fun i => fig (lv + i)
theorem figs_length (lv n : Nat) : (figs lv n).length = n := by simp [figs]
theorem mem_figs {lv n : Nat} {x : Str} : x ∈ figs lv n ↔ ∃ i, i < n ∧ x = fig (lv + i) := by
  simp only [figs, List.mem_map, List.mem_range]
  exact ⟨fun ⟨i, h, e⟩ => ⟨i, h, e.symm⟩, fun ⟨i, h, e⟩ => ⟨i, h, e.symm⟩⟩
theorem figs_get {lv n i : Nat} (h : i < n) : (figs lv n)[i]? = some (fig (lv + i)) := by
  simp [figs, h]
theorem nodup_map_inj {α β : Type} {f : α → β} : ∀ {l : List α}, (∀ x ∈ l, ∀ y ∈ l, f x = f y → x = y) → l.Nodup → (l.map f).Nodup
  | [], _, _ => List.nodup_nil
  | a :: l, h, hn => by
    obtain ⟨h1, h2⟩ := List.nodup_cons.mp hn
    rw [List.map_cons]
    refine List.nodup_cons.mpr ⟨fun hm => ?_, nodup_map_inj (fun x hx y hy => h x (List.mem_cons_of_mem _ hx) y (List.mem_cons_of_mem _ hy)) h2⟩
    obtain ⟨b, hb, e⟩ := List.mem_map.mp hm
    have := h b (List.mem_cons_of_mem _ hb) a List.mem_cons_self e
    subst this
    exact h1 hb
theorem figs_nodup (lv n : Nat) : (figs lv n).Nodup := nodup_map_inj (fun x _ y _ e => by have := fig_inj e; omega) List.nodup_range

/-! ### functions changed at some places, one after another -/
def updF {α : Type} (ν : Str → α) (kvs : List (Str × α)) : Str → α := kvs.foldl (fun ν p x => if x = p.1 then p.2 else ν x) ν
theorem updF_notin {α : Type} : ∀ {kvs : List (Str × α)} {ν : Str → α} {x : Str}, x ∉ kvs.map (·.1) → updF ν kvs x = ν x
  | [], _, _, _ => rfl
  | p :: r, ν, x, h => by
    rw [List.map_cons, List.mem_cons, not_or] at h
    show updF (fun x => if x = p.1 then p.2 else ν x) r x = ν x
    rw [updF_notin h.2, if_neg h.1]
theorem updF_mem {α : Type} : ∀ {kvs : List (Str × α)} {ν : Str → α} {x : Str} {v : α}, (kvs.map (·.1)).Nodup → (x, v) ∈ kvs → updF ν kvs x = v
  | [], _, _, _, _, h => by cases h
  | p :: r, ν, x, v, hn, h => by
    rw [List.map_cons] at hn
    obtain ⟨h1, h2⟩ := List.nodup_cons.mp hn
    show updF (fun x => if x = p.1 then p.2 else ν x) r x = v
    rcases List.mem_cons.mp h with e | h
    · subst e
      rw [updF_notin h1, if_pos rfl]
    · exact updF_mem h2 h
theorem zip_map_fst {α β : Type} : ∀ {xs : List α} {ys : List β}, xs.length = ys.length → (xs.zip ys).map (·.1) = xs
  | [], [], _ => rfl
  | x :: xs, y :: ys, h => by
    rw [List.zip_cons_cons, List.map_cons, zip_map_fst (by simpa using h)]
theorem updZ_get {α : Type} {ν : Str → α} {bs : List Str} {vs : List α} (hl : bs.length = vs.length) (hn : bs.Nodup) {i : Nat} {b : Str} {v : α} (h1 : bs[i]? = some b) (h2 : vs[i]? = some v) : updF ν (bs.zip vs) b = v := by
  refine updF_mem (by rw [zip_map_fst hl]; exact hn) ?_
  rw [List.mem_iff_getElem?]
  exact ⟨i, by rw [List.getElem?_zip_eq_some]; exact ⟨h1, h2⟩⟩
theorem updZ_notin {α : Type} {ν : Str → α} {bs : List Str} {vs : List α} (hl : bs.length = vs.length) {x : Str} (h : x ∉ bs) : updF ν (bs.zip vs) x = ν x :=
  updF_notin (by rw [zip_map_fst hl]; exact h)
/-- a list of names bound at a level -/
abbrev bindN (ν : Str → Str) (bs : List Str) (lv : Nat) : Str → Str := updF ν (bs.zip (figs lv bs.length))
theorem bindN_get {ν : Str → Str} {bs : List Str} {lv i : Nat} {b : Str} (hn : bs.Nodup) (h : bs[i]? = some b) : bindN ν bs lv b = fig (lv + i) :=
  updZ_get (figs_length _ _).symm hn h (figs_get (List.getElem?_eq_some_iff.mp h).1)
theorem bindN_notin {ν : Str → Str} {bs : List Str} {lv : Nat} {x : Str} (h : x ∉ bs) : bindN ν bs lv x = ν x := updZ_notin (figs_length _ _).symm h
theorem mem_get {α : Type} {l : List α} {x : α} (h : x ∈ l) : ∃ i, i < l.length ∧ l[i]? = some x := by
  obtain ⟨i, e⟩ := List.mem_iff_getElem?.mp h
  exact ⟨i, (List.getElem?_eq_some_iff.mp e).1, e⟩
theorem get_mem {α : Type} {l : List α} {i : Nat} {x : α} (h : l[i]? = some x) : x ∈ l := List.mem_iff_getElem?.mpr ⟨i, h⟩
theorem get_ex {α : Type} {l : List α} {i : Nat} (h : i < l.length) : ∃ x, l[i]? = some x := ⟨l[i], List.getElem?_eq_getElem h⟩

/-! ### names called otherwise; holes filled -/
/-- rows: what a hole is filled by -/
abbrev Rw := Str → Option (List Str × Tm)
def ren (ν : Str → Str) (lv : Nat) : Tm → Tm
  | .name x => .name (ν x)
  | .hole h xs => .hole h (xs.map ν)
  | .form f ps => .form f (ps.map fun p => (figs lv p.1.length, ren (bindN ν p.1 lv) (lv + p.1.length) p.2))
termination_by t => sizeOf t
decreasing_by exact Tm.lt_of_mem (by assumption)
theorem ren_name (ν : Str → Str) (lv : Nat) (x : Str) : ren ν lv (.name x) = .name (ν x) := by rw [ren]
theorem ren_hole (ν : Str → Str) (lv : Nat) (h : Str) (xs) : ren ν lv (.hole h xs) = .hole h (xs.map ν) := by rw [ren]
theorem ren_form (ν : Str → Str) (lv : Nat) (f : Str) (ps) : ren ν lv (.form f ps) = .form f (ps.map fun p => (figs lv p.1.length, ren (bindN ν p.1 lv) (lv + p.1.length) p.2)) := by rw [ren]
/-- what a filled hole comes to -/
def fill (ρ : Rw) (ν : Str → Str) (lv : Nat) (h : Str) (xs : List Str) : Tm :=
  match ρ h with
  | none => .hole h (xs.map ν)
  | some (own, body) => ren (updF (fun x => x) (own.zip (xs.map ν))) lv body
def giv (ρ : Rw) (ν : Str → Str) (lv : Nat) : Tm → Tm
  | .name x => .name (ν x)
  | .hole h xs => fill ρ ν lv h xs
  | .form f ps => .form f (ps.map fun p => (figs lv p.1.length, giv ρ (bindN ν p.1 lv) (lv + p.1.length) p.2))
termination_by t => sizeOf t
decreasing_by exact Tm.lt_of_mem (by assumption)
theorem giv_name (ρ : Rw) (ν : Str → Str) (lv : Nat) (x : Str) : giv ρ ν lv (.name x) = .name (ν x) := by rw [giv]
theorem giv_hole (ρ : Rw) (ν : Str → Str) (lv : Nat) (h : Str) (xs) : giv ρ ν lv (.hole h xs) = fill ρ ν lv h xs := by rw [giv]
theorem giv_form (ρ : Rw) (ν : Str → Str) (lv : Nat) (f : Str) (ps) : giv ρ ν lv (.form f ps) = .form f (ps.map fun p => (figs lv p.1.length, giv ρ (bindN ν p.1 lv) (lv + p.1.length) p.2)) := by rw [giv]
abbrev noRw : Rw := fun _ => none
theorem giv_no : ∀ (t : Tm) (ν : Str → Str) (lv : Nat), giv noRw ν lv t = ren ν lv t := by
  refine Tm.ind (fun x ν lv => ?_) (fun h xs ν lv => ?_) (fun f ps ih ν lv => ?_)
  · rw [giv_name, ren_name]
  · rw [giv_hole, ren_hole]; rfl
  · rw [giv_form, ren_form]
    exact congrArg (Tm.form f) (List.map_congr_left fun p hp => by rw [ih p hp])

/-! ### free names -/
def free : Tm → List Str
  | .name x => [x]
  | .hole _ xs => xs
  | .form _ ps => ps.flatMap fun p => (free p.2).filter fun x => decide (x ∉ p.1)
termination_by t => sizeOf t
decreasing_by exact Tm.lt_of_mem (by assumption)
theorem free_name (x : Str) : free (.name x) = [x] := by rw [free]
theorem free_hole (h : Str) (xs) : free (.hole h xs) = xs := by rw [free]
theorem free_form (f : Str) (ps) : free (.form f ps) = ps.flatMap fun p => (free p.2).filter fun x => decide (x ∉ p.1) := by rw [free]
theorem mem_free_form {f : Str} {ps} {x : Str} : x ∈ free (.form f ps) ↔ ∃ p ∈ ps, x ∈ free p.2 ∧ x ∉ p.1 := by
  rw [free_form, List.mem_flatMap]
  refine ⟨fun ⟨p, hp, h⟩ => ⟨p, hp, ?_⟩, fun ⟨p, hp, h⟩ => ⟨p, hp, ?_⟩⟩
  · simpa using List.mem_filter.mp h
  · exact List.mem_filter.mpr ⟨h.1, by simpa using h.2⟩
/-- what a term becomes hangs on its free names alone -/
theorem ren_congr : ∀ (t : Tm) (ν μ : Str → Str) (lv : Nat), (∀ x ∈ free t, ν x = μ x) → ren ν lv t = ren μ lv t := by
  refine Tm.ind (fun x ν μ lv h => ?_) (fun h xs ν μ lv q => ?_) (fun f ps ih ν μ lv q => ?_)
  · rw [ren_name, ren_name, h x (by rw [free_name]; exact List.mem_cons_self)]
  · rw [ren_hole, ren_hole]
    exact congrArg (Tm.hole h) (List.map_congr_left fun x hx => q x (by rw [free_hole]; exact hx))
  · rw [ren_form, ren_form]
    refine congrArg (Tm.form f) (List.map_congr_left fun p hp => ?_)
    rw [ih p hp (bindN ν p.1 lv) (bindN μ p.1 lv) (lv + p.1.length) fun x hx => ?_]
    by_cases hb : x ∈ p.1
    · have k1 : ∀ (κ : Str → Str), x ∈ (p.1.zip (figs lv p.1.length)).map (·.1) := fun _ => by rw [zip_map_fst (figs_length _ _).symm]; exact hb
      have gen : ∀ (kvs : List (Str × Str)) (ν μ : Str → Str), x ∈ kvs.map (·.1) → updF ν kvs x = updF μ kvs x := by
        intro kvs
        induction kvs with
        | nil => intro _ _ h; cases h
        | cons a r ih =>
          intro ν μ h
          show updF _ r x = updF _ r x
          by_cases hr : x ∈ r.map (·.1)
          · exact ih _ _ hr
          · rw [updF_notin hr, updF_notin hr]
            rw [List.map_cons, List.mem_cons] at h
            rcases h with h | h
            · show (if x = a.1 then a.2 else ν x) = (if x = a.1 then a.2 else μ x)
              rw [if_pos h, if_pos h]
            · exact absurd h hr
      exact gen _ _ _ (k1 ν)
    · rw [bindN_notin hb, bindN_notin hb]
      exact q x (mem_free_form.mpr ⟨p, hp, hx, hb⟩)

/-! ### sizes -/
def maxs : List Nat → Nat
  | [] => 0
  | a :: l => max a (maxs l)
theorem le_maxs : ∀ {l : List Nat} {a : Nat}, a ∈ l → a ≤ maxs l
  | b :: l, a, h => by
    rcases List.mem_cons.mp h with e | h
    · subst e; exact Nat.le_max_left _ _
    · exact Nat.le_trans (le_maxs h) (Nat.le_max_right _ _)
theorem maxs_le : ∀ {l : List Nat} {n : Nat}, (∀ a ∈ l, a ≤ n) → maxs l ≤ n
  | [], n, _ => Nat.zero_le _
  | b :: l, n, h => Nat.max_le.mpr ⟨h b List.mem_cons_self, maxs_le fun a ha => h a (List.mem_cons_of_mem _ ha)⟩
def sz : Tm → Nat
  | .name _ => 1
  | .hole _ xs => 1 + xs.length
  | .form _ ps => 1 + (ps.map fun p => sz p.2).sum
termination_by t => sizeOf t
decreasing_by exact Tm.lt_of_mem (by assumption)
def dp : Tm → Nat
  | .name _ => 1
  | .hole _ xs => 1 + maxs (xs.map fun _ => 1)
  | .form _ ps => 1 + maxs (ps.map fun p => dp p.2)
termination_by t => sizeOf t
decreasing_by exact Tm.lt_of_mem (by assumption)
theorem sz_name (x : Str) : sz (.name x) = 1 := by rw [sz]
theorem sz_hole (h : Str) (xs) : sz (.hole h xs) = 1 + xs.length := by rw [sz]
theorem sz_form (f : Str) (ps) : sz (.form f ps) = 1 + (ps.map fun p => sz p.2).sum := by rw [sz]
theorem dp_name (x : Str) : dp (.name x) = 1 := by rw [dp]
theorem dp_hole (h : Str) (xs) : dp (.hole h xs) = 1 + maxs (xs.map fun _ => 1) := by rw [dp]
theorem dp_form (f : Str) (ps) : dp (.form f ps) = 1 + maxs (ps.map fun p => dp p.2) := by rw [dp]
theorem le_sum : ∀ {l : List Nat} {a : Nat}, a ∈ l → a ≤ l.sum
  | b :: l, a, h => by
    rw [List.sum_cons]
    rcases List.mem_cons.mp h with e | h
    · subst e; omega
    · have := le_sum h; omega
theorem sz_pos (t : Tm) : 1 ≤ sz t := by
  cases t with
  | name x => rw [sz_name]; omega
  | hole h xs => rw [sz_hole]; omega
  | form f ps => rw [sz_form]; omega
theorem dp_pos (t : Tm) : 1 ≤ dp t := by
  cases t with
  | name x => rw [dp_name]; omega
  | hole h xs => rw [dp_hole]; omega
  | form f ps => rw [dp_form]; omega
theorem sz_sub {f : Str} {ps} {p : List Str × Tm} (h : p ∈ ps) : sz p.2 + 1 ≤ sz (.form f ps) := by
  have q : sz p.2 ≤ (ps.map fun p => sz p.2).sum := le_sum (List.mem_map.mpr ⟨p, h, rfl⟩)
  rw [sz_form]; omega
theorem dp_sub {f : Str} {ps} {p : List Str × Tm} (h : p ∈ ps) : dp p.2 + 1 ≤ dp (.form f ps) := by
  have q : dp p.2 ≤ maxs (ps.map fun p => dp p.2) := le_maxs (List.mem_map.mpr ⟨p, h, rfl⟩)
  rw [dp_form]; omega
theorem len_sz {f : Str} {ps : List (List Str × Tm)} : ps.length + 1 ≤ sz (.form f ps) := by
  rw [sz_form]
  have : ∀ ps : List (List Str × Tm), ps.length ≤ (ps.map fun p => sz p.2).sum := by
    intro ps
    induction ps with
    | nil => exact Nat.zero_le _
    | cons p r ih => rw [List.map_cons, List.sum_cons, List.length_cons]; have := sz_pos p.2; omega
  have := this ps
  omega
theorem sum_map_mul {α : Type} {f g : α → Nat} {B : Nat} : ∀ {l : List α}, (∀ a ∈ l, f a ≤ g a * B) → (l.map f).sum ≤ (l.map g).sum * B
  | [], _ => by simp
  | a :: l, h => by
    rw [List.map_cons, List.map_cons, List.sum_cons, List.sum_cons, Nat.add_mul]
    exact Nat.add_le_add (h a List.mem_cons_self) (sum_map_mul fun b hb => h b (List.mem_cons_of_mem _ hb))
theorem sz_ren : ∀ (t : Tm) (ν : Str → Str) (lv : Nat), sz (ren ν lv t) = sz t := by
  refine Tm.ind (fun x ν lv => ?_) (fun h xs ν lv => ?_) (fun f ps ih ν lv => ?_)
  · rw [ren_name, sz_name, sz_name]
  · rw [ren_hole, sz_hole, sz_hole, List.length_map]
  · rw [ren_form, sz_form, sz_form, List.map_map]
    exact congrArg (fun l : List Nat => 1 + l.sum) (List.map_congr_left fun p hp => ih p hp _ _)
theorem dp_ren : ∀ (t : Tm) (ν : Str → Str) (lv : Nat), dp (ren ν lv t) = dp t := by
  refine Tm.ind (fun x ν lv => ?_) (fun h xs ν lv => ?_) (fun f ps ih ν lv => ?_)
  · rw [ren_name, dp_name, dp_name]
  · rw [ren_hole, dp_hole, dp_hole, List.map_map]; rfl
  · rw [ren_form, dp_form, dp_form, List.map_map]
    exact congrArg (fun l : List Nat => 1 + maxs l) (List.map_congr_left fun p hp => ih p hp _ _)
theorem sz_giv {ρ : Rw} {B : Nat} (hB : 1 ≤ B) (hρ : ∀ h own body, ρ h = some (own, body) → sz body ≤ B) : ∀ (t : Tm) (ν : Str → Str) (lv : Nat), sz (giv ρ ν lv t) ≤ sz t * B := by
  refine Tm.ind (fun x ν lv => ?_) (fun h xs ν lv => ?_) (fun f ps ih ν lv => ?_)
  · rw [giv_name, sz_name, sz_name]; omega
  · rw [giv_hole, sz_hole]
    unfold fill
    split
    · rw [sz_hole, List.length_map]; exact Nat.le_mul_of_pos_right _ hB
    · rename_i own body e
      rw [sz_ren]
      exact Nat.le_trans (hρ _ _ _ e) (Nat.le_mul_of_pos_left _ (by omega))
  · rw [giv_form, sz_form, sz_form, List.map_map, Nat.add_mul]
    have q : (ps.map ((fun p => sz p.2) ∘ fun p => (figs lv p.1.length, giv ρ (bindN ν p.1 lv) (lv + p.1.length) p.2))).sum ≤ (ps.map fun p => sz p.2).sum * B := sum_map_mul fun p hp => ih p hp _ _
    have e : 1 * B = B := Nat.one_mul B
    omega
theorem dp_giv {ρ : Rw} {D : Nat} (hρ : ∀ h own body, ρ h = some (own, body) → dp body ≤ D) : ∀ (t : Tm) (ν : Str → Str) (lv : Nat), dp (giv ρ ν lv t) ≤ dp t + D := by
  refine Tm.ind (fun x ν lv => ?_) (fun h xs ν lv => ?_) (fun f ps ih ν lv => ?_)
  · rw [giv_name, dp_name, dp_name]; omega
  · rw [giv_hole]
    unfold fill
    split
    · rw [dp_hole, dp_hole, List.map_map]; exact Nat.le_add_right _ _
    · rename_i own body e
      rw [dp_ren]
      exact Nat.le_trans (hρ _ _ _ e) (Nat.le_add_left _ _)
  · rw [giv_form, dp_form, dp_form, List.map_map]
    have q : maxs (ps.map ((fun p => dp p.2) ∘ fun p => (figs lv p.1.length, giv ρ (bindN ν p.1 lv) (lv + p.1.length) p.2))) ≤ maxs (ps.map fun p => dp p.2) + D := by
      refine maxs_le fun a ha => ?_
      obtain ⟨p, hp, rfl⟩ := List.mem_map.mp ha
      have h1 : dp p.2 ≤ maxs (ps.map fun p => dp p.2) := le_maxs (List.mem_map.mpr ⟨p, hp, rfl⟩)
      have h2 := ih p hp (bindN ν p.1 lv) (lv + p.1.length)
      exact Nat.le_trans h2 (Nat.add_le_add_right h1 D)
    omega
end Nh
/-! ## NhB -/
namespace Nh
open PySem

/-! ### tongues, sorts of terms -/
structure Tg where
  forms : List (Str × List (List Int × Int) × Int)
  holes : List (Str × List Int × Int)
abbrev Ctx := Str → Option Int
abbrev noG : Ctx := fun _ => none
abbrev bindG (Γ : Ctx) (bs : List Str) (ss : List Int) : Ctx := updF Γ (bs.zip (ss.map some))
theorem bindG_get {Γ : Ctx} {bs : List Str} {ss : List Int} (hl : bs.length = ss.length) (hn : bs.Nodup) {i : Nat} {b : Str} {r : Int} (h1 : bs[i]? = some b) (h2 : ss[i]? = some r) : bindG Γ bs ss b = some r :=
  updZ_get (by rw [List.length_map]; exact hl) hn h1 (by rw [List.getElem?_map, h2]; rfl)
theorem bindG_notin {Γ : Ctx} {bs : List Str} {ss : List Int} (hl : bs.length = ss.length) {x : Str} (h : x ∉ bs) : bindG Γ bs ss x = Γ x :=
  updZ_notin (by rw [List.length_map]; exact hl) h
/-- a name that is bound so: bound here, or there already -/
theorem bindG_cases {Γ : Ctx} {bs : List Str} {ss : List Int} (hl : bs.length = ss.length) (hn : bs.Nodup) {x : Str} {r : Int} (h : bindG Γ bs ss x = some r) : (∃ i : Nat, bs[i]? = some x ∧ ss[i]? = some r) ∨ (x ∉ bs ∧ Γ x = some r) := by
  by_cases hb : x ∈ bs
  · obtain ⟨i, hi, e⟩ := mem_get hb
    obtain ⟨r', e'⟩ := get_ex (l := ss) (i := i) (by omega)
    rw [bindG_get hl hn e e'] at h
    cases h
    exact .inl ⟨i, e, e'⟩
  · rw [bindG_notin hl hb] at h
    exact .inr ⟨hb, h⟩

inductive Ty (T : Tg) : Ctx → Tm → Int → Prop
  | name {Γ : Ctx} {x : Str} {s : Int} : Γ x = some s → Ty T Γ (.name x) s
  | hole {Γ : Ctx} {h : Str} {xs : List Str} {ss : List Int} {s : Int} : T.holes.lookup h = some (ss, s) → xs.map Γ = ss.map some → xs.Nodup → Ty T Γ (.hole h xs) s
  | form {Γ : Ctx} {f : Str} {ps : List (List Str × Tm)} {pts : List (List Int × Int)} {s : Int} : T.forms.lookup f = some (pts, s) → ps.length = pts.length →
      (∀ (i : Nat) p q, ps[i]? = some p → pts[i]? = some q → p.1.length = q.1.length) → (∀ p ∈ ps, p.1.Nodup) → (∀ (i : Nat) p q, ps[i]? = some p → pts[i]? = some q → Ty T (bindG Γ p.1 q.1) p.2 q.2) → Ty T Γ (.form f ps) s

/-- a part of a form that has a sort -/
theorem part_of {ps : List (List Str × Tm)} {pts : List (List Int × Int)} (hl : ps.length = pts.length) {p : List Str × Tm} (hp : p ∈ ps) : ∃ (i : Nat) (q : List Int × Int), ps[i]? = some p ∧ pts[i]? = some q := by
  obtain ⟨i, hi, e⟩ := mem_get hp
  obtain ⟨q, e'⟩ := get_ex (l := pts) (i := i) (by omega)
  exact ⟨i, q, e, e'⟩
theorem map_some_get {xs : List Str} {Γ : Ctx} {ss : List Int} (h : xs.map Γ = ss.map some) : xs.length = ss.length ∧ ∀ (i : Nat) x, xs[i]? = some x → ∃ r, ss[i]? = some r ∧ Γ x = some r := by
  have hl : xs.length = ss.length := by have := congrArg List.length h; simpa using this
  refine ⟨hl, fun i x e => ?_⟩
  obtain ⟨r, e'⟩ := get_ex (l := ss) (i := i) (by have := (List.getElem?_eq_some_iff.mp e).1; omega)
  refine ⟨r, e', ?_⟩
  have q := congrArg (fun l => l[i]?) h
  simp only [List.getElem?_map, e, e'] at q
  simpa using q
theorem Ty.free {T : Tg} {Γ : Ctx} {t : Tm} {s : Int} (h : Ty T Γ t s) : ∀ x ∈ Nh.free t, ∃ r, Γ x = some r := by
  induction h with
  | name h => intro x hx; rw [free_name, List.mem_singleton] at hx; subst hx; exact ⟨_, h⟩
  | hole h1 h2 h3 =>
    intro x hx
    rw [free_hole] at hx
    obtain ⟨i, hi, e⟩ := mem_get hx
    obtain ⟨r, _, q⟩ := (map_some_get h2).2 i x e
    exact ⟨r, q⟩
  | @form Γ f ps pts s h1 h2 h3 h4 h5 ih =>
    intro x hx
    obtain ⟨p, hp, hx, hb⟩ := mem_free_form.mp hx
    obtain ⟨i, q, e, e'⟩ := part_of h2 hp
    obtain ⟨r, hr⟩ := ih i p q e e' x hx
    rw [bindG_notin (h3 i p q e e') hb] at hr
    exact ⟨r, hr⟩
/-- names may have sorts more -/
theorem Ty.wide {T : Tg} {Γ : Ctx} {t : Tm} {s : Int} (h : Ty T Γ t s) : ∀ Γ' : Ctx, (∀ x r, Γ x = some r → Γ' x = some r) → Ty T Γ' t s := by
  induction h with
  | name h => intro Γ' w; exact .name (w _ _ h)
  | @hole Γ h xs ss s h1 h2 h3 =>
    intro Γ' w
    refine .hole h1 (List.ext_getElem? fun i => ?_) h3
    have hl := (map_some_get h2).1
    cases e : xs[i]? with
    | none =>
      have : ss[i]? = none := by rw [List.getElem?_eq_none_iff] at e ⊢; omega
      simp [e, this]
    | some x =>
      obtain ⟨r, e', q⟩ := (map_some_get h2).2 i x e
      simp [e, e', w _ _ q]
  | @form Γ f ps pts s h1 h2 h3 h4 h5 ih =>
    intro Γ' w
    refine .form h1 h2 h3 h4 fun i p q e e' => ih i p q e e' _ fun x r hx => ?_
    rcases bindG_cases (h3 i p q e e') (h4 p (get_mem e)) hx with ⟨j, e1, e2⟩ | ⟨hb, hx⟩
    · exact bindG_get (h3 i p q e e') (h4 p (get_mem e)) e1 e2
    · rw [bindG_notin (h3 i p q e e') hb]; exact w _ _ hx

/-- names called otherwise, so that sorts stay -/
structure Cond (Γ : Ctx) (ν : Str → Str) (lv : Nat) (Γ' : Ctx) : Prop where
  map : ∀ x r, Γ x = some r → Γ' (ν x) = some r
  inj : ∀ x y r q, Γ x = some r → Γ y = some q → ν x = ν y → x = y
  fresh : ∀ x r, Γ x = some r → ∀ m, lv ≤ m → ν x ≠ fig m
theorem Cond.bind {Γ Γ' : Ctx} {ν : Str → Str} {lv : Nat} (c : Cond Γ ν lv Γ') {bs : List Str} {ss : List Int} (hl : bs.length = ss.length) (hn : bs.Nodup) :
    Cond (bindG Γ bs ss) (bindN ν bs lv) (lv + bs.length) (bindG Γ' (figs lv bs.length) ss) := by
  have hl' : (figs lv bs.length).length = ss.length := by rw [figs_length]; exact hl
  refine ⟨fun x r h => ?_, fun x y r q h1 h2 e => ?_, fun x r h m hm => ?_⟩
  · rcases bindG_cases hl hn h with ⟨i, e1, e2⟩ | ⟨hb, h⟩
    · rw [bindN_get hn e1]
      exact bindG_get hl' (figs_nodup _ _) (figs_get (List.getElem?_eq_some_iff.mp e1).1) e2
    · rw [bindN_notin hb, bindG_notin hl' fun hm => ?_]
      · exact c.map _ _ h
      · obtain ⟨i, _, e⟩ := mem_figs.mp hm
        exact c.fresh _ _ h _ (Nat.le_add_right _ _) e
  · rcases bindG_cases hl hn h1 with ⟨i, e1, _⟩ | ⟨hb, h1⟩ <;> rcases bindG_cases hl hn h2 with ⟨j, e2, _⟩ | ⟨hb', h2⟩
    · rw [bindN_get hn e1, bindN_get hn e2] at e
      have : i = j := by have := fig_inj e; omega
      subst this
      rw [e1] at e2; exact Option.some.inj e2
    · rw [bindN_get hn e1, bindN_notin hb'] at e
      exact absurd e.symm (c.fresh _ _ h2 _ (Nat.le_add_right _ _))
    · rw [bindN_notin hb, bindN_get hn e2] at e
      exact absurd e (c.fresh _ _ h1 _ (Nat.le_add_right _ _))
    · rw [bindN_notin hb, bindN_notin hb'] at e
      exact c.inj _ _ _ _ h1 h2 e
  · rcases bindG_cases hl hn h with ⟨i, e1, _⟩ | ⟨hb, h⟩
    · rw [bindN_get hn e1]
      refine fig_ne ?_
      have := (List.getElem?_eq_some_iff.mp e1).1
      omega
    · rw [bindN_notin hb]
      exact c.fresh _ _ h _ (by omega)
theorem Cond.holes {Γ Γ' : Ctx} {ν : Str → Str} {lv : Nat} (c : Cond Γ ν lv Γ') {xs : List Str} {ss : List Int} (h2 : xs.map Γ = ss.map some) (h3 : xs.Nodup) : (xs.map ν).map Γ' = ss.map some ∧ (xs.map ν).Nodup := by
  obtain ⟨hl, hg⟩ := map_some_get h2
  refine ⟨List.ext_getElem? fun i => ?_, nodup_map_inj (fun x hx y hy e => ?_) h3⟩
  · cases e : xs[i]? with
    | none =>
      have : ss[i]? = none := by rw [List.getElem?_eq_none_iff] at e ⊢; omega
      simp [e, this]
    | some x =>
      obtain ⟨r, e', q⟩ := hg i x e
      simp [e, e', c.map _ _ q]
  · obtain ⟨i, _, e1⟩ := mem_get hx
    obtain ⟨j, _, e2⟩ := mem_get hy
    obtain ⟨r, _, q1⟩ := hg i x e1
    obtain ⟨r', _, q2⟩ := hg j y e2
    exact c.inj _ _ _ _ q1 q2 e
theorem Cond.form {T : Tg} {Γ Γ' : Ctx} {ν : Str → Str} {lv : Nat} {f : Str} {ps : List (List Str × Tm)} {pts : List (List Int × Int)} {s : Int} (c : Cond Γ ν lv Γ') (g : List Str × Tm → Tm)
    (h1 : T.forms.lookup f = some (pts, s)) (h2 : ps.length = pts.length) (h3 : ∀ (i : Nat) p q, ps[i]? = some p → pts[i]? = some q → p.1.length = q.1.length) (h4 : ∀ p ∈ ps, p.1.Nodup)
    (h5 : ∀ (i : Nat) p q, ps[i]? = some p → pts[i]? = some q → ∀ Γ'', Cond (bindG Γ p.1 q.1) (bindN ν p.1 lv) (lv + p.1.length) Γ'' → Ty T Γ'' (g p) q.2) : Ty T Γ' (.form f (ps.map fun p => (figs lv p.1.length, g p))) s := by
  refine .form h1 (by rw [List.length_map]; exact h2) (fun i p q e e' => ?_) (fun p hp => ?_) fun i p q e e' => ?_
  · rw [List.getElem?_map] at e
    obtain ⟨p0, e0, rfl⟩ := Option.map_eq_some_iff.mp e
    rw [figs_length]; exact h3 i p0 q e0 e'
  · obtain ⟨p0, _, rfl⟩ := List.mem_map.mp hp
    exact figs_nodup _ _
  · rw [List.getElem?_map] at e
    obtain ⟨p0, e0, rfl⟩ := Option.map_eq_some_iff.mp e
    exact h5 i p0 q e0 e' _ (c.bind (h3 i p0 q e0 e') (h4 p0 (get_mem e0)))
theorem ty_ren {T : Tg} {Γ : Ctx} {t : Tm} {s : Int} (h : Ty T Γ t s) : ∀ (ν : Str → Str) (lv : Nat) (Γ' : Ctx), Cond Γ ν lv Γ' → Ty T Γ' (ren ν lv t) s := by
  induction h with
  | name h => intro ν lv Γ' c; rw [ren_name]; exact .name (c.map _ _ h)
  | hole h1 h2 h3 => intro ν lv Γ' c; rw [ren_hole]; exact .hole h1 (c.holes h2 h3).1 (c.holes h2 h3).2
  | form h1 h2 h3 h4 h5 ih => intro ν lv Γ' c; rw [ren_form]; exact c.form (fun p => ren (bindN ν p.1 lv) (lv + p.1.length) p.2) h1 h2 h3 h4 fun i p q e e' Γ'' c' => ih i p q e e' _ _ _ c'
/-- the sorts of 0, 1, .. -/
abbrev figG (ss : List Int) : Ctx := bindG noG (figs 0 ss.length) ss
def RwOk (T : Tg) (ρ : Rw) : Prop := ∀ h ss s own body, T.holes.lookup h = some (ss, s) → ρ h = some (own, body) → own = figs 0 ss.length ∧ Ty T (figG ss) body s
theorem figG_get {ss : List Int} {x : Str} {r : Int} (h : figG ss x = some r) : ∃ i : Nat, i < ss.length ∧ x = fig i ∧ ss[i]? = some r := by
  rcases bindG_cases (figs_length _ _) (figs_nodup _ _) h with ⟨i, e1, e2⟩ | ⟨_, h⟩
  · have hi := (List.getElem?_eq_some_iff.mp e1).1
    rw [figs_length] at hi
    rw [figs_get hi, Nat.zero_add] at e1
    exact ⟨i, hi, (Option.some.inj e1).symm, e2⟩
  · cases h
theorem figG_at {ss : List Int} {i : Nat} {r : Int} (h : ss[i]? = some r) : figG ss (fig i) = some r := by
  refine bindG_get (figs_length _ _) (figs_nodup _ _) (i := i) ?_ h
  rw [figs_get (List.getElem?_eq_some_iff.mp h).1, Nat.zero_add]
theorem ty_giv {T : Tg} {ρ : Rw} (hρ : RwOk T ρ) {Γ : Ctx} {t : Tm} {s : Int} (h : Ty T Γ t s) : ∀ (ν : Str → Str) (lv : Nat) (Γ' : Ctx), Cond Γ ν lv Γ' → Ty T Γ' (giv ρ ν lv t) s := by
  induction h with
  | name h => intro ν lv Γ' c; rw [giv_name]; exact .name (c.map _ _ h)
  | @hole Γ h xs ss s h1 h2 h3 =>
    intro ν lv Γ' c
    rw [giv_hole]
    unfold fill
    split
    · exact .hole h1 (c.holes h2 h3).1 (c.holes h2 h3).2
    · rename_i own body e
      obtain ⟨rfl, hb⟩ := hρ _ _ _ _ _ h1 e
      obtain ⟨hl, hg⟩ := map_some_get h2
      have hz : (figs 0 ss.length).length = (xs.map ν).length := by rw [figs_length, List.length_map, hl]
      have at_ : ∀ (i : Nat) x, xs[i]? = some x → updF (fun x => x) ((figs 0 ss.length).zip (xs.map ν)) (fig i) = ν x := fun i x ex => by
        refine updZ_get hz (figs_nodup _ _) (i := i) ?_ (by rw [List.getElem?_map, ex]; rfl)
        rw [figs_get (by have := (List.getElem?_eq_some_iff.mp ex).1; omega), Nat.zero_add]
      have get : ∀ x r, figG ss x = some r → ∃ (i : Nat) (y : Str), xs[i]? = some y ∧ x = fig i ∧ Γ y = some r := fun x r hx => by
        obtain ⟨i, hi, rfl, er⟩ := figG_get hx
        obtain ⟨y, ey⟩ := get_ex (l := xs) (i := i) (by omega)
        obtain ⟨r', er', hr⟩ := hg i y ey
        rw [er] at er'; cases er'
        exact ⟨i, y, ey, rfl, hr⟩
      refine ty_ren hb _ _ _ ⟨fun x r hx => ?_, fun x y r q hx hy e => ?_, fun x r hx m hm => ?_⟩
      · obtain ⟨i, z, ez, rfl, hr⟩ := get x r hx
        rw [at_ i z ez]
        exact c.map _ _ hr
      · obtain ⟨i, z, ez, rfl, hr⟩ := get x r hx
        obtain ⟨j, u, eu, rfl, hq⟩ := get y q hy
        rw [at_ i z ez, at_ j u eu] at e
        have := c.inj _ _ _ _ hr hq e
        subst this
        obtain ⟨hi, ei⟩ := List.getElem?_eq_some_iff.mp ez
        obtain ⟨hj, ej⟩ := List.getElem?_eq_some_iff.mp eu
        have : i = j := (List.getElem_inj h3).mp (ei.trans ej.symm)
        rw [this]
      · obtain ⟨i, z, ez, rfl, hr⟩ := get x r hx
        rw [at_ i z ez]
        exact c.fresh _ _ hr _ hm
  | form h1 h2 h3 h4 h5 ih => intro ν lv Γ' c; rw [giv_form]; exact c.form (fun p => giv ρ (bindN ν p.1 lv) (lv + p.1.length) p.2) h1 h2 h3 h4 fun i p q e e' Γ'' c' => ih i p q e e' _ _ _ c'

/-! ### neat terms -/
inductive Nt : Nat → Tm → Prop
  | name {lv k : Nat} : k < lv → Nt lv (.name (fig k))
  | hole {lv : Nat} {h : Str} {xs : List Str} : (∀ x ∈ xs, ∃ k, k < lv ∧ x = fig k) → Nt lv (.hole h xs)
  | form {lv : Nat} {f : Str} {ps : List (List Str × Tm)} : (∀ p ∈ ps, p.1 = figs lv p.1.length) → (∀ p ∈ ps, p.1.length ≤ 3) → (∀ p ∈ ps, Nt (lv + p.1.length) p.2) → Nt lv (.form f ps)
theorem Nt.free {lv : Nat} {t : Tm} (h : Nt lv t) : ∀ x ∈ Nh.free t, ∃ k, k < lv ∧ x = fig k := by
  induction h with
  | name h => intro x hx; rw [free_name, List.mem_singleton] at hx; exact ⟨_, h, hx⟩
  | hole h => intro x hx; rw [free_hole] at hx; exact h x hx
  | @form lv f ps h1 h2 h3 ih =>
    intro x hx
    obtain ⟨p, hp, hx, hb⟩ := mem_free_form.mp hx
    obtain ⟨k, hk, e⟩ := ih p hp x hx
    refine ⟨k, ?_, e⟩
    refine Nat.lt_of_not_le fun hle => hb ?_
    rw [h1 p hp]
    exact mem_figs.mpr ⟨k - lv, by omega, by rw [e]; congr 1; omega⟩
/-- at most three names are bound by a part -/
def Slim (T : Tg) : Prop := ∀ f pts s, T.forms.lookup f = some (pts, s) → ∀ q ∈ pts, q.1.length ≤ 3
theorem nt_ren {T : Tg} (hT : Slim T) {Γ : Ctx} {t : Tm} {s : Int} (h : Ty T Γ t s) : ∀ (ν : Str → Str) (lv : Nat), (∀ x r, Γ x = some r → ∃ k, k < lv ∧ ν x = fig k) → Nt lv (ren ν lv t) := by
  induction h with
  | name h => intro ν lv c; rw [ren_name]; obtain ⟨k, hk, e⟩ := c _ _ h; rw [e]; exact .name hk
  | hole h1 h2 h3 =>
    intro ν lv c
    rw [ren_hole]
    refine .hole fun y hy => ?_
    obtain ⟨x, hx, rfl⟩ := List.mem_map.mp hy
    obtain ⟨i, hi, e⟩ := mem_get hx
    obtain ⟨r, _, q⟩ := (map_some_get h2).2 i x e
    exact c _ _ q
  | @form Γ f ps pts s h1 h2 h3 h4 h5 ih =>
    intro ν lv c
    rw [ren_form]
    refine .form (fun p hp => ?_) (fun p hp => ?_) fun p hp => ?_
    · obtain ⟨p0, _, rfl⟩ := List.mem_map.mp hp
      rw [figs_length]
    · obtain ⟨p0, hp0, rfl⟩ := List.mem_map.mp hp
      obtain ⟨i, q, e, e'⟩ := part_of h2 hp0
      rw [figs_length, h3 i p0 q e e']
      exact hT _ _ _ h1 q (get_mem e')
    · obtain ⟨p0, hp0, rfl⟩ := List.mem_map.mp hp
      obtain ⟨i, q, e, e'⟩ := part_of h2 hp0
      have hl := h3 i p0 q e e'
      have hn := h4 p0 hp0
      show Nt (lv + (figs lv p0.1.length).length) _
      rw [figs_length]
      refine ih i p0 q e e' _ _ fun x r hx => ?_
      rcases bindG_cases hl hn hx with ⟨j, e1, e2⟩ | ⟨hb, hx⟩
      · exact ⟨lv + j, by have := (List.getElem?_eq_some_iff.mp e1).1; omega, bindN_get hn e1⟩
      · rw [bindN_notin hb]
        obtain ⟨k, hk, e⟩ := c _ _ hx
        exact ⟨k, by omega, e⟩
/-- there and back -/
theorem rt {lv : Nat} {p : Tm} (h : Nt lv p) : ∀ (ν : Str → Str) (lv' : Nat) (μ : Str → Str), (∀ k, k < lv → μ (ν (fig k)) = fig k) → (∀ k, k < lv → ∀ m, lv' ≤ m → ν (fig k) ≠ fig m) → ren μ lv (ren ν lv' p) = p := by
  induction h with
  | name h => intro ν lv' μ c _; rw [ren_name, ren_name, c _ h]
  | @hole lv hh xs h =>
    intro ν lv' μ c _
    rw [ren_hole, ren_hole, List.map_map]
    refine congrArg (Tm.hole hh) ?_
    conv => rhs; rw [← List.map_id xs]
    refine List.map_congr_left fun x hx => ?_
    obtain ⟨k, hk, rfl⟩ := h x hx
    exact c k hk
  | @form lv f ps h1 h2 h3 ih =>
    intro ν lv' μ c d
    rw [ren_form, ren_form, List.map_map]
    refine congrArg (Tm.form f) ?_
    conv => rhs; rw [← List.map_id ps]
    refine List.map_congr_left fun p hp => ?_
    show (figs lv (figs lv' p.1.length).length, ren (bindN μ (figs lv' p.1.length) lv) (lv + (figs lv' p.1.length).length) (ren (bindN ν p.1 lv') (lv' + p.1.length) p.2)) = p
    rw [figs_length]
    have e1 := h1 p hp
    have hn : p.1.Nodup := by rw [e1]; exact figs_nodup _ _
    have at_ : ∀ i, i < p.1.length → p.1[i]? = some (fig (lv + i)) := fun i hi => by
      have := figs_get (lv := lv) hi
      rw [← e1] at this; exact this
    have at' : ∀ i, i < p.1.length → (figs lv' p.1.length)[i]? = some (fig (lv' + i)) := fun i hi => figs_get hi
    have no : ∀ k, k < lv → fig k ∉ p.1 := fun k hk hm => by
      rw [e1] at hm
      obtain ⟨i, _, e⟩ := mem_figs.mp hm
      have := fig_inj e; omega
    have two : ∀ k, k < lv + p.1.length → k < lv ∨ ∃ i, i < p.1.length ∧ k = lv + i := fun k hk => by
      by_cases hl : k < lv
      · exact .inl hl
      · exact .inr ⟨k - lv, by omega, by omega⟩
    have q : ren (bindN μ (figs lv' p.1.length) lv) (lv + p.1.length) (ren (bindN ν p.1 lv') (lv' + p.1.length) p.2) = p.2 := by
      refine ih p hp _ _ _ (fun k hk => ?_) fun k hk m hm => ?_
      · rcases two k hk with hk | ⟨i, hi, rfl⟩
        · rw [bindN_notin (no k hk), bindN_notin fun hm => ?_, c k hk]
          obtain ⟨i, _, e⟩ := mem_figs.mp hm
          exact d k hk _ (Nat.le_add_right _ _) e
        · rw [bindN_get hn (at_ i hi)]
          have := bindN_get (ν := μ) (lv := lv) (figs_nodup lv' p.1.length) (at' i hi)
          exact this
      · rcases two k hk with hk | ⟨i, hi, rfl⟩
        · rw [bindN_notin (no k hk)]
          exact d k hk m (by omega)
        · rw [bindN_get hn (at_ i hi)]
          exact fig_ne (by omega)
    rw [q, ← e1]
theorem ren_same {lv : Nat} {p : Tm} (h : Nt lv p) : ∀ (ν : Str → Str), (∀ k, k < lv → ν (fig k) = fig k) → ren ν lv p = p := by
  induction h with
  | name h => intro ν c; rw [ren_name, c _ h]
  | @hole lv hh xs h =>
    intro ν c
    rw [ren_hole]
    refine congrArg (Tm.hole hh) ?_
    conv => rhs; rw [← List.map_id xs]
    refine List.map_congr_left fun x hx => ?_
    obtain ⟨k, hk, rfl⟩ := h x hx
    exact c k hk
  | @form lv f ps h1 h2 h3 ih =>
    intro ν c
    rw [ren_form]
    refine congrArg (Tm.form f) ?_
    conv => rhs; rw [← List.map_id ps]
    refine List.map_congr_left fun p hp => ?_
    have e1 := h1 p hp
    have hn : p.1.Nodup := by rw [e1]; exact figs_nodup _ _
    show (figs lv p.1.length, ren (bindN ν p.1 lv) (lv + p.1.length) p.2) = p
    rw [ih p hp _ fun k hk => ?_, ← e1]
    by_cases hl : k < lv
    · rw [bindN_notin fun hm => ?_, c k hl]
      rw [e1] at hm
      obtain ⟨i, _, e⟩ := mem_figs.mp hm
      have := fig_inj e; omega
    · have q := figs_get (lv := lv) (n := p.1.length) (i := k - lv) (by omega)
      rw [← e1] at q
      rw [show lv + (k - lv) = k by omega] at q
      rw [bindN_get hn q]
      congr 1; omega

/-! ### two terms whose like forms have like parts -/
inductive Ali : Tm → Tm → Prop
  | name {x : Str} {t : Tm} : Ali (.name x) t
  | hole {h : Str} {xs : List Str} {t : Tm} : Ali (.hole h xs) t
  | fn {f : Str} {ps : List (List Str × Tm)} {x : Str} : Ali (.form f ps) (.name x)
  | fh {f : Str} {ps : List (List Str × Tm)} {h : Str} {xs : List Str} : Ali (.form f ps) (.hole h xs)
  | ff {f f' : Str} {ps ps' : List (List Str × Tm)} : (f = f' → ps.length = ps'.length) → (f = f' → ∀ (i : Nat) p q, ps[i]? = some p → ps'[i]? = some q → p.1 = q.1) →
      (f = f' → ∀ (i : Nat) p q, ps[i]? = some p → ps'[i]? = some q → Ali p.2 q.2) → Ali (.form f ps) (.form f' ps')
theorem ali_of {T : Tg} {Γ : Ctx} {p : Tm} {s : Int} (h : Ty T Γ p s) : ∀ {lv : Nat} {t : Tm} {Γ' : Ctx} {s' : Int}, Nt lv p → Ty T Γ' t s' → Nt lv t → Ali p t := by
  induction h with
  | name _ => intros; exact .name
  | hole _ _ _ => intros; exact .hole
  | @form Γ f ps pts s h1 h2 h3 h4 h5 ih =>
    intro lv t Γ' s' n1 h' n2
    cases h' with
    | name _ => exact .fn
    | hole _ _ _ => exact .fh
    | @form _ f' ps' pts' _ g1 g2 g3 g4 g5 =>
      cases n1 with
      | form a1 a2 a3 =>
        cases n2 with
        | form b1 b2 b3 =>
          have same : f = f' → pts = pts' := fun e => by subst e; rw [h1] at g1; cases g1; rfl
          have names : f = f' → ∀ (i : Nat) p q, ps[i]? = some p → ps'[i]? = some q → p.1 = q.1 := fun e i p q ep eq => by
            have es := same e
            subst es
            obtain ⟨r, er⟩ := get_ex (l := pts) (i := i) (by have := (List.getElem?_eq_some_iff.mp ep).1; omega)
            rw [a1 p (get_mem ep), b1 q (get_mem eq), h3 i p r ep er, g3 i q r eq er]
          refine .ff (fun e => by rw [h2, g2, same e]) names fun e i p q ep eq => ?_
          have es := same e
          have en := names e i p q ep eq
          subst es
          obtain ⟨r, er⟩ := get_ex (l := pts) (i := i) (by have := (List.getElem?_eq_some_iff.mp ep).1; omega)
          refine ih i p r ep er (a3 p (get_mem ep)) (g5 i q r eq er) ?_
          rw [en]; exact b3 q (get_mem eq)
end Nh
/-! ## NhC -/
namespace Nh
open PySem

/-! ### lists in order: one alone -/
theorem one_sorted {α : Type} (le : α → α → Prop) (anti : ∀ a b, le a b → le b a → a = b) : ∀ {l m : List α}, l.Perm m → l.Pairwise le → m.Pairwise le → l = m
  | [], m, h, _, _ => (List.Perm.nil_eq h)
  | a :: l, m, h, h1, h2 => by
    cases m with
    | nil => exact absurd h.symm (by intro q; exact nomatch (List.Perm.nil_eq q))
    | cons b m =>
      have e : a = b := by
        by_cases e : a = b
        · exact e
        · have ha : a ∈ b :: m := h.subset List.mem_cons_self
          have hb : b ∈ a :: l := h.symm.subset List.mem_cons_self
          rcases List.mem_cons.mp ha with q | ha
          · exact q
          · rcases List.mem_cons.mp hb with q | hb
            · exact q.symm
            · exact anti a b ((List.pairwise_cons.mp h1).1 b hb) ((List.pairwise_cons.mp h2).1 a ha)
      subst e
      rw [one_sorted le anti (List.Perm.cons_inv h) (List.pairwise_cons.mp h1).2 (List.pairwise_cons.mp h2).2]
def leS (x y : Str) : Prop := Spec.ltCps y.cps.toList x.cps.toList = false
theorem leS_iff {x y : Str} : leS x y ↔ ¬ y.cps.toList < x.cps.toList := by
  unfold leS
  rw [PyProof.Rows.ltCps_eq, decide_eq_false_iff_not]
theorem leS_anti (x y : Str) (h1 : leS x y) (h2 : leS y x) : x = y := by
  rw [leS_iff] at h1 h2
  have e : x.cps.toList = y.cps.toList := List.le_antisymm (List.not_lt.mp h1) (List.not_lt.mp h2)
  obtain ⟨a⟩ := x
  obtain ⟨b⟩ := y
  have : a = b := Array.ext' e
  rw [this]
theorem leS_trans {x y z : Str} (h1 : leS x y) (h2 : leS y z) : leS x z := by
  rw [leS_iff] at *
  exact List.not_lt.mpr (List.le_trans (List.not_lt.mp h1) (List.not_lt.mp h2))
theorem rising_pw : ∀ (l : List Str) (p : Str), PyProof.Rows.risingS p l = true → (p :: l).Pairwise leS
  | [], p, _ => by simp
  | x :: r, p, h => by
    unfold PyProof.Rows.risingS at h
    rw [Bool.and_eq_true] at h
    have q := rising_pw r x h.2
    have hpx : leS p x := by unfold leS; simpa using h.1
    refine List.pairwise_cons.mpr ⟨fun y hy => ?_, q⟩
    rcases List.mem_cons.mp hy with e | hy
    · subst e; exact hpx
    · exact leS_trans hpx ((List.pairwise_cons.mp q).1 y hy)
theorem sorted_pw {l : List Str} (h : PyProof.Rows.sortedS l = true) : l.Pairwise leS := by
  cases l with
  | nil => exact .nil
  | cons x r => exact rising_pw r x h
/-- texts in their order -/
def IsUp (ks : List Str) : List Str → Prop := fun ys => ys.Perm ks ∧ ys.Pairwise leS
theorem isUp_one {ks a b : List Str} (h1 : IsUp ks a) (h2 : IsUp ks b) : a = b := one_sorted leS leS_anti (h1.1.trans h2.1.symm) h1.2 h2.2
theorem isUp_ex (ks : List Str) : ∃ a, IsUp ks a := by
  refine ⟨ks.mergeSort fun x y => !Spec.ltCps y.cps.toList x.cps.toList, List.mergeSort_perm _ _, ?_⟩
  have q := List.pairwise_mergeSort (le := fun x y : Str => !Spec.ltCps y.cps.toList x.cps.toList) (fun x y z h1 h2 => ?_) (fun x y => ?_) ks
  · exact q.imp fun h => by unfold leS; simpa using h
  · have h1' : leS x y := by unfold leS; simpa using h1
    have h2' : leS y z := by unfold leS; simpa using h2
    have := leS_trans h1' h2'
    unfold leS at this
    simpa using this
  · rw [PyProof.Rows.ltCps_eq, PyProof.Rows.ltCps_eq]
    by_cases h : y.cps.toList < x.cps.toList
    · have : ¬ x.cps.toList < y.cps.toList := List.not_lt.mpr (List.le_of_lt h)
      simp [this]
    · simp [h]
noncomputable def upS (ks : List Str) : List Str := Classical.choose (isUp_ex ks)
theorem upS_spec (ks : List Str) : IsUp ks (upS ks) := Classical.choose_spec (isUp_ex ks)
theorem upS_eq {ks ys : List Str} (h : ys.Perm ks) (hs : PyProof.Rows.sortedS ys = true) : ys = upS ks := isUp_one ⟨h, sorted_pw hs⟩ (upS_spec ks)
theorem upI_eq {ks ys : List Int} (h : ys.Perm ks) (hs : ys.Pairwise (· ≤ ·)) (hk : ks.Pairwise (· < ·)) : ys = ks :=
  one_sorted (· ≤ ·) (fun a b h1 h2 => Int.le_antisymm h1 h2) h hs (hk.imp Int.le_of_lt)

/-! ### a pattern laid on a term -/
abbrev Got := List (Str × Nat × Tm)
def neatT (xs : List Str) (t : Tm) : Tm := ren (bindN (fun x => x) xs 0) xs.length t
open Classical in
noncomputable def laidH (h : Str) (xs : List Str) (t : Tm) (g : Got) : Bool × Got :=
  if ∀ x ∈ free t, x ∈ xs then
    match g.lookup h with
    | some e => (decide (e = (xs.length, neatT xs t)), g)
    | none => (true, g ++ [(h, (xs.length, neatT xs t))])
  else (false, g)
open Classical in
noncomputable def laid : Tm → Tm → Got → Bool × Got
  | .hole h xs, t, g => laidH h xs t g
  | .name x, .name y, g => (decide (x = y), g)
  | .form f ps, .form f' ps', g => if f = f' then (ps.zip ps').attach.foldl (fun r q => ((r.1 && (laid q.1.1.2 q.1.2.2 r.2).1), (laid q.1.1.2 q.1.2.2 r.2).2)) (true, g) else (false, g)
  | _, _, g => (false, g)
termination_by t => sizeOf t
decreasing_by all_goals exact Tm.lt_of_mem (List.of_mem_zip q.2).1
/-- parts, one after another -/
noncomputable def laidP (r : Bool × Got) (q : (List Str × Tm) × (List Str × Tm)) : Bool × Got := (r.1 && (laid q.1.2 q.2.2 r.2).1, (laid q.1.2 q.2.2 r.2).2)
theorem laid_hole (h : Str) (xs) (t : Tm) (g : Got) : laid (.hole h xs) t g = laidH h xs t g := by rw [laid]
theorem laid_nn (x y : Str) (g : Got) : laid (.name x) (.name y) g = (decide (x = y), g) := by rw [laid]
theorem laid_ff (f f' : Str) (ps ps') (g : Got) : laid (.form f ps) (.form f' ps') g = if f = f' then (ps.zip ps').foldl laidP (true, g) else (false, g) := by
  rw [laid]
  split
  · exact List.foldl_attach (f := laidP)
  · rfl
theorem laid_nf (x f : Str) (ps) (g : Got) : laid (.name x) (.form f ps) g = (false, g) := by rw [laid] <;> intros <;> first | contradiction | simp
theorem laid_nh (x h : Str) (xs) (g : Got) : laid (.name x) (.hole h xs) g = (false, g) := by rw [laid] <;> intros <;> first | contradiction | simp
theorem laid_fn (f x : Str) (ps) (g : Got) : laid (.form f ps) (.name x) g = (false, g) := by rw [laid] <;> intros <;> first | contradiction | simp
theorem laid_fh (f h : Str) (ps xs) (g : Got) : laid (.form f ps) (.hole h xs) g = (false, g) := by rw [laid] <;> intros <;> first | contradiction | simp

/-! ### entries and books -/
structure Ent where
  word : Str
  sorts : List Int
  sort : Int
  pat : Tm
noncomputable def fitsE (e : Ent) (ss : List Int) (s : Int) (t : Tm) : Bool := decide (e.sorts = ss) && (decide (e.sort = s) && (laid e.pat t []).1)
noncomputable def wideE (e d : Ent) : Bool := fitsE e d.sorts d.sort d.pat
noncomputable def narrowE (e d : Ent) : Bool := wideE d e && !wideE e d
abbrev Bk := List (Int × Ent)
noncomputable def fitB (b : Bk) (ss : List Int) (s : Int) (t : Tm) : Bk := b.filter fun p => fitsE p.2 ss s t
noncomputable def narB (b : Bk) : Bk := b.filter fun p => !b.any fun q => narrowE q.2 p.2
noncomputable def sameB (b : Bk) : List (Int × Int) := b.flatMap fun p => (b.filter fun q => decide (p.1 < q.1) && (wideE p.2 q.2 && wideE q.2 p.2)).map fun q => (p.1, q.1)
/-- rows told: the holes rising, how many each takes, its body -/
noncomputable def rowsG (g : Got) : List (Str × Nat × Tm) := (upS (g.map (·.1))).map fun h => (h, (g.lookup h).getD (0, .name h))
noncomputable def rowsE (e : Ent) (t : Tm) : List (Str × Nat × Tm) := rowsG (laid e.pat t []).2

/-! ### the same book by other numbers -/
/-- number, number in the other one, entry -/
abbrev Tri := List (Int × Int × Ent)
abbrev Tri.one (L : Tri) : Bk := L.map fun x => (x.1, x.2.2)
abbrev Tri.two (L : Tri) : Bk := L.map fun x => (x.2.1, x.2.2)
theorem filter_one (L : Tri) (p : Ent → Bool) : (Tri.one L).filter (fun x => p x.2) = Tri.one (L.filter fun x => p x.2.2) := by
  unfold Tri.one; rw [List.filter_map]; rfl
theorem filter_two (L : Tri) (p : Ent → Bool) : (Tri.two L).filter (fun x => p x.2) = Tri.two (L.filter fun x => p x.2.2) := by
  unfold Tri.two; rw [List.filter_map]; rfl
theorem map_two {L : Tri} {φ : Int → Int} (h : ∀ x ∈ L, φ x.2.1 = x.1) : (Tri.two L).map (fun p => φ p.1) = (Tri.one L).map (·.1) := by
  unfold Tri.one Tri.two
  rw [List.map_map, List.map_map]
  exact List.map_congr_left fun x hx => h x hx
theorem fit_two {L : Tri} {φ : Int → Int} (h : ∀ x ∈ L, φ x.2.1 = x.1) (ss : List Int) (s : Int) (t : Tm) : (fitB (Tri.two L) ss s t).map (fun p => φ p.1) = (fitB (Tri.one L) ss s t).map (·.1) := by
  unfold fitB
  rw [filter_one L fun e => fitsE e ss s t, filter_two L fun e => fitsE e ss s t]
  exact map_two fun x hx => h x (List.mem_filter.mp hx).1
theorem any_one (L : Tri) (p : Ent → Bool) : (Tri.one L).any (fun x => p x.2) = (Tri.two L).any (fun x => p x.2) := by
  unfold Tri.one Tri.two
  rw [List.any_map, List.any_map]; rfl
theorem nar_two {L : Tri} {φ : Int → Int} (h : ∀ x ∈ L, φ x.2.1 = x.1) (ss : List Int) (s : Int) (t : Tm) : (narB (fitB (Tri.two L) ss s t)).map (fun p => φ p.1) = (narB (fitB (Tri.one L) ss s t)).map (·.1) := by
  unfold fitB
  rw [filter_one L fun e => fitsE e ss s t, filter_two L fun e => fitsE e ss s t]
  generalize hM : (L.filter fun x => fitsE x.2.2 ss s t) = M
  have h' : ∀ x ∈ M, φ x.2.1 = x.1 := fun x hx => h x (by rw [← hM] at hx; exact (List.mem_filter.mp hx).1)
  unfold narB
  have e : (fun p : Int × Ent => !(Tri.one M).any fun q => narrowE q.2 p.2) = fun p => (fun e : Ent => !(Tri.two M).any fun q => narrowE q.2 e) p.2 := by
    funext p
    rw [any_one M fun e => narrowE e p.2]
  rw [e, filter_one M (fun e => !(Tri.two M).any fun q => narrowE q.2 e), filter_two M fun e => !(Tri.two M).any fun q => narrowE q.2 e]
  exact map_two fun x hx => h' x (List.mem_filter.mp hx).1
theorem same_two {L : Tri} {φ : Int → Int} (h : ∀ x ∈ L, φ x.2.1 = x.1) (up : ∀ x ∈ L, ∀ y ∈ L, (x.2.1 < y.2.1 ↔ x.1 < y.1)) : (sameB (Tri.two L)).map (fun p => (φ p.1, φ p.2)) = sameB (Tri.one L) := by
  unfold sameB
  rw [List.map_flatMap]
  unfold Tri.one Tri.two
  rw [List.flatMap_map, List.flatMap_map]
  have gen : ∀ (M : Tri), (∀ x ∈ M, x ∈ L) → M.flatMap (fun a => ((L.map fun x => (x.2.1, x.2.2)).filter fun q => decide ((a.2.1, a.2.2).1 < q.1) && (wideE (a.2.1, a.2.2).2 q.2 && wideE q.2 (a.2.1, a.2.2).2)).map (fun q => ((a.2.1, a.2.2).1, q.1)) |>.map fun p => (φ p.1, φ p.2))
      = M.flatMap fun a => ((L.map fun x => (x.1, x.2.2)).filter fun q => decide ((a.1, a.2.2).1 < q.1) && (wideE (a.1, a.2.2).2 q.2 && wideE q.2 (a.1, a.2.2).2)).map fun q => ((a.1, a.2.2).1, q.1) := by
    intro M
    induction M with
    | nil => intro _; rfl
    | cons a M ih =>
      intro hM
      rw [List.flatMap_cons, List.flatMap_cons, ih fun x hx => hM x (List.mem_cons_of_mem _ hx)]
      have ha := hM a List.mem_cons_self
      congr 1
      rw [List.filter_map, List.filter_map, List.map_map, List.map_map, List.map_map]
      have e : L.filter ((fun q : Int × Ent => decide (a.2.1 < q.1) && (wideE a.2.2 q.2 && wideE q.2 a.2.2)) ∘ fun x => (x.2.1, x.2.2)) = L.filter ((fun q : Int × Ent => decide (a.1 < q.1) && (wideE a.2.2 q.2 && wideE q.2 a.2.2)) ∘ fun x => (x.1, x.2.2)) := by
        refine List.filter_congr fun x hx => ?_
        show (decide (a.2.1 < x.2.1) && _) = (decide (a.1 < x.1) && _)
        rw [decide_eq_decide.mpr (up a ha x hx)]
      show ((L.filter _).map _) = ((L.filter _).map _)
      rw [e]
      refine List.map_congr_left fun x hx => ?_
      show (φ a.2.1, φ x.2.1) = (a.1, x.1)
      rw [h a ha, h x (List.mem_filter.mp hx).1]
  exact gen L fun x hx => hx
end Nh
/-! ## NhD -/
namespace Nh
open PySem L2

/-! ### how a heap may go on: what stands outside M stays, tuples stay -/
structure Le (M : Addr → Prop) (H H' : Hp) : Prop where
  tup : ∀ a xs, H a = some (.tup xs) → H' a = some (.tup xs)
  rest : ∀ a o, ¬ M a → H a = some o → H' a = some o
  dom : ∀ a, H a ≠ none → H' a ≠ none
abbrev noM : Addr → Prop := fun _ => False
abbrev Le0 := Le noM
theorem Le.refl {M : Addr → Prop} (H : Hp) : Le M H H := ⟨fun _ _ h => h, fun _ _ _ h => h, fun _ h => h⟩
theorem Le.trans {M : Addr → Prop} {H H1 H2 : Hp} (a : Le M H H1) (b : Le M H1 H2) : Le M H H2 :=
  ⟨fun p xs h => b.tup p xs (a.tup p xs h), fun p o n h => b.rest p o n (a.rest p o n h), fun p h => b.dom p (a.dom p h)⟩
theorem Le.mono {M N : Addr → Prop} {H H' : Hp} (a : Le M H H') (h : ∀ p, M p → N p) : Le N H H' :=
  ⟨a.tup, fun p o n q => a.rest p o (fun m => n (h p m)) q, a.dom⟩
theorem Le.same {H H' : Hp} (a : Le0 H H') : Same H H' := fun b o h => a.rest b o (fun z => z) h
theorem Le.any {M : Addr → Prop} {H H' : Hp} (a : Le0 H H') : Le M H H' := a.mono fun _ h => h.elim
theorem Le.of {M : Addr → Prop} {H H' : Hp} (a : Same H H') : Le M H H' := ⟨fun p xs h => a p _ h, fun p o _ h => a p o h, fun p h => by
  cases e : H p with
  | none => exact absurd e h
  | some o => rw [a p o e]; exact fun z => nomatch z⟩
theorem Le.new {M : Addr → Prop} {H : Hp} {p : Addr} (h : H p = none) (o : HO) : Le M H (upd H p o) := Le.of fun b u q => by rw [upd_ne (ne_of_none q h)]; exact q
theorem Le.nil {M : Addr → Prop} {H H' : Hp} (a : Le M H H') {p : Addr} (h : H' p = none) : H p = none := by
  cases e : H p with
  | none => rfl
  | some o => exact absurd h (a.dom p (by rw [e]; exact fun z => nomatch z))
/-- what is new may change -/
theorem Le.chg {M : Addr → Prop} {H H' : Hp} (a : Le M H H') {p : Addr} (h : H p = Option.none) (o : HO) : Le M H (upd H' p o) :=
  ⟨fun b xs q => by rw [upd_ne (ne_of_none q h)]; exact a.tup b xs q, fun b u n q => by rw [upd_ne (ne_of_none q h)]; exact a.rest b u n q, fun b q => by
    by_cases e : b = p
    · subst e; exact absurd h q
    · rw [upd_ne e]; exact a.dom b q⟩
/-- an object of M may change -/
theorem Le.mut {M : Addr → Prop} {H H' : Hp} (a : Le M H H') {p : Addr} (hm : M p) (ht : ∀ xs, H' p ≠ some (.tup xs)) (o : HO) : Le M H (upd H' p o) := by
  refine ⟨fun b xs q => ?_, fun b u n q => ?_, fun b q => ?_⟩
  · have := a.tup b xs q
    rw [upd_ne fun e => ht xs (by rw [← e]; exact this)]; exact this
  · rw [upd_ne fun e => n (by rw [e]; exact hm)]; exact a.rest b u n q
  · by_cases e : b = p
    · subst e; rw [upd_same]; exact fun z => nomatch z
    · rw [upd_ne e]; exact a.dom b q

/-! ### data that stand in tuples -/
mutual
def Dv (H : Hp) : PyData → V → Prop
  | .none, v => v = .non
  | .bool b, v => v = .bl b
  | .int i, v => v = .int i
  | .str x, v => v = .str x
  | .tuple ds, v => ∃ a xs, v = .ref a ∧ H a = some (.tup xs) ∧ DvA H ds xs
  | .list _, _ => False
  | .dict _, _ => False
def DvA (H : Hp) : List PyData → List V → Prop
  | [], vs => vs = []
  | d :: ds, vs => ∃ v r, vs = v :: r ∧ Dv H d v ∧ DvA H ds r
end
/-- tuples stay -/
def Tu (H H' : Hp) : Prop := ∀ a xs, H a = some (.tup xs) → H' a = some (.tup xs)
theorem Le.tu {M : Addr → Prop} {H H' : Hp} (a : Le M H H') : Tu H H' := a.tup
theorem Tu.new {H : Hp} {p : Addr} (h : H p = none) (o : HO) : Tu H (upd H p o) := (Le.new (M := noM) h o).tup
theorem Tu.trans {H H1 H2 : Hp} (a : Tu H H1) (b : Tu H1 H2) : Tu H H2 := fun p xs h => b p xs (a p xs h)
theorem Tu.upd {H : Hp} {p : Addr} {u : HO} (h : H p = some u) (hn : ∀ xs, u ≠ .tup xs) (o : HO) : Tu H (upd H p o) := fun b xs q => by
  rw [upd_ne fun e => ?_]
  · exact q
  · subst e; rw [h] at q; exact hn xs (Option.some.inj q)
mutual
theorem Dv.mono {H H' : Hp} (t : Tu H H') : ∀ {d : PyData} {v : V}, Dv H d v → Dv H' d v
  | .none, _, h => h
  | .bool _, _, h => h
  | .int _, _, h => h
  | .str _, _, h => h
  | .tuple ds, v, h => by
    unfold Dv at h ⊢
    obtain ⟨a, xs, e, q, r⟩ := h
    exact ⟨a, xs, e, t a xs q, DvA.mono t r⟩
  | .list _, _, h => h.elim
  | .dict _, _, h => h.elim
theorem DvA.mono {H H' : Hp} (t : Tu H H') : ∀ {ds : List PyData} {vs : List V}, DvA H ds vs → DvA H' ds vs
  | [], _, h => h
  | d :: ds, vs, h => by
    unfold DvA at h ⊢
    obtain ⟨v, r, e, q, z⟩ := h
    exact ⟨v, r, e, Dv.mono t q, DvA.mono t z⟩
end
theorem dv_tup {H : Hp} {ds : List PyData} {v : V} : Dv H (.tuple ds) v ↔ ∃ a xs, v = .ref a ∧ H a = some (.tup xs) ∧ DvA H ds xs := by unfold Dv; rfl
theorem dv_int {H : Hp} {i : Int} {v : V} : Dv H (.int i) v ↔ v = .int i := by unfold Dv; rfl
theorem dv_str {H : Hp} {x : Str} {v : V} : Dv H (.str x) v ↔ v = .str x := by unfold Dv; rfl
theorem dva_nil {H : Hp} {vs : List V} : DvA H [] vs ↔ vs = [] := by unfold DvA; rfl
theorem dva_cons {H : Hp} {d : PyData} {ds : List PyData} {vs : List V} : DvA H (d :: ds) vs ↔ ∃ v r, vs = v :: r ∧ Dv H d v ∧ DvA H ds r := by conv => lhs; unfold DvA
theorem DvA.nil {H : Hp} : DvA H [] [] := dva_nil.mpr rfl
theorem DvA.cons {H : Hp} {d : PyData} {ds : List PyData} {v : V} {vs : List V} (h : Dv H d v) (r : DvA H ds vs) : DvA H (d :: ds) (v :: vs) := dva_cons.mpr ⟨v, vs, rfl, h, r⟩
theorem Dv.int {H : Hp} {i : Int} : Dv H (.int i) (.int i) := dv_int.mpr rfl
theorem Dv.str {H : Hp} {x : Str} : Dv H (.str x) (.str x) := dv_str.mpr rfl
theorem Dv.tup {H : Hp} {ds : List PyData} {a : Addr} {xs : List V} (h : H a = some (.tup xs)) (r : DvA H ds xs) : Dv H (.tuple ds) (.ref a) := dv_tup.mpr ⟨a, xs, rfl, h, r⟩
/-- a tuple just made -/
theorem Dv.mk {H : Hp} {ds : List PyData} {a : Addr} {xs : List V} (hn : H a = none) (r : DvA H ds xs) : Dv (upd H a (.tup xs)) (.tuple ds) (.ref a) := Dv.tup upd_same (r.mono (Tu.new hn _))
theorem DvA.length {H : Hp} : ∀ {ds : List PyData} {vs : List V}, DvA H ds vs → vs.length = ds.length
  | [], _, h => by rw [dva_nil] at h; subst h; rfl
  | d :: ds, _, h => by
    rw [dva_cons] at h
    obtain ⟨v, r, rfl, _, q⟩ := h
    rw [List.length_cons, List.length_cons, q.length]
theorem DvA.get {H : Hp} : ∀ {ds : List PyData} {vs : List V} {i : Nat} {d : PyData}, DvA H ds vs → ds[i]? = some d → ∃ v, vs[i]? = some v ∧ Dv H d v
  | [], _, _, _, _, e => by simp at e
  | d :: ds, _, i, d', h, e => by
    rw [dva_cons] at h
    obtain ⟨v, r, rfl, q, z⟩ := h
    cases i with
    | zero => simp at e; subst e; exact ⟨v, rfl, q⟩
    | succ i => simpa using DvA.get z (by simpa using e)
theorem DvA.get' {H : Hp} {ds : List PyData} {vs : List V} {i : Nat} {v : V} (h : DvA H ds vs) (e : vs[i]? = some v) : ∃ d, ds[i]? = some d ∧ Dv H d v := by
  obtain ⟨d, e'⟩ := get_ex (l := ds) (i := i) (by have := (List.getElem?_eq_some_iff.mp e).1; rw [h.length] at this; exact this)
  obtain ⟨v', e2, q⟩ := h.get e'
  rw [e] at e2; cases e2
  exact ⟨d, e', q⟩
theorem DvA.of {H : Hp} : ∀ {ds : List PyData} {vs : List V}, vs.length = ds.length → (∀ (i : Nat) d v, ds[i]? = some d → vs[i]? = some v → Dv H d v) → DvA H ds vs
  | [], vs, hl, _ => by
    have : vs = [] := List.length_eq_zero_iff.mp hl
    rw [this]; exact .nil
  | d :: ds, vs, hl, h => by
    cases vs with
    | nil => simp at hl
    | cons v r => exact .cons (h 0 d v rfl rfl) (DvA.of (by simpa using hl) fun i d' v' e1 e2 => h (i + 1) d' v' (by simpa using e1) (by simpa using e2))
theorem DvA.append {H : Hp} : ∀ {ds es : List PyData} {vs ws : List V}, DvA H ds vs → DvA H es ws → DvA H (ds ++ es) (vs ++ ws)
  | [], _, _, _, h, h' => by rw [dva_nil] at h; subst h; exact h'
  | d :: ds, _, _, _, h, h' => by
    rw [dva_cons] at h
    obtain ⟨v, r, rfl, q, z⟩ := h
    exact .cons q (DvA.append z h')
mutual
/-- as the layer says it -/
theorem Dv.dp {K : PySem.W.Frag} {H : Hp} : ∀ {d : PyData} {v : V}, Dv H d v → Dp K H v d
  | .none, _, h => by unfold Dv at h; subst h; exact .non
  | .bool b, _, h => by unfold Dv at h; subst h; exact .bl b
  | .int i, _, h => by unfold Dv at h; subst h; exact .int i
  | .str x, _, h => by unfold Dv at h; subst h; exact .str x
  | .tuple ds, _, h => by
    rw [dv_tup] at h
    obtain ⟨a, xs, rfl, q, r⟩ := h
    exact .tup (SqT.of q) (DvA.dp r)
  | .list _, _, h => h.elim
  | .dict _, _, h => h.elim
theorem DvA.dp {K : PySem.W.Frag} {H : Hp} : ∀ {ds : List PyData} {vs : List V}, DvA H ds vs → DpAll K H vs ds
  | [], _, h => by rw [dva_nil] at h; subst h; exact .nil
  | d :: ds, _, h => by
    rw [dva_cons] at h
    obtain ⟨v, r, rfl, q, z⟩ := h
    exact .cons (Dv.dp q) (DvA.dp z)
end

/-! ### texts, ints, terms as data -/
abbrev strD (x : Str) : PyData := .str x
abbrev strsD (xs : List Str) : PyData := .tuple (xs.map strD)
abbrev intsD (xs : List Int) : PyData := .tuple (xs.map PyData.int)
theorem dva_strs {H : Hp} : ∀ {xs : List Str} {vs : List V}, DvA H (xs.map strD) vs ↔ vs = xs.map V.str
  | [], vs => by rw [List.map_nil, dva_nil]; rfl
  | x :: xs, vs => by
    rw [List.map_cons, dva_cons]
    refine ⟨fun ⟨v, r, e, q, z⟩ => ?_, fun e => ⟨.str x, xs.map V.str, e, Dv.str, dva_strs.mpr rfl⟩⟩
    rw [dv_str] at q; rw [dva_strs] at z; subst q z; exact e
theorem dva_ints {H : Hp} : ∀ {xs : List Int} {vs : List V}, DvA H (xs.map PyData.int) vs ↔ vs = xs.map V.int
  | [], vs => by rw [List.map_nil, dva_nil]; rfl
  | x :: xs, vs => by
    rw [List.map_cons, dva_cons]
    refine ⟨fun ⟨v, r, e, q, z⟩ => ?_, fun e => ⟨.int x, xs.map V.int, e, Dv.int, dva_ints.mpr rfl⟩⟩
    rw [dv_int] at q; rw [dva_ints] at z; subst q z; exact e
theorem dv_strs {H : Hp} {xs : List Str} {v : V} : Dv H (strsD xs) v ↔ ∃ a, v = .ref a ∧ H a = some (.tup (xs.map V.str)) := by
  rw [dv_tup]
  exact ⟨fun ⟨a, ys, e, q, z⟩ => ⟨a, e, by rw [dva_strs] at z; rw [← z]; exact q⟩, fun ⟨a, e, q⟩ => ⟨a, _, e, q, dva_strs.mpr rfl⟩⟩
theorem dv_ints {H : Hp} {xs : List Int} {v : V} : Dv H (intsD xs) v ↔ ∃ a, v = .ref a ∧ H a = some (.tup (xs.map V.int)) := by
  rw [dv_tup]
  exact ⟨fun ⟨a, ys, e, q, z⟩ => ⟨a, e, by rw [dva_ints] at z; rw [← z]; exact q⟩, fun ⟨a, e, q⟩ => ⟨a, _, e, q, dva_ints.mpr rfl⟩⟩
theorem dv_two {H : Hp} {d e : PyData} {v : V} : Dv H (.tuple [d, e]) v ↔ ∃ a x y, v = .ref a ∧ H a = some (.tup [x, y]) ∧ Dv H d x ∧ Dv H e y := by
  rw [dv_tup]
  refine ⟨fun ⟨a, xs, h, q, z⟩ => ?_, fun ⟨a, x, y, h, q, z1, z2⟩ => ⟨a, _, h, q, .cons z1 (.cons z2 .nil)⟩⟩
  rw [dva_cons] at z; obtain ⟨x, r, rfl, z1, z⟩ := z
  rw [dva_cons] at z; obtain ⟨y, r, rfl, z2, z⟩ := z
  rw [dva_nil] at z; subst z
  exact ⟨a, x, y, h, q, z1, z2⟩
theorem dv_three {H : Hp} {d e f : PyData} {v : V} : Dv H (.tuple [d, e, f]) v ↔ ∃ a x y z, v = .ref a ∧ H a = some (.tup [x, y, z]) ∧ Dv H d x ∧ Dv H e y ∧ Dv H f z := by
  rw [dv_tup]
  refine ⟨fun ⟨a, xs, h, q, z⟩ => ?_, fun ⟨a, x, y, z, h, q, z1, z2, z3⟩ => ⟨a, _, h, q, .cons z1 (.cons z2 (.cons z3 .nil))⟩⟩
  rw [dva_cons] at z; obtain ⟨x, r, rfl, z1, z⟩ := z
  rw [dva_cons] at z; obtain ⟨y, r, rfl, z2, z⟩ := z
  rw [dva_cons] at z; obtain ⟨w, r, rfl, z3, z⟩ := z
  rw [dva_nil] at z; subst z
  exact ⟨a, x, y, w, h, q, z1, z2, z3⟩
/-- a name as a term -/
abbrev nameD (x : Str) : PyData := .tuple [.str "name", .str x]
theorem dv_nm {H : Hp} {x : Str} {v : V} : Dv H (nameD x) v ↔ ∃ a, v = .ref a ∧ H a = some (.tup [.str "name", .str x]) := by
  rw [dv_two]
  refine ⟨fun ⟨a, x, y, e, q, h1, h2⟩ => ⟨a, e, ?_⟩, fun ⟨a, e, q⟩ => ⟨a, _, _, e, q, Dv.str, Dv.str⟩⟩
  rw [dv_str] at h1 h2; subst h1 h2; exact q
def encT : Tm → PyData
  | .name x => nameD x
  | .hole h xs => .tuple [.str "hole", .str h, .tuple (xs.map nameD)]
  | .form f ps => .tuple [.str "form", .str f, .tuple (ps.map fun p => .tuple [strsD p.1, encT p.2])]
termination_by t => sizeOf t
decreasing_by exact Tm.lt_of_mem (by assumption)
abbrev encP (p : List Str × Tm) : PyData := .tuple [strsD p.1, encT p.2]
theorem encT_name (x : Str) : encT (.name x) = nameD x := by rw [encT]
theorem encT_hole (h : Str) (xs) : encT (.hole h xs) = .tuple [.str "hole", .str h, .tuple (xs.map nameD)] := by rw [encT]
theorem encT_form (f : Str) (ps) : encT (.form f ps) = .tuple [.str "form", .str f, .tuple (ps.map encP)] := by rw [encT]
theorem dt_name {H : Hp} {x : Str} {v : V} : Dv H (encT (.name x)) v ↔ ∃ a, v = .ref a ∧ H a = some (.tup [.str "name", .str x]) := by rw [encT_name, dv_nm]
theorem dt_hole {H : Hp} {h : Str} {xs : List Str} {v : V} : Dv H (encT (.hole h xs)) v ↔ ∃ a b vs, v = .ref a ∧ H a = some (.tup [.str "hole", .str h, .ref b]) ∧ H b = some (.tup vs) ∧ DvA H (xs.map nameD) vs := by
  rw [encT_hole, dv_three]
  refine ⟨fun ⟨a, x, y, z, e, q, h1, h2, h3⟩ => ?_, fun ⟨a, b, vs, e, q, hb, hv⟩ => ⟨a, _, _, _, e, q, Dv.str, Dv.str, Dv.tup hb hv⟩⟩
  rw [dv_str] at h1 h2; subst h1 h2
  obtain ⟨b, vs, rfl, hb, hv⟩ := dv_tup.mp h3
  exact ⟨a, b, vs, e, q, hb, hv⟩
theorem dt_form {H : Hp} {f : Str} {ps : List (List Str × Tm)} {v : V} : Dv H (encT (.form f ps)) v ↔ ∃ a b vs, v = .ref a ∧ H a = some (.tup [.str "form", .str f, .ref b]) ∧ H b = some (.tup vs) ∧ DvA H (ps.map encP) vs := by
  rw [encT_form, dv_three]
  refine ⟨fun ⟨a, x, y, z, e, q, h1, h2, h3⟩ => ?_, fun ⟨a, b, vs, e, q, hb, hv⟩ => ⟨a, _, _, _, e, q, Dv.str, Dv.str, Dv.tup hb hv⟩⟩
  rw [dv_str] at h1 h2; subst h1 h2
  obtain ⟨b, vs, rfl, hb, hv⟩ := dv_tup.mp h3
  exact ⟨a, b, vs, e, q, hb, hv⟩
/-- the i-th part -/
theorem part_at {H : Hp} {ps : List (List Str × Tm)} {vs : List V} (h : DvA H (ps.map encP) vs) {i : Nat} {v : V} (e : vs[i]? = some v) : ∃ p a b y, ps[i]? = some p ∧ v = .ref a ∧ H a = some (.tup [.ref b, y]) ∧ H b = some (.tup (p.1.map V.str)) ∧ Dv H (encT p.2) y := by
  obtain ⟨d, e', q⟩ := h.get' e
  rw [List.getElem?_map] at e'
  obtain ⟨p, ep, rfl⟩ := Option.map_eq_some_iff.mp e'
  obtain ⟨a, x, y, rfl, ha, h1, h2⟩ := dv_two.mp q
  obtain ⟨b, rfl, hb⟩ := dv_strs.mp h1
  exact ⟨p, a, b, y, ep, rfl, ha, hb, h2⟩
theorem nm_at {H : Hp} {xs : List Str} {vs : List V} (h : DvA H (xs.map nameD) vs) {i : Nat} {v : V} (e : vs[i]? = some v) : ∃ x a, xs[i]? = some x ∧ v = .ref a ∧ H a = some (.tup [.str "name", .str x]) := by
  obtain ⟨d, e', q⟩ := h.get' e
  rw [List.getElem?_map] at e'
  obtain ⟨x, ex, rfl⟩ := Option.map_eq_some_iff.mp e'
  obtain ⟨a, rfl, ha⟩ := dv_nm.mp q
  exact ⟨x, a, ex, rfl, ha⟩

/-! ### the callees -/
/-- a def that is called by its name -/
structure Cal (P : Program) (w : World) (K : PySem.W.Frag) (mg : Str → Option Value) (base : Heap) (k : Nat) (x : Str) (ps : List Str) (sp : Sp) : Prop where
  ex : ∃ f fd, FnOk P w K mg base CX0 k f fd ps sp ∧ Binds K fd ps [] ∧ PySem.W.keepIn K (.ref f) = true ∧ mg x = some (.ref f)
theorem Cal.mono {P : Program} {w : World} {K : PySem.W.Frag} {mg : Str → Option Value} {base : Heap} {j k : Nat} {x : Str} {ps : List Str} {sp : Sp} (c : Cal P w K mg base j x ps sp) (h : j ≤ k) : Cal P w K mg base k x ps sp :=
  let ⟨f, fd, a, b, d, e⟩ := c.ex; ⟨f, fd, a.mono h, b, d, e⟩
theorem pe_cal {X : Cx} {k : Nat} {x : Str} {ps : List Str} {sp : Sp} {p pos : Pos} {e : Expr} {es : List Expr} {t : TA} (C : Cal X.prog X.w X.K X.mg X.base k x ps sp) (hr : Room k X.A) (hg : Gl X x) (ha : PA X (e :: es) t)
    (hdb : (x == ("__debug__" : Str)) = false := by decide) (he : starEach (e :: es) X.env = (false, eval e X.env) :: starEach es X.env := by rfl) (hpl : (backTo pos (starEach es X.env)).any (·.1) = false := by rfl) :
    PE X (.Call (.Name x p) (e :: es) [] pos) (tCall sp [] E0 t) := by
  obtain ⟨f, fd, a, b, d, g⟩ := C.ex
  exact pe_call a hr hg g d b .nil pass0 ha hdb he hpl

/-! ### comprehensions -/
/-- P by the turn, the new list's items so far, the heap -/
theorem lc_acc {J : It} {n : Nat} {G : Hp → Prop} {Y : Nat → Hp → V → Hp → Prop} (w : Walk J n G Y) {g : TG} {tt : TT} {te : TE} {vs : List Nat} {σ : L2.St} {H1 : Hp} {D : Addr} {Qd : Hp → Prop} (M : Addr → Prop) (P : Nat → List V → Hp → Prop)
    (hD : H1 D = none) (hM : ∀ a, M a → H1 a ≠ none) (hn : n < sizeLine) (stab : ∀ i acc H H', i ≤ n → Tu H H' → (∀ a, a ≠ D → H' a = H a) → P i acc H → P i acc H')
    (h0 : P 0 [] H1) (hG : ∀ i acc H, i ≤ n → Le M H1 H → P i acc H → G H)
    (hs : ∀ (i : Nat) (x : V) (acc : List V) (H H' : Hp), i < n → Le M H1 H → H D = some (.lst acc) → acc.length ≤ i → P i acc H → Y i H x H' → ∀ (k1 : V → Hp → Prop) (k0 : Hp → Prop),
      (∀ y H4, Le M H H4 → P (i + 1) (acc ++ [y]) H4 → k1 y H4) → (∀ H3, Le M H H3 → P (i + 1) acc H3 → k0 H3) →
      g x (wipe σ vs) H' fun σ2 H2 => wipe σ2 vs = wipe σ vs ∧ tt σ2 H2 fun b H3 => if b = true then te σ2 H3 k1 else k0 H3)
    (hd : ∀ acc H, Le M H1 H → H D = some (.lst acc) → acc.length ≤ n → P n acc H → Qd H) :
    ∃ W : Nat → Nat → Hp → Prop, (∃ m, W 0 m (upd H1 D (.lst []))) ∧ ∀ i m H, W i m H →
      (J.stop i H ∧ Qd H) ∨ (J.go i H ∧ ∃ Nx : Hp → Prop, (∀ H', Nx H' → ∃ m', m' < m ∧ W (i + 1) m' H') ∧ ∀ x H', J.yld i H x H' → g x (wipe σ vs) H' fun σ2 H2 => wipe σ2 vs = wipe σ vs ∧ tt σ2 H2 fun b H3 =>
        if b = true then te σ2 H3 fun y H4 => ∃ acc, H4 D = some (.lst acc) ∧ acc.length < sizeLine ∧ Nx (upd H4 D (.lst (acc ++ [y]))) else Nx H3) := by
  have nD : ¬ M D := fun m => hM D m hD
  refine lc_it w (fun i H => ∃ acc, H D = some (.lst acc) ∧ acc.length ≤ i ∧ Le M H1 H ∧ P i acc H) ⟨[], upd_same, Nat.le_refl _, (Le.refl H1).chg hD _, ?_⟩ (fun i H hi ⟨acc, _, _, l, p⟩ => hG i acc H hi l p) (fun i x H H' hi ⟨acc, e, hl, l, p⟩ y => ?_) fun H ⟨acc, e, hl, l, p⟩ => hd acc H l e hl p
  · exact stab 0 [] H1 _ (Nat.zero_le _) (Tu.new hD _) (fun a ha => upd_ne ha) h0
  · refine hs i x acc H H' hi l e hl p y _ _ (fun z H4 l4 p4 => ?_) fun H3 l3 p3 => ?_
    · have e4 : H4 D = some (.lst acc) := l4.rest D _ nD e
      refine ⟨acc, e4, by omega, acc ++ [z], upd_same, by rw [List.length_append, List.length_singleton]; omega, (l.trans l4).chg hD _, ?_⟩
      exact stab (i + 1) _ H4 _ hi (Tu.upd e4 (fun _ q => nomatch q) _) (fun a ha => upd_ne ha) p4
    · exact ⟨acc, l3.rest D _ nD e, by omega, l.trans l3, p3⟩
/-- each turn one item: O tells it, I goes with the turns -/
theorem lc_mapM {J : It} {n : Nat} {G : Hp → Prop} {Y : Nat → Hp → V → Hp → Prop} (w : Walk J n G Y) {g : TG} {te : TE} {vs : List Nat} {σ : L2.St} {H1 : Hp} {D : Addr} {Qd : Hp → Prop} (M : Addr → Prop) (I : Nat → Hp → Prop) (O : Nat → V → Hp → Prop)
    (hD : H1 D = none) (hM : ∀ a, M a → H1 a ≠ none) (hn : n < sizeLine) (stab : ∀ i H H', (∀ a, a ≠ D → H' a = H a) → I i H → I i H') (tu : ∀ i y H H', Tu H H' → O i y H → O i y H')
    (h0 : I 0 H1) (hG : ∀ i H, i ≤ n → Le M H1 H → I i H → G H)
    (hs : ∀ (i : Nat) (x : V) (H H' : Hp), i < n → Le M H1 H → I i H → Y i H x H' → ∀ (k1 : V → Hp → Prop),
      (∀ y H4, Le M H H4 → I (i + 1) H4 → O i y H4 → k1 y H4) → g x (wipe σ vs) H' fun σ2 H2 => wipe σ2 vs = wipe σ vs ∧ te σ2 H2 k1)
    (hd : ∀ acc H, Le M H1 H → H D = some (.lst acc) → acc.length = n → I n H → (∀ (i : Nat) y, acc[i]? = some y → O i y H) → Qd H) :
    ∃ W : Nat → Nat → Hp → Prop, (∃ m, W 0 m (upd H1 D (.lst []))) ∧ ∀ i m H, W i m H →
      (J.stop i H ∧ Qd H) ∨ (J.go i H ∧ ∃ Nx : Hp → Prop, (∀ H', Nx H' → ∃ m', m' < m ∧ W (i + 1) m' H') ∧ ∀ x H', J.yld i H x H' → g x (wipe σ vs) H' fun σ2 H2 => wipe σ2 vs = wipe σ vs ∧ tYes σ2 H2 fun b H3 =>
        if b = true then te σ2 H3 fun y H4 => ∃ acc, H4 D = some (.lst acc) ∧ acc.length < sizeLine ∧ Nx (upd H4 D (.lst (acc ++ [y]))) else Nx H3) := by
  refine lc_acc w M (fun i acc H => I i H ∧ acc.length = i ∧ ∀ (j : Nat) y, acc[j]? = some y → O j y H) hD hM hn (fun i acc H H' _ t q p => ⟨stab i H H' q p.1, p.2.1, fun j y e => tu j y H H' t (p.2.2 j y e)⟩) ⟨h0, rfl, fun j y e => by simp at e⟩
    (fun i acc H hi l p => hG i H hi l p.1) (fun i x acc H H' hi l e hl p y k1 k0 hk1 hk0 => ?_) fun acc H l e hl p => hd acc H l e p.2.1 p.1 p.2.2
  have q := hs i x H H' hi l p.1 y k1 fun z H4 l4 i4 o4 => hk1 z H4 l4 ⟨i4, by rw [List.length_append, p.2.1]; rfl, fun j u ej => ?_⟩
  · exact q
  · by_cases hj : j < acc.length
    · rw [List.getElem?_append_left hj] at ej
      exact tu j u H H4 l4.tup (p.2.2 j u ej)
    · have h1 : j = i := by
        have := (List.getElem?_eq_some_iff.mp ej).1
        rw [List.length_append, List.length_singleton] at this
        have := p.2.1
        omega
      subst h1
      rw [← p.2.1] at ej
      rw [List.getElem?_append_right (Nat.le_refl _), Nat.sub_self] at ej
      simp at ej
      subst ej
      exact o4
/-- .. a pure one: the items are the data ds -/
theorem lc_map {J : It} {n : Nat} {G : Hp → Prop} {Y : Nat → Hp → V → Hp → Prop} (w : Walk J n G Y) {g : TG} {te : TE} {vs : List Nat} {σ : L2.St} {H1 : Hp} {D : Addr} {Qd : Hp → Prop} (ds : List PyData)
    (hD : H1 D = none) (hn : n < sizeLine) (hl : ds.length = n) (hG : ∀ H, Le0 H1 H → G H)
    (hs : ∀ (i : Nat) (x : V) (d : PyData) (H H' : Hp), i < n → ds[i]? = some d → Le0 H1 H → Y i H x H' → ∀ (k1 : V → Hp → Prop),
      (∀ y H4, Le0 H H4 → Dv H4 d y → k1 y H4) → g x (wipe σ vs) H' fun σ2 H2 => wipe σ2 vs = wipe σ vs ∧ te σ2 H2 k1)
    (hd : ∀ acc H, Le0 H1 H → H D = some (.lst acc) → DvA H ds acc → Qd H) :
    ∃ W : Nat → Nat → Hp → Prop, (∃ m, W 0 m (upd H1 D (.lst []))) ∧ ∀ i m H, W i m H →
      (J.stop i H ∧ Qd H) ∨ (J.go i H ∧ ∃ Nx : Hp → Prop, (∀ H', Nx H' → ∃ m', m' < m ∧ W (i + 1) m' H') ∧ ∀ x H', J.yld i H x H' → g x (wipe σ vs) H' fun σ2 H2 => wipe σ2 vs = wipe σ vs ∧ tYes σ2 H2 fun b H3 =>
        if b = true then te σ2 H3 fun y H4 => ∃ acc, H4 D = some (.lst acc) ∧ acc.length < sizeLine ∧ Nx (upd H4 D (.lst (acc ++ [y]))) else Nx H3) := by
  refine lc_mapM w noM (fun _ _ => True) (fun i y H => ∀ d, ds[i]? = some d → Dv H d y) hD (fun _ z => z.elim) hn (fun _ _ _ _ h => h) (fun i y H H' t h d e => (h d e).mono t) trivial (fun i H hi l _ => hG H l) (fun i x H H' hi l _ y k1 hk => ?_) fun acc H l e hl2 _ ho => ?_
  · obtain ⟨d, e⟩ := get_ex (l := ds) (i := i) (by omega)
    exact hs i x d H H' hi e l y k1 fun z H4 l4 q => hk z H4 l4 trivial fun d' e' => by rw [e] at e'; cases e'; exact q
  · exact hd acc H l e (DvA.of (by omega) fun i d v e1 e2 => ho i v e2 d e1)
end Nh
/-! ## NhR1 -/
namespace Nh
open PySem PySem.Spec PyProof.Rows L2

/-! ### enumerate over a tuple -/
set_option maxHeartbeats 1000000 in
theorem meets_enum1 {v : Value} {o : Obj} {G : Heap → Prop} (B : Begins v o G) :
    Meets (Builtin.«enumerate.__new__» ⟨[.type "enumerate", v], []⟩) (fun _ R s => G s.heap ∧
      R (.ok (.ret (.ref (s.heap.push o).objs.size))) { s with heap := (s.heap.push o).push { cls := .type "enumerate", data := .fields #[.none, .bool false, .ref s.heap.objs.size, rawInt 0, .none, .none] } }) :=
  .of_wp fun prog w A R s h => by
    obtain ⟨hp, g, d, tk, os⟩ := s
    obtain ⟨h1, h⟩ := h
    have hsub := sub_enumerate
    have q1 : ∀ {A' : Around} {E : Value → Shared → Prop} {Q : Value → Shared → Prop}, Q (.ref hp.objs.size) ⟨hp.push o, g, d, tk, os⟩ → wpAny (model prog w) A' (pyIter v) Q E ⟨hp, g, d, tk, os⟩ := fun q => B.iter prog w _ _ ⟨hp, g, d, tk, os⟩ _ h1 q
    wp_walk using q1
    refine wpAny_stack_any fun st => wpAny_pure ?_
    split
    · rename_i c _ _ _ _ _
      cases (c == Value.type "enumerate")
      all_goals (wp_walk using q1; exact ⟨_, rfl, h⟩)
    · wp_walk using q1
      exact ⟨_, rfl, h⟩
section
variable {prog : Program} {w : World} {A : Around} {E : Value → Shared → Prop} {s : Shared}
theorem call_enumT {t : Addr} {items : Array Value} {Q : Value → Shared → Prop} (hT : s.heap.IsTuple t items)
    (h : ∀ h', IsEnum h' (s.heap.objs.size + 1) s.heap.objs.size 0 .none → h'.IsTupleIter s.heap.objs.size t 0 → (∀ b o, s.heap.get? b = some o → h'.get? b = some o) → Q (.ref (s.heap.objs.size + 1)) { s with heap := h' }) :
    wpAny (model prog w) A (call (.type "enumerate") [.ref t]) Q E s := by
  refine callType_new F.called_enumerate (by decide) (F.typeCall_enumerate_1 _) (F.newCall_enumerate_1 _) (fun obj => F.args_object_init_2 obj _) F.entry_enumerate_new (meets_enum1 (begins_tuple t items)) ⟨hT, ?_⟩
  generalize ho : ({ cls := .type "tuple_iterator", data := .fields #[.ref t, .int 0 0] } : Obj) = o1
  generalize he : ({ cls := .type "enumerate", data := .fields #[.none, .bool false, .ref s.heap.objs.size, rawInt 0, .none, .none] } : Obj) = o2
  have hz : (s.heap.push o1).objs.size = s.heap.objs.size + 1 := Heap.size_push ..
  have g2 : ((s.heap.push o1).push o2).get? (s.heap.objs.size + 1) = some o2 := by
    rw [← hz]
    exact Heap.get?_push_size _ (by rw [← he]; rfl)
  have g1 : ((s.heap.push o1).push o2).get? s.heap.objs.size = some o1 := Heap.get?_push_of_some _ (Heap.get?_push_size _ (by rw [← ho]; rfl))
  show _ ∧ _
  rw [hz]
  refine ⟨⟨o2, g2, by rw [← he]⟩, h _ ?_ ?_ fun b o e => Heap.get?_push_of_some _ (Heap.get?_push_of_some _ e)⟩
  · rw [← he] at g2; rw [← he]; exact g2
  · exact ⟨o1, g1, by rw [← ho]; exact ⟨rfl, rfl⟩⟩
end
def IteT (K : PySem.W.Frag) (a : Addr) : It :=
  ⟨fun i H => ∃ (xs : List V) (x : V), SqT K H a xs ∧ xs[i]? = some x, fun i H v H' => ∃ T x, v = .ref T ∧ H T = none ∧ H' = upd H T (.tup [.int (i : Nat), x]) ∧ ∀ xs, SqT K H a xs → xs[i]? = some x, fun i H => ∃ xs : List V, SqT K H a xs ∧ xs.length ≤ i⟩
theorem turn_enumT {P : Program} {w : World} {K : PySem.W.Frag} {elts : List Expr} {kk : Nat} {tpos : Pos} (a e it : Addr) :
    Turn P w K (.Tuple elts kk tpos) (IteT K a) [e, it] e (fun i h => (∃ old, IsEnum h e it ((i : Nat) : Int) old) ∧ h.IsTupleIter it a i ∧ e ≠ it ∧ a ≠ e ∧ a ≠ it) where
  mem := by simp
  obj := fun i h st b hb => by
    obtain ⟨⟨old, he⟩, ⟨o, ho, hc, hd⟩, _⟩ := st
    rcases List.mem_cons.mp hb with rfl | hb
    · exact ⟨_, he, fun v q => nomatch q⟩
    · cases List.mem_singleton.mp hb
      exact ⟨o, ho, fun v q => by rw [hd] at q; cases q⟩
  keep := fun i h h' st k => let ⟨⟨old, he⟩, hi, hne⟩ := st; ⟨⟨old, k e (by simp) _ he⟩, hi.at fun o q => k it (by simp) o q, hne⟩
  item := by
    intro X hP hw hK hc i pins s σ H E I hf st hg
    subst hP hw hK
    obtain ⟨⟨old, he⟩, hit, hne, hae, hai⟩ := st
    obtain ⟨xs, x, hq, hx⟩ := hg
    obtain ⟨its, rv, p, hz⟩ := I.tuple hq
    obtain ⟨u, hu, ru⟩ := rv.get hx
    have hel : e < s.heap.objs.size := Heap.lt_size he
    have hil : it < s.heap.objs.size := by obtain ⟨_, q, _⟩ := hit; exact Heap.lt_size q
    have hlt : i < its.toArray.size := by simpa using (List.getElem?_eq_some_iff.mp hu).1
    have Dr := Draws.tuple (prog := X.prog) (w := X.w) (A := X.A.in1) (I.ok.hd hc) it a hai its.toArray
    refine wpAny_pyNext_enum_itemD Dr he ⟨hit, p⟩ hlt hne (by simp [hne, Ne.symm hae]) fun y h' tk hy ho hst hT hsz hk => ?_
    have ey : y = u := by
      have z : its.toArray[i]? = some u := by simpa using hu
      rw [z] at hy; exact (Option.some.inj hy).symm
    subst ey
    refine ⟨_, rfl, wpAny_letOwnedTupleGo_enum (s := { s with heap := h', toks := tk + 1 }) ho fun h'' he' sb => ?_⟩
    have hT2 : h''.get? s.heap.objs.size = some { cls := .type "tuple", data := .seq #[.int i tk, y] } := (sb.2 _ (Nat.ne_of_gt hel)).trans hT
    have nw : ObjOk X.prog X.w (upd H s.heap.objs.size (.tup [.int (i : Nat), x])) h'' s.heap.objs.size (.tup [.int (i : Nat), x]) := ⟨by show 2 ≤ sizeLine; decide, [.int i tk, y], .cons ⟨_, rfl⟩ (.cons ru .nil), ⟨_, hT2, rfl, _, rfl⟩⟩
    have I1 : Inv X pins σ (upd H s.heap.objs.size (.tup [.int (i : Nat), x])) { s with heap := h'', toks := tk + 1 } :=
      I.turnedNew (ch := [e, it]) (fun b ob hb q => (sb.2 b fun z => hb (by simp [z])).trans (hk b ob (fun z => hb (by simp [z])) (fun z => hb (by simp [z])) q)) hf (Nat.le_refl _) nw
    refine ⟨.ref s.heap.objs.size, _, I1, rfl, ⟨_, x, rfl, I.hok.fresh (Nat.le_refl _), rfl, fun ys hy => by rw [I.tuple_inj hy hq]; exact hx⟩, ⟨⟨y, ?_⟩, hst.1.at fun o q => (sb.2 it (Ne.symm hne)).trans q, hne, hae, hai⟩, fun b hb => ?_⟩
    · rw [show ((i + 1 : Nat) : Int) = (i : Int) + 1 by omega]; exact he'
    · have hb' : b < s.heap.objs.size := by
        rcases List.mem_cons.mp hb with rfl | hb
        · exact hel
        · cases List.mem_singleton.mp hb; exact hil
      rw [upd_ne (Nat.ne_of_lt hb')]
      exact (hf b hb).1
  done := by
    intro X hP hw hK hc i pins s σ H E I hf st hg
    subst hP hw hK
    obtain ⟨⟨old, he⟩, hit, hne, hae, hai⟩ := st
    obtain ⟨xs, hq, hx⟩ := hg
    obtain ⟨its, rv, p, hz⟩ := I.tuple hq
    obtain ⟨f0, f1, f2, f3, f4, f5⟩ := hf it (by simp)
    have hl := rv.length
    have hd := I.ok.hd hc
    have hT : s.TypeIs (.ref e) "enumerate" := ⟨_, he, rfl⟩
    unfold pyNext
    refine wpAny_bind (wpAny_attempt (wpAny_callSpecial?_slot (name := Str.ofString "__next__") hT F.slot_enumerate_next (wpAny_call_entry F.slot_enumerate_next hT F.entry_enumerate_next ?_ (F.args_enumerate_next_1 _))))
    show wpAny _ _ (field (.ref e) 2 >>= _) _ _ _
    refine wpAny_bind (wpAny_field he rfl (x := .ref it) rfl (wpAny_bind (wpAny_nextOf_tuple_end hd hit p (by simp; omega) fun h' x he' hx' => ?_)))
    obtain ⟨o, ho, hc'⟩ := hx'
    refine wpAny_bind (wpAny_isInstance (T := "StopIteration") (b := true) ⟨o, ho, hc'⟩ isSubtype_stop (wpAny_pure ⟨rfl, ?_⟩))
    exact I.turned (t' := s.toks) (fun b o hb q => he' b o hb q) f0 f1 f3 f4 f5
  self := fun A i s Q E st h => let ⟨⟨_, he⟩, _⟩ := st; wpAny_pyIter_enum he h
def iEnumT (K : PySem.W.Frag) (ta : TA) : TI := fun σ H R => ta σ H fun vs H1 => ∃ a xs, vs = [.ref a] ∧ SqT K H1 a xs ∧ R (IteT K a) H1
theorem pi_enumT {X : Cx} {e : Expr} {ta : TA} {p pos tpos : Pos} {elts : List Expr} {kk : Nat} (hg : Gl X "enumerate") (hm : X.mg "enumerate" = none) (ha : PA X [e] ta) (hs : starEach [e] X.env = [(false, eval e X.env)] := by rfl) :
    PI X (.Tuple elts kk tpos) (.Call (.Name "enumerate" p) [e] [] pos) (iEnumT X.K ta) := by
  refine ⟨fun pins s σ H R I h => Call_ (ld_blt I hg hm boot_enumerate (PyProof.Rows.callWith_type1 (thn (ha.run pos pins s σ H _ I h) fun us s1 ⟨vs, H1, I1, r1, a, xs, ex, hq, q⟩ => ?_) hs rfl))⟩
  subst ex
  cases r1 with
  | cons r rr =>
    cases rr
    cases r
    obtain ⟨its, rv, p', hz⟩ := I1.tuple hq
    have hal : a < s1.heap.objs.size := p'.lt
    refine call_enumT p' fun h' he hit hk => wpAny_pyIter_enum he ?_
    have I2 : Inv X pins σ H1 { s1 with heap := h' } := I1.kept (t' := s1.toks) hk
    refine ⟨s1.heap.objs.size + 1, [s1.heap.objs.size + 1, s1.heap.objs.size], _, _, H1, rfl, I2, turn_enumT a (s1.heap.objs.size + 1) s1.heap.objs.size, ⟨⟨.none, he⟩, hit, Nat.succ_ne_self _, Nat.ne_of_lt (Nat.lt_succ_of_lt hal), Nat.ne_of_lt hal⟩, fun b hb => ?_, q⟩
    have hle : s1.heap.objs.size ≤ b := by
      rcases List.mem_cons.mp hb with rfl | hb
      · exact Nat.le_succ _
      · cases List.mem_singleton.mp hb; exact Nat.le_refl _
    exact I1.fpOk hle (I1.hok.fresh hle)
theorem walk_enumT {K : PySem.W.Frag} {a : Addr} {xs : List V} : Walk (IteT K a) xs.length (fun H => SqT K H a xs) (YPair (fun i => some (.int (i : Nat))) (fun i => xs[i]?)) := by
  refine ⟨fun i _ hi q => ⟨xs, xs[i], q, by simp [hi]⟩, fun _ q => ⟨xs, q, Nat.le_refl _⟩, fun i H v H' _ q y => ?_⟩
  obtain ⟨T, x, h1, h2, h3, h4⟩ := y
  exact ⟨T, .int (i : Nat), x, h1, h2, h3, rfl, h4 xs q⟩
end Nh
/-! ## NhR2 -/
namespace Nh
open PySem PySem.Spec PyProof.Rows L2

/-! ### dict(zip(..)) over any two things that are drawn from -/
section
variable {prog : Program} {w : World} {A : Around} {E : Value → Shared → Prop} {s : Shared} {z TI TO T i1 i2 : Addr} {fp1 fp2 : List Addr} {n1 n2 i : Nat} {P1 P2 : Nat → Value → Prop} {St1 St2 : Nat → Heap → Prop} {f : Bool} {oT : Obj}
theorem zipH_item {Q : Value → Shared → Prop} (S : ZipSep2 z TI TO i1 i2 fp1 fp2) (D1 : Draws prog w A i1 fp1 n1 P1 St1) (D2 : Draws prog w A i2 fp2 n2 P2 St2)
    (hz : IsZipHeld s.heap z TI TO T f) (hT : s.heap.get? T = some oT) (hTI : IsTupOf2 s.heap TI (.ref i1) (.ref i2)) (st1 : St1 i s.heap) (st2 : St2 i s.heap) (hlt1 : i < n1) (hlt2 : i < n2)
    (hQ : ∀ x1 x2 h' tk, P1 i x1 → P2 i x2 → IsZipHeld h' z TI TO T true → St1 (i + 1) h' → St2 (i + 1) h' → IsTupOf2 h' s.heap.objs.size x1 x2 →
      (∀ c o, c ≠ z → c ≠ i1 → c ≠ i2 → s.heap.get? c = some o → h'.get? c = some o) → Q (.ref s.heap.objs.size) { s with heap := h', toks := tk }) :
    wpAny (model prog w) A (Builtin.«zip.__next__» ⟨[.ref z], []⟩) (fun fin s' => ∃ v, fin = .done (.ret v) ∧ Q v s') E s := by
  obtain ⟨hp, g, d, tk0, os⟩ := s
  show wpAny _ _ (field (.ref z) 2 >>= _) _ _ _
  refine wpAny_bind (wpAny_field hz rfl (x := .bool false) rfl ?_)
  show wpAny _ _ (field (.ref z) 3 >>= _) _ _ _
  refine wpAny_bind (wpAny_field hz rfl (x := .ref TI) rfl (wpAny_bind (wpAny_seqItems hTI rfl ?_)))
  show wpAny _ _ (Builtin.SmallTypes.ownedTupleIsFree (.ref z) >>= _) _ _ _
  refine wpAny_bind (wpAny_tupleHeld_zip hz hT fun g0 hz0 hs0 => ?_)
  replace hs0 : Heap.SameBut z hp g0 := hs0
  simp only [Bool.false_eq_true, if_false]
  refine wpAny_bind ?_
  rw [← Array.forIn_toList]
  simp only [List.forIn_cons, List.forIn_nil]
  refine wpAny_bind (wpAny_bind (wpAny_holding ?_))
  show wpAny _ _ (Builtin.SmallTypes.nextOf (.ref i1) >>= _) _ _ ⟨g0, g, d, tk0, os⟩
  refine wpAny_bind (D1.item i _ _ _ hlt1 (D1.over st1 hs0 S.zf1) fun x1 p1 tk1 hx1 sn1 hp1 => wpAny_pure (wpAny_pure ?_))
  replace hp1 : Heap.SameBut i1 g0 p1 := hp1
  refine wpAny_bind (wpAny_bind (wpAny_holding ?_))
  show wpAny _ _ (Builtin.SmallTypes.nextOf (.ref i2) >>= _) _ _ ⟨p1, g, d, tk1, os⟩
  refine wpAny_bind (D2.item i _ _ _ hlt2 (D2.over (D2.over st2 hs0 S.zf2) hp1 S.sep1_2) fun x2 p2 tk2 hx2 sn2 hp2 => wpAny_pure (wpAny_pure (wpAny_pure ?_)))
  replace hp2 : Heap.SameBut i2 p1 p2 := hp2
  show wpAny _ _ (newTuple [x1, x2] >>= _) _ _ ⟨p2, g, d, tk2, os⟩
  have hsz : p2.objs.size = hp.objs.size := by rw [hp2.1, hp1.1, hs0.1]
  refine wpAny_bind (wpAny_newTuple (wpAny_pure ⟨_, rfl, ?_⟩))
  show Q (.ref p2.objs.size) _
  have hpr : IsTupOf2 (p2.push { cls := .type "tuple", data := .seq #[x1, x2] }) p2.objs.size x1 x2 := Heap.get?_push_size _ rfl
  have up : ∀ c o, p2.get? c = some o → (p2.push { cls := .type "tuple", data := .seq #[x1, x2] }).get? c = some o := fun c o e => Heap.get?_push_of_some _ e
  rw [hsz] at hpr ⊢
  exact hQ x1 x2 _ tk2 hx1 hx2 (up _ _ (hp2.extBut _ _ S.zi2 (hp1.extBut _ _ S.zi1 hz0))) (D1.frame _ _ _ (D1.over sn1 hp2 S.sep2_1) fun b _ o e => up b o e) (D2.frame _ _ _ sn2 fun b _ o e => up b o e) hpr
    fun c o c1 c2 c3 e => up c o (hp2.extBut _ _ c3 (hp1.extBut _ _ c2 (hs0.extBut _ _ c1 e)))
theorem zipH_end {Q : Fin → Shared → Prop} (S : ZipSep2 z TI TO i1 i2 fp1 fp2) (D1 : Draws prog w A i1 fp1 n1 P1 St1) (D2 : Draws prog w A i2 fp2 n2 P2 St2)
    (hz : IsZipHeld s.heap z TI TO T f) (hT : s.heap.get? T = some oT) (hTI : IsTupOf2 s.heap TI (.ref i1) (.ref i2)) (st1 : St1 i s.heap) (st2 : St2 i s.heap) (hle1 : i ≤ n1) (hend : i = n1 ∨ i = n2)
    (hE : ∀ h' tk e, (∀ c o, c ≠ z → c ≠ i1 → c ≠ i2 → s.heap.get? c = some o → h'.get? c = some o) → (∃ o, h'.get? e = some o ∧ o.cls = .type "StopIteration") → E (.ref e) { s with heap := h', toks := tk }) :
    wpAny (model prog w) A (Builtin.«zip.__next__» ⟨[.ref z], []⟩) Q E s := by
  obtain ⟨hp, g, d, tk0, os⟩ := s
  show wpAny _ _ (field (.ref z) 2 >>= _) _ _ _
  refine wpAny_bind (wpAny_field hz rfl (x := .bool false) rfl ?_)
  show wpAny _ _ (field (.ref z) 3 >>= _) _ _ _
  refine wpAny_bind (wpAny_field hz rfl (x := .ref TI) rfl (wpAny_bind (wpAny_seqItems hTI rfl ?_)))
  show wpAny _ _ (Builtin.SmallTypes.ownedTupleIsFree (.ref z) >>= _) _ _ _
  refine wpAny_bind (wpAny_tupleHeld_zip hz hT fun g0 hz0 hs0 => ?_)
  replace hs0 : Heap.SameBut z hp g0 := hs0
  simp only [Bool.false_eq_true, if_false]
  refine wpAny_bind ?_
  rw [← Array.forIn_toList]
  simp only [List.forIn_cons, List.forIn_nil]
  refine wpAny_bind (wpAny_bind (wpAny_holding ?_))
  show wpAny _ _ (Builtin.SmallTypes.nextOf (.ref i1) >>= _) _ _ ⟨g0, g, d, tk0, os⟩
  by_cases h1 : i = n1
  · subst h1
    exact wpAny_bind (D1.done ⟨g0, g, d, tk0, os⟩ _ _ (D1.over st1 hs0 S.zf1) fun q e hq he => hE q tk0 e (fun c o cz c1 _ x => hq _ _ c1 (hs0.extBut _ _ cz x)) he)
  · have h2 : i = n2 := hend.resolve_left h1
    subst h2
    refine wpAny_bind (D1.item i _ _ _ (Nat.lt_of_le_of_ne hle1 h1) (D1.over st1 hs0 S.zf1) fun x1 p1 tk1 hx1 sn1 hp1 => wpAny_pure (wpAny_pure ?_))
    replace hp1 : Heap.SameBut i1 g0 p1 := hp1
    refine wpAny_bind (wpAny_bind (wpAny_holding ?_))
    show wpAny _ _ (Builtin.SmallTypes.nextOf (.ref i2) >>= _) _ _ ⟨p1, g, d, tk1, os⟩
    exact wpAny_bind (D2.done ⟨p1, g, d, tk1, os⟩ _ _ (D2.over (D2.over st2 hs0 S.zf2) hp1 S.sep1_2) fun q e hq he => hE q tk1 e (fun c o cz c1 c2 x => hq _ _ c2 (hp1.extBut _ _ c1 (hs0.extBut _ _ cz x))) he)
end
/-- pairs drawn from a zip -/
theorem pairs_zip {prog : Program} {w : World} {z TI TO i1 i2 : Addr} {fp1 fp2 : List Addr} {n : Nat} {P1 P2 : Nat → Value → Prop} {St1 St2 : Nat → Heap → Prop} (S : ZipSep2 z TI TO i1 i2 fp1 fp2)
    (D1 : ∀ A : Around, A.handled = none → Draws prog w A i1 fp1 n P1 St1) (D2 : ∀ A : Around, A.handled = none → Draws prog w A i2 fp2 n P2 St2) :
    PairArg prog w "zip" z (z :: TI :: TO :: (fp1 ++ fp2)) [z, TO, i1, i2] n (fun i k v => P1 i k ∧ P2 i v)
      (fun h => IsZip h z TI TO .none ∧ IsTupOf2 h TI (.ref i1) (.ref i2) ∧ (∃ a b, IsTupOf2 h TO a b) ∧ St1 0 h ∧ St2 0 h ∧ (∀ b ∈ fp1 ++ fp2, ∃ o, h.get? b = some o)) where
  type := fun s ok => ⟨_, ok.1, rfl⟩
  notDict := by decide
  keep := fun h h' ok hk => by
    obtain ⟨hz, hTI, ⟨a, b, hTO⟩, h1, h2, hl⟩ := ok
    have d0 : (⟨0, 0, 0, 0⟩ : Pos) = ⟨0, 0, 0, 0⟩ := rfl
    exact ⟨hk _ _ hz, hk _ _ hTI, ⟨a, b, hk _ _ hTO⟩, (D1 callerA rfl).frame _ _ _ h1 fun b _ o e => hk b o e, (D2 callerA rfl).frame _ _ _ h2 fun b _ o e => hk b o e, fun b hb => let ⟨o, e⟩ := hl b hb; ⟨o, hk _ _ e⟩⟩
  there := fun h ok b hb => by
    obtain ⟨hz, hTI, ⟨a, c, hTO⟩, h1, h2, hl⟩ := ok
    rcases List.mem_cons.mp hb with rfl | hb
    · exact ⟨_, hz⟩
    · rcases List.mem_cons.mp hb with rfl | hb
      · exact ⟨_, hTI⟩
      · rcases List.mem_cons.mp hb with rfl | hb
        · exact ⟨_, hTO⟩
        · exact hl b hb
  sub := fun b hb => by
    simp only [List.mem_cons, List.not_mem_nil, or_false] at hb
    rcases hb with rfl | rfl | rfl | rfl
    · simp
    · simp
    · simp [S.mem1]
    · simp [S.mem2]
  noKeys := fun A s Q E hA ok h => getAttrOr_miss_zip ok.1 rfl rfl rfl zip_no_keys (by decide +kernel) hA h
  iter := fun A s d Q E hA ok hd hdf h => by
    obtain ⟨hz, hTI, ⟨a, b, hTO⟩, h1, h2, hl⟩ := ok
    simp only [List.mem_cons, List.mem_append, not_or] at hdf
    obtain ⟨dz, dTI, dTO, d1, d2⟩ := hdf
    have di1 : d ≠ i1 := fun e => d1 (e ▸ S.mem1)
    have di2 : d ≠ i2 := fun e => d2 (e ▸ S.mem2)
    refine wpAny_pyIter_zip hz (h z [z, TO, i1, i2] (fun i h => IsTupOf2 h TI (.ref i1) (.ref i2) ∧ St1 i h ∧ St2 i h ∧
      ((IsZip h z TI TO .none ∧ ∃ a b, IsTupOf2 h TO a b) ∨ ∃ T f oT, IsZipHeld h z TI TO T f ∧ h.get? T = some oT ∧ T ≠ z ∧ T ≠ i1 ∧ T ≠ i2 ∧ T ≠ d)) s.heap s.toks ?_ ⟨hTI, h1, h2, .inl ⟨hz, a, b, hTO⟩⟩ (fun _ _ e => e) fun b hb => .inl hb)
    have E1 := D1 A.in1 hA
    have E2 := D2 A.in1 hA
    exact {
      off := fun hm => by
        simp only [List.mem_cons, List.not_mem_nil, or_false] at hm
        rcases hm with e | e | e | e
        · exact dz e
        · exact dTO e
        · exact di1 e
        · exact di2 e
      frame := fun i k1 k2 st hk => by
        obtain ⟨hTI, h1, h2, hz⟩ := st
        refine ⟨hk _ _ (Ne.symm dTI) hTI, E1.frame _ _ _ h1 fun b hb o e => hk b o (fun q => d1 (q ▸ hb)) e, E2.frame _ _ _ h2 fun b hb o e => hk b o (fun q => d2 (q ▸ hb)) e, ?_⟩
        rcases hz with ⟨hz, a, b, hTO⟩ | ⟨T, f, oT, hz, hT, r1, r2, r3, r4⟩
        · exact .inl ⟨hk _ _ (Ne.symm dz) hz, a, b, hk _ _ (Ne.symm dTO) hTO⟩
        · exact .inr ⟨T, f, oT, hk _ _ (Ne.symm dz) hz, hk _ _ r4 hT, r1, r2, r3, r4⟩
      item := fun i t Q1 X1 hi st hds hQ => by
        obtain ⟨hTI, h1, h2, hz⟩ := st
        have lt : ∀ {c o}, t.heap.get? c = some o → t.heap.objs.size ≠ c := fun e => Nat.ne_of_gt (Heap.lt_size e)
        have m1 : t.heap.objs.size ≠ i1 := let ⟨_, e⟩ := E1.live _ _ h1; lt e
        have m2 : t.heap.objs.size ≠ i2 := let ⟨_, e⟩ := E2.live _ _ h2; lt e
        have nz : ∀ c, c ∉ [z, TO, i1, i2] → c ≠ z ∧ c ≠ TO ∧ c ≠ i1 ∧ c ≠ i2 := fun c hc => by simpa using hc
        unfold pyNext
        rcases hz with ⟨hz, a, b, hTO⟩ | ⟨T, f, oT, hz, hT, r1, r2, r3, r4⟩
        · have hTy : t.TypeIs (.ref z) "zip" := ⟨_, hz, rfl⟩
          refine wpAny_bind (wpAny_attempt (wpAny_callSpecial?_slot (name := Str.ofString "__next__") hTy F.slot_zip_next (wpAny_call_entry F.slot_zip_next hTy F.entry_zip_next
            (zipD2_next_item S E1 E2 hz hTI hTO h1 h2 hi hi fun x1 x2 h' tk p1 p2 a1 a2 a3 a4 a5 a6 hk => wpAny_pure ?_) (F.args_zip_next_1 _))))
          exact hQ t.heap.objs.size x1 x2 h' tk ⟨p1, p2⟩ (.inl ⟨_, a5, rfl, _, rfl⟩) ⟨hk _ _ S.TIz S.TITO S.TIi1 S.TIi2 hTI, a3, a4, .inr ⟨t.heap.objs.size, false, _, a1, a5, lt hz, m1, m2, Nat.ne_of_gt hds⟩⟩ fun c o hc e => hk c o (nz c hc).1 (nz c hc).2.1 (nz c hc).2.2.1 (nz c hc).2.2.2 e
        · have hTy : t.TypeIs (.ref z) "zip" := ⟨_, hz, rfl⟩
          refine wpAny_bind (wpAny_attempt (wpAny_callSpecial?_slot (name := Str.ofString "__next__") hTy F.slot_zip_next (wpAny_call_entry F.slot_zip_next hTy F.entry_zip_next
            (zipH_item S E1 E2 hz hT hTI h1 h2 hi hi fun x1 x2 h' tk p1 p2 a1 a3 a4 a5 hk => wpAny_pure ?_) (F.args_zip_next_1 _))))
          exact hQ t.heap.objs.size x1 x2 h' tk ⟨p1, p2⟩ (.inl ⟨_, a5, rfl, _, rfl⟩) ⟨hk _ _ S.TIz S.TIi1 S.TIi2 hTI, a3, a4, .inr ⟨T, true, oT, a1, hk _ _ r1 r2 r3 hT, r1, r2, r3, r4⟩⟩ fun c o hc e => hk c o (nz c hc).1 (nz c hc).2.2.1 (nz c hc).2.2.2 e
      done := fun t Q1 X1 st hQ => by
        obtain ⟨hTI, h1, h2, hz⟩ := st
        have nz : ∀ c, c ∉ [z, TO, i1, i2] → c ≠ z ∧ c ≠ TO ∧ c ≠ i1 ∧ c ≠ i2 := fun c hc => by simpa using hc
        unfold pyNext
        rcases hz with ⟨hz, a, b, hTO⟩ | ⟨T, f, oT, hz, hT, r1, r2, r3, r4⟩
        · have hTy : t.TypeIs (.ref z) "zip" := ⟨_, hz, rfl⟩
          refine wpAny_bind (wpAny_attempt (wpAny_callSpecial?_slot (name := Str.ofString "__next__") hTy F.slot_zip_next (wpAny_call_entry F.slot_zip_next hTy F.entry_zip_next
            (zipD2_next_end S E1 E2 hz hTI hTO h1 h2 (Nat.le_refl _) (Nat.le_refl _) (.inl rfl) fun h' tk e hk he => ?_) (F.args_zip_next_1 _))))
          obtain ⟨o, ho, hc⟩ := he
          exact wpAny_bind (wpAny_isInstance (T := "StopIteration") (b := true) ⟨o, ho, hc⟩ isSubtype_stop (wpAny_pure (hQ _ tk fun c o hc e => hk c o (nz c hc).1 (nz c hc).2.1 (nz c hc).2.2.1 (nz c hc).2.2.2 e)))
        · have hTy : t.TypeIs (.ref z) "zip" := ⟨_, hz, rfl⟩
          refine wpAny_bind (wpAny_attempt (wpAny_callSpecial?_slot (name := Str.ofString "__next__") hTy F.slot_zip_next (wpAny_call_entry F.slot_zip_next hTy F.entry_zip_next
            (zipH_end S E1 E2 hz hT hTI h1 h2 (Nat.le_refl _) (.inl rfl) fun h' tk e hk he => ?_) (F.args_zip_next_1 _))))
          obtain ⟨o, ho, hc⟩ := he
          exact wpAny_bind (wpAny_isInstance (T := "StopIteration") (b := true) ⟨o, ho, hc⟩ isSubtype_stop (wpAny_pure (hQ _ tk fun c o hc e => hk c o (nz c hc).1 (nz c hc).2.2.1 (nz c hc).2.2.2 e))) }
end Nh
/-! ## NhR3 -/
namespace Nh
open PySem PySem.Spec PyProof.Rows L2

/-! ### len(set(xs)) of unlike texts -/
theorem text_at : ∀ {vs : List Value} {xs : List Str}, StrsAre vs xs → ∀ (i : Nat) (v : Value), vs[i]? = some v → ∃ t, v = .str (xs.getD i Str.empty) t
  | _, _, .nil, i, v, h => by simp at h
  | _, _, .cons n t hr, 0, v, h => by
    simp at h
    exact ⟨t, h.symm⟩
  | _, _, .cons n t hr, i + 1, v, h => by
    obtain ⟨t', e⟩ := text_at hr i v (by simpa using h)
    exact ⟨t', by simpa using e⟩
/-- the first i are in -/
abbrev inFirst (xs : List Str) (i : Nat) : Str → Bool := fun z => decide (z ∈ xs.take i)
section
variable {prog : Program} {w : World} {A : Around} {R : Result → Shared → Prop} {I : Addr} {fp wr : List Addr} {G : Array GenState → Array GenState → Prop} {n : Nat} {P : Nat → Value → Prop} {St : Nat → Shared → Prop}
theorem texts_loop (W : WalksS prog w A.in1 I fp wr G n P St) (S : Addr) (hSf : S ∉ fp) (xs : List Str) (hsz : xs.length = n) (hnd : xs.Nodup) (hb : n + 1 < scanBound) (hval : ∀ i v, P i v → ∃ t, v = .str (xs.getD i Str.empty) t)
    (hR : ∀ (s s' : Shared), Moved (S :: wr) G s s' → True) :
    ∀ (k i : Nat) (s : Shared), n - i = k → i ≤ n → St i s → s.heap.SetOf (PySem.strKind prog w) S (inFirst xs i) i →
      (∀ s', Moved (S :: wr) G s s' → s'.heap.SetOf (PySem.strKind prog w) S (inFirst xs n) n → R (.ok (.ret .none)) s') → codeAny (model prog w) A (.builtin "set.update.loop" ⟨[.ref S, .ref I], []⟩) R s := by
  have off : S ∉ wr := fun h => hSf (W.sub _ h)
  have more : ∀ b ∈ wr, b ∈ S :: wr := fun b hb => List.mem_cons_of_mem _ hb
  have carry : ∀ {s s' : Shared} {i : Nat}, Moved wr G s s' → s.heap.SetOf (PySem.strKind prog w) S (inFirst xs i) i → s'.heap.SetOf (PySem.strKind prog w) S (inFirst xs i) i := fun hm hS => by
    obtain ⟨o, es, ep, t, ho, q⟩ := hS
    exact ⟨o, es, ep, t, hm.heap S _ off ho, q⟩
  intro k
  induction k with
  | zero =>
    intro i s hk hi hst hS hR
    obtain rfl : i = n := by omega
    refine codeAny_builtin PyProof.Rows.F.entry_set_update_loop ?_
    rw [Around.under_plainId PyProof.Rows.F.plain_set_update_loop _]
    show wpAny _ A.in1 (pyNext (.ref I) >>= _) _ _ s
    exact wpAny_bind (W.done s _ _ hst fun s' hm => wpAny_pure (hR s' (hm.mono more) (carry hm hS)))
  | succ k ih =>
    intro i s hk hi hst hS hR
    have hlt : i < n := by omega
    have hi' : i < xs.length := by omega
    refine codeAny_builtin PyProof.Rows.F.entry_set_update_loop ?_
    rw [Around.under_plainId PyProof.Rows.F.plain_set_update_loop _]
    show wpAny _ A.in1 (pyNext (.ref I) >>= _) _ _ s
    refine wpAny_bind (W.item i s _ _ hlt hst fun v s' hP hst' hm => ?_)
    obtain ⟨t, rfl⟩ := hval i v hP
    have ex : xs.getD i Str.empty = xs[i] := by simp [List.getD, hi']
    rw [ex]
    show wpAny _ A.in1 (holding [Value.str xs[i] t] (setAdd S (.str xs[i] t)) >>= _) _ _ s'
    refine wpAny_bind (wpAny_holding ?_)
    unfold setAdd
    refine wpAny_holding (wpAny_bind ((PySem.strKind prog w).pyHash (k := xs[i]) (strKind_is _ _ _ _) ?_))
    refine wpAny_setAddHashed_of (knd := PySem.strKind prog w) (s := { s' with toks := s'.toks + 1 }) (strKind_is _ _ _ _) rfl (show Heap.SetOf _ s'.heap S _ _ from carry hm hS) (by omega) fun h' hsb hS2 => ?_
    have new : xs[i] ∉ xs.take i := fun hm => by
      obtain ⟨j, hj, e⟩ := List.mem_take_iff_getElem.mp hm
      have := (List.getElem_inj hnd).mp e
      omega
    have hSi : h'.SetOf (PySem.strKind prog w) S (inFirst xs (i + 1)) (i + 1) := by
      refine SetOf_congr hS2 (fun z => ?_) (by simp [inFirst, new])
      have tk : xs.take (i + 1) = xs.take i ++ [xs[i]] := by rw [List.take_succ_eq_append_getElem hi']
      show (decide (z ∈ xs.take i) || decide (z = xs[i])) = decide (z ∈ xs.take (i + 1))
      rw [Bool.eq_iff_iff, Bool.or_eq_true, decide_eq_true_eq, decide_eq_true_eq, decide_eq_true_eq, tk, List.mem_append, List.mem_singleton]
    have stay : ∀ b, b ≠ S → ∀ o, s'.heap.get? b = some o → h'.get? b = some o := fun b hb o e => (hsb.2 b hb).trans e
    refine wpAny_pure ⟨plainId_quiet PyProof.Rows.F.plain_set_update_loop _, ih (i + 1) _ (by omega) hlt (W.frame _ s' _ _ hst' (Nat.le_succ _) fun b hb o e => stay b (fun q => hSf (q ▸ hb)) o e) hSi fun s2 hm2 hS3 => ?_⟩
    exact hR s2 (Moved.trans W.gtrans ((hm.mono more).then_heap (Nat.le_succ _) fun b o hb e => stay b (fun q => hb (by rw [q]; exact List.mem_cons_self)) o e) hm2) hS3
end
section
variable {prog : Program} {w : World} {A : Around} {E : Value → Shared → Prop} {s : Shared}
set_option maxHeartbeats 3200000 in
theorem set_texts {l : Addr} {items : Array Value} {xs : List Str} {Q : Value → Shared → Prop} (hh : A.handled = none) (hl : s.heap.IsList l items) (hi : StrsAre items.toList xs) (hnd : xs.Nodup) (hb : xs.length + 1 < scanBound)
    (h : ∀ (h' : Heap) (tk : Nat), h'.SetOf (PySem.strKind prog w) s.heap.objs.size (inFirst xs xs.length) xs.length → (∀ b o, b < s.heap.objs.size → s.heap.get? b = some o → h'.get? b = some o) → Q (.ref s.heap.objs.size) { s with heap := h', toks := tk }) :
    wpAny (model prog w) A (call (.type "set") [.ref l]) Q E s := by
  obtain ⟨c, tl, hmro⟩ := PySem.F.called_set.mro
  have hmade := PySem.F.called_set.made
  have hsub := PySem.F.called_set.sub
  refine wpAny_call (codeAny_of_tree ?_)
  show wpAny _ _ (callAny (.type "set") _) _ _ _
  refine wpAny_pure ⟨Code.quiet_builtin _ (by decide +kernel), codeAny_builtin PySem.F.entry_type_call ?_⟩
  rw [Around.under_plain (weight_type_call_type "set" [.ref l] []) rfl]
  have h1 := PySem.F.called_set.notType
  have h2 := PySem.F.called_set.canCreate
  have hct := PySem.F.typeCall_set_1 (.ref l)
  repeat (any_goals (first | assumption | wp_step))
  refine codeAny_mono (code_set_new_1 (.ref l) (E := E) (Q₁ := fun obj s1 => ∃ led : Bool, obj = .ref s.heap.objs.size ∧ s1 = { s with heap := s.heap.push { cls := .type "set", dict := none, data := .set #[] 0 (.fresh 0 0 led) } }) fun led => ⟨led, rfl, rfl⟩) fun r s1 hr => ?_
  cases r with
  | error e => exact hr
  | ok fl =>
    cases fl with
    | ret obj =>
      obtain ⟨led, rfl, rfl⟩ := hr
      have hS : (s.heap.push { cls := .type "set", dict := none, data := .set #[] 0 (.fresh 0 0 led) }).get? s.heap.objs.size = some { cls := .type "set", dict := none, data := .set #[] 0 (.fresh 0 0 led) } := Heap.get?_push_size _ (rfl)
      have hT : Shared.TypeIs { s with heap := s.heap.push { cls := .type "set", dict := none, data := .set #[] 0 (.fresh 0 0 led) } } (.ref s.heap.objs.size) "set" := ⟨_, hS, rfl⟩
      have hli := PySem.F.called_set.init.lookup
      have hbi := PySem.F.called_set.init.bind (.ref s.heap.objs.size)
      repeat (any_goals (first | assumption | wp_step))
      refine codeAny_mono (codeAny_call_builtin (R := wants (fun r t => r = .none ∧ ∃ h' tk, t = { s with heap := h', toks := tk } ∧ h'.SetOf (PySem.strKind prog w) s.heap.objs.size (inFirst xs xs.length) xs.length ∧ (∀ b o, b < s.heap.objs.size → s.heap.get? b = some o → h'.get? b = some o)) E)
        PySem.F.called_set.init.plain PySem.F.entry_set_init (check_set_init_1 hT ?_)) fun r2 s2 hr2 => ?_
      · obtain ⟨ol, hol, hcl, nl, hdl⟩ := hl
        obtain ⟨ocls, odict, odata, oslots⟩ := ol
        simp only at hcl hdl
        subst hcl hdl
        have hol' : (s.heap.push { cls := .type "set", dict := none, data := .set #[] 0 (.fresh 0 0 led) }).get? l = some { cls := .type "list", dict := odict, data := .seq items nl, slots := oslots } := Heap.get?_push_of_some _ hol
        have hsls := PySem.F.sub_list_set
        have hslf := PySem.F.sub_list_frozenset
        have hne : (Value.type "list" == Value.type "dict") = false := by decide
        have hl1 : (s.heap.push { cls := .type "set", dict := none, data := .set #[] 0 (.fresh 0 0 led) }).IsList l items := ⟨_, hol', rfl, nl, rfl⟩
        unfold Builtin.«set.__init__» noKeywords Builtin.Frozenset.updateFrom
        generalize hPI : pyIter = PI
        wp_walk
        subst hPI
        refine wpAny_pyIter_list hl1 ?_
        refine wpAny_bind (wpAny_runValue ?_)
        have hlS : l < s.heap.objs.size := Heap.lt_size hol
        have hh3 : A.in1.in1.in1.handled = none := by simp [hh]
        have zp : (s.heap.push { cls := .type "set", dict := none, data := .set #[] 0 (.fresh 0 0 led) }).objs.size = s.heap.objs.size + 1 := Heap.size_push ..
        have hneI : l ≠ (s.heap.push { cls := .type "set", dict := none, data := .set #[] 0 (.fresh 0 0 led) }).objs.size := by rw [zp]; exact Nat.ne_of_lt (Nat.lt_succ_of_lt hlS)
        have hSf : s.heap.objs.size ∉ [(s.heap.push { cls := .type "set", dict := none, data := .set #[] 0 (.fresh 0 0 led) }).objs.size, l] := by
          rw [zp]
          simp only [List.mem_cons, List.not_mem_nil, or_false, not_or]
          exact ⟨Nat.ne_of_lt (Nat.lt_succ_self _), Nat.ne_of_gt hlS⟩
        have hsz : xs.length = items.size := by rw [← StrsAre.len_eq hi, Array.length_toList]
        refine texts_loop ((Walks.list hh3 _ l hneI items).toS) s.heap.objs.size hSf xs hsz hnd (by rw [← hsz]; exact hb) (fun i v hv => text_at hi i v (by rw [Array.getElem?_toList]; exact hv)) (fun _ _ _ => trivial) (items.size - 0) 0 _ (by omega) (Nat.zero_le _) ⟨⟨_, Heap.get?_push_size _ rfl, rfl, rfl⟩, hl1.push _⟩ ?hS0 ?hR
        case hS0 =>
          have hget : ((s.heap.push { cls := .type "set", dict := none, data := .set #[] 0 (.fresh 0 0 led) }).push { cls := .type "list_iterator", data := .fields #[.ref l, .int 0 0] }).get? s.heap.objs.size = some { cls := .type "set", dict := none, data := .set #[] 0 (.fresh 0 0 led) } := Heap.get?_push_of_some _ hS
          exact SetOf_congr ((PyProof.Rows.setObjOf_fresh (knd := PySem.strKind prog w) led).setOf hget (by unfold scanBound; omega)) (fun z => by simp [inFirst]) rfl
        case hR =>
          intro s' hm hS'
          obtain ⟨h', g', d', tk', os'⟩ := s'
          obtain ⟨rfl, rfl, rfl⟩ : g' = s.gens ∧ d' = s.drawn ∧ os' = s.os := ⟨hm.gens, hm.drawn, hm.os⟩
          rw [← hsz] at hS'
          show wpAny _ _ _ _ _ _
          refine wpAny_pure ?_
          show wpAny _ _ (ret Value.none) _ _ _
          refine wpAny_pure ⟨rfl, h', tk', rfl, hS', fun b o hb e => hm.heap b o (fun q => ?_) (Heap.get?_push_of_some _ (Heap.get?_push_of_some _ e))⟩
          simp only [List.mem_cons, List.not_mem_nil, or_false] at q
          rcases q with q | q
          · exact Nat.ne_of_lt hb q
          · rw [zp] at q; exact Nat.ne_of_lt (Nat.lt_succ_of_lt hb) q
      · cases r2 with
        | error e => exact hr2
        | ok fl2 =>
          cases fl2 with
          | ret r =>
            obtain ⟨rfl, h', tk, rfl, hS', hk'⟩ := hr2
            repeat (any_goals (first | assumption | wp_step))
            exact h _ _ hS' hk'
          | _ => exact hr2.elim
    | _ => exact hr.elim
end
def tLenSetU (K : PySem.W.Frag) (ta : TE) : TE := fun σ H Q => ta σ H fun x H1 => ∃ (l : Addr) (xs : List Str), x = .ref l ∧ SqL K H1 l (xs.map V.str) ∧ xs.Nodup ∧ xs.length ≤ 4000 ∧ Q (.int (xs.length : Nat)) H1
theorem pe_lenSetU {X : Cx} {a : Expr} {ta : TE} {p p2 q pos : Pos} (hg : Gl X "len") (hm : X.mg "len" = none) (hg2 : Gl X "set") (hm2 : X.mg "set" = none) (ha : PE X a ta) (hc : X.calm = true := by rfl)
    (na : starEach [a] X.env = (false, eval a X.env) :: starEach [] X.env := by rfl) : PE X (.Call (.Name "len" p) [.Call (.Name "set" p2) [a] [] q] [] pos) (tLenSetU X.K ta) := by
  refine ⟨fun pins s σ H Q I h => Call_ (ld_blt I hg hm boot_len (callWith_builtin1 (args_cons (Call_ (ld_blt I hg2 hm2 boot_set (callWith_type1 (args_cons (thn (ha.run pins s σ H _ I h) fun v s1 ⟨x, H1, I1, r1, q1⟩ => args_nil ?_) na) na rfl))) rfl) rfl rfl))⟩
  obtain ⟨l, xs, rfl, hq, hnd, hlen, q1⟩ := q1
  cases r1
  obtain ⟨its, r, pl, hz⟩ := I1.list hq
  refine set_texts (I1.ok.hd hc) pl.isList (by simpa using strsAre_of r) hnd (by unfold scanBound; omega) fun h' tk hS hk => args_nil ?_
  obtain ⟨o, es, ep, t, ho, hex, hd, _, _, _, hf, hn⟩ := hS
  have I2 : Inv X pins σ H1 { s1 with heap := h', toks := tk } := I1.kept fun b o e => hk b o (Heap.lt_size e) e
  exact call_len_set ho hex hd hf (by rw [hn] <;> omega) ⟨.int xs.length, H1, I2.tok _, ⟨_, by rw [hn]⟩, q1⟩
end Nh
/-! ## NhR4 -/
namespace Nh
open PySem PySem.Spec PyProof.Rows L2

/-! ### a dict that comes from an expression, locked for good -/
def tFrz (t : TE) : TE := fun σ H Q => t σ H fun v H1 => ∃ d u, v = .ref d ∧ H1 d = some u ∧ Mut (some u) ∧ ∀ od, Q v (upd H1 d (.frz od u))
theorem pe_frz {X : Cx} {e : Expr} {t : TE} (h : PE X e t) : PE X e (tFrz t) := by
  refine ⟨fun pins s σ H Q I hw => thn (h.run pins s σ H _ I hw) fun v s1 ⟨x, H1, I1, r, d, u, ex, hd, mu, q⟩ => ?_⟩
  obtain ⟨od, I2⟩ := I1.lock hd mu
  exact ⟨x, _, I2, r, q od⟩

/-! ### o.f as a target -/
def gAttr (K : PySem.W.Frag) (ta : TE) (f : Str) : TG := fun v σ H Q => ta σ H fun x H1 => ∃ p C dx fs, x = .ref p ∧ H1 p = some (.ins C dx fs) ∧ Cls K C ∧ NoAttr K C f ∧ fs.length < 1000 ∧ Q σ (upd H1 p (.ins C dx (putF f v fs)))
theorem pg_attr {X : Cx} {o : Expr} {ta : TE} {f : Str} {pos : Pos} (ha : PE X o ta) : PG X (.Attribute o f pos) (gAttr X.K ta f) := by
  refine ⟨fun pins s σ H v u Q I r h => ?_⟩
  rw [arm_assign_Attribute]
  refine wpAny_bind (wpAny_holding (thn (ha.run pins s σ H _ I h) fun ov s1 ⟨x, H1, I1, rx, p, C, dx, fs, ex, ep, c, n, l, q⟩ => ?_))
  subst ex
  obtain rfl : ov = Value.ref p := rx
  refine wpAny_bind (wpAny_standAt (wpAny_bind (wpAny_holding (setattr_ok I1 ep c n l r fun s2 I2 => ?_))))
  exact wpAny_release ⟨σ, _, I2, q⟩

/-! ### a walk over one of two things -/
def iIf (t : TT) (wa wb : TI) : TI := fun σ H R => t σ H fun c H1 => if c = true then wa σ H1 R else wb σ H1 R
theorem pi_if {X : Cx} {tg c a b : Expr} {pos : Pos} {t : TT} {wa wb : TI} (hc : PT X c t) (ha : PI X tg a wa) (hb : PI X tg b wb) : PI X tg (.IfExp c a b pos) (iIf t wa wb) := by
  refine ⟨fun pins s σ H R I h => wpAny_IfExp (thn (hc.run pins s σ H _ I h) fun d s1 ⟨H1, I1, q⟩ => ?_)⟩
  cases d with
  | true => exact ha.run pins s1 σ H1 R I1 q
  | false => exact hb.run pins s1 σ H1 R I1 q

/-! ### tuple(list), its object known -/
def PlT (o : Obj) : Prop := o.cls = .type "tuple" ∧ o.dict = none
theorem call_tupF {X : Cx} : CallR X (.type "tuple") (fun xs H Q => ∃ p ys, xs = [.ref p] ∧ SqL X.K H p ys ∧ ∀ l o, H l = none → PlT o → Q (.ref l) (upd H l (.frz o (.tup ys)))) := by
  intro pins s σ H xs us Q I r h
  obtain ⟨p, ys, rfl, hq, q⟩ := h
  obtain ⟨u, rfl, rx⟩ := vals1 r
  cases rx
  obtain ⟨its, r', pl, hz⟩ := I.list hq
  have hlen := r'.length
  refine call_tuple_list pl.isList (fun h' kp => ?_) (by simp only [List.size_toArray] <;> omega)
  have I1 : Inv X pins σ H { s with heap := h' } := I.kept (t' := s.toks) kp
  have nw : ∀ (Hn : Hp), ObjOk X.prog X.w Hn (h'.push { cls := .type "tuple", data := .seq its.toArray }) h'.objs.size (.frz { cls := .type "tuple", data := .seq its.toArray } (.tup ys)) := fun Hn =>
    ⟨Heap.get?_push_size _ rfl, hz, its, r', IsTup.new _ _⟩
  exact ⟨.ref h'.objs.size, _, I1.laid (t' := s.toks) (fun b o e => Heap.get?_push_of_some _ e) (Nat.le_refl _) (nw _), rfl, q _ _ (I1.hok.fresh (Nat.le_refl _)) ⟨rfl, rfl⟩⟩

/-! ### pairs for dict(..) and d.update(..) -/
theorem pairs2 {X : Cx} {pins : List (Addr × Obj)} {σ : L2.St} {H : Hp} {s : Shared} (I : Inv X pins σ H s) : ∀ {ps : List Addr} {kvs : List (Key × V)}, Paired (fun p kv => SqT X.K H p [kV kv.1, kv.2]) ps kvs →
    ∃ (vs : List (Value × Value)) (prs : List (Key × Value)), KV kvs prs ∧ prs.length = ps.length ∧ vs.length = ps.length ∧ ∀ (j : Nat) (k v : Value), vs[j]? = some (k, v) → (∃ b, ps[j]? = some b ∧ IsTup s.heap b #[k, v]) ∧ ∃ q, prs[j]? = some (q, v) ∧ keyIs q k = true
  | _, _, .nil => ⟨[], [], .nil, rfl, rfl, fun j k v e => by simp at e⟩
  | _, _, .cons (a := p) (b := kv) h t => by
    obtain ⟨vs, prs, r, l1, l2, hp⟩ := pairs2 I t
    obtain ⟨its, rv, ht, _⟩ := I.tuple h
    obtain ⟨u, y, rfl, ru, ry⟩ := vals2 rv
    refine ⟨(u, y) :: vs, (kv.1, y) :: prs, .cons ⟨rfl, ry⟩ r, by rw [List.length_cons, List.length_cons, l1], by rw [List.length_cons, List.length_cons, l2], fun j k v e => ?_⟩
    cases j with
    | zero =>
      have e' : (u, y) = (k, v) := Option.some.inj e
      cases e'
      exact ⟨⟨p, rfl, ht⟩, kv.1, rfl, kV_is (P := X.prog) (w := X.w) ru⟩
    | succ j =>
      obtain ⟨⟨b, e1, e2⟩, q, e3, e4⟩ := hp j k v (by simpa using e)
      exact ⟨⟨b, by simpa using e1, e2⟩, q, by simpa using e3, e4⟩
/-- d.update(d2), d.update(list of pairs) -/
def rUpdD (K : PySem.W.Frag) : V → List V → Hp → VK → Prop := fun x vs H Q => ∃ (a : Addr) (kvs : List (Key × V)), x = .ref a ∧ H a = some (.dK kvs) ∧
  ((∃ (b : Addr) (more : List (Key × V)), vs = [.ref b] ∧ b ≠ a ∧ Rd H b (.dK more) ∧ kvs.length + more.length ≤ sizeLine ∧ Q .non (upd H a (.dK (mergeK kvs more)))) ∨
   ∃ (l : Addr) (ps : List Addr) (more : List (Key × V)), vs = [.ref l] ∧ SqL K H l (ps.map V.ref) ∧ Paired (fun p kv => SqT K H p [kV kv.1, kv.2]) ps more ∧ kvs.length + ps.length ≤ sizeLine ∧ Q .non (upd H a (.dK (mergeK kvs more))))
theorem mt_upd {X : Cx} (hc : X.calm = true) : MtR X "dict.update" (rUpdD X.K) := by
  intro pins s σ H x vs v us Q I rx rv h
  obtain ⟨a, kvs, rfl, ea, h⟩ := h
  obtain rfl : v = Value.ref a := rx
  obtain ⟨z, hd, ws, rel, dd⟩ := dk_of I.hok ea
  have fin : ∀ {h' : Heap} {tk : Nat} {more : List (Key × V)} {prs : List (Key × Value)}, KV more prs → kvs.length + more.length ≤ sizeLine → h'.DictOf (mixKind X.prog X.w) a (merged ws prs) → (∀ b o, b ≠ a → s.heap.get? b = some o → h'.get? b = some o) →
      Q .non (upd H a (.dK (mergeK kvs more))) → EP X pins σ Q .none { s with heap := h', toks := tk } := fun {h' tk more prs} rm hz dd' hk q => by
    have he : ∃ q, h'.get? a = some q := let ⟨q, _, _, hq, _⟩ := dd'; ⟨q, hq⟩
    refine ⟨.non, _, I.write (x := a) (e := a) (t' := tk) (by rw [ea]; exact True.intro) (.inl rfl) (fun b q hb z => hk b q hb z) he (dk_new (Nat.le_trans (length_mergeK more kvs) hz) hd (KV.merge rm rel) dd'), rfl, q⟩
  rcases h with ⟨b, more, rfl, hne, eb, hz, q⟩ | ⟨l, ps, more, rfl, hl, hp, hz, q⟩
  · obtain ⟨u, rfl, rx⟩ := vals1 rv
    cases rx
    obtain ⟨z2, hd2, ws2, rel2, dd2⟩ := dk_rd I.hok eb
    refine call_meetsIn PySem.F.slot_dict_update dd.typeIs PySem.F.entry_dict_update (PySem.F.args_dict_update_2 _ _) (meets_dict_update (mixKind X.prog X.w) a b (Ne.symm hne) hd2) ⟨ws, ws2, dd, dd2, by rw [← rel.length, ← rel2.length]; exact hz, fun h' dd' _ hs => ?_⟩
    exact fin (tk := s.toks) rel2 hz dd' (fun b o hb e => (hs.2 b hb).trans e) q
  · obtain ⟨u, rfl, rx⟩ := vals1 rv
    cases rx
    obtain ⟨its, rl, ⟨ol, n, hol, hcl, hdl, hdat⟩, _⟩ := I.list hl
    obtain ⟨vps, prs, r, l1, l2, hpr⟩ := pairs2 I hp
    have ei := refs_at rl
    subst ei
    have hla : l ≠ a := fun e => by
      obtain ⟨o, es, ep, ho, _, hda, _⟩ := dd
      rw [e, ho] at hol; cases hol; rw [hda] at hdat; cases hdat
    have hTa : ∀ j b, ps[j]? = some b → b ≠ a := fun j b ej e => by
      obtain ⟨⟨k, v⟩, evs⟩ : ∃ p, vps[j]? = some p := ⟨vps[j]'(by rw [l2]; exact (List.getElem?_eq_some_iff.mp ej).1), List.getElem?_eq_getElem _⟩
      obtain ⟨⟨b', eb', ⟨o', ho', hc', _⟩⟩, _⟩ := hpr j k v evs
      rw [ej] at eb'; cases eb'
      obtain ⟨o, es, ep, ho, hex, hda, _⟩ := dd
      obtain ⟨n', hd'⟩ := ‹∃ n, o'.data = .seq #[k, v] n›
      rw [e, ho] at ho'; cases ho'; rw [hda] at hd'; cases hd'
    refine call_update_pairs (knd := mixKind X.prog X.w) (kvs := prs) (PairArg.list l (ps.map Value.ref).toArray (fun j => ps.getD j 0) vps) (I.ok.hd hc) ⟨⟨ol, n, hol, hcl, hdl, hdat⟩, by simp [l2], fun j k v e => ?_⟩ (fun hm => ?_) ⟨by rw [l1, l2], fun j k v e => ?_⟩ dd (by rw [← rel.length, l2]; exact hz) fun h' tk dd' hk => fin (tk := tk) r ?_ dd' (fun b o hb e => hk b o hb (by simp) e) q
    · obtain ⟨⟨b, eb, ht⟩, _⟩ := hpr j k v e
      exact ⟨by simp [eb], .inl (by show s.heap.IsTuple (ps.getD j 0) _; rw [show ps.getD j 0 = b by simp [eb]]; exact ht)⟩
    · rcases List.mem_cons.mp hm with e | hm
      · exact hla e.symm
      · obtain ⟨j, hj, e⟩ := List.mem_map.mp hm
        have hj' : j < ps.length := by rw [← l2]; exact List.mem_range.mp hj
        exact hTa j ps[j] (List.getElem?_eq_getElem hj') (by rw [← e]; simp [hj'])
    · obtain ⟨_, q', e1, e2⟩ := hpr j k v e
      exact ⟨q', e1, e2⟩
    · rw [r.length, l1]; exact hz
/-- dict(t), t a plain tuple of pairs -/
theorem call_dictF {X : Cx} (hcalm : X.calm = true) : CallR X (.type "dict") (fun xs H Q => ∃ (a : Addr) (o : Obj) (ps : List Addr) (kvs : List (Key × V)), xs = [.ref a] ∧ H a = some (.frz o (.tup (ps.map V.ref))) ∧ PlT o ∧ Paired (fun p kv => SqT X.K H p [kV kv.1, kv.2]) ps kvs ∧
    ∀ p, H p = none → Q (.ref p) (upd H p (.dK (mergeK [] kvs)))) := by
  intro pins s σ H xs us Q I r q
  obtain ⟨a, o, ps, kvs, rfl, ha, ⟨hc, hd⟩, hp, q⟩ := q
  obtain ⟨u, rfl, rx⟩ := vals1 r
  cases rx
  obtain ⟨ho, hz, its, rv, o', ho', hc', n, hdat⟩ := (show ObjOk X.prog X.w H s.heap a (.frz o (.tup (ps.map V.ref))) from I.hok a _ ha)
  rw [ho] at ho'; cases ho'
  have ei := refs_at rv
  subst ei
  obtain ⟨vps, prs, rel, l1, l2, hpr⟩ := pairs2 I hp
  rw [List.length_map] at hz
  refine call_dict_pairs (knd := mixKind X.prog X.w) (kvs := prs) (PairArg.tuple a (ps.map Value.ref).toArray (fun j => ps.getD j 0) vps) (I.ok.hd hcalm) ⟨⟨o, n, ho, hc, hd, hdat⟩, by simp [l2], fun j k v e => ?_⟩ ⟨by rw [l1, l2], fun j k v e => ?_⟩ (by rw [l2]; exact hz) fun h' tk dd' hk => ?_
  · obtain ⟨⟨b, eb, ht⟩, _⟩ := hpr j k v e
    exact ⟨by simp [eb], .inl (by show s.heap.IsTuple (ps.getD j 0) _; rw [show ps.getD j 0 = b by simp [eb]]; exact ht)⟩
  · obtain ⟨_, q', e1, e2⟩ := hpr j k v e
    exact ⟨q', e1, e2⟩
  · have hm : (s.heap.objs.size == sysModules) = false := beq_eq_false_iff_ne.mpr (Nat.ne_of_gt I.big)
    have hlen : (mergeK [] kvs).length ≤ sizeLine := by
      have := length_mergeK kvs []
      rw [List.length_nil, Nat.zero_add, rel.length, l1] at this
      exact Nat.le_trans this hz
    exact ⟨.ref s.heap.objs.size, _, I.laid (t' := tk) (fun b o e => hk b o (by simp) e) (Nat.le_refl _) (show ObjOk X.prog X.w _ _ _ (.dK (mergeK [] kvs)) from ⟨hlen, hm, _, KV.merge rel .nil, dd'⟩), rfl, q _ (I.hok.fresh (Nat.le_refl _))⟩
/-- dict(zip(a, b)), lists and tuples in any mix, of one length -/
def SqA (K : PySem.W.Frag) (H : Hp) (a : Addr) (xs : List V) : Prop := SqL K H a xs ∨ SqT K H a xs
def tDictZip (K : PySem.W.Frag) (t : TA) : TE := fun σ H Q => t σ H fun vs H1 => ∃ (a b : Addr) (ks : List Key) (ys : List V), vs = [.ref a, .ref b] ∧ SqA K H1 a (ks.map kV) ∧ SqA K H1 b ys ∧ ks.length = ys.length ∧ ∀ p, H1 p = none → Q (.ref p) (upd H1 p (.dK (mergeK [] (ks.zip ys))))
/-- how it is drawn from, once it stands -/
theorem drawn {X : Cx} {pins : List (Addr × Obj)} {σ : L2.St} {H : Hp} {s : Shared} (I : Inv X pins σ H s) {a : Addr} {xs : List V} (h : SqA X.K H a xs) : ∃ (its : List Value) (o : Obj) (G : Heap → Prop), Vals xs its ∧ xs.length ≤ sizeLine ∧ Begins (.ref a) o G ∧ G s.heap ∧ a < s.heap.objs.size ∧
    ∀ (it : Addr), a ≠ it → ∃ St : Nat → Heap → Prop, (∀ h, h.get? it = some o → G h → St 0 h) ∧ ∀ A : Around, A.handled = none → Draws X.prog X.w A it [it, a] its.length (fun i v => its[i]? = some v) St := by
  rcases h with h | h
  · obtain ⟨its, r, pl, hz⟩ := I.list h
    refine ⟨its, _, _, r, hz, begins_list a its.toArray, pl.isList, ?_, fun it hne => ⟨fun i h => h.IsListIter it a i ∧ h.IsList a its.toArray, fun h e g => ⟨⟨_, e, rfl, rfl⟩, g⟩, fun A hA => ?_⟩⟩
    · obtain ⟨o, n, ho, _⟩ := pl; exact Heap.lt_size ho
    · have := Draws.list (prog := X.prog) (w := X.w) hA it a hne its.toArray
      simpa using this
  · obtain ⟨its, r, pl, hz⟩ := I.tuple h
    refine ⟨its, _, _, r, hz, begins_tuple a its.toArray, pl, pl.lt, fun it hne => ⟨fun i h => h.IsTupleIter it a i ∧ h.IsTuple a its.toArray, fun h e g => ⟨⟨_, e, rfl, rfl⟩, g⟩, fun A hA => ?_⟩⟩
    have := Draws.tuple (prog := X.prog) (w := X.w) hA it a hne its.toArray
    simpa using this
theorem keys_of {P : Program} {w : World} : ∀ {ks : List Key} {us : List Value}, Vals (ks.map kV) us → us.length = ks.length ∧ ∀ (j : Nat) (u : Value), us[j]? = some u → ∃ k, ks[j]? = some k ∧ keyIs k u = true
  | [], us, r => by cases r; exact ⟨rfl, fun j u e => by simp at e⟩
  | k :: ks, us, r => by
    cases r with
    | cons r1 r2 =>
      obtain ⟨h1, h2⟩ := keys_of (P := P) (w := w) r2
      refine ⟨by rw [List.length_cons, List.length_cons, h1], fun j u e => ?_⟩
      cases j with
      | zero => cases Option.some.inj e; exact ⟨k, rfl, kV_is (P := P) (w := w) r1⟩
      | succ j => simpa using h2 j u (by simpa using e)
theorem kv_zip : ∀ {ks : List Key} {ys : List V} {us : List Value}, Vals ys us → KV (ks.zip ys) (ks.zip us)
  | [], _, _, _ => .nil
  | _ :: _, [], _, r => by cases r; exact .nil
  | k :: ks, y :: ys, _, r => by
    cases r with
    | cons r1 r2 => exact .cons ⟨rfl, r1⟩ (kv_zip r2)
theorem sep_ok (N a b : Nat) (h1 : a < N) (h2 : b < N) : ZipSep2 (N + 4) (N + 2) (N + 3) N (N + 1) [N, a] [N + 1, b] := by
  have nn : ∀ {x y : Nat}, x ≠ y → ¬ @Eq Addr x y := fun h e => h e
  have ni : ∀ {x y z : Nat}, x ≠ y → x ≠ z → ¬ @Membership.mem Addr (List Addr) _ [y, z] x := fun h1 h2 hm => by
    rcases List.mem_cons.mp hm with e | hm
    · exact h1 e
    · exact h2 (List.mem_singleton.mp hm)
  exact ⟨nn (by omega), nn (by omega), nn (by omega), nn (by omega), List.mem_cons_self, ni (by omega) (by omega), ni (by omega) (by omega), nn (by omega), List.mem_cons_self, ni (by omega) (by omega), ni (by omega) (by omega), ni (by omega) (by omega), ni (by omega) (by omega)⟩
theorem pe_dictZip {X : Cx} {e1 e2 : Expr} {t : TA} {p p2 q pos : Pos} (hg : Gl X "dict") (hm : X.mg "dict" = none) (hg2 : Gl X "zip") (hm2 : X.mg "zip" = none) (ha : PA X [e1, e2] t) (hc : X.calm = true := by rfl)
    (hs : starEach [e1, e2] X.env = (false, eval e1 X.env) :: starEach [e2] X.env := by rfl) (hpl : (backTo q (starEach [e2] X.env)).any (·.1) = false := by rfl)
    (hs2 : starEach [.Call (.Name "zip" p2) [e1, e2] [] q] X.env = (false, eval (.Call (.Name "zip" p2) [e1, e2] [] q) X.env) :: starEach [] X.env := by rfl) :
    PE X (.Call (.Name "dict" p) [.Call (.Name "zip" p2) [e1, e2] [] q] [] pos) (tDictZip X.K t) := by
  refine ⟨fun pins s σ H Q I h => Call_ (ld_blt I hg hm boot_dict (callWith_type1 (args_cons (Call_ (ld_blt I hg2 hm2 boot_zip (callWith_type1 (thn (ha.run q pins s σ H _ I h) fun us s1 ⟨vs, H1, I1, r1, q1⟩ => ?_) hs hpl))) hs2) hs2 rfl))⟩
  obtain ⟨a, b, ks, ys, rfl, sa, sb, hl, q⟩ := q1
  obtain ⟨u1, u2, rfl, ra, rb⟩ := vals2 r1
  cases ra
  cases rb
  obtain ⟨us, o1, G1, v1, z1, B1, g1, lt1, D1⟩ := drawn I1 sa
  obtain ⟨ws, o2, G2, v2, z2, B2, g2, lt2, D2⟩ := drawn I1 sb
  refine zip_begins2 B1 B2 g1 g2 fun h' iz iTI iTO i1 i2 hz hk => args_nil ?_
  generalize hN : s1.heap.objs.size = N at *
  obtain ⟨St1, st1, W1⟩ := D1 N (Nat.ne_of_lt lt1)
  obtain ⟨St2, st2, W2⟩ := D2 (N + 1) (Nat.ne_of_lt (Nat.lt_succ_of_lt lt2))
  obtain ⟨hu, hkey⟩ := keys_of (P := X.prog) (w := X.w) v1
  have hw : ws.length = us.length := by rw [hu, ← v2.length, hl]
  rw [hw] at W2
  have no : ∀ k c : Nat, c < N → N + k ≠ c := fun k c hcN e => by omega
  have S : ZipSep2 (N + 4) (N + 2) (N + 3) N (N + 1) [N, a] [N + 1, b] := sep_ok N a b lt1 lt2
  have I2 : Inv X pins σ H1 { s1 with heap := h' } := I1.kept (t' := s1.toks) hk
  have live : ∀ c ∈ [N, a] ++ [N + 1, b], ∃ o, h'.get? c = some o := fun c hcm => by
    simp only [List.cons_append, List.nil_append, List.mem_cons, List.not_mem_nil, or_false] at hcm
    have old : ∀ {d : Addr} {xs : List V}, SqA X.K H1 d xs → ∃ o, h'.get? d = some o := fun {d xs} hsq => by
      rcases hsq with hsq | hsq
      · obtain ⟨_, _, ⟨o, n, ho, _⟩, _⟩ := I2.list hsq; exact ⟨o, ho⟩
      · obtain ⟨_, _, ⟨o, ho, _⟩, _⟩ := I2.tuple hsq; exact ⟨o, ho⟩
    rcases hcm with rfl | rfl | rfl | rfl
    · exact ⟨_, i1⟩
    · exact old sa
    · exact ⟨_, i2⟩
    · exact old sb
  have P := pairs_zip (prog := X.prog) (w := X.w) S W1 W2
  refine call_dict_pairs (s := { s1 with heap := h' }) (knd := mixKind X.prog X.w) (kvs := ks.zip ws) P (I1.ok.hd hc) ⟨iz, iTI, ⟨_, _, iTO⟩, st1 _ i1 (B1.keeps _ _ g1 hk), st2 _ i2 (B2.keeps _ _ g2 hk), live⟩ ⟨by rw [List.length_zip, hw, hu, Nat.min_self], fun j k v e => ?_⟩ (by rw [hu]; rw [List.length_map] at z1; exact z1) fun h2 tk dd' hk2 => ?_
  · obtain ⟨e1, e2⟩ := e
    obtain ⟨k', ek, hk'⟩ := hkey j k e1
    exact ⟨k', by rw [List.getElem?_zip_eq_some]; exact ⟨ek, e2⟩, hk'⟩
  · have hfr : ∀ d, d ∈ [N + 4, N + 3, N, N + 1] → N ≤ d := fun d hd => by
      simp only [List.mem_cons, List.not_mem_nil, or_false] at hd
      rcases hd with rfl | rfl | rfl | rfl
      · exact Nat.le_add_right _ _
      · exact Nat.le_add_right _ _
      · exact Nat.le_refl _
      · exact Nat.le_add_right _ _
    have keep : ∀ c o, s1.heap.get? c = some o → h2.get? c = some o := fun c o e => by
      refine hk2 c o (fun hm => ?_) (hk c o e)
      have h1 : c < N := by rw [← hN]; exact Heap.lt_size e
      exact absurd (hfr c hm) (Nat.not_le.mpr h1)
    have hle : s1.heap.objs.size ≤ h'.objs.size := by rw [hN, hz]; exact Nat.le_add_right _ _
    have hm : (h'.objs.size == sysModules) = false := beq_eq_false_iff_ne.mpr (Nat.ne_of_gt (Nat.lt_of_lt_of_le I1.big hle))
    have hlen : (mergeK [] (ks.zip ys)).length ≤ sizeLine := by
      have := length_mergeK (ks.zip ys) []
      rw [List.length_nil, Nat.zero_add, List.length_zip] at this
      rw [List.length_map] at z1
      omega
    exact ⟨.ref h'.objs.size, _, I1.laid (t' := tk) keep hle (show ObjOk X.prog X.w _ _ _ (.dK (mergeK [] (ks.zip ys))) from ⟨hlen, hm, _, KV.merge (kv_zip v2) .nil, dd'⟩), rfl, q _ (I1.hok.fresh hle)⟩

/-! ### d == {}, d != {} -/
theorem op_eq0 {X : Cx} (hu : X.A.units < cLine) : OpR X (compareOp .Eq) (fun x y H Q => ∃ (a b : Addr) (ks : List (Key × V)), x = .ref a ∧ y = .ref b ∧ Rd H a (.dK ks) ∧ H b = some (.dK []) ∧ Q (.bl ks.isEmpty) H) := by
  intro pins s σ H x y v u Q I rx ry h
  obtain ⟨a, b, ks, rfl, rfl, ea, eb, q⟩ := h
  obtain rfl : v = Value.ref a := rx
  obtain rfl : u = Value.ref b := ry
  obtain ⟨_, ya, va, ra, da⟩ := dk_rd I.hok ea
  obtain ⟨_, yb, vb, rb, db⟩ := dk_of I.hok eb
  cases rb
  refine PySem.W.keq_eq (knd := mixKind X.prog X.w) (r := true) ya yb da db hu (fun e => ?_) ⟨.bl ks.isEmpty, H, I, ?_, q⟩
  · have : va = [] := List.length_eq_zero_iff.mp e
    subst this; exact .nil
  · have e := ra.length
    cases ks with
    | nil => cases ra; rfl
    | cons p r => cases ra; rfl
theorem op_ne0 {X : Cx} (hu : X.A.units < cLine) : OpR X (compareOp .NotEq) (fun x y H Q => ∃ (a b : Addr) (ks : List (Key × V)), x = .ref a ∧ y = .ref b ∧ Rd H a (.dK ks) ∧ H b = some (.dK []) ∧ Q (.bl (!ks.isEmpty)) H) := by
  intro pins s σ H x y v u Q I rx ry h
  obtain ⟨a, b, ks, rfl, rfl, ea, eb, q⟩ := h
  obtain rfl : v = Value.ref a := rx
  obtain rfl : u = Value.ref b := ry
  obtain ⟨_, ya, va, ra, da⟩ := dk_rd I.hok ea
  obtain ⟨_, yb, vb, rb, db⟩ := dk_of I.hok eb
  cases rb
  refine PySem.W.keq_ne (knd := mixKind X.prog X.w) (r := true) ya yb da db hu (fun e => ?_) ⟨.bl (!ks.isEmpty), H, I, ?_, q⟩
  · have : va = [] := List.length_eq_zero_iff.mp e
    subst this; exact .nil
  · cases ks with
    | nil => cases ra; rfl
    | cons p r => cases ra; rfl

/-! ### sorted(xs), xs data of one kind: some arrangement -/
def rSortD (K : PySem.W.Frag) : List V → Hp → VK → Prop := fun vs H Q => ∃ (a : Addr) (ws : List V) (ds : List PyData), vs = [.ref a] ∧ SqL K H a ws ∧ DpAll K H ws ds ∧ PySem.W.AllAlike ds ∧ PySem.W.Sortable ds ∧ (∀ d ∈ ds, d.depth ≤ 50) ∧
  ∀ (ys : List (V × PyData)) (p : Addr), ys.Perm (ws.zip ds) → H p = none → Q (.ref p) (upd H p (.lst (ys.map (·.1))))
theorem each_of {X : Cx} {pins : List (Addr × Obj)} {σ : L2.St} {H : Hp} {s : Shared} (I : Inv X pins σ H s) : ∀ {ws : List V} {ds : List PyData} {us : List Value}, DpAll X.K H ws ds → Vals ws us →
    PySem.W.EachIs (fun u (b : V × PyData) => RelV b.1 u) us (ws.zip ds) ∧ PySem.W.EachIs (fun u (b : V × PyData) => ∃ as, Reads s.heap u b.2 as) us (ws.zip ds) ∧ (ws.zip ds).map (·.2) = ds
  | _, _, _, .nil, .nil => ⟨.nil, .nil, rfl⟩
  | _, _, _, .cons h1 h2, .cons r1 r2 => by
    obtain ⟨a, b, c⟩ := each_of I h2 r2
    exact ⟨.cons r1 a, .cons (Dp.reads I _ _ _ h1 r1) b, by rw [List.zip_cons_cons, List.map_cons, c]⟩
theorem vals_each : ∀ {us : List Value} {bs : List (V × PyData)}, PySem.W.EachIs (fun u (b : V × PyData) => RelV b.1 u) us bs → Vals (bs.map (·.1)) us
  | _, _, .nil => .nil
  | _, _, .cons h t => .cons h (vals_each t)
theorem cr_sortD {X : Cx} (hu : X.A.units + 64 < cLine) : CallR X (.builtin "sorted") (rSortD X.K) := by
  intro pins s σ H vs us Q I r h
  obtain ⟨a, ws, ds, rfl, hs, hd, hal, hk, hdp, q⟩ := h
  obtain ⟨its, rv, hl, hz⟩ := I.list hs
  rw [Vals.ref1 r]
  obtain ⟨e1, e2, e3⟩ := each_of I hd rv
  have hlen : (ws.zip ds).length ≤ sizeLine := Nat.le_trans (by rw [List.length_zip]; exact Nat.min_le_left _ _) hz
  refine PySem.W.sorted_data (enc := fun b : V × PyData => b.2) hl.isList e1 e2 (by rw [e3]; exact hal) (by rw [e3]; exact hk) hlen (fun b hb => ?_) fun out ho he => ?_
  · have : b.2 ∈ ds := by rw [← e3]; exact List.mem_map.mpr ⟨b, hb, rfl⟩
    have := hdp _ this
    omega
  · obtain ⟨ep, he'⟩ := PyProof.Rows.sortedAll_at s.heap its out.toArray
    have pm := List.mergeSort_perm (ws.zip ds) (PySem.W.dataLe false fun b : V × PyData => b.2)
    refine ⟨.ref _, upd H (s.heap.objs.size + 1) (.lst (((ws.zip ds).mergeSort (PySem.W.dataLe false fun b : V × PyData => b.2)).map (·.1))), I.laid (t' := s.toks) (fun _ _ => PyProof.Rows.sortedAll_old) (Nat.le_succ _) ⟨?_, out, ep, vals_each he, he'⟩, rfl, q _ _ pm (I.hok.fresh (Nat.le_succ _))⟩
    rw [List.length_map, pm.length_eq]; exact hlen
end Nh
/-! ## NhK -/
namespace Nh
open PySem PySem.Spec PyProof.Rows L2

/-! ### the text by places -/

/-! ### the built-ins -/
theorem bv_len : bootBuiltins "len" = some (.builtin "len") := by decide +kernel
theorem bv_sorted : bootBuiltins "sorted" = some (.builtin "sorted") := by decide +kernel
theorem bv_all : bootBuiltins "all" = some (.builtin "all") := by decide +kernel
theorem bv_any : bootBuiltins "any" = some (.builtin "any") := by decide +kernel
theorem bv_max : bootBuiltins "max" = some (.builtin "max") := by decide +kernel
theorem bv_min : bootBuiltins "min" = some (.builtin "min") := by decide +kernel
theorem bv_sum : bootBuiltins "sum" = some (.builtin "sum") := by decide +kernel
theorem bv_abs : bootBuiltins "abs" = some (.builtin "abs") := by decide +kernel
theorem bv_tuple : bootBuiltins "tuple" = some (.type "tuple") := by decide +kernel
theorem bv_list : bootBuiltins "list" = some (.type "list") := by decide +kernel
theorem bv_dict : bootBuiltins "dict" = some (.type "dict") := by decide +kernel
theorem bv_str : bootBuiltins "str" = some (.type "str") := by decide +kernel
theorem bv_int : bootBuiltins "int" = some (.type "int") := by decide +kernel
/-- they are the built-ins still -/
structure Bt (mg : Str → Option Value) : Prop where
  len : mg "len" = none
  sorted : mg "sorted" = none
  all : mg "all" = none
  any : mg "any" = none
  max : mg "max" = none
  min : mg "min" = none
  sum : mg "sum" = none
  abs : mg "abs" = none
  tuple : mg "tuple" = none
  list : mg "list" = none
  dict : mg "dict" = none
  str : mg "str" = none
  int : mg "int" = none
  set : mg "set" = none
  range : mg "range" = none
  zip : mg "zip" = none
  enumerate : mg "enumerate" = none

/-! ### the defs -/
structure Df (K : PySem.W.Frag) (mg : Str → Option Value) (x : Str) (st : Stmt) (ps : List Str) : Prop where
  ex : ∃ f fd, Fun K x x st f fd ∧ Binds K fd ps [] ∧ mg x = some (.ref f)
section
variable {P : Program} {w : World} {K : PySem.W.Frag} {mg : Str → Option Value} {base : Heap} {k : Nat} {x : Str} {st : Stmt} {ps : List Str} {sp : Sp}
theorem Df.cal (D : Df K mg x st ps) (h : ∀ f fd, Fun K x x st f fd → FnOk P w K mg base CX0 k f fd ps sp) : Cal P w K mg base k x ps sp :=
  let ⟨f, fd, F, b, m⟩ := D.ex; ⟨f, fd, h f fd F, b, F.kp, m⟩
end
/-! ### the layer's rules, the written part named (within a comprehension it must not hang on the block) -/
section
variable {X : Cx} {K : PySem.W.Frag}
theorem ixT (e : X.K = K) : IxR X (rIxT K) := e ▸ ix_tup
theorem ixL (e : X.K = K) : IxR X (rIxL K) := e ▸ ix_list
def rLenQ (K : PySem.W.Frag) : List V → Hp → VK → Prop := fun xs H Q => ∃ p ys, xs = [.ref p] ∧ (SqL K H p ys ∨ SqT K H p ys) ∧ Q (.int ys.length) H
theorem lenQ (e : X.K = K) : CallR X (.builtin "len") (rLenQ K) := e ▸ call_len_seq
def rTupQ (K : PySem.W.Frag) : List V → Hp → VK → Prop := fun xs H Q => ∃ p ys, xs = [.ref p] ∧ SqL K H p ys ∧ ∀ l, H l = none → Q (.ref l) (upd H l (.tup ys))
theorem tupQ (e : X.K = K) : CallR X (.type "tuple") (rTupQ K) := e ▸ fun pins s σ H xs us Q I r h => call_tuple_of pins s σ H xs us Q I r (let ⟨p, ys, a, b, c⟩ := h; ⟨p, ys, a, .inl ⟨b, c⟩⟩)
def rTupF (K : PySem.W.Frag) : List V → Hp → VK → Prop := fun xs H Q => ∃ p ys, xs = [.ref p] ∧ SqL K H p ys ∧ ∀ l o, H l = none → PlT o → Q (.ref l) (upd H l (.frz o (.tup ys)))
theorem tupF (e : X.K = K) : CallR X (.type "tuple") (rTupF K) := e ▸ call_tupF
def rLstQ (K : PySem.W.Frag) : List V → Hp → VK → Prop := fun xs H Q => ∃ p ys, xs = [.ref p] ∧ (SqL K H p ys ∨ SqT K H p ys) ∧ ∀ l, H l = none → Q (.ref l) (upd H l (.lst ys))
theorem lstQ (e : X.K = K) : CallR X (.type "list") (rLstQ K) := e ▸ call_list_of
theorem allQ (e : X.K = K) (hc : X.calm = true) : CallR X (.builtin "all") (rAll K) := e ▸ cr_all hc
theorem anyQ (e : X.K = K) (hc : X.calm = true) : CallR X (.builtin "any") (rAny K) := e ▸ cr_any hc
theorem sumQ (e : X.K = K) (hc : X.calm = true) : CallR X (.builtin "sum") (rSum K) := e ▸ cr_sum hc
theorem maxQ (e : X.K = K) (hc : X.calm = true) : CallR X (.builtin "max") (rMax K) := e ▸ cr_max hc
theorem srtS (e : X.K = K) : CallR X (.builtin "sorted") (rSortedS K) := e ▸ cr_sortedS
theorem srtD (e : X.K = K) (hu : X.A.units + 64 < cLine) : CallR X (.builtin "sorted") (rSortD K) := e ▸ cr_sortD hu
theorem eqD (e : X.K = K) (hu : X.A.units + 64 < cLine) : OpR X (compareOp .Eq) (rEqD K) := e ▸ op_eqD hu
theorem neD (e : X.K = K) (hu : X.A.units + 64 < cLine) : OpR X (compareOp .NotEq) (rNeD K) := e ▸ op_neD hu
theorem inQ (e : X.K = K) : OpR X (compareOp .In) (rIn K false) := e ▸ op_in_seq
theorem ninQ (e : X.K = K) : OpR X (compareOp .NotIn) (rIn K true) := e ▸ op_notIn_seq
theorem catT (e : X.K = K) : OpR X (binaryOp .Add) (rCatT K) := e ▸ op_catT
theorem slLQ (e : X.K = K) : SlR X (rSlL K) := e ▸ sl_list
theorem slAQ (e : X.K = K) : SlR X (rSlA K) := e ▸ sl_tupA
theorem fldQ {o : Expr} {ta : TE} {f : Str} {pos : Pos} (e : X.K = K) (he : PE X o ta) (hb : attributeBase o f X.env (eval o X.env) = eval o X.env := by rfl) : PE X (.Attribute o f pos) (tFld K ta f) := e ▸ pe_fld he hb
theorem piT {tg l : Expr} {tl : TE} (e : X.K = K) (hl : PE X l tl) : PI X tg l (iTup K tl) := e ▸ pi_tup hl
theorem piL {tg l : Expr} {tl : TE} (e : X.K = K) (hl : PE X l tl) : PI X tg l (iList K tl) := e ▸ pi_list hl
theorem pgT {es : List Expr} {k n : Nat} {t : TGs} {pos : Pos} (e : X.K = K) (hc : X.calm = true) (h : PGs X es t) (hn : (assignEach es X.env).length = n := by rfl) (hst : (assignEach es X.env).findIdx? (·.1) = none := by rfl) : PG X (.Tuple es k pos) (gTup K n t) := e ▸ pg_tup hc h hn hst
theorem enT {e1 : Expr} {ta : TA} {p pos tpos : Pos} {elts : List Expr} {kk : Nat} (e : X.K = K) (hg : Gl X "enumerate") (hm : X.mg "enumerate" = none) (ha : PA X [e1] ta) (hs : starEach [e1] X.env = [(false, eval e1 X.env)] := by rfl) :
    PI X (.Tuple elts kk tpos) (.Call (.Name "enumerate" p) [e1] [] pos) (iEnumT K ta) := e ▸ pi_enumT hg hm ha hs
theorem enL {e1 : Expr} {ta : TA} {p pos tpos : Pos} {elts : List Expr} {kk : Nat} (e : X.K = K) (hg : Gl X "enumerate") (hm : X.mg "enumerate" = none) (ha : PA X [e1] ta) (hs : starEach [e1] X.env = [(false, eval e1 X.env)] := by rfl) :
    PI X (.Tuple elts kk tpos) (.Call (.Name "enumerate" p) [e1] [] pos) (iEnum K ta) := e ▸ pi_enum hg hm ha hs
theorem zpQ {e1 e2 : Expr} {ta : TA} {p pos tpos : Pos} {elts : List Expr} {kk : Nat} (e : X.K = K) (hg : Gl X "zip") (hm : X.mg "zip" = none) (ha : PA X [e1, e2] ta) (hs : starEach [e1, e2] X.env = (false, eval e1 X.env) :: starEach [e2] X.env := by rfl) (hpl : (backTo pos (starEach [e2] X.env)).any (·.1) = false := by rfl) :
    PI X (.Tuple elts kk tpos) (.Call (.Name "zip" p) [e1, e2] [] pos) (RZ.iZipA K ta) := e ▸ RZ.pi_zipA hg hm ha hs hpl
theorem walk_zipT {a b : Addr} {xs ys : List V} {n : Nat} (h1 : xs.length = n) (h2 : ys.length = n) : Walk (RZ.ItzT K a b) n (fun H => SqT K H a xs ∧ SqT K H b ys) (YPair (fun i => xs[i]?) (fun i => ys[i]?)) := by
  refine ⟨fun i _ hi q => ?_, fun _ q => ⟨xs, ys, q.1, q.2, .inl (by omega)⟩, fun i H v H' _ q y => ?_⟩
  · obtain ⟨x, ex⟩ := get_ex (l := xs) (i := i) (by omega)
    obtain ⟨y, ey⟩ := get_ex (l := ys) (i := i) (by omega)
    exact ⟨xs, ys, x, y, q.1, q.2, ex, ey⟩
  · obtain ⟨T, x, z, h1, h2, h3, h4, h5⟩ := y
    exact ⟨T, x, z, h1, h2, h3, h4 xs q.1, h5 ys q.2⟩
def rDictP (K : PySem.W.Frag) : List V → Hp → VK → Prop := fun xs H Q => ∃ (a : Addr) (ps : List Addr) (kvs : List (Key × V)), xs = [.ref a] ∧ SqL K H a (ps.map V.ref) ∧ Paired (fun p kv => SqT K H p [kV kv.1, kv.2]) ps kvs ∧ ∀ p, H p = none → Q (.ref p) (upd H p (.dK (mergeK [] kvs)))
theorem dictP (e : X.K = K) (hc : X.calm = true) : CallR X (.type "dict") (rDictP K) := e ▸ call_dictP hc
def rDictF (K : PySem.W.Frag) : List V → Hp → VK → Prop := fun xs H Q => ∃ (a : Addr) (o : Obj) (ps : List Addr) (kvs : List (Key × V)), xs = [.ref a] ∧ H a = some (.frz o (.tup (ps.map V.ref))) ∧ PlT o ∧ Paired (fun p kv => SqT K H p [kV kv.1, kv.2]) ps kvs ∧ ∀ p, H p = none → Q (.ref p) (upd H p (.dK (mergeK [] kvs)))
theorem dictF (e : X.K = K) (hc : X.calm = true) : CallR X (.type "dict") (rDictF K) := e ▸ call_dictF hc
end

theorem z1 : 1 ≤ sizeLine := by decide
theorem z2 : 2 ≤ sizeLine := by decide
theorem z3 : 3 ≤ sizeLine := by decide
theorem z4 : 4 ≤ sizeLine := by decide
theorem z5 : 5 ≤ sizeLine := by decide
theorem z0 : 0 ≤ sizeLine := by decide
theorem z6 : 6 ≤ sizeLine := by decide
theorem nat_log {i : Int} (h0 : 0 ≤ i) (h : i < 100000) : i.natAbs.log2 < 1920 := by
  have : i.natAbs < 2 ^ 1920 := Nat.lt_of_lt_of_le (show i.natAbs < 2 ^ 20 by omega) (Nat.pow_le_pow_right (by decide) (by decide))
  by_cases e : i.natAbs = 0
  · rw [e]; decide
  · exact (Nat.log2_lt e).mpr this
theorem small {n : Nat} (h : n ≤ 100000) : n ≤ sizeLine := Nat.le_trans h (by decide)
theorem smallL {n : Nat} (h : n ≤ 100000) : n < sizeLine := Nat.lt_of_le_of_lt h (by decide)
/-- str(i) of a natural number -/
theorem str_fig (k : Nat) : Str.ofString (toString ((k : Nat) : Int)) = fig k := rfl
end Nh
/-! ## NhE -/
namespace Nh
open PySem PySem.Spec PyProof.Rows L2

/-! ### what a dict holds behind updates -/
theorem merge_or : ∀ (more kvs acc base : List (Key × V)), (∀ k, valV kvs k = (valV acc k).or (valV base k)) → ∀ k, valV (mergeK kvs more) k = (valV (mergeK acc more) k).or (valV base k)
  | [], _, _, _, h, k => h k
  | p :: r, kvs, acc, base, h, k => by
    refine merge_or r (putK kvs p.1 p.2) (putK acc p.1 p.2) base (fun j => ?_) k
    rw [valV_put, valV_put]
    by_cases e : j = p.1
    · rw [if_pos e, if_pos e]; rfl
    · rw [if_neg e, if_neg e]; exact h j
theorem valV_merge (kvs more : List (Key × V)) (k : Key) : valV (mergeK kvs more) k = (valV (mergeK [] more) k).or (valV kvs k) := merge_or more kvs [] kvs (fun j => by rw [valV_nil]; rfl) k
theorem keys_put {kvs : List (Key × V)} {k : Key} {v : V} (h : (kvs.map (·.1)).Nodup) : ((putK kvs k v).map (·.1)).Nodup := by
  unfold putK
  by_cases a : (kvs.any fun kv => decide (kv.1 = k)) = true
  · rw [if_pos a, List.map_map]
    have e : kvs.map ((·.1) ∘ fun kv => if kv.1 = k then (kv.1, v) else kv) = kvs.map (·.1) := List.map_congr_left fun p _ => by
      show (if p.1 = k then (p.1, v) else p).1 = p.1
      split <;> rfl
    rw [e]; exact h
  · rw [if_neg a, List.map_append]
    refine List.nodup_append.mpr ⟨h, List.nodup_cons.mpr ⟨List.not_mem_nil, List.nodup_nil⟩, fun x hx y hy e => ?_⟩
    have hy' : y = k := by simpa using hy
    subst e hy'
    obtain ⟨p, hp, e⟩ := List.mem_map.mp hx
    exact a (List.any_eq_true.mpr ⟨p, hp, decide_eq_true e⟩)
theorem keys_merge : ∀ (more kvs : List (Key × V)), (kvs.map (·.1)).Nodup → ((mergeK kvs more).map (·.1)).Nodup
  | [], _, h => h
  | p :: r, kvs, h => keys_merge r (putK kvs p.1 p.2) (keys_put h)
theorem valV_none {kvs : List (Key × V)} {k : Key} (h : k ∉ kvs.map (·.1)) : valV kvs k = none := by
  induction kvs with
  | nil => rfl
  | cons p r ih =>
    rw [List.map_cons, List.mem_cons, not_or] at h
    rw [valV_neg fun e => h.1 e.symm]; exact ih h.2
theorem valV_mem {kvs : List (Key × V)} {k : Key} {v : V} (hn : (kvs.map (·.1)).Nodup) (h : (k, v) ∈ kvs) : valV kvs k = some v := by
  induction kvs with
  | nil => cases h
  | cons p r ih =>
    rw [List.map_cons] at hn
    obtain ⟨h1, h2⟩ := List.nodup_cons.mp hn
    rcases List.mem_cons.mp h with e | h
    · subst e; exact valV_pos rfl
    · rw [valV_neg fun e => h1 (by rw [e]; exact List.mem_map.mpr ⟨_, h, rfl⟩)]; exact ih h2 h
theorem mem_of_valV {kvs : List (Key × V)} {k : Key} {v : V} (h : valV kvs k = some v) : (k, v) ∈ kvs := by
  induction kvs with
  | nil => cases h
  | cons p r ih =>
    by_cases e : p.1 = k
    · rw [valV_pos e] at h; cases h
      subst e; exact List.mem_cons_self
    · rw [valV_neg e] at h; exact List.mem_cons_of_mem _ (ih h)
theorem merge_self : ∀ (m acc : List (Key × V)), (m.map (·.1)).Nodup → ∀ k, valV (mergeK acc m) k = (valV m k).or (valV acc k)
  | [], _, _, _ => rfl
  | p :: r, acc, hn, k => by
    rw [List.map_cons] at hn
    obtain ⟨h1, h2⟩ := List.nodup_cons.mp hn
    show valV (mergeK (putK acc p.1 p.2) r) k = _
    rw [merge_self r _ h2 k, valV_put]
    by_cases e : p.1 = k
    · subst e
      rw [valV_pos rfl, valV_none h1, if_pos rfl]; rfl
    · rw [valV_neg e, if_neg fun z => e z.symm]
/-- an update by a dict just made of pairs is one by the pairs -/
theorem merge_merge (kvs ps : List (Key × V)) (k : Key) : valV (mergeK kvs (mergeK [] ps)) k = valV (mergeK kvs ps) k := by
  rw [valV_merge kvs (mergeK [] ps), merge_self (mergeK [] ps) [] (keys_merge ps [] List.nodup_nil) k, valV_nil, Option.or_none, ← valV_merge]

/-! ### keys that are texts -/
def prs (bs : List Str) (vs : List V) : List (Key × V) := (bs.zip vs).map fun p => (Sum.inr p.1, p.2)
theorem prs_cons (b : Str) (bs : List Str) (v : V) (vs : List V) : prs (b :: bs) (v :: vs) = (Sum.inr b, v) :: prs bs vs := rfl
theorem prs_length {bs : List Str} {vs : List V} (h : bs.length = vs.length) : (prs bs vs).length = bs.length := by unfold prs; rw [List.length_map, List.length_zip, h, Nat.min_self]
theorem valV_prs : ∀ (bs : List Str) (vs : List V) (kvs : List (Key × V)) (x : Str), valV (mergeK kvs (prs bs vs)) (Sum.inr x) = updF (fun x => valV kvs (Sum.inr x)) (bs.zip (vs.map some)) x
  | [], _, _, _ => rfl
  | _ :: _, [], _, _ => rfl
  | b :: bs, v :: vs, kvs, x => by
    show valV (mergeK (putK kvs (Sum.inr b) v) (prs bs vs)) (Sum.inr x) = _
    rw [valV_prs bs vs]
    show updF _ _ x = updF (fun y => if y = b then some v else valV kvs (Sum.inr y)) (bs.zip (vs.map some)) x
    congr 1
    funext y
    rw [valV_put]
    by_cases e : y = b
    · rw [if_pos e, if_pos (by rw [e])]
    · rw [if_neg e, if_neg fun z => e (Sum.inr.inj z)]
theorem updF_rel {α β : Type} (R : α → β → Prop) : ∀ (bs : List Str) (as : List α) (cs : List β), as.length = bs.length → cs.length = bs.length → (∀ (i : Nat) a c, as[i]? = some a → cs[i]? = some c → R a c) →
    ∀ (ν : Str → α) (μ : Str → β) (x : Str), (x ∈ bs ∨ R (ν x) (μ x)) → R (updF ν (bs.zip as) x) (updF μ (bs.zip cs) x)
  | [], _, _, _, _, _, ν, μ, x, h => h.resolve_left (fun z => nomatch z)
  | _ :: _, [], _, h, _, _, _, _, _, _ => by simp at h
  | _ :: _, _ :: _, [], _, h, _, _, _, _, _ => by simp at h
  | b :: bs, a :: as, c :: cs, h1, h2, hr, ν, μ, x, h => by
    refine updF_rel R bs as cs (by simpa using h1) (by simpa using h2) (fun i a c e1 e2 => hr (i + 1) a c (by simpa using e1) (by simpa using e2)) (fun y => if y = b then a else ν y) (fun y => if y = b then c else μ y) x ?_
    by_cases e : x = b
    · right
      rw [if_pos e, if_pos e]; exact hr 0 a c rfl rfl
    · rcases h with h | h
      · rcases List.mem_cons.mp h with q | h
        · exact absurd q e
        · exact .inl h
      · right
        rw [if_neg e, if_neg e]; exact h
/-- a list of pairs (name, datum), as dict(..) takes it -/
theorem dv_prs {K : PySem.W.Frag} {H : Hp} : ∀ {bs : List Str} {ds : List PyData} {acc : List V}, bs.length = ds.length → DvA H ((bs.zip ds).map fun p => PyData.tuple [.str p.1, p.2]) acc →
    ∃ (as : List Addr) (vs : List V), acc = as.map V.ref ∧ as.length = bs.length ∧ vs.length = bs.length ∧ DvA H ds vs ∧ Paired (fun p (kv : Key × V) => SqT K H p [kV kv.1, kv.2]) as (prs bs vs)
  | [], [], acc, _, h => by
    have : acc = [] := dva_nil.mp h
    subst this
    exact ⟨[], [], rfl, rfl, rfl, .nil, .nil⟩
  | b :: bs, d :: ds, acc, hl, h => by
    rw [List.zip_cons_cons, List.map_cons, dva_cons] at h
    obtain ⟨v, r, rfl, h1, h2⟩ := h
    obtain ⟨a, x, y, rfl, ha, hx, hy⟩ := dv_two.mp h1
    rw [dv_str] at hx; subst hx
    obtain ⟨as, vs, rfl, l1, l2, q1, q2⟩ := dv_prs (by simpa using hl) h2
    exact ⟨a :: as, y :: vs, rfl, by simp [l1], by simp [l2], .cons hy q1, .cons (SqT.of ha) q2⟩
/-- the dict calls names by ν -/
def Calls (kvs : List (Key × V)) (ν : Str → Str) (S : List Str) : Prop := ∀ x ∈ S, valV kvs (Sum.inr x) = some (.str (ν x))
theorem Calls.bind {kvs : List (Key × V)} {ν : Str → Str} {S S' bs cs : List Str} (h : Calls kvs ν S) (hl : bs.length = cs.length) (hs : ∀ x ∈ S', x ∈ bs ∨ x ∈ S) : Calls (mergeK kvs (mergeK [] (prs bs (cs.map V.str)))) (updF ν (bs.zip cs)) S' := by
  intro x hx
  rw [merge_merge, valV_prs]
  refine updF_rel (fun (a : Option V) (c : Str) => a = some (.str c)) bs ((cs.map V.str).map some) cs (by simp [hl]) hl.symm (fun i a c e1 e2 => ?_) _ _ x ((hs x hx).imp id fun q => h x q)
  rw [List.getElem?_map, List.getElem?_map, e2] at e1
  exact (Option.some.inj e1).symm
/-- the dict tells names as terms -/
def Names (H : Hp) (kvs : List (Key × V)) (ν : Str → Str) (S : List Str) : Prop := ∀ x ∈ S, (∃ v, valV kvs (Sum.inr x) = some v ∧ Dv H (nameD (ν x)) v) ∨ (valV kvs (Sum.inr x) = none ∧ ν x = x)
theorem Names.mono {H H' : Hp} {kvs : List (Key × V)} {ν : Str → Str} {S : List Str} (h : Names H kvs ν S) (t : Tu H H') : Names H' kvs ν S := fun x hx => (h x hx).imp (fun ⟨v, e, q⟩ => ⟨v, e, q.mono t⟩) id
theorem Names.bind {H : Hp} {kvs : List (Key × V)} {ν : Str → Str} {S S' bs cs : List Str} {vs : List V} (h : Names H kvs ν S) (hl : bs.length = cs.length) (hv : DvA H (cs.map nameD) vs) (hs : ∀ x ∈ S', x ∈ bs ∨ x ∈ S) : Names H (mergeK kvs (mergeK [] (prs bs vs))) (updF ν (bs.zip cs)) S' := by
  have lv : vs.length = cs.length := by rw [hv.length, List.length_map]
  intro x hx
  have e := merge_merge kvs (prs bs vs) (Sum.inr x)
  rw [valV_prs] at e
  by_cases hb : x ∈ bs
  · have q := updF_rel (fun (a : Option V) (c : Str) => ∃ v, a = some v ∧ Dv H (nameD c) v) bs (vs.map some) cs (by simp [lv, hl]) hl.symm (fun i a c e1 e2 => ?_) (fun x => valV kvs (Sum.inr x)) ν x (.inl hb)
    · obtain ⟨v, e1, e2⟩ := q
      exact .inl ⟨v, by rw [e, e1], e2⟩
    · rw [List.getElem?_map] at e1
      obtain ⟨v, ev, rfl⟩ := Option.map_eq_some_iff.mp e1
      obtain ⟨d, ed, q⟩ := hv.get' ev
      rw [List.getElem?_map, e2] at ed
      cases ed
      exact ⟨v, rfl, q⟩
  · have k1 : updF (fun x => valV kvs (Sum.inr x)) (bs.zip (vs.map some)) x = valV kvs (Sum.inr x) := updZ_notin (by rw [List.length_map]; omega) hb
    have k2 : updF ν (bs.zip cs) x = ν x := updZ_notin hl hb
    rw [k1] at e
    rw [e, k2]
    exact h x ((hs x hx).resolve_left hb)
theorem free_part {f : Str} {ps : List (List Str × Tm)} {p : List Str × Tm} (hp : p ∈ ps) : ∀ x ∈ free p.2, x ∈ p.1 ∨ x ∈ free (.form f ps) := fun x hx => by
  by_cases hb : x ∈ p.1
  · exact .inl hb
  · exact .inr (mem_free_form.mpr ⟨p, hp, hx, hb⟩)

theorem nodup_of_map {α β : Type} {f : α → β} : ∀ {l : List α}, (l.map f).Nodup → l.Nodup
  | [], _ => List.nodup_nil
  | a :: l, h => by
    rw [List.map_cons] at h
    obtain ⟨h1, h2⟩ := List.nodup_cons.mp h
    exact List.nodup_cons.mpr ⟨fun hm => h1 (List.mem_map.mpr ⟨a, hm, rfl⟩), nodup_of_map h2⟩
theorem mem_put {kvs : List (Key × V)} {k j : Key} {v : V} : j ∈ (putK kvs k v).map (·.1) ↔ j = k ∨ j ∈ kvs.map (·.1) := by
  unfold putK
  by_cases a : (kvs.any fun kv => decide (kv.1 = k)) = true
  · rw [if_pos a, List.map_map]
    have e : kvs.map ((·.1) ∘ fun kv => if kv.1 = k then (kv.1, v) else kv) = kvs.map (·.1) := List.map_congr_left fun p _ => by
      show (if p.1 = k then (p.1, v) else p).1 = p.1
      split <;> rfl
    rw [e]
    refine ⟨.inr, fun h => h.elim (fun h => ?_) id⟩
    obtain ⟨p, hp, e⟩ := List.any_eq_true.mp a
    rw [h, ← of_decide_eq_true e]; exact List.mem_map.mpr ⟨p, hp, rfl⟩
  · rw [if_neg a, List.map_append, List.mem_append]
    simp [or_comm]
theorem mem_merge : ∀ {more kvs : List (Key × V)} {j : Key}, j ∈ (mergeK kvs more).map (·.1) ↔ j ∈ more.map (·.1) ∨ j ∈ kvs.map (·.1)
  | [], kvs, j => by
    show j ∈ kvs.map (·.1) ↔ _
    simp
  | p :: r, kvs, j => by
    show j ∈ (mergeK (putK kvs p.1 p.2) r).map (·.1) ↔ _
    rw [mem_merge, mem_put, List.map_cons, List.mem_cons]
    constructor
    · rintro (h | h | h)
      · exact .inl (.inr h)
      · exact .inl (.inl h)
      · exact .inr h
    · rintro ((h | h) | h)
      · exact .inr (.inl h)
      · exact .inl h
      · exact .inr (.inr h)
theorem keys_inr : ∀ {l : List Key}, (∀ k ∈ l, ∃ x, k = Sum.inr x) → ∃ ks : List Str, l = ks.map Sum.inr
  | [], _ => ⟨[], rfl⟩
  | k :: l, h => by
    obtain ⟨x, rfl⟩ := h k List.mem_cons_self
    obtain ⟨ks, rfl⟩ := keys_inr fun k hk => h k (List.mem_cons_of_mem _ hk)
    exact ⟨x :: ks, rfl⟩
theorem keys_prs {bs : List Str} {vs : List V} (h : bs.length = vs.length) : (prs bs vs).map (·.1) = bs.map Sum.inr := by
  unfold prs
  rw [List.map_map]
  have : bs = (bs.zip vs).map (·.1) := (zip_map_fst h).symm
  conv => rhs; rw [this, List.map_map]
  rfl
/-- texts' keys behind an update by texts' pairs -/
theorem keys_upd {kvs : List (Key × V)} {ks zs : List Str} {vs : List V} (h : kvs.map (·.1) = ks.map Sum.inr) (hn : ks.Nodup) (hl : zs.length = vs.length) :
    ∃ ks' : List Str, (mergeK kvs (prs zs vs)).map (·.1) = ks'.map Sum.inr ∧ ks'.Nodup ∧ ∀ x, x ∈ ks' ↔ x ∈ ks ∨ x ∈ zs := by
  have inj : ∀ {l : List Str} {x : Str}, (Sum.inr x : Key) ∈ l.map Sum.inr ↔ x ∈ l := fun {l x} => by
    rw [List.mem_map]
    exact ⟨fun ⟨y, hy, e⟩ => by cases e; exact hy, fun h => ⟨x, h, rfl⟩⟩
  obtain ⟨ks', e⟩ := keys_inr (l := (mergeK kvs (prs zs vs)).map (·.1)) fun k hk => by
    rw [mem_merge, keys_prs hl, h] at hk
    rcases hk with hk | hk
    · obtain ⟨x, _, rfl⟩ := List.mem_map.mp hk; exact ⟨x, rfl⟩
    · obtain ⟨x, _, rfl⟩ := List.mem_map.mp hk; exact ⟨x, rfl⟩
  refine ⟨ks', e, ?_, fun x => ?_⟩
  · have nd := keys_merge (prs zs vs) kvs (by rw [h]; exact nodup_map_inj (fun x _ y _ e => Sum.inr.inj e) hn)
    rw [e] at nd
    exact nodup_of_map nd
  · rw [← inj (l := ks'), ← e, mem_merge, keys_prs hl, h, inj, inj]
    exact or_comm
theorem zip_self {α β γ : Type} (f : α → β) (g : α × β → γ) : ∀ zs : List α, (zs.zip (zs.map f)).map g = zs.map fun x => g (x, f x)
  | [] => rfl
  | z :: zs => by rw [List.map_cons, List.zip_cons_cons, List.map_cons, zip_self f g zs, List.map_cons]

/-! ### terms whose parts bind few names -/
inductive Thin : Tm → Prop
  | name {x : Str} : Thin (.name x)
  | hole {h : Str} {xs : List Str} : Thin (.hole h xs)
  | form {f : Str} {ps : List (List Str × Tm)} : (∀ p ∈ ps, p.1.length ≤ 3) → (∀ p ∈ ps, Thin p.2) → Thin (.form f ps)
theorem Ty.thin {T : Tg} (hT : Slim T) {Γ : Ctx} {t : Tm} {s : Int} (h : Ty T Γ t s) : Thin t := by
  induction h with
  | name _ => exact .name
  | hole _ _ _ => exact .hole
  | form h1 h2 h3 h4 h5 ih =>
    refine .form (fun p hp => ?_) fun p hp => ?_
    · obtain ⟨i, q, e, e'⟩ := part_of h2 hp
      rw [h3 i p q e e']; exact hT _ _ _ h1 q (get_mem e')
    · obtain ⟨i, q, e, e'⟩ := part_of h2 hp
      exact ih i p q e e'
theorem Nt.thin {lv : Nat} {t : Tm} (h : Nt lv t) : Thin t := by
  induction h with
  | name _ => exact .name
  | hole _ => exact .hole
  | form h1 h2 h3 ih => exact .form h2 ih
end Nh
/-! ## NhP1 -/
set_option maxHeartbeats 4000000
namespace Nh
open PySem PySem.Spec PyProof.Rows L2
section
variable {P : Program} {w : World} {K : PySem.W.Frag} {mg : Str → Option Value} {base : Heap} {f : Addr} {fd : FuncData}
/-! ### figures -/
abbrev N_figures : List Str := ["many", "k"]
theorem sc_figures : FnScope N_figures ["many"] (defScope s_figures) := ⟨rfl, rfl, rfl, by decide +kernel, rfl, by decide +kernel, by decide +kernel⟩
def spFigures : Sp := fun vs H Q _ => ∃ n : Nat, vs = [.int n] ∧ n ≤ 1000 ∧ ∀ v H', Le0 H H' → Dv H' (strsD (figs 0 n)) v → Q v H'
theorem ok_figures (F : Fun K "figures" "figures" s_figures f fd) (B : Bt mg) : FnOk P w K mg base CX0 1 f fd ["many"] spFigures := by
  refine F.ok sc_figures (fun vs H Q E h => by obtain ⟨n, rfl, _⟩ := h; rfl) (fun cdv A outer s H vs Q E hr h => ?_)
  obtain ⟨n, rfl, hn, q⟩ := h
  refine ⟨_, (pss_one (ps_ret (pe_callTy (tupQ (K := K) rfl) (by rfl) B.tuple bv_tuple (pa_cons (pe_lc (own := [("k", 1)]) rfl sc_figures.nd (pi_range1 (by rfl) B.range (pa_cons (pv 0) pa_nil)) (blkOk_by (own := [("k", 1)]) (N := N_figures) (sc := defScope s_figures) (by decide +kernel)) (fun _ _ _ _ _ => pg_name (i := 1) sc_figures.nd rfl (by first | exact Or.inl rfl | exact Or.inr rfl)) (fun _ _ _ _ _ => pts_nil) (fun _ _ _ _ _ => pe_callTy call_str_int (by rfl) B.str bv_str (pa_cons (pv 1) pa_nil))) pa_nil)))), ?_⟩
  refine ⟨_, rfl, (n : Int), rfl, by omega, by omega, fun D hD => ?_⟩
  rw [Int.toNat_natCast]
  refine lc_map walk_range ((figs 0 n).map strD) hD (smallL (by omega)) (by simp [figs_length]) (fun _ _ => trivial) (fun i x d H1 H2 hi hd l y k1 hk => ?_) fun acc H1 l hacc hds => ?_
  · obtain ⟨rfl, rfl⟩ := y
    refine ⟨rfl, _, rfl, _, rfl, nat_log (by omega) (by omega), ?_⟩
    refine hk _ _ (Le.refl _) ?_
    rw [List.getElem?_map, figs_get hi] at hd
    cases hd
    rw [show (0 : Int) + (i : Int) = ((0 + i : Nat) : Int) by omega]
    exact Dv.str
  · refine ⟨D, acc, rfl, SqL.of hacc, fun p hp => ?_⟩
    exact q _ _ (l.trans (Le.new hp _)) (Dv.mk hp hds)
/-! ### names_taken -/
abbrev N_names_taken : List Str := ["term", "one"]
theorem sc_names_taken : FnScope N_names_taken ["term"] (defScope s_names_taken) := ⟨rfl, rfl, rfl, by decide +kernel, rfl, by decide +kernel, by decide +kernel⟩
def spNamesTaken : Sp := fun vs H Q _ => ∃ (v : V) (h : Str) (xs : List Str), vs = [v] ∧ Dv H (encT (.hole h xs)) v ∧ xs.length ≤ 1000 ∧ ∀ v H', Le0 H H' → Dv H' (strsD xs) v → Q v H'
theorem ok_names_taken (F : Fun K "names_taken" "names_taken" s_names_taken f fd) (B : Bt mg) : FnOk P w K mg base CX0 1 f fd ["term"] spNamesTaken := by
  refine F.ok sc_names_taken (fun vs H Q E h => by obtain ⟨v, h', xs, rfl, _⟩ := h; rfl) (fun cdv A outer s H vs Q E hr h => ?_)
  obtain ⟨v, h', xs, rfl, hv, hx, q⟩ := h
  obtain ⟨a, b, ws, rfl, ha, hb, hw⟩ := dt_hole.mp hv
  have hl := hw.length
  rw [List.length_map] at hl
  refine ⟨_, (pss_one (ps_ret (pe_callTy (tupQ (K := K) rfl) (by rfl) B.tuple bv_tuple (pa_cons (pe_lc (own := [("one", 1)]) rfl sc_names_taken.nd (piT (K := K) rfl (pe_ix (ixT (K := K) rfl) (pv 0) (pe_int) (fun _ _ => rfl))) (blkOk_by (own := [("one", 1)]) (N := N_names_taken) (sc := defScope s_names_taken) (by decide +kernel)) (fun _ _ _ _ _ => pg_name (i := 1) sc_names_taken.nd rfl (by first | exact Or.inl rfl | exact Or.inr rfl)) (fun _ _ _ _ _ => pts_nil) (fun _ _ _ _ _ => pe_ix (ixT (K := K) rfl) (pv 1) (pe_int) (fun _ _ => rfl))) pa_nil)))), ?_⟩
  refine ⟨_, rfl, a, _, 2, _, rfl, rfl, SqT.of ha, rfl, b, rfl, ⟨_, SqT.of hb⟩, fun D hD => ?_⟩
  refine lc_map walk_tup (xs.map strD) hD (smallL (by omega)) (by simp [hl]) (fun H1 l => SqT.of (l.tup _ _ hb)) (fun i x d H1 H2 hi hd l y k1 hk => ?_) fun acc H1 l hacc hds => ?_
  · obtain ⟨rfl, ex⟩ := y
    obtain ⟨z, c, ez, rfl, hc⟩ := nm_at (hw.mono l.tup) ex
    refine ⟨rfl, _, rfl, c, _, 1, _, rfl, rfl, SqT.of hc, rfl, ?_⟩
    refine hk _ _ (Le.refl _) ?_
    rw [List.getElem?_map, ez] at hd
    cases hd
    exact Dv.str
  · refine ⟨D, acc, rfl, SqL.of hacc, fun p hp => ?_⟩
    exact q _ _ (l.trans (Le.new hp _)) (Dv.mk hp hds)
end
end Nh
/-! ## NhP2 -/
set_option maxHeartbeats 4000000
namespace Nh
open PySem PySem.Spec PyProof.Rows L2
theorem ifT {c A B : Prop} [Decidable c] (h : c) (a : A) : if decide c = true then A else B := by rw [decide_eq_true h]; exact iteT a
theorem ifF {c A B : Prop} [Decidable c] (h : ¬ c) (b : B) : if decide c = true then A else B := by rw [decide_eq_false h]; exact iteF b
theorem s_fn : ¬ (V.str "form" = V.str "name") := by decide +kernel
theorem s_hn : ¬ (V.str "hole" = V.str "name") := by decide +kernel
theorem s_hf : ¬ (V.str "hole" = V.str "form") := by decide +kernel
theorem s_fh : ¬ (V.str "form" = V.str "hole") := by decide +kernel
theorem s_nf : ¬ (V.str "name" = V.str "form") := by decide +kernel
theorem s_nh : ¬ (V.str "name" = V.str "hole") := by decide +kernel
theorem s_nl : ¬ (V.str "name" = V.str "let") := by decide +kernel
theorem s_hl : ¬ (V.str "hole" = V.str "let") := by decide +kernel
theorem s_fl : ¬ (V.str "form" = V.str "let") := by decide +kernel
theorem dget_str {H : Hp} {c : Addr} {kvs : List (Key × V)} {x : Str} {v : V} (h : Rd H c (.dK kvs)) (e : valV kvs (Sum.inr x) = some v) : DGet H c (.str x) (some v) := by
  rw [← e]; exact .inl ⟨kvs, Sum.inr x, h, rfl, rfl⟩
def spCB (n : Nat) : Sp := fun vs H Q _ => ∃ (v : V) (c : Addr) (t : Tm) (kvs : List (Key × V)) (ν : Str → Str) (lv : Nat), vs = [v, .ref c, .int lv] ∧ Dv H (encT t) v ∧ H c = some (.dK kvs) ∧ Calls kvs ν (free t) ∧ Thin t ∧ dp t ≤ n ∧ lv + 3 * dp t ≤ 1000 ∧ sz t ≤ 1000 ∧
  kvs.length + 3 * dp t ≤ 5000 ∧ ∀ v' H', Le0 H H' → Dv H' (encT (ren ν lv t)) v' → Q v' H'
def spPCB (n : Nat) : Sp := fun vs H Q _ => ∃ (b : Addr) (v : V) (c : Addr) (bs : List Str) (t : Tm) (kvs : List (Key × V)) (ν : Str → Str) (lv : Nat) (S : List Str), vs = [.ref b, v, .ref c, .int lv] ∧ H b = some (.tup (bs.map V.str)) ∧ bs.length ≤ 3 ∧ Dv H (encT t) v ∧ H c = some (.dK kvs) ∧
  Calls kvs ν S ∧ (∀ x ∈ free t, x ∈ bs ∨ x ∈ S) ∧ Thin t ∧ dp t ≤ n ∧ lv + 3 + 3 * dp t ≤ 1000 ∧ sz t ≤ 1000 ∧ kvs.length + 3 + 3 * dp t ≤ 5000 ∧
  ∀ v' H', Le0 H H' → Dv H' (.tuple [strsD (figs lv bs.length), encT (ren (bindN ν bs lv) (lv + bs.length) t)]) v' → Q v' H'
section
variable {P : Program} {w : World} {K : PySem.W.Frag} {mg : Str → Option Value} {base : Heap} {f : Addr} {fd : FuncData}
abbrev N_called_by : List Str := ["term", "calls", "deep", "sort", "names", "body", "inner"]
theorem sc_called_by : FnScope N_called_by ["term", "calls", "deep"] (defScope s_called_by) := ⟨rfl, rfl, rfl, by decide +kernel, rfl, by decide +kernel, by decide +kernel⟩
abbrev N_part_called_by : List Str := ["names", "inner", "calls", "deep", "own", "further", "at", "name", "call"]
theorem sc_part_called_by : FnScope N_part_called_by ["names", "inner", "calls", "deep"] (defScope s_part_called_by) := ⟨rfl, rfl, rfl, by decide +kernel, rfl, by decide +kernel, by decide +kernel⟩
theorem ok_called_by {n : Nat} (F : Fun K "called_by" "called_by" s_called_by f fd) (B : Bt mg) (c_called_by : Cal P w K mg base (2 * n) "called_by" ["term", "calls", "deep"] (spCB n)) (c_part_called_by : Cal P w K mg base (2 * n + 1) "part_called_by" ["names", "inner", "calls", "deep"] (spPCB n)) :
    FnOk P w K mg base CX0 (2 * n + 2) f fd ["term", "calls", "deep"] (spCB (n + 1)) := by
  refine F.ok sc_called_by (fun vs H Q E h => by obtain ⟨v, c, t, kvs, ν, lv, rfl, _⟩ := h; rfl) (fun cdv A outer s H vs Q E hr h => ?_)
  obtain ⟨v, c, t, kvs, ν, lv, rfl, hv, hc, hk, ht, hd, hlv, hsz, hkl, q⟩ := h
  have hu := hu_of hr
  refine ⟨_, (pss_cons (ps_set (i := 3) sc_called_by.nd rfl (by first | exact Or.inl rfl | exact Or.inr rfl) (pe_ix (ixT (K := K) rfl) (pv 0) (pe_int) (fun _ _ => rfl)))
  (pss_cons (ps_if (pt_cmpR op_eq (pv 3) (pe_str) (nomark _)) (pss_one (ps_ret (pe_tup (pa_cons (pv 3) (pa_cons (pe_dget hu (pv 1) (pe_ix (ixT (K := K) rfl) (pv 0) (pe_int) (fun _ _ => rfl)) (fun _ _ => rfl)) pa_nil))))) pss_nil)
  (pss_cons (ps_if (pt_cmpR op_eq (pv 3) (pe_str) (nomark _)) (pss_one (ps_ret (pe_tup (pa_cons (pv 3) (pa_cons (pe_ix (ixT (K := K) rfl) (pv 0) (pe_int) (fun _ _ => rfl)) (pa_cons (pe_callTy (tupQ (K := K) rfl) (by rfl) B.tuple bv_tuple (pa_cons (pe_lc (own := [("names", 4), ("inner", 6)]) rfl sc_called_by.nd (piT (K := K) rfl (pe_ix (ixT (K := K) rfl) (pv 0) (pe_int) (fun _ _ => rfl))) (blkOk_by (own := [("names", 4), ("inner", 6)]) (N := N_called_by) (sc := defScope s_called_by) (by decide +kernel)) (fun _ _ _ _ _ => pgT (K := K) (n := 2) rfl rfl (pgs_cons (pg_name (i := 4) sc_called_by.nd rfl (by first | exact Or.inl rfl | exact Or.inr rfl)) (pgs_cons (pg_name (i := 6) sc_called_by.nd rfl (by first | exact Or.inl rfl | exact Or.inr rfl)) pgs_nil))) (fun _ _ _ _ _ => pts_nil) (fun _ _ _ _ _ => pe_cal c_part_called_by (hr.mono (by omega)) (by rfl) (pa_cons (pv 4) (pa_cons (pv 6) (pa_cons (pv 1) (pa_cons (pv 2) pa_nil)))))) pa_nil)) pa_nil)))))) pss_nil)
  (pss_cons (ps_if (pt_cmpR op_eq (pv 3) (pe_str) (nomark _)) (pss_one (ps_ret (pe_tup (pa_cons (pv 3) (pa_cons (pe_ix (ixT (K := K) rfl) (pv 0) (pe_int) (fun _ _ => rfl)) (pa_cons (pe_callTy (tupQ (K := K) rfl) (by rfl) B.tuple bv_tuple (pa_cons (pe_lc (own := [("inner", 6)]) rfl sc_called_by.nd (piT (K := K) rfl (pe_ix (ixT (K := K) rfl) (pv 0) (pe_int) (fun _ _ => rfl))) (blkOk_by (own := [("inner", 6)]) (N := N_called_by) (sc := defScope s_called_by) (by decide +kernel)) (fun _ _ _ _ _ => pg_name (i := 6) sc_called_by.nd rfl (by first | exact Or.inl rfl | exact Or.inr rfl)) (fun _ _ _ _ _ => pts_nil) (fun _ _ _ _ _ => pe_cal c_called_by (hr.mono (by omega)) (by rfl) (pa_cons (pv 6) (pa_cons (pv 1) (pa_cons (pv 2) pa_nil))))) pa_nil)) pa_nil)))))) pss_nil)
  pss_never)))), ?_⟩
  cases t with
  | name x =>
    obtain ⟨a, rfl, ha⟩ := dt_name.mp hv
    refine ⟨_, rfl, a, _, 0, _, rfl, rfl, SqT.of ha, rfl, ?_⟩
    refine ⟨_, rfl, rfl, _, rfl, ifT rfl ?_⟩
    refine ⟨_, rfl, _, rfl, _, rfl, a, _, 1, _, rfl, rfl, SqT.of ha, rfl, c, _, rfl, dget_str (.inl hc) (hk x (by rw [free_name]; exact List.mem_cons_self)), z2, fun p hp => ?_⟩
    refine q _ _ (Le.new hp _) ?_
    rw [ren_name]
    exact dt_name.mpr ⟨p, rfl, upd_same⟩
  | hole h' xs =>
    obtain ⟨a, b, ws, rfl, ha, hb, hw⟩ := dt_hole.mp hv
    have hl := hw.length
    rw [List.length_map] at hl
    rw [sz_hole] at hsz
    refine ⟨_, rfl, a, _, 0, _, rfl, rfl, SqT.of ha, rfl, ?_⟩
    refine ⟨_, rfl, rfl, _, rfl, ifF s_hn ?_⟩
    refine ⟨_, rfl, rfl, _, rfl, ifF s_hf ?_⟩
    refine ⟨_, rfl, rfl, _, rfl, ifT rfl ?_⟩
    refine ⟨_, rfl, _, rfl, a, _, 1, _, rfl, rfl, SqT.of ha, rfl, ?_⟩
    refine ⟨_, rfl, a, _, 2, _, rfl, rfl, SqT.of ha, rfl, b, rfl, ⟨_, SqT.of hb⟩, fun D hD => ?_⟩
    refine lc_map walk_tup ((xs.map ν).map nameD) hD (smallL (by omega)) (by simp [hl]) (fun H1 l => SqT.of (l.tup _ _ hb)) (fun i x d H1 H2 hi hdi l y k1 hk1 => ?_) fun acc H1 l hacc hds => ?_
    · obtain ⟨rfl, ex⟩ := y
      obtain ⟨z, c', ez, rfl, hc'⟩ := nm_at (hw.mono l.tup) ex
      have hz : z ∈ xs := get_mem ez
      have h1 : 2 ≤ dp (.hole h' xs) := by
        rw [dp_hole]
        have : 1 ≤ maxs (xs.map fun _ => 1) := le_maxs (List.mem_map.mpr ⟨z, hz, rfl⟩)
        omega
      refine ⟨rfl, _, rfl, _, rfl, _, rfl, .ref c', c, .name z, kvs, ν, lv, rfl, dt_name.mpr ⟨c', rfl, hc'⟩, l.rest _ _ (fun z => z) hc, fun x hx => ?_, .name, ?_, ?_, ?_, ?_, fun v' H' l' hv' => hk1 _ _ l' ?_⟩
      · rw [free_name, List.mem_singleton] at hx
        subst hx
        exact hk x (by rw [free_hole]; exact hz)
      · rw [dp_name]; omega
      · rw [dp_name]; omega
      · rw [sz_name]; omega
      · rw [dp_name]; omega
      · rw [List.getElem?_map, List.getElem?_map, ez] at hdi
        cases hdi
        rw [ren_name, encT_name] at hv'
        exact hv'
    · refine ⟨D, acc, rfl, SqL.of hacc, fun p hp => ⟨z3, fun p2 hp2 => ?_⟩⟩
      refine q _ _ ((l.trans (Le.new hp _)).trans (Le.new hp2 _)) ?_
      rw [ren_hole]
      exact dt_hole.mpr ⟨p2, p, acc, rfl, upd_same, by rw [upd_ne (ne_of_none upd_same hp2)]; exact upd_same, (hds.mono (Tu.new hp _)).mono (Tu.new hp2 _)⟩
  | form f' ps =>
    obtain ⟨a, b, ws, rfl, ha, hb, hw⟩ := dt_form.mp hv
    have hl := hw.length
    rw [List.length_map] at hl
    have hps := len_sz (f := f') (ps := ps)
    refine ⟨_, rfl, a, _, 0, _, rfl, rfl, SqT.of ha, rfl, ?_⟩
    refine ⟨_, rfl, rfl, _, rfl, ifF s_fn ?_⟩
    refine ⟨_, rfl, rfl, _, rfl, ifT rfl ?_⟩
    refine ⟨_, rfl, _, rfl, a, _, 1, _, rfl, rfl, SqT.of ha, rfl, ?_⟩
    refine ⟨_, rfl, a, _, 2, _, rfl, rfl, SqT.of ha, rfl, b, rfl, ⟨_, SqT.of hb⟩, fun D hD => ?_⟩
    cases ht with
    | form t1 t2 =>
      refine lc_map walk_tup ((ps.map fun p => (figs lv p.1.length, ren (bindN ν p.1 lv) (lv + p.1.length) p.2)).map encP) hD (smallL (by omega)) (by simp [hl]) (fun H1 l => SqT.of (l.tup _ _ hb)) (fun i x d H1 H2 hi hdi l y k1 hk1 => ?_) fun acc H1 l hacc hds => ?_
      · obtain ⟨rfl, ex⟩ := y
        obtain ⟨p, a1, b1, y1, ep, rfl, ha1, hb1, hy1⟩ := part_at (hw.mono l.tup) ex
        have hp : p ∈ ps := get_mem ep
        have s1 := dp_sub (f := f') hp
        have s2 := sz_sub (f := f') hp
        refine ⟨a1, _, rfl, SqT.of ha1, rfl, _, _, rfl, _, _, rfl, rfl, rfl, _, rfl, _, rfl, _, rfl, _, rfl, ?_⟩
        refine ⟨b1, y1, c, p.1, p.2, kvs, ν, lv, free (.form f' ps), rfl, hb1, t1 p hp, hy1, l.rest _ _ (fun z => z) hc, hk, free_part hp, t2 p hp, by omega, by omega, by omega, by omega, fun v' H' l' hv' => hk1 _ _ l' ?_⟩
        rw [List.getElem?_map, List.getElem?_map, ep] at hdi
        cases hdi
        exact hv'
      · refine ⟨D, acc, rfl, SqL.of hacc, fun p hp => ⟨z3, fun p2 hp2 => ?_⟩⟩
        refine q _ _ ((l.trans (Le.new hp _)).trans (Le.new hp2 _)) ?_
        rw [ren_form]
        exact dt_form.mpr ⟨p2, p, acc, rfl, upd_same, by rw [upd_ne (ne_of_none upd_same hp2)]; exact upd_same, (hds.mono (Tu.new hp _)).mono (Tu.new hp2 _)⟩
theorem ok_part_called_by {n : Nat} (F : Fun K "part_called_by" "part_called_by" s_part_called_by f fd) (B : Bt mg) (c_called_by : Cal P w K mg base (2 * n) "called_by" ["term", "calls", "deep"] (spCB n)) :
    FnOk P w K mg base CX0 (2 * n + 1) f fd ["names", "inner", "calls", "deep"] (spPCB n) := by
  refine F.ok sc_part_called_by (fun vs H Q E h => by obtain ⟨b, v, c, bs, t, kvs, ν, lv, S, rfl, _⟩ := h; rfl) (fun cdv A outer s H vs Q E hr h => ?_)
  obtain ⟨b, v, c, bs, t, kvs, ν, lv, S, rfl, hb, hbs, hv, hc, hk, hs, ht, hd, hlv, hsz, hkl, q⟩ := h
  have hu := hu_of hr
  refine ⟨_, (pss_cons (ps_set (i := 4) sc_part_called_by.nd rfl (by first | exact Or.inl rfl | exact Or.inr rfl) (pe_callTy (tupQ (K := K) rfl) (by rfl) B.tuple bv_tuple (pa_cons (pe_lc (own := [("at", 6)]) rfl sc_part_called_by.nd (pi_range1 (by rfl) B.range (pa_cons (pe_callB (lenQ (K := K) rfl) (by rfl) B.len bv_len (pa_cons (pv 0) pa_nil)) pa_nil)) (blkOk_by (own := [("at", 6)]) (N := N_part_called_by) (sc := defScope s_part_called_by) (by decide +kernel)) (fun _ _ _ _ _ => pg_name (i := 6) sc_part_called_by.nd rfl (by first | exact Or.inl rfl | exact Or.inr rfl)) (fun _ _ _ _ _ => pts_nil) (fun _ _ _ _ _ => pe_callTy call_str_int (by rfl) B.str bv_str (pa_cons (pe_op op_add (pv 3) (pv 6)) pa_nil))) pa_nil)))
  (pss_cons (ps_set (i := 5) sc_part_called_by.nd rfl (by first | exact Or.inl rfl | exact Or.inr rfl) (pe_callTy call_dictD (by rfl) B.dict bv_dict (pa_cons (pv 2) pa_nil)))
  (pss_cons (ps_expr (pe_bm PySem.F.plainAttrs_dict PySem.F.slot_dict_update PySem.F.type_dict_update (mt_upd rfl) (pv 5) (pa_cons (pe_callTy (dictP (K := K) rfl rfl) (by rfl) B.dict bv_dict (pa_cons (pe_lc (own := [("name", 7), ("call", 8)]) rfl sc_part_called_by.nd (zpQ (K := K) rfl (by rfl) B.zip (pa_cons (pv 0) (pa_cons (pv 4) pa_nil))) (blkOk_by (own := [("name", 7), ("call", 8)]) (N := N_part_called_by) (sc := defScope s_part_called_by) (by decide +kernel)) (fun _ _ _ _ _ => pgT (K := K) (n := 2) rfl rfl (pgs_cons (pg_name (i := 7) sc_part_called_by.nd rfl (by first | exact Or.inl rfl | exact Or.inr rfl)) (pgs_cons (pg_name (i := 8) sc_part_called_by.nd rfl (by first | exact Or.inl rfl | exact Or.inr rfl)) pgs_nil))) (fun _ _ _ _ _ => pts_nil) (fun _ _ _ _ _ => pe_tup (pa_cons (pv 7) (pa_cons (pv 8) pa_nil)))) pa_nil)) pa_nil)))
  (pss_one (ps_ret (pe_tup (pa_cons (pv 4) (pa_cons (pe_cal c_called_by (hr.mono (by omega)) (by rfl) (pa_cons (pv 1) (pa_cons (pv 5) (pa_cons (pe_op op_add (pv 3) (pe_callB (lenQ (K := K) rfl) (by rfl) B.len bv_len (pa_cons (pv 0) pa_nil))) pa_nil)))) pa_nil)))))))), ?_⟩
  have hlb : (bs.map V.str).length = bs.length := List.length_map _
  refine ⟨_, rfl, b, _, rfl, .inr (SqT.of hb), ((bs.map V.str).length : Int), rfl, by omega, by omega, fun D hD => ?_⟩
  rw [Int.toNat_natCast, hlb]
  refine lc_map walk_range ((figs lv bs.length).map strD) hD (smallL (by omega)) (by simp [figs_length]) (fun _ _ => trivial) (fun i x d H1 H2 hi hdi l y k1 hk1 => ?_) fun acc H1 l1 hacc hds => ?_
  · obtain ⟨rfl, rfl⟩ := y
    refine ⟨rfl, _, rfl, _, rfl, _, _, rfl, rfl, _, rfl, nat_log (by omega) (by omega), hk1 _ _ (Le.refl _) ?_⟩
    rw [List.getElem?_map, figs_get hi] at hdi
    cases hdi
    rw [show (lv : Int) + (0 + (i : Int)) = ((lv + i : Nat) : Int) by omega]
    exact Dv.str
  rw [dva_strs] at hds
  subst hds
  refine ⟨D, _, rfl, SqL.of hacc, fun o ho => ?_⟩
  have l2 := l1.trans (Le.new (M := noM) ho (.tup ((figs lv bs.length).map V.str)))
  have ho2 : upd H1 o (.tup ((figs lv bs.length).map V.str)) o = some (.tup ((figs lv bs.length).map V.str)) := upd_same
  generalize upd H1 o (.tup ((figs lv bs.length).map V.str)) = H2 at l2 ho2
  refine ⟨_, rfl, c, kvs, rfl, .inl (l2.rest _ _ (fun z => z) hc), fun u hu' => ?_⟩
  have l3 := l2.trans (Le.new (M := noM) hu' (.dK kvs))
  have ho3 : upd H2 u (.dK kvs) o = some (.tup ((figs lv bs.length).map V.str)) := by rw [upd_ne (ne_of_none ho2 hu')]; exact ho2
  have hu3 : upd H2 u (.dK kvs) u = some (.dK kvs) := upd_same
  have nu : H u = none := l2.nil hu'
  have uo : o ≠ u := ne_of_none ho2 hu'
  generalize upd H2 u (.dK kvs) = H3 at l3 ho3 hu3
  have hb3 := l3.tup _ _ hb
  refine ⟨_, rfl, .inr (.inr (.inl ⟨rfl, .inl ⟨_, hu3⟩⟩)), ?_⟩
  refine ⟨_, rfl, _, rfl, b, o, _, _, rfl, .inr ⟨SqT.of hb3, SqT.of ho3, fun D2 hD2 => ?_⟩⟩
  refine lc_map (walk_zipT (n := bs.length) hlb (by simp [figs_length])) ((bs.zip ((figs lv bs.length).map strD)).map fun p => PyData.tuple [.str p.1, p.2]) hD2 (smallL (by omega)) (by simp [figs_length]) (fun H4 l => ⟨SqT.of (l.tup _ _ hb3), SqT.of (l.tup _ _ ho3)⟩) (fun i x d H4 H5 hi hdi l y k1 hk1 => ?_) fun acc H4 l4 hacc4 hds4 => ?_
  · obtain ⟨T, x1, x2, rfl, hT, rfl, e1, e2⟩ := y
    refine ⟨T, _, rfl, SqT.of upd_same, rfl, _, _, rfl, _, _, rfl, rfl, rfl, _, rfl, _, rfl, z2, fun p hp => ?_⟩
    refine hk1 _ _ ((Le.new hT _).trans (Le.new hp _)) ?_
    obtain ⟨bb, hbb⟩ := get_ex (l := bs) hi
    simp only [List.getElem?_map, hbb, figs_get hi, Option.map_some, Option.some.injEq] at e1 e2
    subst e1 e2
    have : d = .tuple [.str bb, .str (fig (lv + i))] := by
      rw [List.getElem?_map] at hdi
      obtain ⟨pp, epp, rfl⟩ := Option.map_eq_some_iff.mp hdi
      rw [List.getElem?_zip_eq_some, hbb, List.getElem?_map, figs_get hi] at epp
      obtain ⟨z1, z2⟩ := epp
      rw [← Option.some.inj z1, ← Option.some.inj z2]
    rw [this]
    exact Dv.mk hp (.cons Dv.str (.cons Dv.str .nil))
  obtain ⟨as, ws, rfl, la, lw, dw, pw⟩ := dv_prs (K := K) (by simp [figs_length]) hds4
  rw [dva_strs] at dw
  subst dw
  refine ⟨D2, as, _, rfl, SqL.of hacc4, pw, fun m hm => ?_⟩
  have l5 := l4.trans (Le.new (M := noM) hm (.dK (mergeK [] (prs bs ((figs lv bs.length).map V.str)))))
  have hm5 : upd H4 m (.dK (mergeK [] (prs bs ((figs lv bs.length).map V.str)))) m = some (.dK (mergeK [] (prs bs ((figs lv bs.length).map V.str)))) := upd_same
  have mu : m ≠ u := fun e => by rw [e, l4.rest _ _ (fun z => z) hu3] at hm; cases hm
  generalize upd H4 m (.dK (mergeK [] (prs bs ((figs lv bs.length).map V.str)))) = H5 at l5 hm5
  have hu5 := l5.rest _ _ (fun z => z) hu3
  have lpr : (prs bs ((figs lv bs.length).map V.str)).length = bs.length := prs_length (by simp [figs_length])
  have lmr := length_mergeK (prs bs ((figs lv bs.length).map V.str)) []
  rw [lpr, List.length_nil, Nat.zero_add] at lmr
  have lm2 := length_mergeK (mergeK [] (prs bs ((figs lv bs.length).map V.str))) kvs
  refine ⟨u, kvs, rfl, hu5, .inl ⟨m, _, rfl, mu, .inl hm5, small (by omega), ?_⟩⟩
  have l6 : Le0 H (upd H5 u (.dK (mergeK kvs (mergeK [] (prs bs ((figs lv bs.length).map V.str)))))) := (l3.trans l5).chg nu _
  have ho6 : upd H5 u (.dK (mergeK kvs (mergeK [] (prs bs ((figs lv bs.length).map V.str))))) o = some (.tup ((figs lv bs.length).map V.str)) := by rw [upd_ne uo]; exact l5.tup _ _ ho3
  have hu6 : upd H5 u (.dK (mergeK kvs (mergeK [] (prs bs ((figs lv bs.length).map V.str))))) u = some (.dK (mergeK kvs (mergeK [] (prs bs ((figs lv bs.length).map V.str))))) := upd_same
  generalize upd H5 u (.dK (mergeK kvs (mergeK [] (prs bs ((figs lv bs.length).map V.str))))) = H6 at l6 ho6 hu6
  refine ⟨_, rfl, _, rfl, _, rfl, _, rfl, _, rfl, b, _, rfl, .inr (SqT.of (l6.tup _ _ hb)), _, _, rfl, rfl, ?_⟩
  refine ⟨v, u, t, _, bindN ν bs lv, lv + bs.length, (by show [v, V.ref u, V.int ((lv : Int) + ((bs.map V.str).length : Nat))] = _; rw [hlb]; rfl), hv.mono l6.tup, hu6, hk.bind (figs_length _ _).symm hs, ht, hd, by omega, hsz, by omega, fun v' H' l' hv' => ⟨z2, fun p hp => ?_⟩⟩
  exact q _ _ ((l6.trans l').trans (Le.new hp _)) (Dv.mk hp (.cons (Dv.tup (l'.tup _ _ ho6) (dva_strs.mpr rfl)) (.cons hv' .nil)))
theorem none_cb : FnOk P w K mg base CX0 0 f fd ["term", "calls", "deep"] (spCB 0) := by
  have no : ∀ vs H Q E, ¬ spCB 0 vs H Q E := fun vs H Q E h => by
    obtain ⟨v, c, t, kvs, ν, lv, _, _, _, _, _, h, _⟩ := h
    have := dp_pos t; omega
  exact ⟨fun vs H Q E h => absurd h (no vs H Q E), fun A outer s H args us vs Q E _ _ _ _ h => absurd h (no vs H Q E)⟩
theorem cal_called (D1 : Df K mg "called_by" s_called_by ["term", "calls", "deep"]) (D2 : Df K mg "part_called_by" s_part_called_by ["names", "inner", "calls", "deep"]) (B : Bt mg) : ∀ n : Nat,
    Cal P w K mg base (2 * n) "called_by" ["term", "calls", "deep"] (spCB n) ∧ Cal P w K mg base (2 * n + 1) "part_called_by" ["names", "inner", "calls", "deep"] (spPCB n)
  | 0 => by
    have c0 := D1.cal (P := P) (w := w) (base := base) fun f fd F => none_cb
    exact ⟨c0, D2.cal fun f fd F => ok_part_called_by F B c0⟩
  | n + 1 => by
    obtain ⟨a, b⟩ := cal_called D1 D2 B n
    have c := D1.cal fun f fd F => ok_called_by F B a b
    exact ⟨c, D2.cal fun f fd F => ok_part_called_by F B c⟩
end
end Nh
/-! ## NhP3 -/
set_option maxHeartbeats 4000000
namespace Nh
open PySem PySem.Spec PyProof.Rows L2
theorem Calls.mk {ν : Str → Str} {S bs cs : List Str} (hl : bs.length = cs.length) (hs : ∀ x ∈ S, x ∈ bs) : Calls (mergeK [] (prs bs (cs.map V.str))) (updF ν (bs.zip cs)) S := by
  intro x hx
  rw [valV_prs]
  refine updF_rel (fun (a : Option V) (c : Str) => a = some (.str c)) bs ((cs.map V.str).map some) cs (by simp [hl]) hl.symm (fun i a c e1 e2 => ?_) _ _ x (.inl (hs x hx))
  rw [List.getElem?_map, List.getElem?_map, e2] at e1
  exact (Option.some.inj e1).symm
theorem pigeon : ∀ {ks L : List Str}, ks.Nodup → (∀ x ∈ ks, x ∈ L) → ks.length ≤ L.length
  | [], _, _, _ => Nat.zero_le _
  | k :: ks, L, hn, h => by
    obtain ⟨h1, h2⟩ := List.nodup_cons.mp hn
    have hk := h k List.mem_cons_self
    have q := pigeon (L := L.erase k) h2 fun x hx => (List.mem_erase_of_ne fun e => h1 (by rw [← e]; exact hx)).mpr (h x (List.mem_cons_of_mem _ hx))
    rw [List.length_erase_of_mem hk] at q
    have := List.length_pos_of_mem hk
    rw [List.length_cons]; omega
theorem free_len : ∀ t : Tm, (free t).length ≤ sz t := by
  refine Tm.ind (fun x => ?_) (fun h xs => ?_) (fun f ps ih => ?_)
  · rw [free_name, sz_name]; exact Nat.le_refl _
  · rw [free_hole, sz_hole]; omega
  · rw [free_form, sz_form, List.length_flatMap]
    have : ∀ ps : List (List Str × Tm), (∀ p ∈ ps, (free p.2).length ≤ sz p.2) → (ps.map fun p => ((free p.2).filter fun x => decide (x ∉ p.1)).length).sum ≤ (ps.map fun p => sz p.2).sum := by
      intro ps
      induction ps with
      | nil => intro _; exact Nat.le_refl _
      | cons p r ihr =>
        intro h
        rw [List.map_cons, List.map_cons, List.sum_cons, List.sum_cons]
        have h1 := h p List.mem_cons_self
        have h2 := ihr fun q hq => h q (List.mem_cons_of_mem _ hq)
        have h3 := List.length_filter_le (fun x => decide (x ∉ p.1)) (free p.2)
        omega
    have := this ps ih
    omega
theorem inV_strs (x : Str) : ∀ bs : List Str, inV (.str x) (bs.map V.str) = decide (x ∈ bs)
  | [] => rfl
  | b :: bs => by
    have ih := inV_strs x bs
    unfold inV at ih ⊢
    rw [List.map_cons, List.any_cons, ih]
    have e : eqV (.str b) (.str x) = decide (b = x) := rfl
    rw [e]
    by_cases h : b = x
    · subst h; simp
    · simp [h, Ne.symm h]
theorem flat_strs (bs : List Str) : (bs.map V.str).all flatV = true := by rw [List.all_map]; exact List.all_eq_true.mpr fun x _ => rfl
/-- what was made since, and changed, is new -/
theorem Le.back {H H1 H2 : Hp} {D : Addr} (a : Le0 H H1) (b : Le (fun p => p = D) H1 H2) (h : H D = none) : Le0 H H2 :=
  ⟨fun p xs q => b.tup p xs (a.tup p xs q), fun p o n q => b.rest p o (fun e => by rw [e, h] at q; cases q) (a.rest p o n q), fun p q => b.dom p (a.dom p q)⟩
/-- what stands straight within -/
def subs : Tm → List (List Str × Tm)
  | .name _ => []
  | .hole _ xs => xs.map fun x => ([], .name x)
  | .form _ ps => ps
theorem free_subs {t : Tm} (h : ∀ y, t ≠ .name y) (x : Str) : x ∈ free t ↔ ∃ p ∈ subs t, x ∈ free p.2 ∧ x ∉ p.1 := by
  cases t with
  | name y => exact absurd rfl (h y)
  | hole h' xs =>
    rw [free_hole]
    refine ⟨fun hx => ⟨([], .name x), List.mem_map.mpr ⟨x, hx, rfl⟩, by rw [free_name]; exact List.mem_cons_self, List.not_mem_nil⟩, fun ⟨p, hp, hx, _⟩ => ?_⟩
    obtain ⟨y, hy, rfl⟩ := List.mem_map.mp hp
    rw [free_name, List.mem_singleton] at hx
    subst hx; exact hy
  | form f ps => exact mem_free_form
theorem dp_subs {t : Tm} {p : List Str × Tm} (h : p ∈ subs t) : dp p.2 + 1 ≤ dp t := by
  cases t with
  | name y => cases h
  | hole h' xs =>
    obtain ⟨x, hx, rfl⟩ := List.mem_map.mp h
    rw [dp_hole, dp_name]
    have : 1 ≤ maxs (xs.map fun _ => 1) := le_maxs (List.mem_map.mpr ⟨x, hx, rfl⟩)
    omega
  | form f ps => exact dp_sub h
theorem sz_subs {t : Tm} {p : List Str × Tm} (h : p ∈ subs t) : sz p.2 + 1 ≤ sz t := by
  cases t with
  | name y => cases h
  | hole h' xs =>
    obtain ⟨x, hx, rfl⟩ := List.mem_map.mp h
    rw [sz_hole, sz_name]
    have := List.length_pos_of_mem hx
    omega
  | form f ps => exact sz_sub h
theorem len_subs (t : Tm) : (subs t).length ≤ sz t := by
  cases t with
  | name y => exact Nat.zero_le _
  | hole h' xs => rw [sz_hole]; show (xs.map _).length ≤ _; rw [List.length_map]; omega
  | form f ps => have := len_sz (f := f) (ps := ps); show ps.length ≤ _; omega
/-- a list of pairs (names, term) that has just come -/
def spWithin : Sp := fun vs H Q _ => ∃ (v : V) (t : Tm), vs = [v] ∧ Dv H (encT t) v ∧ sz t ≤ 1000 ∧ ∀ l acc H', Le0 H H' → H l = none → H' l = some (.lst acc) → DvA H' ((subs t).map encP) acc → Q (.ref l) H'
def spNamesOf (n : Nat) : Sp := fun vs H Q _ => ∃ (v : V) (t : Tm), vs = [v] ∧ Dv H (encT t) v ∧ dp t ≤ n ∧ sz t ≤ 1000 ∧
  ∀ a (kvs : List (Key × V)) (ks : List Str) H', Le0 H H' → H a = none → H' a = some (.dK kvs) → kvs.map (·.1) = ks.map Sum.inr → ks.Nodup → (∀ x, x ∈ ks ↔ x ∈ free t) → Q (.ref a) H'
def spFreeNames (n : Nat) : Sp := fun vs H Q _ => ∃ (v : V) (t : Tm) (L : List Str), vs = [v] ∧ Dv H (encT t) v ∧ dp t ≤ n ∧ sz t ≤ 1000 ∧ L.length < 64 ∧ (∀ x ∈ free t, x ∈ L) ∧
  ∀ a (ys : List Str) H', Le0 H H' → H a = none → H' a = some (.lst (ys.map V.str)) → (∀ x, x ∈ ys ↔ x ∈ free t) → ys.length < 64 → Q (.ref a) H'
def spNeat (n : Nat) : Sp := fun vs H Q _ => ∃ (b : Addr) (v : V) (bs : List Str) (t : Tm), vs = [.ref b, v] ∧ H b = some (.tup (bs.map V.str)) ∧ Dv H (encT t) v ∧ (∀ x ∈ free t, x ∈ bs) ∧ Thin t ∧ dp t ≤ n ∧ bs.length ≤ 600 ∧ dp t ≤ 100 ∧ sz t ≤ 1000 ∧
  ∀ v' H', Le0 H H' → Dv H' (encT (neatT bs t)) v' → Q v' H'
section
variable {P : Program} {w : World} {K : PySem.W.Frag} {mg : Str → Option Value} {base : Heap} {f : Addr} {fd : FuncData}
abbrev N_neat : List Str := ["names", "term", "calls", "at", "name"]
theorem sc_neat : FnScope N_neat ["names", "term"] (defScope s_neat) := ⟨rfl, rfl, rfl, by decide +kernel, rfl, by decide +kernel, by decide +kernel⟩
abbrev N_straight_within : List Str := ["term", "one"]
theorem sc_straight_within : FnScope N_straight_within ["term"] (defScope s_straight_within) := ⟨rfl, rfl, rfl, by decide +kernel, rfl, by decide +kernel, by decide +kernel⟩
abbrev N_names_of : List Str := ["term", "told", "bound", "inner", "name"]
theorem sc_names_of : FnScope N_names_of ["term"] (defScope s_names_of) := ⟨rfl, rfl, rfl, by decide +kernel, rfl, by decide +kernel, by decide +kernel⟩
abbrev N_free_names : List Str := ["term"]
theorem sc_free_names : FnScope N_free_names ["term"] (defScope s_free_names) := ⟨rfl, rfl, rfl, by decide +kernel, rfl, by decide +kernel, by decide +kernel⟩
theorem ok_within (F : Fun K "straight_within" "straight_within" s_straight_within f fd) (B : Bt mg) : FnOk P w K mg base CX0 1 f fd ["term"] spWithin := by
  refine F.ok sc_straight_within (fun vs H Q E h => by obtain ⟨v, t, rfl, _⟩ := h; rfl) (fun cdv A outer s H vs Q E hr h => ?_)
  obtain ⟨v, t, rfl, hv, hsz, q⟩ := h
  refine ⟨_, (pss_cons (ps_if (pt_cmpR op_eq (pe_ix (ixT (K := K) rfl) (pv 0) (pe_int) (fun _ _ => rfl)) (pe_str) (nomark _)) (pss_one (ps_ret (pe_callTy (lstQ (K := K) rfl) (by rfl) B.list bv_list (pa_cons (pe_ix (ixT (K := K) rfl) (pv 0) (pe_int) (fun _ _ => rfl)) pa_nil)))) pss_nil)
  (pss_cons (ps_if (pt_cmpR op_eq (pe_ix (ixT (K := K) rfl) (pv 0) (pe_int) (fun _ _ => rfl)) (pe_str) (nomark _)) (pss_one (ps_ret (pe_lc (own := [("one", 1)]) rfl sc_straight_within.nd (piT (K := K) rfl (pe_ix (ixT (K := K) rfl) (pv 0) (pe_int) (fun _ _ => rfl))) (blkOk_by (own := [("one", 1)]) (N := N_straight_within) (sc := defScope s_straight_within) (by decide +kernel)) (fun _ _ _ _ _ => pg_name (i := 1) sc_straight_within.nd rfl (by first | exact Or.inl rfl | exact Or.inr rfl)) (fun _ _ _ _ _ => pts_nil) (fun _ _ _ _ _ => pe_tup (pa_cons (pe_tup pa_nil) (pa_cons (pv 1) pa_nil)))))) pss_nil)
  (pss_cons (ps_if (pt_cmpR op_eq (pe_ix (ixT (K := K) rfl) (pv 0) (pe_int) (fun _ _ => rfl)) (pe_str) (nomark _)) pss_never pss_nil)
  (pss_one (ps_ret (pe_lst pa_nil)))))), ?_⟩
  cases t with
  | name x =>
    obtain ⟨a, rfl, ha⟩ := dt_name.mp hv
    refine ⟨_, rfl, a, _, 0, _, rfl, rfl, SqT.of ha, rfl, rfl, _, rfl, ifF s_nf ?_⟩
    refine ⟨_, rfl, a, _, 0, _, rfl, rfl, SqT.of ha, rfl, rfl, _, rfl, ifF s_nh ?_⟩
    refine ⟨_, rfl, a, _, 0, _, rfl, rfl, SqT.of ha, rfl, rfl, _, rfl, ifF s_nl ⟨z0, fun p hp => ?_⟩⟩
    exact q p [] _ (Le.new hp _) hp upd_same .nil
  | hole h' xs =>
    obtain ⟨a, b, ws, rfl, ha, hb, hw⟩ := dt_hole.mp hv
    have hl := hw.length
    rw [List.length_map] at hl
    rw [sz_hole] at hsz
    refine ⟨_, rfl, a, _, 0, _, rfl, rfl, SqT.of ha, rfl, rfl, _, rfl, ifF s_hf ?_⟩
    refine ⟨_, rfl, a, _, 0, _, rfl, rfl, SqT.of ha, rfl, rfl, _, rfl, ifT rfl ?_⟩
    refine ⟨_, rfl, a, _, 2, _, rfl, rfl, SqT.of ha, rfl, b, rfl, ⟨_, SqT.of hb⟩, fun D hD => ?_⟩
    refine lc_map walk_tup ((subs (.hole h' xs)).map encP) hD (smallL (by omega)) (by simp [hl, subs]) (fun H1 l => SqT.of (l.tup _ _ hb)) (fun i x d H1 H2 hi hdi l y k1 hk1 => ?_) fun acc H1 l hacc hds => ?_
    · obtain ⟨rfl, ex⟩ := y
      obtain ⟨z, c, ez, rfl, hc⟩ := nm_at (hw.mono l.tup) ex
      refine ⟨rfl, z0, fun p hp => ⟨_, rfl, z2, fun p2 hp2 => hk1 _ _ ((Le.new hp _).trans (Le.new hp2 _)) ?_⟩⟩
      have e : d = .tuple [.tuple [], nameD z] := by
        simp only [subs, List.getElem?_map, ez, Option.map_some, Option.some.injEq] at hdi
        rw [← hdi]
        show PyData.tuple [strsD [], encT (.name z)] = _
        rw [encT_name]; rfl
      rw [e]
      refine Dv.mk hp2 (.cons (Dv.tup upd_same .nil) (.cons ?_ .nil))
      exact dv_nm.mpr ⟨c, rfl, by rw [upd_ne (ne_of_none hc hp)]; exact hc⟩
    · exact q D acc H1 l hD hacc hds
  | form f' ps =>
    obtain ⟨a, b, ws, rfl, ha, hb, hw⟩ := dt_form.mp hv
    refine ⟨_, rfl, a, _, 0, _, rfl, rfl, SqT.of ha, rfl, rfl, _, rfl, ifT rfl ?_⟩
    refine ⟨_, rfl, a, _, 2, _, rfl, rfl, SqT.of ha, rfl, b, _, rfl, .inr (SqT.of hb), fun p hp => ?_⟩
    exact q p ws _ (Le.new hp _) hp upd_same (hw.mono (Tu.new hp _))
theorem ok_names_of {n : Nat} (F : Fun K "names_of" "names_of" s_names_of f fd) (B : Bt mg) (c_straight_within : Cal P w K mg base 1 "straight_within" ["term"] spWithin) (c_names_of : Cal P w K mg base (n + 1) "names_of" ["term"] (spNamesOf n)) :
    FnOk P w K mg base CX0 (n + 2) f fd ["term"] (spNamesOf (n + 1)) := by
  refine F.ok sc_names_of (fun vs H Q E h => by obtain ⟨v, t, rfl, _⟩ := h; rfl) (fun cdv A outer s H vs Q E hr h => ?_)
  obtain ⟨v, t, rfl, hv, hd, hsz, q⟩ := h
  refine ⟨_, (pss_cons (ps_if (pt_cmpR op_eq (pe_ix (ixT (K := K) rfl) (pv 0) (pe_int) (fun _ _ => rfl)) (pe_str) (nomark _)) (pss_one (ps_ret (pe_disp (pps_cons (pe_ix (ixT (K := K) rfl) (pv 0) (pe_int) (fun _ _ => rfl)) (pe_bl) pps_nil) (by rfl) (by rfl) (fun z => by cases z) (by decide)))) pss_nil)
  (pss_cons (ps_set (i := 1) sc_names_of.nd rfl (by first | exact Or.inl rfl | exact Or.inr rfl) (pe_dnewK))
  (pss_cons (ps_for PassesOwn.never rfl (piL (K := K) rfl (pe_cal c_straight_within (hr.mono (by omega)) (by rfl) (pa_cons (pv 0) pa_nil))) (pgT (K := K) (n := 2) rfl rfl (pgs_cons (pg_name (i := 2) sc_names_of.nd rfl (by first | exact Or.inl rfl | exact Or.inr rfl)) (pgs_cons (pg_name (i := 3) sc_names_of.nd rfl (by first | exact Or.inl rfl | exact Or.inr rfl)) pgs_nil))) (pss_one (ps_expr (pe_bm PySem.F.plainAttrs_dict PySem.F.slot_dict_update PySem.F.type_dict_update (mt_upd rfl) (pv 1) (pa_cons (pe_lc (own := [("name", 4)]) rfl sc_names_of.nd (pi_keys (pe_frz (pe_cal c_names_of (hr.mono (by omega)) (by rfl) (pa_cons (pv 3) pa_nil)))) (blkOk_by (own := [("name", 4)]) (N := N_names_of) (sc := defScope s_names_of) (by decide +kernel)) (fun _ _ _ _ _ => pg_name (i := 4) sc_names_of.nd rfl (by first | exact Or.inl rfl | exact Or.inr rfl)) (fun _ _ _ _ _ => pts_one (pt_cmpR (ninQ (K := K) rfl) (pv 4) (pv 2) (by rfl))) (fun _ _ _ _ _ => pe_tup (pa_cons (pv 4) (pa_cons (pe_bl) pa_nil)))) pa_nil)))))
  (pss_one (ps_ret (pv 1)))))), ?_⟩
  by_cases hn : ∃ x, t = .name x
  · obtain ⟨x, rfl⟩ := hn
    obtain ⟨a, rfl, ha⟩ := dt_name.mp hv
    refine ⟨_, rfl, a, _, 0, _, rfl, rfl, SqT.of ha, rfl, rfl, _, rfl, ifT rfl ?_⟩
    intro p hp
    have ha' : upd H p (.dK []) a = some (.tup [.str "name", .str x]) := by rw [upd_ne (ne_of_none ha hp)]; exact ha
    refine ⟨_, rfl, a, _, 1, _, rfl, rfl, SqT.of ha', rfl, upd_same, [(Sum.inr x, .bl true)], rfl, (by show 1 ≤ 15; decide), ?_⟩
    rw [upd_upd]
    exact q p _ [x] _ (Le.new hp _) hp upd_same rfl (List.nodup_cons.mpr ⟨List.not_mem_nil, List.nodup_nil⟩) fun y => by rw [free_name]
  · have hn' : ∀ y, t ≠ .name y := fun y e => hn ⟨y, e⟩
    have hd0 : ∃ a s0 r, v = .ref a ∧ H a = some (.tup (.str s0 :: r)) ∧ ¬ (V.str s0 = V.str "name") := by
      cases t with
      | name y => exact absurd rfl (hn' y)
      | hole h' xs => obtain ⟨a, b, ws, rfl, ha, _⟩ := dt_hole.mp hv; exact ⟨a, _, _, rfl, ha, s_hn⟩
      | form f' ps => obtain ⟨a, b, ws, rfl, ha, _⟩ := dt_form.mp hv; exact ⟨a, _, _, rfl, ha, s_fn⟩
    obtain ⟨a, s0, r0, rfl, ha, hs0⟩ := hd0
    refine ⟨_, rfl, a, _, 0, _, rfl, rfl, SqT.of ha, atI_nat (j := 0) rfl, rfl, _, rfl, ifF hs0 ?_⟩
    intro D hD
    have l1 : Le0 H (upd H D (.dK [])) := Le.new hD _
    have hD1 : upd H D (.dK []) D = some (.dK []) := upd_same
    generalize upd H D (.dK []) = H1 at l1 hD1
    refine ⟨_, rfl, .ref a, t, rfl, hv.mono l1.tup, hsz, fun l acc H2 l2 hl1 hl hacc => ?_⟩
    have hD2 := l2.rest _ _ (fun z => z) hD1
    have hlD : l ≠ D := fun e => by rw [e, hD1] at hl1; cases hl1
    have len := hacc.length
    rw [List.length_map] at len
    have lsub := len_subs t
    refine ⟨l, rfl, ⟨_, SqL.of hl⟩, ?_⟩
    refine for_it walk_list (fun i σ H' => (∃ x y z, σ = [some (.ref a), some (.ref D), x, y, z]) ∧ Le (fun p => p = D) H2 H' ∧ ∃ (kvs : List (Key × V)) (ks : List Str), H' D = some (.dK kvs) ∧ kvs.map (·.1) = ks.map Sum.inr ∧ ks.Nodup ∧ ∀ x, x ∈ ks ↔ ∃ j p, j < i ∧ (subs t)[j]? = some p ∧ x ∈ free p.2 ∧ x ∉ p.1)
      ⟨⟨none, none, none, rfl⟩, Le.refl _, [], [], hD2, rfl, List.nodup_nil, fun x => ⟨fun z => (nomatch z), fun ⟨j, p, z, _⟩ => absurd z (Nat.not_lt_zero j)⟩⟩ (fun i σ H' _ ⟨_, l3, _⟩ => SqL.of (l3.rest _ _ hlD hl)) (fun i x σ H3 H4 hi hP y => ?_) fun σ H' hP => ?_
    · obtain ⟨⟨y1, y2, y3, rfl⟩, l3, kvs, ks, hk1, hk2, hk3, hk4⟩ := hP
      obtain ⟨rfl, ex⟩ := y
      obtain ⟨p, a1, b1, w1, ep, rfl, ha1, hb1, hw1⟩ := part_at (hacc.mono l3.tup) ex
      have hp : p ∈ subs t := get_mem ep
      have d1 := dp_subs hp
      have d2 := sz_subs hp
      refine ⟨a1, _, rfl, SqT.of ha1, rfl, _, _, rfl, _, _, rfl, rfl, ?_⟩
      refine ⟨_, rfl, .inr (.inr (.inl ⟨rfl, .inl ⟨_, hk1⟩⟩)), ?_⟩
      refine ⟨_, rfl, w1, p.2, rfl, hw1, by omega, by omega, fun a2 kvn kn H5 l5 hn5 ha5 hq1 hq2 hq3 => ⟨a2, _, rfl, ha5, True.intro, fun od => ⟨a2, od, rfl, .inl ⟨kvn, upd_same, fun D2 hD2 => ?_⟩⟩⟩⟩
      have lkn : kvn.length = kn.length := by have := congrArg List.length hq1; simpa using this
      have l6 : Le0 H4 (upd H5 a2 (.frz od (.dK kvn))) := l5.chg hn5 _
      have hf6 : upd H5 a2 (.frz od (.dK kvn)) a2 = some (.frz od (.dK kvn)) := upd_same
      generalize upd H5 a2 (.frz od (.dK kvn)) = H6 at l6 hf6 hD2
      have fl := free_len p.2
      have kn1 : kn.length ≤ 1000 := by have := pigeon (L := free p.2) hq2 fun x hx => (hq3 x).mp hx; omega
      have hb6 := l6.tup _ _ hb1
      refine lc_acc walk_keys noM (fun i acc H => DvA H (((kn.take i).filter fun x => decide (x ∉ p.1)).map fun x => PyData.tuple [.str x, .bool true]) acc) hD2 (fun _ z => z.elim) (smallL (by omega)) (fun i acc H H' _ t _ h => h.mono t) .nil (fun i acc H' _ l _ => l.rest _ _ (fun z => z) hf6)
        (fun i x acc2 H7 H8 hi2 l7 _ _ hP2 y2 k1 k0 hk1' hk0' => ?_) fun acc2 H7 l7 hacc7 _ hP2 => ?_
      · obtain ⟨rfl, k, vv, ek, rfl⟩ := y2
        obtain ⟨z, ez⟩ := get_ex (l := kn) (i := i) (by omega)
        have ek' : k = Sum.inr z := by
          have := congrArg (fun l => l[i]?) hq1
          simp only [List.getElem?_map, ek, ez, Option.map_some, Option.some.injEq] at this
          exact this
        subst ek'
        have tk : kn.take (i + 1) = kn.take i ++ [z] := by rw [List.take_add_one, ez]; rfl
        refine ⟨rfl, _, rfl, _, rfl, b1, _, rfl, .inr (SqT.of (l7.tup _ _ hb6)), rfl, flat_strs p.1, _, rfl, ?_⟩
        show if (!inV (.str z) (p.1.map V.str)) = true then _ else _
        rw [inV_strs]
        by_cases hz : z ∈ p.1
        · rw [decide_eq_true hz]
          refine iteF (hk0' _ (Le.refl _) ?_)
          rw [tk, List.filter_append, List.filter_cons_of_neg (by simpa using hz), List.filter_nil, List.append_nil]
          exact hP2
        · rw [decide_eq_false hz]
          refine iteT ⟨_, rfl, z2, fun p2 hp2 => hk1' _ _ (Le.new hp2 _) ?_⟩
          rw [tk, List.filter_append, List.filter_cons_of_pos (by simpa using hz), List.filter_nil, List.map_append]
          refine (hP2.mono (Tu.new hp2 _)).append (.cons (Dv.mk hp2 (.cons Dv.str (.cons ?_ .nil))) .nil)
          unfold Dv; rfl
      · rw [lkn, List.take_length] at hP2
        rw [← zip_self (fun _ => PyData.bool true) (fun p : Str × PyData => PyData.tuple [.str p.1, p.2])] at hP2
        obtain ⟨as, vs, rfl, la, lv, _, pw⟩ := dv_prs (K := K) (by simp) hP2
        have lz := List.length_filter_le (fun x => decide (x ∉ p.1)) kn
        have hkD := l7.rest _ _ (fun z => z) (l6.rest _ _ (fun z => z) hk1)
        have lks : kvs.length = ks.length := by have := congrArg List.length hk2; simpa using this
        have ks1 : ks.length ≤ 1000 := by
          have := pigeon (L := free t) hk3 fun x hx => by
            obtain ⟨j, p, _, e, h1, h2⟩ := (hk4 x).mp hx
            exact (free_subs hn' x).mpr ⟨p, get_mem e, h1, h2⟩
          have := free_len t
          omega
        obtain ⟨ks', e1, e2, e3⟩ := keys_upd hk2 hk3 lv.symm
        refine ⟨D, kvs, rfl, hkD, .inr ⟨D2, as, _, rfl, SqL.of hacc7, pw, small (by omega), ?_⟩⟩
        refine ⟨⟨_, _, _, rfl⟩, ?_, _, ks', upd_same, e1, e2, fun x => ?_⟩
        · exact ((l3.trans l6.any).trans l7.any).mut rfl (fun xs e => by rw [hkD] at e; cases e) _
        · rw [e3, hk4, List.mem_filter, hq3]
          constructor
          · rintro (⟨j, p', hj, h1, h2⟩ | ⟨h1, h2⟩)
            · exact ⟨j, p', Nat.lt_succ_of_lt hj, h1, h2⟩
            · exact ⟨i, p, Nat.lt_succ_self i, ep, h1, of_decide_eq_true h2⟩
          · rintro ⟨j, p', hj, h1, h2, h3⟩
            by_cases hji : j = i
            · subst hji
              rw [ep] at h1; cases h1
              exact .inr ⟨h2, decide_eq_true h3⟩
            · exact .inl ⟨j, p', by omega, h1, h2, h3⟩
    · obtain ⟨⟨y1, y2, y3, rfl⟩, l3, kvs, ks, hk1, hk2, hk3, hk4⟩ := hP
      refine ⟨_, rfl, q D kvs ks H' ((l1.trans l2).back l3 hD) hD hk1 hk2 hk3 fun x => ?_⟩
      rw [hk4, free_subs hn']
      constructor
      · rintro ⟨j, p, _, h1, h2⟩
        exact ⟨p, get_mem h1, h2⟩
      · rintro ⟨p, hp, h2⟩
        obtain ⟨j, hj, e⟩ := mem_get hp
        exact ⟨j, p, by omega, e, h2⟩
theorem ok_free_names {n : Nat} (F : Fun K "free_names" "free_names" s_free_names f fd) (B : Bt mg) (c_names_of : Cal P w K mg base (n + 1) "names_of" ["term"] (spNamesOf n)) :
    FnOk P w K mg base CX0 (n + 2) f fd ["term"] (spFreeNames n) := by
  refine F.ok sc_free_names (fun vs H Q E h => by obtain ⟨v, t, L, rfl, _⟩ := h; rfl) (fun cdv A outer s H vs Q E hr h => ?_)
  obtain ⟨v, t, L, rfl, hv, hd, hsz, hL1, hL2, q⟩ := h
  refine ⟨_, (pss_one (ps_ret (pe_callB (call_sortedD rfl) (by rfl) B.sorted bv_sorted (pa_cons (pe_cal c_names_of (hr.mono (by omega)) (by rfl) (pa_cons (pv 0) pa_nil)) pa_nil)))), ?_⟩
  refine ⟨_, rfl, v, t, rfl, hv, hd, hsz, fun a kvs ks H' l hn ha h1 h2 h3 => ?_⟩
  have lk := pigeon h2 fun x hx => hL2 x ((h3 x).mp hx)
  refine ⟨a, kvs, ks, rfl, .inl ha, h1, by omega, fun ys p hp _ hnp => ?_⟩
  refine q p ys _ (l.trans (Le.new hnp _)) (l.nil hnp) upd_same (fun x => ?_) (by rw [hp.length_eq]; omega)
  rw [hp.mem_iff, h3]
theorem ok_neat {n : Nat} (F : Fun K "neat" "neat" s_neat f fd) (B : Bt mg) (c_called_by : Cal P w K mg base (2 * n) "called_by" ["term", "calls", "deep"] (spCB n)) :
    FnOk P w K mg base CX0 (2 * n + 1) f fd ["names", "term"] (spNeat n) := by
  refine F.ok sc_neat (fun vs H Q E h => by obtain ⟨b, v, bs, t, rfl, _⟩ := h; rfl) (fun cdv A outer s H vs Q E hr h => ?_)
  obtain ⟨b, v, bs, t, rfl, hb, hv, hf, ht, hd, hbs, hd2, hsz, q⟩ := h
  refine ⟨_, (pss_cons (ps_set (i := 2) sc_neat.nd rfl (by first | exact Or.inl rfl | exact Or.inr rfl) (pe_callTy (dictP (K := K) rfl rfl) (by rfl) B.dict bv_dict (pa_cons (pe_lc (own := [("at", 3), ("name", 4)]) rfl sc_neat.nd (enT (K := K) rfl (by rfl) B.enumerate (pa_cons (pv 0) pa_nil)) (blkOk_by (own := [("at", 3), ("name", 4)]) (N := N_neat) (sc := defScope s_neat) (by decide +kernel)) (fun _ _ _ _ _ => pgT (K := K) (n := 2) rfl rfl (pgs_cons (pg_name (i := 3) sc_neat.nd rfl (by first | exact Or.inl rfl | exact Or.inr rfl)) (pgs_cons (pg_name (i := 4) sc_neat.nd rfl (by first | exact Or.inl rfl | exact Or.inr rfl)) pgs_nil))) (fun _ _ _ _ _ => pts_nil) (fun _ _ _ _ _ => pe_tup (pa_cons (pv 4) (pa_cons (pe_callTy call_str_int (by rfl) B.str bv_str (pa_cons (pv 3) pa_nil)) pa_nil)))) pa_nil)))
  (pss_one (ps_ret (pe_cal c_called_by (hr.mono (by omega)) (by rfl) (pa_cons (pv 1) (pa_cons (pv 2) (pa_cons (pe_callB (lenQ (K := K) rfl) (by rfl) B.len bv_len (pa_cons (pv 0) pa_nil)) pa_nil))))))), ?_⟩
  have hlb : (bs.map V.str).length = bs.length := List.length_map _
  refine ⟨_, rfl, b, _, rfl, SqT.of hb, fun D hD => ?_⟩
  refine lc_map walk_enumT ((bs.zip ((figs 0 bs.length).map strD)).map fun p => PyData.tuple [.str p.1, p.2]) hD (smallL (by omega)) (by simp [figs_length]) (fun H4 l => SqT.of (l.tup _ _ hb)) (fun i x d H4 H5 hi hdi l y k1 hk1 => ?_) fun acc H4 l4 hacc4 hds4 => ?_
  · obtain ⟨T, x1, x2, rfl, hT, rfl, e1, e2⟩ := y
    have hi' : i < bs.length := by omega
    refine ⟨T, _, rfl, SqT.of upd_same, rfl, _, _, rfl, _, _, rfl, rfl, rfl, _, rfl, _, rfl, ?_⟩
    cases e1
    refine ⟨_, rfl, nat_log (by omega) (by omega), z2, fun p hp => ?_⟩
    refine hk1 _ _ ((Le.new hT _).trans (Le.new hp _)) ?_
    obtain ⟨bb, hbb⟩ := get_ex (l := bs) hi'
    simp only [List.getElem?_map, hbb, Option.map_some, Option.some.injEq] at e2
    subst e2
    have : d = .tuple [.str bb, .str (fig i)] := by
      rw [List.getElem?_map] at hdi
      obtain ⟨pp, epp, rfl⟩ := Option.map_eq_some_iff.mp hdi
      rw [List.getElem?_zip_eq_some, hbb, List.getElem?_map, figs_get hi', Nat.zero_add] at epp
      obtain ⟨z1, z2⟩ := epp
      rw [← Option.some.inj z1, ← Option.some.inj z2]
    rw [this]
    exact Dv.mk hp (.cons Dv.str (.cons Dv.str .nil))
  obtain ⟨as, ws, rfl, la, lw, dw, pw⟩ := dv_prs (K := K) (by simp [figs_length]) hds4
  rw [dva_strs] at dw
  subst dw
  refine ⟨D, as, _, rfl, SqL.of hacc4, pw, fun m hm => ?_⟩
  have l5 := l4.trans (Le.new (M := noM) hm (.dK (mergeK [] (prs bs ((figs 0 bs.length).map V.str)))))
  have hm5 : upd H4 m (.dK (mergeK [] (prs bs ((figs 0 bs.length).map V.str)))) m = some (.dK (mergeK [] (prs bs ((figs 0 bs.length).map V.str)))) := upd_same
  generalize upd H4 m (.dK (mergeK [] (prs bs ((figs 0 bs.length).map V.str)))) = H5 at l5 hm5
  have lpr : (prs bs ((figs 0 bs.length).map V.str)).length = bs.length := prs_length (by simp [figs_length])
  have lmr := length_mergeK (prs bs ((figs 0 bs.length).map V.str)) []
  rw [lpr, List.length_nil, Nat.zero_add] at lmr
  refine ⟨_, rfl, _, rfl, _, rfl, b, _, rfl, .inr (SqT.of (l5.tup _ _ hb)), ?_⟩
  refine ⟨v, m, t, _, bindN (fun x => x) bs 0, bs.length, (by show [v, V.ref m, V.int (((bs.map V.str).length : Nat) : Int)] = _; rw [hlb]), hv.mono l5.tup, hm5, Calls.mk (figs_length _ _).symm hf, ht, hd, by omega, hsz, by omega, fun v' H' l' hv' => ?_⟩
  exact q _ _ (l5.trans l') hv'
end
end Nh
/-! ## NhR5 -/
namespace Nh
open PySem PySem.Spec PyProof.Rows L2

/-! ### data of ints, texts, tuples and lists: == is equality -/
mutual
def pd : PyData → Bool
  | .int _ => true
  | .str _ => true
  | .tuple xs => pdA xs
  | .list xs => pdA xs
  | .none => false
  | .bool _ => false
  | .dict _ => false
def pdA : List PyData → Bool
  | [] => true
  | x :: xs => pd x && pdA xs
end
theorem pd_int (i : Int) : pd (.int i) = true := by unfold pd; rfl
theorem pd_str (x : Str) : pd (.str x) = true := by unfold pd; rfl
theorem pd_tup (xs : List PyData) : pd (.tuple xs) = pdA xs := by conv => lhs; unfold pd
theorem pd_lst (xs : List PyData) : pd (.list xs) = pdA xs := by conv => lhs; unfold pd
theorem pdA_iff : ∀ {xs : List PyData}, pdA xs = true ↔ ∀ x ∈ xs, pd x = true
  | [] => by unfold pdA; simp
  | x :: xs => by
    unfold pdA
    rw [Bool.and_eq_true, pdA_iff]
    simp
mutual
theorem pd_plain : ∀ d : PyData, pd d = true → d.plain = true
  | .int _, _ => rfl
  | .str _, _ => rfl
  | .tuple xs, h => by rw [pd_tup] at h; show PyData.plainAll xs = true; exact pdA_plain xs h
  | .list xs, h => by rw [pd_lst] at h; show PyData.plainAll xs = true; exact pdA_plain xs h
  | .none, h => by unfold pd at h; cases h
  | .bool _, h => by unfold pd at h; cases h
  | .dict _, h => by unfold pd at h; cases h
theorem pdA_plain : ∀ xs : List PyData, pdA xs = true → PyData.plainAll xs = true
  | [], _ => rfl
  | x :: xs, h => by
    unfold pdA at h
    rw [Bool.and_eq_true] at h
    show (x.plain && PyData.plainAll xs) = true
    rw [pd_plain x h.1, pdA_plain xs h.2]; rfl
end
mutual
theorem eqv_iff : ∀ d e : PyData, pd d = true → pd e = true → (PyData.eqv d e = true ↔ d = e)
  | .int i, .int j, _, _ => by simp [PyData.eqv]
  | .str x, .str y, _, _ => by simp [PyData.eqv]
  | .tuple xs, .tuple ys, h, h' => by
    rw [pd_tup] at h h'
    rw [PyData.eqv, eqvA_iff xs ys h h']
    simp
  | .list xs, .list ys, h, h' => by
    rw [pd_lst] at h h'
    rw [PyData.eqv, eqvA_iff xs ys h h']
    simp
  | .int _, .str _, _, _ => by simp [PyData.eqv]
  | .int _, .tuple _, _, _ => by simp [PyData.eqv]
  | .int _, .list _, _, _ => by simp [PyData.eqv]
  | .str _, .int _, _, _ => by simp [PyData.eqv]
  | .str _, .tuple _, _, _ => by simp [PyData.eqv]
  | .str _, .list _, _, _ => by simp [PyData.eqv]
  | .tuple _, .int _, _, _ => by simp [PyData.eqv]
  | .tuple _, .str _, _, _ => by simp [PyData.eqv]
  | .tuple _, .list _, _, _ => by simp [PyData.eqv]
  | .list _, .int _, _, _ => by simp [PyData.eqv]
  | .list _, .str _, _, _ => by simp [PyData.eqv]
  | .list _, .tuple _, _, _ => by simp [PyData.eqv]
  | .none, _, h, _ => by unfold pd at h; cases h
  | .bool _, _, h, _ => by unfold pd at h; cases h
  | .dict _, _, h, _ => by unfold pd at h; cases h
  | .int _, .none, _, h => by unfold pd at h; cases h
  | .int _, .bool _, _, h => by unfold pd at h; cases h
  | .int _, .dict _, _, h => by unfold pd at h; cases h
  | .str _, .none, _, h => by unfold pd at h; cases h
  | .str _, .bool _, _, h => by unfold pd at h; cases h
  | .str _, .dict _, _, h => by unfold pd at h; cases h
  | .tuple _, .none, _, h => by unfold pd at h; cases h
  | .tuple _, .bool _, _, h => by unfold pd at h; cases h
  | .tuple _, .dict _, _, h => by unfold pd at h; cases h
  | .list _, .none, _, h => by unfold pd at h; cases h
  | .list _, .bool _, _, h => by unfold pd at h; cases h
  | .list _, .dict _, _, h => by unfold pd at h; cases h
theorem eqvA_iff : ∀ xs ys : List PyData, pdA xs = true → pdA ys = true → (PyData.eqvAll xs ys = true ↔ xs = ys)
  | [], [], _, _ => by simp [PyData.eqvAll]
  | [], _ :: _, _, _ => by simp [PyData.eqvAll]
  | _ :: _, [], _, _ => by simp [PyData.eqvAll]
  | x :: xs, y :: ys, h, h' => by
    unfold pdA at h h'
    rw [Bool.and_eq_true] at h h'
    rw [PyData.eqvAll, Bool.and_eq_true, eqv_iff x y h.1 h'.1, eqvA_iff xs ys h.2 h'.2]
    simp
end
def rEqP (K : PySem.W.Frag) : R2 := fun x y H Q => ∃ d e, Dp K H x d ∧ Dp K H y e ∧ pd d = true ∧ pd e = true ∧ d.depth ≤ 60 ∧ ∀ b : Bool, (b = true ↔ d = e) → Q (.bl b) H
def rNeP (K : PySem.W.Frag) : R2 := fun x y H Q => ∃ d e, Dp K H x d ∧ Dp K H y e ∧ pd d = true ∧ pd e = true ∧ d.depth ≤ 60 ∧ ∀ b : Bool, (b = true ↔ ¬ d = e) → Q (.bl b) H
section
variable {X : Cx} {K : PySem.W.Frag}
theorem eqP (e : X.K = K) (hu : X.A.units + 64 < cLine) : OpR X (compareOp .Eq) (rEqP K) := by
  subst e
  intro pins s σ H x y v u Q I rx ry h
  obtain ⟨d, e, hd, he, pd1, pe1, hdp, q⟩ := h
  obtain ⟨as, r1⟩ := Dp.reads I d x v hd rx
  obtain ⟨bs, r2⟩ := Dp.reads I e y u he ry
  have hm : min d.depth e.depth ≤ d.depth := Nat.min_le_left _ _
  exact PySem.SeqAt.eq_plain r1 r2 (pd_plain d pd1) (pd_plain e pe1) (by omega) ⟨.bl _, H, I, rfl, q _ (eqv_iff d e pd1 pe1)⟩
theorem neP (e : X.K = K) (hu : X.A.units + 64 < cLine) : OpR X (compareOp .NotEq) (rNeP K) := by
  subst e
  intro pins s σ H x y v u Q I rx ry h
  obtain ⟨d, e, hd, he, pd1, pe1, hdp, q⟩ := h
  obtain ⟨as, r1⟩ := Dp.reads I d x v hd rx
  obtain ⟨bs, r2⟩ := Dp.reads I e y u he ry
  have hm : min d.depth e.depth ≤ d.depth := Nat.min_le_left _ _
  refine PySem.SeqAt.ne_plain r1 r2 (pd_plain d pd1) (pd_plain e pe1) (by omega) ⟨.bl _, H, I, rfl, q _ ?_⟩
  have := eqv_iff d e pd1 pe1
  rw [← this]
  cases PyData.eqv d e <;> simp
end
/-! ### terms as such data -/
theorem depthA_le {n : Nat} : ∀ {xs : List PyData}, (∀ x ∈ xs, x.depth ≤ n) → PyData.depthAll xs ≤ n
  | [], _ => Nat.zero_le _
  | x :: xs, h => by
    rw [PyData.depthAll]
    exact Nat.max_le.mpr ⟨h x List.mem_cons_self, depthA_le fun y hy => h y (List.mem_cons_of_mem _ hy)⟩
theorem depth_tup {n : Nat} {xs : List PyData} (h : ∀ x ∈ xs, x.depth ≤ n) : (PyData.tuple xs).depth ≤ n + 1 := by
  rw [PyData.depth]; exact Nat.add_le_add_right (depthA_le h) 1
theorem depth_lst {n : Nat} {xs : List PyData} (h : ∀ x ∈ xs, x.depth ≤ n) : (PyData.list xs).depth ≤ n + 1 := by
  rw [PyData.depth]; exact Nat.add_le_add_right (depthA_le h) 1
theorem depth_str (x : Str) : (PyData.str x).depth = 0 := by rw [PyData.depth]
theorem depth_int (i : Int) : (PyData.int i).depth = 0 := by rw [PyData.depth]
theorem depth_strs (xs : List Str) : (strsD xs).depth ≤ 1 := depth_tup fun x hx => by obtain ⟨y, _, rfl⟩ := List.mem_map.mp hx; rw [depth_str]; exact Nat.zero_le _
theorem depth_ints (xs : List Int) : (intsD xs).depth ≤ 1 := depth_tup fun x hx => by obtain ⟨y, _, rfl⟩ := List.mem_map.mp hx; rw [depth_int]; exact Nat.zero_le _
theorem pd_strs (xs : List Str) : pd (strsD xs) = true := by rw [pd_tup, pdA_iff]; intro x hx; obtain ⟨y, _, rfl⟩ := List.mem_map.mp hx; exact pd_str y
theorem pd_ints (xs : List Int) : pd (intsD xs) = true := by rw [pd_tup, pdA_iff]; intro x hx; obtain ⟨y, _, rfl⟩ := List.mem_map.mp hx; exact pd_int y
theorem pd_two {d e : PyData} (h : pd d = true) (h' : pd e = true) : pd (.tuple [d, e]) = true := by
  rw [pd_tup, pdA_iff]; intro x hx; simp only [List.mem_cons, List.not_mem_nil, or_false] at hx; rcases hx with rfl | rfl <;> assumption
theorem pd_three {d e f : PyData} (h : pd d = true) (h' : pd e = true) (h2 : pd f = true) : pd (.tuple [d, e, f]) = true := by
  rw [pd_tup, pdA_iff]; intro x hx; simp only [List.mem_cons, List.not_mem_nil, or_false] at hx; rcases hx with rfl | rfl | rfl <;> assumption
theorem pd_encT : ∀ t : Tm, pd (encT t) = true := by
  refine Tm.ind (fun x => ?_) (fun h xs => ?_) (fun f ps ih => ?_)
  · rw [encT_name]; exact pd_two (pd_str _) (pd_str _)
  · rw [encT_hole]
    refine pd_three (pd_str _) (pd_str _) ?_
    rw [pd_tup, pdA_iff]; intro x hx; obtain ⟨y, _, rfl⟩ := List.mem_map.mp hx; exact pd_two (pd_str _) (pd_str _)
  · rw [encT_form]
    refine pd_three (pd_str _) (pd_str _) ?_
    rw [pd_tup, pdA_iff]; intro x hx; obtain ⟨p, hp, rfl⟩ := List.mem_map.mp hx; exact pd_two (pd_strs _) (ih p hp)
theorem depth_two {n : Nat} {d e : PyData} (h : d.depth ≤ n) (h' : e.depth ≤ n) : (PyData.tuple [d, e]).depth ≤ n + 1 :=
  depth_tup fun x hx => by simp only [List.mem_cons, List.not_mem_nil, or_false] at hx; rcases hx with rfl | rfl <;> assumption
theorem depth_three {n : Nat} {d e f : PyData} (h : d.depth ≤ n) (h' : e.depth ≤ n) (h2 : f.depth ≤ n) : (PyData.tuple [d, e, f]).depth ≤ n + 1 :=
  depth_tup fun x hx => by simp only [List.mem_cons, List.not_mem_nil, or_false] at hx; rcases hx with rfl | rfl | rfl <;> assumption
theorem depth_encT : ∀ t : Tm, (encT t).depth ≤ 3 * dp t := by
  refine Tm.ind (fun x => ?_) (fun h xs => ?_) (fun f ps ih => ?_)
  · rw [encT_name, dp_name]
    exact Nat.le_trans (depth_two (n := 0) (by rw [depth_str]; omega) (by rw [depth_str]; omega)) (by omega)
  · rw [encT_hole]
    by_cases hx : xs = []
    · subst hx
      have := dp_pos (.hole h [])
      refine Nat.le_trans (depth_three (n := 1) (by rw [depth_str]; omega) (by rw [depth_str]; omega) ?_) (show 2 ≤ _ by omega)
      exact depth_tup (n := 0) fun x hx => by simp at hx
    · have h1 : 2 ≤ dp (.hole h xs) := by
        rw [dp_hole]
        obtain ⟨x, hx'⟩ := List.exists_mem_of_ne_nil xs hx
        have : 1 ≤ maxs (xs.map fun _ => 1) := le_maxs (List.mem_map.mpr ⟨x, hx', rfl⟩)
        omega
      refine Nat.le_trans (depth_three (n := 2) (by rw [depth_str]; omega) (by rw [depth_str]; omega) ?_) (show 3 ≤ _ by omega)
      refine depth_tup (n := 1) fun x hx => ?_
      obtain ⟨y, _, rfl⟩ := List.mem_map.mp hx
      exact depth_two (n := 0) (by rw [depth_str]; omega) (by rw [depth_str]; omega)
  · rw [encT_form]
    by_cases hx : ps = []
    · subst hx
      have := dp_pos (.form f [])
      refine Nat.le_trans (depth_three (n := 1) (by rw [depth_str]; omega) (by rw [depth_str]; omega) ?_) (show 2 ≤ _ by omega)
      exact depth_tup (n := 0) fun x hx => by simp at hx
    · obtain ⟨p0, hp0⟩ := List.exists_mem_of_ne_nil ps hx
      have h0 := dp_sub (f := f) hp0
      have h1 := dp_pos p0.2
      refine Nat.le_trans (depth_three (n := 3 * (dp (.form f ps) - 1) + 2) (by rw [depth_str]; omega) (by rw [depth_str]; omega) ?_) (by omega)
      refine depth_tup fun x hx => ?_
      obtain ⟨p, hp, rfl⟩ := List.mem_map.mp hx
      have h2 := dp_sub (f := f) hp
      have h3 := ih p hp
      have h4 := depth_strs p.1
      exact depth_two (by omega) (by omega)
theorem map_inj {α β : Type} {f : α → β} : ∀ {xs ys : List α}, (∀ x ∈ xs, ∀ y, f x = f y → x = y) → xs.map f = ys.map f → xs = ys
  | [], [], _, _ => rfl
  | [], _ :: _, _, h => by simp at h
  | _ :: _, [], _, h => by simp at h
  | x :: xs, y :: ys, hi, h => by
    rw [List.map_cons, List.map_cons] at h
    injection h with h1 h2
    rw [hi x List.mem_cons_self y h1, map_inj (fun z hz => hi z (List.mem_cons_of_mem _ hz)) h2]
theorem strsD_inj {xs ys : List Str} (h : strsD xs = strsD ys) : xs = ys := by
  injection h with h
  exact map_inj (fun x _ y e => by injection e) h
theorem intsD_inj {xs ys : List Int} (h : intsD xs = intsD ys) : xs = ys := by
  injection h with h
  exact map_inj (fun x _ y e => by injection e) h
theorem tag_hn : (("hole" : Str)) ≠ "name" := by decide +kernel
theorem tag_fn : (("form" : Str)) ≠ "name" := by decide +kernel
theorem tag_hf : (("hole" : Str)) ≠ "form" := by decide +kernel
theorem encT_inj : ∀ t u : Tm, encT t = encT u → t = u := by
  refine Tm.ind (fun x u h => ?_) (fun h xs u e => ?_) (fun f ps ih u e => ?_)
  · cases u with
    | name y =>
      rw [encT_name, encT_name] at h
      injection h with h; injection h with _ h; injection h with h _; injection h with h
      rw [h]
    | hole h' ys => rw [encT_name, encT_hole] at h; injection h with h; injection h with _ h; injection h with _ h; cases h
    | form f ps => rw [encT_name, encT_form] at h; injection h with h; injection h with _ h; injection h with _ h; cases h
  · cases u with
    | name y => rw [encT_name, encT_hole] at e; injection e with e; injection e with _ e; injection e with _ e; cases e
    | hole h' ys =>
      rw [encT_hole, encT_hole] at e
      injection e with e; injection e with _ e; injection e with e1 e; injection e with e2 _
      injection e1 with e1; injection e2 with e2
      rw [e1, map_inj (fun x _ y q => by injection q with q; injection q with _ q; injection q with q _; injection q) e2]
    | form f ps => rw [encT_hole, encT_form] at e; injection e with e; injection e with e _; injection e with e; exact absurd e tag_hf
  · cases u with
    | name y => rw [encT_name, encT_form] at e; injection e with e; injection e with _ e; injection e with _ e; cases e
    | hole h' ys => rw [encT_form, encT_hole] at e; injection e with e; injection e with e _; injection e with e; exact absurd e.symm tag_hf
    | form f' ps' =>
      rw [encT_form, encT_form] at e
      injection e with e; injection e with _ e; injection e with e1 e; injection e with e2 _
      injection e1 with e1; injection e2 with e2
      rw [e1, map_inj (fun p hp q z => ?_) e2]
      injection z with z; injection z with z1 z; injection z with z2 _
      have a := strsD_inj z1
      have b := ih p hp q.2 z2
      obtain ⟨p1, p2⟩ := p
      obtain ⟨q1, q2⟩ := q
      rw [show p1 = q1 from a, show p2 = q2 from b]
end Nh
/-! ## NhF -/
namespace Nh
open PySem PySem.Spec PyProof.Rows L2

/-- .. where the turns' heaps keep tuples: O tells it, I goes with the turns -/
theorem lc_mapN {J : It} {n : Nat} {G : Hp → Prop} {Y : Nat → Hp → V → Hp → Prop} (w : Walk J n G Y) {g : TG} {te : TE} {vs : List Nat} {σ : L2.St} {H1 : Hp} {D : Addr} {Qd : Hp → Prop} (M : Addr → Prop) (I : Nat → Hp → Prop) (O : Nat → V → Hp → Prop)
    (hD : H1 D = none) (hM : ∀ a, M a → H1 a ≠ none) (hn : n < sizeLine) (stab : ∀ i H H', Tu H H' → (∀ a, a ≠ D → H' a = H a) → I i H → I i H') (tu : ∀ i y H H', Tu H H' → O i y H → O i y H')
    (h0 : I 0 H1) (hG : ∀ i H, i ≤ n → Le M H1 H → I i H → G H)
    (hs : ∀ (i : Nat) (x : V) (H H' : Hp), i < n → Le M H1 H → I i H → Y i H x H' → ∀ (k1 : V → Hp → Prop),
      (∀ y H4, Le M H H4 → I (i + 1) H4 → O i y H4 → k1 y H4) → g x (wipe σ vs) H' fun σ2 H2 => wipe σ2 vs = wipe σ vs ∧ te σ2 H2 k1)
    (hd : ∀ acc H, Le M H1 H → H D = some (.lst acc) → acc.length = n → I n H → (∀ (i : Nat) y, acc[i]? = some y → O i y H) → Qd H) :
    ∃ W : Nat → Nat → Hp → Prop, (∃ m, W 0 m (upd H1 D (.lst []))) ∧ ∀ i m H, W i m H →
      (J.stop i H ∧ Qd H) ∨ (J.go i H ∧ ∃ Nx : Hp → Prop, (∀ H', Nx H' → ∃ m', m' < m ∧ W (i + 1) m' H') ∧ ∀ x H', J.yld i H x H' → g x (wipe σ vs) H' fun σ2 H2 => wipe σ2 vs = wipe σ vs ∧ tYes σ2 H2 fun b H3 =>
        if b = true then te σ2 H3 fun y H4 => ∃ acc, H4 D = some (.lst acc) ∧ acc.length < sizeLine ∧ Nx (upd H4 D (.lst (acc ++ [y]))) else Nx H3) := by
  refine lc_acc w M (fun i acc H => I i H ∧ acc.length = i ∧ ∀ (j : Nat) y, acc[j]? = some y → O j y H) hD hM hn (fun i acc H H' _ t q p => ⟨stab i H H' t q p.1, p.2.1, fun j y e => tu j y H H' t (p.2.2 j y e)⟩) ⟨h0, rfl, fun j y e => by simp at e⟩
    (fun i acc H hi l p => hG i H hi l p.1) (fun i x acc H H' hi l e hl p y k1 k0 hk1 hk0 => ?_) fun acc H l e hl p => hd acc H l e p.2.1 p.1 p.2.2
  have q := hs i x H H' hi l p.1 y k1 fun z H4 l4 i4 o4 => hk1 z H4 l4 ⟨i4, by rw [List.length_append, p.2.1]; rfl, fun j u ej => ?_⟩
  · exact q
  · by_cases hj : j < acc.length
    · rw [List.getElem?_append_left hj] at ej
      exact tu j u H H4 l4.tup (p.2.2 j u ej)
    · have h1 : j = i := by
        have := (List.getElem?_eq_some_iff.mp ej).1
        rw [List.length_append, List.length_singleton] at this
        have := p.2.1
        omega
      subst h1
      rw [← p.2.1] at ej
      rw [List.getElem?_append_right (Nat.le_refl _), Nat.sub_self] at ej
      simp at ej
      subst ej
      exact o4

/-! ### what is got, in a dict -/
abbrev gotD (e : Nat × Tm) : PyData := .tuple [.int (e.1 : Nat), encT e.2]
theorem gotD_inj {a b : Nat × Tm} (h : gotD a = gotD b) : a = b := by
  injection h with h; injection h with h1 h; injection h with h2 _
  injection h1 with h1
  have := encT_inj _ _ h2
  obtain ⟨a1, a2⟩ := a
  obtain ⟨b1, b2⟩ := b
  have e : a1 = b1 := by have h3 : ((a1 : Nat) : Int) = (b1 : Nat) := h1; omega
  rw [e, show a2 = b2 from this]
def GotK (H : Hp) (kvs : List (Key × V)) (G : Got) : Prop := kvs.map (·.1) = G.map (fun e => Sum.inr e.1) ∧ DvA H (G.map fun e => gotD e.2) (kvs.map (·.2))
theorem GotK.mono {H H' : Hp} {kvs : List (Key × V)} {G : Got} (h : GotK H kvs G) (t : Tu H H') : GotK H' kvs G := ⟨h.1, h.2.mono t⟩
theorem GotK.len {H : Hp} {kvs : List (Key × V)} {G : Got} (h : GotK H kvs G) : kvs.length = G.length := by have := congrArg List.length h.1; simpa using this
theorem GotK.look {H : Hp} : ∀ {kvs : List (Key × V)} {G : Got}, GotK H kvs G → ∀ h : Str, (G.lookup h = none → valV kvs (Sum.inr h) = none) ∧ ∀ e, G.lookup h = some e → ∃ v, valV kvs (Sum.inr h) = some v ∧ Dv H (gotD e) v
  | [], [], _, h => ⟨fun _ => rfl, fun e q => by simp at q⟩
  | [], _ :: _, q, _ => by have := q.len; simp at this
  | _ :: _, [], q, _ => by have := q.len; simp at this
  | p :: kvs, g :: G, q, h => by
    obtain ⟨q1, q2⟩ := q
    rw [List.map_cons, List.map_cons] at q1 q2
    injection q1 with k1 k2
    rw [dva_cons] at q2
    obtain ⟨v, r, e1, d1, d2⟩ := q2
    injection e1 with e1 e2
    have ih := GotK.look (kvs := kvs) (G := G) ⟨k2, by rw [e2]; exact d2⟩ h
    obtain ⟨gh, ge⟩ := g
    by_cases hh : h = gh
    · subst hh
      rw [List.lookup_cons_self]
      refine ⟨fun z => (by cases z), fun e z => ?_⟩
      cases z
      exact ⟨v, by rw [valV_pos k1, e1], d1⟩
    · have hb : (h == gh) = false := by simpa using hh
      rw [List.lookup_cons, hb]
      rw [valV_neg fun z => hh ?_]
      · exact ih
      · rw [k1] at z; exact (Sum.inr.inj z).symm
theorem GotK.add {H : Hp} {kvs : List (Key × V)} {G : Got} {h : Str} {e : Nat × Tm} {v : V} (q : GotK H kvs G) (hn : G.lookup h = none) (hv : Dv H (gotD e) v) : GotK H (putK kvs (Sum.inr h) v) (G ++ [(h, e)]) := by
  have nn := (q.look h).1 hn
  have hp : putK kvs (Sum.inr h) v = kvs ++ [(Sum.inr h, v)] := by
    unfold putK
    rw [valV_any, nn]; rfl
  rw [hp]
  refine ⟨by rw [List.map_append, List.map_append, q.1]; rfl, ?_⟩
  rw [List.map_append, List.map_append]
  exact q.2.append (.cons hv .nil)

/-! ### laid, turn by turn -/
abbrev Pr := (List Str × Tm) × (List Str × Tm)
noncomputable def rr (zs : List Pr) (G : Got) (i : Nat) : Bool × Got := (zs.take i).foldl laidP (true, G)
theorem rr_zero (zs : List Pr) (G : Got) : rr zs G 0 = (true, G) := rfl
theorem rr_succ {zs : List Pr} {G : Got} {i : Nat} {q : Pr} (e : zs[i]? = some q) : rr zs G (i + 1) = laidP (rr zs G i) q := by
  unfold rr
  rw [List.take_add_one, e, List.foldl_append]; rfl
noncomputable def bb (zs : List Pr) (G : Got) (i : Nat) : Bool := match zs[i]? with
  | some q => (laid q.1.2 q.2.2 (rr zs G i).2).1
  | none => true
theorem rr_all (zs : List Pr) (G : Got) : ∀ i, i ≤ zs.length → (rr zs G i).1 = ((List.range i).map (bb zs G)).all id
  | 0, _ => rfl
  | i + 1, h => by
    obtain ⟨q, e⟩ := get_ex (l := zs) (i := i) (by omega)
    rw [rr_succ e, List.range_succ, List.map_append, List.all_append, ← rr_all zs G i (by omega)]
    show ((rr zs G i).1 && (laid q.1.2 q.2.2 (rr zs G i).2).1) = _
    have : bb zs G i = (laid q.1.2 q.2.2 (rr zs G i).2).1 := by unfold bb; rw [e]
    simp [this]
theorem rr_end (zs : List Pr) (G : Got) : rr zs G zs.length = zs.foldl laidP (true, G) := by unfold rr; rw [List.take_length]
theorem laid_len : ∀ (p t : Tm) (G : Got), (laid p t G).2.length ≤ G.length + sz p := by
  refine Tm.ind (fun x t G => ?_) (fun h xs t G => ?_) (fun f ps ih t G => ?_)
  · cases t with
    | name y => rw [laid_nn]; exact Nat.le_add_right _ _
    | hole h ys => rw [laid_nh]; exact Nat.le_add_right _ _
    | form f ps => rw [laid_nf]; exact Nat.le_add_right _ _
  · rw [laid_hole, sz_hole]
    unfold laidH
    split
    · split
      · exact Nat.le_add_right _ _
      · rw [List.length_append, List.length_singleton]; omega
    · exact Nat.le_add_right _ _
  · cases t with
    | name y => rw [laid_fn]; exact Nat.le_add_right _ _
    | hole h ys => rw [laid_fh]; exact Nat.le_add_right _ _
    | form f' ps' =>
      rw [laid_ff, sz_form]
      split
      · have gen : ∀ (ps ps' : List (List Str × Tm)), (∀ p ∈ ps, ∀ t G, (laid p.2 t G).2.length ≤ G.length + sz p.2) → ∀ r : Bool × Got, ((ps.zip ps').foldl laidP r).2.length ≤ r.2.length + (ps.map fun p => sz p.2).sum := by
          intro ps
          induction ps with
          | nil => intro ps' _ r; exact Nat.le_add_right _ _
          | cons p ps ihp =>
            intro ps' h r
            cases ps' with
            | nil => exact Nat.le_add_right _ _
            | cons p' ps' =>
              rw [List.zip_cons_cons, List.foldl_cons, List.map_cons, List.sum_cons]
              have h1 := ihp ps' (fun q hq => h q (List.mem_cons_of_mem _ hq)) (laidP r (p, p'))
              have h2 := h p List.mem_cons_self p'.2 r.2
              have h3 : (laidP r (p, p')).2.length ≤ r.2.length + sz p.2 := h2
              omega
        have := gen ps ps' ih (true, G)
        have e : ((true, G) : Bool × Got).2.length = G.length := rfl
        omega
      · exact Nat.le_add_right _ _
/-- got by holes that take few names -/
theorem laid_small {n : Nat} : ∀ (p t : Tm) (G : Got), sz p ≤ n + 1 → (∀ e ∈ G, e.2.1 ≤ n) → ∀ e ∈ (laid p t G).2, e.2.1 ≤ n := by
  refine Tm.ind (fun x t G _ h => ?_) (fun h' xs t G hs h => ?_) (fun f ps ih t G hs h => ?_)
  · cases t with
    | name y => rw [laid_nn]; exact h
    | hole hh ys => rw [laid_nh]; exact h
    | form f ps => rw [laid_nf]; exact h
  · rw [laid_hole]
    unfold laidH
    split
    · split
      · exact h
      · intro e he
        rcases List.mem_append.mp he with he | he
        · exact h e he
        · rw [List.mem_singleton] at he
          subst he
          rw [sz_hole] at hs
          show xs.length ≤ n
          omega
    · exact h
  · cases t with
    | name y => rw [laid_fn]; exact h
    | hole hh ys => rw [laid_fh]; exact h
    | form f' ps' =>
      rw [laid_ff]
      split
      · have gen : ∀ (zs : List Pr), (∀ q ∈ zs, q.1 ∈ ps) → ∀ r : Bool × Got, (∀ e ∈ r.2, e.2.1 ≤ n) → ∀ e ∈ (zs.foldl laidP r).2, e.2.1 ≤ n := by
          intro zs
          induction zs with
          | nil => intro _ r hr; exact hr
          | cons q zs ihz =>
            intro hq r hr
            rw [List.foldl_cons]
            have hm := hq q List.mem_cons_self
            have hz := sz_sub (f := f) hm
            exact ihz (fun q' hq' => hq q' (List.mem_cons_of_mem _ hq')) _ (ih q.1 hm q.2.2 r.2 (by omega) hr)
        exact gen _ (fun q hq => (List.of_mem_zip hq).1) _ h
      · exact h

/-! ### the head of a term -/
def tag : Tm → Str
  | .name _ => "name"
  | .hole _ _ => "hole"
  | .form _ _ => "form"
def hdw : Tm → Str
  | .name x => x
  | .hole h _ => h
  | .form f _ => f
theorem dt_head {H : Hp} {t : Tm} {v : V} (h : Dv H (encT t) v) : ∃ a r, v = .ref a ∧ H a = some (.tup (.str (tag t) :: .str (hdw t) :: r)) := by
  cases t with
  | name x => obtain ⟨a, e, ha⟩ := dt_name.mp h; exact ⟨a, _, e, ha⟩
  | hole h' xs => obtain ⟨a, b, ws, e, ha, _⟩ := dt_hole.mp h; exact ⟨a, _, e, ha⟩
  | form f ps => obtain ⟨a, b, ws, e, ha, _⟩ := dt_form.mp h; exact ⟨a, _, e, ha⟩
theorem at0 {x : V} {r : List V} : atI (x :: r) 0 = some x := atI_nat (j := 0) rfl
theorem at1 {x y : V} {r : List V} : atI (x :: y :: r) 1 = some y := atI_nat (j := 1) rfl
theorem at2 {x y z : V} {r : List V} : atI (x :: y :: z :: r) 2 = some z := atI_nat (j := 2) rfl
theorem at3 {x y z u : V} {r : List V} : atI (x :: y :: z :: u :: r) 3 = some u := atI_nat (j := 3) rfl
theorem beq_of {b c : Bool} {p : Prop} (h : b = true ↔ p) (h' : c = true ↔ p) : b = c := Bool.eq_iff_iff.mpr (h.trans h'.symm)

/-! ### rows as data -/
abbrev rowD (r : Str × Nat × Tm) : PyData := .tuple [.str r.1, strsD (figs 0 r.2.1), encT r.2.2]
/-- a scope of such names and sorts -/
abbrev scopeD (bs : List Str) (ss : List Int) : PyData := .tuple ((bs.zip ss).map fun p => .tuple [.str p.1, .int p.2])
theorem dva_scope {H : Hp} : ∀ {bs : List Str} {ss : List Int} {vs : List V}, bs.length = ss.length → DvA H ((bs.zip ss).map fun p => PyData.tuple [.str p.1, .int p.2]) vs → ∃ as : List Addr, vs = as.map V.ref ∧ as.length = bs.length ∧
    ∀ (i : Nat) a, as[i]? = some a → ∃ b s, bs[i]? = some b ∧ ss[i]? = some s ∧ H a = some (.tup [.str b, .int s])
  | [], [], vs, _, h => by
    have : vs = [] := dva_nil.mp h
    subst this
    exact ⟨[], rfl, rfl, fun i a e => by simp at e⟩
  | b :: bs, s :: ss, vs, hl, h => by
    rw [List.zip_cons_cons, List.map_cons, dva_cons] at h
    obtain ⟨v, r, rfl, h1, h2⟩ := h
    obtain ⟨a, x, y, rfl, ha, hx, hy⟩ := dv_two.mp h1
    rw [dv_str] at hx; rw [dv_int] at hy; subst hx hy
    obtain ⟨as, rfl, l1, q⟩ := dva_scope (by simpa using hl) h2
    refine ⟨a :: as, rfl, by simp [l1], fun i c e => ?_⟩
    cases i with
    | zero => simp at e; subst e; exact ⟨b, s, rfl, rfl, ha⟩
    | succ i => simpa using q i c (by simpa using e)
end Nh
/-! ## NhP4 -/
set_option maxHeartbeats 4000000
namespace Nh
open PySem PySem.Spec PyProof.Rows L2
/-- what both terms that are laid on one another must be -/
structure LaidOk (p t : Tm) (lv n : Nat) : Prop where
  ali : Ali p t
  nt : Nt lv t
  lo : lv + 3 * dp t ≤ 60
  dp1 : dp p ≤ n
  dp2 : dp t ≤ 16
  s1 : sz p ≤ 600
  s2 : sz t ≤ 1000
def spLaid (n : Nat) : Sp := fun vs H Q _ => ∃ (v1 v2 : V) (g : Addr) (p t : Tm) (lv : Nat) (G : Got) (kvs : List (Key × V)), vs = [v1, v2, .ref g] ∧ Dv H (encT p) v1 ∧ Dv H (encT t) v2 ∧ H g = some (.dK kvs) ∧ GotK H kvs G ∧ LaidOk p t lv n ∧ G.length + sz p ≤ 5000 ∧ (∀ e ∈ G, dp e.2.2 ≤ 16) ∧
  ∀ H' kvs', Le (fun a => a = g) H H' → H' g = some (.dK kvs') → GotK H' kvs' (laid p t G).2 → Q (.bl (laid p t G).1) H'
theorem laid_dp : ∀ (p t : Tm) (G : Got), dp t ≤ 16 → (∀ e ∈ G, dp e.2.2 ≤ 16) → ∀ e ∈ (laid p t G).2, dp e.2.2 ≤ 16 := by
  refine Tm.ind (fun x t G _ h => ?_) (fun h' xs t G hs h => ?_) (fun f ps ih t G hs h => ?_)
  · cases t with
    | name y => rw [laid_nn]; exact h
    | hole hh ys => rw [laid_nh]; exact h
    | form f ps => rw [laid_nf]; exact h
  · rw [laid_hole]
    unfold laidH
    split
    · split
      · exact h
      · intro e he
        rcases List.mem_append.mp he with he | he
        · exact h e he
        · rw [List.mem_singleton] at he
          subst he
          show dp (neatT xs t) ≤ 16
          unfold neatT
          rw [dp_ren]; exact hs
    · exact h
  · cases t with
    | name y => rw [laid_fn]; exact h
    | hole hh ys => rw [laid_fh]; exact h
    | form f' ps' =>
      rw [laid_ff]
      split
      · have gen : ∀ (zs : List Pr), (∀ q ∈ zs, q.1 ∈ ps ∧ q.2 ∈ ps') → ∀ r : Bool × Got, (∀ e ∈ r.2, dp e.2.2 ≤ 16) → ∀ e ∈ (zs.foldl laidP r).2, dp e.2.2 ≤ 16 := by
          intro zs
          induction zs with
          | nil => intro _ r hr; exact hr
          | cons q zs ihz =>
            intro hq r hr
            rw [List.foldl_cons]
            have hm := hq q List.mem_cons_self
            have hz := dp_sub (f := f') hm.2
            exact ihz (fun q' hq' => hq q' (List.mem_cons_of_mem _ hq')) _ (ih q.1 hm.1 q.2.2 r.2 (by omega) hr)
        exact gen _ (fun q hq => List.of_mem_zip hq) _ h
      · exact h
theorem dec_iff {p : Prop} {d : Decidable p} : @decide p d = true ↔ p := by cases d <;> simp [*]
theorem rr_laid {f : Str} {ps qs : List (List Str × Tm)} {G : Got} {i : Nat} : rr (ps.zip qs) G i = laid (.form f (ps.take i)) (.form f (qs.take i)) G := by
  rw [laid_ff, if_pos rfl]
  show List.foldl laidP (true, G) (List.take i (List.zipWith Prod.mk ps qs)) = _
  rw [List.take_zipWith]; rfl
theorem sz_take {f : Str} {ps : List (List Str × Tm)} {i : Nat} {p : List Str × Tm} (e : ps[i]? = some p) : sz (.form f (ps.take i)) + sz p.2 ≤ sz (.form f ps) := by
  have h : ps = ps.take i ++ p :: ps.drop (i + 1) := by
    obtain ⟨hi, rfl⟩ := List.getElem?_eq_some_iff.mp e
    rw [List.getElem_cons_drop, List.take_append_drop]
  rw [sz_form, sz_form]
  conv => rhs; rw [h]
  rw [List.map_append, List.map_cons, List.sum_append, List.sum_cons]
  omega
theorem dp_take (f : Str) (ps : List (List Str × Tm)) (i : Nat) : dp (.form f (ps.take i)) ≤ dp (.form f ps) := by
  rw [dp_form, dp_form]
  refine Nat.add_le_add_left ?_ 1
  refine maxs_le fun x hx => ?_
  obtain ⟨p, hp, rfl⟩ := List.mem_map.mp hx
  exact le_maxs (List.mem_map.mpr ⟨p, List.mem_of_mem_take hp, rfl⟩)
theorem eq_tags {t u : Tm} : tag t = tag u → (∃ x y, t = .name x ∧ u = .name y) ∨ (∃ h xs g ys, t = .hole h xs ∧ u = .hole g ys) ∨ ∃ f ps g qs, t = .form f ps ∧ u = .form g qs := by
  intro h
  cases t <;> cases u
  · exact .inl ⟨_, _, rfl, rfl⟩
  · exact absurd h.symm tag_hn
  · exact absurd h.symm tag_fn
  · exact absurd h tag_hn
  · exact .inr (.inl ⟨_, _, _, _, rfl, rfl⟩)
  · exact absurd h tag_hf
  · exact absurd h tag_fn
  · exact absurd h.symm tag_hf
  · exact .inr (.inr ⟨_, _, _, _, rfl, rfl⟩)
section
variable {P : Program} {w : World} {K : PySem.W.Frag} {mg : Str → Option Value} {base : Heap} {f : Addr} {fd : FuncData}
abbrev N_laid_on : List Str := ["one", "other", "got", "taken", "body", "names", "part", "twin", "name"]
theorem sc_laid_on : FnScope N_laid_on ["one", "other", "got"] (defScope s_laid_on) := ⟨rfl, rfl, rfl, by decide +kernel, rfl, by decide +kernel, by decide +kernel⟩
theorem ok_laid {n : Nat} (F : Fun K "laid_on" "laid_on" s_laid_on f fd) (B : Bt mg) (c_names_taken : Cal P w K mg base 1 "names_taken" ["term"] spNamesTaken) (c_free_names : Cal P w K mg base 18 "free_names" ["term"] (spFreeNames 16))
    (c_neat : Cal P w K mg base 33 "neat" ["names", "term"] (spNeat 16)) (c_laid_on : Cal P w K mg base (33 + n) "laid_on" ["one", "other", "got"] (spLaid n)) :
    FnOk P w K mg base CX0 (33 + n + 1) f fd ["one", "other", "got"] (spLaid (n + 1)) := by
  refine F.ok sc_laid_on (fun vs H Q E h => by obtain ⟨v1, v2, g, p, t, lv, G, kvs, rfl, _⟩ := h; rfl) (fun cdv A outer s H vs Q E hr h => ?_)
  obtain ⟨v1, v2, g, p, t, lv, G, kvs, rfl, hv1, hv2, hg, hG, ⟨hal, hnt, hlo, hd1, hd2, hs1, hs2⟩, hGl, hGd, q⟩ := h
  have hu := hu_of hr
  refine ⟨_, (pss_cons (ps_if (pt_cmpR op_eq (pe_ix (ixT (K := K) rfl) (pv 0) (pe_int) (fun _ _ => rfl)) (pe_str) (nomark _)) (pss_cons (ps_set (i := 3) sc_laid_on.nd rfl (by first | exact Or.inl rfl | exact Or.inr rfl) (pe_cal c_names_taken (hr.mono (by omega)) (by rfl) (pa_cons (pv 0) pa_nil)))
  (pss_cons (ps_if (pt_not (pt_val (pe_callB (allQ (K := K) rfl rfl) (by rfl) B.all bv_all (pa_cons (pe_lc (own := [("name", 8)]) rfl sc_laid_on.nd (piL (K := K) rfl (pe_cal c_free_names (hr.mono (by omega)) (by rfl) (pa_cons (pv 1) pa_nil))) (blkOk_by (own := [("name", 8)]) (N := N_laid_on) (sc := defScope s_laid_on) (by decide +kernel)) (fun _ _ _ _ _ => pg_name (i := 8) sc_laid_on.nd rfl (by first | exact Or.inl rfl | exact Or.inr rfl)) (fun _ _ _ _ _ => pts_nil) (fun _ _ _ _ _ => pe_cmpR (inQ (K := K) rfl) (pv 8) (pv 3) (by rfl))) pa_nil)))) (pss_one (ps_ret (pe_bl))) pss_nil)
  (pss_cons (ps_set (i := 4) sc_laid_on.nd rfl (by first | exact Or.inl rfl | exact Or.inr rfl) (pe_cal c_neat (hr.mono (by omega)) (by rfl) (pa_cons (pv 3) (pa_cons (pv 1) pa_nil))))
  (pss_one (ps_ret (pe_cmpR (eqP (K := K) rfl hr.units) (pe_dsetd (pv 2) (pe_ix (ixT (K := K) rfl) (pv 0) (pe_int) (fun _ _ => rfl)) (pe_tup (pa_cons (pe_callB (lenQ (K := K) rfl) (by rfl) B.len bv_len (pa_cons (pv 3) pa_nil)) (pa_cons (pv 4) pa_nil))) ⟨rfl, rfl, rfl, rfl⟩) (pe_tup (pa_cons (pe_callB (lenQ (K := K) rfl) (by rfl) B.len bv_len (pa_cons (pv 3) pa_nil)) (pa_cons (pv 4) pa_nil))) (nomark _))))))) pss_nil)
  (pss_cons (ps_if (PW.pt (pw_or (pt_cmpR op_ne (pe_ix (ixT (K := K) rfl) (pv 0) (pe_int) (fun _ _ => rfl)) (pe_ix (ixT (K := K) rfl) (pv 1) (pe_int) (fun _ _ => rfl)) (nomark _)) (pw_or1 (pt_cmpR op_ne (pe_ix (ixT (K := K) rfl) (pv 0) (pe_int) (fun _ _ => rfl)) (pe_ix (ixT (K := K) rfl) (pv 1) (pe_int) (fun _ _ => rfl)) (nomark _))))) (pss_one (ps_ret (pe_bl))) pss_nil)
  (pss_cons (ps_if (pt_cmpR op_eq (pe_ix (ixT (K := K) rfl) (pv 0) (pe_int) (fun _ _ => rfl)) (pe_str) (nomark _)) (pss_one (ps_ret (pe_bl))) pss_nil)
  (pss_cons (ps_if (pt_cmpR (neP (K := K) rfl hr.units) (pe_lc (own := [("names", 5), ("body", 4)]) rfl sc_laid_on.nd (piT (K := K) rfl (pe_ix (ixT (K := K) rfl) (pv 0) (pe_int) (fun _ _ => rfl))) (blkOk_by (own := [("names", 5), ("body", 4)]) (N := N_laid_on) (sc := defScope s_laid_on) (by decide +kernel)) (fun _ _ _ _ _ => pgT (K := K) (n := 2) rfl rfl (pgs_cons (pg_name (i := 5) sc_laid_on.nd rfl (by first | exact Or.inl rfl | exact Or.inr rfl)) (pgs_cons (pg_name (i := 4) sc_laid_on.nd rfl (by first | exact Or.inl rfl | exact Or.inr rfl)) pgs_nil))) (fun _ _ _ _ _ => pts_nil) (fun _ _ _ _ _ => pv 5)) (pe_lc (own := [("names", 5), ("body", 4)]) rfl sc_laid_on.nd (piT (K := K) rfl (pe_ix (ixT (K := K) rfl) (pv 1) (pe_int) (fun _ _ => rfl))) (blkOk_by (own := [("names", 5), ("body", 4)]) (N := N_laid_on) (sc := defScope s_laid_on) (by decide +kernel)) (fun _ _ _ _ _ => pgT (K := K) (n := 2) rfl rfl (pgs_cons (pg_name (i := 5) sc_laid_on.nd rfl (by first | exact Or.inl rfl | exact Or.inr rfl)) (pgs_cons (pg_name (i := 4) sc_laid_on.nd rfl (by first | exact Or.inl rfl | exact Or.inr rfl)) pgs_nil))) (fun _ _ _ _ _ => pts_nil) (fun _ _ _ _ _ => pv 5)) (nomark _)) (pss_one (ps_ret (pe_bl))) pss_nil)
  (pss_one (ps_ret (pe_callB (allQ (K := K) rfl rfl) (by rfl) B.all bv_all (pa_cons (pe_lc (own := [("part", 6), ("twin", 7)]) rfl sc_laid_on.nd (zpQ (K := K) rfl (by rfl) B.zip (pa_cons (pe_ix (ixT (K := K) rfl) (pv 0) (pe_int) (fun _ _ => rfl)) (pa_cons (pe_ix (ixT (K := K) rfl) (pv 1) (pe_int) (fun _ _ => rfl)) pa_nil))) (blkOk_by (own := [("part", 6), ("twin", 7)]) (N := N_laid_on) (sc := defScope s_laid_on) (by decide +kernel)) (fun _ _ _ _ _ => pgT (K := K) (n := 2) rfl rfl (pgs_cons (pg_name (i := 6) sc_laid_on.nd rfl (by first | exact Or.inl rfl | exact Or.inr rfl)) (pgs_cons (pg_name (i := 7) sc_laid_on.nd rfl (by first | exact Or.inl rfl | exact Or.inr rfl)) pgs_nil))) (fun _ _ _ _ _ => pts_nil) (fun _ _ _ _ _ => pe_cal c_laid_on (hr.mono (by omega)) (by rfl) (pa_cons (pe_ix (ixT (K := K) rfl) (pv 6) (pe_int) (fun _ _ => rfl)) (pa_cons (pe_ix (ixT (K := K) rfl) (pv 7) (pe_int) (fun _ _ => rfl)) (pa_cons (pv 2) pa_nil))))) pa_nil)))))))), ?_⟩
  obtain ⟨a1, r1, rfl, ha1⟩ := dt_head hv1
  obtain ⟨a2, r2, rfl, ha2⟩ := dt_head hv2
  by_cases hh : ∃ h xs, p = .hole h xs
  · obtain ⟨h, xs, rfl⟩ := hh
    rw [sz_hole] at hs1
    refine ⟨_, rfl, a1, _, 0, _, rfl, rfl, SqT.of ha1, at0, rfl, _, rfl, ifT rfl ?_⟩
    refine ⟨_, rfl, .ref a1, h, xs, rfl, hv1, by omega, fun vt H1 l1 hvt => ?_⟩
    obtain ⟨b, rfl, hb⟩ := dv_strs.mp hvt
    have L1 : ∀ x ∈ free t, x ∈ figs 0 lv := fun x hx => by
      obtain ⟨k, hk, rfl⟩ := hnt.free x hx
      exact mem_figs.mpr ⟨k, hk, by rw [Nat.zero_add]⟩
    refine ⟨_, rfl, .ref a2, t, figs 0 lv, rfl, hv2.mono l1.tup, by omega, by omega, by rw [figs_length]; omega, L1, fun l ys H2 l2 _ hl hys hyl => ?_⟩
    refine ⟨l, rfl, ⟨_, SqL.of hl⟩, fun D hD => ?_⟩
    have hlys : (ys.map V.str).length = ys.length := List.length_map _
    refine lc_mapM walk_list noM (fun _ _ => True) (fun i y _ => ∀ x, ys[i]? = some x → y = .bl (decide (x ∈ xs))) hD (fun _ z => z.elim) (smallL (by omega)) (fun _ _ _ _ h => h) (fun _ _ _ _ _ h => h) trivial (fun i H _ l _ => SqL.of (l.rest _ _ (fun z => z) hl)) (fun i x H3 H4 hi l3 _ y k1 hk1 => ?_) fun acc H3 l3 hacc hlen _ hbs => ?_
    · obtain ⟨rfl, ex⟩ := y
      rw [List.getElem?_map] at ex
      obtain ⟨z, ez, rfl⟩ := Option.map_eq_some_iff.mp ex
      refine ⟨rfl, _, rfl, _, rfl, b, _, rfl, .inr (SqT.of (l3.tup _ _ (l2.tup _ _ hb))), rfl, flat_strs xs, hk1 _ _ (Le.refl _) trivial fun x e => ?_⟩
      rw [ez] at e
      cases e
      show V.bl (inV (.str z) (xs.map V.str)) = _
      rw [inV_strs]
    · have hacc' : acc = (ys.map fun x => decide (x ∈ xs)).map V.bl := by
        refine List.ext_getElem? fun i => ?_
        rw [List.map_map, List.getElem?_map]
        by_cases hi : i < ys.length
        · obtain ⟨x, ex⟩ := get_ex hi
          obtain ⟨y, ey⟩ := get_ex (l := acc) (i := i) (by omega)
          rw [ey, ex, hbs i y ey x ex]; rfl
        · rw [List.getElem?_eq_none (by omega), List.getElem?_eq_none (by omega)]; rfl
      rw [hacc'] at hacc
      refine ⟨D, _, rfl, SqL.of hacc, _, rfl, ?_⟩
      have hb3 := l3.tup _ _ (l2.tup _ _ hb)
      have L3 : Le0 H H3 := (l1.trans l2).trans l3
      have hg3 := L3.rest _ _ (fun z => z) hg
      have hall : ((ys.map fun x => decide (x ∈ xs)).all id = true) ↔ ∀ x ∈ free t, x ∈ xs := by
        rw [List.all_map, List.all_eq_true]
        constructor
        · intro h x hx
          exact of_decide_eq_true (h x ((hys x).mpr hx))
        · intro h x hx
          exact decide_eq_true (h x ((hys x).mp hx))
      have fin0 : ¬ (∀ x ∈ free t, x ∈ xs) → laid (.hole h xs) t G = (false, G) := fun hn => by rw [laid_hole]; unfold laidH; rw [if_neg hn]
      by_cases hf : ∀ x ∈ free t, x ∈ xs
      · rw [hall.mpr hf]
        refine iteF ?_
        refine ⟨_, rfl, _, rfl, b, .ref a2, xs, t, rfl, hb3, hv2.mono L3.tup, hf, hnt.thin, by omega, by omega, by omega, by omega, fun vb H4 l4 hvb => ?_⟩
        have L4 := L3.trans l4
        have hb4 := l4.tup _ _ hb3
        have hg4 := L4.rest _ _ (fun z => z) hg
        have lx : (xs.map V.str).length = xs.length := List.length_map _
        refine ⟨_, rfl, g, rfl, .inl ⟨kvs, .inl hg4⟩, ?_⟩
        refine ⟨_, rfl, a1, _, 1, _, rfl, rfl, SqT.of (L4.tup _ _ ha1), at1, ?_⟩
        refine ⟨_, rfl, b, _, rfl, .inr (SqT.of hb4), _, rfl, z2, fun p1 hp1 => ?_⟩
        have l5 : Le0 H4 (upd H4 p1 (.tup [.int (((xs.map V.str).length : Nat) : Int), vb])) := Le.new hp1 _
        have dp1' : Dv (upd H4 p1 (.tup [.int (((xs.map V.str).length : Nat) : Int), vb])) (gotD (xs.length, neatT xs t)) (.ref p1) := by
          refine Dv.mk hp1 (.cons (dv_int.mpr (by rw [lx])) (.cons hvb .nil))
        have hg5 := l5.rest _ _ (fun z => z) hg4
        generalize upd H4 p1 (.tup [.int (((xs.map V.str).length : Nat) : Int), vb]) = H5 at l5 dp1' hg5
        have L5 := L4.trans l5
        have hG5 := hG.mono L5.tup
        have hdn : dp (neatT xs t) ≤ 16 := by unfold neatT; rw [dp_ren]; exact hd2
        have kl := hG.len
        have depth_got : ∀ e : Nat × Tm, dp e.2 ≤ 16 → (gotD e).depth ≤ 60 := fun e he => by
          have := depth_encT e.2
          exact Nat.le_trans (depth_two (n := 48) (by rw [depth_int]; omega) (by omega)) (by omega)
        have pd_got : ∀ e : Nat × Tm, pd (gotD e) = true := fun e => pd_two (pd_int _) (pd_encT _)
        refine ⟨kvs, Sum.inr h, hg5, rfl, smallL (by omega), fun v hv => ?_, fun hno => ?_⟩
        · have hlk : ∃ e, G.lookup h = some e := by
            cases eq : G.lookup h with
            | none => rw [(hG5.look h).1 eq] at hv; cases hv
            | some e' => exact ⟨e', rfl⟩
          obtain ⟨e, he⟩ := hlk
          obtain ⟨v', hv', dv'⟩ := (hG5.look h).2 e he
          rw [hv] at hv'; cases hv'
          refine ⟨_, rfl, b, _, rfl, .inr (SqT.of (l5.tup _ _ hb4)), _, rfl, z2, fun p2 hp2 => ?_⟩
          have l6 : Le0 H5 (upd H5 p2 (.tup [.int (((xs.map V.str).length : Nat) : Int), vb])) := Le.new hp2 _
          have hem : (h, e) ∈ G := by
            clear hG hG5 hGl hGd q kl fin0
            induction G with
            | nil => cases he
            | cons g0 G ih =>
              obtain ⟨gh, ge⟩ := g0
              by_cases hh : h = gh
              · subst hh; rw [List.lookup_cons_self] at he; cases he; exact List.mem_cons_self
              · rw [List.lookup_cons, show (h == gh) = false by simpa using hh] at he
                exact List.mem_cons_of_mem _ (ih he)
          refine ⟨gotD e, gotD (xs.length, neatT xs t), (dv'.mono l6.tup).dp, (Dv.mk hp2 (.cons (dv_int.mpr (by rw [lx])) (.cons (hvb.mono l5.tup) .nil))).dp, pd_got _, pd_got _, depth_got _ (hGd _ hem), fun bo hbo => ?_⟩
          have hr : laid (.hole h xs) t G = (bo, G) := by
            rw [laid_hole]; unfold laidH; rw [if_pos hf, he]
            refine Prod.ext ?_ rfl
            refine beq_of (p := e = (xs.length, neatT xs t)) dec_iff ?_
            exact hbo.trans ⟨fun z => gotD_inj z, fun z => by rw [z]⟩
          have := q _ kvs ((L5.trans l6).any) ((L5.trans l6).rest _ _ (fun z => z) hg) (by rw [hr]; exact hG.mono (L5.trans l6).tup)
          rw [hr] at this
          exact this
        · have hlk : G.lookup h = none := by
            cases e : G.lookup h with
            | none => rfl
            | some e' => obtain ⟨v', hv', _⟩ := (hG5.look h).2 e' e; rw [hno] at hv'; cases hv'
          have m6 : Le (fun a => a = g) H (upd H5 g (.dK (putK kvs (Sum.inr h) (.ref p1)))) := (L5.any (M := fun a => a = g)).mut (p := g) rfl (fun xs e => by rw [hg5] at e; cases e) _
          have t6 : Tu H5 (upd H5 g (.dK (putK kvs (Sum.inr h) (.ref p1)))) := Tu.upd hg5 (fun _ e => nomatch e) _
          have g6 : upd H5 g (.dK (putK kvs (Sum.inr h) (.ref p1))) g = some (.dK (putK kvs (Sum.inr h) (.ref p1))) := upd_same
          have k6 := (hG5.add hlk dp1').mono t6
          generalize upd H5 g (.dK (putK kvs (Sum.inr h) (.ref p1))) = H6 at m6 t6 g6 k6
          refine ⟨_, rfl, b, _, rfl, .inr (SqT.of (t6 _ _ (l5.tup _ _ hb4))), _, rfl, z2, fun p2 hp2 => ?_⟩
          have l7 : Le (fun a => a = g) H6 (upd H6 p2 (.tup [.int (((xs.map V.str).length : Nat) : Int), vb])) := Le.new hp2 _
          refine ⟨gotD (xs.length, neatT xs t), gotD (xs.length, neatT xs t), ((dp1'.mono t6).mono l7.tup).dp, (Dv.mk hp2 (.cons (dv_int.mpr (by rw [lx])) (.cons ((hvb.mono l5.tup).mono t6) .nil))).dp, pd_got _, pd_got _, depth_got _ hdn, fun bo hbo => ?_⟩
          have hr : laid (.hole h xs) t G = (bo, G ++ [(h, (xs.length, neatT xs t))]) := by
            rw [laid_hole]; unfold laidH; rw [if_pos hf, hlk, hbo.mpr rfl]
          have := q _ (putK kvs (Sum.inr h) (.ref p1)) (m6.trans l7) (by rw [upd_ne (ne_of_none g6 hp2)]; exact g6) (by rw [hr]; exact k6.mono l7.tup)
          rw [hr] at this
          exact this
      · rw [show ((ys.map fun x => decide (x ∈ xs)).all id) = false from Bool.eq_false_iff.mpr fun z => hf (hall.mp z)]
        refine iteT ?_
        have := q H3 kvs L3.any hg3 (by rw [fin0 hf]; exact hG.mono L3.tup)
        rw [fin0 hf] at this
        exact this
  · have hnh : ¬ (V.str (tag p) = V.str "hole") := by
      cases p with
      | name x => exact s_nh
      | hole h xs => exact absurd ⟨h, xs, rfl⟩ hh
      | form f ps => exact s_fh
    refine ⟨_, rfl, a1, _, 0, _, rfl, rfl, SqT.of ha1, at0, rfl, _, rfl, ifF hnh ?_⟩
    refine ⟨_, rfl, a1, _, 0, _, rfl, rfl, SqT.of ha1, at0, _, rfl, a2, _, 0, _, rfl, rfl, SqT.of ha2, at0, rfl, _, rfl, ?_⟩
    have stop : laid p t G = (false, G) → Q (.bl false) H := fun e => by
      have := q H kvs (Le.refl _) hg (by rw [e]; exact hG)
      rw [e] at this; exact this
    by_cases ht : tag p = tag t
    · rw [show (!decide (V.str (tag p) = V.str (tag t))) = false by rw [ht]; simp]
      refine iteF ?_
      refine ⟨_, rfl, a1, _, 1, _, rfl, rfl, SqT.of ha1, at1, _, rfl, a2, _, 1, _, rfl, rfl, SqT.of ha2, at1, rfl, _, rfl, ?_⟩
      by_cases hw : hdw p = hdw t
      · rw [show (!decide (V.str (hdw p) = V.str (hdw t))) = false by rw [hw]; simp]
        refine iteF ?_
        refine ⟨_, rfl, a1, _, 0, _, rfl, rfl, SqT.of ha1, at0, rfl, _, rfl, ?_⟩
        rcases eq_tags ht with ⟨x, y, rfl, rfl⟩ | ⟨h, xs, h', ys, rfl, rfl⟩ | ⟨f1, ps, f2, qs, rfl, rfl⟩
        · refine ifT rfl ?_
          have e : laid (.name x) (.name y) G = (true, G) := by rw [laid_nn]; exact Prod.ext (decide_eq_true hw) rfl
          have := q H kvs (Le.refl _) hg (by rw [e]; exact hG)
          rw [e] at this; exact this
        · exact absurd ⟨h, xs, rfl⟩ hh
        · refine ifF s_fn ?_
          have hw' : f1 = f2 := hw
          subst hw'
          obtain ⟨a1', b1, w1, e1, ha1', hb1, hw1⟩ := dt_form.mp hv1
          cases e1
          obtain ⟨a2', b2, w2, e2, ha2', hb2, hw2⟩ := dt_form.mp hv2
          cases e2
          cases hal with
          | ff q1 q2 q3 =>
            have hlp := q1 rfl
            have hl1 := hw1.length
            have hl2 := hw2.length
            rw [List.length_map] at hl1 hl2
            have n1 := len_sz (f := f1) (ps := ps)
            have n2 := len_sz (f := f1) (ps := qs)
            have names : ps.map (·.1) = qs.map (·.1) := List.ext_getElem? fun i => by
              rw [List.getElem?_map, List.getElem?_map]
              by_cases hi : i < ps.length
              · obtain ⟨x, ex⟩ := get_ex hi
                obtain ⟨y, ey⟩ := get_ex (l := qs) (i := i) (by omega)
                rw [ex, ey, Option.map_some, Option.map_some, q2 rfl i x y ex ey]
              · rw [List.getElem?_eq_none (by omega), List.getElem?_eq_none (by omega)]
            refine ⟨_, rfl, a1, _, 2, _, rfl, rfl, SqT.of ha1', at2, b1, rfl, ⟨_, SqT.of hb1⟩, fun D hD => ?_⟩
            refine lc_map walk_tup ((ps.map (·.1)).map strsD) hD (smallL (by omega)) (by simp [hl1]) (fun H1 l => SqT.of (l.tup _ _ hb1)) (fun i x d H1 H2 hi hdi l y k1 hk1 => ?_) fun acc H1 l1 hacc hds => ?_
            · obtain ⟨rfl, ex⟩ := y
              obtain ⟨pp, a3, b3, y3, ep, rfl, ha3, hb3, hy3⟩ := part_at (hw1.mono l.tup) ex
              refine ⟨a3, _, rfl, SqT.of ha3, rfl, _, _, rfl, _, _, rfl, rfl, rfl, _, rfl, hk1 _ _ (Le.refl _) ?_⟩
              rw [List.getElem?_map, List.getElem?_map, ep] at hdi
              cases hdi
              exact dv_strs.mpr ⟨b3, rfl, hb3⟩
            refine ⟨_, rfl, a2, _, 2, _, rfl, rfl, SqT.of (l1.tup _ _ ha2'), at2, b2, rfl, ⟨_, SqT.of (l1.tup _ _ hb2)⟩, fun D2 hD2 => ?_⟩
            refine lc_map walk_tup ((qs.map (·.1)).map strsD) hD2 (smallL (by omega)) (by simp [hl2]) (fun H3 l => SqT.of (l.tup _ _ (l1.tup _ _ hb2))) (fun i x d H3 H4 hi hdi l y k1 hk1 => ?_) fun acc2 H3 l3 hacc2 hds2 => ?_
            · obtain ⟨rfl, ex⟩ := y
              obtain ⟨pp, a3, b3, y3, ep, rfl, ha3, hb3, hy3⟩ := part_at (hw2.mono (l1.trans l).tup) ex
              refine ⟨a3, _, rfl, SqT.of ha3, rfl, _, _, rfl, _, _, rfl, rfl, rfl, _, rfl, hk1 _ _ (Le.refl _) ?_⟩
              rw [List.getElem?_map, List.getElem?_map, ep] at hdi
              cases hdi
              exact dv_strs.mpr ⟨b3, rfl, hb3⟩
            have pl : ∀ (l : List (List Str)), pd (.list (l.map strsD)) = true := fun l => by
              rw [pd_lst, pdA_iff]; intro x hx; obtain ⟨y, _, rfl⟩ := List.mem_map.mp hx; exact pd_strs y
            refine ⟨.list ((ps.map (·.1)).map strsD), .list ((qs.map (·.1)).map strsD), .lst (SqL.of (l3.rest _ _ (fun z => z) hacc)) (hds.mono l3.tup).dp, .lst (SqL.of hacc2) hds2.dp, pl _, pl _, Nat.le_trans (depth_lst (n := 1) fun x hx => by obtain ⟨y, _, rfl⟩ := List.mem_map.mp hx; exact depth_strs y) (by omega), fun bo hbo => ⟨bo, rfl, ?_⟩⟩
            rw [show bo = false from Bool.eq_false_iff.mpr fun z => hbo.mp z (by rw [names])]
            refine iteF ?_
            have L3 : Le0 H H3 := l1.trans l3
            have hb1' := L3.tup _ _ hb1
            have hb2' := L3.tup _ _ hb2
            have hg3 := L3.rest _ _ (fun z => z) hg
            refine ⟨_, rfl, a1, _, 2, _, rfl, rfl, SqT.of (L3.tup _ _ ha1'), at2, _, rfl, a2, _, 2, _, rfl, rfl, SqT.of (L3.tup _ _ ha2'), at2, b1, b2, _, _, rfl, .inr ⟨SqT.of hb1', SqT.of hb2', fun D3 hD3 => ?_⟩⟩
            have hzl : (ps.zip qs).length = ps.length := by rw [List.length_zip]; omega
            refine lc_mapN (walk_zipT (n := ps.length) hl1 (by omega)) (fun a => a = g) (fun i H' => ∃ kvs', H' g = some (.dK kvs') ∧ GotK H' kvs' (rr (ps.zip qs) G i).2) (fun i y _ => y = .bl (bb (ps.zip qs) G i)) hD3 (fun a e => by subst e; rw [hg3]; exact fun z => nomatch z) (smallL (by omega)) (fun i H5 H6 t ne ⟨kvs', e5, k5⟩ => ?_) (fun _ _ _ _ _ h => h) ⟨kvs, hg3, hG.mono L3.tup⟩ (fun i H' _ l _ => ⟨SqT.of (l.tup _ _ hb1'), SqT.of (l.tup _ _ hb2')⟩) (fun i x H4 H5 hi l4 hI y k1 hk1 => ?_) fun acc4 H4 l4 hacc4 hlen hI hbs => ?_
            · refine ⟨kvs', ?_, k5.mono t⟩
              rw [ne g fun z => ?_]
              · exact e5
              · rw [← z, hg3] at hD3; cases hD3
            · obtain ⟨T, u1, u2, rfl, hT, rfl, e1, e2⟩ := y
              obtain ⟨kvs4, hg4, k4⟩ := hI
              have t4 : Tu H4 (upd H4 T (.tup [u1, u2])) := Tu.new hT _
              have l5 : Le (fun a => a = g) H4 (upd H4 T (.tup [u1, u2])) := Le.new hT _
              have eT : upd H4 T (.tup [u1, u2]) T = some (.tup [u1, u2]) := upd_same
              have hg5 : upd H4 T (.tup [u1, u2]) g = some (.dK kvs4) := by rw [upd_ne (ne_of_none hg4 hT)]; exact hg4
              generalize upd H4 T (.tup [u1, u2]) = H5 at t4 l5 eT hg5
              have tw : Tu H H5 := Tu.trans (Tu.trans L3.tup l4.tup) t4
              obtain ⟨pp, a3, b3, y3, ep, rfl, ha3, hb3, hy3⟩ := part_at (hw1.mono tw) e1
              obtain ⟨qq, a4, b4, y4, eq4, rfl, ha4, hb4, hy4⟩ := part_at (hw2.mono tw) e2
              refine ⟨T, _, rfl, SqT.of eT, rfl, _, _, rfl, _, _, rfl, rfl, rfl, ?_⟩
              refine ⟨_, rfl, a3, _, 1, _, rfl, rfl, SqT.of ha3, at1, _, rfl, a4, _, 1, _, rfl, rfl, SqT.of ha4, at1, _, rfl, ?_⟩
              have ez : (ps.zip qs)[i]? = some (pp, qq) := by rw [List.getElem?_zip_eq_some]; exact ⟨ep, eq4⟩
              have hm1 := get_mem ep
              have hm2 := get_mem eq4
              have z1 := sz_sub (f := f1) hm1
              have z2 := sz_sub (f := f1) hm2
              have d1 := dp_sub (f := f1) hm1
              have d2 := dp_sub (f := f1) hm2
              cases hnt with
              | form nt1 nt2 nt3 =>
                have ln := nt2 qq hm2
                refine ⟨y3, y4, g, pp.2, qq.2, lv + qq.1.length, _, kvs4, rfl, hy3, hy4, hg5, k4.mono t4, ⟨q3 rfl i pp qq ep eq4, nt3 qq hm2, by omega, by omega, by omega, by omega, by omega⟩, ?_, ?_, fun H6 kvs6 l6 hg6 k6 => ?_⟩
                · have q1 := laid_len (.form f1 (ps.take i)) (.form f1 (qs.take i)) G
                  rw [← rr_laid] at q1
                  have q2 := sz_take (f := f1) ep
                  omega
                · rw [rr_laid]
                  exact laid_dp _ _ _ (Nat.le_trans (dp_take f1 qs i) hd2) hGd
                · refine hk1 _ _ (l5.trans l6) ⟨kvs6, hg6, ?_⟩ ?_
                  · rw [rr_succ ez]; exact k6
                  · show V.bl _ = V.bl (bb _ _ _)
                    unfold bb; rw [ez]
            · obtain ⟨kvs4, hg4, k4⟩ := hI
              have hacc' : acc4 = ((List.range ps.length).map (bb (ps.zip qs) G)).map V.bl := by
                refine List.ext_getElem? fun i => ?_
                rw [List.map_map, List.getElem?_map]
                by_cases hi : i < ps.length
                · obtain ⟨y, ey⟩ := get_ex (l := acc4) (i := i) (by omega)
                  rw [ey, List.getElem?_range hi, hbs i y ey]; rfl
                · rw [List.getElem?_eq_none (by omega), List.getElem?_eq_none (by rw [List.length_range]; omega)]; rfl
              rw [hacc'] at hacc4
              refine ⟨D3, _, rfl, SqL.of hacc4, ?_⟩
              have e : laid (.form f1 ps) (.form f1 qs) G = rr (ps.zip qs) G ps.length := by rw [laid_ff, if_pos rfl, ← rr_end, hzl]
              have := q H4 kvs4 ((L3.any).trans l4) hg4 (by rw [e]; exact k4)
              rw [e, rr_all _ _ _ (by omega)] at this
              exact this
      · rw [show (!decide (V.str (hdw p) = V.str (hdw t))) = true by simp [hw]]
        refine iteT (stop ?_)
        rcases eq_tags ht with ⟨x, y, rfl, rfl⟩ | ⟨h, xs, h', ys, rfl, rfl⟩ | ⟨f1, ps, f2, qs, rfl, rfl⟩
        · rw [laid_nn]; exact Prod.ext (decide_eq_false hw) rfl
        · exact absurd ⟨h, xs, rfl⟩ hh
        · rw [laid_ff, if_neg (show ¬ f1 = f2 from hw)]
    · rw [show (!decide (V.str (tag p) = V.str (tag t))) = true by simp [ht]]
      refine iteT (stop ?_)
      cases p with
      | hole h xs => exact absurd ⟨h, xs, rfl⟩ hh
      | name x =>
        cases t with
        | name y => exact absurd rfl ht
        | hole h ys => rw [laid_nh]
        | form f ps => rw [laid_nf]
      | form f ps =>
        cases t with
        | name y => rw [laid_fn]
        | hole h ys => rw [laid_fh]
        | form f' ps' => exact absurd rfl ht
end
end Nh
/-! ## NhP5 -/
set_option maxHeartbeats 4000000
namespace Nh
open PySem PySem.Spec PyProof.Rows L2
def spRowsGot : Sp := fun vs H Q _ => ∃ (g : Addr) (kvs : List (Key × V)) (G : Got), vs = [.ref g] ∧ H g = some (.dK kvs) ∧ GotK H kvs G ∧ G.length < 64 ∧ (∀ e ∈ G, e.2.1 ≤ 1000) ∧
  ∀ l acc H', Le0 H H' → H l = none → H' l = some (.lst acc) → DvA H' ((rowsG G).map rowD) acc → Q (.ref l) H'
/-- what pattern and term must be -/
structure MatchOk (p t : Tm) (n : Nat) : Prop where
  ali : Ali p t
  np : Nt n p
  nt : Nt n t
  lo : n ≤ 10
  dp1 : dp p ≤ 16
  dp2 : dp t ≤ 16
  s1 : sz p ≤ 60
  s2 : sz t ≤ 1000
/-- a scope: its tuple (frozen or not), names and sorts -/
structure Scp (H : Hp) (a : Addr) (bs : List Str) (ss : List Int) : Prop where
  len : bs.length = ss.length
  at_ : ∃ as : List Addr, Rd H a (.tup (as.map V.ref)) ∧ as.length = bs.length ∧ ∀ (i : Nat) c, as[i]? = some c → ∃ b s, bs[i]? = some b ∧ ss[i]? = some s ∧ H c = some (.tup [.str b, .int s])
theorem Scp.mono {M : Addr → Prop} {H H' : Hp} {a : Addr} {bs : List Str} {ss : List Int} (h : Scp H a bs ss) (l : Le M H H') (hm : ¬ M a) : Scp H' a bs ss := by
  obtain ⟨h1, as, h2, h3, h4⟩ := h
  refine ⟨h1, as, ?_, h3, fun i c e => ?_⟩
  · rcases h2 with h2 | ⟨o, h2⟩
    · exact .inl (l.rest _ _ hm h2)
    · exact .inr ⟨o, l.rest _ _ hm h2⟩
  · obtain ⟨b, s, e1, e2, e3⟩ := h4 i c e
    exact ⟨b, s, e1, e2, l.tup _ _ e3⟩
theorem Scp.of {H : Hp} {v : V} {bs : List Str} {ss : List Int} (hl : bs.length = ss.length) (h : Dv H (scopeD bs ss) v) : ∃ a, v = .ref a ∧ Scp H a bs ss := by
  obtain ⟨a, xs, rfl, ha, hx⟩ := dv_tup.mp h
  obtain ⟨as, rfl, la, q⟩ := dva_scope hl hx
  exact ⟨a, rfl, hl, as, .inl ha, la, q⟩
def spMatch : Sp := fun vs H Q _ => ∃ (tv v1 v2 : V) (a : Addr) (p t : Tm) (ss : List Int), vs = [tv, .ref a, v1, v2] ∧ Scp H a (figs 0 ss.length) ss ∧ Dv H (encT p) v1 ∧ Dv H (encT t) v2 ∧ MatchOk p t ss.length ∧
  (∀ H', Le0 H H' → (laid p t []).1 = false → Q .non H') ∧ ∀ l acc H', Le0 H H' → H l = none → H' l = some (.lst acc) → DvA H' ((rowsG (laid p t []).2).map rowD) acc → (laid p t []).1 = true → Q (.ref l) H'
def spWider : Sp := fun vs H Q _ => ∃ (tv v1 v2 : V) (a : Addr) (p t : Tm) (ss : List Int), vs = [tv, .ref a, v1, v2] ∧ Scp H a (figs 0 ss.length) ss ∧ Dv H (encT p) v1 ∧ Dv H (encT t) v2 ∧ MatchOk p t ss.length ∧
  ∀ H', Le0 H H' → Q (.bl (laid p t []).1) H'
theorem Nt.names {n : Nat} {p : Tm} (h : Nt n p) : ∀ x ∈ Nh.free p, x ∈ figs 0 n := fun x hx => by
  obtain ⟨k, hk, rfl⟩ := h.free x hx
  exact mem_figs.mpr ⟨k, hk, by rw [Nat.zero_add]⟩
theorem Nt.same {n : Nat} {p : Tm} (h : Nt n p) : neatT (figs 0 n) p = p := by
  unfold neatT
  rw [figs_length]
  refine ren_same h _ fun k hk => ?_
  have := bindN_get (ν := fun x => x) (lv := 0) (figs_nodup 0 n) (figs_get (lv := 0) hk)
  rw [Nat.zero_add] at this
  exact this
theorem lookup_mem {α : Type} {G : List (Str × α)} {h : Str} {e : α} (he : G.lookup h = some e) : (h, e) ∈ G := by
  induction G with
  | nil => cases he
  | cons g0 G ih =>
    obtain ⟨gh, ge⟩ := g0
    by_cases hh : h = gh
    · subst hh; rw [List.lookup_cons_self] at he; cases he; exact List.mem_cons_self
    · rw [List.lookup_cons, show (h == gh) = false by simpa using hh] at he
      exact List.mem_cons_of_mem _ (ih he)
theorem lookup_ex {α : Type} {G : List (Str × α)} {h : Str} (hm : h ∈ G.map (·.1)) : ∃ e, G.lookup h = some e := by
  induction G with
  | nil => cases hm
  | cons g0 G ih =>
    obtain ⟨gh, ge⟩ := g0
    by_cases hh : h = gh
    · subst hh; exact ⟨ge, List.lookup_cons_self⟩
    · rw [List.lookup_cons, show (h == gh) = false by simpa using hh]
      rcases List.mem_cons.mp hm with e | hm
      · exact absurd e hh
      · exact ih hm
section
variable {P : Program} {w : World} {K : PySem.W.Frag} {mg : Str → Option Value} {base : Heap} {f : Addr} {fd : FuncData}
abbrev N_rows_got : List Str := ["got", "h"]
theorem sc_rows_got : FnScope N_rows_got ["got"] (defScope s_rows_got) := ⟨rfl, rfl, rfl, by decide +kernel, rfl, by decide +kernel, by decide +kernel⟩
theorem ok_rows_got (F : Fun K "rows_got" "rows_got" s_rows_got f fd) (B : Bt mg) (c_figures : Cal P w K mg base 1 "figures" ["many"] spFigures) : FnOk P w K mg base CX0 2 f fd ["got"] spRowsGot := by
  refine F.ok sc_rows_got (fun vs H Q E h => by obtain ⟨g, kvs, G, rfl, _⟩ := h; rfl) (fun cdv A outer s H vs Q E hr h => ?_)
  obtain ⟨g, kvs, G, rfl, hg, hG, hl, hs, q⟩ := h
  have hu := hu_of hr
  refine ⟨_, (pss_one (ps_ret (pe_lc (own := [("h", 1)]) rfl sc_rows_got.nd (piL (K := K) rfl (pe_callB (call_sortedD rfl) (by rfl) B.sorted bv_sorted (pa_cons (pv 0) pa_nil))) (blkOk_by (own := [("h", 1)]) (N := N_rows_got) (sc := defScope s_rows_got) (by decide +kernel)) (fun _ _ _ _ _ => pg_name (i := 1) sc_rows_got.nd rfl (by first | exact Or.inl rfl | exact Or.inr rfl)) (fun _ _ _ _ _ => pts_nil) (fun _ _ _ _ _ => pe_tup (pa_cons (pv 1) (pa_cons (pe_cal c_figures (hr.mono (by omega)) (by rfl) (pa_cons (pe_ix (ixT (K := K) rfl) (pe_dget hu (pv 0) (pv 1) (fun _ _ => rfl)) (pe_int) (fun _ _ => rfl)) pa_nil)) (pa_cons (pe_ix (ixT (K := K) rfl) (pe_dget hu (pv 0) (pv 1) (fun _ _ => rfl)) (pe_int) (fun _ _ => rfl)) pa_nil))))))), ?_⟩
  refine ⟨_, rfl, g, kvs, G.map (·.1), rfl, .inl hg, by rw [hG.1, List.map_map]; rfl, by rw [List.length_map]; exact hl, fun ys a hp hsd ha => ?_⟩
  have hys := upS_eq hp hsd
  have l1 : Le0 H (upd H a (.lst (ys.map V.str))) := Le.new ha _
  have e1 : upd H a (.lst (ys.map V.str)) a = some (.lst (ys.map V.str)) := upd_same
  generalize upd H a (.lst (ys.map V.str)) = H1 at l1 e1
  have hyl : ys.length = G.length := by rw [hp.length_eq, List.length_map]
  refine ⟨a, rfl, ⟨_, SqL.of e1⟩, fun D hD => ?_⟩
  have hll : (ys.map V.str).length = ys.length := List.length_map _
  refine lc_map walk_list ((rowsG G).map rowD) hD (smallL (by omega)) (by unfold rowsG; rw [List.length_map, List.length_map, ← hys, hll]) (fun H2 l => SqL.of (l.rest _ _ (fun z => z) e1)) (fun i x d H2 H3 hi hd l y k1 hk => ?_) fun acc H2 l hacc hds => ?_
  · obtain ⟨rfl, ex⟩ := y
    rw [List.getElem?_map] at ex
    obtain ⟨h, eh, rfl⟩ := Option.map_eq_some_iff.mp ex
    have hm : h ∈ G.map (·.1) := hp.mem_iff.mp (get_mem eh)
    obtain ⟨e, he⟩ := lookup_ex hm
    have lt := l1.trans l
    have hg3 := lt.rest _ _ (fun z => z) hg
    obtain ⟨v, hv, dv⟩ := ((hG.mono lt.tup).look h).2 e he
    obtain ⟨a1, x1, y1, rfl, ha1, hx1, hy1⟩ := dv_two.mp dv
    rw [dv_int] at hx1; subst hx1
    refine ⟨rfl, _, rfl, _, rfl, _, rfl, g, _, rfl, dget_str (.inl hg3) hv, a1, _, 0, _, rfl, rfl, SqT.of ha1, at0, e.1, rfl, hs _ (lookup_mem he), fun vf H4 l4 hvf => ?_⟩
    have hg4 := l4.rest _ _ (fun z => z) hg3
    refine ⟨_, rfl, _, rfl, g, _, rfl, dget_str (.inl hg4) hv, a1, _, 1, _, rfl, rfl, SqT.of (l4.tup _ _ ha1), at1, z3, fun p hp' => ?_⟩
    refine hk _ _ (l4.trans (Le.new hp' _)) ?_
    have : d = rowD (h, e) := by
      rw [List.getElem?_map] at hd
      unfold rowsG at hd
      rw [List.getElem?_map, ← hys, eh] at hd
      rw [← Option.some.inj hd]
      show rowD (h, (List.lookup h G).getD (0, .name h)) = _
      rw [he]; rfl
    rw [this]
    exact Dv.mk hp' (.cons Dv.str (.cons hvf (.cons (hy1.mono l4.tup) .nil)))
  · exact q D acc _ (l1.trans l) (l1.nil hD) hacc hds
abbrev N_match : List Str := ["tongue", "scope", "pattern", "term", "names", "got", "name", "sort"]
theorem sc_match : FnScope N_match ["tongue", "scope", "pattern", "term"] (defScope s_match) := ⟨rfl, rfl, rfl, by decide +kernel, rfl, by decide +kernel, by decide +kernel⟩
theorem ok_match (F : Fun K "match" "match" s_match f fd) (B : Bt mg) (c_neat : Cal P w K mg base 33 "neat" ["names", "term"] (spNeat 16)) (c_laid_on : Cal P w K mg base 49 "laid_on" ["one", "other", "got"] (spLaid 16))
    (c_rows_got : Cal P w K mg base 2 "rows_got" ["got"] spRowsGot) : FnOk P w K mg base CX0 50 f fd ["tongue", "scope", "pattern", "term"] spMatch := by
  refine F.ok sc_match (fun vs H Q E h => by obtain ⟨tv, v1, v2, a, p, t, ss, rfl, _⟩ := h; rfl) (fun cdv A outer s H vs Q E hr h => ?_)
  obtain ⟨tv, v1, v2, a0, p, t, ss, rfl, h0, h1, h2, ⟨hal, hnp, hnt, hlo, hd1, hd2, hs1, hs2⟩, q0, q1⟩ := h
  have hu := hu_of hr
  refine ⟨_, (pss_cons (ps_set (i := 4) sc_match.nd rfl (by first | exact Or.inl rfl | exact Or.inr rfl) (pe_callTy (tupQ (K := K) rfl) (by rfl) B.tuple bv_tuple (pa_cons (pe_lc (own := [("name", 6), ("sort", 7)]) rfl sc_match.nd (piT (K := K) rfl (pv 1)) (blkOk_by (own := [("name", 6), ("sort", 7)]) (N := N_match) (sc := defScope s_match) (by decide +kernel)) (fun _ _ _ _ _ => pgT (K := K) (n := 2) rfl rfl (pgs_cons (pg_name (i := 6) sc_match.nd rfl (by first | exact Or.inl rfl | exact Or.inr rfl)) (pgs_cons (pg_name (i := 7) sc_match.nd rfl (by first | exact Or.inl rfl | exact Or.inr rfl)) pgs_nil))) (fun _ _ _ _ _ => pts_nil) (fun _ _ _ _ _ => pv 6)) pa_nil)))
  (pss_cons (ps_set (i := 5) sc_match.nd rfl (by first | exact Or.inl rfl | exact Or.inr rfl) (pe_dnewK))
  (pss_cons (ps_if (pt_not (pt_val (pe_cal c_laid_on (hr.mono (by omega)) (by rfl) (pa_cons (pe_cal c_neat (hr.mono (by omega)) (by rfl) (pa_cons (pv 4) (pa_cons (pv 2) pa_nil))) (pa_cons (pe_cal c_neat (hr.mono (by omega)) (by rfl) (pa_cons (pv 4) (pa_cons (pv 3) pa_nil))) (pa_cons (pv 5) pa_nil)))))) (pss_one (ps_ret (pe_non))) pss_nil)
  (pss_one (ps_ret (pe_cal c_rows_got (hr.mono (by omega)) (by rfl) (pa_cons (pv 5) pa_nil))))))), ?_⟩
  have nsc := fun {M : Addr → Prop} {H H' : Hp} (h : Scp H a0 (figs 0 ss.length) ss) (l : Le0 H H') => h.mono l fun z => z
  obtain ⟨hbl, as, ha0, hal0, hat⟩ := h0
  rw [figs_length] at hal0
  have rd0 : ∀ {H'}, Le0 H H' → Rd H' a0 (.tup (as.map V.ref)) := fun l => by
    rcases ha0 with z | ⟨o, z⟩
    · exact .inl (l.rest _ _ (fun z => z) z)
    · exact .inr ⟨o, l.rest _ _ (fun z => z) z⟩
  have hml : (as.map V.ref).length = as.length := List.length_map _
  refine ⟨_, rfl, a0, rfl, ⟨_, .inl ha0⟩, fun D hD => ?_⟩
  refine lc_map walk_tup ((figs 0 ss.length).map strD) hD (smallL (by omega)) (by simp [figs_length, hal0]) (fun H2 l => .inl (rd0 l)) (fun i x d H2 H3 hi hd l y k1 hk => ?_) fun acc H2 l hacc hds => ?_
  · obtain ⟨rfl, ex⟩ := y
    rw [List.getElem?_map] at ex
    obtain ⟨c, ec, rfl⟩ := Option.map_eq_some_iff.mp ex
    obtain ⟨b, sr, eb, es, hc⟩ := hat i c ec
    refine ⟨c, _, rfl, SqT.of (l.tup _ _ hc), rfl, _, _, rfl, _, _, rfl, rfl, rfl, _, rfl, hk _ _ (Le.refl _) ?_⟩
    rw [List.getElem?_map, eb] at hd
    cases hd
    exact Dv.str
  · refine ⟨D, acc, rfl, SqL.of hacc, fun b hb => ?_⟩
    rw [dva_strs] at hds
    subst hds
    have l1 : Le0 H (upd H2 b (.tup ((figs 0 ss.length).map V.str))) := l.trans (Le.new hb _)
    have eb : upd H2 b (.tup ((figs 0 ss.length).map V.str)) b = some (.tup ((figs 0 ss.length).map V.str)) := upd_same
    generalize upd H2 b (.tup ((figs 0 ss.length).map V.str)) = H3 at l1 eb
    refine fun g hg => ?_
    have l2 : Le0 H (upd H3 g (.dK [])) := l1.trans (Le.new hg _)
    have eg : upd H3 g (.dK []) g = some (.dK []) := upd_same
    have eb2 : upd H3 g (.dK []) b = some (.tup ((figs 0 ss.length).map V.str)) := by rw [upd_ne (ne_of_none eb hg)]; exact eb
    have ng : H g = none := l1.nil hg
    generalize upd H3 g (.dK []) = H4 at l2 eg eb2
    have nlo : (figs 0 ss.length).length = ss.length := figs_length _ _
    refine ⟨_, rfl, _, rfl, b, v1, figs 0 ss.length, p, rfl, eb2, h1.mono l2.tup, hnp.names, hnp.thin, hd1, by omega, by omega, by omega, fun u1 H5 l5 hu1 => ?_⟩
    rw [hnp.same] at hu1
    refine ⟨_, rfl, _, rfl, b, v2, figs 0 ss.length, t, rfl, l5.tup _ _ eb2, h2.mono (l2.trans l5).tup, hnt.names, hnt.thin, hd2, by omega, by omega, by omega, fun u2 H6 l6 hu2 => ?_⟩
    rw [hnt.same] at hu2
    have L6 := l5.trans l6
    have eg6 := L6.rest _ _ (fun z => z) eg
    refine ⟨_, rfl, u1, u2, g, p, t, ss.length, [], [], rfl, hu1.mono l6.tup, hu2, eg6, ⟨rfl, .nil⟩, ⟨hal, hnt, by omega, hd1, hd2, by omega, hs2⟩, (by show 0 + sz p ≤ 5000; omega), (fun e he => nomatch he), fun H7 kvs7 l7 eg7 k7 => ?_⟩
    have L7 : Le0 H H7 := by
      have l8 := (l2.trans L6).any (M := fun a => a = g) |>.trans l7
      refine ⟨l8.tup, fun p o hp ho => ?_, l8.dom⟩
      refine l8.rest p o (fun z => ?_) ho
      subst z; rw [ng] at ho; cases ho
    have small := laid_small (n := 1000) p t [] (by omega) (fun e he => nomatch he)
    have hlen := laid_len p t []
    cases e : (laid p t []).1 with
    | false => exact ⟨_, rfl, q0 H7 L7 e⟩
    | true =>
      refine ⟨_, rfl, ?_⟩
      refine ⟨_, rfl, g, kvs7, (laid p t []).2, rfl, eg7, k7, by rw [List.length_nil] at hlen; omega, small, fun l acc H8 l8 hl8 e8 d8 => q1 l acc H8 (L7.trans l8) (L7.nil hl8) e8 d8 e⟩
abbrev N_wider : List Str := ["tongue", "scope", "one", "other"]
theorem sc_wider : FnScope N_wider ["tongue", "scope", "one", "other"] (defScope s_wider) := ⟨rfl, rfl, rfl, by decide +kernel, rfl, by decide +kernel, by decide +kernel⟩
theorem ok_wider (F : Fun K "wider" "wider" s_wider f fd) (B : Bt mg) (c_match : Cal P w K mg base 50 "match" ["tongue", "scope", "pattern", "term"] spMatch) : FnOk P w K mg base CX0 51 f fd ["tongue", "scope", "one", "other"] spWider := by
  refine F.ok sc_wider (fun vs H Q E h => by obtain ⟨tv, v1, v2, a, p, t, ss, rfl, _⟩ := h; rfl) (fun cdv A outer s H vs Q E hr h => ?_)
  obtain ⟨tv, v1, v2, a0, p, t, ss, rfl, h0, h1, h2, hm, q⟩ := h
  refine ⟨_, (pss_one (ps_ret (pe_cmpR op_notN (pe_cal c_match (hr.mono (by omega)) (by rfl) (pa_cons (pv 0) (pa_cons (pv 1) (pa_cons (pv 2) (pa_cons (pv 3) pa_nil))))) pe_non (nomark _)))), ?_⟩
  refine ⟨_, rfl, _, rfl, _, rfl, _, rfl, tv, v1, v2, a0, p, t, ss, rfl, h0, h1, h2, hm, fun H' l e => ?_, fun a acc H' l _ _ _ e => ?_⟩
  · refine ⟨rfl, ?_⟩
    have := q H' l
    rw [e] at this; exact this
  · refine ⟨rfl, ?_⟩
    have := q H' l
    rw [e] at this; exact this
end
end Nh
/-! ## NhM -/
namespace Nh
open PySem PySem.Spec PyProof.Rows L2
/-- a method of the class at C -/
structure MCal (P : Program) (w : World) (K : PySem.W.Frag) (base : Heap) (mg : Str → Option Value) (k : Nat) (C : Addr) (m : Str) (ps : List Str) (sp : Sp) : Prop where
  ex : ∃ f fd, Cls K C ∧ Meth K C m f ∧ FnOk P w K mg base CX0 k f fd ps sp ∧ Binds K fd ps []
theorem MCal.mono {P : Program} {w : World} {K : PySem.W.Frag} {mg : Str → Option Value} {base : Heap} {j k : Nat} {C : Addr} {m : Str} {ps : List Str} {sp : Sp} (c : MCal P w K base mg j C m ps sp) (h : j ≤ k) : MCal P w K base mg k C m ps sp :=
  let ⟨f, fd, a, b, d, e⟩ := c.ex; ⟨f, fd, a, b, d.mono h, e⟩
theorem pe_mcal {X : Cx} {k : Nat} {C : Addr} {m : Str} {ps : List Str} {sp : Sp} {pl : Sem Bool} {o e : Expr} {es : List Expr} {ta : TE} {t : TA} {apos pos : Pos} (c : MCal X.prog X.w X.K X.base X.mg k C m ps sp) (hr : Room k X.A) (he : PE X o ta) (ha : PA X (e :: es) t)
    (hst : starEach (e :: es) X.env = (false, eval e X.env) :: starEach es X.env := by rfl) (hpl : (backTo pos (starEach es X.env)).any (·.1) = false := by rfl)
    (ht : eval (.Call (.Attribute o m apos) (e :: es) [] pos) X.env = (do
      let ov ← eval o X.env
      standAt apos.atName
      let (f, first) ← holding [ov] (getMethod ov m pl)
      callWith pos f first (backTo pos (starEach (e :: es) X.env)) (backToKw pos (keywordEach [] X.env))) := by rfl) :
    PE X (.Call (.Attribute o m apos) (e :: es) [] pos) (tMeth C m sp [] E0 ta t) := by
  obtain ⟨f, fd, a, b, d, g⟩ := c.ex
  exact pe_meth he a b d hr g .nil pass0 ha hst hpl ht
theorem pe_mcal0 {X : Cx} {k : Nat} {C : Addr} {m : Str} {ps : List Str} {sp : Sp} {pl : Sem Bool} {o : Expr} {ta : TE} {apos pos : Pos} (c : MCal X.prog X.w X.K X.base X.mg k C m ps sp) (hr : Room k X.A) (he : PE X o ta)
    (ht : eval (.Call (.Attribute o m apos) [] [] pos) X.env = (do
      let ov ← eval o X.env
      standAt apos.atName
      let (f, first) ← holding [ov] (getMethod ov m pl)
      callWith pos f first (backTo pos (starEach [] X.env)) (backToKw pos (keywordEach [] X.env))) := by rfl) :
    PE X (.Call (.Attribute o m apos) [] [] pos) (tMeth C m sp [] E0 ta tNil) := by
  obtain ⟨f, fd, a, b, d, g⟩ := c.ex
  exact pe_meth0 he a b d hr g .nil pass0 ht
/-- a class that is called by its name -/
structure MkCal (P : Program) (w : World) (K : PySem.W.Frag) (base : Heap) (mg : Str → Option Value) (k : Nat) (C : Addr) (x : Str) (ps : List Str) (sp : Sp) : Prop where
  ex : ∃ f fd, Mk K C f ∧ FnOk P w K mg base CX0 k f fd ps sp ∧ Binds K fd ps [] ∧ mg x = some (.ref C)
theorem pe_mk {X : Cx} {k : Nat} {C : Addr} {x : Str} {ps : List Str} {sp : Sp} {e : Expr} {es : List Expr} {t : TA} {p pos : Pos} (c : MkCal X.prog X.w X.K X.base X.mg k C x ps sp) (hr : Room (k + 1) X.A) (hg : Gl X x) (ha : PA X (e :: es) t)
    (hdb : (x == ("__debug__" : Str)) = false := by decide) (he : starEach (e :: es) X.env = (false, eval e X.env) :: starEach es X.env := by rfl) (hpl : (backTo pos (starEach es X.env)).any (·.1) = false := by rfl) :
    PE X (.Call (.Name x p) (e :: es) [] pos) (tMake C sp [] E0 t) := by
  obtain ⟨f, fd, a, b, d, g⟩ := c.ex
  exact pe_make a b hr hg g d .nil pass0 ha hdb he hpl
end Nh
/-! ## NhP6 -/
set_option maxHeartbeats 4000000
namespace Nh
open PySem PySem.Spec PyProof.Rows L2
def spSortsOf : Sp := fun vs H Q _ => ∃ (a : Addr) (bs : List Str) (ss : List Int), vs = [.ref a] ∧ Scp H a bs ss ∧ ss.length ≤ 1000 ∧ ∀ v H', Le0 H H' → Dv H' (intsD ss) v → Q v H'
def spNeatScope : Sp := fun vs H Q _ => ∃ (v : V) (ss : List Int), vs = [v] ∧ Dv H (intsD ss) v ∧ ss.length ≤ 1000 ∧ ∀ v H', Le0 H H' → Dv H' (scopeD (figs 0 ss.length) ss) v → Q v H'
def spNeatIn : Sp := fun vs H Q _ => ∃ (a : Addr) (v : V) (bs : List Str) (ss : List Int) (t : Tm), vs = [.ref a, v] ∧ Scp H a bs ss ∧ Dv H (encT t) v ∧ (∀ x ∈ free t, x ∈ bs) ∧ Thin t ∧ dp t ≤ 16 ∧ bs.length ≤ 600 ∧ sz t ≤ 1000 ∧
  ∀ v' H', Le0 H H' → Dv H' (encT (neatT bs t)) v' → Q v' H'
def spAllWithin : Sp := fun vs H Q _ => ∃ (v : V) (t : Tm), vs = [v] ∧ Dv H (encT t) v ∧ sz t ≤ 1000 ∧ ∀ (l : Addr) (ts : List Tm) (acc : List V) H', Le0 H H' → H l = none → H' l = some (.lst acc) → DvA H' (ts.map encT) acc → ts.length ≤ 1000 → Q (.ref l) H'
def spBare : Sp := fun vs H Q _ => ∃ (v : V) (t : Tm), vs = [v] ∧ Dv H (encT t) v ∧ sz t ≤ 1000 ∧ ∀ H', Le0 H H' → Q (.bl true) H'
def spTakes : Sp := fun vs H Q _ => ∃ (v : V) (h : Str) (xs : List Str), vs = [v] ∧ Dv H (encT (.hole h xs)) v ∧ xs.Nodup ∧ xs.length ≤ 1000 ∧ ∀ H', Le0 H H' → Q (.bl true) H'
/-- each hole takes unlike names -/
inductive Clr : Tm → Prop
  | name {x : Str} : Clr (.name x)
  | hole {h : Str} {xs : List Str} : xs.Nodup → Clr (.hole h xs)
  | form {f : Str} {ps : List (List Str × Tm)} : (∀ p ∈ ps, Clr p.2) → Clr (.form f ps)
theorem Ty.clr {T : Tg} {Γ : Ctx} {t : Tm} {s : Int} (h : Ty T Γ t s) : Clr t := by
  induction h with
  | name _ => exact .name
  | hole _ _ h => exact .hole h
  | form h1 h2 h3 h4 h5 ih =>
    refine .form fun p hp => ?_
    obtain ⟨i, q, e1, e2⟩ := part_of h2 hp
    exact ih i p q e1 e2
def spClear (n : Nat) : Sp := fun vs H Q _ => ∃ (v : V) (t : Tm), vs = [v] ∧ Dv H (encT t) v ∧ Clr t ∧ dp t ≤ n ∧ sz t ≤ 1000 ∧ ∀ H', Le0 H H' → Q (.bl true) H'
abbrev tellD (r : Str × PyData × Int) : PyData := .tuple [.str r.1, r.2.1, .int r.2.2]
def spTold : Sp := fun vs H Q _ => ∃ (v : V) (x : Str) (rs : List (Str × PyData × Int)) (d : PyData) (s : Int), vs = [v, .str x] ∧ Dv H (.tuple (rs.map tellD)) v ∧ rs.length ≤ 1000 ∧ rs.lookup x = some (d, s) ∧
  ∀ v' H', Le0 H H' → Dv H' (.tuple [d, .int s]) v' → Q v' H'
theorem lookup_first {α : Type} {x : Str} : ∀ {rs : List (Str × α)} {i : Nat} {r : Str × α}, rs[i]? = some r → r.1 = x → (∀ j r', j < i → rs[j]? = some r' → r'.1 ≠ x) → rs.lookup x = some r.2
  | [], i, r, e, _, _ => by simp at e
  | r0 :: rs, 0, r, e, hx, _ => by
    simp at e; subst e; subst hx
    obtain ⟨a, b⟩ := r0
    rw [List.lookup_cons_self]
  | r0 :: rs, i + 1, r, e, hx, hno => by
    have h0 := hno 0 r0 (Nat.succ_pos _) rfl
    obtain ⟨a, b⟩ := r0
    rw [List.lookup_cons, show (x == a) = false by simpa using fun z => h0 z.symm]
    exact lookup_first (rs := rs) (i := i) (by simpa using e) hx fun j r' hj e' => hno (j + 1) r' (by omega) (by simpa using e')
theorem subs_sum (u : Tm) : ((subs u).map fun p => sz p.2).sum + 1 ≤ sz u := by
  cases u with
  | name x => show 0 + 1 ≤ sz (.name x); rw [sz_name]; exact Nat.le_refl _
  | hole h xs =>
    rw [sz_hole]
    show ((xs.map fun x => (([] : List Str), Tm.name x)).map fun p => sz p.2).sum + 1 ≤ _
    rw [List.map_map]
    have : ∀ l : List Str, (l.map ((fun p : List Str × Tm => sz p.2) ∘ fun x => (([] : List Str), Tm.name x))).sum = l.length := by
      intro l
      induction l with
      | nil => rfl
      | cons x l ih => rw [List.map_cons, List.sum_cons, ih, List.length_cons]; show sz (.name x) + _ = _; rw [sz_name]; omega
    rw [this]; omega
  | form f ps => rw [sz_form]; show (ps.map fun p => sz p.2).sum + 1 ≤ _; omega
theorem sum_at {ts : List Tm} {i : Nat} {u : Tm} (e : ts[i]? = some u) : ((ts.drop i).map sz).sum = sz u + ((ts.drop (i + 1)).map sz).sum := by
  obtain ⟨hi, rfl⟩ := List.getElem?_eq_some_iff.mp e
  rw [List.drop_eq_getElem_cons hi, List.map_cons, List.sum_cons]
theorem len_sum (ts : List Tm) : ts.length ≤ (ts.map sz).sum := by
  induction ts with
  | nil => exact Nat.le_refl _
  | cons t ts ih => have := sz_pos t; rw [List.length_cons, List.map_cons, List.sum_cons]; omega
section
variable {P : Program} {w : World} {K : PySem.W.Frag} {mg : Str → Option Value} {base : Heap} {f : Addr} {fd : FuncData}
abbrev N_sorts_of : List Str := ["scope", "name", "sort"]
theorem sc_sorts_of : FnScope N_sorts_of ["scope"] (defScope s_sorts_of) := ⟨rfl, rfl, rfl, by decide +kernel, rfl, by decide +kernel, by decide +kernel⟩
theorem ok_sorts_of (F : Fun K "sorts_of" "sorts_of" s_sorts_of f fd) (B : Bt mg) : FnOk P w K mg base CX0 1 f fd ["scope"] spSortsOf := by
  refine F.ok sc_sorts_of (fun vs H Q E h => by obtain ⟨a, bs, ss, rfl, _⟩ := h; rfl) (fun cdv A outer s H vs Q E hr h => ?_)
  obtain ⟨a, bs, ss, rfl, h0, hs, q⟩ := h
  refine ⟨_, (pss_one (ps_ret (pe_callTy (tupQ (K := K) rfl) (by rfl) B.tuple bv_tuple (pa_cons (pe_lc (own := [("name", 1), ("sort", 2)]) rfl sc_sorts_of.nd (piT (K := K) rfl (pv 0)) (blkOk_by (own := [("name", 1), ("sort", 2)]) (N := N_sorts_of) (sc := defScope s_sorts_of) (by decide +kernel)) (fun _ _ _ _ _ => pgT (K := K) (n := 2) rfl rfl (pgs_cons (pg_name (i := 1) sc_sorts_of.nd rfl (by first | exact Or.inl rfl | exact Or.inr rfl)) (pgs_cons (pg_name (i := 2) sc_sorts_of.nd rfl (by first | exact Or.inl rfl | exact Or.inr rfl)) pgs_nil))) (fun _ _ _ _ _ => pts_nil) (fun _ _ _ _ _ => pv 2)) pa_nil)))), ?_⟩
  obtain ⟨hbl, as, ha0, hal0, hat⟩ := h0
  have rd0 : ∀ {H'}, Le0 H H' → Rd H' a (.tup (as.map V.ref)) := fun l => by
    rcases ha0 with z | ⟨o, z⟩
    · exact .inl (l.rest _ _ (fun z => z) z)
    · exact .inr ⟨o, l.rest _ _ (fun z => z) z⟩
  have hml : (as.map V.ref).length = as.length := List.length_map _
  refine ⟨_, rfl, a, rfl, ⟨_, .inl ha0⟩, fun D hD => ?_⟩
  refine lc_map walk_tup (ss.map PyData.int) hD (smallL (by omega)) (by simp [hal0, hbl]) (fun H2 l => .inl (rd0 l)) (fun i x d H2 H3 hi hd l y k1 hk => ?_) fun acc H2 l hacc hds => ?_
  · obtain ⟨rfl, ex⟩ := y
    rw [List.getElem?_map] at ex
    obtain ⟨c, ec, rfl⟩ := Option.map_eq_some_iff.mp ex
    obtain ⟨b, sr, eb, es, hc⟩ := hat i c ec
    refine ⟨c, _, rfl, SqT.of (l.tup _ _ hc), rfl, _, _, rfl, _, _, rfl, rfl, rfl, _, rfl, hk _ _ (Le.refl _) ?_⟩
    rw [List.getElem?_map, es] at hd
    cases hd
    exact Dv.int
  · refine ⟨D, acc, rfl, SqL.of hacc, fun p hp => ?_⟩
    exact q _ _ (l.trans (Le.new hp _)) (Dv.mk hp hds)
abbrev N_neat_scope : List Str := ["sorts", "k", "sort"]
theorem sc_neat_scope : FnScope N_neat_scope ["sorts"] (defScope s_neat_scope) := ⟨rfl, rfl, rfl, by decide +kernel, rfl, by decide +kernel, by decide +kernel⟩
theorem ok_neat_scope (F : Fun K "neat_scope" "neat_scope" s_neat_scope f fd) (B : Bt mg) : FnOk P w K mg base CX0 1 f fd ["sorts"] spNeatScope := by
  refine F.ok sc_neat_scope (fun vs H Q E h => by obtain ⟨v, ss, rfl, _⟩ := h; rfl) (fun cdv A outer s H vs Q E hr h => ?_)
  obtain ⟨v, ss, rfl, hv, hs, q⟩ := h
  refine ⟨_, (pss_one (ps_ret (pe_callTy (tupQ (K := K) rfl) (by rfl) B.tuple bv_tuple (pa_cons (pe_lc (own := [("k", 1), ("sort", 2)]) rfl sc_neat_scope.nd (enT (K := K) rfl (by rfl) B.enumerate (pa_cons (pv 0) pa_nil)) (blkOk_by (own := [("k", 1), ("sort", 2)]) (N := N_neat_scope) (sc := defScope s_neat_scope) (by decide +kernel)) (fun _ _ _ _ _ => pgT (K := K) (n := 2) rfl rfl (pgs_cons (pg_name (i := 1) sc_neat_scope.nd rfl (by first | exact Or.inl rfl | exact Or.inr rfl)) (pgs_cons (pg_name (i := 2) sc_neat_scope.nd rfl (by first | exact Or.inl rfl | exact Or.inr rfl)) pgs_nil))) (fun _ _ _ _ _ => pts_nil) (fun _ _ _ _ _ => pe_tup (pa_cons (pe_callTy call_str_int (by rfl) B.str bv_str (pa_cons (pv 1) pa_nil)) (pa_cons (pv 2) pa_nil)))) pa_nil)))), ?_⟩
  obtain ⟨b, rfl, hb⟩ := dv_ints.mp hv
  have hlb : (ss.map V.int).length = ss.length := List.length_map _
  refine ⟨_, rfl, b, _, rfl, SqT.of hb, fun D hD => ?_⟩
  refine lc_map walk_enumT (((figs 0 ss.length).zip ss).map fun p => PyData.tuple [.str p.1, .int p.2]) hD (smallL (by omega)) (by simp [figs_length]) (fun H4 l => SqT.of (l.tup _ _ hb)) (fun i x d H4 H5 hi hdi l y k1 hk1 => ?_) fun acc H4 l4 hacc4 hds4 => ?_
  · obtain ⟨T, x1, x2, rfl, hT, rfl, e1, e2⟩ := y
    have hi' : i < ss.length := by omega
    refine ⟨T, _, rfl, SqT.of upd_same, rfl, _, _, rfl, _, _, rfl, rfl, rfl, ?_⟩
    cases e1
    refine ⟨_, rfl, _, rfl, nat_log (by omega) (by omega), _, rfl, z2, fun p hp => ?_⟩
    refine hk1 _ _ ((Le.new hT _).trans (Le.new hp _)) ?_
    obtain ⟨bb, hbb⟩ := get_ex (l := ss) hi'
    simp only [List.getElem?_map, hbb, Option.map_some, Option.some.injEq] at e2
    subst e2
    have : d = .tuple [.str (fig i), .int bb] := by
      rw [List.getElem?_map] at hdi
      obtain ⟨pp, epp, rfl⟩ := Option.map_eq_some_iff.mp hdi
      rw [List.getElem?_zip_eq_some, hbb, figs_get hi', Nat.zero_add] at epp
      obtain ⟨z1, z2⟩ := epp
      rw [← Option.some.inj z1, ← Option.some.inj z2]
    rw [this]
    exact Dv.mk hp (.cons Dv.str (.cons Dv.int .nil))
  · refine ⟨D, acc, rfl, SqL.of hacc4, fun p hp => ?_⟩
    exact q _ _ (l4.trans (Le.new hp _)) (Dv.mk hp hds4)
abbrev N_neat_in : List Str := ["scope", "term", "name", "sort"]
theorem sc_neat_in : FnScope N_neat_in ["scope", "term"] (defScope s_neat_in) := ⟨rfl, rfl, rfl, by decide +kernel, rfl, by decide +kernel, by decide +kernel⟩
theorem ok_neat_in (F : Fun K "neat_in" "neat_in" s_neat_in f fd) (B : Bt mg) (c_neat : Cal P w K mg base 33 "neat" ["names", "term"] (spNeat 16)) : FnOk P w K mg base CX0 34 f fd ["scope", "term"] spNeatIn := by
  refine F.ok sc_neat_in (fun vs H Q E h => by obtain ⟨a, v, bs, ss, t, rfl, _⟩ := h; rfl) (fun cdv A outer s H vs Q E hr h => ?_)
  obtain ⟨a, v, bs, ss, t, rfl, h0, hv, hf, ht, hd, hbs, hsz, q⟩ := h
  refine ⟨_, (pss_one (ps_ret (pe_cal c_neat (hr.mono (by omega)) (by rfl) (pa_cons (pe_callTy (tupQ (K := K) rfl) (by rfl) B.tuple bv_tuple (pa_cons (pe_lc (own := [("name", 2), ("sort", 3)]) rfl sc_neat_in.nd (piT (K := K) rfl (pv 0)) (blkOk_by (own := [("name", 2), ("sort", 3)]) (N := N_neat_in) (sc := defScope s_neat_in) (by decide +kernel)) (fun _ _ _ _ _ => pgT (K := K) (n := 2) rfl rfl (pgs_cons (pg_name (i := 2) sc_neat_in.nd rfl (by first | exact Or.inl rfl | exact Or.inr rfl)) (pgs_cons (pg_name (i := 3) sc_neat_in.nd rfl (by first | exact Or.inl rfl | exact Or.inr rfl)) pgs_nil))) (fun _ _ _ _ _ => pts_nil) (fun _ _ _ _ _ => pv 2)) pa_nil)) (pa_cons (pv 1) pa_nil))))), ?_⟩
  obtain ⟨hbl, as, ha0, hal0, hat⟩ := h0
  have rd0 : ∀ {H'}, Le0 H H' → Rd H' a (.tup (as.map V.ref)) := fun l => by
    rcases ha0 with z | ⟨o, z⟩
    · exact .inl (l.rest _ _ (fun z => z) z)
    · exact .inr ⟨o, l.rest _ _ (fun z => z) z⟩
  have hml : (as.map V.ref).length = as.length := List.length_map _
  refine ⟨_, rfl, a, rfl, ⟨_, .inl ha0⟩, fun D hD => ?_⟩
  refine lc_map walk_tup (bs.map strD) hD (smallL (by omega)) (by simp [hal0]) (fun H2 l => .inl (rd0 l)) (fun i x d H2 H3 hi hd l y k1 hk => ?_) fun acc H2 l hacc hds => ?_
  · obtain ⟨rfl, ex⟩ := y
    rw [List.getElem?_map] at ex
    obtain ⟨c, ec, rfl⟩ := Option.map_eq_some_iff.mp ex
    obtain ⟨b, sr, eb, es, hc⟩ := hat i c ec
    refine ⟨c, _, rfl, SqT.of (l.tup _ _ hc), rfl, _, _, rfl, _, _, rfl, rfl, rfl, _, rfl, hk _ _ (Le.refl _) ?_⟩
    rw [List.getElem?_map, eb] at hd
    cases hd
    exact Dv.str
  · refine ⟨D, acc, rfl, SqL.of hacc, fun p hp => ?_⟩
    rw [dva_strs] at hds
    subst hds
    have l1 : Le0 H (upd H2 p (.tup (bs.map V.str))) := l.trans (Le.new hp _)
    exact ⟨_, rfl, p, v, bs, t, rfl, upd_same, hv.mono l1.tup, hf, ht, hd, by omega, by omega, hsz, fun v' H' l' hv' => q v' H' (l1.trans l') hv'⟩
abbrev N_told_of : List Str := ["rows", "word", "one", "sorts", "sort"]
theorem sc_told_of : FnScope N_told_of ["rows", "word"] (defScope s_told_of) := ⟨rfl, rfl, rfl, by decide +kernel, rfl, by decide +kernel, by decide +kernel⟩
theorem ok_told_of (F : Fun K "told_of" "told_of" s_told_of f fd) (B : Bt mg) : FnOk P w K mg base CX0 1 f fd ["rows", "word"] spTold := by
  refine F.ok sc_told_of (fun vs H Q E h => by obtain ⟨v, x, rs, d, s, rfl, _⟩ := h; rfl) (fun cdv A outer s H vs Q E hr h => ?_)
  obtain ⟨v, x, rs, d, s0, rfl, hv, hl, he, q⟩ := h
  refine ⟨_, (pss_cons (ps_for PassesOwn.never rfl (piT (K := K) rfl (pv 0)) (pgT (K := K) (n := 3) rfl rfl (pgs_cons (pg_name (i := 2) sc_told_of.nd rfl (by first | exact Or.inl rfl | exact Or.inr rfl)) (pgs_cons (pg_name (i := 3) sc_told_of.nd rfl (by first | exact Or.inl rfl | exact Or.inr rfl)) (pgs_cons (pg_name (i := 4) sc_told_of.nd rfl (by first | exact Or.inl rfl | exact Or.inr rfl)) pgs_nil)))) (pss_one (ps_if (pt_cmpR op_eq (pv 2) (pv 1) (nomark _)) (pss_one (ps_ret (pe_tup (pa_cons (pv 3) (pa_cons (pv 4) pa_nil))))) pss_nil)))
  (pss_one (ps_ret (pe_non)))), ?_⟩
  obtain ⟨a, ws, rfl, ha, hw⟩ := dv_tup.mp hv
  have hwl := hw.length
  rw [List.length_map] at hwl
  refine ⟨_, rfl, a, rfl, ⟨_, SqT.of ha⟩, ?_⟩
  refine for_it walk_tup (fun i σ H' => (∃ x1 x2 x3, σ = [some (.ref a), some (.str x), x1, x2, x3]) ∧ H' = H ∧ ∀ j r, j < i → rs[j]? = some r → r.1 ≠ x) ⟨⟨none, none, none, rfl⟩, rfl, fun j r z => absurd z (Nat.not_lt_zero j)⟩ (fun i σ H' _ ⟨_, e, _⟩ => by rw [e]; exact SqT.of ha) (fun i y σ H3 H4 hi hP yy => ?_) fun σ H' hP => ?_
  · obtain ⟨⟨x1, x2, x3, rfl⟩, rfl, hno⟩ := hP
    obtain ⟨rfl, ex⟩ := yy
    obtain ⟨dd, ed, hdd⟩ := hw.get' ex
    rw [List.getElem?_map] at ed
    obtain ⟨r, er, rfl⟩ := Option.map_eq_some_iff.mp ed
    obtain ⟨a1, u1, u2, u3, rfl, ha1, hu1, hu2, hu3⟩ := dv_three.mp hdd
    rw [dv_str] at hu1; rw [dv_int] at hu3
    subst hu1 hu3
    refine ⟨a1, _, rfl, SqT.of ha1, rfl, _, _, rfl, _, _, rfl, _, _, rfl, rfl, ?_⟩
    refine ⟨_, rfl, _, rfl, rfl, _, rfl, ?_⟩
    by_cases hx : r.1 = x
    · refine ifT (by rw [hx]) ?_
      have e2 : rs.lookup x = some r.2 := lookup_first er hx fun j r' hj e => hno j r' hj e
      rw [he] at e2
      have e3 := Option.some.inj e2
      rw [← e3] at hu2
      rw [show r.2.2 = s0 by rw [← e3]]
      exact ⟨_, rfl, _, rfl, z2, fun p hp => q _ _ (Le.new hp _) (Dv.mk hp (.cons hu2 (.cons Dv.int .nil)))⟩
    · refine ifF (fun z => hx (by injection z)) ?_
      refine ⟨⟨_, _, _, rfl⟩, rfl, fun j r' hj er' => ?_⟩
      by_cases hji : j = i
      · subst hji; rw [er] at er'; cases er'; exact hx
      · exact hno j r' (by omega) er'
  · obtain ⟨_, rfl, hno⟩ := hP
    exfalso
    have := lookup_mem he
    obtain ⟨j, hj, e⟩ := mem_get this
    exact hno j _ (by omega) e rfl
abbrev N_all_within : List Str := ["term", "told", "at", "bound", "inner"]
theorem sc_all_within : FnScope N_all_within ["term"] (defScope s_all_within) := ⟨rfl, rfl, rfl, by decide +kernel, rfl, by decide +kernel, by decide +kernel⟩
theorem ok_all_within (F : Fun K "all_within" "all_within" s_all_within f fd) (B : Bt mg) (c_straight_within : Cal P w K mg base 1 "straight_within" ["term"] spWithin) : FnOk P w K mg base CX0 2 f fd ["term"] spAllWithin := by
  refine F.ok sc_all_within (fun vs H Q E h => by obtain ⟨v, t, rfl, _⟩ := h; rfl) (fun cdv A outer s H vs Q E hr h => ?_)
  obtain ⟨v, t, rfl, hv, hs, q⟩ := h
  refine ⟨_, (pss_cons (ps_set (i := 1) sc_all_within.nd rfl (by first | exact Or.inl rfl | exact Or.inr rfl) (pe_lst (pa_cons (pv 0) pa_nil)))
  (pss_cons (ps_set (i := 2) sc_all_within.nd rfl (by first | exact Or.inl rfl | exact Or.inr rfl) (pe_int))
  (pss_cons (ps_while PassesOwn.never (pt_cmpR op_lt (pv 2) (pe_callB (lenQ (K := K) rfl) (by rfl) B.len bv_len (pa_cons (pv 1) pa_nil)) (nomark _)) (pss_cons (ps_expr (pe_bm PySem.F.plainAttrs_list PySem.F.slot_list_extend PySem.F.type_list_extend mt_extend (pv 1) (pa_cons (pe_lc (own := [("bound", 3), ("inner", 4)]) rfl sc_all_within.nd (piL (K := K) rfl (pe_cal c_straight_within (hr.mono (by omega)) (by rfl) (pa_cons (pe_ix (ixL (K := K) rfl) (pv 1) (pv 2) (fun _ _ => rfl)) pa_nil))) (blkOk_by (own := [("bound", 3), ("inner", 4)]) (N := N_all_within) (sc := defScope s_all_within) (by decide +kernel)) (fun _ _ _ _ _ => pgT (K := K) (n := 2) rfl rfl (pgs_cons (pg_name (i := 3) sc_all_within.nd rfl (by first | exact Or.inl rfl | exact Or.inr rfl)) (pgs_cons (pg_name (i := 4) sc_all_within.nd rfl (by first | exact Or.inl rfl | exact Or.inr rfl)) pgs_nil))) (fun _ _ _ _ _ => pts_nil) (fun _ _ _ _ _ => pv 4)) pa_nil)))
  (pss_one (ps_aug (i := 2) sc_all_within.nd rfl (by first | exact Or.inl rfl | exact Or.inr rfl) (pe_int) ip_add))))
  (pss_one (ps_ret (pv 1)))))), ?_⟩
  refine ⟨_, rfl, z1, fun D hD => ?_⟩
  refine ⟨fun m σ H' => ∃ (i : Nat) (ts : List Tm) (vs : List V) (x y : Option V), σ = [some v, some (.ref D), some (.int (i : Nat)), x, y] ∧ Le0 H H' ∧ H' D = some (.lst vs) ∧ DvA H' (ts.map encT) vs ∧ i ≤ ts.length ∧ i + ((ts.drop i).map sz).sum ≤ sz t ∧ m = ((ts.drop i).map sz).sum,
    ⟨sz t, 0, [t], [v], none, none, rfl, Le.new hD _, upd_same, .cons (hv.mono (Tu.new hD _)) .nil, Nat.zero_le _, (by simp), (by simp)⟩, fun m σ H1 ⟨i, ts, vs, x, y, e1, l1, hD1, hvs, hi, hsum, em⟩ => ?_⟩
  subst e1 em
  have hlv := hvs.length
  rw [List.length_map] at hlv
  have hlt : ts.length ≤ 1000 := by
    have := len_sum (ts.drop i)
    rw [List.length_drop] at this
    omega
  have hll : (vs.length : Int) = (ts.length : Int) := by omega
  refine ⟨_, rfl, _, rfl, D, vs, rfl, .inl (SqL.of hD1), ?_⟩
  by_cases hlt2 : i < ts.length
  · refine ⟨_, _, rfl, rfl, _, rfl, ifT (by omega) ?_⟩
    obtain ⟨u, eu⟩ := get_ex hlt2
    obtain ⟨uv, euv⟩ := get_ex (l := vs) (i := i) (by omega)
    have hm := sum_at eu
    have hsub := subs_sum u
    have huv : Dv H1 (encT u) uv := by
      obtain ⟨x1, e1, e2⟩ := hvs.get (by rw [List.getElem?_map, eu]; rfl)
      rw [euv] at e1; cases e1; exact e2
    refine ⟨fun σ' H' => ∃ (x y : Option V) (vs' : List V), σ' = [some v, some (.ref D), some (.int ((i + 1 : Nat) : Int)), x, y] ∧ Le0 H H' ∧ H' D = some (.lst vs') ∧ DvA H' ((ts ++ (subs u).map (·.2)).map encT) vs', fun σ' H' ⟨x', y', vs', e, l', hD', hvs'⟩ => ?_, ?_⟩
    · have hdrop : (((ts ++ (subs u).map (·.2)).drop (i + 1)).map sz).sum = ((ts.drop (i + 1)).map sz).sum + ((subs u).map fun p => sz p.2).sum := by
        rw [List.drop_append_of_le_length (by omega), List.map_append, List.sum_append, List.map_map]; rfl
      refine ⟨_, ?_, i + 1, _, vs', x', y', e, l', hD', hvs', by rw [List.length_append]; omega, by omega, rfl⟩
      omega
    · refine ⟨_, rfl, .inl ⟨rfl, vs, SqL.of hD1⟩, ?_⟩
      refine ⟨_, rfl, _, rfl, D, vs, i, uv, rfl, rfl, SqL.of hD1, atI_nat euv, uv, u, rfl, huv, by omega, fun l acc H2 l2 hnl hl hacc => ⟨l, rfl, ⟨_, SqL.of hl⟩, fun D2 hD2 => ?_⟩⟩
      have hla := hacc.length
      rw [List.length_map] at hla
      have hls := len_subs u
      refine lc_map walk_list (((subs u).map (·.2)).map encT) hD2 (smallL (by omega)) (by simp [hla]) (fun H3 l => SqL.of (l.rest _ _ (fun z => z) hl)) (fun i x d H3 H4 hi hd l y k1 hk => ?_) fun acc2 H3 l3 hacc2 hds => ?_
      · obtain ⟨rfl, ex⟩ := y
        obtain ⟨pp, a3, b3, y3, ep, rfl, ha3, hb3, hy3⟩ := part_at (hacc.mono l.tup) ex
        refine ⟨a3, _, rfl, SqT.of ha3, rfl, _, _, rfl, _, _, rfl, rfl, rfl, _, rfl, hk _ _ (Le.refl _) ?_⟩
        rw [List.getElem?_map, List.getElem?_map, ep] at hd
        cases hd
        exact hy3
      · have hD3 := (l2.trans l3).rest _ _ (fun z => z) hD1
        have hal := hds.length
        rw [List.length_map, List.length_map] at hal
        refine ⟨D, D2, vs, acc2, rfl, rfl, hD3, hacc2, small (by omega), ?_⟩
        have hvs3 := hvs.mono (l2.trans l3).tup
        have t4 : Tu H3 (upd H3 D (.lst (vs ++ acc2))) := Tu.upd hD3 (fun _ q => nomatch q) _
        refine ⟨_, rfl, _, _, rfl, rfl, ?_⟩
        refine ⟨x, y, vs ++ acc2, rfl, ((l1.trans l2).trans l3).chg hD _, upd_same, ?_⟩
        rw [List.map_append]
        exact (hvs3.mono t4).append (hds.mono t4)
  · refine ⟨_, _, rfl, rfl, _, rfl, ifF (by omega) ?_⟩
    exact ⟨_, rfl, q D ts vs H1 l1 hD hD1 hvs hlt⟩
abbrev N_is_bare : List Str := ["term", "one"]
theorem sc_is_bare : FnScope N_is_bare ["term"] (defScope s_is_bare) := ⟨rfl, rfl, rfl, by decide +kernel, rfl, by decide +kernel, by decide +kernel⟩
theorem ok_is_bare (F : Fun K "is_bare" "is_bare" s_is_bare f fd) (B : Bt mg) (c_all_within : Cal P w K mg base 2 "all_within" ["term"] spAllWithin) : FnOk P w K mg base CX0 3 f fd ["term"] spBare := by
  refine F.ok sc_is_bare (fun vs H Q E h => by obtain ⟨v, t, rfl, _⟩ := h; rfl) (fun cdv A outer s H vs Q E hr h => ?_)
  obtain ⟨v, t, rfl, hv, hs, q⟩ := h
  refine ⟨_, (pss_one (ps_ret (pe_not (pe_callB (anyQ (K := K) rfl rfl) (by rfl) B.any bv_any (pa_cons (pe_lc (own := [("one", 1)]) rfl sc_is_bare.nd (piL (K := K) rfl (pe_cal c_all_within (hr.mono (by omega)) (by rfl) (pa_cons (pv 0) pa_nil))) (blkOk_by (own := [("one", 1)]) (N := N_is_bare) (sc := defScope s_is_bare) (by decide +kernel)) (fun _ _ _ _ _ => pg_name (i := 1) sc_is_bare.nd rfl (by first | exact Or.inl rfl | exact Or.inr rfl)) (fun _ _ _ _ _ => pts_nil) (fun _ _ _ _ _ => pe_cmpR op_eq (pe_ix (ixT (K := K) rfl) (pv 1) (pe_int) (fun _ _ => rfl)) (pe_str) (nomark _))) pa_nil))))), ?_⟩
  refine ⟨_, rfl, v, t, rfl, hv, hs, fun l ts acc H1 l1 _ hl hacc hlen => ⟨l, rfl, ⟨_, SqL.of hl⟩, fun D hD => ?_⟩⟩
  have hla := hacc.length
  rw [List.length_map] at hla
  refine lc_mapN walk_list noM (fun _ _ => True) (fun i y _ => y = .bl false) hD (fun _ z => z.elim) (smallL (by omega)) (fun _ _ _ _ _ h => h) (fun _ _ _ _ _ h => h) trivial (fun i H _ l _ => SqL.of (l.rest _ _ (fun z => z) hl)) (fun i x H3 H4 hi l3 _ y k1 hk1 => ?_) fun acc2 H3 l3 hacc2 hlen2 _ hbs => ?_
  · obtain ⟨rfl, ex⟩ := y
    obtain ⟨d, ed, hd⟩ := hacc.get' ex
    rw [List.getElem?_map] at ed
    obtain ⟨u, eu, rfl⟩ := Option.map_eq_some_iff.mp ed
    obtain ⟨a, r, rfl, ha⟩ := dt_head (hd.mono l3.tup)
    refine ⟨rfl, _, rfl, a, _, 0, _, rfl, rfl, SqT.of ha, at0, rfl, hk1 _ _ (Le.refl _) trivial ?_⟩
    have : ¬ (V.str (tag u) = V.str "let") := by
      intro z
      cases u <;> exact absurd z (by simp [tag]; decide)
    show V.bl (decide _) = _
    rw [decide_eq_false this]
  · have hacc2' : acc2 = (List.replicate acc.length false).map V.bl := by
      refine List.ext_getElem? fun i => ?_
      rw [List.getElem?_map]
      by_cases hi : i < acc.length
      · obtain ⟨y, ey⟩ := get_ex (l := acc2) (i := i) (by omega)
        rw [ey, List.getElem?_replicate_of_lt hi, hbs i y ey]; rfl
      · rw [List.getElem?_eq_none (by omega), List.getElem?_eq_none (by rw [List.length_replicate]; omega)]; rfl
    rw [hacc2'] at hacc2
    refine ⟨D, _, rfl, SqL.of hacc2, _, rfl, ?_⟩
    rw [show (List.replicate acc.length false).any id = false by simp]
    exact q _ (l1.trans l3)
abbrev N_takes_names : List Str := ["term", "names", "one"]
theorem sc_takes_names : FnScope N_takes_names ["term"] (defScope s_takes_names) := ⟨rfl, rfl, rfl, by decide +kernel, rfl, by decide +kernel, by decide +kernel⟩
theorem ok_takes_names (F : Fun K "takes_names" "takes_names" s_takes_names f fd) (B : Bt mg) : FnOk P w K mg base CX0 1 f fd ["term"] spTakes := by
  refine F.ok sc_takes_names (fun vs H Q E h => by obtain ⟨v, h', xs, rfl, _⟩ := h; rfl) (fun cdv A outer s H vs Q E hr h => ?_)
  obtain ⟨v, h', xs, rfl, hv, hnd, hx, q⟩ := h
  obtain ⟨a, b, ws, rfl, ha, hb, hw⟩ := dt_hole.mp hv
  have hl := hw.length
  rw [List.length_map] at hl
  refine ⟨_, (pss_cons (ps_setLc (i := 1) (own := [("one", 2)]) rfl sc_takes_names.nd rfl rfl (sw_true rfl rfl rfl (by decide +kernel)) (piT (K := K) rfl (pe_ix (ixT (K := K) rfl) (pv 0) (pe_int) (fun _ _ => rfl))) (blkOk_by (own := [("one", 2)]) (N := N_takes_names) (sc := defScope s_takes_names) (by decide +kernel)) (fun _ _ _ _ _ => pg_name (i := 2) sc_takes_names.nd rfl (by first | exact Or.inl rfl | exact Or.inr rfl)) (fun _ _ _ _ _ => pts_one (pt_cmpR op_eq (pe_ix (ixT (K := K) rfl) (pv 2) (pe_int) (fun _ _ => rfl)) (pe_str) (nomark _))) (fun _ _ _ _ _ => pe_ix (ixT (K := K) rfl) (pv 2) (pe_int) (fun _ _ => rfl)))
  (pss_one (ps_ret (pe_and (pe_cmpR op_eq (pe_callB (lenQ (K := K) rfl) (by rfl) B.len bv_len (pa_cons (pv 1) pa_nil)) (pe_callB (lenQ (K := K) rfl) (by rfl) B.len bv_len (pa_cons (pe_ix (ixT (K := K) rfl) (pv 0) (pe_int) (fun _ _ => rfl)) pa_nil)) (nomark _)) (pe_one (pe_cmpR op_eq (pe_lenSetU (by rfl) B.len (by rfl) B.set (pv 1)) (pe_callB (lenQ (K := K) rfl) (by rfl) B.len bv_len (pa_cons (pv 1) pa_nil)) (nomark _))))))), ?_⟩
  refine ⟨_, rfl, a, _, 2, _, rfl, rfl, SqT.of ha, at2, b, rfl, ⟨_, SqT.of hb⟩, fun D hD => ?_⟩
  refine lc_acc walk_tup noM (fun i acc _ => acc = (xs.take i).map V.str) hD (fun _ z => z.elim) (smallL (by omega)) (fun i acc H H' _ _ _ h => h) rfl (fun i acc H' _ l _ => SqT.of (l.tup _ _ hb)) (fun i x acc2 H7 H8 hi2 l7 _ _ hP2 y2 k1 k0 hk1' hk0' => ?_) fun acc2 H7 l7 hacc7 _ hP2 => ?_
  · obtain ⟨rfl, ex⟩ := y2
    obtain ⟨z, c, ez, rfl, hc⟩ := nm_at (hw.mono l7.tup) ex
    refine ⟨rfl, ?_⟩
    refine ⟨_, rfl, c, _, 0, _, rfl, rfl, SqT.of hc, at0, rfl, _, rfl, ifT rfl ?_⟩
    refine ⟨_, rfl, c, _, 1, _, rfl, rfl, SqT.of hc, at1, hk1' _ _ (Le.refl _) ?_⟩
    rw [List.take_add_one, ez, hP2]
    simp
  · rw [hl, List.take_length] at hP2
    subst hP2
    have hb7 := l7.tup _ _ hb
    have e1 : ((xs.map V.str).length : Int) = (ws.length : Int) := by rw [List.length_map]; omega
    refine ⟨_, rfl, D, _, rfl, .inl (SqL.of hacc7), _, rfl, a, _, 2, _, rfl, rfl, SqT.of (l7.tup _ _ ha), at2, b, _, rfl, .inr (SqT.of hb7), rfl, _, rfl, ifT (by rw [e1]) ?_⟩
    refine ⟨_, rfl, D, xs, rfl, SqL.of hacc7, hnd, by omega, _, rfl, D, _, rfl, .inl (SqL.of hacc7), rfl, ?_⟩
    have e2 : decide (V.int ((xs.length : Nat) : Int) = V.int ((xs.map V.str).length : Int)) = true := decide_eq_true (by rw [List.length_map])
    have := q _ l7
    rw [← e2] at this
    exact this
abbrev N_is_clear : List Str := ["term", "names", "body"]
theorem sc_is_clear : FnScope N_is_clear ["term"] (defScope s_is_clear) := ⟨rfl, rfl, rfl, by decide +kernel, rfl, by decide +kernel, by decide +kernel⟩
theorem ok_is_clear {n : Nat} (F : Fun K "is_clear" "is_clear" s_is_clear f fd) (B : Bt mg) (c_takes_names : Cal P w K mg base 1 "takes_names" ["term"] spTakes) (c_is_clear : Cal P w K mg base (n + 1) "is_clear" ["term"] (spClear n)) : FnOk P w K mg base CX0 (n + 2) f fd ["term"] (spClear (n + 1)) := by
  refine F.ok sc_is_clear (fun vs H Q E h => by obtain ⟨v, t, rfl, _⟩ := h; rfl) (fun cdv A outer s H vs Q E hr h => ?_)
  obtain ⟨v, t, rfl, hv, hc, hd, hs, q⟩ := h
  refine ⟨_, (pss_cons (ps_if (pt_cmpR op_eq (pe_ix (ixT (K := K) rfl) (pv 0) (pe_int) (fun _ _ => rfl)) (pe_str) (nomark _)) (pss_one (ps_ret (pe_bl))) pss_nil)
  (pss_cons (ps_if (pt_cmpR op_eq (pe_ix (ixT (K := K) rfl) (pv 0) (pe_int) (fun _ _ => rfl)) (pe_str) (nomark _)) (pss_one (ps_ret (pe_cal c_takes_names (hr.mono (by omega)) (by rfl) (pa_cons (pv 0) pa_nil)))) pss_nil)
  (pss_one (ps_ret (pe_callB (allQ (K := K) rfl rfl) (by rfl) B.all bv_all (pa_cons (pe_lc (own := [("names", 1), ("body", 2)]) rfl sc_is_clear.nd (piT (K := K) rfl (pe_ix (ixT (K := K) rfl) (pv 0) (pe_int) (fun _ _ => rfl))) (blkOk_by (own := [("names", 1), ("body", 2)]) (N := N_is_clear) (sc := defScope s_is_clear) (by decide +kernel)) (fun _ _ _ _ _ => pgT (K := K) (n := 2) rfl rfl (pgs_cons (pg_name (i := 1) sc_is_clear.nd rfl (by first | exact Or.inl rfl | exact Or.inr rfl)) (pgs_cons (pg_name (i := 2) sc_is_clear.nd rfl (by first | exact Or.inl rfl | exact Or.inr rfl)) pgs_nil))) (fun _ _ _ _ _ => pts_nil) (fun _ _ _ _ _ => pe_cal c_is_clear (hr.mono (by omega)) (by rfl) (pa_cons (pv 2) pa_nil))) pa_nil)))))), ?_⟩
  obtain ⟨a, r, rfl, ha⟩ := dt_head hv
  refine ⟨_, rfl, a, _, 0, _, rfl, rfl, SqT.of ha, at0, rfl, _, rfl, ?_⟩
  cases t with
  | name x => exact ifT rfl (q _ (Le.refl _))
  | hole h xs =>
    refine ifF s_hn ?_
    refine ⟨_, rfl, a, _, 0, _, rfl, rfl, SqT.of ha, at0, rfl, _, rfl, ifT rfl ?_⟩
    cases hc with
    | hole hn => rw [sz_hole] at hs; exact ⟨_, rfl, .ref a, h, xs, rfl, hv, hn, by omega, q⟩
  | form f1 ps =>
    refine ifF s_fn ?_
    refine ⟨_, rfl, a, _, 0, _, rfl, rfl, SqT.of ha, at0, rfl, _, rfl, ifF s_fh ?_⟩
    obtain ⟨a', b, ws, e, ha', hb, hw⟩ := dt_form.mp hv
    cases e
    have hwl := hw.length
    rw [List.length_map] at hwl
    have n1 := len_sz (f := f1) (ps := ps)
    refine ⟨_, rfl, a, _, 2, _, rfl, rfl, SqT.of ha', at2, b, rfl, ⟨_, SqT.of hb⟩, fun D hD => ?_⟩
    refine lc_mapN walk_tup noM (fun _ _ => True) (fun i y _ => y = .bl true) hD (fun _ z => z.elim) (smallL (by omega)) (fun _ _ _ _ _ h => h) (fun _ _ _ _ _ h => h) trivial (fun i H _ l _ => SqT.of (l.tup _ _ hb)) (fun i x H3 H4 hi l3 _ y k1 hk1 => ?_) fun acc2 H3 l3 hacc2 hlen2 _ hbs => ?_
    · obtain ⟨rfl, ex⟩ := y
      obtain ⟨pp, a3, b3, y3, ep, rfl, ha3, hb3, hy3⟩ := part_at (hw.mono l3.tup) ex
      have hm := get_mem ep
      have d1 := dp_sub (f := f1) hm
      have d2 := sz_sub (f := f1) hm
      refine ⟨a3, _, rfl, SqT.of ha3, rfl, _, _, rfl, _, _, rfl, rfl, rfl, _, rfl, y3, pp.2, rfl, hy3, ?_, by omega, by omega, fun H5 l5 => hk1 _ _ l5 trivial rfl⟩
      cases hc with
      | form h => exact h pp hm
    · have hacc2' : acc2 = (List.replicate ws.length true).map V.bl := by
        refine List.ext_getElem? fun i => ?_
        rw [List.getElem?_map]
        by_cases hi : i < ws.length
        · obtain ⟨y, ey⟩ := get_ex (l := acc2) (i := i) (by omega)
          rw [ey, List.getElem?_replicate_of_lt hi, hbs i y ey]; rfl
        · rw [List.getElem?_eq_none (by omega), List.getElem?_eq_none (by rw [List.length_replicate]; omega)]; rfl
      rw [hacc2'] at hacc2
      refine ⟨D, _, rfl, SqL.of hacc2, ?_⟩
      rw [show (List.replicate ws.length true).all id = true by simp]
      exact q _ l3
end
end Nh
/-! ## NhP7 -/
set_option maxHeartbeats 4000000
namespace Nh
open PySem PySem.Spec PyProof.Rows L2
theorem all_bl {b : Bool} {acc : List V} (h : ∀ (i : Nat) y, acc[i]? = some y → y = .bl b) : acc = (List.replicate acc.length b).map V.bl := by
  refine List.ext_getElem? fun i => ?_
  rw [List.getElem?_map]
  by_cases hi : i < acc.length
  · obtain ⟨y, ey⟩ := get_ex hi
    rw [ey, List.getElem?_replicate_of_lt hi, h i y ey]; rfl
  · rw [List.getElem?_eq_none (by omega), List.getElem?_eq_none (by rw [List.length_replicate]; omega)]; rfl
theorem all_rep {n : Nat} : (List.replicate n true).all id = true := by simp
theorem any_rep {n : Nat} : (List.replicate n false).any id = false := by simp
/-! ### a tongue as data -/
abbrev partD (q : List Int × Int) : PyData := .tuple [intsD q.1, .int q.2]
abbrev formD (r : Str × List (List Int × Int) × Int) : PyData := .tuple [.str r.1, .tuple (r.2.1.map partD), .int r.2.2]
abbrev holeD (r : Str × List Int × Int) : PyData := .tuple [.str r.1, intsD r.2.1, .int r.2.2]
abbrev formsD (T : Tg) : PyData := .tuple (T.forms.map formD)
abbrev holesD (T : Tg) : PyData := .tuple (T.holes.map holeD)
abbrev tgD (T : Tg) : PyData := .tuple [formsD T, holesD T]
structure TgFit (T : Tg) : Prop where
  slim : Slim T
  fl : T.forms.length ≤ 1000
  hl : T.holes.length ≤ 1000
theorem lookup_map {α β : Type} (g : α → β) (x : Str) : ∀ (l : List (Str × α)), (l.map fun r => (r.1, g r.2)).lookup x = (l.lookup x).map g
  | [] => rfl
  | (a, b) :: l => by
    rw [List.map_cons]
    by_cases h : x = a
    · subst h; rw [List.lookup_cons_self, List.lookup_cons_self]; rfl
    · rw [List.lookup_cons, List.lookup_cons, show (x == a) = false by simpa using h]
      exact lookup_map g x l
structure SrtK (K : PySem.W.Frag) (C : Addr) : Prop where
  cls : Cls K C
  forms : NoAttr K C "forms"
  holes : NoAttr K C "holes"
structure SrtAt (H : Hp) (a C : Addr) (T : Tg) : Prop where
  ex : ∃ dx vf vh, H a = some (.ins C dx [("forms", vf), ("holes", vh)]) ∧ Dv H (formsD T) vf ∧ Dv H (holesD T) vh
theorem SrtAt.mono {H H' : Hp} {a C : Addr} {T : Tg} (h : SrtAt H a C T) (l : Le0 H H') : SrtAt H' a C T :=
  let ⟨dx, vf, vh, h1, h2, h3⟩ := h.ex; ⟨dx, vf, vh, l.rest _ _ (fun z => z) h1, h2.mono l.tup, h3.mono l.tup⟩
def Kn (kvs : List (Key × V)) (Γ : Ctx) : Prop := ∀ x s, Γ x = some s → valV kvs (Sum.inr x) = some (.int s)
theorem Kn.bind {kvs : List (Key × V)} {Γ : Ctx} {bs : List Str} {ss : List Int} (h : Kn kvs Γ) (hl : bs.length = ss.length) : Kn (mergeK kvs (mergeK [] (prs bs (ss.map V.int)))) (bindG Γ bs ss) := by
  intro x s
  rw [merge_merge, valV_prs]
  have := updF_rel (fun (a : Option Int) (c : Option V) => ∀ s, a = some s → c = some (.int s)) bs (ss.map some) ((ss.map V.int).map some) (by simp [hl]) (by simp [hl]) (fun i a c e1 e2 s es => ?_) Γ (fun x => valV kvs (Sum.inr x)) x (.inr fun s e => h x s e)
  · exact this s
  · subst es
    rw [List.getElem?_map] at e1
    obtain ⟨r, er, e⟩ := Option.map_eq_some_iff.mp e1
    rw [List.getElem?_map, List.getElem?_map, er] at e2
    rw [← Option.some.inj e2, Option.some.inj e]
structure SrtOk (T : Tg) (Γ : Ctx) (t : Tm) (s : Int) (kvs : List (Key × V)) (n : Nat) : Prop where
  fit : TgFit T
  ty : Ty T Γ t s
  kn : Kn kvs Γ
  d : dp t ≤ n
  d2 : kvs.length + 3 * dp t ≤ 5000
  s : sz t ≤ 1000
def spSort (C : Addr) (n : Nat) : Sp := fun vs H Q _ => ∃ (a k : Addr) (v : V) (T : Tg) (Γ : Ctx) (t : Tm) (s : Int) (kvs : List (Key × V)), vs = [.ref a, .ref k, v] ∧ SrtAt H a C T ∧ H k = some (.dK kvs) ∧ Dv H (encT t) v ∧ SrtOk T Γ t s kvs n ∧
  ∀ H', Le0 H H' → Q (.int s) H'
def spSortH (C : Addr) (n : Nat) : Sp := fun vs H Q _ => ∃ (a k : Addr) (v : V) (T : Tg) (Γ : Ctx) (h : Str) (xs : List Str) (s : Int) (kvs : List (Key × V)), vs = [.ref a, .ref k, v] ∧ SrtAt H a C T ∧ H k = some (.dK kvs) ∧ Dv H (encT (.hole h xs)) v ∧ SrtOk T Γ (.hole h xs) s kvs n ∧
  ∀ H', Le0 H H' → Q (.int s) H'
def spSortF (C : Addr) (n : Nat) : Sp := fun vs H Q _ => ∃ (a k : Addr) (v : V) (T : Tg) (Γ : Ctx) (f : Str) (ps : List (List Str × Tm)) (s : Int) (kvs : List (Key × V)), vs = [.ref a, .ref k, v] ∧ SrtAt H a C T ∧ H k = some (.dK kvs) ∧ Dv H (encT (.form f ps)) v ∧ SrtOk T Γ (.form f ps) s kvs n ∧
  ∀ H', Le0 H H' → Q (.int s) H'
def spSrtInit (C : Addr) : Sp := fun vs H Q _ => ∃ (x dx : Addr) (tv : V) (T : Tg), vs = [.ref x, tv] ∧ H x = some (.ins C dx []) ∧ Dv H (tgD T) tv ∧ ∀ H', Le (fun a => a = x) H H' → SrtAt H' x C T → Q .non H'
/-- a frozen scope -/
structure FScp (H : Hp) (a : Addr) (bs : List Str) (ss : List Int) : Prop where
  len : bs.length = ss.length
  at_ : ∃ (o : Obj) (as : List Addr), H a = some (.frz o (.tup (as.map V.ref))) ∧ PlT o ∧ as.length = bs.length ∧ ∀ (i : Nat) c, as[i]? = some c → ∃ b s, bs[i]? = some b ∧ ss[i]? = some s ∧ H c = some (.tup [.str b, .int s])
theorem FScp.mono {M : Addr → Prop} {H H' : Hp} {a : Addr} {bs : List Str} {ss : List Int} (h : FScp H a bs ss) (l : Le M H H') (hm : ¬ M a) : FScp H' a bs ss := by
  obtain ⟨h1, o, as, h2, h5, h3, h4⟩ := h
  refine ⟨h1, o, as, l.rest _ _ hm h2, h5, h3, fun i c e => ?_⟩
  obtain ⟨b, s, e1, e2, e3⟩ := h4 i c e
  exact ⟨b, s, e1, e2, l.tup _ _ e3⟩
theorem FScp.scp {H : Hp} {a : Addr} {bs : List Str} {ss : List Int} (h : FScp H a bs ss) : Scp H a bs ss := by
  obtain ⟨h1, o, as, h2, h5, h3, h4⟩ := h
  exact ⟨h1, as, .inr ⟨o, h2⟩, h3, h4⟩
theorem FScp.pairs {K : PySem.W.Frag} {H : Hp} : ∀ {as : List Addr} {bs : List Str} {ss : List Int}, as.length = bs.length → bs.length = ss.length → (∀ (i : Nat) c, as[i]? = some c → ∃ b s, bs[i]? = some b ∧ ss[i]? = some s ∧ H c = some (.tup [.str b, .int s])) →
    Paired (fun p (kv : Key × V) => SqT K H p [kV kv.1, kv.2]) as (prs bs (ss.map V.int))
  | [], [], [], _, _, _ => .nil
  | a :: as, b :: bs, s :: ss, h1, h2, h => by
    obtain ⟨b', s', e1, e2, e3⟩ := h 0 a rfl
    obtain rfl : b = b' := Option.some.inj e1
    obtain rfl : s = s' := Option.some.inj e2
    exact .cons (SqT.of e3) (FScp.pairs (by simpa using h1) (by simpa using h2) fun i c e => by simpa using h (i + 1) c (by simpa using e))
def spSortIn : Sp := fun vs H Q _ => ∃ (tv : V) (a : Addr) (v : V) (T : Tg) (bs : List Str) (ss : List Int) (t : Tm) (s : Int), vs = [tv, .ref a, v] ∧ Dv H (tgD T) tv ∧ FScp H a bs ss ∧ Dv H (encT t) v ∧ TgFit T ∧ Ty T (bindG noG bs ss) t s ∧ dp t ≤ 16 ∧ sz t ≤ 1000 ∧ bs.length ≤ 600 ∧
  ∀ H', Le0 H H' → Q (.int s) H'
theorem Kn.fresh {bs : List Str} {ss : List Int} (hl : bs.length = ss.length) : Kn (mergeK [] (prs bs (ss.map V.int))) (bindG noG bs ss) := by
  have h : Kn [] noG := fun x s e => nomatch e
  have := h.bind hl
  intro x s e
  have q := this x s e
  rw [merge_merge] at q
  exact q
section
variable {P : Program} {w : World} {K : PySem.W.Frag} {mg : Str → Option Value} {base : Heap} {f : Addr} {fd : FuncData} {C : Addr}
abbrev N_sorter_sort_of : List Str := ["self", "known", "term", "worth", "inner"]
theorem sc_sorter_sort_of : FnScope N_sorter_sort_of ["self", "known", "term"] (defScope s_sorter_sort_of) := ⟨rfl, rfl, rfl, by decide +kernel, rfl, by decide +kernel, by decide +kernel⟩
theorem ok_sort_of {n : Nat} (F : Fun K "sort_of" "Sorter.sort_of" s_sorter_sort_of f fd) (B : Bt mg) (m_sort_of_hole : MCal P w K base mg (2 * n + 2) C "sort_of_hole" ["self", "known", "term"] (spSortH C (n + 1))) (m_sort_of_form : MCal P w K base mg (2 * n + 2) C "sort_of_form" ["self", "known", "term"] (spSortF C (n + 1))) :
    FnOk P w K mg base CX0 (2 * n + 3) f fd ["self", "known", "term"] (spSort C (n + 1)) := by
  refine F.ok sc_sorter_sort_of (fun vs H Q E h => by obtain ⟨a, k, v, T, Γ, t, s, kvs, rfl, _⟩ := h; rfl) (fun cdv A outer s H vs Q E hr h => ?_)
  obtain ⟨a, k, v, T, Γ, t, s0, kvs, rfl, hA, hk, hv, hok, q⟩ := h
  have hu := hu_of hr
  refine ⟨_, (pss_cons (ps_if (pt_cmpR op_eq (pe_ix (ixT (K := K) rfl) (pv 2) (pe_int) (fun _ _ => rfl)) (pe_str) (nomark _)) (pss_one (ps_ret (pe_dget1 hu (pv 1) (pe_ix (ixT (K := K) rfl) (pv 2) (pe_int) (fun _ _ => rfl)) ⟨rfl, rfl, rfl, rfl⟩))) pss_nil)
  (pss_cons (ps_if (pt_cmpR op_eq (pe_ix (ixT (K := K) rfl) (pv 2) (pe_int) (fun _ _ => rfl)) (pe_str) (nomark _)) pss_never pss_nil)
  (pss_cons (ps_if (pt_cmpR op_eq (pe_ix (ixT (K := K) rfl) (pv 2) (pe_int) (fun _ _ => rfl)) (pe_str) (nomark _)) (pss_one (ps_ret (pe_mcal m_sort_of_hole (hr.mono (by omega)) (pv 0) (pa_cons (pv 1) (pa_cons (pv 2) pa_nil))))) pss_nil)
  (pss_one (ps_ret (pe_mcal m_sort_of_form (hr.mono (by omega)) (pv 0) (pa_cons (pv 1) (pa_cons (pv 2) pa_nil)))))))), ?_⟩
  obtain ⟨dx, vf, vh, hA1, hA2, hA3⟩ := hA.ex
  cases t with
  | name x =>
    obtain ⟨b, rfl, hb⟩ := dt_name.mp hv
    refine ⟨_, rfl, b, _, 0, _, rfl, rfl, SqT.of hb, at0, rfl, _, rfl, ifT rfl ?_⟩
    have hx : valV kvs (Sum.inr x) = some (.int s0) := by
      cases hok.ty with
      | name h => exact hok.kn x s0 h
    exact ⟨_, rfl, k, rfl, .inl ⟨kvs, .inl hk⟩, _, rfl, b, _, 1, _, rfl, rfl, SqT.of hb, at1, _, dget_str (.inl hk) hx, q H (Le.refl _)⟩
  | hole h xs =>
    obtain ⟨b, r, rfl, hb⟩ := dt_head hv
    refine ⟨_, rfl, b, _, 0, _, rfl, rfl, SqT.of hb, at0, rfl, _, rfl, ifF s_hn ?_⟩
    refine ⟨_, rfl, b, _, 0, _, rfl, rfl, SqT.of hb, at0, rfl, _, rfl, ifF s_hl ?_⟩
    refine ⟨_, rfl, b, _, 0, _, rfl, rfl, SqT.of hb, at0, rfl, _, rfl, ifT rfl ?_⟩
    exact ⟨_, rfl, a, dx, _, rfl, hA1, rfl, _, rfl, _, rfl, a, k, .ref b, T, Γ, h, xs, s0, kvs, rfl, hA, hk, hv, hok, q⟩
  | form f1 ps =>
    obtain ⟨b, r, rfl, hb⟩ := dt_head hv
    refine ⟨_, rfl, b, _, 0, _, rfl, rfl, SqT.of hb, at0, rfl, _, rfl, ifF s_fn ?_⟩
    refine ⟨_, rfl, b, _, 0, _, rfl, rfl, SqT.of hb, at0, rfl, _, rfl, ifF s_fl ?_⟩
    refine ⟨_, rfl, b, _, 0, _, rfl, rfl, SqT.of hb, at0, rfl, _, rfl, ifF s_fh ?_⟩
    exact ⟨_, rfl, a, dx, _, rfl, hA1, rfl, _, rfl, _, rfl, a, k, .ref b, T, Γ, f1, ps, s0, kvs, rfl, hA, hk, hv, hok, q⟩
abbrev N_sorter_sort_of_hole : List Str := ["self", "known", "term", "told", "one", "sort"]
theorem sc_sorter_sort_of_hole : FnScope N_sorter_sort_of_hole ["self", "known", "term"] (defScope s_sorter_sort_of_hole) := ⟨rfl, rfl, rfl, by decide +kernel, rfl, by decide +kernel, by decide +kernel⟩
theorem ok_sort_of_hole {n : Nat} (F : Fun K "sort_of_hole" "Sorter.sort_of_hole" s_sorter_sort_of_hole f fd) (B : Bt mg) (SK : SrtK K C) (c_told_of : Cal P w K mg base 1 "told_of" ["rows", "word"] spTold) (m_sort_of : MCal P w K base mg (2 * n + 1) C "sort_of" ["self", "known", "term"] (spSort C n)) :
    FnOk P w K mg base CX0 (2 * n + 2) f fd ["self", "known", "term"] (spSortH C (n + 1)) := by
  refine F.ok sc_sorter_sort_of_hole (fun vs H Q E h => by obtain ⟨a, k, v, T, Γ, hh, xs, s, kvs, rfl, _⟩ := h; rfl) (fun cdv A outer s H vs Q E hr h => ?_)
  obtain ⟨a, k, v, T, Γ, hh, xs, s0, kvs, rfl, hA, hk, hv, ⟨hfit, hty, hkn, hd, hd2, hs⟩, q⟩ := h
  refine ⟨_, (pss_cons (ps_set (i := 3) sc_sorter_sort_of_hole.nd rfl (by first | exact Or.inl rfl | exact Or.inr rfl) (pe_cal c_told_of (hr.mono (by omega)) (by rfl) (pa_cons (fldQ (K := K) rfl (pv 0)) (pa_cons (pe_ix (ixT (K := K) rfl) (pv 2) (pe_int) (fun _ _ => rfl)) pa_nil))))
  (pss_cons (ps_if (PW.pt (pw_or (pt_cmpR op_isN (pv 3) pe_non (nomark _)) (pw_or1 (pt_cmpR op_ne (pe_callB (lenQ (K := K) rfl) (by rfl) B.len bv_len (pa_cons (pe_ix (ixT (K := K) rfl) (pv 3) (pe_int) (fun _ _ => rfl)) pa_nil)) (pe_callB (lenQ (K := K) rfl) (by rfl) B.len bv_len (pa_cons (pe_ix (ixT (K := K) rfl) (pv 2) (pe_int) (fun _ _ => rfl)) pa_nil)) (nomark _))))) (pss_one (ps_ret (pe_non))) pss_nil)
  (pss_cons (ps_if (pt_not (pt_val (pe_callB (allQ (K := K) rfl rfl) (by rfl) B.all bv_all (pa_cons (pe_lc (own := [("one", 4), ("sort", 5)]) rfl sc_sorter_sort_of_hole.nd (zpQ (K := K) rfl (by rfl) B.zip (pa_cons (pe_ix (ixT (K := K) rfl) (pv 2) (pe_int) (fun _ _ => rfl)) (pa_cons (pe_ix (ixT (K := K) rfl) (pv 3) (pe_int) (fun _ _ => rfl)) pa_nil))) (blkOk_by (own := [("one", 4), ("sort", 5)]) (N := N_sorter_sort_of_hole) (sc := defScope s_sorter_sort_of_hole) (by decide +kernel)) (fun _ _ _ _ _ => pgT (K := K) (n := 2) rfl rfl (pgs_cons (pg_name (i := 4) sc_sorter_sort_of_hole.nd rfl (by first | exact Or.inl rfl | exact Or.inr rfl)) (pgs_cons (pg_name (i := 5) sc_sorter_sort_of_hole.nd rfl (by first | exact Or.inl rfl | exact Or.inr rfl)) pgs_nil))) (fun _ _ _ _ _ => pts_nil) (fun _ _ _ _ _ => pe_cmpR op_eq (pe_mcal m_sort_of (hr.mono (by omega)) (pv 0) (pa_cons (pv 1) (pa_cons (pv 4) pa_nil))) (pv 5) (nomark _))) pa_nil)))) (pss_one (ps_ret (pe_non))) pss_nil)
  (pss_one (ps_ret (pe_ix (ixT (K := K) rfl) (pv 3) (pe_int) (fun _ _ => rfl))))))), ?_⟩
  obtain ⟨dx, vf, vh, hA1, hA2, hA3⟩ := hA.ex
  obtain ⟨b, c, ws, rfl, hb, hc, hw⟩ := dt_hole.mp hv
  have hwl := hw.length
  rw [List.length_map] at hwl
  rw [sz_hole] at hs
  cases hty with
  | @hole _ _ _ ss _ h1 h2 h3 =>
    have hlk : (T.holes.map fun r => (r.1, intsD r.2.1, r.2.2)).lookup hh = some (intsD ss, s0) := by
      have := lookup_map (fun r : List Int × Int => (intsD r.1, r.2)) hh T.holes
      rw [h1] at this; exact this
    have hsl : xs.length = ss.length := by have := congrArg List.length h2; simpa using this
    refine ⟨_, rfl, a, C, dx, _, _, rfl, hA1, SK.cls, SK.holes, rfl, _, rfl, b, _, 1, _, rfl, rfl, SqT.of hb, at1, ?_⟩
    refine ⟨vh, hh, T.holes.map fun r => (r.1, intsD r.2.1, r.2.2), intsD ss, s0, rfl, by rw [List.map_map]; exact hA3, by rw [List.length_map]; exact hfit.hl, hlk, fun u H1 l1 hu1 => ?_⟩
    obtain ⟨ta, x1, x2, rfl, hta, hx1, hx2⟩ := dv_two.mp hu1
    rw [dv_int] at hx2; subst hx2
    obtain ⟨ia, rfl, hia⟩ := dv_ints.mp hx1
    have hb1 := l1.tup _ _ hb
    have hc1 := l1.tup _ _ hc
    have hil : (ss.map V.int).length = ss.length := List.length_map _
    refine ⟨_, rfl, rfl, _, rfl, ifF (fun z => nomatch z) ?_⟩
    refine ⟨_, rfl, ta, _, 0, _, rfl, rfl, SqT.of hta, at0, ia, _, rfl, .inr (SqT.of hia), _, rfl, b, _, 2, _, rfl, rfl, SqT.of hb1, at2, c, _, rfl, .inr (SqT.of hc1), rfl, _, rfl, ?_⟩
    rw [show (!decide (V.int ((ss.map V.int).length : Int) = V.int (ws.length : Int))) = false by rw [decide_eq_true (by rw [hil, hwl, hsl])]; rfl]
    refine iteF ?_
    have hd' : ∀ x, dp (.name x) ≤ n ∨ xs = [] := fun x => by
      cases xs with
      | nil => exact .inr rfl
      | cons y ys =>
        refine .inl ?_
        rw [dp_hole, List.map_cons] at hd
        rw [dp_name]
        have : (1 : Nat) ≤ maxs (1 :: ys.map fun _ => 1) := le_maxs List.mem_cons_self
        omega
    refine ⟨_, rfl, b, _, 2, _, rfl, rfl, SqT.of hb1, at2, _, rfl, ta, _, 0, _, rfl, rfl, SqT.of hta, at0, c, ia, _, _, rfl, .inr ⟨SqT.of hc1, SqT.of hia, fun D hD => ?_⟩⟩
    refine lc_mapN (walk_zipT (n := xs.length) hwl (by omega)) noM (fun _ _ => True) (fun i y _ => y = .bl true) hD (fun _ z => z.elim) (smallL (by omega)) (fun _ _ _ _ _ h => h) (fun _ _ _ _ _ h => h) trivial (fun i H _ l _ => ⟨SqT.of (l.tup _ _ hc1), SqT.of (l.tup _ _ hia)⟩) (fun i x H3 H4 hi l3 _ y k1 hk1 => ?_) fun acc2 H3 l3 hacc2 hlen2 _ hbs => ?_
    · obtain ⟨U, u1, u2, rfl, hU, rfl, e1, e2⟩ := y
      have l4 : Le0 H (upd H3 U (.tup [u1, u2])) := (l1.trans l3).trans (Le.new hU _)
      have l34 : Le0 H3 (upd H3 U (.tup [u1, u2])) := Le.new hU _
      have eU : upd H3 U (.tup [u1, u2]) U = some (.tup [u1, u2]) := upd_same
      generalize upd H3 U (.tup [u1, u2]) = H5 at l4 l34 eU
      obtain ⟨x, ex⟩ := get_ex (l := xs) (i := i) hi
      obtain ⟨r, er⟩ := get_ex (l := ss) (i := i) (by omega)
      have e2 : (ss.map V.int)[i]? = some u2 := e2
      rw [List.getElem?_map, er] at e2
      obtain rfl := Option.some.inj e2
      obtain ⟨dd, ed, hdd⟩ := hw.get' e1
      rw [List.getElem?_map, ex] at ed
      obtain rfl := Option.some.inj ed
      have hx : Γ x = some r := by
        have := congrArg (fun l => l[i]?) h2
        simp only [List.getElem?_map, ex, er, Option.map_some, Option.some.injEq] at this
        exact this
      have dx1 : dp (.name x) ≤ n := (hd' x).resolve_right fun z => by rw [z] at hi; exact absurd hi (Nat.not_lt_zero _)
      have dx2 : dp (.name x) = 1 := dp_name x
      have sx : sz (.name x) = 1 := sz_name x
      have dpos := dp_pos (.hole hh xs)
      refine ⟨U, _, rfl, SqT.of eU, rfl, _, _, rfl, _, _, rfl, rfl, rfl, ?_⟩
      refine ⟨_, rfl, a, dx, _, rfl, l4.rest _ _ (fun z => z) hA1, rfl, _, rfl, _, rfl, ?_⟩
      refine ⟨a, k, u1, T, Γ, .name x, r, kvs, rfl, hA.mono l4, l4.rest _ _ (fun z => z) hk, ?_, ⟨hfit, .name hx, hkn, dx1, by omega, by omega⟩, fun H6 l6 => ?_⟩
      · rw [encT_name]; exact hdd.mono l4.tup
      · refine ⟨_, rfl, rfl, ?_⟩
        exact hk1 _ _ (l34.trans l6) trivial (by rw [decide_eq_true rfl])
    · rw [all_bl hbs] at hacc2
      refine ⟨D, _, rfl, SqL.of hacc2, _, rfl, ?_⟩
      rw [all_rep]
      refine iteF ?_
      exact ⟨_, rfl, ta, _, 1, _, rfl, rfl, SqT.of (l3.tup _ _ hta), at1, q _ (l1.trans l3)⟩
abbrev N_sorter_sort_of_form : List Str := ["self", "known", "term", "told", "inner", "names", "body", "sorts", "sort"]
theorem sc_sorter_sort_of_form : FnScope N_sorter_sort_of_form ["self", "known", "term"] (defScope s_sorter_sort_of_form) := ⟨rfl, rfl, rfl, by decide +kernel, rfl, by decide +kernel, by decide +kernel⟩
theorem ok_sort_of_form {n : Nat} (F : Fun K "sort_of_form" "Sorter.sort_of_form" s_sorter_sort_of_form f fd) (B : Bt mg) (SK : SrtK K C) (c_told_of : Cal P w K mg base 1 "told_of" ["rows", "word"] spTold) (m_sort_of : MCal P w K base mg (2 * n + 1) C "sort_of" ["self", "known", "term"] (spSort C n)) :
    FnOk P w K mg base CX0 (2 * n + 2) f fd ["self", "known", "term"] (spSortF C (n + 1)) := by
  refine F.ok sc_sorter_sort_of_form (fun vs H Q E h => by obtain ⟨a, k, v, T, Γ, hh, xs, s, kvs, rfl, _⟩ := h; rfl) (fun cdv A outer s H vs Q E hr h => ?_)
  obtain ⟨a, k, v, T, Γ, f1, ps, s0, kvs, rfl, hA, hk, hv, ⟨hfit, hty, hkn, hd, hd2, hs⟩, q⟩ := h
  have hu := hu_of hr
  refine ⟨_, (pss_cons (ps_set (i := 3) sc_sorter_sort_of_form.nd rfl (by first | exact Or.inl rfl | exact Or.inr rfl) (pe_cal c_told_of (hr.mono (by omega)) (by rfl) (pa_cons (fldQ (K := K) rfl (pv 0)) (pa_cons (pe_ix (ixT (K := K) rfl) (pv 2) (pe_int) (fun _ _ => rfl)) pa_nil))))
  (pss_cons (ps_if (PW.pt (pw_or (pt_cmpR op_isN (pv 3) pe_non (nomark _)) (pw_or1 (pt_cmpR op_ne (pe_callB (lenQ (K := K) rfl) (by rfl) B.len bv_len (pa_cons (pe_ix (ixT (K := K) rfl) (pv 3) (pe_int) (fun _ _ => rfl)) pa_nil)) (pe_callB (lenQ (K := K) rfl) (by rfl) B.len bv_len (pa_cons (pe_ix (ixT (K := K) rfl) (pv 2) (pe_int) (fun _ _ => rfl)) pa_nil)) (nomark _))))) (pss_one (ps_ret (pe_non))) pss_nil)
  (pss_cons (ps_for PassesOwn.never rfl (zpQ (K := K) rfl (by rfl) B.zip (pa_cons (pe_ix (ixT (K := K) rfl) (pv 2) (pe_int) (fun _ _ => rfl)) (pa_cons (pe_ix (ixT (K := K) rfl) (pv 3) (pe_int) (fun _ _ => rfl)) pa_nil))) (pgT (K := K) (n := 2) rfl rfl (pgs_cons (pgT (K := K) (n := 2) rfl rfl (pgs_cons (pg_name (i := 5) sc_sorter_sort_of_form.nd rfl (by first | exact Or.inl rfl | exact Or.inr rfl)) (pgs_cons (pg_name (i := 6) sc_sorter_sort_of_form.nd rfl (by first | exact Or.inl rfl | exact Or.inr rfl)) pgs_nil))) (pgs_cons (pgT (K := K) (n := 2) rfl rfl (pgs_cons (pg_name (i := 7) sc_sorter_sort_of_form.nd rfl (by first | exact Or.inl rfl | exact Or.inr rfl)) (pgs_cons (pg_name (i := 8) sc_sorter_sort_of_form.nd rfl (by first | exact Or.inl rfl | exact Or.inr rfl)) pgs_nil))) pgs_nil))) (pss_cons (ps_set (i := 4) sc_sorter_sort_of_form.nd rfl (by first | exact Or.inl rfl | exact Or.inr rfl) (pe_callTy call_dictD (by rfl) B.dict bv_dict (pa_cons (pv 1) pa_nil)))
  (pss_cons (ps_expr (pe_bm PySem.F.plainAttrs_dict PySem.F.slot_dict_update PySem.F.type_dict_update (mt_upd rfl) (pv 4) (pa_cons (pe_dictZip (by rfl) B.dict (by rfl) B.zip (pa_cons (pv 5) (pa_cons (pv 7) pa_nil))) pa_nil)))
  (pss_one (ps_if (PW.pt (pw_or (pt_cmpR op_ne (pe_callB (lenQ (K := K) rfl) (by rfl) B.len bv_len (pa_cons (pv 5) pa_nil)) (pe_callB (lenQ (K := K) rfl) (by rfl) B.len bv_len (pa_cons (pv 7) pa_nil)) (nomark _)) (pw_or1 (pt_cmpR op_ne (pe_mcal m_sort_of (hr.mono (by omega)) (pv 0) (pa_cons (pv 4) (pa_cons (pv 6) pa_nil))) (pv 8) (nomark _))))) (pss_one (ps_ret (pe_non))) pss_nil)))))
  (pss_one (ps_ret (pe_ix (ixT (K := K) rfl) (pv 3) (pe_int) (fun _ _ => rfl))))))), ?_⟩
  obtain ⟨dx, vf, vh, hA1, hA2, hA3⟩ := hA.ex
  obtain ⟨b, c, ws, rfl, hb, hc, hw⟩ := dt_form.mp hv
  have hwl := hw.length
  rw [List.length_map] at hwl
  have n1 := len_sz (f := f1) (ps := ps)
  cases hty with
  | @form _ _ _ pts _ h1 h2 h3 h4 h5 =>
    have hlk : (T.forms.map fun r => (r.1, PyData.tuple (r.2.1.map partD), r.2.2)).lookup f1 = some (.tuple (pts.map partD), s0) := by
      have := lookup_map (fun r : List (List Int × Int) × Int => (PyData.tuple (r.1.map partD), r.2)) f1 T.forms
      rw [h1] at this; exact this
    refine ⟨_, rfl, a, C, dx, _, _, rfl, hA1, SK.cls, SK.forms, rfl, _, rfl, b, _, 1, _, rfl, rfl, SqT.of hb, at1, ?_⟩
    refine ⟨vf, f1, T.forms.map fun r => (r.1, PyData.tuple (r.2.1.map partD), r.2.2), .tuple (pts.map partD), s0, rfl, by rw [List.map_map]; exact hA2, by rw [List.length_map]; exact hfit.fl, hlk, fun u H1 l1 hu1 => ?_⟩
    obtain ⟨ta, x1, x2, rfl, hta, hx1, hx2⟩ := dv_two.mp hu1
    rw [dv_int] at hx2; subst hx2
    obtain ⟨ia, qs, rfl, hia, hqs⟩ := dv_tup.mp hx1
    have hb1 := l1.tup _ _ hb
    have hc1 := l1.tup _ _ hc
    have hil := hqs.length
    rw [List.length_map] at hil
    refine ⟨_, rfl, rfl, _, rfl, ifF (fun z => nomatch z) ?_⟩
    refine ⟨_, rfl, ta, _, 0, _, rfl, rfl, SqT.of hta, at0, ia, _, rfl, .inr (SqT.of hia), _, rfl, b, _, 2, _, rfl, rfl, SqT.of hb1, at2, c, _, rfl, .inr (SqT.of hc1), rfl, _, rfl, ?_⟩
    rw [show (!decide (V.int (qs.length : Int) = V.int (ws.length : Int))) = false by rw [decide_eq_true (by rw [hil, hwl, h2])]; rfl]
    refine iteF ?_
    refine ⟨_, rfl, b, _, 2, _, rfl, rfl, SqT.of hb1, at2, _, rfl, ta, _, 0, _, rfl, rfl, SqT.of hta, at0, c, ia, _, _, rfl, .inr ⟨SqT.of hc1, SqT.of hia, ?_⟩⟩
    refine for_it (walk_zipT (n := ps.length) hwl (by omega)) (fun i σ H' => (∃ x1 x2 x3 x4 x5, σ = [some (.ref a), some (.ref k), some (.ref b), some (.ref ta), x1, x2, x3, x4, x5]) ∧ Le0 H1 H') ⟨⟨none, none, none, none, none, rfl⟩, Le.refl _⟩ (fun i σ H' _ ⟨_, l⟩ => ⟨SqT.of (l.tup _ _ hc1), SqT.of (l.tup _ _ hia)⟩) (fun i x σ H3 H4 hi hP y => ?_) fun σ H' hP => ?_
    · obtain ⟨⟨y1, y2, y3, y4, y5, rfl⟩, l3⟩ := hP
      obtain ⟨U, u1, u2, rfl, hU, rfl, e1, e2⟩ := y
      have l34 : Le0 H1 (upd H3 U (.tup [u1, u2])) := l3.trans (Le.new hU _)
      have eU : upd H3 U (.tup [u1, u2]) U = some (.tup [u1, u2]) := upd_same
      generalize upd H3 U (.tup [u1, u2]) = H5 at l34 eU
      have L5 := l1.trans l34
      obtain ⟨pp, a3, b3, w3, ep, rfl, ha3, hb3, hw3⟩ := part_at (hw.mono L5.tup) e1
      obtain ⟨dd, ed, hdd⟩ := (hqs.mono l34.tup).get' e2
      rw [List.getElem?_map] at ed
      obtain ⟨pt, ept, rfl⟩ := Option.map_eq_some_iff.mp ed
      obtain ⟨a4, z1, z2, rfl, ha4, hz1, hz2⟩ := dv_two.mp hdd
      rw [dv_int] at hz2; subst hz2
      obtain ⟨b4, rfl, hb4⟩ := dv_ints.mp hz1
      have hlen := h3 i pp pt ep ept
      have hm := get_mem ep
      have d1 := dp_sub (f := f1) hm
      have s1 := sz_sub (f := f1) hm
      have slim := hfit.slim f1 pts s0 h1 pt (get_mem ept)
      refine ⟨U, _, rfl, SqT.of eU, rfl, _, _, rfl, ⟨a3, _, rfl, SqT.of ha3, rfl, _, _, rfl, _, _, rfl, rfl, ?_⟩⟩
      refine ⟨_, _, rfl, ⟨a4, _, rfl, SqT.of ha4, rfl, _, _, rfl, _, _, rfl, rfl, rfl, ?_⟩⟩
      have hk5 := L5.rest _ _ (fun z => z) hk
      refine ⟨_, rfl, k, kvs, rfl, .inl hk5, fun u hu => ?_⟩
      have l6 : Le0 H5 (upd H5 u (.dK kvs)) := Le.new hu _
      have eu : upd H5 u (.dK kvs) u = some (.dK kvs) := upd_same
      generalize upd H5 u (.dK kvs) = H6 at l6 eu
      have L6 := L5.trans l6
      refine ⟨_, rfl, .inr (.inr (.inl ⟨rfl, .inl ⟨_, eu⟩⟩)), ?_⟩
      have kb : (pp.1.map Sum.inr).map kV = pp.1.map V.str := by rw [List.map_map]; rfl
      refine ⟨_, rfl, _, rfl, b3, b4, pp.1.map Sum.inr, pt.1.map V.int, rfl, .inr (SqT.of (by rw [kb]; exact l6.tup _ _ hb3)), .inr (SqT.of (l6.tup _ _ hb4)), by simp [hlen], fun m hm' => ?_⟩
      have epr : (pp.1.map Sum.inr).zip (pt.1.map V.int) = prs pp.1 (pt.1.map V.int) := by
        unfold prs
        rw [List.zip_map_left]; rfl
      rw [epr]
      have l7 : Le0 H6 (upd H6 m (.dK (mergeK [] (prs pp.1 (pt.1.map V.int))))) := Le.new hm' _
      have em : upd H6 m (.dK (mergeK [] (prs pp.1 (pt.1.map V.int)))) m = some (.dK (mergeK [] (prs pp.1 (pt.1.map V.int)))) := upd_same
      have mu : m ≠ u := fun e => by rw [e, eu] at hm'; cases hm'
      generalize upd H6 m (.dK (mergeK [] (prs pp.1 (pt.1.map V.int)))) = H7 at l7 em
      have eu7 := l7.rest _ _ (fun z => z) eu
      have lpr : (prs pp.1 (pt.1.map V.int)).length = pp.1.length := prs_length (by simp [hlen])
      have lmr := length_mergeK (prs pp.1 (pt.1.map V.int)) []
      rw [lpr, List.length_nil, Nat.zero_add] at lmr
      have lm2 := length_mergeK (mergeK [] (prs pp.1 (pt.1.map V.int))) kvs
      have dpos := dp_pos pp.2
      refine ⟨u, kvs, rfl, eu7, .inl ⟨m, _, rfl, mu, .inl em, small (by omega), ?_⟩⟩
      have nu : H5 u = none := hu
      have l8 : Le0 H5 (upd H7 u (.dK (mergeK kvs (mergeK [] (prs pp.1 (pt.1.map V.int)))))) := (l6.trans l7).chg nu _
      have eu8 : upd H7 u (.dK (mergeK kvs (mergeK [] (prs pp.1 (pt.1.map V.int))))) u = some (.dK (mergeK kvs (mergeK [] (prs pp.1 (pt.1.map V.int))))) := upd_same
      generalize upd H7 u (.dK (mergeK kvs (mergeK [] (prs pp.1 (pt.1.map V.int))))) = H8 at l8 eu8
      have hlp : (pp.1.map V.str).length = pp.1.length := List.length_map _
      have hlq : (pt.1.map V.int).length = pt.1.length := List.length_map _
      refine ⟨_, rfl, b3, _, rfl, .inr (SqT.of (l8.tup _ _ hb3)), _, rfl, b4, _, rfl, .inr (SqT.of (l8.tup _ _ hb4)), rfl, _, rfl, ?_⟩
      rw [show (!decide (V.int ((pp.1.map V.str).length : Int) = V.int ((pt.1.map V.int).length : Int))) = false by rw [decide_eq_true (by rw [hlp, hlq, hlen])]; rfl]
      refine iteF ?_
      have L8 := L5.trans l8
      refine ⟨_, rfl, a, dx, _, rfl, L8.rest _ _ (fun z => z) hA1, rfl, _, rfl, _, rfl, ?_⟩
      refine ⟨a, u, w3, T, bindG Γ pp.1 pt.1, pp.2, pt.2, _, rfl, hA.mono L8, eu8, hw3.mono l8.tup, ⟨hfit, h5 i pp pt ep ept, hkn.bind hlen, by omega, by omega, by omega⟩, fun H9 l9 => ?_⟩
      refine ⟨_, rfl, rfl, _, rfl, ?_⟩
      rw [show (!decide (V.int pt.2 = V.int pt.2)) = false by rw [decide_eq_true rfl]; rfl]
      refine iteF ?_
      exact ⟨⟨_, _, _, _, _, rfl⟩, (l34.trans l8).trans l9⟩
    · obtain ⟨⟨y1, y2, y3, y4, y5, rfl⟩, l3⟩ := hP
      exact ⟨_, rfl, ta, _, 1, _, rfl, rfl, SqT.of (l3.tup _ _ hta), at1, q _ (l1.trans l3)⟩
abbrev N_sorter___init__ : List Str := ["self", "tongue"]
theorem sc_sorter___init__ : FnScope N_sorter___init__ ["self", "tongue"] (defScope s_sorter___init__) := ⟨rfl, rfl, rfl, by decide +kernel, rfl, by decide +kernel, by decide +kernel⟩
theorem ok_srt_init (F : Fun K "__init__" "Sorter.__init__" s_sorter___init__ f fd) (B : Bt mg) (SK : SrtK K C) : FnOk P w K mg base CX0 1 f fd ["self", "tongue"] (spSrtInit C) := by
  refine F.ok sc_sorter___init__ (fun vs H Q E h => by obtain ⟨x, dx, tv, T, rfl, _⟩ := h; rfl) (fun cdv A outer s H vs Q E hr h => ?_)
  obtain ⟨x, dx, tv, T, rfl, hx, ht, q⟩ := h
  refine ⟨_, (pss_one (ps_asg (pv 1) (pgT (K := K) (n := 2) rfl rfl (pgs_cons (pg_attr (pv 0)) (pgs_cons (pg_attr (pv 0)) pgs_nil))))), ?_⟩
  obtain ⟨a, vf, vh, rfl, ha, hf, hh⟩ := dv_two.mp ht
  refine ⟨_, rfl, a, _, rfl, SqT.of ha, rfl, _, _, rfl, ?_⟩
  refine ⟨_, rfl, x, C, dx, _, rfl, hx, SK.cls, SK.forms, (by decide), ?_⟩
  have m1 : Le (fun a => a = x) H (upd H x (.ins C dx (putF "forms" vf []))) := (Le.refl (M := fun a => a = x) H).mut (p := x) rfl (fun xs e => by rw [hx] at e; cases e) _
  have e1 : upd H x (.ins C dx (putF "forms" vf [])) x = some (.ins C dx [("forms", vf)]) := upd_same
  generalize upd H x (.ins C dx (putF "forms" vf [])) = H1 at m1 e1
  refine ⟨_, _, rfl, ?_⟩
  refine ⟨_, rfl, x, C, dx, _, rfl, e1, SK.cls, SK.holes, (by show 1 < 1000; decide), ?_⟩
  have m2 : Le (fun a => a = x) H (upd H1 x (.ins C dx (putF "holes" vh [("forms", vf)]))) := m1.mut (p := x) rfl (fun xs e => by rw [e1] at e; cases e) _
  have e2 : upd H1 x (.ins C dx (putF "holes" vh [("forms", vf)])) x = some (.ins C dx [("forms", vf), ("holes", vh)]) := upd_same
  generalize upd H1 x (.ins C dx (putF "holes" vh [("forms", vf)])) = H2 at m2 e2
  exact ⟨rfl, q H2 m2 ⟨dx, vf, vh, e2, hf.mono m2.tup, hh.mono m2.tup⟩⟩
abbrev N_sort_in : List Str := ["tongue", "scope", "term"]
theorem sc_sort_in : FnScope N_sort_in ["tongue", "scope", "term"] (defScope s_sort_in) := ⟨rfl, rfl, rfl, by decide +kernel, rfl, by decide +kernel, by decide +kernel⟩
theorem ok_sort_in (F : Fun K "sort_in" "sort_in" s_sort_in f fd) (B : Bt mg) (k_sorter : MkCal P w K base mg 1 C "Sorter" ["self", "tongue"] (spSrtInit C)) (m_sort_of : MCal P w K base mg 33 C "sort_of" ["self", "known", "term"] (spSort C 16)) :
    FnOk P w K mg base CX0 34 f fd ["tongue", "scope", "term"] spSortIn := by
  refine F.ok sc_sort_in (fun vs H Q E h => by obtain ⟨tv, a, v, T, bs, ss, t, s, rfl, _⟩ := h; rfl) (fun cdv A outer s H vs Q E hr h => ?_)
  obtain ⟨tv, a, v, T, bs, ss, t, s0, rfl, htv, hsc, hv, hfit, hty, hd, hs, hbs, q⟩ := h
  have hu := hu_of hr
  refine ⟨_, (pss_one (ps_ret (pe_mcal m_sort_of (hr.mono (by omega)) (pe_mk k_sorter (hr.mono (by omega)) (by rfl) (pa_cons (pv 0) pa_nil)) (pa_cons (pe_callTy (dictF (K := K) rfl rfl) (by rfl) B.dict bv_dict (pa_cons (pv 1) pa_nil)) (pa_cons (pv 2) pa_nil))))), ?_⟩
  refine ⟨_, rfl, fun x dx hx hdx hne => ?_⟩
  have hx1 : upd H dx (.own x) x = none := by rw [upd_ne fun z => hne z.symm]; exact hx
  have l1 : Le0 H (upd (upd H dx (.own x)) x (.ins C dx [])) := (Le.new hdx _).trans (Le.new hx1 _)
  refine ⟨x, dx, tv, T, rfl, upd_same, htv.mono l1.tup, fun H2 l2 hA => ⟨rfl, ?_⟩⟩
  have L2 := l1.back l2 hx
  obtain ⟨dx', vf, vh, hA1, hA2, hA3⟩ := hA.ex
  refine ⟨x, dx', _, rfl, hA1, rfl, ?_⟩
  obtain ⟨hbl, o, as, ha0, hp0, hal0, hat⟩ := hsc.mono L2 fun z => z
  refine ⟨_, rfl, a, o, as, _, rfl, ha0, hp0, FScp.pairs hal0 hbl hat, fun k hk => ?_⟩
  have l3 : Le0 H2 (upd H2 k (.dK (mergeK [] (prs bs (ss.map V.int))))) := Le.new hk _
  have e3 : upd H2 k (.dK (mergeK [] (prs bs (ss.map V.int)))) k = some (.dK (mergeK [] (prs bs (ss.map V.int)))) := upd_same
  generalize upd H2 k (.dK (mergeK [] (prs bs (ss.map V.int)))) = H3 at l3 e3
  have lpr : (prs bs (ss.map V.int)).length = bs.length := prs_length (by simp [hbl])
  have lmr := length_mergeK (prs bs (ss.map V.int)) []
  rw [lpr, List.length_nil, Nat.zero_add] at lmr
  exact ⟨_, rfl, x, k, v, T, bindG noG bs ss, t, s0, _, rfl, SrtAt.mono ⟨dx', vf, vh, hA1, hA2, hA3⟩ l3, e3, hv.mono (L2.trans l3).tup, ⟨hfit, hty, Kn.fresh hbl, hd, by omega, hs⟩, fun H' l' => q H' ((L2.trans l3).trans l')⟩
theorem none_sort : FnOk P w K mg base CX0 1 f fd ["self", "known", "term"] (spSort C 0) := by
  have no : ∀ vs H Q E, ¬ spSort C 0 vs H Q E := fun vs H Q E h => by
    obtain ⟨a, k, v, T, Γ, t, s, kvs, _, _, _, _, h, _⟩ := h
    have := dp_pos t; have := h.d; omega
  exact ⟨fun vs H Q E h => absurd h (no vs H Q E), fun A outer s H args us vs Q E _ _ _ _ h => absurd h (no vs H Q E)⟩
end
end Nh
/-! ## NhG -/
namespace Nh
open PySem PySem.Spec PyProof.Rows L2
/-! ### entries in a dict -/
abbrev entD (e : Ent) : PyData := .tuple [.str e.word, intsD e.sorts, .int e.sort, encT e.pat]
theorem dget_int {H : Hp} {c : Addr} {kvs : List (Key × V)} {k : Int} {v : V} (h : Rd H c (.dK kvs)) (e : valV kvs (Sum.inl k) = some v) : DGet H c (.int k) (some v) := .inl ⟨kvs, Sum.inl k, h, rfl, e.symm⟩
theorem dget_int0 {H : Hp} {c : Addr} {kvs : List (Key × V)} {k : Int} {r : Option V} (h : Rd H c (.dK kvs)) (e : valV kvs (Sum.inl k) = r) : DGet H c (.int k) r := .inl ⟨kvs, Sum.inl k, h, rfl, e.symm⟩
def EnKv (H : Hp) (kvs : List (Key × V)) (bk : Bk) : Prop := kvs.map (·.1) = bk.map (fun p => Sum.inl p.1) ∧ DvA H (bk.map fun p => entD p.2) (kvs.map (·.2))
theorem EnKv.mono {H H' : Hp} {kvs : List (Key × V)} {bk : Bk} (h : EnKv H kvs bk) (t : Tu H H') : EnKv H' kvs bk := ⟨h.1, h.2.mono t⟩
theorem EnKv.len {H : Hp} {kvs : List (Key × V)} {bk : Bk} (h : EnKv H kvs bk) : kvs.length = bk.length := by have := congrArg List.length h.1; simpa using this
theorem EnKv.nil {H : Hp} : EnKv H [] [] := ⟨rfl, .nil⟩
theorem EnKv.get {H : Hp} : ∀ {kvs : List (Key × V)} {bk : Bk}, EnKv H kvs bk → (bk.map (·.1)).Nodup → ∀ {k : Int} {e : Ent}, (k, e) ∈ bk → ∃ v, valV kvs (Sum.inl k) = some v ∧ Dv H (entD e) v
  | [], [], _, _, k, e, h => nomatch h
  | [], _ :: _, q, _, _, _, _ => by have := q.len; simp at this
  | _ :: _, [], q, _, _, _, _ => by have := q.len; simp at this
  | p :: kvs, g :: bk, q, hn, k, e, h => by
    obtain ⟨q1, q2⟩ := q
    rw [List.map_cons, List.map_cons] at q1 q2
    injection q1 with k1 k2
    rw [dva_cons] at q2
    obtain ⟨v, r, e1, d1, d2⟩ := q2
    injection e1 with e1 e2
    rw [List.map_cons, List.nodup_cons] at hn
    rcases List.mem_cons.mp h with h | h
    · subst h
      exact ⟨v, by rw [valV_pos k1, e1], d1⟩
    · have hk : ¬ p.1 = Sum.inl k := fun z => by
        rw [k1] at z
        have := Sum.inl.inj z
        exact hn.1 (this ▸ List.mem_map.mpr ⟨_, h, rfl⟩)
      obtain ⟨v', e', d'⟩ := EnKv.get (kvs := kvs) (bk := bk) ⟨k2, by rw [e2]; exact d2⟩ hn.2 h
      exact ⟨v', by rw [valV_neg hk]; exact e', d'⟩
theorem EnKv.none {H : Hp} {kvs : List (Key × V)} {bk : Bk} (q : EnKv H kvs bk) {k : Int} (h : k ∉ bk.map (·.1)) : valV kvs (Sum.inl k) = none := by
  refine valV_none fun z => h ?_
  rw [q.1] at z
  obtain ⟨p, hp, e⟩ := List.mem_map.mp z
  exact List.mem_map.mpr ⟨p, hp, Sum.inl.inj e⟩
theorem EnKv.add {H : Hp} {kvs : List (Key × V)} {bk : Bk} (q : EnKv H kvs bk) {k : Int} {e : Ent} {v : V} (h : k ∉ bk.map (·.1)) (hv : Dv H (entD e) v) : EnKv H (putK kvs (Sum.inl k) v) (bk ++ [(k, e)]) := by
  have nn := q.none h
  have hp : putK kvs (Sum.inl k) v = kvs ++ [(Sum.inl k, v)] := by
    unfold putK
    rw [valV_any, nn]; rfl
  rw [hp]
  refine ⟨by rw [List.map_append, List.map_append, q.1]; rfl, ?_⟩
  rw [List.map_append, List.map_append]
  exact q.2.append (.cons hv .nil)
theorem EnKv.drop {H : Hp} (k : Int) : ∀ {kvs : List (Key × V)} {bk : Bk}, EnKv H kvs bk → EnKv H (dropK kvs (Sum.inl k)) (bk.filter fun p => decide (p.1 ≠ k))
  | [], [], _ => .nil
  | [], _ :: _, q => by have := q.len; simp at this
  | _ :: _, [], q => by have := q.len; simp at this
  | p :: kvs, g :: bk, q => by
    obtain ⟨q1, q2⟩ := q
    rw [List.map_cons, List.map_cons] at q1 q2
    injection q1 with k1 k2
    rw [dva_cons] at q2
    obtain ⟨v, r, e1, d1, d2⟩ := q2
    injection e1 with e1 e2
    have ih := EnKv.drop k (kvs := kvs) (bk := bk) ⟨k2, by rw [e2]; exact d2⟩
    unfold dropK
    by_cases h : g.1 = k
    · rw [List.filter_cons_of_neg (by rw [k1, h]; simp), List.filter_cons_of_neg (by simpa using h)]
      exact ih
    · rw [List.filter_cons_of_pos (by rw [k1]; simpa using h), List.filter_cons_of_pos (by simpa using h)]
      refine ⟨by rw [List.map_cons, List.map_cons, k1]; exact congrArg _ ih.1, ?_⟩
      rw [List.map_cons, List.map_cons, e1]
      exact .cons d1 ih.2
structure EnAt (H : Hp) (d : Addr) (bk : Bk) : Prop where
  ex : ∃ kvs, H d = some (.dK kvs) ∧ EnKv H kvs bk
theorem EnAt.mono {M : Addr → Prop} {H H' : Hp} {d : Addr} {bk : Bk} (h : EnAt H d bk) (l : Le M H H') (hm : ¬ M d) : EnAt H' d bk :=
  let ⟨kvs, h1, h2⟩ := h.ex; ⟨kvs, l.rest _ _ hm h1, h2.mono l.tup⟩
structure BkK (K : PySem.W.Frag) (C : Addr) : Prop where
  cls : Cls K C
  tongue : NoAttr K C "tongue"
  entries : NoAttr K C "entries"
  next : NoAttr K C "next_number"
structure BkAt (H : Hp) (C x d : Addr) (T : Tg) (bk : Bk) (nx : Int) : Prop where
  ins : ∃ dx tv, H x = some (.ins C dx [("tongue", tv), ("entries", .ref d), ("next_number", .int nx)]) ∧ Dv H (tgD T) tv
  en : EnAt H d bk
theorem BkAt.mono {M : Addr → Prop} {H H' : Hp} {C x d : Addr} {T : Tg} {bk : Bk} {nx : Int} (h : BkAt H C x d T bk nx) (l : Le M H H') (hx : ¬ M x) (hd : ¬ M d) : BkAt H' C x d T bk nx :=
  let ⟨dx, tv, h1, h2⟩ := h.ins; ⟨⟨dx, tv, l.rest _ _ hx h1, h2.mono l.tup⟩, h.en.mono l hd⟩
theorem BkAt.ne {H : Hp} {C x d : Addr} {T : Tg} {bk : Bk} {nx : Int} (h : BkAt H C x d T bk nx) : x ≠ d := fun z => by
  obtain ⟨dx, tv, h1, _⟩ := h.ins
  obtain ⟨kvs, h2, _⟩ := h.en.ex
  rw [z, h2] at h1; cases h1
/-! ### what an entry, a book, a question must be -/
structure EntOk (T : Tg) (e : Ent) : Prop where
  ty : Ty T (figG e.sorts) e.pat e.sort
  nt : Nt e.sorts.length e.pat
  len : e.sorts.length ≤ 10
  s : sz e.pat ≤ 60
  d : dp e.pat ≤ 8
structure BkOk (T : Tg) (bk : Bk) (nx : Int) : Prop where
  up : (bk.map (·.1)).Pairwise (· < ·)
  lt : ∀ p ∈ bk, 0 ≤ p.1 ∧ p.1 < nx
  ent : ∀ p ∈ bk, EntOk T p.2
  len : bk.length ≤ 40
  n0 : 0 ≤ nx
  n1 : nx ≤ 1000
theorem BkOk.nodup {T : Tg} {bk : Bk} {nx : Int} (h : BkOk T bk nx) : (bk.map (·.1)).Nodup := h.up.imp fun h e => by omega
theorem BkOk.new {T : Tg} {bk : Bk} {nx : Int} (h : BkOk T bk nx) : nx ∉ bk.map (·.1) := fun z => by
  obtain ⟨p, hp, e⟩ := List.mem_map.mp z
  have := (h.lt p hp).2; omega
theorem BkOk.add {T : Tg} {bk : Bk} {nx : Int} (h : BkOk T bk nx) {e : Ent} (he : EntOk T e) (hl : bk.length < 40) (hn : nx < 1000) : BkOk T (bk ++ [(nx, e)]) (nx + 1) := by
  refine ⟨?_, fun p hp => ?_, fun p hp => ?_, by rw [List.length_append, List.length_singleton]; omega, by have := h.n0; omega, by omega⟩
  · rw [List.map_append, List.pairwise_append]
    refine ⟨h.up, List.pairwise_singleton _ _, fun a ha b hb => ?_⟩
    obtain ⟨p, hp, rfl⟩ := List.mem_map.mp ha
    rw [List.map_singleton, List.mem_singleton] at hb
    subst hb
    exact (h.lt p hp).2
  · rcases List.mem_append.mp hp with hp | hp
    · have := h.lt p hp; omega
    · rw [List.mem_singleton] at hp; subst hp; have := h.n0; exact ⟨this, by show nx < nx + 1; omega⟩
  · rcases List.mem_append.mp hp with hp | hp
    · exact h.ent p hp
    · rw [List.mem_singleton] at hp; subst hp; exact he
theorem BkOk.drop {T : Tg} {bk : Bk} {nx : Int} (h : BkOk T bk nx) (k : Int) : BkOk T (bk.filter fun p => decide (p.1 ≠ k)) nx :=
  ⟨h.up.sublist (List.filter_sublist.map _), fun p hp => h.lt p (List.mem_filter.mp hp).1, fun p hp => h.ent p (List.mem_filter.mp hp).1, Nat.le_trans (List.length_filter_le _ _) h.len, h.n0, h.n1⟩
structure QOk (T : Tg) (bs : List Str) (ss : List Int) (t : Tm) (s : Int) : Prop where
  nd : bs.Nodup
  len : bs.length = ss.length
  few : ss.length ≤ 10
  ty : Ty T (bindG noG bs ss) t s
  d : dp t ≤ 16
  s : sz t ≤ 1000
theorem bindN_at {bs : List Str} (hn : bs.Nodup) {i : Nat} {b : Str} (e : bs[i]? = some b) : bindN (fun x => x) bs 0 b = fig i := by
  have := bindN_get (ν := fun x => x) (lv := 0) hn e
  rw [this, Nat.zero_add]
theorem neat_cond {bs : List Str} {ss : List Int} (hn : bs.Nodup) (hl : bs.length = ss.length) : Cond (bindG noG bs ss) (bindN (fun x => x) bs 0) bs.length (figG ss) := by
  have cs : ∀ x r, bindG noG bs ss x = some r → ∃ i : Nat, bs[i]? = some x ∧ ss[i]? = some r := fun x r h => by
    rcases bindG_cases hl hn h with h | ⟨_, h⟩
    · exact h
    · cases h
  refine ⟨fun x r h => ?_, fun x y r q h1 h2 e => ?_, fun x r h m hm => ?_⟩
  · obtain ⟨i, e1, e2⟩ := cs x r h
    rw [bindN_at hn e1]
    exact figG_at e2
  · obtain ⟨i, e1, e2⟩ := cs x r h1
    obtain ⟨j, e3, e4⟩ := cs y q h2
    rw [bindN_at hn e1, bindN_at hn e3] at e
    have := fig_inj e
    subst this
    rw [e1] at e3; exact Option.some.inj e3
  · obtain ⟨i, e1, e2⟩ := cs x r h
    rw [bindN_at hn e1]
    intro z
    have := fig_inj z
    have := (List.getElem?_eq_some_iff.mp e1).1
    omega
theorem QOk.names {T : Tg} {bs : List Str} {ss : List Int} {t : Tm} {s : Int} (h : QOk T bs ss t s) : ∀ x ∈ free t, x ∈ bs := fun x hx => by
  obtain ⟨r, e⟩ := h.ty.free x hx
  rcases bindG_cases h.len h.nd e with ⟨i, h, _⟩ | ⟨_, h⟩
  · exact get_mem h
  · cases h
theorem QOk.nty {T : Tg} {bs : List Str} {ss : List Int} {t : Tm} {s : Int} (h : QOk T bs ss t s) : Ty T (figG ss) (neatT bs t) s := ty_ren h.ty _ _ _ (neat_cond h.nd h.len)
theorem QOk.nnt {T : Tg} (hT : Slim T) {bs : List Str} {ss : List Int} {t : Tm} {s : Int} (h : QOk T bs ss t s) : Nt ss.length (neatT bs t) := by
  rw [← h.len]
  refine nt_ren hT h.ty _ _ fun x r e => ?_
  rcases bindG_cases h.len h.nd e with ⟨i, h1, _⟩ | ⟨_, h⟩
  · exact ⟨i, (List.getElem?_eq_some_iff.mp h1).1, bindN_at h.nd h1⟩
  · cases h
theorem sz_neatT (bs : List Str) (t : Tm) : sz (neatT bs t) = sz t := by unfold neatT; rw [sz_ren]
theorem dp_neatT (bs : List Str) (t : Tm) : dp (neatT bs t) = dp t := by unfold neatT; rw [dp_ren]
theorem EntOk.match {T : Tg} {e : Ent} (h : EntOk T e) {t : Tm} {Γ : Ctx} {s : Int} (ht : Ty T Γ t s) (hn : Nt e.sorts.length t) (hd : dp t ≤ 16) (hs : sz t ≤ 1000) : MatchOk e.pat t e.sorts.length :=
  ⟨ali_of h.ty h.nt ht hn, h.nt, hn, h.len, Nat.le_trans h.d (by decide), hd, h.s, hs⟩
end Nh
/-! ## NhP8 -/
set_option maxHeartbeats 4000000
namespace Nh
open PySem PySem.Spec PyProof.Rows L2
def spBkInit (C : Addr) : Sp := fun vs H Q _ => ∃ (x dx : Addr) (tv : V) (T : Tg), vs = [.ref x, tv] ∧ H x = some (.ins C dx []) ∧ Dv H (tgD T) tv ∧ ∀ d H', Le (fun a => a = x) H H' → H d = none → BkAt H' C x d T [] 0 → Q .non H'
def spEntry (C : Addr) : Sp := fun vs H Q _ => ∃ (x d : Addr) (T : Tg) (bk : Bk) (nx k : Int) (e : Ent), vs = [.ref x, .int k] ∧ BkAt H C x d T bk nx ∧ (bk.map (·.1)).Nodup ∧ (k, e) ∈ bk ∧ ∀ v, Dv H (entD e) v → Q v H
def spDrop (C : Addr) : Sp := fun vs H Q _ => ∃ (x d : Addr) (T : Tg) (bk : Bk) (nx k : Int) (e : Ent), vs = [.ref x, .int k] ∧ BkAt H C x d T bk nx ∧ (bk.map (·.1)).Nodup ∧ (k, e) ∈ bk ∧ ∀ H', Le (fun a => a = d) H H' → BkAt H' C x d T (bk.filter fun p => decide (p.1 ≠ k)) nx → Q .non H'
def spWord (C : Addr) : Sp := fun vs H Q _ => ∃ (x d : Addr) (T : Tg) (bk : Bk) (nx k : Int) (e : Ent), vs = [.ref x, .int k] ∧ BkAt H C x d T bk nx ∧ (bk.map (·.1)).Nodup ∧ (k, e) ∈ bk ∧ Q (.str e.word) H
def spPut (C : Addr) : Sp := fun vs H Q _ => ∃ (x d a : Addr) (v : V) (T : Tg) (bk : Bk) (nx : Int) (wd : Str) (bs : List Str) (ss : List Int) (t : Tm) (s : Int), vs = [.ref x, .str wd, .ref a, v] ∧ BkAt H C x d T bk nx ∧ nx ∉ bk.map (·.1) ∧ bk.length ≤ 1000 ∧
  FScp H a bs ss ∧ Dv H (encT t) v ∧ TgFit T ∧ QOk T bs ss t s ∧ ∀ H', Le (fun a => a = d ∨ a = x) H H' → BkAt H' C x d T (bk ++ [(nx, ⟨wd, ss, s, neatT bs t⟩)]) (nx + 1) → Q (.int nx) H'
/-- a question at an entry -/
structure AskOk (H : Hp) (T : Tg) (a : Addr) (v : V) (bs : List Str) (ss : List Int) (t : Tm) (s : Int) : Prop where
  scp : FScp H a bs ss
  tm : Dv H (encT t) v
  fit : TgFit T
  ok : QOk T bs ss t s
theorem AskOk.mono {M : Addr → Prop} {H H' : Hp} {T : Tg} {a : Addr} {v : V} {bs : List Str} {ss : List Int} {t : Tm} {s : Int} (h : AskOk H T a v bs ss t s) (l : Le M H H') (hm : ¬ M a) : AskOk H' T a v bs ss t s := ⟨h.scp.mono l hm, h.tm.mono l.tup, h.fit, h.ok⟩
def spRowsFor (C : Addr) : Sp := fun vs H Q _ => ∃ (x d a : Addr) (v : V) (T : Tg) (bk : Bk) (nx k : Int) (e : Ent) (bs : List Str) (ss : List Int) (t : Tm) (s : Int), vs = [.ref x, .int k, .ref a, v] ∧ BkAt H C x d T bk nx ∧ (bk.map (·.1)).Nodup ∧ (k, e) ∈ bk ∧ EntOk T e ∧
  AskOk H T a v bs ss t s ∧ (∀ H', Le0 H H' → fitsE e ss s (neatT bs t) = false → Q .non H') ∧ ∀ l acc H', Le0 H H' → H l = none → H' l = some (.lst acc) → DvA H' ((rowsE e (neatT bs t)).map rowD) acc → fitsE e ss s (neatT bs t) = true → Q (.ref l) H'
section
variable {P : Program} {w : World} {K : PySem.W.Frag} {mg : Str → Option Value} {base : Heap} {f : Addr} {fd : FuncData} {C : Addr}
abbrev N_book___init__ : List Str := ["self", "tongue"]
theorem sc_book___init__ : FnScope N_book___init__ ["self", "tongue"] (defScope s_book___init__) := ⟨rfl, rfl, rfl, by decide +kernel, rfl, by decide +kernel, by decide +kernel⟩
theorem ok_bk_init (F : Fun K "__init__" "Book.__init__" s_book___init__ f fd) (B : Bt mg) (BK : BkK K C) : FnOk P w K mg base CX0 1 f fd ["self", "tongue"] (spBkInit C) := by
  refine F.ok sc_book___init__ (fun vs H Q E h => by obtain ⟨x, dx, tv, T, rfl, _⟩ := h; rfl) (fun cdv A outer s H vs Q E hr h => ?_)
  obtain ⟨x, dx, tv, T, rfl, hx, ht, q⟩ := h
  refine ⟨_, (pss_cons (ps_fld (pv 0) (pv 1) rfl)
  (pss_cons (ps_fld (pv 0) (pe_dnewK) rfl)
  (pss_one (ps_fld (pv 0) (pe_int) rfl)))), ?_⟩
  refine ⟨_, rfl, _, rfl, x, C, dx, _, rfl, hx, BK.cls, BK.tongue, (by decide), ?_⟩
  have m1 : Le (fun a => a = x) H (upd H x (.ins C dx (putF "tongue" tv []))) := (Le.refl (M := fun a => a = x) H).mut (p := x) rfl (fun xs e => by rw [hx] at e; cases e) _
  have e1 : upd H x (.ins C dx (putF "tongue" tv [])) x = some (.ins C dx [("tongue", tv)]) := upd_same
  generalize upd H x (.ins C dx (putF "tongue" tv [])) = H1 at m1 e1
  intro d hd
  have nd : H d = none := m1.nil hd
  have dx1 : x ≠ d := ne_of_none e1 hd
  have m2 : Le (fun a => a = x) H (upd H1 d (.dK [])) := m1.trans (Le.new hd _)
  have e2 : upd H1 d (.dK []) x = some (.ins C dx [("tongue", tv)]) := by rw [upd_ne dx1]; exact e1
  have e3 : upd H1 d (.dK []) d = some (.dK []) := upd_same
  generalize upd H1 d (.dK []) = H2 at m2 e2 e3
  refine ⟨_, rfl, x, C, dx, _, rfl, e2, BK.cls, BK.entries, (by show 1 < 1000; decide), ?_⟩
  have m4 : Le (fun a => a = x) H (upd H2 x (.ins C dx (putF "entries" (.ref d) [("tongue", tv)]))) := m2.mut (p := x) rfl (fun xs e => by rw [e2] at e; cases e) _
  have e4 : upd H2 x (.ins C dx (putF "entries" (.ref d) [("tongue", tv)])) x = some (.ins C dx [("tongue", tv), ("entries", .ref d)]) := upd_same
  have e5 : upd H2 x (.ins C dx (putF "entries" (.ref d) [("tongue", tv)])) d = some (.dK []) := by rw [upd_ne dx1.symm]; exact e3
  generalize upd H2 x (.ins C dx (putF "entries" (.ref d) [("tongue", tv)])) = H3 at m4 e4 e5
  refine ⟨_, rfl, x, C, dx, _, rfl, e4, BK.cls, BK.next, (by show 2 < 1000; decide), ?_⟩
  have m6 : Le (fun a => a = x) H (upd H3 x (.ins C dx (putF "next_number" (.int 0) [("tongue", tv), ("entries", .ref d)]))) := m4.mut (p := x) rfl (fun xs e => by rw [e4] at e; cases e) _
  refine q d _ m6 nd ⟨⟨dx, tv, upd_same, ht.mono m6.tup⟩, ⟨[], ?_, .nil⟩⟩
  rw [upd_ne dx1.symm]; exact e5
abbrev N_book_entry : List Str := ["self", "number"]
theorem sc_book_entry : FnScope N_book_entry ["self", "number"] (defScope s_book_entry) := ⟨rfl, rfl, rfl, by decide +kernel, rfl, by decide +kernel, by decide +kernel⟩
theorem ok_entry (F : Fun K "entry" "Book.entry" s_book_entry f fd) (B : Bt mg) (BK : BkK K C) : FnOk P w K mg base CX0 1 f fd ["self", "number"] (spEntry C) := by
  refine F.ok sc_book_entry (fun vs H Q E h => by obtain ⟨x, d, T, bk, nx, k, e, rfl, _⟩ := h; rfl) (fun cdv A outer s H vs Q E hr h => ?_)
  obtain ⟨x, d, T, bk, nx, k, e, rfl, hb, hn, hm, q⟩ := h
  have hu := hu_of hr
  refine ⟨_, (pss_cons (ps_if (pt_cmp (pc_dnotin hu (pv 1) (fldQ (K := K) rfl (pv 0)))) pss_never pss_nil)
  (pss_one (ps_ret (pe_dget hu (fldQ (K := K) rfl (pv 0)) (pv 1) (fun _ _ => rfl))))), ?_⟩
  obtain ⟨⟨dx, tv, hx, ht⟩, kvs, hd, hk⟩ := hb
  obtain ⟨v, hv, dv⟩ := hk.get hn hm
  refine ⟨_, rfl, _, rfl, x, C, dx, _, _, rfl, hx, BK.cls, BK.entries, rfl, d, some v, rfl, dget_int0 (.inl hd) hv, _, rfl, ?_⟩
  refine iteF ?_
  exact ⟨_, rfl, x, C, dx, _, _, rfl, hx, BK.cls, BK.entries, rfl, _, rfl, d, v, rfl, dget_int (.inl hd) hv, q v dv⟩
abbrev N_book_drop : List Str := ["self", "number"]
theorem sc_book_drop : FnScope N_book_drop ["self", "number"] (defScope s_book_drop) := ⟨rfl, rfl, rfl, by decide +kernel, rfl, by decide +kernel, by decide +kernel⟩
theorem ok_drop (F : Fun K "drop" "Book.drop" s_book_drop f fd) (B : Bt mg) (BK : BkK K C) (m_entry : MCal P w K base mg 1 C "entry" ["self", "number"] (spEntry C)) : FnOk P w K mg base CX0 2 f fd ["self", "number"] (spDrop C) := by
  refine F.ok sc_book_drop (fun vs H Q E h => by obtain ⟨x, d, T, bk, nx, k, e, rfl, _⟩ := h; rfl) (fun cdv A outer s H vs Q E hr h => ?_)
  obtain ⟨x, d, T, bk, nx, k, e, rfl, hb, hn, hm, q⟩ := h
  have hu := hu_of hr
  refine ⟨_, (pss_cons (ps_expr (pe_mcal m_entry (hr.mono (by omega)) (pv 0) (pa_cons (pv 1) pa_nil)))
  (pss_one (ps_expr (pe_dpop1 (fldQ (K := K) rfl (pv 0)) (pv 1) ⟨rfl, rfl, rfl, rfl⟩)))), ?_⟩
  have hne := hb.ne
  obtain ⟨⟨dx, tv, hx, ht⟩, kvs, hd, hk⟩ := id hb
  obtain ⟨v, hv, dv⟩ := hk.get hn hm
  refine ⟨_, rfl, x, dx, _, rfl, hx, rfl, _, rfl, x, d, T, bk, nx, k, e, rfl, hb, hn, hm, fun v1 _ => ?_⟩
  refine ⟨_, rfl, x, C, dx, _, _, rfl, hx, BK.cls, BK.entries, rfl, d, rfl, .inl ⟨kvs, .inl hd⟩, _, rfl, kvs, Sum.inl k, v, hd, rfl, hv, ?_⟩
  have m1 : Le (fun a => a = d) H (upd H d (.dK (dropK kvs (Sum.inl k)))) := (Le.refl (M := fun a => a = d) H).mut (p := d) rfl (fun xs e => by rw [hd] at e; cases e) _
  refine q _ m1 ⟨⟨dx, tv, by rw [upd_ne hne]; exact hx, ht.mono m1.tup⟩, ⟨_, upd_same, (hk.drop k).mono m1.tup⟩⟩
abbrev N_book_word_of : List Str := ["self", "number"]
theorem sc_book_word_of : FnScope N_book_word_of ["self", "number"] (defScope s_book_word_of) := ⟨rfl, rfl, rfl, by decide +kernel, rfl, by decide +kernel, by decide +kernel⟩
theorem ok_word_of (F : Fun K "word_of" "Book.word_of" s_book_word_of f fd) (B : Bt mg) (BK : BkK K C) (m_entry : MCal P w K base mg 1 C "entry" ["self", "number"] (spEntry C)) : FnOk P w K mg base CX0 2 f fd ["self", "number"] (spWord C) := by
  refine F.ok sc_book_word_of (fun vs H Q E h => by obtain ⟨x, d, T, bk, nx, k, e, rfl, _⟩ := h; rfl) (fun cdv A outer s H vs Q E hr h => ?_)
  obtain ⟨x, d, T, bk, nx, k, e, rfl, hb, hn, hm, q⟩ := h
  refine ⟨_, (pss_one (ps_ret (pe_ix (ixT (K := K) rfl) (pe_mcal m_entry (hr.mono (by omega)) (pv 0) (pa_cons (pv 1) pa_nil)) (pe_int) (fun _ _ => rfl)))), ?_⟩
  obtain ⟨⟨dx, tv, hx, ht⟩, kvs, hd, hk⟩ := id hb
  refine ⟨_, rfl, x, dx, _, rfl, hx, rfl, _, rfl, x, d, T, bk, nx, k, e, rfl, hb, hn, hm, fun v1 hv1 => ?_⟩
  obtain ⟨a, xs, rfl, ha, hxs⟩ := dv_tup.mp hv1
  obtain ⟨u, r, rfl, hu, _⟩ := dva_cons.mp hxs
  rw [dv_str] at hu; subst hu
  exact ⟨a, _, 0, _, rfl, rfl, SqT.of ha, at0, q⟩
abbrev N_book_put : List Str := ["self", "word", "scope", "term", "sort"]
theorem sc_book_put : FnScope N_book_put ["self", "word", "scope", "term"] (defScope s_book_put) := ⟨rfl, rfl, rfl, by decide +kernel, rfl, by decide +kernel, by decide +kernel⟩
theorem ok_put (F : Fun K "put" "Book.put" s_book_put f fd) (B : Bt mg) (BK : BkK K C) (c_sort_in : Cal P w K mg base 34 "sort_in" ["tongue", "scope", "term"] spSortIn) (c_is_bare : Cal P w K mg base 3 "is_bare" ["term"] spBare) (c_is_clear : Cal P w K mg base 17 "is_clear" ["term"] (spClear 16))
    (c_sorts_of : Cal P w K mg base 1 "sorts_of" ["scope"] spSortsOf) (c_neat_in : Cal P w K mg base 34 "neat_in" ["scope", "term"] spNeatIn) : FnOk P w K mg base CX0 35 f fd ["self", "word", "scope", "term"] (spPut C) := by
  refine F.ok sc_book_put (fun vs H Q E h => by obtain ⟨x, d, a, v, T, bk, nx, wd, bs, ss, t, s, rfl, _⟩ := h; rfl) (fun cdv A outer s H vs Q E hr h => ?_)
  obtain ⟨x, d, a, v, T, bk, nx, wd, bs, ss, t, s0, rfl, hb, hn, hbl, hsc, hv, hfit, hq, q⟩ := h
  have hu := hu_of hr
  refine ⟨_, (pss_cons (ps_set (i := 4) sc_book_put.nd rfl (by first | exact Or.inl rfl | exact Or.inr rfl) (pe_cal c_sort_in (hr.mono (by omega)) (by rfl) (pa_cons (fldQ (K := K) rfl (pv 0)) (pa_cons (pv 2) (pa_cons (pv 3) pa_nil)))))
  (pss_cons (ps_if (PW.pt (pw_or (pt_cmpR op_isN (pv 4) pe_non (nomark _)) (pw_or (pt_not (pt_val (pe_cal c_is_bare (hr.mono (by omega)) (by rfl) (pa_cons (pv 3) pa_nil)))) (pw_or1 (pt_not (pt_val (pe_cal c_is_clear (hr.mono (by omega)) (by rfl) (pa_cons (pv 3) pa_nil)))))))) pss_never pss_nil)
  (pss_cons (ps_dput hu (fldQ (K := K) rfl (pv 0)) (fldQ (K := K) rfl (pv 0)) (pe_tup (pa_cons (pv 1) (pa_cons (pe_cal c_sorts_of (hr.mono (by omega)) (by rfl) (pa_cons (pv 2) pa_nil)) (pa_cons (pv 4) (pa_cons (pe_cal c_neat_in (hr.mono (by omega)) (by rfl) (pa_cons (pv 2) (pa_cons (pv 3) pa_nil))) pa_nil))))) rfl)
  (pss_cons (ps_fldaug (pv 0) (pe_int) in_add)
  (pss_one (ps_ret (pe_op op_sub (fldQ (K := K) rfl (pv 0)) (pe_int)))))))), ?_⟩
  have hne := hb.ne
  obtain ⟨⟨dx, tv, hx, ht⟩, kvs, hd, hk⟩ := id hb
  have few := hq.few
  have blen := hq.len
  refine ⟨_, rfl, x, C, dx, _, _, rfl, hx, BK.cls, BK.tongue, rfl, _, rfl, _, rfl, ?_⟩
  refine ⟨tv, a, v, T, bs, ss, t, s0, rfl, ht, hsc, hv, hfit, hq.ty, hq.d, hq.s, by omega, fun H1 l1 => ?_⟩
  refine ⟨_, rfl, rfl, _, rfl, ifF (fun z => nomatch z) ?_⟩
  refine ⟨_, rfl, v, t, rfl, hv.mono l1.tup, hq.s, fun H2 l2 => ⟨_, rfl, ?_⟩⟩
  refine iteF ?_
  have L2 := l1.trans l2
  refine ⟨_, rfl, v, t, rfl, hv.mono L2.tup, hq.ty.clr, hq.d, hq.s, fun H3 l3 => ⟨_, rfl, ?_⟩⟩
  refine iteF ?_
  have L3 := L2.trans l3
  refine ⟨_, rfl, _, rfl, a, bs, ss, rfl, (hsc.mono L3 fun z => z).scp, by omega, fun v4 H4 l4 hv4 => ?_⟩
  have L4 := L3.trans l4
  refine ⟨_, rfl, _, rfl, _, rfl, a, v, bs, ss, t, rfl, (hsc.mono L4 fun z => z).scp, hv.mono L4.tup, hq.names, hq.ty.thin hfit.slim, hq.d, by omega, hq.s, fun v5 H5 l5 hv5 => ⟨z4, fun p hp => ?_⟩⟩
  have L5 := L4.trans l5
  have l6 : Le0 H5 (upd H5 p (.tup [.str wd, v4, .int s0, v5])) := Le.new hp _
  have dp6 : Dv (upd H5 p (.tup [.str wd, v4, .int s0, v5])) (entD ⟨wd, ss, s0, neatT bs t⟩) (.ref p) := Dv.mk hp (.cons Dv.str (.cons (hv4.mono l5.tup) (.cons Dv.int (.cons hv5 .nil))))
  generalize upd H5 p (.tup [.str wd, v4, .int s0, v5]) = H6 at l6 dp6
  have L6 := L5.trans l6
  have hx6 := L6.rest _ _ (fun z => z) hx
  have hd6 := L6.rest _ _ (fun z => z) hd
  have kl := hk.len
  refine ⟨_, rfl, x, C, dx, _, _, rfl, hx6, BK.cls, BK.entries, rfl, _, rfl, x, C, dx, _, _, rfl, hx6, BK.cls, BK.next, rfl, ?_⟩
  refine ⟨d, _, rfl, .inl ⟨kvs, Sum.inl nx, hd6, rfl, smallL (by omega), rfl⟩, ?_⟩
  have m7 : Le (fun a => a = d ∨ a = x) H (upd H6 d (.dK (putK kvs (Sum.inl nx) (.ref p)))) := (L6.any (M := fun a => a = d ∨ a = x)).mut (p := d) (.inl rfl) (fun xs e => by rw [hd6] at e; cases e) _
  have hx7 : upd H6 d (.dK (putK kvs (Sum.inl nx) (.ref p))) x = some (.ins C dx [("tongue", tv), ("entries", .ref d), ("next_number", .int nx)]) := by rw [upd_ne hne]; exact hx6
  have hd7 : upd H6 d (.dK (putK kvs (Sum.inl nx) (.ref p))) d = some (.dK (putK kvs (Sum.inl nx) (.ref p))) := upd_same
  have t7 : Tu H6 (upd H6 d (.dK (putK kvs (Sum.inl nx) (.ref p)))) := Tu.upd hd6 (fun _ e => nomatch e) _
  have k7 := (((hk.mono L6.tup).add hn dp6).mono t7)
  generalize upd H6 d (.dK (putK kvs (Sum.inl nx) (.ref p))) = H7 at m7 hx7 hd7 t7 k7
  refine ⟨_, rfl, x, C, dx, _, _, rfl, hx7, BK.cls, BK.next, rfl, _, _, rfl, rfl, dx, _, hx7, (by show 3 < 1000; decide), ?_⟩
  have m8 : Le (fun a => a = d ∨ a = x) H (upd H7 x (.ins C dx [("tongue", tv), ("entries", .ref d), ("next_number", .int (nx + 1))])) := m7.mut (p := x) (.inr rfl) (fun xs e => by rw [hx7] at e; cases e) _
  have hx8 : upd H7 x (.ins C dx [("tongue", tv), ("entries", .ref d), ("next_number", .int (nx + 1))]) x = some (.ins C dx [("tongue", tv), ("entries", .ref d), ("next_number", .int (nx + 1))]) := upd_same
  have hd8 : upd H7 x (.ins C dx [("tongue", tv), ("entries", .ref d), ("next_number", .int (nx + 1))]) d = some (.dK (putK kvs (Sum.inl nx) (.ref p))) := by rw [upd_ne hne.symm]; exact hd7
  have t8 : Tu H7 (upd H7 x (.ins C dx [("tongue", tv), ("entries", .ref d), ("next_number", .int (nx + 1))])) := Tu.upd hx7 (fun _ e => nomatch e) _
  have k8 := k7.mono t8
  have e8 : putF ("next_number" : Str) (.int (nx + 1)) ([("tongue", tv), ("entries", .ref d), ("next_number", .int nx)] : List (Str × V)) = ([("tongue", tv), ("entries", .ref d), ("next_number", .int (nx + 1))] : List (Str × V)) := rfl
  rw [e8]
  generalize upd H7 x (.ins C dx [("tongue", tv), ("entries", .ref d), ("next_number", .int (nx + 1))]) = H8 at m8 hx8 hd8 t8 k8
  refine ⟨_, rfl, x, C, dx, _, _, rfl, hx8, BK.cls, BK.next, rfl, _, _, rfl, rfl, ?_⟩
  have := q H8 m8 ⟨⟨dx, tv, hx8, ht.mono m8.tup⟩, ⟨_, hd8, k8⟩⟩
  show Q (.int (nx + 1 - 1)) H8
  rw [show nx + 1 - 1 = nx by omega]
  exact this
abbrev N_book_rows_for : List Str := ["self", "number", "scope", "term", "word", "sorts", "sort", "pattern"]
theorem sc_book_rows_for : FnScope N_book_rows_for ["self", "number", "scope", "term"] (defScope s_book_rows_for) := ⟨rfl, rfl, rfl, by decide +kernel, rfl, by decide +kernel, by decide +kernel⟩
theorem ok_rows_for (F : Fun K "rows_for" "Book.rows_for" s_book_rows_for f fd) (B : Bt mg) (BK : BkK K C) (c_sort_in : Cal P w K mg base 34 "sort_in" ["tongue", "scope", "term"] spSortIn) (c_sorts_of : Cal P w K mg base 1 "sorts_of" ["scope"] spSortsOf)
    (c_neat_in : Cal P w K mg base 34 "neat_in" ["scope", "term"] spNeatIn) (c_neat_scope : Cal P w K mg base 1 "neat_scope" ["sorts"] spNeatScope) (c_match : Cal P w K mg base 50 "match" ["tongue", "scope", "pattern", "term"] spMatch) :
    FnOk P w K mg base CX0 51 f fd ["self", "number", "scope", "term"] (spRowsFor C) := by
  refine F.ok sc_book_rows_for (fun vs H Q E h => by obtain ⟨x, d, a, v, T, bk, nx, k, e, bs, ss, t, s, rfl, _⟩ := h; rfl) (fun cdv A outer s H vs Q E hr h => ?_)
  obtain ⟨x, d, a, v, T, bk, nx, k, e, bs, ss, t, s0, rfl, hb, hn, hm, he, ⟨hsc, hv, hfit, hq⟩, q0, q1⟩ := h
  have hu := hu_of hr
  refine ⟨_, (pss_cons (ps_asg (pe_dget hu (fldQ (K := K) rfl (pv 0)) (pv 1) (fun _ _ => rfl)) (pgT (K := K) (n := 4) rfl rfl (pgs_cons (pg_name (i := 4) sc_book_rows_for.nd rfl (by first | exact Or.inl rfl | exact Or.inr rfl)) (pgs_cons (pg_name (i := 5) sc_book_rows_for.nd rfl (by first | exact Or.inl rfl | exact Or.inr rfl)) (pgs_cons (pg_name (i := 6) sc_book_rows_for.nd rfl (by first | exact Or.inl rfl | exact Or.inr rfl)) (pgs_cons (pg_name (i := 7) sc_book_rows_for.nd rfl (by first | exact Or.inl rfl | exact Or.inr rfl)) pgs_nil))))))
  (pss_cons (ps_if (PW.pt (pw_or (pt_cmpR (neP (K := K) rfl hr.units) (pv 5) (pe_cal c_sorts_of (hr.mono (by omega)) (by rfl) (pa_cons (pv 2) pa_nil)) (nomark _)) (pw_or1 (pt_cmpR op_ne (pv 6) (pe_cal c_sort_in (hr.mono (by omega)) (by rfl) (pa_cons (fldQ (K := K) rfl (pv 0)) (pa_cons (pv 2) (pa_cons (pv 3) pa_nil)))) (nomark _))))) (pss_one (ps_ret (pe_non))) pss_nil)
  (pss_one (ps_ret (pe_cal c_match (hr.mono (by omega)) (by rfl) (pa_cons (fldQ (K := K) rfl (pv 0)) (pa_cons (pe_cal c_neat_scope (hr.mono (by omega)) (by rfl) (pa_cons (pv 5) pa_nil)) (pa_cons (pv 7) (pa_cons (pe_cal c_neat_in (hr.mono (by omega)) (by rfl) (pa_cons (pv 2) (pa_cons (pv 3) pa_nil))) pa_nil))))))))), ?_⟩
  obtain ⟨⟨dx, tv, hx, ht⟩, kvs, hd, hk⟩ := id hb
  obtain ⟨ev, hev, dev⟩ := hk.get hn hm
  obtain ⟨ea, us, rfl, hea, hus⟩ := dv_tup.mp dev
  obtain ⟨u1, us, rfl, d1, hus⟩ := dva_cons.mp hus
  obtain ⟨u2, us, rfl, d2, hus⟩ := dva_cons.mp hus
  obtain ⟨u3, us, rfl, d3, hus⟩ := dva_cons.mp hus
  obtain ⟨u4, us, rfl, d4, hus⟩ := dva_cons.mp hus
  obtain rfl := dva_nil.mp hus
  rw [dv_int] at d3; subst d3
  have few := hq.few
  have blen := hq.len
  refine ⟨_, rfl, x, C, dx, _, _, rfl, hx, BK.cls, BK.entries, rfl, _, rfl, d, _, rfl, dget_int (.inl hd) hev, ?_⟩
  refine ⟨ea, _, rfl, SqT.of hea, rfl, _, _, rfl, _, _, rfl, _, _, rfl, _, _, rfl, rfl, ?_⟩
  refine ⟨_, rfl, _, rfl, a, bs, ss, rfl, hsc.scp, by omega, fun v1 H1 l1 hv1 => ?_⟩
  refine ⟨intsD e.sorts, intsD ss, (d2.mono l1.tup).dp, hv1.dp, pd_ints _, pd_ints _, Nat.le_trans (depth_ints _) (by decide), fun bo hbo => ⟨bo, rfl, ?_⟩⟩
  by_cases hss : e.sorts = ss
  · rw [show bo = false from Bool.eq_false_iff.mpr fun z => hbo.mp z (by rw [hss])]
    refine iteF ?_
    have hx1 := l1.rest _ _ (fun z => z) hx
    refine ⟨_, rfl, _, rfl, x, C, dx, _, _, rfl, hx1, BK.cls, BK.tongue, rfl, _, rfl, _, rfl, ?_⟩
    refine ⟨tv, a, v, T, bs, ss, t, s0, rfl, ht.mono l1.tup, hsc.mono l1 fun z => z, hv.mono l1.tup, hfit, hq.ty, hq.d, hq.s, by omega, fun H2 l2 => ⟨rfl, _, rfl, ?_⟩⟩
    have L2 := l1.trans l2
    by_cases hs : e.sort = s0
    · rw [show (!decide (V.int e.sort = V.int s0)) = false by rw [decide_eq_true (by rw [hs])]; rfl]
      refine iteF ?_
      have hx2 := L2.rest _ _ (fun z => z) hx
      refine ⟨_, rfl, x, C, dx, _, _, rfl, hx2, BK.cls, BK.tongue, rfl, _, rfl, u2, ss, rfl, (by rw [← hss]; exact d2.mono L2.tup), by omega, fun v3 H3 l3 hv3 => ?_⟩
      have L3 := L2.trans l3
      obtain ⟨a3, rfl, hs3⟩ := Scp.of (figs_length _ _) hv3
      refine ⟨_, rfl, _, rfl, _, rfl, a, v, bs, ss, t, rfl, (hsc.mono L3 fun z => z).scp, hv.mono L3.tup, hq.names, hq.ty.thin hfit.slim, hq.d, by omega, hq.s, fun v4 H4 l4 hv4 => ?_⟩
      have L4 := L3.trans l4
      have hM : MatchOk e.pat (neatT bs t) ss.length := by
        rw [← hss]
        refine he.match hq.nty ?_ (by rw [dp_neatT]; exact hq.d) (by rw [sz_neatT]; exact hq.s)
        rw [hss]; exact hq.nnt hfit.slim
      have hF : fitsE e ss s0 (neatT bs t) = (laid e.pat (neatT bs t) []).1 := by
        unfold fitsE
        rw [decide_eq_true hss, decide_eq_true hs, Bool.true_and, Bool.true_and]
      exact ⟨tv, u4, v4, a3, e.pat, neatT bs t, ss, rfl, hs3.mono l4 (fun z => z), d4.mono L4.tup, hv4, hM, fun H' l' e' => q0 H' (L4.trans l') (by rw [hF]; exact e'), fun l acc H' l' hl hl2 hd' e' => q1 l acc H' (L4.trans l') (L4.nil hl) hl2 hd' (by rw [hF]; exact e')⟩
    · rw [show (!decide (V.int e.sort = V.int s0)) = true by rw [decide_eq_false (fun z => hs (by injection z))]; rfl]
      refine iteT (q0 H2 L2 ?_)
      unfold fitsE
      rw [decide_eq_false hs, Bool.false_and, Bool.and_false]
  · rw [hbo.mpr fun z => hss (intsD_inj z)]
    refine iteT (q0 H1 l1 ?_)
    unfold fitsE
    rw [decide_eq_false hss, Bool.false_and]
end
end Nh
/-! ## NhP9 -/
set_option maxHeartbeats 4000000
namespace Nh
open PySem PySem.Spec PyProof.Rows L2
abbrev intsV (l : List Int) : List V := l.map V.int
abbrev nosV (b : Bk) : List V := (b.map (·.1)).map V.int
theorem bl_map {α : Type} {l : List α} {g : α → Bool} {acc : List V} (hl : acc.length = l.length) (h : ∀ (i : Nat) y, acc[i]? = some y → ∀ q, l[i]? = some q → y = .bl (g q)) : acc = (l.map g).map V.bl := by
  refine List.ext_getElem? fun i => ?_
  rw [List.map_map, List.getElem?_map]
  by_cases hi : i < l.length
  · obtain ⟨q, eq⟩ := get_ex hi
    obtain ⟨y, ey⟩ := get_ex (l := acc) (i := i) (by omega)
    rw [ey, eq, h i y ey q eq]; rfl
  · rw [List.getElem?_eq_none (by omega), List.getElem?_eq_none (by omega)]; rfl
def spFitting (C : Addr) : Sp := fun vs H Q _ => ∃ (x d a : Addr) (v : V) (T : Tg) (bk : Bk) (nx : Int) (bs : List Str) (ss : List Int) (t : Tm) (s : Int), vs = [.ref x, .ref a, v] ∧ BkAt H C x d T bk nx ∧ BkOk T bk nx ∧ AskOk H T a v bs ss t s ∧
  ∀ l H', Le0 H H' → H l = none → H' l = some (.lst (nosV (fitB bk ss s (neatT bs t)))) → Q (.ref l) H'
def spWide (C : Addr) : Sp := fun vs H Q _ => ∃ (x d : Addr) (T : Tg) (bk : Bk) (nx k j : Int) (e g : Ent), vs = [.ref x, .int k, .int j] ∧ BkAt H C x d T bk nx ∧ BkOk T bk nx ∧ TgFit T ∧ (k, e) ∈ bk ∧ (j, g) ∈ bk ∧ ∀ H', Le0 H H' → Q (.bl (wideE e g)) H'
def spNarrow (C : Addr) : Sp := fun vs H Q _ => ∃ (x d : Addr) (T : Tg) (bk : Bk) (nx k j : Int) (e g : Ent), vs = [.ref x, .int k, .int j] ∧ BkAt H C x d T bk nx ∧ BkOk T bk nx ∧ TgFit T ∧ (k, e) ∈ bk ∧ (j, g) ∈ bk ∧ ∀ H', Le0 H H' → Q (.bl (narrowE e g)) H'
def spNarrowest (C : Addr) : Sp := fun vs H Q _ => ∃ (x d a : Addr) (v : V) (T : Tg) (bk : Bk) (nx : Int) (bs : List Str) (ss : List Int) (t : Tm) (s : Int), vs = [.ref x, .ref a, v] ∧ BkAt H C x d T bk nx ∧ BkOk T bk nx ∧ AskOk H T a v bs ss t s ∧
  ∀ l H', Le0 H H' → H l = none → H' l = some (.lst (nosV (narB (fitB bk ss s (neatT bs t))))) → Q (.ref l) H'
def spRowsOf (C : Addr) : Sp := fun vs H Q _ => ∃ (x d a : Addr) (v : V) (T : Tg) (bk : Bk) (nx k : Int) (e : Ent) (bs : List Str) (ss : List Int) (t : Tm) (s : Int), vs = [.ref x, .int k, .ref a, v] ∧ BkAt H C x d T bk nx ∧ BkOk T bk nx ∧ (k, e) ∈ bk ∧
  AskOk H T a v bs ss t s ∧ fitsE e ss s (neatT bs t) = true ∧ ∀ l acc H', Le0 H H' → H l = none → H' l = some (.lst acc) → DvA H' ((rowsE e (neatT bs t)).map rowD) acc → Q (.ref l) H'
abbrev prD (p : Int × Int) : PyData := .tuple [.int p.1, .int p.2]
def spSame (C : Addr) : Sp := fun vs H Q _ => ∃ (x d : Addr) (T : Tg) (bk : Bk) (nx : Int), vs = [.ref x] ∧ BkAt H C x d T bk nx ∧ BkOk T bk nx ∧ TgFit T ∧
  ∀ l acc H', Le0 H H' → H l = none → H' l = some (.lst acc) → DvA H' ((sameB bk).map prD) acc → Q (.ref l) H'
section
variable {P : Program} {w : World} {K : PySem.W.Frag} {mg : Str → Option Value} {base : Heap} {f : Addr} {fd : FuncData} {C : Addr}
abbrev N_book_fitting : List Str := ["self", "scope", "term", "number"]
theorem sc_book_fitting : FnScope N_book_fitting ["self", "scope", "term"] (defScope s_book_fitting) := ⟨rfl, rfl, rfl, by decide +kernel, rfl, by decide +kernel, by decide +kernel⟩
theorem ok_fitting (F : Fun K "fitting" "Book.fitting" s_book_fitting f fd) (B : Bt mg) (BK : BkK K C) (m_rows_for : MCal P w K base mg 51 C "rows_for" ["self", "number", "scope", "term"] (spRowsFor C)) : FnOk P w K mg base CX0 52 f fd ["self", "scope", "term"] (spFitting C) := by
  refine F.ok sc_book_fitting (fun vs H Q E h => by obtain ⟨x, d, a, v, T, bk, nx, bs, ss, t, s, rfl, _⟩ := h; rfl) (fun cdv A outer s H vs Q E hr h => ?_)
  obtain ⟨x, d, a, v, T, bk, nx, bs, ss, t, s0, rfl, hb, hok, hq, q⟩ := h
  refine ⟨_, (pss_one (ps_ret (pe_lc (own := [("number", 3)]) rfl sc_book_fitting.nd (piL (K := K) rfl (pe_callB (call_sortedDI rfl) (by rfl) B.sorted bv_sorted (pa_cons (fldQ (K := K) rfl (pv 0)) pa_nil))) (blkOk_by (own := [("number", 3)]) (N := N_book_fitting) (sc := defScope s_book_fitting) (by decide +kernel)) (fun _ _ _ _ _ => pg_name (i := 3) sc_book_fitting.nd rfl (by first | exact Or.inl rfl | exact Or.inr rfl)) (fun _ _ _ _ _ => pts_one (pt_cmpR op_notN (pe_mcal m_rows_for (hr.mono (by omega)) (pv 0) (pa_cons (pv 3) (pa_cons (pv 1) (pa_cons (pv 2) pa_nil)))) pe_non (nomark _))) (fun _ _ _ _ _ => pv 3)))), ?_⟩
  obtain ⟨⟨dx, tv, hx, ht⟩, kvs, hd, hk⟩ := id hb
  have hbl := hok.len
  refine ⟨_, rfl, x, C, dx, _, _, rfl, hx, BK.cls, BK.entries, rfl, d, kvs, bk.map (·.1), rfl, .inl hd, by rw [hk.1, List.map_map]; rfl, by rw [List.length_map]; omega, fun ys p hp hup hnp => ?_⟩
  obtain rfl := upI_eq hp hup hok.up
  have l1 : Le0 H (upd H p (.lst (nosV bk))) := Le.new hnp _
  have e1 : upd H p (.lst (nosV bk)) p = some (.lst (nosV bk)) := upd_same
  show ∃ a, _
  generalize upd H p (.lst (nosV bk)) = H1 at l1 e1
  refine ⟨p, rfl, ⟨_, SqL.of e1⟩, fun D hD => ?_⟩
  have hll : (nosV bk).length = bk.length := by simp
  refine lc_acc walk_list noM (fun i acc _ => acc = nosV (fitB (bk.take i) ss s0 (neatT bs t))) hD (fun _ z => z.elim) (smallL (by omega)) (fun i acc H H' _ _ _ h => h) rfl (fun i acc H' _ l _ => SqL.of (l.rest _ _ (fun z => z) e1)) (fun i y acc2 H7 H8 hi2 l7 _ _ hP2 y2 k1 k0 hk1' hk0' => ?_) fun acc2 H7 l7 hacc7 _ hP2 => ?_
  · obtain ⟨rfl, ex⟩ := y2
    obtain ⟨pp, ep⟩ := get_ex (l := bk) (i := i) (by omega)
    rw [List.getElem?_map, List.getElem?_map, ep] at ex
    obtain rfl := Option.some.inj ex
    have hm := get_mem ep
    have L := l1.trans l7
    have hb7 := hb.mono L (fun z => z) fun z => z
    have hx7 := L.rest _ _ (fun z => z) hx
    have tk : bk.take (i + 1) = bk.take i ++ [pp] := by rw [List.take_add_one, ep]; rfl
    refine ⟨rfl, ?_⟩
    refine ⟨_, rfl, x, dx, _, rfl, hx7, rfl, _, rfl, _, rfl, _, rfl, ?_⟩
    refine ⟨x, d, a, v, T, bk, nx, pp.1, pp.2, bs, ss, t, s0, rfl, hb7, hok.nodup, hm, hok.ent pp hm, hq.mono L (fun z => z), fun H' l' e' => ⟨rfl, _, rfl, ?_⟩, fun l acc H' l' _ _ _ e' => ⟨rfl, _, rfl, ?_⟩⟩
    · refine hk0' _ l' ?_
      unfold fitB at hP2 ⊢
      rw [tk, List.filter_append, List.filter_cons_of_neg (by rw [e']; exact Bool.false_ne_true), List.filter_nil, List.append_nil]
      exact hP2
    · refine ⟨_, rfl, hk1' _ _ l' ?_⟩
      unfold fitB at hP2 ⊢
      rw [tk, List.filter_append, show List.filter (fun p : Int × Ent => fitsE p.2 ss s0 (neatT bs t)) [pp] = [pp] from List.filter_cons_of_pos (p := fun p : Int × Ent => fitsE p.2 ss s0 (neatT bs t)) e', hP2]
      simp
  · rw [hll] at hP2
    rw [List.take_length] at hP2
    subst hP2
    exact q D _ (l1.trans l7) (l1.nil hD) hacc7
abbrev N_book_is_wider : List Str := ["self", "number", "other", "word", "sorts", "sort", "one", "twin_word", "twin_sorts", "twin_sort", "twin"]
theorem sc_book_is_wider : FnScope N_book_is_wider ["self", "number", "other"] (defScope s_book_is_wider) := ⟨rfl, rfl, rfl, by decide +kernel, rfl, by decide +kernel, by decide +kernel⟩
theorem ok_is_wider (F : Fun K "is_wider" "Book.is_wider" s_book_is_wider f fd) (B : Bt mg) (BK : BkK K C) (c_neat_scope : Cal P w K mg base 1 "neat_scope" ["sorts"] spNeatScope) (c_wider : Cal P w K mg base 51 "wider" ["tongue", "scope", "one", "other"] spWider) : FnOk P w K mg base CX0 52 f fd ["self", "number", "other"] (spWide C) := by
  refine F.ok sc_book_is_wider (fun vs H Q E h => by obtain ⟨x, d, T, bk, nx, k, j, e, g, rfl, _⟩ := h; rfl) (fun cdv A outer s H vs Q E hr h => ?_)
  obtain ⟨x, d, T, bk, nx, k, j, e, g, rfl, hb, hok, hfit, hm1, hm2, q⟩ := h
  have hu := hu_of hr
  refine ⟨_, (pss_cons (ps_asg (pe_dget hu (fldQ (K := K) rfl (pv 0)) (pv 1) (fun _ _ => rfl)) (pgT (K := K) (n := 4) rfl rfl (pgs_cons (pg_name (i := 3) sc_book_is_wider.nd rfl (by first | exact Or.inl rfl | exact Or.inr rfl)) (pgs_cons (pg_name (i := 4) sc_book_is_wider.nd rfl (by first | exact Or.inl rfl | exact Or.inr rfl)) (pgs_cons (pg_name (i := 5) sc_book_is_wider.nd rfl (by first | exact Or.inl rfl | exact Or.inr rfl)) (pgs_cons (pg_name (i := 6) sc_book_is_wider.nd rfl (by first | exact Or.inl rfl | exact Or.inr rfl)) pgs_nil))))))
  (pss_cons (ps_asg (pe_dget hu (fldQ (K := K) rfl (pv 0)) (pv 2) (fun _ _ => rfl)) (pgT (K := K) (n := 4) rfl rfl (pgs_cons (pg_name (i := 7) sc_book_is_wider.nd rfl (by first | exact Or.inl rfl | exact Or.inr rfl)) (pgs_cons (pg_name (i := 8) sc_book_is_wider.nd rfl (by first | exact Or.inl rfl | exact Or.inr rfl)) (pgs_cons (pg_name (i := 9) sc_book_is_wider.nd rfl (by first | exact Or.inl rfl | exact Or.inr rfl)) (pgs_cons (pg_name (i := 10) sc_book_is_wider.nd rfl (by first | exact Or.inl rfl | exact Or.inr rfl)) pgs_nil))))))
  (pss_one (ps_ret (pe_and (pe_cmpR (eqP (K := K) rfl hr.units) (pv 4) (pv 8) (nomark _)) (pe_and (pe_cmpR op_eq (pv 5) (pv 9) (nomark _)) (pe_one (pe_cal c_wider (hr.mono (by omega)) (by rfl) (pa_cons (fldQ (K := K) rfl (pv 0)) (pa_cons (pe_cal c_neat_scope (hr.mono (by omega)) (by rfl) (pa_cons (pv 4) pa_nil)) (pa_cons (pv 6) (pa_cons (pv 10) pa_nil)))))))))))), ?_⟩
  obtain ⟨⟨dx, tv, hx, ht⟩, kvs, hd, hk⟩ := id hb
  have he : EntOk T e := hok.ent _ hm1
  have hg : EntOk T g := hok.ent _ hm2
  have elen := he.len
  obtain ⟨ev, hev, dev⟩ := hk.get hok.nodup hm1
  obtain ⟨ea, us, rfl, hea, hus⟩ := dv_tup.mp dev
  obtain ⟨u1, us, rfl, d1, hus⟩ := dva_cons.mp hus
  obtain ⟨u2, us, rfl, d2, hus⟩ := dva_cons.mp hus
  obtain ⟨u3, us, rfl, d3, hus⟩ := dva_cons.mp hus
  obtain ⟨u4, us, rfl, d4, hus⟩ := dva_cons.mp hus
  obtain rfl := dva_nil.mp hus
  rw [dv_int] at d3; subst d3
  obtain ⟨gv, hgv, dgv⟩ := hk.get hok.nodup hm2
  obtain ⟨ga, us, rfl, hga, hus⟩ := dv_tup.mp dgv
  obtain ⟨w1, us, rfl, f1, hus⟩ := dva_cons.mp hus
  obtain ⟨w2, us, rfl, f2, hus⟩ := dva_cons.mp hus
  obtain ⟨w3, us, rfl, f3, hus⟩ := dva_cons.mp hus
  obtain ⟨w4, us, rfl, f4, hus⟩ := dva_cons.mp hus
  obtain rfl := dva_nil.mp hus
  rw [dv_int] at f3; subst f3
  refine ⟨_, rfl, x, C, dx, _, _, rfl, hx, BK.cls, BK.entries, rfl, _, rfl, d, _, rfl, dget_int (.inl hd) hev, ?_⟩
  refine ⟨ea, _, rfl, SqT.of hea, rfl, _, _, rfl, _, _, rfl, _, _, rfl, _, _, rfl, rfl, ?_⟩
  refine ⟨_, rfl, x, C, dx, _, _, rfl, hx, BK.cls, BK.entries, rfl, _, rfl, d, _, rfl, dget_int (.inl hd) hgv, ?_⟩
  refine ⟨ga, _, rfl, SqT.of hga, rfl, _, _, rfl, _, _, rfl, _, _, rfl, _, _, rfl, rfl, ?_⟩
  refine ⟨_, rfl, _, rfl, intsD e.sorts, intsD g.sorts, d2.dp, f2.dp, pd_ints _, pd_ints _, Nat.le_trans (depth_ints _) (by decide), fun bo hbo => ⟨bo, rfl, ?_⟩⟩
  by_cases hss : e.sorts = g.sorts
  · rw [hbo.mpr (by rw [hss])]
    refine iteT ?_
    refine ⟨_, rfl, _, rfl, rfl, _, rfl, ?_⟩
    by_cases hs : e.sort = g.sort
    · refine ifT (by rw [hs]) ?_
      refine ⟨_, rfl, x, C, dx, _, _, rfl, hx, BK.cls, BK.tongue, rfl, _, rfl, u2, e.sorts, rfl, d2, by omega, fun v3 H3 l3 hv3 => ?_⟩
      obtain ⟨a3, rfl, hs3⟩ := Scp.of (figs_length _ _) hv3
      refine ⟨_, rfl, _, rfl, tv, u4, w4, a3, e.pat, g.pat, e.sorts, rfl, hs3, d4.mono l3.tup, f4.mono l3.tup, he.match hg.ty (by rw [hss]; exact hg.nt) (Nat.le_trans hg.d (by decide)) (by have := hg.s; omega), fun H' l' => ?_⟩
      have := q H' (l3.trans l')
      unfold wideE fitsE at this
      rw [decide_eq_true hss, decide_eq_true hs, Bool.true_and, Bool.true_and] at this
      exact this
    · refine ifF (fun z => hs (by injection z)) ?_
      have := q H (Le.refl _)
      unfold wideE fitsE at this
      rw [decide_eq_false hs, Bool.false_and, Bool.and_false] at this
      exact this
  · rw [show bo = false from Bool.eq_false_iff.mpr fun z => hss (intsD_inj (hbo.mp z))]
    refine iteF ?_
    have := q H (Le.refl _)
    unfold wideE fitsE at this
    rw [decide_eq_false hss, Bool.false_and] at this
    exact this
abbrev N_book_is_narrower : List Str := ["self", "number", "other"]
theorem sc_book_is_narrower : FnScope N_book_is_narrower ["self", "number", "other"] (defScope s_book_is_narrower) := ⟨rfl, rfl, rfl, by decide +kernel, rfl, by decide +kernel, by decide +kernel⟩
theorem ok_is_narrower (F : Fun K "is_narrower" "Book.is_narrower" s_book_is_narrower f fd) (B : Bt mg) (BK : BkK K C) (m_is_wider : MCal P w K base mg 52 C "is_wider" ["self", "number", "other"] (spWide C)) : FnOk P w K mg base CX0 53 f fd ["self", "number", "other"] (spNarrow C) := by
  refine F.ok sc_book_is_narrower (fun vs H Q E h => by obtain ⟨x, d, T, bk, nx, k, j, e, g, rfl, _⟩ := h; rfl) (fun cdv A outer s H vs Q E hr h => ?_)
  obtain ⟨x, d, T, bk, nx, k, j, e, g, rfl, hb, hok, hfit, hm1, hm2, q⟩ := h
  refine ⟨_, (pss_one (ps_ret (pe_and (pe_mcal m_is_wider (hr.mono (by omega)) (pv 0) (pa_cons (pv 2) (pa_cons (pv 1) pa_nil))) (pe_one (pe_not (pe_mcal m_is_wider (hr.mono (by omega)) (pv 0) (pa_cons (pv 1) (pa_cons (pv 2) pa_nil)))))))), ?_⟩
  obtain ⟨⟨dx, tv, hx, ht⟩, kvs, hd, hk⟩ := id hb
  refine ⟨_, rfl, x, dx, _, rfl, hx, rfl, _, rfl, _, rfl, x, d, T, bk, nx, j, k, g, e, rfl, hb, hok, hfit, hm2, hm1, fun H1 l1 => ⟨_, rfl, ?_⟩⟩
  have hx1 := l1.rest _ _ (fun z => z) hx
  have hb1 := hb.mono l1 (fun z => z) fun z => z
  cases e1 : wideE g e with
  | true =>
    refine iteT ?_
    refine ⟨_, rfl, x, dx, _, rfl, hx1, rfl, _, rfl, _, rfl, x, d, T, bk, nx, k, j, e, g, rfl, hb1, hok, hfit, hm1, hm2, fun H2 l2 => ⟨_, rfl, ?_⟩⟩
    have := q H2 (l1.trans l2)
    unfold narrowE at this
    rw [e1, Bool.true_and] at this
    exact this
  | false =>
    refine iteF ?_
    have := q H1 l1
    unfold narrowE at this
    rw [e1, Bool.false_and] at this
    exact this
abbrev N_book_rows_of : List Str := ["self", "number", "scope", "term", "rows"]
theorem sc_book_rows_of : FnScope N_book_rows_of ["self", "number", "scope", "term"] (defScope s_book_rows_of) := ⟨rfl, rfl, rfl, by decide +kernel, rfl, by decide +kernel, by decide +kernel⟩
theorem ok_rows_of (F : Fun K "rows_of" "Book.rows_of" s_book_rows_of f fd) (B : Bt mg) (BK : BkK K C) (m_entry : MCal P w K base mg 1 C "entry" ["self", "number"] (spEntry C)) (m_rows_for : MCal P w K base mg 51 C "rows_for" ["self", "number", "scope", "term"] (spRowsFor C)) : FnOk P w K mg base CX0 52 f fd ["self", "number", "scope", "term"] (spRowsOf C) := by
  refine F.ok sc_book_rows_of (fun vs H Q E h => by obtain ⟨x, d, a, v, T, bk, nx, k, e, bs, ss, t, s, rfl, _⟩ := h; rfl) (fun cdv A outer s H vs Q E hr h => ?_)
  obtain ⟨x, d, a, v, T, bk, nx, k, e, bs, ss, t, s0, rfl, hb, hok, hm, hq, hf, q⟩ := h
  refine ⟨_, (pss_cons (ps_expr (pe_mcal m_entry (hr.mono (by omega)) (pv 0) (pa_cons (pv 1) pa_nil)))
  (pss_cons (ps_set (i := 4) sc_book_rows_of.nd rfl (by first | exact Or.inl rfl | exact Or.inr rfl) (pe_mcal m_rows_for (hr.mono (by omega)) (pv 0) (pa_cons (pv 1) (pa_cons (pv 2) (pa_cons (pv 3) pa_nil)))))
  (pss_cons (ps_if (pt_cmpR op_isN (pv 4) pe_non (nomark _)) pss_never pss_nil)
  (pss_one (ps_ret (pv 4)))))), ?_⟩
  obtain ⟨⟨dx, tv, hx, ht⟩, kvs, hd, hk⟩ := id hb
  refine ⟨_, rfl, x, dx, _, rfl, hx, rfl, _, rfl, x, d, T, bk, nx, k, e, rfl, hb, hok.nodup, hm, fun v1 _ => ?_⟩
  refine ⟨_, rfl, x, dx, _, rfl, hx, rfl, _, rfl, _, rfl, _, rfl, ?_⟩
  refine ⟨x, d, a, v, T, bk, nx, k, e, bs, ss, t, s0, rfl, hb, hok.nodup, hm, hok.ent _ hm, hq, fun H' _ e' => (by rw [hf] at e'; cases e'), fun l acc H' l' hl hl2 hd' _ => ?_⟩
  refine ⟨_, rfl, rfl, _, rfl, ?_⟩
  refine iteF ?_
  exact ⟨_, rfl, q l acc H' l' hl hl2 hd'⟩
end
end Nh
/-! ## NhP10 -/
set_option maxHeartbeats 4000000
namespace Nh
open PySem PySem.Spec PyProof.Rows L2
theorem flat_len {α β : Type} (g : α → List β) (m : Nat) : ∀ l : List α, (∀ a ∈ l, (g a).length ≤ m) → (l.flatMap g).length ≤ l.length * m
  | [], _ => Nat.zero_le _
  | a :: l, h => by
    rw [List.flatMap_cons, List.length_append, List.length_cons, Nat.succ_mul]
    have h1 := h a List.mem_cons_self
    have h2 := flat_len g m l fun b hb => h b (List.mem_cons_of_mem _ hb)
    omega
noncomputable abbrev sameP (p q : Int × Ent) : Bool := decide (p.1 < q.1) && (wideE p.2 q.2 && wideE q.2 p.2)
noncomputable abbrev sameR (bk : Bk) (p : Int × Ent) : List (Int × Int) := (bk.filter fun q => sameP p q).map fun q => (p.1, q.1)
theorem sameB_eq (bk : Bk) : sameB bk = bk.flatMap (sameR bk) := rfl
section
variable {P : Program} {w : World} {K : PySem.W.Frag} {mg : Str → Option Value} {base : Heap} {f : Addr} {fd : FuncData} {C : Addr}
abbrev N_book_narrowest : List Str := ["self", "scope", "term", "some", "number", "other"]
theorem sc_book_narrowest : FnScope N_book_narrowest ["self", "scope", "term"] (defScope s_book_narrowest) := ⟨rfl, rfl, rfl, by decide +kernel, rfl, by decide +kernel, by decide +kernel⟩
def lcScope : Option Stmt → Scope
  | some (.Return (some (.ListComp _ _ sc _)) _) => sc
  | _ => defScope s_book_narrowest
abbrev sc_nar : Scope := lcScope (defBody s_book_narrowest)[1]?
theorem ok_narrowest (F : Fun K "narrowest" "Book.narrowest" s_book_narrowest f fd) (B : Bt mg) (BK : BkK K C) (m_fitting : MCal P w K base mg 52 C "fitting" ["self", "scope", "term"] (spFitting C)) (m_is_narrower : MCal P w K base mg 53 C "is_narrower" ["self", "number", "other"] (spNarrow C)) : FnOk P w K mg base CX0 54 f fd ["self", "scope", "term"] (spNarrowest C) := by
  refine F.ok sc_book_narrowest (fun vs H Q E h => by obtain ⟨x, d, a, v, T, bk, nx, bs, ss, t, s, rfl, _⟩ := h; rfl) (fun cdv A outer s H vs Q E hr h => ?_)
  obtain ⟨x, d, a, v, T, bk, nx, bs, ss, t, s0, rfl, hb, hok, hq, q⟩ := h
  refine ⟨_, (pss_cons (ps_set (i := 3) sc_book_narrowest.nd rfl (by first | exact Or.inl rfl | exact Or.inr rfl) (pe_mcal m_fitting (hr.mono (by omega)) (pv 0) (pa_cons (pv 1) (pa_cons (pv 2) pa_nil))))
  (pss_one (ps_ret (pe_lc (own := [("number", 4)]) rfl sc_book_narrowest.nd (piL (K := K) rfl (pv 3)) (blkOk_by (own := [("number", 4)]) (N := N_book_narrowest) (sc := defScope s_book_narrowest) (by decide +kernel)) (fun _ _ _ _ _ => pg_name (i := 4) sc_book_narrowest.nd rfl (by first | exact Or.inl rfl | exact Or.inr rfl)) (fun _ _ _ _ _ => pts_one (pt_not (pt_val (pe_callB (anyQ (K := K) rfl rfl) (by rfl) B.any bv_any (pa_cons (pe_lc (own := [("other", 5)]) rfl sc_book_narrowest.nd (piL (K := K) rfl (pv 3)) (blkOk_by (own := [("other", 5)]) (N := N_book_narrowest) (sc := relS sc_nar (defScope s_book_narrowest)) (by decide +kernel)) (fun _ _ _ _ _ => pg_name (i := 5) sc_book_narrowest.nd rfl (by first | exact Or.inl rfl | exact Or.inr rfl)) (fun _ _ _ _ _ => pts_nil) (fun _ _ _ _ _ => pe_mcal m_is_narrower (hr.mono (by omega)) (pv 0) (pa_cons (pv 5) (pa_cons (pv 4) pa_nil)))) pa_nil))))) (fun _ _ _ _ _ => pv 4))))), ?_⟩
  obtain ⟨⟨dx, tv, hx, ht⟩, kvs, hd, hk⟩ := id hb
  have hbl := hok.len
  refine ⟨_, rfl, x, dx, _, rfl, hx, rfl, _, rfl, _, rfl, x, d, a, v, T, bk, nx, bs, ss, t, s0, rfl, hb, hok, hq, fun l H1 l1 hnl hl => ?_⟩
  have hfl : (fitB bk ss s0 (neatT bs t)).length ≤ bk.length := List.length_filter_le _ _
  have hfm : ∀ p ∈ fitB bk ss s0 (neatT bs t), p ∈ bk := fun p hp => (List.mem_filter.mp hp).1
  have hb1 := hb.mono l1 (fun z => z) fun z => z
  generalize fitB bk ss s0 (neatT bs t) = fb at hl hfl hfm q
  have hll : (nosV fb).length = fb.length := by simp
  refine ⟨_, rfl, l, rfl, ⟨_, SqL.of hl⟩, fun D hD => ?_⟩
  refine lc_acc walk_list noM (fun i acc _ => acc = nosV ((fb.take i).filter fun p => !fb.any fun q => narrowE q.2 p.2)) hD (fun _ z => z.elim) (smallL (by omega)) (fun i acc H H' _ _ _ h => h) rfl (fun i acc H' _ l _ => SqL.of (l.rest _ _ (fun z => z) hl)) (fun i y acc2 H7 H8 hi2 l7 _ _ hP2 y2 k1 k0 hk1' hk0' => ?_) fun acc2 H7 l7 hacc7 _ hP2 => ?_
  · obtain ⟨rfl, ex⟩ := y2
    obtain ⟨pp, ep⟩ := get_ex (l := fb) (i := i) (by omega)
    rw [List.getElem?_map, List.getElem?_map, ep] at ex
    obtain rfl := Option.some.inj ex
    have hm := hfm pp (get_mem ep)
    have hl8 := l7.rest _ _ (fun z => z) hl
    have hb8 := hb1.mono l7 (fun z => z) fun z => z
    have tk : fb.take (i + 1) = fb.take i ++ [pp] := by rw [List.take_add_one, ep]; rfl
    refine ⟨rfl, ?_⟩
    refine ⟨_, rfl, l, rfl, ⟨_, SqL.of hl8⟩, fun D2 hD2 => ?_⟩
    refine lc_mapN walk_list noM (fun _ _ => True) (fun i y _ => ∀ q, fb[i]? = some q → y = .bl (narrowE q.2 pp.2)) hD2 (fun _ z => z.elim) (smallL (by omega)) (fun _ _ _ _ _ h => h) (fun _ _ _ _ _ h => h) trivial (fun i H _ l _ => SqL.of (l.rest _ _ (fun z => z) hl8)) (fun j x2 H3 H4 hj l3 _ y k3 hk3 => ?_) fun acc3 H3 l3 hacc3 hlen3 _ hbs => ?_
    · obtain ⟨rfl, ex⟩ := y
      obtain ⟨qq, eq⟩ := get_ex (l := fb) (i := j) (by omega)
      rw [List.getElem?_map, List.getElem?_map, eq] at ex
      obtain rfl := Option.some.inj ex
      have hb9 := hb8.mono l3 (fun z => z) fun z => z
      obtain ⟨⟨dx9, tv9, hx9, _⟩, _⟩ := id hb9
      refine ⟨rfl, _, rfl, x, dx9, _, rfl, hx9, rfl, _, rfl, _, rfl, x, d, T, bk, nx, qq.1, pp.1, qq.2, pp.2, rfl, hb9, hok, hq.fit, hfm qq (get_mem eq), hm, fun H' l' => hk3 _ _ l' trivial fun q e => ?_⟩
      rw [eq] at e; cases e; rfl
    · have ea := bl_map (g := fun q : Int × Ent => narrowE q.2 pp.2) (l := fb) (acc := acc3) (by omega) hbs
      rw [ea] at hacc3
      refine ⟨D2, _, rfl, SqL.of hacc3, ?_⟩
      have e2 : (fb.map fun q : Int × Ent => narrowE q.2 pp.2).any id = fb.any fun q => narrowE q.2 pp.2 := by rw [List.any_map]; rfl
      rw [e2]
      refine ⟨_, rfl, ?_⟩
      cases e3 : fb.any fun q => narrowE q.2 pp.2 with
      | true =>
        refine hk0' _ l3 ?_
        rw [tk, List.filter_append, List.filter_cons_of_neg (by rw [e3]; exact Bool.false_ne_true), List.filter_nil, List.append_nil]
        exact hP2
      | false =>
        refine ⟨_, rfl, hk1' _ _ l3 ?_⟩
        rw [tk, List.filter_append, List.filter_cons_of_pos (by rw [e3]; rfl), List.filter_nil, hP2]
        simp
  · rw [hll, List.take_length] at hP2
    subst hP2
    exact q D _ (l1.trans l7) (l1.nil hD) hacc7
abbrev N_book_same_entries : List Str := ["self", "pairs", "number", "other"]
theorem sc_book_same_entries : FnScope N_book_same_entries ["self"] (defScope s_book_same_entries) := ⟨rfl, rfl, rfl, by decide +kernel, rfl, by decide +kernel, by decide +kernel⟩
theorem ok_same (F : Fun K "same_entries" "Book.same_entries" s_book_same_entries f fd) (B : Bt mg) (BK : BkK K C) (m_is_wider : MCal P w K base mg 52 C "is_wider" ["self", "number", "other"] (spWide C)) : FnOk P w K mg base CX0 53 f fd ["self"] (spSame C) := by
  refine F.ok sc_book_same_entries (fun vs H Q E h => by obtain ⟨x, d, T, bk, nx, rfl, _⟩ := h; rfl) (fun cdv A outer s H vs Q E hr h => ?_)
  obtain ⟨x, d, T, bk, nx, rfl, hb, hok, hfit, q⟩ := h
  refine ⟨_, (pss_cons (ps_set (i := 1) sc_book_same_entries.nd rfl (by first | exact Or.inl rfl | exact Or.inr rfl) (pe_lst pa_nil))
  (pss_cons (ps_for PassesOwn.never rfl (piL (K := K) rfl (pe_callB (call_sortedDI rfl) (by rfl) B.sorted bv_sorted (pa_cons (fldQ (K := K) rfl (pv 0)) pa_nil))) (pg_name (i := 2) sc_book_same_entries.nd rfl (by first | exact Or.inl rfl | exact Or.inr rfl)) (pss_one (ps_for PassesOwn.never rfl (piL (K := K) rfl (pe_callB (call_sortedDI rfl) (by rfl) B.sorted bv_sorted (pa_cons (fldQ (K := K) rfl (pv 0)) pa_nil))) (pg_name (i := 3) sc_book_same_entries.nd rfl (by first | exact Or.inl rfl | exact Or.inr rfl)) (pss_one (ps_if (PW.pt (pw_and (pt_cmpR op_lt (pv 2) (pv 3) (nomark _)) (pw_and (pt_val (pe_mcal m_is_wider (hr.mono (by omega)) (pv 0) (pa_cons (pv 2) (pa_cons (pv 3) pa_nil)))) (pw_and1 (pt_val (pe_mcal m_is_wider (hr.mono (by omega)) (pv 0) (pa_cons (pv 3) (pa_cons (pv 2) pa_nil)))))))) (pss_one (ps_expr (pe_bm PySem.F.plainAttrs_list PySem.F.slot_list_append PySem.F.type_list_append mt_append (pv 1) (pa_cons (pe_tup (pa_cons (pv 2) (pa_cons (pv 3) pa_nil))) pa_nil)))) pss_nil)))))
  (pss_one (ps_ret (pv 1))))), ?_⟩
  obtain ⟨⟨dx, tv, hx, ht⟩, kvs, hd, hk⟩ := id hb
  have hbl := hok.len
  have hll : (nosV bk).length = bk.length := by simp
  refine ⟨z0, fun D hD => ?_⟩
  have l1 : Le0 H (upd H D (.lst [])) := Le.new hD _
  have eD : upd H D (.lst []) D = some (.lst []) := upd_same
  generalize upd H D (.lst []) = H1 at l1 eD
  have xD : x ≠ D := fun e => by rw [e, hD] at hx; cases hx
  have dD : d ≠ D := fun e => by rw [e, hD] at hd; cases hd
  have hx1 := l1.rest _ _ (fun z => z) hx
  have hb1 := hb.mono l1 (fun z => z) fun z => z
  have hd1 := l1.rest _ _ (fun z => z) hd
  refine ⟨_, rfl, x, C, dx, _, _, rfl, hx1, BK.cls, BK.entries, rfl, d, kvs, bk.map (·.1), rfl, .inl hd1, by rw [hk.1, List.map_map]; rfl, by rw [List.length_map]; omega, fun ys p hp hup hnp => ?_⟩
  obtain rfl := upI_eq hp hup hok.up
  have l2 : Le0 H1 (upd H1 p (.lst (nosV bk))) := Le.new hnp _
  have e2 : upd H1 p (.lst (nosV bk)) p = some (.lst (nosV bk)) := upd_same
  have pD : p ≠ D := fun e => by rw [e, eD] at hnp; cases hnp
  show ∃ a, _
  generalize upd H1 p (.lst (nosV bk)) = H2 at l2 e2
  have eD2 := l2.rest _ _ (fun z => z) eD
  refine ⟨p, rfl, ⟨_, SqL.of e2⟩, ?_⟩
  refine for_it walk_list (fun i σ H' => (∃ y1 y2, σ = [some (.ref x), some (.ref D), y1, y2]) ∧ Le (fun a => a = D) H2 H' ∧ ∃ acc, H' D = some (.lst acc) ∧ DvA H' (((bk.take i).flatMap (sameR bk)).map prD) acc)
    ⟨⟨none, none, rfl⟩, Le.refl _, [], eD2, .nil⟩ (fun i σ H' _ ⟨_, l3, _⟩ => SqL.of (l3.rest _ _ pD e2)) (fun i y σ H30 H3 hi hP yy => ?_) fun σ H' hP => ?_
  · obtain ⟨⟨y1, y2, rfl⟩, l3, acc, ha, hacc⟩ := hP
    obtain ⟨rfl, ex⟩ := yy
    obtain ⟨pp, ep⟩ := get_ex (l := bk) (i := i) (by omega)
    rw [List.getElem?_map, List.getElem?_map, ep] at ex
    obtain rfl := Option.some.inj ex
    have tk : bk.take (i + 1) = bk.take i ++ [pp] := by rw [List.take_add_one, ep]; rfl
    have m3 : Le (fun a => a = D) H1 H3 := l2.any.trans l3
    have hx3 := m3.rest _ _ xD hx1
    have hd3 := m3.rest _ _ dD hd1
    refine ⟨_, rfl, x, C, dx, _, _, rfl, hx3, BK.cls, BK.entries, rfl, d, kvs, bk.map (·.1), rfl, .inl hd3, by rw [hk.1, List.map_map]; rfl, by rw [List.length_map]; omega, fun ys p2 hp2 hup2 hnp2 => ?_⟩
    obtain rfl := upI_eq hp2 hup2 hok.up
    have l4 : Le0 H3 (upd H3 p2 (.lst (nosV bk))) := Le.new hnp2 _
    have e4 : upd H3 p2 (.lst (nosV bk)) p2 = some (.lst (nosV bk)) := upd_same
    have pD2 : p2 ≠ D := fun e => by rw [e, ha] at hnp2; cases hnp2
    show ∃ a, _
    generalize upd H3 p2 (.lst (nosV bk)) = H4 at l4 e4
    have ha4 := l4.rest _ _ (fun z => z) ha
    refine ⟨p2, rfl, ⟨_, SqL.of e4⟩, ?_⟩
    refine for_it walk_list (fun j σ H' => (∃ y2, σ = [some (.ref x), some (.ref D), some (.int pp.1), y2]) ∧ Le (fun a => a = D) H4 H' ∧ ∃ acc, H' D = some (.lst acc) ∧ DvA H' (((bk.take i).flatMap (sameR bk) ++ sameR (bk.take j) pp).map prD) acc)
      ⟨⟨_, rfl⟩, Le.refl _, acc, ha4, by rw [show sameR (bk.take 0) pp = [] from rfl, List.append_nil]; exact hacc.mono l4.tup⟩ (fun j σ H' _ ⟨_, l5, _⟩ => SqL.of (l5.rest _ _ pD2 e4)) (fun j y σ H50 H5 hj hP yy => ?_) fun σ H' hP => ?_
    · obtain ⟨⟨y2, rfl⟩, l5, acc5, ha5, hacc5⟩ := hP
      obtain ⟨rfl, ex⟩ := yy
      obtain ⟨qq, eq⟩ := get_ex (l := bk) (i := j) (by omega)
      rw [List.getElem?_map, List.getElem?_map, eq] at ex
      obtain rfl := Option.some.inj ex
      have tj : bk.take (j + 1) = bk.take j ++ [qq] := by rw [List.take_add_one, eq]; rfl
      have m5 : Le (fun a => a = D) H1 H5 := (m3.trans l4.any).trans l5
      have hx5 := m5.rest _ _ xD hx1
      have hb5 := hb1.mono m5 xD dD
      have stay : ∀ {H'}, Le0 H5 H' → sameP pp qq = false → (∃ y2, ([some (.ref x), some (.ref D), some (.int pp.1), some (.int qq.1)] : L2.St) = [some (.ref x), some (.ref D), some (.int pp.1), y2]) ∧ Le (fun a => a = D) H4 H' ∧ ∃ acc, H' D = some (.lst acc) ∧ DvA H' (((bk.take i).flatMap (sameR bk) ++ sameR (bk.take (j + 1)) pp).map prD) acc := fun {H'} l hn => by
        refine ⟨⟨_, rfl⟩, l5.trans l.any, acc5, l.rest _ _ (fun z => z) ha5, ?_⟩
        rw [show sameR (bk.take (j + 1)) pp = sameR (bk.take j) pp by unfold sameR; rw [tj, List.filter_append, List.filter_cons_of_neg (by rw [hn]; exact Bool.false_ne_true), List.filter_nil, List.append_nil]]
        exact hacc5.mono l.tup
      refine ⟨_, rfl, _, rfl, _, _, rfl, rfl, _, rfl, ?_⟩
      by_cases hlt : pp.1 < qq.1
      · refine ifT hlt ?_
        refine ⟨_, rfl, x, dx, _, rfl, hx5, rfl, _, rfl, _, rfl, x, d, T, bk, nx, pp.1, qq.1, pp.2, qq.2, rfl, hb5, hok, hfit, get_mem ep, get_mem eq, fun H7 l7 => ⟨_, rfl, ?_⟩⟩
        cases w1 : wideE pp.2 qq.2 with
        | false =>
          refine iteF ?_
          exact stay l7 (by unfold sameP; rw [w1, Bool.false_and, Bool.and_false])
        | true =>
          refine iteT ?_
          have hx7 := l7.rest _ _ (fun z => z) hx5
          refine ⟨_, rfl, x, dx, _, rfl, hx7, rfl, _, rfl, _, rfl, x, d, T, bk, nx, qq.1, pp.1, qq.2, pp.2, rfl, hb5.mono l7 (fun z => z) (fun z => z), hok, hfit, get_mem eq, get_mem ep, fun H8 l8 => ⟨_, rfl, ?_⟩⟩
          have l78 := l7.trans l8
          cases w2 : wideE qq.2 pp.2 with
          | false =>
            refine iteF ?_
            exact stay l78 (by unfold sameP; rw [w2, Bool.and_false, Bool.and_false])
          | true =>
            refine iteT ?_
            have hP1 : sameP pp qq = true := by unfold sameP; rw [w1, w2, decide_eq_true hlt]; rfl
            have ha8 := l78.rest _ _ (fun z => z) ha5
            refine ⟨_, rfl, .inl ⟨rfl, _, SqL.of ha8⟩, ?_⟩
            refine ⟨_, rfl, _, rfl, z2, fun r hr' => ?_⟩
            have nrD : D ≠ r := ne_of_none ha8 hr'
            have l9 : Le0 H8 (upd H8 r (.tup [.int pp.1, .int qq.1])) := Le.new hr' _
            have d9 : Dv (upd H8 r (.tup [.int pp.1, .int qq.1])) (prD (pp.1, qq.1)) (.ref r) := Dv.mk hr' (.cons Dv.int (.cons Dv.int .nil))
            generalize upd H8 r (.tup [.int pp.1, .int qq.1]) = H9 at l9 d9
            have ha9 := l9.rest _ _ (fun z => z) ha8
            have len5 := hacc5.length
            have b1 : ((bk.take i).flatMap (sameR bk)).length ≤ (bk.take i).length * bk.length := flat_len _ _ _ fun a _ => by unfold sameR; rw [List.length_map]; exact List.length_filter_le _ _
            have b2 : (sameR (bk.take j) pp).length ≤ bk.length := by unfold sameR; rw [List.length_map]; refine Nat.le_trans (List.length_filter_le _ _) ?_; rw [List.length_take]; omega
            have b3 : (bk.take i).length * bk.length ≤ 40 * 40 := Nat.mul_le_mul (by rw [List.length_take]; omega) hbl
            rw [List.length_map, List.length_append] at len5
            refine ⟨D, acc5, _, rfl, rfl, ha9, smallL (by omega), ?_⟩
            refine ⟨⟨_, rfl⟩, ((l5.trans l78.any).trans l9.any).mut (p := D) rfl (fun xs e => by rw [ha9] at e; cases e) _, _, upd_same, ?_⟩
            rw [show sameR (bk.take (j + 1)) pp = sameR (bk.take j) pp ++ [(pp.1, qq.1)] by unfold sameR; rw [tj, List.filter_append, List.filter_cons_of_pos (by rw [hP1]), List.filter_nil, List.map_append]; rfl]
            rw [← List.append_assoc, List.map_append]
            have t9 : Tu H9 (upd H9 D (.lst (acc5 ++ [.ref r]))) := Tu.upd ha9 (fun _ q => nomatch q) _
            exact ((hacc5.mono (l78.trans l9).tup).mono t9).append (.cons (d9.mono t9) .nil)
      · refine ifF hlt ?_
        exact stay (Le.refl _) (by unfold sameP; rw [decide_eq_false hlt, Bool.false_and])
    · obtain ⟨⟨y2, rfl⟩, l5, acc5, ha5, hacc5⟩ := hP
      refine ⟨⟨_, _, rfl⟩, (l3.trans l4.any).trans l5, acc5, ha5, ?_⟩
      rw [hll, List.take_length] at hacc5
      rw [tk, List.flatMap_append]
      rw [show [pp].flatMap (sameR bk) = sameR bk pp by simp]
      exact hacc5
  · obtain ⟨⟨y1, y2, rfl⟩, l3, acc, ha, hacc⟩ := hP
    rw [hll, List.take_length] at hacc
    exact ⟨_, rfl, q D acc H' ((l1.trans l2).back l3 hD) hD ha (by rw [sameB_eq]; exact hacc)⟩
end
end Nh
/-! ## NhL1 -/
set_option maxHeartbeats 4000000
namespace Nh
open PySem PySem.Spec PyProof.Rows L2
/-! ### the tape -/
structure Tape (H : Hp) (tp : Addr) (n : Int) : Prop where
  ex : ∃ a b c : Int, H tp = some (.lst [.int a, .int b, .int c]) ∧ 0 ≤ c ∧ c ≤ n
theorem Tape.mono {M : Addr → Prop} {H H' : Hp} {tp : Addr} {n m : Int} (h : Tape H tp n) (l : Le M H H') (hm : ¬ M tp) (hn : n ≤ m) : Tape H' tp m :=
  let ⟨a, b, c, h1, h2, h3⟩ := h.ex; ⟨a, b, c, l.rest _ _ hm h1, h2, by omega⟩
theorem Tape.up {H : Hp} {tp : Addr} {n m : Int} (h : Tape H tp n) (hn : n ≤ m) : Tape H tp m := h.mono (Le.refl (M := noM) H) (fun z => z) hn
abbrev big : Int := 1000000000000
def spCell (K : PySem.W.Frag) : Sp := fun vs H Q _ => ∃ (a : Addr) (ns : List Int) (k : Int), vs = [.ref a, .int k] ∧ SqL K H a (ns.map V.int) ∧ 0 ≤ k ∧ ∀ z : Int, Q (.int z) H
def spTape (K : PySem.W.Frag) : Sp := fun vs H Q _ => ∃ (a : Addr) (ns : List Int) (k : Int), vs = [.ref a, .int k] ∧ SqL K H a (ns.map V.int) ∧ 0 ≤ k ∧ k ≤ 1000 ∧ ∀ tp H', Le0 H H' → H tp = none → Tape H' tp 0 → Q (.ref tp) H'
abbrev atT (tp : Addr) : Addr → Prop := fun a => a = tp
def spTake : Sp := fun vs H Q _ => ∃ (tp : Addr) (m n : Int), vs = [.ref tp, .int m] ∧ Tape H tp n ∧ 0 < m ∧ m ≤ 1000000 ∧ n ≤ big ∧ ∀ (d : Int) H', 0 ≤ d → d < m → Le (atT tp) H H' → Tape H' tp (n + 1) → Q (.int d) H'
theorem nz {j : Int} (h : (j != 0) = true) : j ≠ 0 := by simpa using h
theorem fmod_range {a m : Int} (h : 0 < m) : 0 ≤ a.fmod m ∧ a.fmod m < m := ⟨Int.fmod_nonneg_of_pos a h, Int.fmod_lt_of_pos a h⟩
section
variable {P : Program} {w : World} {K : PySem.W.Frag} {mg : Str → Option Value} {base : Heap} {f : Addr} {fd : FuncData}
abbrev N_l_cell_at : List Str := ["_law_script", "_law_k"]
theorem sc_l_cell_at : FnScope N_l_cell_at ["_law_script", "_law_k"] (defScope s_l_cell_at) := ⟨rfl, rfl, rfl, by decide +kernel, rfl, by decide +kernel, by decide +kernel⟩
theorem ok_l_cell_at (F : Fun K "_law_cell_at" "_law_cell_at" s_l_cell_at f fd) (B : Bt mg) : FnOk P w K mg base CX0 1 f fd ["_law_script", "_law_k"] (spCell K) := by
  refine F.ok sc_l_cell_at (fun vs H Q E h => by obtain ⟨a, ns, k, rfl, _⟩ := h; rfl) (fun cdv A outer s H vs Q E hr h => ?_)
  obtain ⟨a, ns, k, rfl, ha, hk, q⟩ := h
  refine ⟨_, (pss_one (ps_ret (pe_ifExp (pt_cmpR op_lt (pv 1) (pe_callB (lenQ (K := K) rfl) (by rfl) B.len bv_len (pa_cons (pv 0) pa_nil)) (nomark _)) (pe_ix (ixL (K := K) rfl) (pv 0) (pv 1) (fun _ _ => rfl)) (pe_int)))), ?_⟩
  have hl : (ns.map V.int).length = ns.length := List.length_map _
  refine ⟨_, rfl, _, rfl, a, _, rfl, .inl ha, _, _, rfl, rfl, _, rfl, ?_⟩
  by_cases h : k < ((ns.map V.int).length : Int)
  · refine ifT h ?_
    obtain ⟨x, ex⟩ := get_ex (l := ns) (i := k.toNat) (by omega)
    refine ⟨_, rfl, _, rfl, a, _, k, .int x, rfl, rfl, ha, ?_, q x⟩
    have := atI_nat (xs := ns.map V.int) (j := k.toNat) (v := .int x) (by rw [List.getElem?_map, ex]; rfl)
    rw [show ((k.toNat : Nat) : Int) = k by omega] at this
    exact this
  · exact ifF h (q 0)
abbrev N_l_tape : List Str := ["_law_script", "_law_k", "_law_cell"]
theorem sc_l_tape : FnScope N_l_tape ["_law_script", "_law_k"] (defScope s_l_tape) := ⟨rfl, rfl, rfl, by decide +kernel, rfl, by decide +kernel, by decide +kernel⟩
theorem ok_l_tape (F : Fun K "_law_tape" "_law_tape" s_l_tape f fd) (B : Bt mg) (c_l_cell_at : Cal P w K mg base 1 "_law_cell_at" ["_law_script", "_law_k"] (spCell K)) : FnOk P w K mg base CX0 2 f fd ["_law_script", "_law_k"] (spTape K) := by
  refine F.ok sc_l_tape (fun vs H Q E h => by obtain ⟨a, ns, k, rfl, _⟩ := h; rfl) (fun cdv A outer s H vs Q E hr h => ?_)
  obtain ⟨a, ns, k, rfl, ha, hk, hk2, q⟩ := h
  refine ⟨_, (pss_cons (ps_set (i := 2) sc_l_tape.nd rfl (by first | exact Or.inl rfl | exact Or.inr rfl) (pe_cal c_l_cell_at (hr.mono (by omega)) (by rfl) (pa_cons (pv 0) (pa_cons (pv 1) pa_nil))))
  (pss_one (ps_ret (pe_lst (pa_cons (pe_op op_mul (pe_callB call_abs (by rfl) B.abs bv_abs (pa_cons (pv 2) pa_nil)) (pe_callTy call_int1 (by rfl) B.int bv_int (pa_cons (pe_cmpR op_ge (pe_callB call_abs (by rfl) B.abs bv_abs (pa_cons (pv 2) pa_nil)) (pe_op op_pow (pe_int) (pe_int)) (nomark _)) pa_nil))) (pa_cons (pe_op op_modN (pe_op op_mul (pe_op op_add (pe_op op_add (pe_op op_modN (pv 2) (pe_int)) (pe_op op_mul (pe_int) (pv 1))) (pe_int)) (pe_int)) (pe_int)) (pa_cons (pe_int) pa_nil))))))), ?_⟩
  refine ⟨_, rfl, _, rfl, a, ns, k, rfl, ha, hk, fun z => ?_⟩
  refine ⟨_, rfl, z, rfl, _, rfl, z, rfl, _, _, rfl, rfl, (by unfold CPow; decide), _, _, rfl, rfl, .inr ⟨_, rfl, _, _, rfl, rfl, .inr ?_, ?_⟩⟩
  · split <;> split <;> exact ⟨by decide, by decide⟩
  refine ⟨_, rfl, _, _, rfl, rfl, (nz rfl), _, rfl, _, _, rfl, rfl, .inl (by decide), _, _, rfl, rfl, _, _, rfl, rfl, _, _, rfl, rfl, .inr (by decide), _, _, rfl, rfl, (nz rfl), z3, fun tp htp => ?_⟩
  exact q tp _ (Le.new htp _) htp ⟨_, _, 0, upd_same, Int.le_refl _, Int.le_refl _⟩
abbrev N_l_take : List Str := ["_law_tape_here", "_law_many", "_law_once", "_law_digit"]
theorem sc_l_take : FnScope N_l_take ["_law_tape_here", "_law_many"] (defScope s_l_take) := ⟨rfl, rfl, rfl, by decide +kernel, rfl, by decide +kernel, by decide +kernel⟩
theorem ok_l_take (F : Fun K "_law_take" "_law_take" s_l_take f fd) (B : Bt mg) : FnOk P w K mg base CX0 1 f fd ["_law_tape_here", "_law_many"] spTake := by
  refine F.ok sc_l_take (fun vs H Q E h => by obtain ⟨tp, m, n, rfl, _⟩ := h; rfl) (fun cdv A outer s H vs Q E hr h => ?_)
  obtain ⟨tp, m, n, rfl, ⟨a, b, c, ht, hc0, hcn⟩, hm0, hm1, hn, q⟩ := h
  refine ⟨_, (pss_cons (ps_if (pt_cmpR op_gt (pe_ix (ixL (K := K) rfl) (pv 0) (pe_int) (fun _ _ => rfl)) (pe_int) (nomark _)) (pss_cons (ps_set (i := 3) sc_l_take.nd rfl (by first | exact Or.inl rfl | exact Or.inr rfl) (pe_op op_modN (pe_ix (ixL (K := K) rfl) (pv 0) (pe_int) (fun _ _ => rfl)) (pv 1)))
  (pss_cons (ps_asg (pe_op op_fdivN (pe_ix (ixL (K := K) rfl) (pv 0) (pe_int) (fun _ _ => rfl)) (pv 1)) (pg_sub (pv 0) (pe_int) set_list))
  (pss_one (ps_ret (pv 3))))) pss_nil)
  (pss_cons (ps_asg (pe_op op_add (pe_ix (ixL (K := K) rfl) (pv 0) (pe_int) (fun _ _ => rfl)) (pe_int)) (pg_sub (pv 0) (pe_int) set_list))
  (pss_cons (ps_set (i := 2) sc_l_take.nd rfl (by first | exact Or.inl rfl | exact Or.inr rfl) (pe_op op_modN (pe_op op_mul (pe_op op_add (pe_ix (ixL (K := K) rfl) (pv 0) (pe_int) (fun _ _ => rfl)) (pe_op op_mul (pe_int) (pe_ix (ixL (K := K) rfl) (pv 0) (pe_int) (fun _ _ => rfl)))) (pe_op op_add (pe_int) (pe_ix (ixL (K := K) rfl) (pv 0) (pe_int) (fun _ _ => rfl)))) (pe_int)))
  (pss_cons (ps_asg (pe_op op_modN (pe_op op_add (pe_op op_mul (pv 2) (pe_op op_add (pe_op op_modN (pv 2) (pe_int)) (pe_int))) (pe_ix (ixL (K := K) rfl) (pv 0) (pe_int) (fun _ _ => rfl))) (pe_int)) (pg_sub (pv 0) (pe_int) set_list))
  (pss_one (ps_ret (pe_op op_modN (pe_op op_fdivN (pe_op op_modN (pe_op op_mul (pe_ix (ixL (K := K) rfl) (pv 0) (pe_int) (fun _ _ => rfl)) (pe_op op_add (pe_op op_modN (pe_ix (ixL (K := K) rfl) (pv 0) (pe_int) (fun _ _ => rfl)) (pe_int)) (pe_int))) (pe_int)) (pe_int)) (pv 1)))))))), ?_⟩
  have i0 : ∀ {x y z : V}, ixN ([x, y, z] : List V).length 0 = some 0 := rfl
  have i1 : ∀ {x y z : V}, ixN ([x, y, z] : List V).length 1 = some 1 := rfl
  have i2 : ∀ {x y z : V}, ixN ([x, y, z] : List V).length 2 = some 2 := rfl
  have hm : m ≠ 0 := by omega
  have hbig : big = 1000000000000 := rfl
  refine ⟨_, rfl, tp, _, 0, _, rfl, rfl, SqL.of ht, at0, _, _, rfl, rfl, _, rfl, ?_⟩
  have nt : ∀ {H : Hp} {zs : List V}, H tp = some (.lst zs) → ∀ xs, H tp ≠ some (.tup xs) := fun h xs e => by rw [h] at e; cases e
  by_cases ha : 0 < a
  · refine ifT ha ?_
    refine ⟨_, rfl, tp, _, 0, _, rfl, rfl, SqL.of ht, at0, _, rfl, _, _, rfl, rfl, hm, ?_⟩
    refine ⟨_, rfl, tp, _, 0, _, rfl, rfl, SqL.of ht, at0, _, rfl, _, _, rfl, rfl, ⟨hm, by omega⟩, ?_⟩
    refine ⟨_, rfl, tp, _, _, _, rfl, rfl, ht, i0, ?_⟩
    have := fmod_range (a := a) hm0
    exact ⟨_, rfl, q _ _ this.1 this.2 ((Le.refl (M := atT tp) H).mut rfl (nt ht) _) ⟨_, _, c, upd_same, hc0, by omega⟩⟩
  · refine ifF ha ?_
    refine ⟨_, rfl, tp, _, 2, _, rfl, rfl, SqL.of ht, at2, _, _, rfl, rfl, _, rfl, tp, _, _, _, rfl, rfl, ht, i2, ?_⟩
    have m1 : Le (atT tp) H (upd H tp (.lst (List.set [.int a, .int b, .int c] 2 (.int (c + 1))))) := (Le.refl (M := atT tp) H).mut rfl (nt ht) _
    have e1 : upd H tp (.lst (List.set [.int a, .int b, .int c] 2 (.int (c + 1)))) tp = some (.lst [.int a, .int b, .int (c + 1)]) := upd_same
    generalize upd H tp (.lst (List.set [.int a, .int b, .int c] 2 (.int (c + 1)))) = H1 at m1 e1
    refine ⟨_, rfl, tp, _, 1, _, rfl, rfl, SqL.of e1, at1, _, rfl, tp, _, 2, _, rfl, rfl, SqL.of e1, at2, _, _, rfl, rfl, .inl (by decide), _, _, rfl, rfl, _, rfl, tp, _, 2, _, rfl, rfl, SqL.of e1, at2, _, _, rfl, rfl, _, _, rfl, rfl, .inr (by constructor <;> omega), _, _, rfl, rfl, (nz rfl), ?_⟩
    dsimp only
    generalize ho : Int.fmod ((b + 39373 * (c + 1)) * (48271 + (c + 1))) 2147483647 = o
    have ho1 := fmod_range (a := (b + 39373 * (c + 1)) * (48271 + (c + 1))) (m := 2147483647) (by decide)
    rw [ho] at ho1
    refine ⟨_, rfl, _, rfl, _, _, rfl, rfl, (nz rfl), _, _, rfl, rfl, _, _, rfl, rfl, .inl (by constructor <;> omega), _, rfl, tp, _, 2, _, rfl, rfl, SqL.of e1, at2, _, _, rfl, rfl, _, _, rfl, rfl, (nz rfl), _, rfl, tp, _, _, _, rfl, rfl, e1, i1, ?_⟩
    dsimp only
    generalize hb' : Int.fmod (o * (Int.fmod o 40009 + 7) + (c + 1)) 2147483629 = b'
    have hb1 := fmod_range (a := o * (Int.fmod o 40009 + 7) + (c + 1)) (m := 2147483629) (by decide)
    rw [hb'] at hb1
    have m2 : Le (atT tp) H (upd H1 tp (.lst (List.set [.int a, .int b, .int (c + 1)] 1 (.int b')))) := m1.mut rfl (nt e1) _
    have e2 : upd H1 tp (.lst (List.set [.int a, .int b, .int (c + 1)] 1 (.int b'))) tp = some (.lst [.int a, .int b', .int (c + 1)]) := upd_same
    generalize upd H1 tp (.lst (List.set [.int a, .int b, .int (c + 1)] 1 (.int b'))) = H2 at m2 e2
    refine ⟨_, rfl, tp, _, 1, _, rfl, rfl, SqL.of e2, at1, _, rfl, tp, _, 1, _, rfl, rfl, SqL.of e2, at1, _, _, rfl, rfl, (nz rfl), _, _, rfl, rfl, _, _, rfl, rfl, .inl (by constructor <;> omega), _, _, rfl, rfl, (nz rfl), _, _, rfl, rfl, ⟨by decide, by decide⟩, _, rfl, _, _, rfl, rfl, hm, ?_⟩
    have := fmod_range (a := (Int.fmod (b' * (Int.fmod b' 1009 + 3)) 998244353).fdiv 7) hm0
    exact q _ _ this.1 this.2 m2 ⟨_, _, c + 1, e2, by omega, by omega⟩
end
end Nh
/-! ## NhL2 -/
set_option maxHeartbeats 4000000
namespace Nh
open PySem PySem.Spec PyProof.Rows L2
/-! ### words of letters -/
def Ltrs (l : List Nat) : Prop := ∀ c ∈ l, 97 ≤ c ∧ c ≤ 122
def Wd (x : Str) : Prop := x.cps.toList ≠ [] ∧ Ltrs x.cps.toList
structure Wds (ws : List Str) (n : Nat) : Prop where
  len : ws.length = n
  nd : ws.Nodup
  wd : ∀ x ∈ ws, Wd x
theorem fig_low {k : Nat} : ∀ c ∈ (fig k).cps.toList, c ≤ 57 := by
  intro c hc
  unfold fig at hc
  rw [PySem.W.KIN.signs_num] at hc
  obtain ⟨d, hd, rfl⟩ := List.mem_map.mp hc
  have := Nat.isDigit_of_mem_toDigits (by decide) (by decide) hd
  unfold Char.isDigit at this
  simp only [Bool.and_eq_true, decide_eq_true_eq] at this
  exact UInt32.le_iff_toNat_le.mp this.2
theorem Wd.ne_fig {x : Str} (h : Wd x) (k : Nat) : x ≠ fig k := fun e => by
  obtain ⟨h1, h2⟩ := h
  cases hc : x.cps.toList with
  | nil => exact h1 hc
  | cons c r =>
    have a := h2 c (by rw [hc]; exact List.mem_cons_self)
    have b := fig_low (k := k) c (by rw [← e, hc]; exact List.mem_cons_self)
    omega
def lt1 (i : Nat) : Str := ⟨#[97 + i]⟩
abbrev abc : Str := "abcdefghijklmnopqrstuvwxyz"
theorem abc_len : abc.length ≤ sizeLine := Nat.le_trans (show abc.length ≤ 26 by decide +kernel) (by decide)
theorem abc_at {i : Nat} (h : i < 26) : atI abc.cps.toList ((i : Nat) : Int) = some (97 + i) := by
  refine atI_nat (j := i) ?_
  have : ∀ i : Fin 26, abc.cps.toList[i.val]? = some (97 + i.val) := by decide +kernel
  exact this ⟨i, h⟩
theorem join_flat : ∀ ys : List Str, (Txt.join "" ys).cps.toList = (ys.map fun y => y.cps.toList).flatten := by
  intro ys
  rw [TL.join_eq]
  induction ys with
  | nil => rfl
  | cons y ys ih =>
    cases ys with
    | nil => simp [Str.join]
    | cons z r =>
      show ((y.cps ++ (Str.ofString "").cps) ++ (Str.join "" (z :: r)).cps).toList = _
      have e : (Str.ofString "").cps = #[] := rfl
      rw [e]
      rw [Array.toList_append, ih]
      simp
theorem app_cps (a b : Str) : (a ++ b).cps.toList = a.cps.toList ++ b.cps.toList := by
  show (a.cps ++ b.cps).toList = _
  rw [Array.toList_append]
theorem len_cps (a : Str) : a.length = a.cps.toList.length := by show a.cps.size = _; rw [Array.length_toList]
theorem cut_ltrs {z : Str} (h : Ltrs z.cps.toList) (lo hi : Option Int) : Ltrs (cutS z lo hi).cps.toList := fun c hc => by
  unfold cutS at hc
  exact h c (List.mem_of_mem_drop (List.mem_of_mem_take hc))
theorem cut_len (z : Str) (lo hi : Option Int) : (cutS z lo hi).length ≤ z.length := by
  rw [len_cps, len_cps]
  unfold cutS
  show (List.take _ (List.drop _ _)).length ≤ _
  rw [List.length_take, List.length_drop]
  omega
theorem ltrs_app {a b : List Nat} (h : Ltrs a) (h' : Ltrs b) : Ltrs (a ++ b) := fun c hc => (List.mem_append.mp hc).elim (h c) (h' c)
theorem words_ok {u v : Str} (hu : Ltrs u.cps.toList) (hv : Ltrs v.cps.toList) (fn m : Nat) (hm : m ≤ 26) : Wds ((List.range m).map fun k => u ++ lt1 ((fn + 7 * k) % 26) ++ v) m := by
  refine ⟨by simp, nodup_map_inj (fun x hx y hy e => ?_) List.nodup_range, fun x hx => ?_⟩
  · rw [List.mem_range] at hx hy
    have e2 := congrArg (fun z : Str => z.cps.toList) e
    simp only [app_cps] at e2
    rw [List.append_assoc, List.append_assoc] at e2
    have e3 := List.append_cancel_left e2
    have e4 : (97 + (fn + 7 * x) % 26) = (97 + (fn + 7 * y) % 26) := by
      have := congrArg List.head? e3
      simpa [lt1] using this
    omega
  · obtain ⟨k, hk, rfl⟩ := List.mem_map.mp hx
    refine ⟨?_, ?_⟩
    · rw [app_cps, app_cps]
      simp [lt1]
    · rw [app_cps, app_cps]
      refine ltrs_app (ltrs_app hu fun c hc => ?_) hv
      have : c = 97 + (fn + 7 * k) % 26 := by simpa [lt1] using hc
      omega
theorem sum_one : ∀ {ys : List Str}, (∀ y ∈ ys, ∃ c, 97 ≤ c ∧ c ≤ 122 ∧ y = (⟨#[c]⟩ : Str)) → (ys.map (·.length)).sum = ys.length
  | [], _ => rfl
  | y :: ys, h => by
    obtain ⟨c, _, _, rfl⟩ := h y List.mem_cons_self
    rw [List.map_cons, List.sum_cons, sum_one fun z hz => h z (List.mem_cons_of_mem _ hz), List.length_cons]
    show 1 + _ = _; omega
def spWords : Sp := fun vs H Q _ => ∃ (tp : Addr) (m : Nat) (n : Int), vs = [.ref tp, .int m] ∧ Tape H tp n ∧ m ≤ 26 ∧ n + 100 ≤ big ∧ ∀ l ws H', Le (atT tp) H H' → H l = none → H' l = some (.lst (ws.map V.str)) → Wds ws m → Tape H' tp (n + 10) → Q (.ref l) H'
section
variable {P : Program} {w : World} {K : PySem.W.Frag} {mg : Str → Option Value} {base : Heap} {f : Addr} {fd : FuncData}
abbrev N_l_words : List Str := ["_law_tape_here", "_law_many", "_law_letters", "_law_stem", "_law_signs", "_law_at", "_law_first", "_law_k", "_law_sign"]
theorem sc_l_words : FnScope N_l_words ["_law_tape_here", "_law_many"] (defScope s_l_words) := ⟨rfl, rfl, rfl, by decide +kernel, rfl, by decide +kernel, by decide +kernel⟩
theorem ok_l_words (F : Fun K "_law_words" "_law_words" s_l_words f fd) (B : Bt mg) (c_l_take : Cal P w K mg base 1 "_law_take" ["_law_tape_here", "_law_many"] spTake) : FnOk P w K mg base CX0 2 f fd ["_law_tape_here", "_law_many"] spWords := by
  refine F.ok sc_l_words (fun vs H Q E h => by obtain ⟨tp, m, n, rfl, _⟩ := h; rfl) (fun cdv A outer s H vs Q E hr h => ?_)
  obtain ⟨tp, m, n, rfl, ht, hm, hn, q⟩ := h
  have hbig : big = 1000000000000 := rfl
  refine ⟨_, (pss_cons (ps_set (i := 2) sc_l_words.nd rfl (by first | exact Or.inl rfl | exact Or.inr rfl) (pe_str))
  (pss_cons (ps_set (i := 3) sc_l_words.nd rfl (by first | exact Or.inl rfl | exact Or.inr rfl) (pe_join (pe_str) (pe_lc (own := [("_law_k", 7)]) rfl sc_l_words.nd (pi_range1 (by rfl) B.range (pa_cons (pe_cal c_l_take (hr.mono (by omega)) (by rfl) (pa_cons (pv 0) (pa_cons (pe_int) pa_nil))) pa_nil)) (blkOk_by (own := [("_law_k", 7)]) (N := N_l_words) (sc := defScope s_l_words) (by decide +kernel)) (fun _ _ _ _ _ => pg_name (i := 7) sc_l_words.nd rfl (by first | exact Or.inl rfl | exact Or.inr rfl)) (fun _ _ _ _ _ => pts_nil) (fun _ _ _ _ _ => pe_ix ix_str (pv 2) (pe_cal c_l_take (hr.mono (by omega)) (by rfl) (pa_cons (pv 0) (pa_cons (pe_int) pa_nil))) (fun _ _ => rfl)))))
  (pss_cons (ps_asg (pe_tup (pa_cons (pe_cal c_l_take (hr.mono (by omega)) (by rfl) (pa_cons (pv 0) (pa_cons (pe_op op_add (pe_callB call_len_str (by rfl) B.len bv_len (pa_cons (pv 3) pa_nil)) (pe_int)) pa_nil))) (pa_cons (pe_cal c_l_take (hr.mono (by omega)) (by rfl) (pa_cons (pv 0) (pa_cons (pe_int) pa_nil))) pa_nil))) (pgT (K := K) (n := 2) rfl rfl (pgs_cons (pg_name (i := 5) sc_l_words.nd rfl (by first | exact Or.inl rfl | exact Or.inr rfl)) (pgs_cons (pg_name (i := 6) sc_l_words.nd rfl (by first | exact Or.inl rfl | exact Or.inr rfl)) pgs_nil))))
  (pss_cons (ps_setLc (i := 4) (own := [("_law_k", 7)]) rfl sc_l_words.nd rfl rfl (sw_true rfl rfl rfl (by decide +kernel)) (pi_range1 (by rfl) B.range (pa_cons (pv 1) pa_nil)) (blkOk_by (own := [("_law_k", 7)]) (N := N_l_words) (sc := defScope s_l_words) (by decide +kernel)) (fun _ _ _ _ _ => pg_name (i := 7) sc_l_words.nd rfl (by first | exact Or.inl rfl | exact Or.inr rfl)) (fun _ _ _ _ _ => pts_nil) (fun _ _ _ _ _ => pe_ix ix_str (pv 2) (pe_op op_modN (pe_op op_add (pv 6) (pe_op op_mul (pe_int) (pv 7))) (pe_int)) (fun _ _ => rfl)))
  (pss_one (ps_ret (pe_lc (own := [("_law_sign", 8)]) rfl sc_l_words.nd (piL (K := K) rfl (pv 4)) (blkOk_by (own := [("_law_sign", 8)]) (N := N_l_words) (sc := defScope s_l_words) (by decide +kernel)) (fun _ _ _ _ _ => pg_name (i := 8) sc_l_words.nd rfl (by first | exact Or.inl rfl | exact Or.inr rfl)) (fun _ _ _ _ _ => pts_nil) (fun _ _ _ _ _ => pe_op op_add_str (pe_op op_add_str (pe_slice sl_str (pv 3) po_none (po_some (pv 5))) (pv 8)) (pe_slice sl_str (pv 3) (po_some (pv 5)) po_none))))))))), ?_⟩
  refine ⟨⟨_, rfl⟩, _, rfl, tp, 7, n, rfl, ht, by decide, by decide, by omega, fun d H1 hd0 hd1 l1 ht1 => ?_⟩
  refine ⟨d, rfl, by omega, by omega, fun D hD => ?_⟩
  have tD : tp ≠ D := fun e => by obtain ⟨a, b, c, h, _⟩ := ht1.ex; rw [e, hD] at h; cases h
  refine lc_acc walk_range (atT tp) (fun i acc H => ∃ ys : List Str, acc = ys.map V.str ∧ ys.length = i ∧ (∀ y ∈ ys, ∃ c, 97 ≤ c ∧ c ≤ 122 ∧ y = ⟨#[c]⟩) ∧ Tape H tp (n + 1 + i)) hD (fun a e => by subst e; obtain ⟨a, b, c, h, _⟩ := ht1.ex; rw [h]; exact fun z => nomatch z) (smallL (by omega))
    (fun i acc H H' _ _ ne ⟨ys, e1, e2, e3, a, b, c, h1, h2, h3⟩ => ⟨ys, e1, e2, e3, ⟨a, b, c, by rw [ne tp tD]; exact h1, h2, h3⟩⟩) ⟨[], rfl, rfl, fun _ z => (nomatch z), ht1.up (by omega)⟩ (fun _ _ _ _ _ _ => trivial)
    (fun i x acc H3 H4 hi l3 _ _ hP y k1 k0 hk1 hk0 => ?_) fun acc H3 l3 hacc _ hP => ?_
  · obtain ⟨rfl, rfl⟩ := y
    obtain ⟨ys, rfl, e2, e3, hT⟩ := hP
    refine ⟨rfl, _, rfl, _, rfl, tp, 26, _, rfl, hT, by decide, by decide, by omega, fun e H5 he0 he1 l5 ht5 => ?_⟩
    refine ⟨abc, e, 97 + e.toNat, rfl, rfl, abc_len, ?_, hk1 _ _ l5 ⟨ys ++ [⟨#[97 + e.toNat]⟩], by rw [List.map_append]; rfl, by rw [List.length_append, e2]; rfl, fun y hy => ?_, ht5.up (by omega)⟩⟩
    · have := abc_at (i := e.toNat) (by omega)
      rw [show ((e.toNat : Nat) : Int) = e by omega] at this
      exact this
    · rcases List.mem_append.mp hy with hy | hy
      · exact e3 y hy
      · rw [List.mem_singleton] at hy
        exact ⟨_, by omega, by omega, hy⟩
  · obtain ⟨ys, rfl, e2, e3, hT⟩ := hP
    have hys := sum_one e3
    have e0 : (Str.ofString "").length = 0 := rfl
    refine ⟨"", D, ys, rfl, rfl, .inl (SqL.of hacc), by rw [hys, e0]; omega, ?_⟩
    have hst : Ltrs (Txt.join "" ys).cps.toList := fun c hc => by
      rw [join_flat] at hc
      obtain ⟨l, hl, hc⟩ := List.mem_flatten.mp hc
      obtain ⟨y, hy, rfl⟩ := List.mem_map.mp hl
      obtain ⟨c', a, b, rfl⟩ := e3 y hy
      have : c = c' := by simpa using hc
      omega
    have hsl : (Txt.join "" ys).length = ys.length := by
      rw [len_cps, join_flat, List.length_flatten, List.map_map, ← hys]
      congr 1
    show gName _ _ _ _ _
    generalize Txt.join "" ys = st at hst hsl
    refine ⟨_, rfl, _, rfl, st, rfl, small (by omega), _, _, rfl, rfl, tp, _, _, rfl, hT, by omega, by omega, by omega, fun a1 H5 ha0 ha1 l5 ht5 => ?_⟩
    refine ⟨_, rfl, tp, 26, _, rfl, ht5, by decide, by decide, by omega, fun f1 H6 hf0 hf1 l6 ht6 => ⟨z2, fun pr hpr => ⟨pr, _, rfl, SqT.of upd_same, rfl, _, _, rfl, _, _, rfl, rfl, ?_⟩⟩⟩
    have l6' : Le (atT tp) H5 (upd H6 pr (.tup [.int a1, .int f1])) := l6.trans (Le.new hpr _)
    have ht6' : Tape (upd H6 pr (.tup [.int a1, .int f1])) tp (n + 1 + ((Int.toNat d : Nat) : Int) + 1 + 1) := ht6.mono (Le.new (M := noM) hpr _) (fun z => z) (by omega)
    generalize upd H6 pr (.tup [.int a1, .int f1]) = H6' at l6' ht6'
    clear l6 ht6
    have l6 := l6'
    have ht6 := ht6'
    have m6 : Le (atT tp) H H6' := ((l1.trans l3).trans l5).trans l6
    refine ⟨_, rfl, (m : Int), rfl, by omega, by omega, fun D2 hD2 => ?_⟩
    rw [Int.toNat_natCast]
    refine lc_map walk_range (((List.range m).map fun k => lt1 ((f1.toNat + 7 * k) % 26)).map strD) hD2 (smallL (by omega)) (by simp) (fun _ _ => trivial) (fun i x d' H7 H8 hi hdi l y k1 hk1 => ?_) fun acc2 H7 l7 hacc2 hds => ?_
    · obtain ⟨rfl, rfl⟩ := y
      refine ⟨rfl, _, rfl, _, rfl, _, rfl, _, _, rfl, rfl, .inl (by decide), _, _, rfl, rfl, _, _, rfl, rfl, (nz rfl), abc, _, 97 + (f1.toNat + 7 * i) % 26, rfl, rfl, abc_len, ?_, hk1 _ _ (Le.refl _) ?_⟩
      · have := abc_at (i := (f1.toNat + 7 * i) % 26) (Nat.mod_lt _ (by decide))
        have e : (f1 + 7 * (0 + (i : Int))).fmod 26 = (((f1.toNat + 7 * i) % 26 : Nat) : Int) := by
          rw [Int.fmod_eq_emod_of_nonneg _ (by decide)]; omega
        show atI abc.cps.toList ((f1 + 7 * (0 + (i : Int))).fmod 26) = _
        rw [e]; exact this
      · rw [List.getElem?_map, List.getElem?_map, List.getElem?_range hi] at hdi
        cases hdi
        exact Dv.str
    · rw [dva_strs] at hds
      subst hds
      have hsg : ((((List.range m).map fun k => lt1 ((f1.toNat + 7 * k) % 26)).map V.str)).length = m := by simp
      refine ⟨_, rfl, D2, rfl, ⟨_, SqL.of hacc2⟩, fun D3 hD3 => ?_⟩
      have c1 := cut_len st none (some a1)
      have c2 := cut_len st (some a1) none
      refine lc_map walk_list (((List.range m).map fun k => cutS st none (some a1) ++ lt1 ((f1.toNat + 7 * k) % 26) ++ cutS st (some a1) none).map strD) hD3 (smallL (by omega)) (by simp) (fun H8 l => SqL.of (l.rest _ _ (fun z => z) hacc2)) (fun i x d' H8 H9 hi hdi l y k1 hk1 => ?_) fun acc3 H8 l8 hacc3 hds => ?_
      · obtain ⟨rfl, ex⟩ := y
        have hi' : i < m := by omega
        rw [List.getElem?_map, List.getElem?_map, List.getElem?_range hi'] at ex hdi
        cases ex
        cases hdi
        have c3 : (lt1 ((f1.toNat + 7 * i) % 26)).length = 1 := rfl
        have c4 : (cutS st none (some a1) ++ lt1 ((f1.toNat + 7 * i) % 26)).length = (cutS st none (some a1)).length + 1 := by rw [len_cps, app_cps, List.length_append, len_cps]; rfl
        refine ⟨rfl, _, rfl, _, rfl, a1, rfl, st, rfl, small (by omega), _, rfl, _, _, rfl, rfl, small (by show (cutS st none (some a1)).length + 1 ≤ 100000; omega), _, rfl, _, rfl, a1, rfl, st, rfl, small (by omega), _, _, rfl, rfl, small (by show (cutS st none (some a1) ++ lt1 ((f1.toNat + 7 * i) % 26)).length + (cutS st (some a1) none).length ≤ 100000; omega), hk1 _ _ (Le.refl _) Dv.str⟩
      · rw [dva_strs] at hds
        subst hds
        exact q D3 _ H8 ((m6.trans l7.any).trans l8.any) (m6.nil (l7.nil hD3)) hacc3 (words_ok (cut_ltrs hst _ _) (cut_ltrs hst _ _) _ _ hm) ((ht6.mono (l7.trans l8) (fun z => z) (Int.le_refl _)).up (by omega))
end
end Nh
/-! ## NhR6 -/
namespace Nh
open PySem PySem.Spec PyProof.Rows L2
/-- x not in a list of data -/
def rNinP (K : PySem.W.Frag) : R2 := fun x y H Q => ∃ d ds, Dp K H x d ∧ Dp K H y (.list ds) ∧ pd d = true ∧ pdA ds = true ∧ d.depth ≤ 60 ∧ ∀ b : Bool, (b = true ↔ ¬ d ∈ ds) → Q (.bl b) H
theorem ninP {X : Cx} {K : PySem.W.Frag} (e : X.K = K) (hu : X.A.units + 64 < cLine) : OpR X (compareOp .NotIn) (rNinP K) := by
  subst e
  intro pins s σ H x y v u Q I rx ry h
  obtain ⟨d, ds, hd, he, pd1, pe1, hdp, q⟩ := h
  obtain ⟨as, r1⟩ := Dp.reads I d x v hd rx
  obtain ⟨bs, r2⟩ := Dp.reads I (.list ds) y u he ry
  have hm : min (PyData.depthAll ds) d.depth ≤ d.depth := Nat.min_le_right _ _
  refine PySem.SeqAt.notIn_list_data r2 r1 (pdA_plain ds pe1) (pd_plain d pd1) (by omega) ⟨.bl _, H, I, rfl, q _ ?_⟩
  rw [Bool.not_eq_true', ← Bool.not_eq_true]
  refine not_congr ?_
  rw [List.any_eq_true]
  have pe2 := pdA_iff.mp pe1
  constructor
  · rintro ⟨z, hz, e⟩
    exact (eqv_iff z d (pe2 z hz) pd1).mp e ▸ hz
  · intro h
    exact ⟨d, h, (eqv_iff d d pd1 pd1).mpr rfl⟩
/-- the lock is off again -/
theorem Le.unlock {M : Addr → Prop} {H H' : Hp} {d : Addr} {u o : HO} (hd : H d = some u) (l : Le M (upd H d o) H') : Le M H (upd H' d u) := by
  refine ⟨fun a xs h => ?_, fun a x hm h => ?_, fun a h => ?_⟩
  · by_cases e : a = d
    · subst e; rw [upd_same, ← hd]; exact h
    · rw [upd_ne e]; exact l.tup a xs (by rw [upd_ne e]; exact h)
  · by_cases e : a = d
    · subst e; rw [upd_same, ← hd]; exact h
    · rw [upd_ne e]; exact l.rest a x hm (by rw [upd_ne e]; exact h)
  · by_cases e : a = d
    · subst e; rw [upd_same]; exact fun z => nomatch z
    · rw [upd_ne e]; exact l.dom a (by rw [upd_ne e]; exact h)
end Nh
/-! ## NhL3 -/
set_option maxHeartbeats 4000000
namespace Nh
open PySem PySem.Spec PyProof.Rows L2
/-! ### what a tongue must be -/
def Bn (s : Int) : Prop := s = 0 ∨ s = 1
structure TgOk (T : Tg) : Prop where
  fn : (T.forms.map (·.1)).Nodup
  hn : (T.holes.map (·.1)).Nodup
  fl : T.forms.length ≤ 9
  hl : T.holes.length ≤ 5
  parts : ∀ r ∈ T.forms, r.2.1.length ≤ 3
  slim : ∀ r ∈ T.forms, ∀ q ∈ r.2.1, q.1.length ≤ 3
  bins : ∀ r ∈ T.forms, ∀ q ∈ r.2.1, Bn q.2
  hs : ∀ r ∈ T.holes, r.2.1.length ≤ 3
  hb : ∀ r ∈ T.holes, Bn r.2.2
  base : ∀ s, Bn s → ∃ r ∈ T.forms, r.2.1 = [] ∧ r.2.2 = s
theorem lookup_of_mem {α : Type} : ∀ {l : List (Str × α)} {h : Str} {e : α}, (l.map (·.1)).Nodup → (h, e) ∈ l → l.lookup h = some e
  | [], _, _, _, hm => nomatch hm
  | (a, b) :: l, h, e, hn, hm => by
    rw [List.map_cons, List.nodup_cons] at hn
    rcases List.mem_cons.mp hm with hm | hm
    · cases hm; exact List.lookup_cons_self
    · have : h ≠ a := fun z => hn.1 (z ▸ List.mem_map.mpr ⟨_, hm, rfl⟩)
      rw [List.lookup_cons, show (h == a) = false by simpa using this]
      exact lookup_of_mem hn.2 hm
theorem TgOk.fit {T : Tg} (h : TgOk T) : TgFit T := ⟨fun f pts s e q hq => h.slim _ (lookup_mem e) q hq, by have := h.fl; omega, by have := h.hl; omega⟩
/-! ### names with their sorts, in a dict -/
structure NmK (kvs : List (Key × V)) (ks : List Str) (Γ : Ctx) : Prop where
  keys : kvs.map (·.1) = ks.map Sum.inr
  nd : ks.Nodup
  val : ∀ x, valV kvs (Sum.inr x) = (Γ x).map V.int
theorem NmK.len {kvs : List (Key × V)} {ks : List Str} {Γ : Ctx} (h : NmK kvs ks Γ) : kvs.length = ks.length := by have := congrArg List.length h.keys; simpa using this
theorem NmK.put {kvs : List (Key × V)} {ks : List Str} {Γ : Ctx} (h : NmK kvs ks Γ) (x : Str) (s : Int) : ∃ ks', NmK (putK kvs (Sum.inr x) (.int s)) ks' (fun y => if y = x then some s else Γ y) ∧ (∀ y, y ∈ ks' ↔ y = x ∨ y ∈ ks) ∧ ks'.length ≤ ks.length + 1 := by
  have hmem : ∀ k : Key, k ∈ (putK kvs (Sum.inr x) (.int s)).map (·.1) ↔ k = Sum.inr x ∨ k ∈ kvs.map (·.1) := fun k => mem_put
  obtain ⟨ks', e⟩ := keys_inr (l := (putK kvs (Sum.inr x) (.int s)).map (·.1)) fun k hk => by
    rcases (hmem k).mp hk with e | hk
    · exact ⟨x, e⟩
    · rw [h.keys] at hk
      obtain ⟨y, _, e⟩ := List.mem_map.mp hk
      exact ⟨y, e.symm⟩
  have hkn : (kvs.map (·.1)).Nodup := by rw [h.keys]; exact nodup_map_inj (fun _ _ _ _ e => Sum.inr.inj e) h.nd
  have hnd := keys_put (k := Sum.inr x) (v := .int s) hkn
  rw [e] at hnd
  have hl := length_putK kvs (Sum.inr x) (.int s)
  have hl2 : (putK kvs (Sum.inr x) (.int s)).length = ks'.length := by have := congrArg List.length e; simpa using this
  have hl3 := h.len
  refine ⟨ks', ⟨e, nodup_of_map hnd, fun y => ?_⟩, fun y => ?_, by omega⟩
  · rw [valV_put]
    by_cases hy : y = x
    · rw [if_pos (by rw [hy]), if_pos hy]; rfl
    · rw [if_neg (fun z => hy (Sum.inr.inj z)), if_neg hy]; exact h.val y
  · have := hmem (Sum.inr y)
    rw [e, h.keys] at this
    constructor
    · intro hy
      rcases this.mp (List.mem_map.mpr ⟨y, hy, rfl⟩) with z | z
      · exact .inl (Sum.inr.inj z)
      · obtain ⟨y', hy', e'⟩ := List.mem_map.mp z
        exact .inr ((Sum.inr.inj e') ▸ hy')
    · intro hy
      have q := this.mpr (hy.imp (fun z => by rw [z]) fun z => List.mem_map.mpr ⟨y, z, rfl⟩)
      obtain ⟨y', hy', e'⟩ := List.mem_map.mp q
      exact (Sum.inr.inj e') ▸ hy'
/-- no key is one of the figures that parts at this depth may make -/
def Sep (ks : List Str) (d : Nat) : Prop := ∀ m, 500 ≤ m → m < 510 + 10 * d → fig m ∉ ks
def spBound : Sp := fun vs H Q _ => ∃ (tp nm : Addr) (d : Nat) (c : Int) (kvs : List (Key × V)) (ks : List Str), vs = [.ref tp, .ref nm, .int d] ∧ Tape H tp c ∧ c + 100 ≤ big ∧ H nm = some (.dK kvs) ∧ kvs.map (·.1) = ks.map Sum.inr ∧ ks.length < 64 ∧ d ≤ 100 ∧ tp ≠ nm ∧
  ∀ x H', Le (atT tp) H H' → Tape H' tp (c + 3) → (x ∈ ks ∨ x = fig d ∨ ∀ m, x ≠ fig m) → Q (.str x) H'
abbrev tb (n : Nat) : Int := 100 * 4 ^ n
def sb : Nat → Nat
  | 0 => 4
  | n + 1 => 1 + 3 * sb n
theorem sb_pos (n : Nat) : 4 ≤ sb n := by
  induction n with
  | zero => exact Nat.le_refl _
  | succ n ih => unfold sb; omega
structure NmOk (kvs : List (Key × V)) (ks : List Str) (Γ : Ctx) (d : Nat) : Prop where
  k : NmK kvs ks Γ
  sep : Sep ks d
  few : ks.length + 3 * d ≤ 50
def spTerm (n : Nat) : Sp := fun vs H Q _ => ∃ (tp nm : Addr) (tg : V) (s : Int) (d : Nat) (way c : Int) (T : Tg) (kvs : List (Key × V)) (ks : List Str) (Γ : Ctx), vs = [.ref tp, tg, .ref nm, .int s, .int d, .int way] ∧ Tape H tp c ∧ c + 10000 * (d + 1) ≤ big ∧ Dv H (tgD T) tg ∧ TgOk T ∧
  H nm = some (.dK kvs) ∧ tp ≠ nm ∧ NmOk kvs ks Γ d ∧ Bn s ∧ d < n ∧ d ≤ 3 ∧ Bn way ∧ ∀ v t H', Le (atT tp) H H' → Dv H' (encT t) v → Ty T Γ t s → sz t ≤ sb d → dp t ≤ d + 2 → Tape H' tp (c + tb d) → Q v H'
def spHole : Sp := fun vs H Q _ => ∃ (tp nm : Addr) (tg v1 : V) (h : Str) (ss : List Int) (s : Int) (d : Nat) (way c : Int) (T : Tg) (kvs : List (Key × V)) (ks : List Str) (Γ : Ctx), vs = [.ref tp, tg, .ref nm, v1, .int d, .int way] ∧ Tape H tp c ∧ c + 100 ≤ big ∧ Dv H (holeD (h, ss, s)) v1 ∧
  T.holes.lookup h = some (ss, s) ∧ ss.length ≤ 3 ∧ H nm = some (.dK kvs) ∧ tp ≠ nm ∧ NmK kvs ks Γ ∧ ks.length ≤ 50 ∧ Bn way ∧
  (∀ H', Le (atT tp) H H' → Tape H' tp (c + 3) → Q .non H') ∧ ∀ a xs H', Le (atT tp) H H' → Dv H' (encT (.hole h xs)) (.ref a) → Ty T Γ (.hole h xs) s → xs.length ≤ 3 → Tape H' tp (c + 3) → Q (.ref a) H'
def spPart (n : Nat) : Sp := fun vs H Q _ => ∃ (tp nm : Addr) (tg v1 : V) (ss : List Int) (s : Int) (d : Nat) (way c : Int) (T : Tg) (kvs : List (Key × V)) (ks : List Str) (Γ : Ctx), vs = [.ref tp, tg, .ref nm, v1, .int ((d + 1 : Nat) : Int), .int way] ∧ Tape H tp c ∧ c + 10000 * (d + 1) + 100 ≤ big ∧ Dv H (tgD T) tg ∧ TgOk T ∧
  Dv H (partD (ss, s)) v1 ∧ ss.length ≤ 3 ∧ H nm = some (.dK kvs) ∧ tp ≠ nm ∧ NmOk kvs ks Γ (d + 1) ∧ Bn s ∧ d < n ∧ d ≤ 2 ∧ Bn way ∧ ∀ a bs t H', Le (atT tp) H H' → Dv H' (encP (bs, t)) (.ref a) → bs.Nodup → bs.length = ss.length → Ty T (bindG Γ bs ss) t s → sz t ≤ sb d → dp t ≤ d + 2 → Tape H' tp (c + 9 + tb d) → Q (.ref a) H'
theorem five {d : Nat} {j : Int} (h0 : 0 ≤ j) (h1 : j < 5) : ∃ x, atI ([.str "x", .str "y", .str "z", .str "xx", .str (fig d)] : List V) j = some (.str x) ∧ (x = fig d ∨ ∀ m, x ≠ fig m) := by
  have nf : ∀ x : Str, (∃ c ∈ x.cps.toList, 57 < c) → ∀ m, x ≠ fig m := fun x ⟨c, hc, h⟩ m e => by
    have := fig_low (k := m) c (by rw [← e]; exact hc)
    omega
  have h5 : j = 0 ∨ j = 1 ∨ j = 2 ∨ j = 3 ∨ j = 4 := by omega
  rcases h5 with rfl | rfl | rfl | rfl | rfl
  · exact ⟨"x", rfl, .inr (nf _ ⟨120, by decide +kernel, by decide⟩)⟩
  · exact ⟨"y", rfl, .inr (nf _ ⟨121, by decide +kernel, by decide⟩)⟩
  · exact ⟨"z", rfl, .inr (nf _ ⟨122, by decide +kernel, by decide⟩)⟩
  · exact ⟨"xx", rfl, .inr (nf _ ⟨120, by decide +kernel, by decide⟩)⟩
  · exact ⟨fig d, rfl, .inl rfl⟩
section
variable {P : Program} {w : World} {K : PySem.W.Frag} {mg : Str → Option Value} {base : Heap} {f : Addr} {fd : FuncData}
abbrev N_l_bound : List Str := ["_law_tape_here", "_law_names", "_law_deep", "_law_some"]
theorem sc_l_bound : FnScope N_l_bound ["_law_tape_here", "_law_names", "_law_deep"] (defScope s_l_bound) := ⟨rfl, rfl, rfl, by decide +kernel, rfl, by decide +kernel, by decide +kernel⟩
theorem ok_l_bound (F : Fun K "_law_bound" "_law_bound" s_l_bound f fd) (B : Bt mg) (c_l_take : Cal P w K mg base 1 "_law_take" ["_law_tape_here", "_law_many"] spTake) : FnOk P w K mg base CX0 2 f fd ["_law_tape_here", "_law_names", "_law_deep"] spBound := by
  refine F.ok sc_l_bound (fun vs H Q E h => by obtain ⟨tp, nm, d, c, kvs, ks, rfl, _⟩ := h; rfl) (fun cdv A outer s H vs Q E hr h => ?_)
  obtain ⟨tp, nm, d, c, kvs, ks, rfl, ht, hc, hn, hk, hl, hd, hne, q⟩ := h
  have hbig : big = 1000000000000 := rfl
  refine ⟨_, (pss_cons (ps_set (i := 3) sc_l_bound.nd rfl (by first | exact Or.inl rfl | exact Or.inr rfl) (pe_callB (call_sortedD rfl) (by rfl) B.sorted bv_sorted (pa_cons (pv 1) pa_nil)))
  (pss_cons (ps_if (PW.pt (pw_and (pt_cmpR (neP (K := K) rfl hr.units) (pv 3) (pe_lst pa_nil) (nomark _)) (pw_and1 (pt_cmpR op_eq (pe_cal c_l_take (hr.mono (by omega)) (by rfl) (pa_cons (pv 0) (pa_cons (pe_int) pa_nil))) (pe_int) (nomark _))))) (pss_one (ps_ret (pe_ix (ixL (K := K) rfl) (pv 3) (pe_cal c_l_take (hr.mono (by omega)) (by rfl) (pa_cons (pv 0) (pa_cons (pe_callB (lenQ (K := K) rfl) (by rfl) B.len bv_len (pa_cons (pv 3) pa_nil)) pa_nil))) (fun _ _ => rfl)))) pss_nil)
  (pss_one (ps_ret (pe_ix (ixL (K := K) rfl) (pe_lst (pa_cons (pe_str) (pa_cons (pe_str) (pa_cons (pe_str) (pa_cons (pe_str) (pa_cons (pe_callTy call_str_int (by rfl) B.str bv_str (pa_cons (pv 2) pa_nil)) pa_nil)))))) (pe_cal c_l_take (hr.mono (by omega)) (by rfl) (pa_cons (pv 0) (pa_cons (pe_int) pa_nil))) (fun _ _ => rfl)))))), ?_⟩
  refine ⟨_, rfl, nm, kvs, ks, rfl, .inl hn, hk, hl, fun ys p hp _ hnp => ?_⟩
  have l1 : Le0 H (upd H p (.lst (ys.map V.str))) := Le.new hnp _
  have e1 : upd H p (.lst (ys.map V.str)) p = some (.lst (ys.map V.str)) := upd_same
  have ht1 := ht.mono l1 (fun z => z) (Int.le_refl c)
  show gName _ _ _ _ _
  generalize upd H p (.lst (ys.map V.str)) = H1 at l1 e1 ht1
  have hyl := hp.length_eq
  have hml : (ys.map V.str).length = ys.length := List.length_map _
  have pT : p ≠ tp := fun e => by obtain ⟨a, b, c, h, _⟩ := ht.ex; rw [e, h] at hnp; cases hnp
  refine ⟨_, rfl, z0, fun u0 hu0 => ?_⟩
  have l2 : Le0 H1 (upd H1 u0 (.lst [])) := Le.new hu0 _
  have e2 : upd H1 u0 (.lst []) u0 = some (.lst []) := upd_same
  have e12 := l2.rest _ _ (fun z => z) e1
  have ht2 := ht1.mono l2 (fun z => z) (Int.le_refl c)
  have L2 : Le (atT tp) H (upd H1 u0 (.lst [])) := (l1.trans l2).any
  show rNeP _ _ _ _ _
  generalize upd H1 u0 (.lst []) = H2 at l2 e2 e12 ht2 L2
  refine ⟨.list (ys.map strD), .list [], .lst (SqL.of e12) (dva_strs.mpr rfl).dp, .lst (SqL.of e2) .nil, by rw [pd_lst, ← pd_tup]; exact pd_strs ys, rfl, Nat.le_trans (depth_lst (n := 0) fun x hx => by obtain ⟨y, _, rfl⟩ := List.mem_map.mp hx; rw [depth_str]; exact Nat.le_refl _) (by decide), fun bo hbo => ⟨bo, rfl, ?_⟩⟩
  cases bo with
  | false =>
    refine iteF ?_
    refine ⟨_, rfl, (d : Int), rfl, nat_log (by omega) (by omega), z5, fun u hu => ?_⟩
    have hT5 := ht2.mono (Le.new (M := noM) hu (.lst [.str "x", .str "y", .str "z", .str "xx", .str (fig d)])) (fun z => z) (Int.le_refl _)
    have L5 : Le (atT tp) H (upd H2 u (.lst [.str "x", .str "y", .str "z", .str "xx", .str (fig d)])) := L2.trans (Le.new hu _)
    have e5 : upd H2 u (.lst [.str "x", .str "y", .str "z", .str "xx", .str (fig d)]) u = some (.lst [.str "x", .str "y", .str "z", .str "xx", .str (fig d)]) := upd_same
    have uT : u ≠ tp := fun e => by obtain ⟨_, _, _, h, _⟩ := ht2.ex; rw [e, h] at hu; cases hu
    rw [show Str.ofString (toString ((d : Nat) : Int)) = fig d from rfl]
    generalize upd H2 u (.lst [.str "x", .str "y", .str "z", .str "xx", .str (fig d)]) = H5 at hT5 L5 e5
    refine ⟨_, rfl, tp, 5, _, rfl, hT5, by decide, by decide, by omega, fun j H6 hj0 hj1 l6 ht6 => ?_⟩
    obtain ⟨x, hx, hxx⟩ := five (d := d) hj0 hj1
    exact ⟨u, _, j, .str x, rfl, rfl, SqL.of (l6.rest _ _ uT e5), hx, q x H6 (L5.trans l6) (ht6.up (by omega)) (.inr hxx)⟩

  | true =>
    refine iteT ?_
    have hys : 0 < ys.length := by
      refine Nat.pos_of_ne_zero fun z => hbo.mp rfl ?_
      rw [List.eq_nil_of_length_eq_zero z]; rfl
    refine ⟨_, rfl, tp, 5, c, rfl, ht2, by decide, by decide, by omega, fun j H3 hj0 hj1 l3 ht3 => ⟨rfl, _, rfl, ?_⟩⟩
    have L3 := L2.trans l3
    have e3 := l3.rest _ _ pT e12
    by_cases hj : V.int j = V.int 0
    · refine ifT hj ?_
      refine ⟨_, rfl, _, rfl, _, rfl, p, _, rfl, .inl (SqL.of e3), tp, _, _, rfl, ht3, by omega, by omega, by omega, fun i H4 hi0 hi1 l4 ht4 => ?_⟩
      obtain ⟨x, ex⟩ := get_ex (l := ys) (i := i.toNat) (by omega)
      refine ⟨p, _, i, .str x, rfl, rfl, SqL.of (l4.rest _ _ pT e3), ?_, q x H4 (L3.trans l4) (ht4.up (by omega)) (.inl (hp.mem_iff.mp (get_mem ex)))⟩
      have := atI_nat (xs := ys.map V.str) (j := i.toNat) (v := .str x) (by rw [List.getElem?_map, ex]; rfl)
      rw [show ((i.toNat : Nat) : Int) = i by omega] at this
      exact this
    · refine ifF hj ?_
      refine ⟨_, rfl, (d : Int), rfl, nat_log (by omega) (by omega), z5, fun u hu => ?_⟩
      have hT5 := ht3.mono (Le.new (M := noM) hu (.lst [.str "x", .str "y", .str "z", .str "xx", .str (fig d)])) (fun z => z) (Int.le_refl _)
      have L5 : Le (atT tp) H (upd H3 u (.lst [.str "x", .str "y", .str "z", .str "xx", .str (fig d)])) := L3.trans (Le.new hu _)
      have e5 : upd H3 u (.lst [.str "x", .str "y", .str "z", .str "xx", .str (fig d)]) u = some (.lst [.str "x", .str "y", .str "z", .str "xx", .str (fig d)]) := upd_same
      have uT : u ≠ tp := fun e => by obtain ⟨_, _, _, h, _⟩ := ht3.ex; rw [e, h] at hu; cases hu
      rw [show Str.ofString (toString ((d : Nat) : Int)) = fig d from rfl]
      generalize upd H3 u (.lst [.str "x", .str "y", .str "z", .str "xx", .str (fig d)]) = H5 at hT5 L5 e5
      refine ⟨_, rfl, tp, 5, _, rfl, hT5, by decide, by decide, by omega, fun j H6 hj0 hj1 l6 ht6 => ?_⟩
      obtain ⟨x, hx, hxx⟩ := five (d := d) hj0 hj1
      exact ⟨u, _, j, .str x, rfl, rfl, SqL.of (l6.rest _ _ uT e5), hx, q x H6 (L5.trans l6) (ht6.up (by omega)) (.inr hxx)⟩

end
end Nh
/-! ## NhL4 -/
set_option maxHeartbeats 4000000
namespace Nh
open PySem PySem.Spec PyProof.Rows L2
theorem NmK.at {kvs : List (Key × V)} {ks : List Str} {Γ : Ctx} (h : NmK kvs ks Γ) {i : Nat} {k : Key} {v : V} (e : kvs[i]? = some (k, v)) : ∃ y r, k = Sum.inr y ∧ v = .int r ∧ Γ y = some r ∧ y ∈ ks := by
  have hm := get_mem e
  have hk : k ∈ kvs.map (·.1) := List.mem_map.mpr ⟨_, hm, rfl⟩
  rw [h.keys] at hk
  obtain ⟨y, hy, rfl⟩ := List.mem_map.mp hk
  have hkn : (kvs.map (·.1)).Nodup := by rw [h.keys]; exact nodup_map_inj (fun _ _ _ _ e => Sum.inr.inj e) h.nd
  have := valV_mem hkn hm
  rw [h.val y] at this
  obtain ⟨r, er, ev⟩ := Option.map_eq_some_iff.mp this
  exact ⟨y, r, rfl, ev.symm, er, hy⟩
theorem nameD_mem {y : Str} {xs : List Str} : nameD y ∈ xs.map nameD ↔ y ∈ xs := by
  constructor
  · intro h
    obtain ⟨z, hz, e⟩ := List.mem_map.mp h
    injection e with e; injection e with _ e; injection e with e _; injection e with e
    exact e ▸ hz
  · exact fun h => List.mem_map.mpr ⟨y, h, rfl⟩
theorem pd_nameD (y : Str) : pd (nameD y) = true := pd_two (pd_str _) (pd_str _)
theorem pdA_names (xs : List Str) : pdA (xs.map nameD) = true := pdA_iff.mpr fun x hx => by obtain ⟨y, _, rfl⟩ := List.mem_map.mp hx; exact pd_nameD y
section
variable {P : Program} {w : World} {K : PySem.W.Frag} {mg : Str → Option Value} {base : Heap} {f : Addr} {fd : FuncData}
abbrev N_l_hole : List Str := ["_law_tape_here", "_law_tongue_here", "_law_names", "_law_hole_here", "_law_deep", "_law_way", "_law_taken", "_law_sort", "_law_own", "_law_name", "_law_its"]
theorem sc_l_hole : FnScope N_l_hole ["_law_tape_here", "_law_tongue_here", "_law_names", "_law_hole_here", "_law_deep", "_law_way"] (defScope s_l_hole) := ⟨rfl, rfl, rfl, by decide +kernel, rfl, by decide +kernel, by decide +kernel⟩
theorem ok_l_hole (F : Fun K "_law_hole" "_law_hole" s_l_hole f fd) (B : Bt mg) (c_l_take : Cal P w K mg base 1 "_law_take" ["_law_tape_here", "_law_many"] spTake) : FnOk P w K mg base CX0 2 f fd ["_law_tape_here", "_law_tongue_here", "_law_names", "_law_hole_here", "_law_deep", "_law_way"] spHole := by
  refine F.ok sc_l_hole (fun vs H Q E h => by obtain ⟨tp, nm, tg, v1, h, ss, s, d, way, c, T, kvs, ks, Γ, rfl, _⟩ := h; rfl) (fun cdv A outer s H vs Q E hr h => ?_)
  obtain ⟨tp, nm, tg, v1, h, ss, s0, d, way, c, T, kvs, ks, Γ, rfl, ht, hc, hv1, hlk, hss, hn, hne, hk, hkl, hway, q0, q1⟩ := h
  have hbig : big = 1000000000000 := rfl
  refine ⟨_, (pss_cons (ps_set (i := 6) sc_l_hole.nd rfl (by first | exact Or.inl rfl | exact Or.inr rfl) (pe_lst pa_nil))
  (pss_cons (ps_for PassesOwn.never rfl (piT (K := K) rfl (pe_ix (ixT (K := K) rfl) (pv 3) (pe_int) (fun _ _ => rfl))) (pg_name (i := 7) sc_l_hole.nd rfl (by first | exact Or.inl rfl | exact Or.inr rfl)) (pss_cons (ps_set (i := 8) sc_l_hole.nd rfl (by first | exact Or.inl rfl | exact Or.inr rfl) (pe_callB (srtS (K := K) rfl) (by rfl) B.sorted bv_sorted (pa_cons (pe_lock (pe_lc (own := [("_law_name", 9), ("_law_its", 10)]) rfl sc_l_hole.nd (pi_items (pv 2)) (blkOk_by (own := [("_law_name", 9), ("_law_its", 10)]) (N := N_l_hole) (sc := defScope s_l_hole) (by decide +kernel)) (fun _ _ _ _ _ => pgT (K := K) (n := 2) rfl rfl (pgs_cons (pg_name (i := 9) sc_l_hole.nd rfl (by first | exact Or.inl rfl | exact Or.inr rfl)) (pgs_cons (pg_name (i := 10) sc_l_hole.nd rfl (by first | exact Or.inl rfl | exact Or.inr rfl)) pgs_nil))) (fun _ _ _ _ _ => pts_one (PW.pt (pw_and (pt_cmpR op_eq (pv 10) (pv 7) (nomark _)) (pw_and1 (pt_cmpR (ninP (K := K) rfl hr.units) (pe_tup (pa_cons (pe_str) (pa_cons (pv 9) pa_nil))) (pv 6) (by rfl)))))) (fun _ _ _ _ _ => pv 9))) pa_nil)))
  (pss_one (ps_if (PW.pt (pw_and (pt_cmpR op_eq (pv 5) (pe_int) (nomark _)) (pw_and (pt_cmpR op_gt (pv 4) (pe_int) (nomark _)) (pw_and1 (pt_cmpR op_eq (pe_cal c_l_take (hr.mono (by omega)) (by rfl) (pa_cons (pv 0) (pa_cons (pe_int) pa_nil))) (pe_int) (nomark _)))))) pss_never (pss_one (ps_if (pt_cmpR (neP (K := K) rfl hr.units) (pv 8) (pe_lst pa_nil) (nomark _)) (pss_one (ps_expr (pe_bm PySem.F.plainAttrs_list PySem.F.slot_list_append PySem.F.type_list_append mt_append (pv 6) (pa_cons (pe_tup (pa_cons (pe_str) (pa_cons (pe_ix (ixL (K := K) rfl) (pv 8) (pe_cal c_l_take (hr.mono (by omega)) (by rfl) (pa_cons (pv 0) (pa_cons (pe_callB (lenQ (K := K) rfl) (by rfl) B.len bv_len (pa_cons (pv 8) pa_nil)) pa_nil))) (fun _ _ => rfl)) pa_nil))) pa_nil)))) (pss_one (ps_ret (pe_non)))))))))
  (pss_one (ps_ret (pe_tup (pa_cons (pe_str) (pa_cons (pe_ix (ixT (K := K) rfl) (pv 3) (pe_int) (fun _ _ => rfl)) (pa_cons (pe_callTy (tupQ (K := K) rfl) (by rfl) B.tuple bv_tuple (pa_cons (pv 6) pa_nil)) pa_nil)))))))), ?_⟩
  obtain ⟨a1, x1, x2, x3, rfl, ha1, hx1, hx2, hx3⟩ := dv_three.mp hv1
  rw [dv_str] at hx1; subst hx1
  obtain ⟨sa, rfl, hsa⟩ := dv_ints.mp hx2
  have kl := hk.len
  refine ⟨z0, fun D hD => ?_⟩
  have tD : tp ≠ D := fun e => by obtain ⟨_, _, _, h, _⟩ := ht.ex; rw [e, hD] at h; cases h
  have nD : nm ≠ D := ne_of_none hn hD
  have l1 : Le0 H (upd H D (.lst [])) := Le.new hD _
  have eD : upd H D (.lst []) D = some (.lst []) := upd_same
  have ht1 := ht.mono l1 (fun z => z) (Int.le_refl c)
  generalize upd H D (.lst []) = H1 at l1 eD ht1
  have hsl : (ss.map V.int).length = ss.length := List.length_map _
  refine ⟨_, rfl, a1, _, 1, _, rfl, rfl, SqT.of (l1.tup _ _ ha1), at1, sa, rfl, ⟨_, SqT.of (l1.tup _ _ hsa)⟩, ?_⟩
  refine for_it walk_tup (fun i σ H' => (∃ y1 y2 y3 y4, σ = [some (.ref tp), some tg, some (.ref nm), some (.ref a1), some (.int d), some (.int way), some (.ref D), y1, y2, y3, y4]) ∧ Le (fun a => a = tp ∨ a = D) H1 H' ∧
      ∃ (xs : List Str) (vs : List V), H' D = some (.lst vs) ∧ DvA H' (xs.map nameD) vs ∧ xs.length = i ∧ xs.Nodup ∧ (∀ (j : Nat) x, xs[j]? = some x → ∃ r, ss[j]? = some r ∧ Γ x = some r) ∧ Tape H' tp (c + i))
    ⟨⟨none, none, none, none, rfl⟩, Le.refl _, [], [], eD, .nil, rfl, List.nodup_nil, fun j x z => by simp at z, ht1.up (by omega)⟩ (fun i σ H' _ ⟨_, l, _⟩ => SqT.of (l.tup _ _ (l1.tup _ _ hsa))) (fun i y σ H20 H2 hi hP yy => ?_) fun σ H' hP => ?_
  · obtain ⟨⟨y1, y2, y3, y4, rfl⟩, l2, xs, vs, e2, hxs, hxl, hxn, hxt, hT⟩ := hP
    obtain ⟨rfl, ex⟩ := yy
    have hi2 : i < ss.length := by have : i < (ss.map V.int).length := hi; omega
    obtain ⟨r, er⟩ := get_ex (l := ss) (i := i) hi2
    rw [List.getElem?_map, er] at ex
    obtain rfl := Option.some.inj ex
    have nT : nm ≠ tp := fun e => hne e.symm
    have hn2 : H2 nm = some (.dK kvs) := l2.rest _ _ (fun z => z.elim nT nD) (l1.rest _ _ (fun z => z) hn)
    refine ⟨nm, _, hn2, True.intro, fun od => ?_⟩
    have eF : upd H2 nm (.frz od (.dK kvs)) nm = some (.frz od (.dK kvs)) := upd_same
    have hvl := hxs.length
    rw [List.length_map] at hvl
    have eD3 : upd H2 nm (.frz od (.dK kvs)) D = some (.lst vs) := by rw [upd_ne nD.symm]; exact e2
    have hxs3 : DvA (upd H2 nm (.frz od (.dK kvs))) (xs.map nameD) vs := hxs.mono (Tu.upd hn2 (fun _ e => nomatch e) _)
    have unl := fun {H' : Hp} (l : Le0 (upd H2 nm (.frz od (.dK kvs))) H') => Le.unlock hn2 l
    generalize upd H2 nm (.frz od (.dK kvs)) = H3 at eF eD3 hxs3 unl
    refine ⟨_, rfl, nm, od, kvs, rfl, eF, fun D2 hD2 => ?_⟩
    have nD2 : nm ≠ D2 := ne_of_none eF hD2
    refine lc_acc walk_items noM (fun i acc _ => ∃ ys : List Str, acc = ys.map V.str ∧ ys.length ≤ i ∧ ∀ y ∈ ys, Γ y = some r ∧ y ∉ xs) hD2 (fun _ z => z.elim) (smallL (by omega)) (fun i acc H H' _ _ _ h => h) ⟨[], rfl, Nat.le_refl _, fun _ z => nomatch z⟩ (fun i acc H' _ l _ => l.rest _ _ (fun z => z) eF)
      (fun j x acc2 H7 H8 hj l7 _ _ hP2 y2 k1 k0 hk1' hk0' => ?_) fun acc2 H7 l7 hacc7 _ hP2 => ?_
    · obtain ⟨ys, rfl, hyl, hyt⟩ := hP2
      obtain ⟨U, u1, u2, rfl, hU, rfl, f1, f2⟩ := y2
      obtain ⟨⟨k, v⟩, ek⟩ := get_ex (l := kvs) (i := j) hj
      obtain ⟨y, r', rfl, rfl, hy, _⟩ := hk.at ek
      simp only [ek, Option.map_some, Option.some.injEq] at f1 f2
      obtain rfl : V.str y = u1 := f1
      obtain rfl : V.int r' = u2 := f2
      have l8 : Le0 H7 (upd H7 U (.tup [.str y, .int r'])) := Le.new hU _
      refine ⟨U, _, rfl, SqT.of upd_same, rfl, _, _, rfl, _, _, rfl, rfl, rfl, ?_⟩
      show tAnd _ _ _ (upd H7 U (.tup [.str y, .int r'])) _
      generalize upd H7 U (.tup [.str y, .int r']) = H8 at l8
      refine ⟨_, rfl, _, rfl, rfl, _, rfl, ?_⟩
      by_cases hr' : r' = r
      · refine ifT (by rw [hr']) ?_
        refine ⟨_, rfl, z2, fun p hp => ?_⟩
        have l9 : Le0 H8 (upd H8 p (.tup [.str "name", .str y])) := Le.new hp _
        have d9 : Dv (upd H8 p (.tup [.str "name", .str y])) (nameD y) (.ref p) := Dv.mk hp (.cons Dv.str (.cons Dv.str .nil))
        generalize upd H8 p (.tup [.str "name", .str y]) = H9 at l9 d9
        have L9 := (l7.trans l8).trans l9
        refine ⟨_, rfl, nameD y, xs.map nameD, d9.dp, .lst (SqL.of (L9.rest _ _ (fun z => z) eD3)) (hxs3.mono L9.tup).dp, pd_nameD y, pdA_names xs, Nat.le_trans (depth_two (n := 0) (by rw [depth_str]; exact Nat.le_refl _) (by rw [depth_str]; exact Nat.le_refl _)) (by decide), fun bo hbo => ⟨bo, rfl, ?_⟩⟩
        rw [nameD_mem] at hbo
        cases bo with
        | true =>
          refine iteT ⟨_, rfl, hk1' _ _ (l8.trans l9) ⟨ys ++ [y], by rw [List.map_append]; rfl, by rw [List.length_append, List.length_singleton]; omega, fun z hz => ?_⟩⟩
          rcases List.mem_append.mp hz with hz | hz
          · exact hyt z hz
          · rw [List.mem_singleton] at hz; subst hz; exact ⟨by rw [hy, hr'], hbo.mp rfl⟩
        | false => exact iteF (hk0' _ (l8.trans l9) ⟨ys, rfl, by omega, hyt⟩)
      · refine ifF (fun z => hr' (by injection z)) ?_
        exact hk0' _ l8 ⟨ys, rfl, by omega, hyt⟩
    · obtain ⟨ys, rfl, hyl, hyt⟩ := hP2
      refine ⟨l7.rest _ _ (fun z => z) eF, ?_⟩
      have l8 := unl l7
      have e8 : upd H7 nm (.dK kvs) D2 = some (.lst (ys.map V.str)) := by rw [upd_ne nD2.symm]; exact hacc7
      generalize upd H7 nm (.dK kvs) = H8 at l8 e8
      refine ⟨D2, ys, rfl, SqL.of e8, by omega, fun zs p hp _ hnp => ?_⟩
      have l9 : Le0 H8 (upd H8 p (.lst (zs.map V.str))) := Le.new hnp _
      have e9 : upd H8 p (.lst (zs.map V.str)) p = some (.lst (zs.map V.str)) := upd_same
      show gName _ _ _ _ _
      generalize upd H8 p (.lst (zs.map V.str)) = H9 at l9 e9
      have L9 := l8.trans l9
      have hT9 := hT.mono L9 (fun z => z) (Int.le_refl _)
      have eD9 := L9.rest _ _ (fun z => z) e2
      have hzl := hp.length_eq
      have hml : (zs.map V.str).length = zs.length := List.length_map _
      have pT : p ≠ tp := fun e => by obtain ⟨_, _, _, h, _⟩ := (hT.mono l8 (fun z => z) (Int.le_refl _)).ex; rw [e, h] at hnp; cases hnp
      have pD : p ≠ D := fun e => by rw [e, l8.rest _ _ (fun z => z) e2] at hnp; cases hnp
      refine ⟨_, rfl, rfl, _, rfl, ifF (fun z => ?_) ?_⟩
      · have : way = 2 := by injection z
        rcases hway with h | h <;> omega
      refine ⟨_, rfl, z0, fun u0 hu0 => ?_⟩
      have l10 : Le0 H9 (upd H9 u0 (.lst [])) := Le.new hu0 _
      have e10 : upd H9 u0 (.lst []) u0 = some (.lst []) := upd_same
      show rNeP _ _ _ _ _
      generalize upd H9 u0 (.lst []) = H10 at l10 e10
      have e910 := l10.rest _ _ (fun z => z) e9
      have hT10 := hT9.mono l10 (fun z => z) (Int.le_refl _)
      have eD10 := l10.rest _ _ (fun z => z) eD9
      have L10 := L9.trans l10
      refine ⟨.list (zs.map strD), .list [], .lst (SqL.of e910) (dva_strs.mpr rfl).dp, .lst (SqL.of e10) .nil, by rw [pd_lst, ← pd_tup]; exact pd_strs zs, rfl, Nat.le_trans (depth_lst (n := 0) fun x hx => by obtain ⟨y, _, rfl⟩ := List.mem_map.mp hx; rw [depth_str]; exact Nat.le_refl _) (by decide), fun bo hbo => ⟨bo, rfl, ?_⟩⟩
      cases bo with
      | false =>
        refine iteF ?_
        have m : Le (fun a => a = tp ∨ a = D) H H10 := (l1.any.trans l2).trans L10.any
        refine q0 H10 ⟨m.tup, fun a o ha ho => m.rest a o (fun z => z.elim ha fun z => ?_) ho, m.dom⟩ (hT10.up (by omega))
        subst z; rw [hD] at ho; cases ho
      | true =>
        refine iteT ?_
        have hzs : 0 < zs.length := by
          refine Nat.pos_of_ne_zero fun z => hbo.mp rfl ?_
          rw [List.eq_nil_of_length_eq_zero z]; rfl
        refine ⟨_, rfl, .inl ⟨rfl, _, SqL.of eD10⟩, ?_⟩
        refine ⟨_, rfl, _, rfl, _, rfl, p, _, rfl, .inl (SqL.of e910), tp, _, _, rfl, hT10, by omega, by omega, by omega, fun k H11 hk0 hk1 l11 ht11 => ?_⟩
        obtain ⟨x, ex⟩ := get_ex (l := zs) (i := k.toNat) (by omega)
        have hx := hyt x (hp.mem_iff.mp (get_mem ex))
        have eD11 := l11.rest _ _ tD.symm eD10
        refine ⟨p, _, k, .str x, rfl, rfl, SqL.of (l11.rest _ _ pT e910), ?_, z2, fun r1 hr1 => ?_⟩
        · have := atI_nat (xs := zs.map V.str) (j := k.toNat) (v := .str x) (by rw [List.getElem?_map, ex]; rfl)
          rw [show ((k.toNat : Nat) : Int) = k by omega] at this
          exact this
        have l12 : Le0 H11 (upd H11 r1 (.tup [.str "name", .str x])) := Le.new hr1 _
        have d12 : Dv (upd H11 r1 (.tup [.str "name", .str x])) (nameD x) (.ref r1) := Dv.mk hr1 (.cons Dv.str (.cons Dv.str .nil))
        generalize upd H11 r1 (.tup [.str "name", .str x]) = H12 at l12 d12
        have eD12 := l12.rest _ _ (fun z => z) eD11
        have hT12 := ht11.mono l12 (fun z => z) (Int.le_refl _)
        refine ⟨D, vs, _, rfl, rfl, eD12, smallL (by omega), ?_⟩
        have t13 : Tu H12 (upd H12 D (.lst (vs ++ [.ref r1]))) := Tu.upd eD12 (fun _ q => nomatch q) _
        have m12 : Le (fun a => a = tp ∨ a = D) H1 H12 := ((l2.trans L10.any).trans (l11.mono fun a h => .inl h)).trans l12.any
        refine ⟨⟨_, _, _, _, rfl⟩, m12.mut (p := D) (.inr rfl) (fun xs e => by rw [eD12] at e; cases e) _, xs ++ [x], _, upd_same, ?_, by rw [List.length_append, hxl]; rfl, ?_, fun j z ez => ?_, ?_⟩
        · rw [List.map_append]
          exact ((hxs.mono (Tu.trans (Tu.trans L10.tup l11.tup) l12.tup)).mono t13).append (.cons (d12.mono t13) .nil)
        · exact List.nodup_append.mpr ⟨hxn, List.nodup_cons.mpr ⟨List.not_mem_nil, List.nodup_nil⟩, fun a ha b hb e => by rw [List.mem_singleton] at hb; subst hb; subst e; exact hx.2 ha⟩
        · by_cases hj : j < xs.length
          · rw [List.getElem?_append_left hj] at ez; exact hxt j z ez
          · have hj2 : j = xs.length := by
              have := (List.getElem?_eq_some_iff.mp ez).1
              rw [List.length_append, List.length_singleton] at this; omega
            subst hj2
            rw [List.getElem?_append_right (Nat.le_refl _), Nat.sub_self] at ez
            simp at ez; subst ez
            exact ⟨r, by rw [hxl]; exact er, hx.1⟩
        · obtain ⟨p1, p2, p3, h1, h2, h3⟩ := hT12.ex
          exact ⟨p1, p2, p3, by rw [upd_ne tD]; exact h1, h2, by omega⟩
  · obtain ⟨⟨y1, y2, y3, y4, rfl⟩, l2, xs, vs, e2, hxs, hxl, hxn, hxt, hT⟩ := hP
    have ha2 := l2.tup _ _ (l1.tup _ _ ha1)
    refine ⟨_, rfl, a1, _, 0, _, rfl, rfl, SqT.of ha2, at0, _, rfl, D, vs, rfl, SqL.of e2, fun p hp => ?_⟩
    have d3 : Dv (upd H' p (.tup vs)) (.tuple (xs.map nameD)) (.ref p) := Dv.mk hp hxs
    have l3 : Le0 H' (upd H' p (.tup vs)) := Le.new hp _
    generalize upd H' p (.tup vs) = H3 at d3 l3
    refine ⟨z3, fun p2 hp2 => ?_⟩
    have l4 : Le0 H3 (upd H3 p2 (.tup [.str "hole", .str h, .ref p])) := Le.new hp2 _
    have m : Le (fun a => a = tp ∨ a = D) H (upd H3 p2 (.tup [.str "hole", .str h, .ref p])) := ((l1.any.trans l2).trans l3.any).trans l4.any
    have hxl2 : xs.length = ss.length := by rw [hxl]; exact hsl
    refine q1 p2 xs _ ⟨m.tup, fun a o ha ho => m.rest a o (fun z => z.elim ha fun z => ?_) ho, m.dom⟩ ?_ (.hole hlk ?_ hxn) (by omega) ((hT.mono (l3.trans l4) (fun z => z) (Int.le_refl _)).up (by omega))
    · subst z; rw [hD] at ho; cases ho
    · rw [encT_hole]
      exact Dv.mk hp2 (.cons Dv.str (.cons Dv.str (.cons d3 .nil)))
    · refine List.ext_getElem? fun j => ?_
      rw [List.getElem?_map, List.getElem?_map]
      by_cases hj : j < xs.length
      · obtain ⟨x, ex⟩ := get_ex hj
        obtain ⟨r, er, hr⟩ := hxt j x ex
        rw [ex, er, Option.map_some, Option.map_some, hr]
      · rw [List.getElem?_eq_none (by omega), List.getElem?_eq_none (by omega)]; rfl
end
end Nh
/-! ## NhL5 -/
set_option maxHeartbeats 4000000
namespace Nh
open PySem PySem.Spec PyProof.Rows L2
theorem updF_snoc {α : Type} (ν : Str → α) (l : List (Str × α)) (b : Str) (a : α) : updF ν (l ++ [(b, a)]) = fun y => if y = b then a else updF ν l y := by
  unfold updF; rw [List.foldl_append]; rfl
theorem bindG_snoc {Γ : Ctx} {bs : List Str} {ss : List Int} {i : Nat} {b : Str} {s : Int} (hl : bs.length = i) (e : ss[i]? = some s) : bindG Γ (bs ++ [b]) (ss.take (i + 1)) = fun y => if y = b then some s else bindG Γ bs (ss.take i) y := by
  have hi := (List.getElem?_eq_some_iff.mp e).1
  show updF Γ _ = _
  rw [List.take_add_one, e, List.map_append, List.zip_append (by rw [List.length_map, List.length_take]; omega)]
  exact updF_snoc _ _ _ _
section
variable {P : Program} {w : World} {K : PySem.W.Frag} {mg : Str → Option Value} {base : Heap} {f : Addr} {fd : FuncData}
abbrev N_l_part : List Str := ["_law_tape_here", "_law_tongue_here", "_law_names", "_law_part_here", "_law_deep", "_law_way", "_law_bound_here", "_law_inner", "_law_k", "_law_sort", "_law_name"]
theorem sc_l_part : FnScope N_l_part ["_law_tape_here", "_law_tongue_here", "_law_names", "_law_part_here", "_law_deep", "_law_way"] (defScope s_l_part) := ⟨rfl, rfl, rfl, by decide +kernel, rfl, by decide +kernel, by decide +kernel⟩
theorem ok_l_part {n : Nat} (F : Fun K "_law_part" "_law_part" s_l_part f fd) (B : Bt mg) (c_l_bound : Cal P w K mg base 2 "_law_bound" ["_law_tape_here", "_law_names", "_law_deep"] spBound) (c_l_term : Cal P w K mg base (2 * n + 3) "_law_term" ["_law_tape_here", "_law_tongue_here", "_law_names", "_law_sort", "_law_deep", "_law_way"] (spTerm n)) :
    FnOk P w K mg base CX0 (2 * n + 4) f fd ["_law_tape_here", "_law_tongue_here", "_law_names", "_law_part_here", "_law_deep", "_law_way"] (spPart n) := by
  refine F.ok sc_l_part (fun vs H Q E h => by obtain ⟨tp, nm, tg, v1, ss, s, d, way, c, T, kvs, ks, Γ, rfl, _⟩ := h; rfl) (fun cdv A outer s H vs Q E hr h => ?_)
  obtain ⟨tp, nm, tg, v1, ss, s0, d, way, c, T, kvs, ks, Γ, rfl, ht, hc, htg, hT, hv1, hss, hn, hne, ⟨hk, hsep, hfew⟩, hs0, hd1, hd2, hway, q⟩ := h
  have hu := hu_of hr
  have hbig : big = 1000000000000 := rfl
  refine ⟨_, (pss_cons (ps_par (i := 6) (j := 7) rfl sc_l_part.nd rfl rfl (by decide) rfl rfl (pa_cons (pe_lst pa_nil) (pa_cons (pe_callTy call_dictD (by rfl) B.dict bv_dict (pa_cons (pv 2) pa_nil)) pa_nil)) (by rfl))
  (pss_cons (ps_for PassesOwn.never rfl (enT (K := K) rfl (by rfl) B.enumerate (pa_cons (pe_ix (ixT (K := K) rfl) (pv 3) (pe_int) (fun _ _ => rfl)) pa_nil)) (pgT (K := K) (n := 2) rfl rfl (pgs_cons (pg_name (i := 8) sc_l_part.nd rfl (by first | exact Or.inl rfl | exact Or.inr rfl)) (pgs_cons (pg_name (i := 9) sc_l_part.nd rfl (by first | exact Or.inl rfl | exact Or.inr rfl)) pgs_nil))) (pss_cons (ps_set (i := 10) sc_l_part.nd rfl (by first | exact Or.inl rfl | exact Or.inr rfl) (pe_cal c_l_bound (hr.mono (by omega)) (by rfl) (pa_cons (pv 0) (pa_cons (pv 2) (pa_cons (pv 4) pa_nil)))))
  (pss_cons (ps_if (pt_cmpR (inQ (K := K) rfl) (pv 10) (pv 6) (by rfl)) (pss_one (ps_set (i := 10) sc_l_part.nd rfl (by first | exact Or.inl rfl | exact Or.inr rfl) (pe_callTy call_str_int (by rfl) B.str bv_str (pa_cons (pe_op op_add (pe_op op_add (pe_int) (pe_op op_mul (pe_int) (pv 4))) (pe_callB (lenQ (K := K) rfl) (by rfl) B.len bv_len (pa_cons (pv 6) pa_nil))) pa_nil)))) pss_nil)
  (pss_cons (ps_expr (pe_bm PySem.F.plainAttrs_list PySem.F.slot_list_append PySem.F.type_list_append mt_append (pv 6) (pa_cons (pv 10) pa_nil)))
  (pss_one (ps_dput hu (pv 7) (pv 10) (pv 9) rfl))))))
  (pss_one (ps_ret (pe_tup (pa_cons (pe_callTy (tupQ (K := K) rfl) (by rfl) B.tuple bv_tuple (pa_cons (pv 6) pa_nil)) (pa_cons (pe_cal c_l_term (hr.mono (by omega)) (by rfl) (pa_cons (pv 0) (pa_cons (pv 1) (pa_cons (pv 7) (pa_cons (pe_ix (ixT (K := K) rfl) (pv 3) (pe_int) (fun _ _ => rfl)) (pa_cons (pe_op op_sub (pv 4) (pe_int)) (pa_cons (pv 5) pa_nil))))))) pa_nil))))))), ?_⟩
  obtain ⟨a1, x1, x2, rfl, ha1, hx1, hx2⟩ := dv_two.mp hv1
  rw [dv_int] at hx2; subst hx2
  obtain ⟨sa, rfl, hsa⟩ := dv_ints.mp hx1
  refine ⟨z0, fun D hD => ?_⟩
  have tD : tp ≠ D := fun e => by obtain ⟨_, _, _, h, _⟩ := ht.ex; rw [e, hD] at h; cases h
  have nD : nm ≠ D := ne_of_none hn hD
  have l1 : Le0 H (upd H D (.lst [])) := Le.new hD _
  have eD : upd H D (.lst []) D = some (.lst []) := upd_same
  have ht1 := ht.mono l1 (fun z => z) (Int.le_refl c)
  generalize upd H D (.lst []) = H1 at l1 eD ht1
  have hn1 := l1.rest _ _ (fun z => z) hn
  refine ⟨_, rfl, nm, kvs, rfl, .inl hn1, fun I hI => ?_⟩
  have tI : tp ≠ I := fun e => by obtain ⟨_, _, _, h, _⟩ := ht1.ex; rw [e, hI] at h; cases h
  have nI : nm ≠ I := ne_of_none hn1 hI
  have DI : D ≠ I := ne_of_none eD hI
  have l2 : Le0 H (upd H1 I (.dK kvs)) := l1.trans (Le.new hI _)
  have eI : upd H1 I (.dK kvs) I = some (.dK kvs) := upd_same
  have eD2 : upd H1 I (.dK kvs) D = some (.lst []) := by rw [upd_ne DI]; exact eD
  have ht2 := ht1.mono (Le.new (M := noM) hI (.dK kvs)) (fun z => z) (Int.le_refl c)
  have hI0 := l1.nil hI
  generalize upd H1 I (.dK kvs) = H2 at l2 eI eD2 ht2
  have hn2 := l2.rest _ _ (fun z => z) hn
  have hsl : (ss.map V.int).length = ss.length := List.length_map _
  refine ⟨_, _, rfl, ?_⟩
  refine ⟨_, rfl, a1, _, 0, _, rfl, rfl, SqT.of (l2.tup _ _ ha1), at0, sa, _, rfl, SqT.of (l2.tup _ _ hsa), ?_⟩
  refine for_it walk_enumT (fun i σ H' => (∃ y1 y2 y3, σ = [some (.ref tp), some tg, some (.ref nm), some (.ref a1), some (.int ((d + 1 : Nat) : Int)), some (.int way), some (.ref D), some (.ref I), y1, y2, y3]) ∧ Le (fun a => a = tp ∨ a = D ∨ a = I) H2 H' ∧
      ∃ (bs : List Str) (kvs' : List (Key × V)) (ks' : List Str), H' D = some (.lst (bs.map V.str)) ∧ H' I = some (.dK kvs') ∧ bs.length = i ∧ bs.Nodup ∧ NmK kvs' ks' (bindG Γ bs (ss.take i)) ∧ ks'.length ≤ ks.length + i ∧ (∀ y ∈ ks', y ∈ ks ∨ y ∈ bs) ∧
        (∀ y ∈ bs, y ∈ ks ∨ y = fig (d + 1) ∨ (∀ m, y ≠ fig m) ∨ ∃ j, j < i ∧ y = fig (500 + 10 * (d + 1) + j)) ∧ Tape H' tp (c + 3 * i))
    ⟨⟨none, none, none, rfl⟩, Le.refl _, [], kvs, ks, eD2, eI, rfl, List.nodup_nil, hk, Nat.le_refl _, fun y h => .inl h, fun y h => (nomatch h), ht2.up (by omega)⟩ (fun i σ H' _ ⟨_, l, _⟩ => SqT.of (l.tup _ _ (l2.tup _ _ hsa))) (fun i y σ H30 H3 hi hP yy => ?_) fun σ H' hP => ?_
  · obtain ⟨⟨y1, y2, y3, rfl⟩, l3, bs, kvs', ks', e3D, e3I, hbl, hbn, hK, hkl, hks, hbs, hTp⟩ := hP
    obtain ⟨U, u1, u2, rfl, hU, rfl, f1, f2⟩ := yy
    have hi2 : i < ss.length := by have : i < (ss.map V.int).length := hi; omega
    obtain ⟨r, er⟩ := get_ex (l := ss) (i := i) hi2
    obtain rfl : V.int (i : Nat) = u1 := Option.some.inj f1
    have f2 : (ss.map V.int)[i]? = some u2 := f2
    rw [List.getElem?_map, er] at f2
    obtain rfl := Option.some.inj f2
    have l4 : Le0 H30 (upd H30 U (.tup [.int (i : Nat), .int r])) := Le.new hU _
    have eU : upd H30 U (.tup [.int (i : Nat), .int r]) U = some (.tup [.int (i : Nat), .int r]) := upd_same
    generalize upd H30 U (.tup [.int (i : Nat), .int r]) = H4 at l4 eU
    have m4 := l3.trans l4.any
    have hn4 : H4 nm = some (.dK kvs) := m4.rest _ _ (fun z => z.elim (fun e => hne e.symm) fun z => z.elim nD nI) hn2
    have e4D := l4.rest _ _ (fun z => z) e3D
    have e4I := l4.rest _ _ (fun z => z) e3I
    have hT4 := hTp.mono l4 (fun z => z) (Int.le_refl _)
    refine ⟨U, _, rfl, SqT.of eU, rfl, _, _, rfl, _, _, rfl, rfl, ?_⟩
    refine ⟨_, rfl, _, rfl, _, rfl, tp, nm, d + 1, _, kvs, ks, rfl, hT4, by omega, hn4, hk.keys, by omega, by omega, hne, fun x H5 l5 hT5 hx => ?_⟩
    have e5D := l5.rest _ _ tD.symm e4D
    have e5I := l5.rest _ _ tI.symm e4I
    have m5 : Le (fun a => a = tp ∨ a = D ∨ a = I) H2 H5 := m4.trans (l5.mono fun a h => .inl h)
    have hbl2 : (bs.map V.str).length = bs.length := List.length_map _
    dsimp only [gName]
    show tSeq (tIfS ?t ?a ?b) (tSeq ?app ?put) ?D ?s H5
    have key : ∀ (z : Str), z ∉ bs → (z ∈ ks ∨ z = fig (d + 1) ∨ (∀ m, z ≠ fig m) ∨ ∃ j, j < i + 1 ∧ z = fig (500 + 10 * (d + 1) + j)) → tSeq ?app ?put ?D [some (.ref tp), some tg, some (.ref nm), some (.ref a1), some (.int ((d + 1 : Nat) : Int)), some (.int way), some (.ref D), some (.ref I), some (.int (i : Nat)), some (.int r), some (.str z)] H5 := by
      intro z hz hzk
      refine ⟨_, rfl, .inl ⟨rfl, _, SqL.of e5D⟩, ?_⟩
      refine ⟨_, rfl, D, _, _, rfl, rfl, e5D, smallL (by omega), ?_⟩
      have m6 : Le (fun a => a = tp ∨ a = D ∨ a = I) H2 (upd H5 D (.lst (bs.map V.str ++ [.str z]))) := m5.mut (p := D) (.inr (.inl rfl)) (fun xs e => by rw [e5D] at e; cases e) _
      have e6D : upd H5 D (.lst (bs.map V.str ++ [.str z])) D = some (.lst ((bs ++ [z]).map V.str)) := by rw [upd_same, List.map_append]; rfl
      have e6I : upd H5 D (.lst (bs.map V.str ++ [.str z])) I = some (.dK kvs') := by rw [upd_ne DI.symm]; exact e5I
      have hT6 : Tape (upd H5 D (.lst (bs.map V.str ++ [.str z]))) tp (c + 3 * i + 3) := by
        obtain ⟨p1, p2, p3, h1, h2, h3⟩ := hT5.ex
        exact ⟨p1, p2, p3, by rw [upd_ne tD]; exact h1, h2, h3⟩
      generalize upd H5 D (.lst (bs.map V.str ++ [.str z])) = H6 at m6 e6D e6I hT6
      refine ⟨_, rfl, _, rfl, _, rfl, I, _, rfl, .inl ⟨kvs', Sum.inr z, e6I, rfl, smallL (by have := hK.len; omega), rfl⟩, ?_⟩
      obtain ⟨ks2, hK2, hm2, hl2⟩ := hK.put z r
      refine ⟨⟨_, _, _, rfl⟩, m6.mut (p := I) (.inr (.inr rfl)) (fun xs e => by rw [e6I] at e; cases e) _, bs ++ [z], _, ks2, by rw [upd_ne DI]; exact e6D, upd_same, by rw [List.length_append, hbl]; rfl, ?_, ?_, by omega, fun y hy => ?_, fun y hy => ?_, ?_⟩
      · exact List.nodup_append.mpr ⟨hbn, List.nodup_cons.mpr ⟨List.not_mem_nil, List.nodup_nil⟩, fun a ha b hb e => by rw [List.mem_singleton] at hb; subst hb; subst e; exact hz ha⟩
      · rw [bindG_snoc hbl er]; exact hK2
      · rcases (hm2 y).mp hy with e | hy
        · exact .inr (by rw [e]; exact List.mem_append_right _ List.mem_cons_self)
        · exact (hks y hy).imp id fun h => List.mem_append_left _ h
      · rcases List.mem_append.mp hy with hy | hy
        · exact (hbs y hy).imp id fun h => h.imp id fun h => h.imp id fun ⟨j, hj, e⟩ => ⟨j, by omega, e⟩
        · rw [List.mem_singleton] at hy; subst hy; exact hzk
      · obtain ⟨p1, p2, p3, h1, h2, h3⟩ := hT6.ex
        exact ⟨p1, p2, p3, by rw [upd_ne tI]; exact h1, h2, by omega⟩
    refine ⟨_, rfl, _, rfl, D, _, rfl, .inl (SqL.of e5D), rfl, flat_strs bs, _, rfl, ?_⟩
    show if inV (.str x) (bs.map V.str) = true then _ else _
    rw [inV_strs]
    by_cases hxb : x ∈ bs
    · rw [decide_eq_true hxb]
      refine iteT ?_
      refine ⟨_, rfl, _, _, rfl, rfl, .inl (by decide), _, _, rfl, rfl, _, rfl, D, _, rfl, .inl (SqL.of e5D), _, _, rfl, rfl, _, rfl, ?_⟩
      have hz : (500 : Int) + 10 * ((d + 1 : Nat) : Int) + ((bs.map V.str).length : Nat) = ((500 + 10 * (d + 1) + i : Nat) : Int) := by omega
      refine ⟨?_, ?_⟩
      · show ((500 : Int) + 10 * ((d + 1 : Nat) : Int) + ((bs.map V.str).length : Nat)).natAbs.log2 < 1920
        rw [hz]; exact nat_log (by omega) (by omega)
      · show gName _ (V.str (Str.ofString (toString ((500 : Int) + 10 * ((d + 1 : Nat) : Int) + ((bs.map V.str).length : Nat))))) _ _ _
        rw [hz]
        refine key (fig (500 + 10 * (d + 1) + i)) (fun h => ?_) (.inr (.inr (.inr ⟨i, Nat.lt_succ_self _, rfl⟩)))
        rcases hbs _ h with h | h | h | ⟨j, hj, h⟩
        · exact hsep _ (by omega) (by omega) h
        · have := fig_inj h; omega
        · exact h _ rfl
        · have := fig_inj h; omega
    · rw [decide_eq_false hxb]
      refine iteF ?_
      exact key x hxb (hx.imp id fun h => h.imp id fun h => .inl h)
  · obtain ⟨⟨y1, y2, y3, rfl⟩, l3, bs, kvs', ks', e3D, e3I, hbl, hbn, hK, hkl, hks, hbs, hTp⟩ := hP
    have hbl' : bs.length = ss.length := by rw [hbl]; exact hsl
    rw [show ss.take (ss.map V.int).length = ss by rw [hsl, List.take_length]] at hK
    have ha3 := l3.tup _ _ (l2.tup _ _ ha1)
    refine ⟨_, rfl, D, _, rfl, SqL.of e3D, fun p hp => ?_⟩
    have l4 : Le0 H' (upd H' p (.tup (bs.map V.str))) := Le.new hp _
    have d4 : Dv (upd H' p (.tup (bs.map V.str))) (strsD bs) (.ref p) := dv_strs.mpr ⟨p, rfl, upd_same⟩
    generalize upd H' p (.tup (bs.map V.str)) = H4 at l4 d4
    have e4I := l4.rest _ _ (fun z => z) e3I
    have hT4 := hTp.mono l4 (fun z => z) (Int.le_refl _)
    have htg4 := htg.mono (Tu.trans (Tu.trans l2.tup l3.tup) l4.tup)
    refine ⟨_, rfl, _, rfl, _, rfl, _, rfl, a1, _, 1, _, rfl, rfl, SqT.of (l4.tup _ _ ha3), at1, _, rfl, _, _, rfl, rfl, _, rfl, ?_⟩
    have ed : (((d + 1 : Nat) : Int) - 1) = ((d : Nat) : Int) := by omega
    refine ⟨tp, I, tg, s0, d, way, _, T, kvs', ks', bindG Γ bs ss, (by show [_, _, _, _, V.int (((d + 1 : Nat) : Int) - 1), _] = _; rw [ed]), hT4, ?_, htg4, hT, e4I, tI, ⟨hK, fun m hm0 hm1 hm => ?_, ?_⟩, hs0, hd1, by omega, hway, fun v t H5 l5 hv5 hty hsz hdp hT5 => ?_⟩
    · omega
    · rcases hks _ hm with h | h
      · exact hsep m hm0 (by omega) h
      · rcases hbs _ h with h | h | h | ⟨j, hj, h⟩
        · exact hsep m hm0 (by omega) h
        · have := fig_inj h; omega
        · exact h _ rfl
        · have := fig_inj h; omega
    · omega
    · refine ⟨z2, fun r hr' => ?_⟩
      have l6 : Le (atT tp) H4 (upd H5 r (.tup [.ref p, v])) := l5.trans (Le.new hr' _)
      have m : Le (fun a => a = tp ∨ a = D ∨ a = I) H (upd H5 r (.tup [.ref p, v])) := (l2.any.trans (l3.trans l4.any)).trans (l6.mono fun a h => .inl h)
      refine q r bs t _ ⟨m.tup, fun a o ha ho => m.rest a o (fun z => ?_) ho, m.dom⟩ (Dv.mk hr' (.cons (d4.mono l5.tup) (.cons hv5 .nil))) hbn hbl' hty hsz hdp ?_
      · rcases z with z | z | z
        · exact ha z
        · subst z; rw [hD] at ho; cases ho
        · subst z; rw [hI0] at ho; cases ho
      · refine hT5.mono (Le.new (M := noM) hr' _) (fun z => z) ?_
        have : (ss.map V.int).length ≤ 3 := by omega
        omega
end
end Nh
/-! ## NhL6 -/
set_option maxHeartbeats 8000000
namespace Nh
open PySem PySem.Spec PyProof.Rows L2
theorem pd_partD (q : List Int × Int) : pd (partD q) = true := pd_two (pd_ints _) (pd_int _)
theorem pd_holeD (r : Str × List Int × Int) : pd (holeD r) = true := pd_three (pd_str _) (pd_ints _) (pd_int _)
theorem depth_holeD (r : Str × List Int × Int) : (holeD r).depth ≤ 2 := depth_three (n := 1) (by rw [depth_str]; omega) (depth_ints _) (by rw [depth_int]; omega)
theorem sum_le_len {l : List Nat} {m : Nat} (h : ∀ x ∈ l, x ≤ m) : l.sum ≤ l.length * m := by
  induction l with
  | nil => exact Nat.zero_le _
  | cons a l ih =>
    have := ih fun x hx => h x (List.mem_cons_of_mem _ hx)
    have := h a List.mem_cons_self
    rw [List.sum_cons, List.length_cons, Nat.succ_mul]; omega
section
variable {P : Program} {w : World} {K : PySem.W.Frag} {mg : Str → Option Value} {base : Heap} {f : Addr} {fd : FuncData}
abbrev N_l_term : List Str := ["_law_tape_here", "_law_tongue_here", "_law_names", "_law_sort", "_law_deep", "_law_way", "_law_own", "_law_holes", "_law_forms", "_law_term_here", "_law_word", "_law_parts", "_law_its", "_law_form", "_law_hole_here", "_law_name", "_law_part_here"]
theorem sc_l_term : FnScope N_l_term ["_law_tape_here", "_law_tongue_here", "_law_names", "_law_sort", "_law_deep", "_law_way"] (defScope s_l_term) := ⟨rfl, rfl, rfl, by decide +kernel, rfl, by decide +kernel, by decide +kernel⟩
theorem ok_l_term {n : Nat} (F : Fun K "_law_term" "_law_term" s_l_term f fd) (B : Bt mg) (c_l_take : Cal P w K mg base 1 "_law_take" ["_law_tape_here", "_law_many"] spTake) (c_l_hole : Cal P w K mg base 2 "_law_hole" ["_law_tape_here", "_law_tongue_here", "_law_names", "_law_hole_here", "_law_deep", "_law_way"] spHole)
    (c_l_part : Cal P w K mg base (2 * n + 4) "_law_part" ["_law_tape_here", "_law_tongue_here", "_law_names", "_law_part_here", "_law_deep", "_law_way"] (spPart n)) : FnOk P w K mg base CX0 (2 * n + 5) f fd ["_law_tape_here", "_law_tongue_here", "_law_names", "_law_sort", "_law_deep", "_law_way"] (spTerm (n + 1)) := by
  refine F.ok sc_l_term (fun vs H Q E h => by obtain ⟨tp, nm, tg, s, d, way, c, T, kvs, ks, Γ, rfl, _⟩ := h; rfl) (fun cdv A outer s H vs Q E hr h => ?_)
  obtain ⟨tp, nm, tg, s0, d, way, c, T, kvs, ks, Γ, rfl, ht, hc, htg, hT, hn, hne, ⟨hk, hsep, hfew⟩, hs0, hdn, hd3, hway, q⟩ := h
  have hbig : big = 1000000000000 := rfl
  refine ⟨_, (pss_cons (ps_set (i := 6) sc_l_term.nd rfl (by first | exact Or.inl rfl | exact Or.inr rfl) (pe_callB (srtS (K := K) rfl) (by rfl) B.sorted bv_sorted (pa_cons (pe_lock (pe_lc (own := [("_law_name", 15), ("_law_its", 12)]) rfl sc_l_term.nd (pi_items (pv 2)) (blkOk_by (own := [("_law_name", 15), ("_law_its", 12)]) (N := N_l_term) (sc := defScope s_l_term) (by decide +kernel)) (fun _ _ _ _ _ => pgT (K := K) (n := 2) rfl rfl (pgs_cons (pg_name (i := 15) sc_l_term.nd rfl (by first | exact Or.inl rfl | exact Or.inr rfl)) (pgs_cons (pg_name (i := 12) sc_l_term.nd rfl (by first | exact Or.inl rfl | exact Or.inr rfl)) pgs_nil))) (fun _ _ _ _ _ => pts_one (pt_cmpR op_eq (pv 12) (pv 3) (nomark _))) (fun _ _ _ _ _ => pv 15))) pa_nil)))
  (pss_cons (ps_if (PW.pt (pw_and (pt_cmpR (neP (K := K) rfl hr.units) (pv 6) (pe_lst pa_nil) (nomark _)) (pw_and1 (pt_cmpR op_eq (pe_cal c_l_take (hr.mono (by omega)) (by rfl) (pa_cons (pv 0) (pa_cons (pe_int) pa_nil))) (pe_int) (nomark _))))) (pss_one (ps_ret (pe_tup (pa_cons (pe_str) (pa_cons (pe_ix (ixL (K := K) rfl) (pv 6) (pe_cal c_l_take (hr.mono (by omega)) (by rfl) (pa_cons (pv 0) (pa_cons (pe_callB (lenQ (K := K) rfl) (by rfl) B.len bv_len (pa_cons (pv 6) pa_nil)) pa_nil))) (fun _ _ => rfl)) pa_nil))))) pss_nil)
  (pss_cons (ps_set (i := 7) sc_l_term.nd rfl (by first | exact Or.inl rfl | exact Or.inr rfl) (pe_ifExp (PW.pt (pw_and (pt_cmpR op_gt (pv 5) (pe_int) (nomark _)) (pw_and1 (pt_cmpR op_eq (pe_cal c_l_take (hr.mono (by omega)) (by rfl) (pa_cons (pv 0) (pa_cons (pe_int) pa_nil))) (pe_int) (nomark _))))) (pe_lc (own := [("_law_hole_here", 14)]) rfl sc_l_term.nd (piT (K := K) rfl (pe_ix (ixT (K := K) rfl) (pv 1) (pe_int) (fun _ _ => rfl))) (blkOk_by (own := [("_law_hole_here", 14)]) (N := N_l_term) (sc := defScope s_l_term) (by decide +kernel)) (fun _ _ _ _ _ => pg_name (i := 14) sc_l_term.nd rfl (by first | exact Or.inl rfl | exact Or.inr rfl)) (fun _ _ _ _ _ => pts_one (pt_cmpR op_eq (pe_ix (ixT (K := K) rfl) (pv 14) (pe_int) (fun _ _ => rfl)) (pv 3) (nomark _))) (fun _ _ _ _ _ => pv 14)) (pe_lst pa_nil)))
  (pss_cons (ps_if (pt_cmpR (neP (K := K) rfl hr.units) (pv 7) (pe_lst pa_nil) (nomark _)) (pss_cons (ps_set (i := 9) sc_l_term.nd rfl (by first | exact Or.inl rfl | exact Or.inr rfl) (pe_cal c_l_hole (hr.mono (by omega)) (by rfl) (pa_cons (pv 0) (pa_cons (pv 1) (pa_cons (pv 2) (pa_cons (pe_ix (ixL (K := K) rfl) (pv 7) (pe_cal c_l_take (hr.mono (by omega)) (by rfl) (pa_cons (pv 0) (pa_cons (pe_callB (lenQ (K := K) rfl) (by rfl) B.len bv_len (pa_cons (pv 7) pa_nil)) pa_nil))) (fun _ _ => rfl)) (pa_cons (pv 4) (pa_cons (pv 5) pa_nil))))))))
  (pss_one (ps_if (pt_cmpR op_notN (pv 9) pe_non (nomark _)) (pss_one (ps_ret (pv 9))) pss_nil))) pss_nil)
  (pss_cons (ps_setLc (i := 8) (own := [("_law_form", 13)]) rfl sc_l_term.nd rfl rfl (sw_true rfl rfl rfl (by decide +kernel)) (piT (K := K) rfl (pe_ix (ixT (K := K) rfl) (pv 1) (pe_int) (fun _ _ => rfl))) (blkOk_by (own := [("_law_form", 13)]) (N := N_l_term) (sc := defScope s_l_term) (by decide +kernel)) (fun _ _ _ _ _ => pg_name (i := 13) sc_l_term.nd rfl (by first | exact Or.inl rfl | exact Or.inr rfl)) (fun _ _ _ _ _ => pts_one (PW.pt (pw_and (pt_cmpR op_eq (pe_ix (ixT (K := K) rfl) (pv 13) (pe_int) (fun _ _ => rfl)) (pv 3) (nomark _)) (pw_and1 (PW.pt (pw_or (pt_cmpR op_gt (pv 4) (pe_int) (nomark _)) (pw_or1 (pt_cmpR (eqP (K := K) rfl hr.units) (pe_ix (ixT (K := K) rfl) (pv 13) (pe_int) (fun _ _ => rfl)) (pe_tup pa_nil) (nomark _))))))))) (fun _ _ _ _ _ => pv 13))
  (pss_cons (ps_asg (pe_ix (ixL (K := K) rfl) (pv 8) (pe_cal c_l_take (hr.mono (by omega)) (by rfl) (pa_cons (pv 0) (pa_cons (pe_callB (lenQ (K := K) rfl) (by rfl) B.len bv_len (pa_cons (pv 8) pa_nil)) pa_nil))) (fun _ _ => rfl)) (pgT (K := K) (n := 3) rfl rfl (pgs_cons (pg_name (i := 10) sc_l_term.nd rfl (by first | exact Or.inl rfl | exact Or.inr rfl)) (pgs_cons (pg_name (i := 11) sc_l_term.nd rfl (by first | exact Or.inl rfl | exact Or.inr rfl)) (pgs_cons (pg_name (i := 12) sc_l_term.nd rfl (by first | exact Or.inl rfl | exact Or.inr rfl)) pgs_nil)))))
  (pss_one (ps_ret (pe_tup (pa_cons (pe_str) (pa_cons (pv 10) (pa_cons (pe_callTy (tupQ (K := K) rfl) (by rfl) B.tuple bv_tuple (pa_cons (pe_lc (own := [("_law_part_here", 16)]) rfl sc_l_term.nd (piT (K := K) rfl (pv 11)) (blkOk_by (own := [("_law_part_here", 16)]) (N := N_l_term) (sc := defScope s_l_term) (by decide +kernel)) (fun _ _ _ _ _ => pg_name (i := 16) sc_l_term.nd rfl (by first | exact Or.inl rfl | exact Or.inr rfl)) (fun _ _ _ _ _ => pts_nil) (fun _ _ _ _ _ => pe_cal c_l_part (hr.mono (by omega)) (by rfl) (pa_cons (pv 0) (pa_cons (pv 1) (pa_cons (pv 2) (pa_cons (pv 16) (pa_cons (pv 4) (pa_cons (pv 5) pa_nil)))))))) pa_nil)) pa_nil)))))))))))), ?_⟩
  have kl := hk.len
  have nT : nm ≠ tp := fun e => hne e.symm
  have hfl := hT.fl
  have hhl := hT.hl
  obtain ⟨ta, vf, vh, rfl, hta, hvf, hvh⟩ := dv_two.mp htg
  obtain ⟨fa, fvs, rfl, hfa, hfvs⟩ := dv_tup.mp hvf
  obtain ⟨ha, hvs, rfl, hha, hhvs⟩ := dv_tup.mp hvh
  have hfvl := hfvs.length
  rw [List.length_map] at hfvl
  have hhvl := hhvs.length
  rw [List.length_map] at hhvl
  -- the names of that sort
  refine ⟨nm, _, hn, True.intro, fun od => ?_⟩
  have eF : upd H nm (.frz od (.dK kvs)) nm = some (.frz od (.dK kvs)) := upd_same
  have unl := fun {H' : Hp} (l : Le0 (upd H nm (.frz od (.dK kvs))) H') => Le.unlock hn l
  generalize upd H nm (.frz od (.dK kvs)) = H3 at eF unl
  refine ⟨_, rfl, nm, od, kvs, rfl, eF, fun D2 hD2 => ?_⟩
  have nD2 : nm ≠ D2 := ne_of_none eF hD2
  refine lc_acc walk_items noM (fun i acc _ => ∃ ys : List Str, acc = ys.map V.str ∧ ys.length ≤ i ∧ ∀ y ∈ ys, Γ y = some s0) hD2 (fun _ z => z.elim) (smallL (by omega)) (fun i acc H H' _ _ _ h => h) ⟨[], rfl, Nat.le_refl _, fun _ z => nomatch z⟩ (fun i acc H' _ l _ => l.rest _ _ (fun z => z) eF)
    (fun j x acc2 H7 H8 hj l7 _ _ hP2 y2 k1 k0 hk1' hk0' => ?_) fun acc2 H7 l7 hacc7 _ hP2 => ?_
  · obtain ⟨ys, rfl, hyl, hyt⟩ := hP2
    obtain ⟨U, u1, u2, rfl, hU, rfl, f1, f2⟩ := y2
    obtain ⟨⟨k, v⟩, ek⟩ := get_ex (l := kvs) (i := j) hj
    obtain ⟨y, r', rfl, rfl, hy, _⟩ := hk.at ek
    simp only [ek, Option.map_some, Option.some.injEq] at f1 f2
    obtain rfl : V.str y = u1 := f1
    obtain rfl : V.int r' = u2 := f2
    have l8 : Le0 H7 (upd H7 U (.tup [.str y, .int r'])) := Le.new hU _
    refine ⟨U, _, rfl, SqT.of upd_same, rfl, _, _, rfl, _, _, rfl, rfl, rfl, ?_⟩
    refine ⟨_, rfl, _, rfl, rfl, _, rfl, ?_⟩
    by_cases hr' : r' = s0
    · refine ifT (by rw [hr']) ⟨_, rfl, hk1' _ _ l8 ⟨ys ++ [y], by rw [List.map_append]; rfl, by rw [List.length_append, List.length_singleton]; omega, fun z hz => ?_⟩⟩
      rcases List.mem_append.mp hz with hz | hz
      · exact hyt z hz
      · rw [List.mem_singleton] at hz; subst hz; rw [hy, hr']
    · refine ifF (fun z => hr' (by injection z)) ?_
      exact hk0' _ l8 ⟨ys, rfl, by omega, hyt⟩
  obtain ⟨ys, rfl, hyl, hyt⟩ := hP2
  refine ⟨l7.rest _ _ (fun z => z) eF, ?_⟩
  have l8 := unl l7
  have e8 : upd H7 nm (.dK kvs) D2 = some (.lst (ys.map V.str)) := by rw [upd_ne nD2.symm]; exact hacc7
  generalize upd H7 nm (.dK kvs) = H8 at l8 e8
  refine ⟨D2, ys, rfl, SqL.of e8, by omega, fun zs p hp _ hnp => ?_⟩
  have l9 : Le0 H8 (upd H8 p (.lst (zs.map V.str))) := Le.new hnp _
  have e9 : upd H8 p (.lst (zs.map V.str)) p = some (.lst (zs.map V.str)) := upd_same
  show gName _ _ _ _ _
  generalize upd H8 p (.lst (zs.map V.str)) = H9 at l9 e9
  have L9 : Le (atT tp) H H9 := (l8.trans l9).any
  have hT9 := ht.mono (l8.trans l9) (fun z => z) (Int.le_refl _)
  have hzl := hp.length_eq
  have hml : (zs.map V.str).length = zs.length := List.length_map _
  have pT : p ≠ tp := fun e => by obtain ⟨_, _, _, h, _⟩ := (ht.mono l8 (fun z => z) (Int.le_refl _)).ex; rw [e, h] at hnp; cases hnp
  clear hacc7 e8 unl eF hD2 nD2
  dsimp only [gName]
  show tSeq (tIfS ?t2 ?a2 ?b2) (tSeq ?s3 (tSeq (tIfS ?t4 ?a4 ?b4) ?r5)) ?D ?s H9
  -- a form
  have tail5 : ∀ (σ : L2.St) (H' : Hp), (∃ (x6 x7 x8 x9 x10 x11 x12 x13 x14 x15 x16 : Option V), σ = [some (.ref tp), some (.ref ta), some (.ref nm), some (.int s0), some (.int d), some (.int way), x6, x7, x8, x9, x10, x11, x12, x13, x14, x15, x16]) → Le (atT tp) H H' → Tape H' tp (c + 6) → ?r5 ?D σ H' := by
    rintro σ H1 ⟨x6, x7, x8, x9, x10, x11, x12, x13, x14, x15, x16, rfl⟩ l1 hT1
    have hta1 := l1.tup _ _ hta
    have hfa1 := l1.tup _ _ hfa
    refine ⟨_, rfl, ta, _, 0, _, rfl, rfl, SqT.of hta1, at0, fa, rfl, ⟨_, SqT.of hfa1⟩, fun D hD => ?_⟩
    refine lc_acc walk_tup noM (fun i acc H => ∃ fs : List (Str × List (List Int × Int) × Int), DvA H (fs.map formD) acc ∧ fs.length ≤ i ∧ (∀ r ∈ fs, r ∈ T.forms ∧ r.2.2 = s0 ∧ (0 < d ∨ r.2.1 = [])) ∧ ∀ r ∈ T.forms.take i, r.2.2 = s0 → r.2.1 = [] → r ∈ fs) hD (fun _ z => z.elim) (smallL (by omega))
      (fun i acc H H' _ t _ ⟨fs, h1, h2⟩ => ⟨fs, h1.mono t, h2⟩) ⟨[], .nil, Nat.le_refl _, fun _ z => (nomatch z), fun r z => (nomatch z)⟩ (fun i acc H' _ l _ => SqT.of (l.tup _ _ hfa1)) (fun i x acc2 H2 H3 hi l2 _ _ hP y k1 k0 hk1 hk0 => ?_) fun acc2 H2 l2 hacc2 _ hP => ?_
    · obtain ⟨fs, hfs, hfl2, hfs1, hfs2⟩ := hP
      obtain ⟨rfl, ex⟩ := y
      obtain ⟨dd, ed, hdd⟩ := (hfvs.mono (Tu.trans l1.tup l2.tup)).get' ex
      rw [List.getElem?_map] at ed
      obtain ⟨r, er, rfl⟩ := Option.map_eq_some_iff.mp ed
      obtain ⟨a1, x1, x2, x3, rfl, ha1, hx1, hx2, hx3⟩ := dv_three.mp hdd
      rw [dv_int] at hx3; subst hx3
      have tk : T.forms.take (i + 1) = T.forms.take i ++ [r] := by rw [List.take_add_one, er]; rfl
      have yes : ∀ {H4}, Le0 H3 H4 → (r.2.2 = s0 ∧ (0 < d ∨ r.2.1 = [])) → k1 (.ref a1) H4 := fun {H4} l hg => hk1 _ _ l ⟨fs ++ [r], by rw [List.map_append]; exact (hfs.mono l.tup).append (.cons (hdd.mono l.tup) .nil), by rw [List.length_append, List.length_singleton]; omega, fun r' hr' => by
          rcases List.mem_append.mp hr' with h | h
          · exact hfs1 r' h
          · rw [List.mem_singleton] at h; subst h; exact ⟨get_mem er, hg⟩, fun r' hr' h1 h2 => by
          rw [tk] at hr'
          rcases List.mem_append.mp hr' with h | h
          · exact List.mem_append_left _ (hfs2 r' h h1 h2)
          · exact List.mem_append_right _ h⟩
      have no : ∀ {H4}, Le0 H3 H4 → ¬ (r.2.2 = s0 ∧ r.2.1 = []) → k0 H4 := fun {H4} l hg => hk0 _ l ⟨fs, hfs.mono l.tup, by omega, hfs1, fun r' hr' h1 h2 => by
          rw [tk] at hr'
          rcases List.mem_append.mp hr' with h | h
          · exact hfs2 r' h h1 h2
          · rw [List.mem_singleton] at h; subst h; exact absurd ⟨h1, h2⟩ hg⟩
      refine ⟨rfl, ?_⟩
      refine ⟨_, rfl, a1, _, 2, _, rfl, rfl, SqT.of ha1, at2, _, rfl, rfl, _, rfl, ?_⟩
      by_cases hrs : r.2.2 = s0
      · refine ifT (by rw [hrs]) ?_
        refine ⟨_, rfl, _, _, rfl, rfl, _, rfl, ?_⟩
        by_cases hd : 0 < d
        · rw [show decide ((0 : Int) < ((d : Nat) : Int)) = true from decide_eq_true (by omega)]
          refine iteT ?_
          exact iteT ⟨_, rfl, yes (Le.refl _) ⟨hrs, .inl hd⟩⟩
        · rw [show decide ((0 : Int) < ((d : Nat) : Int)) = false from decide_eq_false (by omega)]
          refine iteF ?_
          refine ⟨_, rfl, a1, _, 1, _, rfl, rfl, SqT.of ha1, at1, z0, fun p1 hp1 => ?_⟩
          have l4 : Le0 H3 (upd H3 p1 (.tup [])) := Le.new hp1 _
          have d4 : Dv (upd H3 p1 (.tup [])) (.tuple []) (.ref p1) := Dv.mk hp1 .nil
          generalize upd H3 p1 (.tup []) = H4 at l4 d4
          refine ⟨.tuple (r.2.1.map partD), .tuple [], (hx2.mono l4.tup).dp, d4.dp, by rw [pd_tup, pdA_iff]; intro x hx; obtain ⟨y, _, rfl⟩ := List.mem_map.mp hx; exact pd_partD y, rfl,
            Nat.le_trans (depth_tup (n := 2) fun x hx => by obtain ⟨y, _, rfl⟩ := List.mem_map.mp hx; exact depth_two (n := 1) (depth_ints _) (by rw [depth_int]; omega)) (by decide), fun bo hbo => ⟨bo, rfl, ?_⟩⟩
          cases bo with
          | true =>
            refine iteT ⟨_, rfl, yes l4 ⟨hrs, .inr ?_⟩⟩
            have := hbo.mp rfl
            injection this with e
            exact List.map_eq_nil_iff.mp e
          | false => exact iteF (no l4 fun ⟨_, e⟩ => Bool.false_ne_true (hbo.mpr (by rw [e]; rfl)))
      · refine ifF (fun z => hrs (by injection z)) ?_
        exact no (Le.refl _) fun ⟨e, _⟩ => hrs e
    obtain ⟨fs, hfs, hfl2, hfs1, hfs2⟩ := hP
    have hfsl := hfs.length
    rw [List.length_map] at hfsl
    rw [hfvl, List.take_length] at hfs2
    have hpos : 0 < acc2.length := by
      obtain ⟨r, hr1, hr2, hr3⟩ := hT.base s0 hs0
      have := List.length_pos_of_mem (hfs2 r hr1 hr3 hr2)
      omega
    have DT : D ≠ tp := fun e => by obtain ⟨_, _, _, h, _⟩ := hT1.ex; rw [e, h] at hD; cases hD
    have L2 := l1.trans l2.any
    refine ⟨_, rfl, _, rfl, _, rfl, D, _, rfl, .inl (SqL.of hacc2), tp, _, _, rfl, hT1.mono l2 (fun z => z) (Int.le_refl _), by omega, by omega, by omega, fun k H3 hk0 hk1 l3 hT3 => ?_⟩
    have L3 := L2.trans l3
    obtain ⟨u, eu⟩ := get_ex (l := acc2) (i := k.toNat) (by omega)
    obtain ⟨dd, ed, hdd⟩ := (hfs.mono l3.tup).get' eu
    rw [List.getElem?_map] at ed
    obtain ⟨⟨fw, pts, fs0⟩, er, rfl⟩ := Option.map_eq_some_iff.mp ed
    obtain ⟨hm, hms, hmd⟩ := hfs1 _ (get_mem er)
    dsimp only at hms hmd
    subst hms
    obtain ⟨a1, x1, x2, x3, rfl, ha1, hx1, hx2, hx3⟩ := dv_three.mp hdd
    rw [dv_str] at hx1; subst hx1
    rw [dv_int] at hx3; subst hx3
    have hx2 : Dv H3 (.tuple (pts.map partD)) x2 := hx2
    obtain ⟨pa, pvs, rfl, hpa, hpvs⟩ := dv_tup.mp hx2
    have hpl := hpvs.length
    rw [List.length_map] at hpl
    refine ⟨D, _, k, .ref a1, rfl, rfl, SqL.of (l3.rest _ _ DT hacc2), ?_, ?_⟩
    · have := atI_nat (j := k.toNat) eu
      rw [show ((k.toNat : Nat) : Int) = k by omega] at this
      exact this
    refine ⟨a1, _, rfl, SqT.of ha1, rfl, _, _, rfl, _, _, rfl, _, _, rfl, rfl, ?_⟩
    have h3 := hT.parts _ hm
    have hsl := hT.slim _ hm
    have hbn := hT.bins _ hm
    dsimp only at h3 hsl hbn
    have hlk : T.forms.lookup fw = some (pts, fs0) := lookup_of_mem hT.fn hm
    refine ⟨_, rfl, _, rfl, pa, rfl, ⟨_, SqT.of hpa⟩, fun D3 hD3 => ?_⟩
    have tD3 : tp ≠ D3 := fun e => by obtain ⟨_, _, _, h, _⟩ := hT3.ex; rw [e, hD3] at h; cases h
    refine lc_acc walk_tup (atT tp) (fun i acc H => ∃ ps : List (List Str × Tm), DvA H (ps.map encP) acc ∧ ps.length = i ∧ (∀ (j : Nat) p q, ps[j]? = some p → pts[j]? = some q → p.1.length = q.1.length ∧ Ty T (bindG Γ p.1 q.1) p.2 q.2) ∧ (∀ p ∈ ps, p.1.Nodup ∧ 0 < d ∧ sz p.2 ≤ sb (d - 1) ∧ dp p.2 ≤ d + 1) ∧ Tape H tp (c + 7 + i * (9 + tb (d - 1))))
      hD3 (fun a e => by subst e; obtain ⟨_, _, _, h, _⟩ := hT3.ex; rw [h]; exact fun z => nomatch z) (smallL (by omega)) (fun i acc H H' _ t ne ⟨ps, h1, h2, h3, h4, a, b, c, h5, h6⟩ => ⟨ps, h1.mono t, h2, h3, h4, ⟨a, b, c, by rw [ne tp tD3]; exact h5, h6⟩⟩) ⟨[], .nil, rfl, fun j p q z => (by simp at z), fun p z => (nomatch z), hT3.up (by omega)⟩
      (fun i acc H' _ l _ => SqT.of (l.tup _ _ hpa)) (fun i x acc3 H4 H5 hi l4 _ _ hP y k1 k0 hk1 hk0 => ?_) fun acc3 H4 l4 hacc3 _ hP => ?_
    · obtain ⟨ps, hps, hpsl, hps1, hps2, hT4⟩ := hP
      obtain ⟨rfl, ex⟩ := y
      obtain ⟨dd, ed, hdd⟩ := (hpvs.mono l4.tup).get' ex
      rw [List.getElem?_map] at ed
      obtain ⟨⟨qs, q2⟩, er2, rfl⟩ := Option.map_eq_some_iff.mp ed
      have hd0 : 0 < d := by
        rcases hmd with h | h
        · exact h
        · rw [h] at er2; simp at er2
      obtain ⟨d', rfl⟩ : ∃ d', d = d' + 1 := ⟨d - 1, by omega⟩
      have LL := L3.trans l4
      have hqs := hsl _ (get_mem er2)
      have hi3 : i < 3 := by omega
      have htb : tb d' ≤ 1600 ∧ 0 ≤ tb d' := by
        have : d' = 0 ∨ d' = 1 ∨ d' = 2 := by omega
        rcases this with rfl | rfl | rfl <;> decide
      have hmul : (i : Int) * (9 + tb d') ≤ 2 * (9 + tb d') := Int.mul_le_mul_of_nonneg_right (by omega) (by omega)
      have htb' : tb (d' + 1 - 1) = tb d' := rfl
      rw [htb'] at hT4
      refine ⟨rfl, _, rfl, _, rfl, _, rfl, _, rfl, _, rfl, _, rfl, ?_⟩
      refine ⟨tp, nm, .ref ta, x, qs, q2, d', way, _, T, kvs, ks, Γ, rfl, hT4, by omega, htg.mono LL.tup, hT, hdd, hqs, LL.rest _ _ nT hn, hne, ⟨hk, hsep, hfew⟩, hbn _ (get_mem er2), by omega, by omega, hway, fun a bs t H6 l6 hv6 hbn6 hbl6 hty6 hsz6 hdp6 hT6 => ?_⟩
      refine hk1 _ _ l6 ⟨ps ++ [(bs, t)], by rw [List.map_append]; exact (hps.mono l6.tup).append (.cons hv6 .nil), by rw [List.length_append, hpsl]; rfl, fun j p q e1 e2 => ?_, fun p hp => ?_, hT6.up ?_⟩
      · by_cases hj : j < ps.length
        · rw [List.getElem?_append_left hj] at e1; exact hps1 j p q e1 e2
        · have hj2 : j = ps.length := by
            have := (List.getElem?_eq_some_iff.mp e1).1
            rw [List.length_append, List.length_singleton] at this; omega
          subst hj2
          rw [List.getElem?_append_right (Nat.le_refl _), Nat.sub_self] at e1
          simp at e1; subst e1
          rw [hpsl, er2] at e2
          obtain rfl := Option.some.inj e2
          exact ⟨hbl6, hty6⟩
      · rcases List.mem_append.mp hp with hp | hp
        · exact hps2 p hp
        · rw [List.mem_singleton] at hp; subst hp
          exact ⟨hbn6, hd0, hsz6, hdp6⟩
      · have e : ((i + 1 : Nat) : Int) = (i : Int) + 1 := by omega
        rw [e, Int.add_mul, Int.one_mul, htb']; omega
    · obtain ⟨ps, hps, hpsl, hps1, hps2, hT4⟩ := hP
      refine ⟨D3, _, rfl, SqL.of hacc3, fun p1 hp1 => ?_⟩
      have l5 : Le0 H4 (upd H4 p1 (.tup acc3)) := Le.new hp1 _
      have d5 : Dv (upd H4 p1 (.tup acc3)) (.tuple (ps.map encP)) (.ref p1) := Dv.mk hp1 hps
      generalize upd H4 p1 (.tup acc3) = H5 at l5 d5
      refine ⟨z3, fun p2 hp2 => ?_⟩
      have l6 : Le0 H5 (upd H5 p2 (.tup [.str "form", .str fw, .ref p1])) := Le.new hp2 _
      have hlen : ps.length = pts.length := by omega
      have hsum : (ps.map fun p => sz p.2).sum ≤ 3 * sb (d - 1) := by
        refine Nat.le_trans (sum_le_len (m := sb (d - 1)) fun x hx => ?_) ?_
        · obtain ⟨p, hp, rfl⟩ := List.mem_map.mp hx; exact (hps2 p hp).2.2.1
        · rw [List.length_map]; exact Nat.mul_le_mul_right _ (by omega)
      refine q (.ref p2) (.form fw ps) _ ((L3.trans l4).trans (l5.trans l6).any) ?_ (.form hlk hlen (fun j p q e1 e2 => (hps1 j p q e1 e2).1) (fun p hp => (hps2 p hp).1) fun j p q e1 e2 => (hps1 j p q e1 e2).2) ?_ ?_ ((hT4.mono (l5.trans l6) (fun z => z) (Int.le_refl _)).up ?_)
      · rw [encT_form]
        exact Dv.mk hp2 (.cons Dv.str (.cons Dv.str (.cons d5 .nil)))
      · rw [sz_form]
        cases d with
        | zero =>
          have : ps = [] := by
            cases ps with
            | nil => rfl
            | cons p ps => exact absurd (hps2 p List.mem_cons_self).2.1 (Nat.lt_irrefl _)
          subst this
          show 1 + 0 ≤ 4; omega
        | succ d => show 1 + _ ≤ 1 + 3 * sb d; exact Nat.add_le_add_left hsum 1
      · rw [dp_form]
        have : maxs (ps.map fun p => dp p.2) ≤ d + 1 := maxs_le fun x hx => by obtain ⟨p, hp, rfl⟩ := List.mem_map.mp hx; exact (hps2 p hp).2.2.2
        omega
      · rcases hmd with h | h
        · obtain ⟨d', rfl⟩ : ∃ d', d = d' + 1 := ⟨d - 1, by omega⟩
          have htb : tb (d' + 1 - 1) = tb d' := rfl
          rw [htb]
          have hmul : (pvs.length : Int) * (9 + tb d') ≤ 3 * (9 + tb d') := Int.mul_le_mul_of_nonneg_right (by omega) (by
            have : d' = 0 ∨ d' = 1 ∨ d' = 2 := by omega
            rcases this with rfl | rfl | rfl <;> decide)
          have : 7 + 3 * (9 + tb d') ≤ tb (d' + 1) := by
            have : d' = 0 ∨ d' = 1 ∨ d' = 2 := by omega
            rcases this with rfl | rfl | rfl <;> decide
          omega
        · subst h
          rw [show pvs.length = 0 from hpl]
          have : (7 : Int) ≤ tb d := by
            have : d = 0 ∨ d = 1 ∨ d = 2 ∨ d = 3 := by omega
            rcases this with rfl | rfl | rfl | rfl <;> decide
          omega
  have htb6 : (6 : Int) ≤ tb d := by
    have : d = 0 ∨ d = 1 ∨ d = 2 ∨ d = 3 := by omega
    rcases this with rfl | rfl | rfl | rfl <;> decide
  have hsb := sb_pos d
  -- a hole, if there is one
  have tail4 : ∀ (a : Addr) (hs : List (Str × List Int × Int)) (vs : List V) (σ : L2.St) (H' : Hp), (∃ (x6 x8 x9 x10 x11 x12 x13 x14 x15 x16 : Option V), σ = [some (.ref tp), some (.ref ta), some (.ref nm), some (.int s0), some (.int d), some (.int way), x6, some (.ref a), x8, x9, x10, x11, x12, x13, x14, x15, x16]) → H' a = some (.lst vs) → DvA H' (hs.map holeD) vs → (∀ r ∈ hs, r ∈ T.holes ∧ r.2.2 = s0) → hs.length ≤ 5 → a ≠ tp → Le (atT tp) H H' → Tape H' tp (c + 2) → tSeq (tIfS ?t4 ?a4 ?b4) ?r5 ?D σ H' := by
    rintro a hs vs σ H1 ⟨x6, x8, x9, x10, x11, x12, x13, x14, x15, x16, rfl⟩ ea hvs hhs hlen aT l1 hT1
    have hvl := hvs.length
    rw [List.length_map] at hvl
    refine ⟨_, rfl, z0, fun u0 hu0 => ?_⟩
    have l2 : Le0 H1 (upd H1 u0 (.lst [])) := Le.new hu0 _
    have e2 : upd H1 u0 (.lst []) u0 = some (.lst []) := upd_same
    show rNeP _ _ _ _ _
    generalize upd H1 u0 (.lst []) = H2 at l2 e2
    have ea2 := l2.rest _ _ (fun z => z) ea
    have hT2 := hT1.mono l2 (fun z => z) (Int.le_refl _)
    have L2 : Le (atT tp) H H2 := l1.trans l2.any
    refine ⟨.list (hs.map holeD), .list [], .lst (SqL.of ea2) (hvs.mono l2.tup).dp, .lst (SqL.of e2) .nil, by rw [pd_lst, pdA_iff]; intro x hx; obtain ⟨y, _, rfl⟩ := List.mem_map.mp hx; exact pd_holeD y, rfl, Nat.le_trans (depth_lst (n := 2) fun x hx => by obtain ⟨y, _, rfl⟩ := List.mem_map.mp hx; exact depth_holeD y) (by decide), fun bo hbo => ⟨bo, rfl, ?_⟩⟩
    cases bo with
    | false => exact iteF (tail5 _ _ ⟨_, _, _, _, _, _, _, _, _, _, _, rfl⟩ L2 (hT2.up (by omega)))
    | true =>
      refine iteT ?_
      have hpos : 0 < vs.length := by
        refine Nat.pos_of_ne_zero fun z => hbo.mp rfl ?_
        rw [List.eq_nil_of_length_eq_zero (by omega : hs.length = 0)]; rfl
      refine ⟨_, rfl, _, rfl, _, rfl, _, rfl, _, rfl, _, rfl, a, _, rfl, .inl (SqL.of ea2), tp, _, _, rfl, hT2, by omega, by omega, by omega, fun k H3 hk0 hk1 l3 hT3 => ?_⟩
      have L3 := L2.trans l3
      obtain ⟨u, eu⟩ := get_ex (l := vs) (i := k.toNat) (by omega)
      obtain ⟨dd, ed, hdd⟩ := (hvs.mono (Tu.trans l2.tup l3.tup)).get' eu
      rw [List.getElem?_map] at ed
      obtain ⟨⟨hw, hss, hs2⟩, er, rfl⟩ := Option.map_eq_some_iff.mp ed
      obtain ⟨hm, hms⟩ := hhs _ (get_mem er)
      dsimp only at hms
      subst hms
      have h3 := hT.hs _ hm
      refine ⟨a, _, k, u, rfl, rfl, SqL.of (l3.rest _ _ aT ea2), ?_, _, rfl, _, rfl, ?_⟩
      · have := atI_nat (j := k.toNat) eu
        rw [show ((k.toNat : Nat) : Int) = k by omega] at this
        exact this
      refine ⟨tp, nm, .ref ta, u, hw, hss, hs2, d, way, _, T, kvs, ks, Γ, rfl, hT3, by omega, hdd, lookup_of_mem hT.hn hm, h3, L3.rest _ _ nT hn, hne, hk, by omega, hway, fun H4 l4 hT4 => ?_, fun b xs H4 l4 hv4 hty4 hxl4 hT4 => ?_⟩
      · refine ⟨_, rfl, rfl, _, rfl, ?_⟩
        refine iteF ?_
        exact tail5 _ _ ⟨_, _, _, _, _, _, _, _, _, _, _, rfl⟩ (L3.trans l4) (hT4.up (by omega))
      · refine ⟨_, rfl, rfl, _, rfl, ?_⟩
        refine iteT ⟨_, rfl, q (.ref b) (.hole hw xs) H4 (L3.trans l4) hv4 hty4 ?_ ?_ (hT4.up (by omega))⟩
        · rw [sz_hole]; omega
        · rw [dp_hole]
          have : maxs (xs.map fun _ => 1) ≤ 1 := maxs_le fun x hx => by obtain ⟨_, _, rfl⟩ := List.mem_map.mp hx; exact Nat.le_refl _
          omega
  have tail3 : ∀ (σ : L2.St) (H' : Hp), (∃ (x6 x7 x8 x9 x10 x11 x12 x13 x14 x15 x16 : Option V), σ = [some (.ref tp), some (.ref ta), some (.ref nm), some (.int s0), some (.int d), some (.int way), x6, x7, x8, x9, x10, x11, x12, x13, x14, x15, x16]) → Le (atT tp) H H' → Tape H' tp (c + 1) → tSeq ?s3 (tSeq (tIfS ?t4 ?a4 ?b4) ?r5) ?D σ H' := by
    rintro σ H1 ⟨x6, x7, x8, x9, x10, x11, x12, x13, x14, x15, x16, rfl⟩ l1 hT1
    have none : ∀ H', Le (atT tp) H1 H' → Tape H' tp (c + 2) → ∀ u, H' u = Option.none → tSeq (tIfS ?t4 ?a4 ?b4) ?r5 ?D [some (.ref tp), some (.ref ta), some (.ref nm), some (.int s0), some (.int d), some (.int way), x6, some (.ref u), x8, x9, x10, x11, x12, x13, x14, x15, x16] (upd H' u (.lst [])) := fun H' l' hT' u hu => by
      have uT : u ≠ tp := fun e => by obtain ⟨_, _, _, h, _⟩ := hT'.ex; rw [e, h] at hu; cases hu
      exact tail4 u [] [] _ _ ⟨_, _, _, _, _, _, _, _, _, _, rfl⟩ upd_same .nil (fun _ z => nomatch z) (by decide) uT ((l1.trans l').trans (Le.new hu _)) (hT'.mono (Le.new (M := noM) hu _) (fun z => z) (Int.le_refl _))
    refine ⟨_, rfl, _, _, rfl, rfl, _, rfl, ?_⟩
    by_cases hw : (0 : Int) < way
    · refine ifT hw ?_
      refine ⟨_, rfl, tp, 3, _, rfl, hT1, by decide, by decide, by omega, fun k H2 hk0 hk1 l2 hT2 => ⟨rfl, _, rfl, ?_⟩⟩
      by_cases hk2 : V.int k = V.int 0
      · rw [decide_eq_true hk2]
        refine iteT ?_
        have L2 := l1.trans l2
        have hta2 := L2.tup _ _ hta
        have hha2 := L2.tup _ _ hha
        refine ⟨_, rfl, ta, _, 1, _, rfl, rfl, SqT.of hta2, at1, ha, rfl, ⟨_, SqT.of hha2⟩, fun D hD => ?_⟩
        refine lc_acc walk_tup noM (fun i acc H => ∃ hs : List (Str × List Int × Int), DvA H (hs.map holeD) acc ∧ hs.length ≤ i ∧ ∀ r ∈ hs, r ∈ T.holes ∧ r.2.2 = s0) hD (fun _ z => z.elim) (smallL (by omega))
          (fun i acc H H' _ t _ ⟨fs, h1, h2⟩ => ⟨fs, h1.mono t, h2⟩) ⟨[], .nil, Nat.le_refl _, fun _ z => (nomatch z)⟩ (fun i acc H' _ l _ => SqT.of (l.tup _ _ hha2)) (fun i x acc2 H30 H3 hi l3 _ _ hP y k1 k0 hk1 hk0 => ?_) fun acc2 H3 l3 hacc2 _ hP => ?_
        · obtain ⟨hs, hhs, hsl, hs1⟩ := hP
          obtain ⟨rfl, ex⟩ := y
          obtain ⟨dd, ed, hdd⟩ := (hhvs.mono (Tu.trans L2.tup l3.tup)).get' ex
          rw [List.getElem?_map] at ed
          obtain ⟨r, er, rfl⟩ := Option.map_eq_some_iff.mp ed
          obtain ⟨a1, x1, x2, x3, rfl, ha1, hx1, hx2, hx3⟩ := dv_three.mp hdd
          rw [dv_int] at hx3; subst hx3
          refine ⟨rfl, ?_⟩
          refine ⟨_, rfl, a1, _, 2, _, rfl, rfl, SqT.of ha1, at2, _, rfl, rfl, _, rfl, ?_⟩
          by_cases hrs : r.2.2 = s0
          · refine ifT (by rw [hrs]) ⟨_, rfl, hk1 _ _ (Le.refl _) ⟨hs ++ [r], by rw [List.map_append]; exact hhs.append (.cons hdd .nil), by rw [List.length_append, List.length_singleton]; omega, fun r' hr' => ?_⟩⟩
            rcases List.mem_append.mp hr' with h | h
            · exact hs1 r' h
            · rw [List.mem_singleton] at h; subst h; exact ⟨get_mem er, hrs⟩
          · exact ifF (fun z => hrs (by injection z)) (hk0 _ (Le.refl _) ⟨hs, hhs, by omega, hs1⟩)
        · obtain ⟨hs, hhs, hsl, hs1⟩ := hP
          have DT : D ≠ tp := fun e => by obtain ⟨_, _, _, h, _⟩ := hT2.ex; rw [e, h] at hD; cases hD
          exact tail4 D hs acc2 _ _ ⟨_, _, _, _, _, _, _, _, _, _, rfl⟩ hacc2 hhs hs1 (by omega) DT (L2.trans l3.any) (hT2.mono l3 (fun z => z) (by omega))
      · rw [decide_eq_false hk2]
        refine iteF ⟨z0, fun u hu => ?_⟩
        exact none H2 l2 (hT2.up (by omega)) u hu
    · refine ifF hw ⟨z0, fun u hu => ?_⟩
      exact none H1 (Le.refl _) (hT1.up (by omega)) u hu
  refine ⟨_, rfl, z0, fun u0 hu0 => ?_⟩
  have l10 : Le0 H9 (upd H9 u0 (.lst [])) := Le.new hu0 _
  have e10 : upd H9 u0 (.lst []) u0 = some (.lst []) := upd_same
  show rNeP _ _ _ _ _
  generalize upd H9 u0 (.lst []) = H10 at l10 e10
  have e910 := l10.rest _ _ (fun z => z) e9
  have hT10 := hT9.mono l10 (fun z => z) (Int.le_refl _)
  have L10 := L9.trans l10.any
  refine ⟨.list (zs.map strD), .list [], .lst (SqL.of e910) (dva_strs.mpr rfl).dp, .lst (SqL.of e10) .nil, by rw [pd_lst, ← pd_tup]; exact pd_strs zs, rfl, Nat.le_trans (depth_lst (n := 0) fun x hx => by obtain ⟨y, _, rfl⟩ := List.mem_map.mp hx; rw [depth_str]; exact Nat.le_refl _) (by decide), fun bo hbo => ⟨bo, rfl, ?_⟩⟩
  cases bo with
  | false => exact iteF (tail3 _ _ ⟨_, _, _, _, _, _, _, _, _, _, _, rfl⟩ L10 (hT10.up (by omega)))
  | true =>
    refine iteT ?_
    have hzs : 0 < zs.length := by
      refine Nat.pos_of_ne_zero fun z => hbo.mp rfl ?_
      rw [List.eq_nil_of_length_eq_zero z]; rfl
    refine ⟨_, rfl, tp, 3, _, rfl, hT10, by decide, by decide, by omega, fun k H11 hk0 hk1 l11 hT11 => ⟨rfl, _, rfl, ?_⟩⟩
    by_cases hk2 : V.int k = V.int 0
    · refine ifT hk2 ?_
      have e11 := l11.rest _ _ pT e910
      refine ⟨_, rfl, _, rfl, _, rfl, p, _, rfl, .inl (SqL.of e11), tp, _, _, rfl, hT11, by omega, by omega, by omega, fun j H12 hj0 hj1 l12 hT12 => ?_⟩
      obtain ⟨x, ex⟩ := get_ex (l := zs) (i := j.toNat) (by omega)
      have hx := hyt x (hp.mem_iff.mp (get_mem ex))
      refine ⟨p, _, j, .str x, rfl, rfl, SqL.of (l12.rest _ _ pT e11), ?_, z2, fun r1 hr1 => ?_⟩
      · have := atI_nat (xs := zs.map V.str) (j := j.toNat) (v := .str x) (by rw [List.getElem?_map, ex]; rfl)
        rw [show ((j.toNat : Nat) : Int) = j by omega] at this
        exact this
      refine q (.ref r1) (.name x) _ (((L10.trans l11).trans l12).trans (Le.new hr1 _)) ?_ (.name hx) ?_ ?_ ((hT12.mono (Le.new (M := noM) hr1 _) (fun z => z) (Int.le_refl _)).up (by omega))
      · rw [encT_name]; exact Dv.mk hr1 (.cons Dv.str (.cons Dv.str .nil))
      · rw [sz_name]; omega
      · rw [dp_name]; omega
    · refine ifF hk2 ?_
      exact tail3 _ _ ⟨_, _, _, _, _, _, _, _, _, _, _, rfl⟩ (L10.trans l11) (hT11.up (by omega))
end
end Nh
/-! ## NhL7 -/
set_option maxHeartbeats 8000000
namespace Nh
open PySem PySem.Spec PyProof.Rows L2
abbrev bodyD (r : List Str × Tm) : PyData := .tuple [strsD r.1, encT r.2]
structure RwAt (H : Hp) (rvs : List (Key × V)) (ρ : Rw) (b : Nat) : Prop where
  no : ∀ h, ρ h = none → valV rvs (Sum.inr h) = none
  yes : ∀ h r, ρ h = some r → (∃ v, valV rvs (Sum.inr h) = some v ∧ Dv H (bodyD r) v) ∧ Thin r.2 ∧ dp r.2 ≤ b ∧ sz r.2 ≤ 100 ∧ r.1.length ≤ 10
theorem RwAt.mono {H H' : Hp} {rvs : List (Key × V)} {ρ : Rw} {b : Nat} (h : RwAt H rvs ρ b) (t : Tu H H') : RwAt H' rvs ρ b :=
  ⟨h.no, fun x r e => let ⟨⟨v, e1, e2⟩, e3⟩ := h.yes x r e; ⟨⟨v, e1, e2.mono t⟩, e3⟩⟩
theorem RwAt.none {H : Hp} : RwAt H [] noRw 0 := ⟨fun _ _ => rfl, fun _ _ e => nomatch e⟩
/-- each hole takes as many names as its row -/
inductive HFit (ρ : Rw) : Tm → Prop
  | name {x : Str} : HFit ρ (.name x)
  | hole {h : Str} {xs : List Str} : (∀ r, ρ h = some r → r.1.length = xs.length) → HFit ρ (.hole h xs)
  | form {f : Str} {ps : List (List Str × Tm)} : (∀ p ∈ ps, HFit ρ p.2) → HFit ρ (.form f ps)
theorem HFit.no : ∀ t : Tm, HFit noRw t := Tm.ind (fun _ => .name) (fun _ _ => .hole fun _ e => nomatch e) fun _ _ ih => .form ih
theorem Ty.hfit {T : Tg} {ρ : Rw} (hρ : RwOk T ρ) {Γ : Ctx} {t : Tm} {s : Int} (h : Ty T Γ t s) : HFit ρ t := by
  induction h with
  | name _ => exact .name
  | hole h1 h2 h3 =>
    refine .hole fun r e => ?_
    rw [(hρ _ _ _ r.1 r.2 h1 e).1, figs_length]
    have := congrArg List.length h2
    simpa using this.symm
  | form h1 h2 h3 h4 h5 ih =>
    refine .form fun p hp => ?_
    obtain ⟨i, q, e1, e2⟩ := part_of h2 hp
    exact ih i p q e1 e2
def spGiven (n : Nat) : Sp := fun vs H Q _ => ∃ (v : V) (nm rw : Addr) (t : Tm) (kvs rvs : List (Key × V)) (ν : Str → Str) (ρ : Rw) (b lv : Nat), vs = [v, .ref nm, .ref rw, .int lv] ∧ Dv H (encT t) v ∧ H nm = some (.dK kvs) ∧ Names H kvs ν (free t) ∧ H rw = some (.dK rvs) ∧ RwAt H rvs ρ b ∧
  Thin t ∧ HFit ρ t ∧ dp t + b ≤ n ∧ lv + 3 * (dp t + b) ≤ 1000 ∧ sz t ≤ 1000 ∧ kvs.length + 3 * dp t ≤ 5000 ∧ ∀ v' H', Le0 H H' → Dv H' (encT (giv ρ ν lv t)) v' → Q v' H'
section
variable {P : Program} {w : World} {K : PySem.W.Frag} {mg : Str → Option Value} {base : Heap} {f : Addr} {fd : FuncData}
abbrev N_l_given : List Str := ["_law_term_here", "_law_names", "_law_rows_here", "_law_level", "_law_parts", "_law_taken", "_law_inner", "_law_worth", "_law_bound_here", "_law_body", "_law_own", "_law_called", "_law_one", "_law_k", "_law_name"]
theorem sc_l_given : FnScope N_l_given ["_law_term_here", "_law_names", "_law_rows_here", "_law_level"] (defScope s_l_given) := ⟨rfl, rfl, rfl, by decide +kernel, rfl, by decide +kernel, by decide +kernel⟩
theorem ok_l_given {n : Nat} (F : Fun K "_law_given" "_law_given" s_l_given f fd) (B : Bt mg) (c_l_given : Cal P w K mg base (n + 1) "_law_given" ["_law_term_here", "_law_names", "_law_rows_here", "_law_level"] (spGiven n)) :
    FnOk P w K mg base CX0 (n + 2) f fd ["_law_term_here", "_law_names", "_law_rows_here", "_law_level"] (spGiven (n + 1)) := by
  refine F.ok sc_l_given (fun vs H Q E h => by obtain ⟨v, nm, rw, t, kvs, rvs, ν, ρ, b, lv, rfl, _⟩ := h; rfl) (fun cdv A outer s H vs Q E hr h => ?_)
  obtain ⟨v, nm, rw', t, kvs, rvs, ν, ρ, b, lv, rfl, hv, hn, hN, hrw, hR, hthin, hfit, hd, hlv, hsz, hkl, q⟩ := h
  have hu := hu_of hr
  refine ⟨_, (pss_cons (ps_if (pt_cmpR op_eq (pe_ix (ixT (K := K) rfl) (pv 0) (pe_int) (fun _ _ => rfl)) (pe_str) (nomark _)) (pss_one (ps_ret (pe_dget2 hu (pv 1) (pe_ix (ixT (K := K) rfl) (pv 0) (pe_int) (fun _ _ => rfl)) (pv 0) ⟨rfl, rfl, rfl, rfl⟩))) pss_nil)
  (pss_cons (ps_if (pt_cmpR op_eq (pe_ix (ixT (K := K) rfl) (pv 0) (pe_int) (fun _ _ => rfl)) (pe_str) (nomark _)) (pss_cons (ps_set (i := 5) sc_l_given.nd rfl (by first | exact Or.inl rfl | exact Or.inr rfl) (pe_callTy (tupQ (K := K) rfl) (by rfl) B.tuple bv_tuple (pa_cons (pe_lc (own := [("_law_one", 12)]) rfl sc_l_given.nd (piT (K := K) rfl (pe_ix (ixT (K := K) rfl) (pv 0) (pe_int) (fun _ _ => rfl))) (blkOk_by (own := [("_law_one", 12)]) (N := N_l_given) (sc := defScope s_l_given) (by decide +kernel)) (fun _ _ _ _ _ => pg_name (i := 12) sc_l_given.nd rfl (by first | exact Or.inl rfl | exact Or.inr rfl)) (fun _ _ _ _ _ => pts_nil) (fun _ _ _ _ _ => pe_cal c_l_given (hr.mono (by omega)) (by rfl) (pa_cons (pv 12) (pa_cons (pv 1) (pa_cons (pv 2) (pa_cons (pv 3) pa_nil)))))) pa_nil)))
  (pss_cons (ps_if (pt_cmp (pc_dnotin hu (pe_ix (ixT (K := K) rfl) (pv 0) (pe_int) (fun _ _ => rfl)) (pv 2))) (pss_one (ps_ret (pe_tup (pa_cons (pe_str) (pa_cons (pe_ix (ixT (K := K) rfl) (pv 0) (pe_int) (fun _ _ => rfl)) (pa_cons (pv 5) pa_nil)))))) pss_nil)
  (pss_cons (ps_asg (pe_dget hu (pv 2) (pe_ix (ixT (K := K) rfl) (pv 0) (pe_int) (fun _ _ => rfl)) (fun _ _ => rfl)) (pgT (K := K) (n := 2) rfl rfl (pgs_cons (pg_name (i := 10) sc_l_given.nd rfl (by first | exact Or.inl rfl | exact Or.inr rfl)) (pgs_cons (pg_name (i := 9) sc_l_given.nd rfl (by first | exact Or.inl rfl | exact Or.inr rfl)) pgs_nil))))
  (pss_one (ps_ret (pe_cal c_l_given (hr.mono (by omega)) (by rfl) (pa_cons (pv 9) (pa_cons (pe_dictZip (by rfl) B.dict (by rfl) B.zip (pa_cons (pv 10) (pa_cons (pv 5) pa_nil))) (pa_cons (pe_dnewK) (pa_cons (pv 3) pa_nil)))))))))) pss_nil)
  (pss_cons (ps_if (pt_cmpR op_eq (pe_ix (ixT (K := K) rfl) (pv 0) (pe_int) (fun _ _ => rfl)) (pe_str) (nomark _)) pss_never pss_nil)
  (pss_cons (ps_set (i := 4) sc_l_given.nd rfl (by first | exact Or.inl rfl | exact Or.inr rfl) (pe_lst pa_nil))
  (pss_cons (ps_for PassesOwn.never rfl (piT (K := K) rfl (pe_ix (ixT (K := K) rfl) (pv 0) (pe_int) (fun _ _ => rfl))) (pgT (K := K) (n := 2) rfl rfl (pgs_cons (pg_name (i := 8) sc_l_given.nd rfl (by first | exact Or.inl rfl | exact Or.inr rfl)) (pgs_cons (pg_name (i := 9) sc_l_given.nd rfl (by first | exact Or.inl rfl | exact Or.inr rfl)) pgs_nil))) (pss_cons (ps_par (i := 6) (j := 11) rfl sc_l_given.nd rfl rfl (by decide) rfl rfl (pa_cons (pe_callTy call_dictD (by rfl) B.dict bv_dict (pa_cons (pv 1) pa_nil)) (pa_cons (pe_callTy (tupQ (K := K) rfl) (by rfl) B.tuple bv_tuple (pa_cons (pe_lc (own := [("_law_k", 13)]) rfl sc_l_given.nd (pi_range1 (by rfl) B.range (pa_cons (pe_callB (lenQ (K := K) rfl) (by rfl) B.len bv_len (pa_cons (pv 8) pa_nil)) pa_nil)) (blkOk_by (own := [("_law_k", 13)]) (N := N_l_given) (sc := defScope s_l_given) (by decide +kernel)) (fun _ _ _ _ _ => pg_name (i := 13) sc_l_given.nd rfl (by first | exact Or.inl rfl | exact Or.inr rfl)) (fun _ _ _ _ _ => pts_nil) (fun _ _ _ _ _ => pe_callTy call_str_int (by rfl) B.str bv_str (pa_cons (pe_op op_add (pv 3) (pv 13)) pa_nil))) pa_nil)) pa_nil)) (by rfl))
  (pss_cons (ps_expr (pe_bm PySem.F.plainAttrs_dict PySem.F.slot_dict_update PySem.F.type_dict_update (mt_upd rfl) (pv 6) (pa_cons (pe_callTy (dictP (K := K) rfl rfl) (by rfl) B.dict bv_dict (pa_cons (pe_lc (own := [("_law_name", 14), ("_law_one", 12)]) rfl sc_l_given.nd (zpQ (K := K) rfl (by rfl) B.zip (pa_cons (pv 8) (pa_cons (pv 11) pa_nil))) (blkOk_by (own := [("_law_name", 14), ("_law_one", 12)]) (N := N_l_given) (sc := defScope s_l_given) (by decide +kernel)) (fun _ _ _ _ _ => pgT (K := K) (n := 2) rfl rfl (pgs_cons (pg_name (i := 14) sc_l_given.nd rfl (by first | exact Or.inl rfl | exact Or.inr rfl)) (pgs_cons (pg_name (i := 12) sc_l_given.nd rfl (by first | exact Or.inl rfl | exact Or.inr rfl)) pgs_nil))) (fun _ _ _ _ _ => pts_nil) (fun _ _ _ _ _ => pe_tup (pa_cons (pv 14) (pa_cons (pe_tup (pa_cons (pe_str) (pa_cons (pv 12) pa_nil))) pa_nil)))) pa_nil)) pa_nil)))
  (pss_one (ps_expr (pe_bm PySem.F.plainAttrs_list PySem.F.slot_list_append PySem.F.type_list_append mt_append (pv 4) (pa_cons (pe_tup (pa_cons (pv 11) (pa_cons (pe_cal c_l_given (hr.mono (by omega)) (by rfl) (pa_cons (pv 9) (pa_cons (pv 6) (pa_cons (pv 2) (pa_cons (pe_op op_add (pv 3) (pe_callB (lenQ (K := K) rfl) (by rfl) B.len bv_len (pa_cons (pv 8) pa_nil))) pa_nil))))) pa_nil))) pa_nil)))))))
  (pss_one (ps_ret (pe_tup (pa_cons (pe_str) (pa_cons (pe_ix (ixT (K := K) rfl) (pv 0) (pe_int) (fun _ _ => rfl)) (pa_cons (pe_callTy (tupQ (K := K) rfl) (by rfl) B.tuple bv_tuple (pa_cons (pv 4) pa_nil)) pa_nil))))))))))), ?_⟩
  cases t with
  | name x =>
    obtain ⟨a, rfl, ha⟩ := dt_name.mp hv
    refine ⟨_, rfl, a, _, 0, _, rfl, rfl, SqT.of ha, at0, rfl, _, rfl, ifT rfl ?_⟩
    refine ⟨_, rfl, nm, rfl, .inl ⟨kvs, .inl hn⟩, _, rfl, a, _, 1, _, rfl, rfl, SqT.of ha, at1, _, rfl, ?_⟩
    rcases hN x (by rw [free_name]; exact List.mem_cons_self) with ⟨u, e1, e2⟩ | ⟨e1, e2⟩
    · exact ⟨some u, dget_str (.inl hn) e1, q u H (Le.refl _) (by rw [giv_name, encT_name]; exact e2)⟩
    · exact ⟨none, .inl ⟨kvs, Sum.inr x, .inl hn, rfl, e1.symm⟩, q _ H (Le.refl _) (by rw [giv_name, e2]; exact hv)⟩
  | hole h xs =>
    obtain ⟨a, bb, ws, rfl, ha, hb, hw⟩ := dt_hole.mp hv
    have hl := hw.length
    rw [List.length_map] at hl
    rw [sz_hole] at hsz
    refine ⟨_, rfl, a, _, 0, _, rfl, rfl, SqT.of ha, at0, rfl, _, rfl, ifF s_hn ?_⟩
    refine ⟨_, rfl, a, _, 0, _, rfl, rfl, SqT.of ha, at0, rfl, _, rfl, ifT rfl ?_⟩
    refine ⟨_, rfl, a, _, 2, _, rfl, rfl, SqT.of ha, at2, bb, rfl, ⟨_, SqT.of hb⟩, fun D hD => ?_⟩
    refine lc_map walk_tup ((xs.map ν).map nameD) hD (smallL (by omega)) (by simp [hl]) (fun H1 l => SqT.of (l.tup _ _ hb)) (fun i x d H1 H2 hi hdi l y k1 hk1 => ?_) fun acc H1 l hacc hds => ?_
    · obtain ⟨rfl, ex⟩ := y
      obtain ⟨z, c', ez, rfl, hc'⟩ := nm_at (hw.mono l.tup) ex
      have hz : z ∈ xs := get_mem ez
      have h1 : 2 ≤ dp (.hole h xs) := by
        rw [dp_hole]
        have : 1 ≤ maxs (xs.map fun _ => 1) := le_maxs (List.mem_map.mpr ⟨z, hz, rfl⟩)
        omega
      have hz1 : dp (.name z) = 1 := dp_name z
      have hz2 : sz (.name z) = 1 := sz_name z
      refine ⟨rfl, _, rfl, _, rfl, _, rfl, _, rfl, .ref c', nm, rw', .name z, kvs, rvs, ν, ρ, b, lv, rfl, dt_name.mpr ⟨c', rfl, hc'⟩, l.rest _ _ (fun z => z) hn, fun x hx => ?_, l.rest _ _ (fun z => z) hrw, hR.mono l.tup, .name, .name, by omega, by omega, by omega, by omega, fun v' H' l' hv' => hk1 _ _ l' ?_⟩
      · rw [free_name, List.mem_singleton] at hx
        subst hx
        exact (hN.mono l.tup) x (by rw [free_hole]; exact hz)
      · rw [List.getElem?_map, List.getElem?_map, ez] at hdi
        cases hdi
        rw [giv_name, encT_name] at hv'
        exact hv'
    refine ⟨D, acc, rfl, SqL.of hacc, fun p hp => ?_⟩
    have l2 : Le0 H (upd H1 p (.tup acc)) := l.trans (Le.new hp _)
    have e2 : upd H1 p (.tup acc) p = some (.tup acc) := upd_same
    have hds2 := hds.mono (Tu.new hp (.tup acc))
    show gName _ _ _ _ _
    generalize upd H1 p (.tup acc) = H2 at l2 e2 hds2
    have hrw2 := l2.rest _ _ (fun z => z) hrw
    have ha2 := l2.tup _ _ ha
    cases hρ : ρ h with
    | none =>
      refine ⟨_, rfl, a, _, 1, _, rfl, rfl, SqT.of ha2, at1, _, rfl, rw', none, rfl, .inl ⟨rvs, Sum.inr h, .inl hrw2, rfl, (hR.no h hρ).symm⟩, _, rfl, ?_⟩
      refine iteT ?_
      refine ⟨_, rfl, a, _, 1, _, rfl, rfl, SqT.of ha2, at1, _, rfl, z3, fun p2 hp2 => ?_⟩
      refine q _ _ (l2.trans (Le.new hp2 _)) ?_
      rw [giv_hole]
      unfold fill
      rw [hρ]
      show Dv _ (encT (.hole h (xs.map ν))) _
      rw [encT_hole]
      exact Dv.mk hp2 (.cons Dv.str (.cons Dv.str (.cons (Dv.tup e2 hds2) .nil)))
    | some r =>
      obtain ⟨⟨u, eu, du⟩, ht1, ht2, ht3, ht4⟩ := (hR.mono l2.tup).yes h r hρ
      refine ⟨_, rfl, a, _, 1, _, rfl, rfl, SqT.of ha2, at1, _, rfl, rw', some u, rfl, .inl ⟨rvs, Sum.inr h, .inl hrw2, rfl, eu.symm⟩, _, rfl, ?_⟩
      refine iteF ?_
      obtain ⟨own, body⟩ := r
      obtain ⟨a3, x1, x2, rfl, ha3, hx1, hx2⟩ := dv_two.mp du
      obtain ⟨oa, rfl, hoa⟩ := dv_strs.mp hx1
      refine ⟨_, rfl, _, rfl, a, _, 1, _, rfl, rfl, SqT.of ha2, at1, rw', _, rfl, dget_str (.inl hrw2) eu, ?_⟩
      refine ⟨a3, _, rfl, SqT.of ha3, rfl, _, _, rfl, _, _, rfl, rfl, ?_⟩
      have hol : own.length = xs.length := by
        cases hfit with
        | hole h => exact h _ hρ
      have kb : (own.map Sum.inr).map kV = own.map V.str := by rw [List.map_map]; rfl
      have hal := hds2.length
      rw [List.length_map, List.length_map] at hal
      refine ⟨_, rfl, _, rfl, _, rfl, oa, p, own.map Sum.inr, acc, rfl, .inr (SqT.of (by rw [kb]; exact hoa)), .inr (SqT.of e2), by rw [List.length_map]; omega, fun m hm => ?_⟩
      have epr : (own.map Sum.inr).zip acc = prs own acc := by
        unfold prs
        rw [List.zip_map_left]; rfl
      rw [epr]
      have l3 : Le0 H2 (upd H2 m (.dK (mergeK [] (prs own acc)))) := Le.new hm _
      have e3 : upd H2 m (.dK (mergeK [] (prs own acc))) m = some (.dK (mergeK [] (prs own acc))) := upd_same
      generalize upd H2 m (.dK (mergeK [] (prs own acc))) = H3 at l3 e3
      refine fun m2 hm2 => ?_
      have l4 : Le0 H3 (upd H3 m2 (.dK [])) := Le.new hm2 _
      have e4 : upd H3 m2 (.dK []) m2 = some (.dK []) := upd_same
      generalize upd H3 m2 (.dK []) = H4 at l4 e4
      have lpr : (prs own acc).length = own.length := prs_length (by omega)
      have lmr := length_mergeK (prs own acc) []
      rw [lpr, List.length_nil, Nat.zero_add] at lmr
      have hxn : xs = [] ∨ 2 ≤ dp (.hole h xs) := by
        cases xs with
        | nil => exact .inl rfl
        | cons y ys =>
          refine .inr ?_
          rw [dp_hole, List.map_cons]
          have : (1 : Nat) ≤ maxs (1 :: ys.map fun _ => 1) := le_maxs List.mem_cons_self
          omega
      have dpos := dp_pos (.hole h xs)
      have hN4 : Names H4 (mergeK [] (prs own acc)) (updF (fun x => x) (own.zip (xs.map ν))) (free body) := by
        have h0 : Names H4 [] (fun x => x) (free body) := fun x _ => .inr ⟨rfl, rfl⟩
        have := h0.bind (S' := free body) (bs := own) (cs := xs.map ν) (vs := acc) (by simp [hol]) (hds2.mono (Tu.trans l3.tup l4.tup)) (fun x hx => .inr hx)
        intro x hx
        have q := this x hx
        rw [merge_merge] at q
        exact q
      dsimp only at ht1 ht2 ht3 ht4
      refine ⟨_, rfl, x2, m, m2, body, mergeK [] (prs own acc), [], updF (fun x => x) (own.zip (xs.map ν)), noRw, 0, lv, rfl, hx2.mono (Tu.trans l3.tup l4.tup), l4.rest _ _ (fun z => z) e3, hN4, e4, RwAt.none, ht1, HFit.no body, by omega, by omega, by omega, by omega, fun v' H' l' hv' => ?_⟩
      refine q v' H' (((l2.trans l3).trans l4).trans l') ?_
      rw [giv_hole]
      unfold fill
      rw [hρ]
      rw [giv_no] at hv'
      exact hv'
  | form f1 ps =>
    obtain ⟨a, bb, ws, rfl, ha, hb, hw⟩ := dt_form.mp hv
    have hl := hw.length
    rw [List.length_map] at hl
    have hps := len_sz (f := f1) (ps := ps)
    refine ⟨_, rfl, a, _, 0, _, rfl, rfl, SqT.of ha, at0, rfl, _, rfl, ifF s_fn ?_⟩
    refine ⟨_, rfl, a, _, 0, _, rfl, rfl, SqT.of ha, at0, rfl, _, rfl, ifF s_fh ?_⟩
    refine ⟨_, rfl, a, _, 0, _, rfl, rfl, SqT.of ha, at0, rfl, _, rfl, ifF s_fl ?_⟩
    refine ⟨z0, fun D hD => ?_⟩
    have l1 : Le0 H (upd H D (.lst [])) := Le.new hD _
    have eD : upd H D (.lst []) D = some (.lst []) := upd_same
    have nD : nm ≠ D := ne_of_none hn hD
    have rD : rw' ≠ D := ne_of_none hrw hD
    generalize upd H D (.lst []) = H1 at l1 eD
    refine ⟨_, rfl, a, _, 2, _, rfl, rfl, SqT.of (l1.tup _ _ ha), at2, bb, rfl, ⟨_, SqT.of (l1.tup _ _ hb)⟩, ?_⟩
    refine for_it walk_tup (fun i σ H' => (∃ x5 x6 x7 x8 x9 x10 x11 x12 x13 x14, σ = [some (.ref a), some (.ref nm), some (.ref rw'), some (.int lv), some (.ref D), x5, x6, x7, x8, x9, x10, x11, x12, x13, x14]) ∧ Le (fun a => a = D) H1 H' ∧ ∃ vs, H' D = some (.lst vs) ∧ DvA H' (((ps.take i).map fun p => (figs lv p.1.length, giv ρ (bindN ν p.1 lv) (lv + p.1.length) p.2)).map encP) vs)
      ⟨⟨none, none, none, none, none, none, none, none, none, none, rfl⟩, Le.refl _, [], eD, .nil⟩ (fun i σ H' _ ⟨_, l, _⟩ => SqT.of (l.tup _ _ (l1.tup _ _ hb))) (fun i x σ H30 H3 hi hP y => ?_) fun σ H' hP => ?_
    · obtain ⟨⟨x5, x6, x7, x8, x9, x10, x11, x12, x13, x14, rfl⟩, l3, vs, e3, hvs⟩ := hP
      obtain ⟨rfl, ex⟩ := y
      have tt : Tu H H3 := Tu.trans l1.tup l3.tup
      obtain ⟨pp, a3, b3, y3, ep, rfl, ha3, hb3, hy3⟩ := part_at (hw.mono tt) ex
      have hmm := get_mem ep
      have d1 := dp_sub (f := f1) hmm
      have s1 := sz_sub (f := f1) hmm
      have hpl : pp.1.length ≤ 3 := by
        cases hthin with
        | form h1 h2 => exact h1 pp hmm
      have hpt : Thin pp.2 := by
        cases hthin with
        | form h1 h2 => exact h2 pp hmm
      have hpf : HFit ρ pp.2 := by
        cases hfit with
        | form h => exact h pp hmm
      have hn3 := l3.rest _ _ nD (l1.rest _ _ (fun z => z) hn)
      have hrw3 := l3.rest _ _ rD (l1.rest _ _ (fun z => z) hrw)
      have hlb : (pp.1.map V.str).length = pp.1.length := List.length_map _
      refine ⟨a3, _, rfl, SqT.of ha3, rfl, _, _, rfl, _, _, rfl, rfl, ?_⟩
      refine ⟨_, rfl, nm, kvs, rfl, .inl hn3, fun u hu => ?_⟩
      have l4 : Le0 H3 (upd H3 u (.dK kvs)) := Le.new hu _
      have e4 : upd H3 u (.dK kvs) u = some (.dK kvs) := upd_same
      have uD : D ≠ u := ne_of_none e3 hu
      generalize upd H3 u (.dK kvs) = H4 at l4 e4
      refine ⟨_, rfl, b3, _, rfl, .inr (SqT.of (l4.tup _ _ hb3)), ((pp.1.map V.str).length : Int), rfl, by omega, by omega, fun D5 hD5 => ?_⟩
      rw [Int.toNat_natCast, hlb]
      refine lc_map walk_range ((figs lv pp.1.length).map strD) hD5 (smallL (by omega)) (by simp [figs_length]) (fun _ _ => trivial) (fun j x d H1 H2 hi hdi l y k1 hk1 => ?_) fun acc H5 l5 hacc hds => ?_
      · obtain ⟨rfl, rfl⟩ := y
        refine ⟨rfl, _, rfl, _, rfl, _, _, rfl, rfl, _, rfl, nat_log (by omega) (by omega), hk1 _ _ (Le.refl _) ?_⟩
        rw [List.getElem?_map, figs_get hi] at hdi
        cases hdi
        rw [show (lv : Int) + (0 + (j : Int)) = ((lv + j : Nat) : Int) by omega]
        exact Dv.str
      rw [dva_strs] at hds
      subst hds
      refine ⟨D5, _, rfl, SqL.of hacc, fun o ho => ?_⟩
      have l6 : Le0 H4 (upd H5 o (.tup ((figs lv pp.1.length).map V.str))) := l5.trans (Le.new ho _)
      have e6 : upd H5 o (.tup ((figs lv pp.1.length).map V.str)) o = some (.tup ((figs lv pp.1.length).map V.str)) := upd_same
      generalize upd H5 o (.tup ((figs lv pp.1.length).map V.str)) = H6 at l6 e6
      have e46 := l6.rest _ _ (fun z => z) e4
      have hb6 := (l4.trans l6).tup _ _ hb3
      refine ⟨_, _, rfl, ?_⟩
      refine ⟨_, rfl, .inr (.inr (.inl ⟨rfl, .inl ⟨_, e46⟩⟩)), ?_⟩
      refine ⟨_, rfl, _, rfl, b3, o, _, _, rfl, .inr ⟨SqT.of hb6, SqT.of e6, fun D7 hD7 => ?_⟩⟩
      refine lc_map (walk_zipT (n := pp.1.length) hlb (by simp [figs_length])) ((pp.1.zip ((figs lv pp.1.length).map nameD)).map fun p => PyData.tuple [.str p.1, p.2]) hD7 (smallL (by omega)) (by simp [figs_length]) (fun H l => ⟨SqT.of (l.tup _ _ hb6), SqT.of (l.tup _ _ e6)⟩) (fun j x d H7 H8 hi hdi l y k1 hk1 => ?_) fun acc7 H7 l7 hacc7 hds7 => ?_
      · obtain ⟨T, x1, x2, rfl, hT, rfl, e1, e2⟩ := y
        obtain ⟨bx, hbx⟩ := get_ex (l := pp.1) hi
        simp only [List.getElem?_map, hbx, figs_get hi, Option.map_some, Option.some.injEq] at e1 e2
        subst e1 e2
        refine ⟨T, _, rfl, SqT.of upd_same, rfl, _, _, rfl, _, _, rfl, rfl, rfl, _, rfl, _, rfl, z2, fun p hp => ?_⟩
        have d9 : Dv (upd (upd H7 T (.tup [.str bx, .str (fig (lv + j))])) p (.tup [.str "name", .str (fig (lv + j))])) (nameD (fig (lv + j))) (.ref p) := Dv.mk hp (.cons Dv.str (.cons Dv.str .nil))
        refine ⟨z2, fun p2 hp2 => ?_⟩
        refine hk1 _ _ (((Le.new hT _).trans (Le.new hp _)).trans (Le.new hp2 _)) ?_
        have : d = .tuple [.str bx, nameD (fig (lv + j))] := by
          rw [List.getElem?_map] at hdi
          obtain ⟨pq, epp, rfl⟩ := Option.map_eq_some_iff.mp hdi
          rw [List.getElem?_zip_eq_some, hbx, List.getElem?_map, figs_get hi] at epp
          obtain ⟨z1, z2⟩ := epp
          rw [← Option.some.inj z1, ← Option.some.inj z2]
        rw [this]
        exact Dv.mk hp2 (.cons Dv.str (.cons d9 .nil))
      obtain ⟨as, ws2, rfl, la, lw, dw, pw⟩ := dv_prs (K := K) (by simp [figs_length]) hds7
      refine ⟨D7, as, _, rfl, SqL.of hacc7, pw, fun m hm => ?_⟩
      have l8 : Le0 H6 (upd H7 m (.dK (mergeK [] (prs pp.1 ws2)))) := l7.trans (Le.new hm _)
      have e8 : upd H7 m (.dK (mergeK [] (prs pp.1 ws2))) m = some (.dK (mergeK [] (prs pp.1 ws2))) := upd_same
      have mu : m ≠ u := fun e => by rw [e, l7.rest _ _ (fun z => z) e46] at hm; cases hm
      have dw8 := dw.mono (Tu.new hm (.dK (mergeK [] (prs pp.1 ws2))))
      generalize upd H7 m (.dK (mergeK [] (prs pp.1 ws2))) = H8 at l8 e8 dw8
      have e48 := l8.rest _ _ (fun z => z) e46
      have lpr : (prs pp.1 ws2).length = pp.1.length := prs_length lw.symm
      have lmr := length_mergeK (prs pp.1 ws2) []
      rw [lpr, List.length_nil, Nat.zero_add] at lmr
      have lm2 := length_mergeK (mergeK [] (prs pp.1 ws2)) kvs
      refine ⟨u, kvs, rfl, e48, .inl ⟨m, _, rfl, mu, .inl e8, small (by omega), ?_⟩⟩
      have l9 : Le0 H3 (upd H8 u (.dK (mergeK kvs (mergeK [] (prs pp.1 ws2))))) := (l4.trans (l6.trans l8)).chg hu _
      have e9 : upd H8 u (.dK (mergeK kvs (mergeK [] (prs pp.1 ws2)))) u = some (.dK (mergeK kvs (mergeK [] (prs pp.1 ws2)))) := upd_same
      have t89 : Tu H8 (upd H8 u (.dK (mergeK kvs (mergeK [] (prs pp.1 ws2))))) := Tu.upd e48 (fun _ e => nomatch e) _
      have dw9 := dw8.mono t89
      have eo9 := t89 _ _ (l8.tup _ _ e6)
      generalize upd H8 u (.dK (mergeK kvs (mergeK [] (prs pp.1 ws2)))) = H9 at l9 e9 dw9 eo9
      have L9 : Tu H H9 := Tu.trans tt l9.tup
      have e39 := l9.rest _ _ (fun z => z) e3
      have hv3 := hvs.mono l9.tup
      refine ⟨_, rfl, .inl ⟨rfl, _, SqL.of e39⟩, ?_⟩
      refine ⟨_, rfl, _, rfl, _, rfl, _, rfl, _, rfl, _, rfl, b3, _, rfl, .inr (SqT.of (l9.tup _ _ hb3)), _, _, rfl, rfl, ?_⟩
      refine ⟨y3, u, rw', pp.2, _, rvs, bindN ν pp.1 lv, ρ, b, lv + pp.1.length, (by show [y3, V.ref u, V.ref rw', V.int ((lv : Int) + ((pp.1.map V.str).length : Nat))] = _; rw [hlb]; rfl), hy3.mono l9.tup, e9, (hN.mono L9).bind (figs_length _ _).symm dw9 (free_part hmm), l9.rest _ _ (fun z => z) hrw3, hR.mono L9, hpt, hpf, by omega, by omega, by omega, by omega, fun v' H10 l10 hv' => ⟨z2, fun r hr' => ?_⟩⟩
      have l11 : Le0 H10 (upd H10 r (.tup [.ref o, v'])) := Le.new hr' _
      have d11 : Dv (upd H10 r (.tup [.ref o, v'])) (encP (figs lv pp.1.length, giv ρ (bindN ν pp.1 lv) (lv + pp.1.length) pp.2)) (.ref r) := Dv.mk hr' (.cons (dv_strs.mpr ⟨o, rfl, l10.tup _ _ eo9⟩) (.cons hv' .nil))
      generalize upd H10 r (.tup [.ref o, v']) = H11 at l11 d11
      have e311 := (l10.trans l11).rest _ _ (fun z => z) e39
      have hvl := hvs.length
      rw [List.length_map, List.length_map, List.length_take] at hvl
      refine ⟨D, vs, _, rfl, rfl, e311, smallL (by omega), ?_⟩
      have t12 : Tu H11 (upd H11 D (.lst (vs ++ [.ref r]))) := Tu.upd e311 (fun _ q => nomatch q) _
      refine ⟨⟨_, _, _, _, _, _, _, _, _, _, rfl⟩, (l3.trans ((l9.trans l10).trans l11).any).mut (p := D) rfl (fun xs e => by rw [e311] at e; cases e) _, _, upd_same, ?_⟩
      rw [List.take_add_one, ep, List.map_append, List.map_append]
      exact ((hv3.mono (Tu.trans l10.tup l11.tup)).mono t12).append (.cons (d11.mono t12) .nil)
    · obtain ⟨⟨x5, x6, x7, x8, x9, x10, x11, x12, x13, x14, rfl⟩, l3, vs, e3, hvs⟩ := hP
      rw [hl, List.take_length] at hvs
      have l30 := l1.back l3 hD
      refine ⟨_, rfl, a, _, 1, _, rfl, rfl, SqT.of (l30.tup _ _ ha), at1, _, rfl, D, vs, rfl, SqL.of e3, fun p hp => ⟨z3, fun p2 hp2 => ?_⟩⟩
      refine q _ _ ((l30.trans (Le.new hp _)).trans (Le.new hp2 _)) ?_
      rw [giv_form]
      exact dt_form.mpr ⟨p2, p, vs, rfl, upd_same, by rw [upd_ne (ne_of_none upd_same hp2)]; exact upd_same, (hvs.mono (Tu.new hp _)).mono (Tu.new hp2 _)⟩
end
end Nh
/-! ## NhL8 -/
set_option maxHeartbeats 8000000
namespace Nh
open PySem PySem.Spec PyProof.Rows L2
theorem Names.fresh {H : Hp} {bs cs : List Str} {vs : List V} (hl : bs.length = cs.length) (hv : DvA H (cs.map nameD) vs) (S : List Str) : Names H (mergeK [] (prs bs vs)) (updF (fun x => x) (bs.zip cs)) S := by
  have h0 : Names H [] (fun x => x) S := fun x _ => .inr ⟨rfl, rfl⟩
  have := h0.bind (S' := S) hl hv (fun x hx => .inr hx)
  intro x hx
  have q := this x hx
  rw [merge_merge] at q
  exact q
theorem len_fresh {bs : List Str} {vs : List V} (h : bs.length = vs.length) : (mergeK [] (prs bs vs)).length ≤ bs.length := by
  have := length_mergeK (prs bs vs) []
  rw [prs_length h, List.length_nil, Nat.zero_add] at this
  exact this
def spLNeat (K : PySem.W.Frag) : Sp := fun vs H Q _ => ∃ (l : Addr) (v : V) (bs : List Str) (t : Tm), vs = [.ref l, v] ∧ SqL K H l (bs.map V.str) ∧ (∀ H', Le0 H H' → SqL K H' l (bs.map V.str)) ∧ Dv H (encT t) v ∧ Thin t ∧ dp t ≤ 16 ∧ sz t ≤ 1000 ∧ bs.length ≤ 600 ∧ ∀ v' H', Le0 H H' → Dv H' (encT (neatT bs t)) v' → Q v' H'
/-- rows as the law makes them -/
abbrev Rws := List (Str × Nat × Tm)
abbrev rwOf (R : Rws) : Rw := fun h => (R.lookup h).map fun r => (figs 0 r.1, r.2)
def spMade : Sp := fun vs H Q _ => ∃ (v : V) (l : Addr) (t : Tm) (R : Rws) (ws : List V), vs = [v, .ref l] ∧ Dv H (encT t) v ∧ H l = some (.lst ws) ∧ DvA H (R.map rowD) ws ∧ (R.map (·.1)).Nodup ∧ R.length ≤ 10 ∧ (∀ r ∈ R, Thin r.2.2 ∧ dp r.2.2 ≤ 4 ∧ sz r.2.2 ≤ 100 ∧ r.2.1 ≤ 10) ∧ Thin t ∧ HFit (rwOf R) t ∧ dp t ≤ 12 ∧ sz t ≤ 1000 ∧
  ∀ v' H', Le0 H H' → Dv H' (encT (giv (rwOf R) (fun x => x) 100 t)) v' → Q v' H'
abbrev inS (bs : List Str) (t : Tm) : Tm := ren (updF (fun x => x) ((figs 0 bs.length).zip bs)) 100 t
def spInScope : Sp := fun vs H Q _ => ∃ (a : Addr) (v : V) (bs : List Str) (ss : List Int) (t : Tm), vs = [.ref a, v] ∧ Scp H a bs ss ∧ Dv H (encT t) v ∧ Thin t ∧ dp t ≤ 16 ∧ sz t ≤ 1000 ∧ bs.length ≤ 600 ∧ ∀ v' H', Le0 H H' → Dv H' (encT (inS bs t)) v' → Q v' H'
section
variable {P : Program} {w : World} {K : PySem.W.Frag} {mg : Str → Option Value} {base : Heap} {f : Addr} {fd : FuncData}
abbrev N_l_neat : List Str := ["_law_names", "_law_term_here", "_law_k", "_law_name"]
theorem sc_l_neat : FnScope N_l_neat ["_law_names", "_law_term_here"] (defScope s_l_neat) := ⟨rfl, rfl, rfl, by decide +kernel, rfl, by decide +kernel, by decide +kernel⟩
theorem ok_l_neat (F : Fun K "_law_neat" "_law_neat" s_l_neat f fd) (B : Bt mg) (c_l_given : Cal P w K mg base 17 "_law_given" ["_law_term_here", "_law_names", "_law_rows_here", "_law_level"] (spGiven 16)) : FnOk P w K mg base CX0 18 f fd ["_law_names", "_law_term_here"] (spLNeat K) := by
  refine F.ok sc_l_neat (fun vs H Q E h => by obtain ⟨l, v, bs, t, rfl, _⟩ := h; rfl) (fun cdv A outer s H vs Q E hr h => ?_)
  obtain ⟨l, v, bs, t, rfl, hl, hl2, hv, hthin, hd, hs, hb, q⟩ := h
  refine ⟨_, (pss_one (ps_ret (pe_cal c_l_given (hr.mono (by omega)) (by rfl) (pa_cons (pv 1) (pa_cons (pe_callTy (dictP (K := K) rfl rfl) (by rfl) B.dict bv_dict (pa_cons (pe_lc (own := [("_law_k", 2), ("_law_name", 3)]) rfl sc_l_neat.nd (enL (K := K) rfl (by rfl) B.enumerate (pa_cons (pv 0) pa_nil)) (blkOk_by (own := [("_law_k", 2), ("_law_name", 3)]) (N := N_l_neat) (sc := defScope s_l_neat) (by decide +kernel)) (fun _ _ _ _ _ => pgT (K := K) (n := 2) rfl rfl (pgs_cons (pg_name (i := 2) sc_l_neat.nd rfl (by first | exact Or.inl rfl | exact Or.inr rfl)) (pgs_cons (pg_name (i := 3) sc_l_neat.nd rfl (by first | exact Or.inl rfl | exact Or.inr rfl)) pgs_nil))) (fun _ _ _ _ _ => pts_nil) (fun _ _ _ _ _ => pe_tup (pa_cons (pv 3) (pa_cons (pe_tup (pa_cons (pe_str) (pa_cons (pe_callTy call_str_int (by rfl) B.str bv_str (pa_cons (pv 2) pa_nil)) pa_nil))) pa_nil)))) pa_nil)) (pa_cons (pe_dnewK) (pa_cons (pe_callB (lenQ (K := K) rfl) (by rfl) B.len bv_len (pa_cons (pv 0) pa_nil)) pa_nil))))))), ?_⟩
  have hlb : (bs.map V.str).length = bs.length := List.length_map _
  refine ⟨_, rfl, _, rfl, l, _, rfl, hl, fun D hD => ?_⟩
  refine lc_map walk_enum ((bs.zip ((figs 0 bs.length).map nameD)).map fun p => PyData.tuple [.str p.1, p.2]) hD (smallL (by omega)) (by simp [figs_length]) (fun H4 l => hl2 _ l) (fun i x d H4 H5 hi hdi l y k1 hk1 => ?_) fun acc H4 l4 hacc4 hds4 => ?_
  · obtain ⟨T, x1, x2, rfl, hT, rfl, e1, e2⟩ := y
    have hi' : i < bs.length := by omega
    obtain ⟨bb, hbb⟩ := get_ex (l := bs) hi'
    obtain rfl : V.int (i : Nat) = x1 := Option.some.inj e1
    simp only [List.getElem?_map, hbb, Option.map_some, Option.some.injEq] at e2
    subst e2
    refine ⟨T, _, rfl, SqT.of upd_same, rfl, _, _, rfl, _, _, rfl, rfl, rfl, _, rfl, _, rfl, _, rfl, nat_log (by omega) (by omega), z2, fun p hp => ?_⟩
    have d9 : Dv (upd (upd H4 T (.tup [.int (i : Nat), .str bb])) p (.tup [.str "name", .str (fig i)])) (nameD (fig i)) (.ref p) := Dv.mk hp (.cons Dv.str (.cons Dv.str .nil))
    refine ⟨z2, fun p2 hp2 => ?_⟩
    refine hk1 _ _ (((Le.new hT _).trans (Le.new hp _)).trans (Le.new hp2 _)) ?_
    have : d = .tuple [.str bb, nameD (fig i)] := by
      rw [List.getElem?_map] at hdi
      obtain ⟨pp, epp, rfl⟩ := Option.map_eq_some_iff.mp hdi
      rw [List.getElem?_zip_eq_some, hbb, List.getElem?_map, figs_get hi', Nat.zero_add] at epp
      obtain ⟨z1, z2⟩ := epp
      rw [← Option.some.inj z1, ← Option.some.inj z2]
    rw [this]
    exact Dv.mk hp2 (.cons Dv.str (.cons d9 .nil))
  obtain ⟨as, ws, rfl, la, lw, dw, pw⟩ := dv_prs (K := K) (by simp [figs_length]) hds4
  refine ⟨D, as, _, rfl, SqL.of hacc4, pw, fun m hm => ?_⟩
  have l5 : Le0 H (upd H4 m (.dK (mergeK [] (prs bs ws)))) := l4.trans (Le.new hm _)
  have e5 : upd H4 m (.dK (mergeK [] (prs bs ws))) m = some (.dK (mergeK [] (prs bs ws))) := upd_same
  have dw5 := dw.mono (Tu.new hm (.dK (mergeK [] (prs bs ws))))
  generalize upd H4 m (.dK (mergeK [] (prs bs ws))) = H5 at l5 e5 dw5
  refine fun m2 hm2 => ?_
  have l6 : Le0 H5 (upd H5 m2 (.dK [])) := Le.new hm2 _
  have e6 : upd H5 m2 (.dK []) m2 = some (.dK []) := upd_same
  generalize upd H5 m2 (.dK []) = H6 at l6 e6
  have lm := len_fresh (bs := bs) (vs := ws) lw.symm
  refine ⟨_, rfl, l, _, rfl, .inl (hl2 _ (l5.trans l6)), v, m, m2, t, mergeK [] (prs bs ws), [], bindN (fun x => x) bs 0, noRw, 0, bs.length, (by rw [hlb]; rfl), hv.mono (l5.trans l6).tup, l6.rest _ _ (fun z => z) e5, Names.fresh (figs_length _ _).symm (dw5.mono l6.tup) _, e6, RwAt.none, hthin, HFit.no t, by omega, by omega, hs, by omega, fun v' H' l' hv' => q v' H' ((l5.trans l6).trans l') ?_⟩
  rw [giv_no] at hv'
  exact hv'
abbrev N_l_in_scope : List Str := ["_law_scope_here", "_law_term_here", "_law_k", "_law_one"]
theorem sc_l_in_scope : FnScope N_l_in_scope ["_law_scope_here", "_law_term_here"] (defScope s_l_in_scope) := ⟨rfl, rfl, rfl, by decide +kernel, rfl, by decide +kernel, by decide +kernel⟩
theorem ok_l_in_scope (F : Fun K "_law_in_scope" "_law_in_scope" s_l_in_scope f fd) (B : Bt mg) (c_l_given : Cal P w K mg base 17 "_law_given" ["_law_term_here", "_law_names", "_law_rows_here", "_law_level"] (spGiven 16)) : FnOk P w K mg base CX0 18 f fd ["_law_scope_here", "_law_term_here"] spInScope := by
  refine F.ok sc_l_in_scope (fun vs H Q E h => by obtain ⟨a, v, bs, ss, t, rfl, _⟩ := h; rfl) (fun cdv A outer s H vs Q E hr h => ?_)
  obtain ⟨a, v, bs, ss, t, rfl, h0, hv, hthin, hd, hs, hb, q⟩ := h
  refine ⟨_, (pss_one (ps_ret (pe_cal c_l_given (hr.mono (by omega)) (by rfl) (pa_cons (pv 1) (pa_cons (pe_callTy (dictP (K := K) rfl rfl) (by rfl) B.dict bv_dict (pa_cons (pe_lc (own := [("_law_k", 2), ("_law_one", 3)]) rfl sc_l_in_scope.nd (enT (K := K) rfl (by rfl) B.enumerate (pa_cons (pv 0) pa_nil)) (blkOk_by (own := [("_law_k", 2), ("_law_one", 3)]) (N := N_l_in_scope) (sc := defScope s_l_in_scope) (by decide +kernel)) (fun _ _ _ _ _ => pgT (K := K) (n := 2) rfl rfl (pgs_cons (pg_name (i := 2) sc_l_in_scope.nd rfl (by first | exact Or.inl rfl | exact Or.inr rfl)) (pgs_cons (pg_name (i := 3) sc_l_in_scope.nd rfl (by first | exact Or.inl rfl | exact Or.inr rfl)) pgs_nil))) (fun _ _ _ _ _ => pts_nil) (fun _ _ _ _ _ => pe_tup (pa_cons (pe_callTy call_str_int (by rfl) B.str bv_str (pa_cons (pv 2) pa_nil)) (pa_cons (pe_tup (pa_cons (pe_str) (pa_cons (pe_ix (ixT (K := K) rfl) (pv 3) (pe_int) (fun _ _ => rfl)) pa_nil))) pa_nil)))) pa_nil)) (pa_cons (pe_dnewK) (pa_cons (pe_int) pa_nil))))))), ?_⟩
  obtain ⟨hbl, as0, ha0, hal0, hat⟩ := h0
  have rd0 : ∀ {H'}, Le0 H H' → Rd H' a (.tup (as0.map V.ref)) := fun l => by
    rcases ha0 with z | ⟨o, z⟩
    · exact .inl (l.rest _ _ (fun z => z) z)
    · exact .inr ⟨o, l.rest _ _ (fun z => z) z⟩
  have hml : (as0.map V.ref).length = as0.length := List.length_map _
  refine ⟨_, rfl, _, rfl, a, _, rfl, .inl ha0, fun D hD => ?_⟩
  refine lc_map walk_enumT (((figs 0 bs.length).zip (bs.map nameD)).map fun p => PyData.tuple [.str p.1, p.2]) hD (smallL (by omega)) (by simp [figs_length, hal0]) (fun H4 l => .inl (rd0 l)) (fun i x d H4 H5 hi hdi l y k1 hk1 => ?_) fun acc H4 l4 hacc4 hds4 => ?_
  · obtain ⟨T, x1, x2, rfl, hT, rfl, e1, e2⟩ := y
    have hi' : i < bs.length := by omega
    obtain rfl : V.int (i : Nat) = x1 := Option.some.inj e1
    have e2 : (as0.map V.ref)[i]? = some x2 := e2
    rw [List.getElem?_map] at e2
    obtain ⟨c, ec, rfl⟩ := Option.map_eq_some_iff.mp e2
    obtain ⟨bb, sr, hbb, es, hc⟩ := hat i c ec
    have hc5 : upd H4 T (.tup [.int (i : Nat), .ref c]) c = some (.tup [.str bb, .int sr]) := (Tu.new hT _) _ _ (l.tup _ _ hc)
    refine ⟨T, _, rfl, SqT.of upd_same, rfl, _, _, rfl, _, _, rfl, rfl, rfl, _, rfl, _, rfl, nat_log (by omega) (by omega), _, rfl, c, _, 0, _, rfl, rfl, SqT.of hc5, at0, z2, fun p hp => ?_⟩
    have d9 : Dv (upd (upd H4 T (.tup [.int (i : Nat), .ref c])) p (.tup [.str "name", .str bb])) (nameD bb) (.ref p) := Dv.mk hp (.cons Dv.str (.cons Dv.str .nil))
    refine ⟨z2, fun p2 hp2 => ?_⟩
    refine hk1 _ _ (((Le.new hT _).trans (Le.new hp _)).trans (Le.new hp2 _)) ?_
    have : d = .tuple [.str (fig i), nameD bb] := by
      rw [List.getElem?_map] at hdi
      obtain ⟨pp, epp, rfl⟩ := Option.map_eq_some_iff.mp hdi
      rw [List.getElem?_zip_eq_some, List.getElem?_map, hbb, figs_get hi', Nat.zero_add] at epp
      obtain ⟨z1, z2⟩ := epp
      rw [← Option.some.inj z1, ← Option.some.inj z2]
    rw [this]
    exact Dv.mk hp2 (.cons Dv.str (.cons d9 .nil))
  obtain ⟨as, ws, rfl, la, lw, dw, pw⟩ := dv_prs (K := K) (by simp [figs_length]) hds4
  rw [figs_length] at lw
  refine ⟨D, as, _, rfl, SqL.of hacc4, pw, fun m hm => ?_⟩
  have l5 : Le0 H (upd H4 m (.dK (mergeK [] (prs (figs 0 bs.length) ws)))) := l4.trans (Le.new hm _)
  have e5 : upd H4 m (.dK (mergeK [] (prs (figs 0 bs.length) ws))) m = some (.dK (mergeK [] (prs (figs 0 bs.length) ws))) := upd_same
  have dw5 := dw.mono (Tu.new hm (.dK (mergeK [] (prs (figs 0 bs.length) ws))))
  generalize upd H4 m (.dK (mergeK [] (prs (figs 0 bs.length) ws))) = H5 at l5 e5 dw5
  refine fun m2 hm2 => ?_
  have l6 : Le0 H5 (upd H5 m2 (.dK [])) := Le.new hm2 _
  have e6 : upd H5 m2 (.dK []) m2 = some (.dK []) := upd_same
  generalize upd H5 m2 (.dK []) = H6 at l6 e6
  have lm := len_fresh (bs := figs 0 bs.length) (vs := ws) (by rw [figs_length, lw])
  rw [figs_length] at lm
  refine ⟨v, m, m2, t, mergeK [] (prs (figs 0 bs.length) ws), [], updF (fun x => x) ((figs 0 bs.length).zip bs), noRw, 0, 100, rfl, hv.mono (l5.trans l6).tup, l6.rest _ _ (fun z => z) e5, Names.fresh (figs_length _ _) (dw5.mono l6.tup) _, e6, RwAt.none, hthin, HFit.no t, by omega, by omega, hs, by omega, fun v' H' l' hv' => q v' H' ((l5.trans l6).trans l') ?_⟩
  rw [giv_no] at hv'
  exact hv'
abbrev N_l_made : List Str := ["_law_term_here", "_law_rows_here", "_law_h", "_law_names", "_law_body"]
theorem sc_l_made : FnScope N_l_made ["_law_term_here", "_law_rows_here"] (defScope s_l_made) := ⟨rfl, rfl, rfl, by decide +kernel, rfl, by decide +kernel, by decide +kernel⟩
theorem ok_l_made (F : Fun K "_law_made" "_law_made" s_l_made f fd) (B : Bt mg) (c_l_given : Cal P w K mg base 17 "_law_given" ["_law_term_here", "_law_names", "_law_rows_here", "_law_level"] (spGiven 16)) : FnOk P w K mg base CX0 18 f fd ["_law_term_here", "_law_rows_here"] spMade := by
  refine F.ok sc_l_made (fun vs H Q E h => by obtain ⟨v, l, t, R, ws, rfl, _⟩ := h; rfl) (fun cdv A outer s H vs Q E hr h => ?_)
  obtain ⟨v, l, t, R, ws, rfl, hv, hl, hR, hnd, hRl, hRs, hthin, hfit, hd, hs, q⟩ := h
  refine ⟨_, (pss_one (ps_ret (pe_cal c_l_given (hr.mono (by omega)) (by rfl) (pa_cons (pv 0) (pa_cons (pe_dnewK) (pa_cons (pe_callTy (dictP (K := K) rfl rfl) (by rfl) B.dict bv_dict (pa_cons (pe_lc (own := [("_law_h", 2), ("_law_names", 3), ("_law_body", 4)]) rfl sc_l_made.nd (piL (K := K) rfl (pv 1)) (blkOk_by (own := [("_law_h", 2), ("_law_names", 3), ("_law_body", 4)]) (N := N_l_made) (sc := defScope s_l_made) (by decide +kernel)) (fun _ _ _ _ _ => pgT (K := K) (n := 3) rfl rfl (pgs_cons (pg_name (i := 2) sc_l_made.nd rfl (by first | exact Or.inl rfl | exact Or.inr rfl)) (pgs_cons (pg_name (i := 3) sc_l_made.nd rfl (by first | exact Or.inl rfl | exact Or.inr rfl)) (pgs_cons (pg_name (i := 4) sc_l_made.nd rfl (by first | exact Or.inl rfl | exact Or.inr rfl)) pgs_nil)))) (fun _ _ _ _ _ => pts_nil) (fun _ _ _ _ _ => pe_tup (pa_cons (pv 2) (pa_cons (pe_tup (pa_cons (pv 3) (pa_cons (pv 4) pa_nil))) pa_nil)))) pa_nil)) (pa_cons (pe_int) pa_nil))))))), ?_⟩
  have hwl := hR.length
  rw [List.length_map] at hwl
  refine ⟨_, rfl, fun m0 hm0 => ?_⟩
  have l1 : Le0 H (upd H m0 (.dK [])) := Le.new hm0 _
  have e1 : upd H m0 (.dK []) m0 = some (.dK []) := upd_same
  generalize upd H m0 (.dK []) = H1 at l1 e1
  have hl1 := l1.rest _ _ (fun z => z) hl
  refine ⟨_, rfl, l, rfl, ⟨_, SqL.of hl1⟩, fun D hD => ?_⟩
  refine lc_map walk_list (((R.map (·.1)).zip (R.map fun r => bodyD (figs 0 r.2.1, r.2.2))).map fun p => PyData.tuple [.str p.1, p.2]) hD (smallL (by omega)) (by simp [hwl]) (fun H4 l => SqL.of (l.rest _ _ (fun z => z) hl1)) (fun i x d H40 H4 hi hdi l y k1 hk1 => ?_) fun acc H4 l4 hacc4 hds4 => ?_
  · obtain ⟨rfl, ex⟩ := y
    obtain ⟨dd, ed, hdd⟩ := (hR.mono (Tu.trans l1.tup l.tup)).get' ex
    rw [List.getElem?_map] at ed
    obtain ⟨r, er, rfl⟩ := Option.map_eq_some_iff.mp ed
    obtain ⟨a1, x1, x2, x3, rfl, ha1, hx1, hx2, hx3⟩ := dv_three.mp hdd
    rw [dv_str] at hx1; subst hx1
    refine ⟨a1, _, rfl, SqT.of ha1, rfl, _, _, rfl, _, _, rfl, _, _, rfl, rfl, rfl, _, rfl, _, rfl, _, rfl, z2, fun p hp => ?_⟩
    have d9 : Dv (upd H4 p (.tup [x2, x3])) (bodyD (figs 0 r.2.1, r.2.2)) (.ref p) := Dv.mk hp (.cons hx2 (.cons hx3 .nil))
    refine ⟨z2, fun p2 hp2 => ?_⟩
    refine hk1 _ _ ((Le.new hp _).trans (Le.new hp2 _)) ?_
    have : d = .tuple [.str r.1, bodyD (figs 0 r.2.1, r.2.2)] := by
      rw [List.getElem?_map] at hdi
      obtain ⟨pp, epp, rfl⟩ := Option.map_eq_some_iff.mp hdi
      rw [List.getElem?_zip_eq_some, List.getElem?_map, List.getElem?_map, er] at epp
      obtain ⟨z1, z2⟩ := epp
      rw [← Option.some.inj z1, ← Option.some.inj z2]
    rw [this]
    exact Dv.mk hp2 (.cons Dv.str (.cons d9 .nil))
  obtain ⟨as, us, rfl, la, lu, dw, pw⟩ := dv_prs (K := K) (by simp) hds4
  rw [List.length_map] at lu
  refine ⟨D, as, _, rfl, SqL.of hacc4, pw, fun m hm => ?_⟩
  have l5 : Le0 H1 (upd H4 m (.dK (mergeK [] (prs (R.map (·.1)) us)))) := l4.trans (Le.new hm _)
  have e5 : upd H4 m (.dK (mergeK [] (prs (R.map (·.1)) us))) m = some (.dK (mergeK [] (prs (R.map (·.1)) us))) := upd_same
  have dw5 := dw.mono (Tu.new hm (.dK (mergeK [] (prs (R.map (·.1)) us))))
  generalize upd H4 m (.dK (mergeK [] (prs (R.map (·.1)) us))) = H5 at l5 e5 dw5
  have hval : ∀ h, valV (mergeK [] (prs (R.map (·.1)) us)) (Sum.inr h) = updF (fun x => none) ((R.map (·.1)).zip (us.map some)) h := fun h => valV_prs _ _ [] h
  have hRw : RwAt H5 (mergeK [] (prs (R.map (·.1)) us)) (rwOf R) 4 := by
    refine ⟨fun h e => ?_, fun h r e => ?_⟩
    · rw [hval, updZ_notin (by simp [lu]) fun z => ?_]
      obtain ⟨r, er⟩ := lookup_ex z
      rw [show rwOf R h = (R.lookup h).map _ from rfl, er] at e; cases e
    · obtain ⟨r0, er, rfl⟩ := Option.map_eq_some_iff.mp (show (R.lookup h).map _ = some r from e)
      have hm := lookup_mem er
      obtain ⟨i, hi, ei⟩ := mem_get hm
      obtain ⟨u, eu⟩ := get_ex (l := us) (i := i) (by omega)
      obtain ⟨d, ed, hdd⟩ := dw5.get' eu
      rw [List.getElem?_map, ei] at ed
      cases ed
      obtain ⟨h1, h2, h3, h4⟩ := hRs _ hm
      refine ⟨⟨u, ?_, hdd⟩, h1, h2, h3, by rw [figs_length]; exact h4⟩
      rw [hval]
      exact updZ_get (i := i) (by simp [lu]) hnd (by rw [List.getElem?_map, ei]; rfl) (by rw [List.getElem?_map, eu]; rfl)
  have h0 : Names H5 [] (fun x => x) (free t) := fun x _ => .inr ⟨rfl, rfl⟩
  exact ⟨v, m0, m, t, [], mergeK [] (prs (R.map (·.1)) us), (fun x => x), rwOf R, 4, 100, rfl, hv.mono (Tu.trans l1.tup l5.tup), l5.rest _ _ (fun z => z) e1, h0, e5, hRw, hthin, hfit, by omega, by omega, hs, by show 0 + _ ≤ 5000; omega, fun v' H' l' hv' => q v' H' ((l1.trans l5).trans l') hv'⟩
end
end Nh
/-! ## NhL9 -/
set_option maxHeartbeats 8000000
namespace Nh
open PySem PySem.Spec PyProof.Rows L2
/-! ### names of a scope -/
structure ScN (bs : List Str) : Prop where
  nd : bs.Nodup
  nf : ∀ b ∈ bs, ∀ m, 6 ≤ m → b ≠ fig m
theorem scN_of {bs ws : List Str} (hw : Wds ws 6) (hl : bs.length ≤ 6) (h : ∀ (j : Nat) b, bs[j]? = some b → ws[j]? = some b ∨ b = fig ((5 * j + 2) % 6)) : ScN bs := by
  refine ⟨?_, fun b hb m hm e => ?_⟩
  · refine List.pairwise_iff_getElem.mpr fun i j hi hj hij e0 => ?_
    have e : bs[i]? = some bs[j] := by rw [List.getElem?_eq_getElem hi, e0]
    have eb : bs[j]? = some bs[j] := List.getElem?_eq_getElem hj
    rcases h i _ e with h1 | h1 <;> rcases h j _ eb with h2 | h2
    · obtain ⟨k1, e1⟩ := List.getElem?_eq_some_iff.mp h1
      obtain ⟨k2, e2⟩ := List.getElem?_eq_some_iff.mp h2
      have := (List.getElem_inj hw.nd).mp (e1.trans e2.symm)
      omega
    · exact (hw.wd _ (get_mem h1)).ne_fig _ h2
    · exact (hw.wd _ (get_mem h2)).ne_fig _ h1
    · have := fig_inj (h1.symm.trans h2); omega
  · obtain ⟨j, hj, eb⟩ := mem_get hb
    rcases h j b eb with h1 | h1
    · exact (hw.wd b (get_mem h1)).ne_fig _ e
    · have := fig_inj (h1.symm.trans e); omega
theorem in_cond {bs : List Str} {ss : List Int} (h : ScN bs) (hl : bs.length = ss.length) : Cond (figG ss) (updF (fun x => x) ((figs 0 bs.length).zip bs)) 100 (bindG noG bs ss) := by
  have at_ : ∀ {i : Nat} {b : Str}, bs[i]? = some b → updF (fun x => x) ((figs 0 bs.length).zip bs) (fig i) = b := fun {i b} e => by
    refine updZ_get (figs_length _ _) (figs_nodup _ _) (i := i) ?_ e
    rw [figs_get (List.getElem?_eq_some_iff.mp e).1, Nat.zero_add]
  refine ⟨fun x r hx => ?_, fun x y r q hx hy e => ?_, fun x r hx m hm => ?_⟩
  · obtain ⟨i, hi, rfl, er⟩ := figG_get hx
    obtain ⟨b, eb⟩ := get_ex (l := bs) (i := i) (by omega)
    rw [at_ eb]
    exact bindG_get hl h.nd eb er
  · obtain ⟨i, hi, rfl, er⟩ := figG_get hx
    obtain ⟨j, hj, rfl, eq⟩ := figG_get hy
    obtain ⟨b, eb⟩ := get_ex (l := bs) (i := i) (by omega)
    obtain ⟨b', eb'⟩ := get_ex (l := bs) (i := j) (by omega)
    rw [at_ eb, at_ eb'] at e
    subst e
    obtain ⟨h1, e1⟩ := List.getElem?_eq_some_iff.mp eb
    obtain ⟨h2, e2⟩ := List.getElem?_eq_some_iff.mp eb'
    rw [(List.getElem_inj h.nd).mp (e1.trans e2.symm)]
  · obtain ⟨i, hi, rfl, er⟩ := figG_get hx
    obtain ⟨b, eb⟩ := get_ex (l := bs) (i := i) (by omega)
    rw [at_ eb]
    exact h.nf b (get_mem eb) m (by omega)
theorem neat_in_same {bs : List Str} {p : Tm} (h : ScN bs) (hp : Nt bs.length p) : neatT bs (inS bs p) = p := by
  have at_ : ∀ {i : Nat} {b : Str}, bs[i]? = some b → updF (fun x => x) ((figs 0 bs.length).zip bs) (fig i) = b := fun {i b} e => by
    refine updZ_get (figs_length _ _) (figs_nodup _ _) (i := i) ?_ e
    rw [figs_get (List.getElem?_eq_some_iff.mp e).1, Nat.zero_add]
  refine rt hp _ _ _ (fun k hk => ?_) (fun k hk m hm => ?_)
  · obtain ⟨b, eb⟩ := get_ex (l := bs) (i := k) hk
    rw [at_ eb]
    exact bindN_at h.nd eb
  · obtain ⟨b, eb⟩ := get_ex (l := bs) (i := k) hk
    rw [at_ eb]
    exact h.nf b (get_mem eb) m (by omega)
theorem q_of {T : Tg} {bs : List Str} {ss : List Int} {p : Tm} {s : Int} (h : ScN bs) (hl : bs.length = ss.length) (hf : ss.length ≤ 10) (hty : Ty T (figG ss) p s) (hd : dp p ≤ 16) (hs : sz p ≤ 1000) : QOk T bs ss (inS bs p) s :=
  ⟨h.nd, hl, hf, ty_ren hty _ _ _ (in_cond h hl), by unfold inS; rw [dp_ren]; exact hd, by unfold inS; rw [sz_ren]; exact hs⟩
def spScopeOf : Sp := fun vs H Q _ => ∃ (tp : Addr) (v : V) (ss : List Int) (c : Int), vs = [.ref tp, v] ∧ Tape H tp c ∧ c + 200 ≤ big ∧ Dv H (intsD ss) v ∧ ss.length ≤ 6 ∧ ∀ a bs H', Le (atT tp) H H' → H a = none → FScp H' a bs ss → ScN bs → Tape H' tp (c + 30) → Q (.ref a) H'
/-! ### rows -/
structure RowsOk (T : Tg) (R : Rws) : Prop where
  nd : (R.map (·.1)).Nodup
  len : R.length ≤ 5
  row : ∀ r ∈ R, ∃ ss s, T.holes.lookup r.1 = some (ss, s) ∧ r.2.1 = ss.length ∧ ss.length ≤ 3 ∧ Ty T (figG ss) r.2.2 s ∧ sz r.2.2 ≤ 13 ∧ dp r.2.2 ≤ 3
theorem RowsOk.rw {T : Tg} {R : Rws} (h : RowsOk T R) : RwOk T (rwOf R) := by
  intro x ss s own body hl e
  obtain ⟨r, er, e2⟩ := Option.map_eq_some_iff.mp (show (R.lookup x).map _ = some (own, body) from e)
  obtain ⟨ss', s', h1, h2, h3, h4, _⟩ := h.row _ (lookup_mem er)
  rw [hl] at h1
  cases h1
  injection e2 with e3 e4
  subst e3 e4
  exact ⟨by rw [show r.1 = ss.length from h2], h4⟩
theorem NmK.figs (n : Nat) {ss : List Int} (hl : ss.length = n) : ∃ ks, NmK (mergeK [] (prs (figs 0 n) (ss.map V.int))) ks (bindG noG (figs 0 n) ss) ∧ (∀ x ∈ ks, ∃ i, i < n ∧ x = fig i) ∧ ks.length ≤ n := by
  obtain ⟨ks, h1, h2, h3⟩ := keys_upd (kvs := []) (ks := []) (zs := Nh.figs 0 n) (vs := ss.map V.int) rfl List.nodup_nil (by simp [figs_length, hl])
  have lm := len_fresh (bs := Nh.figs 0 n) (vs := ss.map V.int) (by simp [figs_length, hl])
  have lk : (mergeK [] (prs (Nh.figs 0 n) (ss.map V.int))).length = ks.length := by have := congrArg List.length h1; simpa using this
  rw [figs_length] at lm
  refine ⟨ks, ⟨h1, h2, fun x => ?_⟩, fun x hx => ?_, by omega⟩
  · rw [valV_prs]
    exact updF_rel (fun (a : Option V) (c : Option Int) => a = c.map V.int) (Nh.figs 0 n) ((ss.map V.int).map some) (ss.map some) (by simp [figs_length, hl]) (by simp [figs_length, hl]) (fun i a c e1 e2 => by
      rw [List.getElem?_map] at e2
      obtain ⟨r, er, rfl⟩ := Option.map_eq_some_iff.mp e2
      rw [List.getElem?_map, List.getElem?_map, er] at e1
      rw [← Option.some.inj e1]; rfl) _ _ x (.inr rfl)
  · rcases (h3 x).mp hx with h | h
    · cases h
    · obtain ⟨i, hi, e⟩ := mem_figs.mp h
      exact ⟨i, hi, by rw [e, Nat.zero_add]⟩
def spRows : Sp := fun vs H Q _ => ∃ (tp : Addr) (tg : V) (way c : Int) (T : Tg), vs = [.ref tp, tg, .int 1, .int way] ∧ Tape H tp c ∧ c + 100000 ≤ big ∧ Dv H (tgD T) tg ∧ TgOk T ∧ Bn way ∧
  ∀ l R ws H', Le (atT tp) H H' → H l = none → H' l = some (.lst ws) → DvA H' (R.map rowD) ws → RowsOk T R → Tape H' tp (c + 5000) → Q (.ref l) H'
section
variable {P : Program} {w : World} {K : PySem.W.Frag} {mg : Str → Option Value} {base : Heap} {f : Addr} {fd : FuncData}
abbrev N_l_scope_of : List Str := ["_law_tape_here", "_law_sorts", "_law_words_here", "_law_k", "_law_sort"]
theorem sc_l_scope_of : FnScope N_l_scope_of ["_law_tape_here", "_law_sorts"] (defScope s_l_scope_of) := ⟨rfl, rfl, rfl, by decide +kernel, rfl, by decide +kernel, by decide +kernel⟩
theorem ok_l_scope_of (F : Fun K "_law_scope_of" "_law_scope_of" s_l_scope_of f fd) (B : Bt mg) (c_l_take : Cal P w K mg base 1 "_law_take" ["_law_tape_here", "_law_many"] spTake) (c_l_words : Cal P w K mg base 2 "_law_words" ["_law_tape_here", "_law_many"] spWords) :
    FnOk P w K mg base CX0 3 f fd ["_law_tape_here", "_law_sorts"] spScopeOf := by
  refine F.ok sc_l_scope_of (fun vs H Q E h => by obtain ⟨tp, v, ss, c, rfl, _⟩ := h; rfl) (fun cdv A outer s H vs Q E hr h => ?_)
  obtain ⟨tp, v, ss, c, rfl, ht, hc, hv, hss, q⟩ := h
  have hbig : big = 1000000000000 := rfl
  refine ⟨_, (pss_cons (ps_set (i := 2) sc_l_scope_of.nd rfl (by first | exact Or.inl rfl | exact Or.inr rfl) (pe_cal c_l_words (hr.mono (by omega)) (by rfl) (pa_cons (pv 0) (pa_cons (pe_int) pa_nil))))
  (pss_one (ps_ret (pe_callTy (tupF (K := K) rfl) (by rfl) B.tuple bv_tuple (pa_cons (pe_lc (own := [("_law_k", 3), ("_law_sort", 4)]) rfl sc_l_scope_of.nd (enT (K := K) rfl (by rfl) B.enumerate (pa_cons (pv 1) pa_nil)) (blkOk_by (own := [("_law_k", 3), ("_law_sort", 4)]) (N := N_l_scope_of) (sc := defScope s_l_scope_of) (by decide +kernel)) (fun _ _ _ _ _ => pgT (K := K) (n := 2) rfl rfl (pgs_cons (pg_name (i := 3) sc_l_scope_of.nd rfl (by first | exact Or.inl rfl | exact Or.inr rfl)) (pgs_cons (pg_name (i := 4) sc_l_scope_of.nd rfl (by first | exact Or.inl rfl | exact Or.inr rfl)) pgs_nil))) (fun _ _ _ _ _ => pts_nil) (fun _ _ _ _ _ => pe_tup (pa_cons (pe_ix (ixL (K := K) rfl) (pe_lst (pa_cons (pe_ix (ixL (K := K) rfl) (pv 2) (pv 3) (fun _ _ => rfl)) (pa_cons (pe_callTy call_str_int (by rfl) B.str bv_str (pa_cons (pe_op op_modN (pe_op op_add (pe_op op_mul (pe_int) (pv 3)) (pe_int)) (pe_int)) pa_nil)) pa_nil))) (pe_op op_fdivN (pe_cal c_l_take (hr.mono (by omega)) (by rfl) (pa_cons (pv 0) (pa_cons (pe_int) pa_nil))) (pe_int)) (fun _ _ => rfl)) (pa_cons (pv 4) pa_nil)))) pa_nil))))), ?_⟩
  obtain ⟨sa, rfl, hsa⟩ := dv_ints.mp hv
  refine ⟨_, rfl, tp, 6, c, rfl, ht, by decide, by omega, fun wl ws H1 l1 hnw ew hws ht1 => ?_⟩
  have hsa1 := l1.tup _ _ hsa
  have hsl : (ss.map V.int).length = ss.length := List.length_map _
  have wT : wl ≠ tp := fun e => by obtain ⟨_, _, _, h, _⟩ := ht.ex; rw [e, h] at hnw; cases hnw
  refine ⟨_, rfl, sa, _, rfl, SqT.of hsa1, fun D hD => ?_⟩
  have tD : tp ≠ D := fun e => by obtain ⟨_, _, _, h, _⟩ := ht1.ex; rw [e, hD] at h; cases h
  refine lc_acc walk_enumT (atT tp) (fun i acc H => ∃ bs : List Str, DvA H ((bs.zip (ss.take i)).map fun p => PyData.tuple [.str p.1, .int p.2]) acc ∧ bs.length = i ∧ (∀ (j : Nat) b, bs[j]? = some b → ws[j]? = some b ∨ b = fig ((5 * j + 2) % 6)) ∧ Tape H tp (c + 10 + i)) hD
    (fun a e => by subst e; obtain ⟨_, _, _, h, _⟩ := ht1.ex; rw [h]; exact fun z => nomatch z) (smallL (by omega)) (fun i acc H H' _ t ne ⟨bs, h1, h2, h3, a, b, c, h5, h6⟩ => ⟨bs, h1.mono t, h2, h3, ⟨a, b, c, by rw [ne tp tD]; exact h5, h6⟩⟩) ⟨[], .nil, rfl, fun j b z => (by simp at z), ht1.up (by omega)⟩
    (fun i acc H' _ l _ => SqT.of (l.tup _ _ hsa1)) (fun i x acc2 H2 H3 hi l2 _ _ hP y k1 k0 hk1 hk0 => ?_) fun acc2 H2 l2 hacc2 _ hP => ?_
  · obtain ⟨bs, hbs, hbl, hbt, hT⟩ := hP
    obtain ⟨U, x1, x2, rfl, hU, rfl, f1, f2⟩ := y
    have hi2 : i < ss.length := by have : i < (ss.map V.int).length := hi; omega
    obtain ⟨r, er⟩ := get_ex (l := ss) (i := i) hi2
    obtain rfl : V.int (i : Nat) = x1 := Option.some.inj f1
    have f2 : (ss.map V.int)[i]? = some x2 := f2
    rw [List.getElem?_map, er] at f2
    obtain rfl := Option.some.inj f2
    have l3 : Le0 H2 (upd H2 U (.tup [.int (i : Nat), .int r])) := Le.new hU _
    have eU : upd H2 U (.tup [.int (i : Nat), .int r]) U = some (.tup [.int (i : Nat), .int r]) := upd_same
    generalize upd H2 U (.tup [.int (i : Nat), .int r]) = H3 at l3 eU
    obtain ⟨wd, ewd⟩ := get_ex (l := ws) (i := i) (by rw [hws.len]; omega)
    have ew3 : H3 wl = some (.lst (ws.map V.str)) := (l2.trans l3.any).rest _ _ wT ew
    have hT3 := hT.mono l3 (fun z => z) (Int.le_refl _)
    refine ⟨U, _, rfl, SqT.of eU, rfl, _, _, rfl, _, _, rfl, rfl, rfl, ?_⟩
    refine ⟨_, rfl, _, rfl, wl, _, (i : Int), .str wd, rfl, rfl, SqL.of ew3, atI_nat (by rw [List.getElem?_map, ewd]; rfl), ?_⟩
    refine ⟨_, rfl, _, _, rfl, rfl, .inl (by decide), _, _, rfl, rfl, _, _, rfl, rfl, (nz rfl), _, rfl, ?_⟩
    have e5 : (5 * ((i : Nat) : Int) + 2).fmod 6 = (((5 * i + 2) % 6 : Nat) : Int) := by rw [Int.fmod_eq_emod_of_nonneg _ (by decide)]; omega
    refine ⟨?_, ?_⟩
    · show ((5 * ((i : Nat) : Int) + 2).fmod 6).natAbs.log2 < 1920
      rw [e5]; exact nat_log (by omega) (by omega)
    refine ⟨z2, fun u hu => ?_⟩
    show tCall _ _ _ _ _ (upd H3 u (.lst [.str wd, .str (Str.ofString (toString ((5 * ((i : Nat) : Int) + 2).fmod 6)))])) _
    rw [e5, show Str.ofString (toString (((5 * i + 2) % 6 : Nat) : Int)) = fig ((5 * i + 2) % 6) from rfl]
    have l4 : Le0 H3 (upd H3 u (.lst [.str wd, .str (fig ((5 * i + 2) % 6))])) := Le.new hu _
    have e4 : upd H3 u (.lst [.str wd, .str (fig ((5 * i + 2) % 6))]) u = some (.lst [.str wd, .str (fig ((5 * i + 2) % 6))]) := upd_same
    have uT : u ≠ tp := fun e => by obtain ⟨_, _, _, h, _⟩ := hT3.ex; rw [e, h] at hu; cases hu
    generalize upd H3 u (.lst [.str wd, .str (fig ((5 * i + 2) % 6))]) = H4 at l4 e4
    refine ⟨_, rfl, tp, 8, _, rfl, hT3.mono l4 (fun z => z) (Int.le_refl _), by decide, by decide, by omega, fun d H5 hd0 hd1 l5 hT5 => ?_⟩
    have e45 := l5.rest _ _ uT e4
    have hdd : d.fdiv 7 = 0 ∨ d.fdiv 7 = 1 := by
      rw [Int.fdiv_eq_ediv_of_nonneg _ (by decide)]; omega
    have pick : ∃ b, atI ([.str wd, .str (fig ((5 * i + 2) % 6))] : List V) (d.fdiv 7) = some (.str b) ∧ (ws[i]? = some b ∨ b = fig ((5 * i + 2) % 6)) := by
      rcases hdd with e | e
      · rw [e]; exact ⟨wd, at0, .inl ewd⟩
      · rw [e]; exact ⟨_, at1, .inr rfl⟩
    obtain ⟨b, eb, hb⟩ := pick
    refine ⟨_, _, rfl, rfl, ⟨by decide, by decide⟩, u, _, d.fdiv 7, .str b, rfl, rfl, SqL.of e45, eb, _, rfl, z2, fun p hp => ?_⟩
    have l6 : Le (atT tp) H2 (upd H5 p (.tup [.str b, .int r])) := ((l3.trans l4).any.trans l5).trans (Le.new hp _)
    refine hk1 _ _ l6 ⟨bs ++ [b], ?_, by rw [List.length_append, hbl]; rfl, fun j z ez => ?_, (hT5.mono (Le.new (M := noM) hp _) (fun z => z) (Int.le_refl _)).up (by omega)⟩
    · rw [List.take_add_one, er, List.zip_append (by rw [List.length_take]; omega), List.map_append]
      exact (hbs.mono l6.tup).append (.cons (Dv.mk hp (.cons Dv.str (.cons Dv.int .nil))) .nil)
    · by_cases hj : j < bs.length
      · rw [List.getElem?_append_left hj] at ez; exact hbt j z ez
      · have hj2 : j = bs.length := by
          have := (List.getElem?_eq_some_iff.mp ez).1
          rw [List.length_append, List.length_singleton] at this; omega
        subst hj2
        rw [List.getElem?_append_right (Nat.le_refl _), Nat.sub_self] at ez
        simp at ez; subst ez
        rw [hbl]; exact hb
  · obtain ⟨bs, hbs, hbl, hbt, hT⟩ := hP
    rw [hsl, List.take_length] at hbs
    rw [hsl] at hbl
    refine ⟨D, acc2, rfl, SqL.of hacc2, fun p o hp ho => ?_⟩
    obtain ⟨as, rfl, la, hat⟩ := dva_scope hbl hbs
    have l3 : Le (atT tp) H (upd H2 p (.frz o (.tup (as.map V.ref)))) := (l1.trans l2).trans (Le.new hp _)
    refine q p bs _ l3 ((l1.trans l2).nil hp) ⟨hbl, o, as, upd_same, ho, la, fun i c ec => ?_⟩ (scN_of hws (by omega) hbt) ((hT.mono (Le.new (M := noM) hp _) (fun z => z) (Int.le_refl _)).up (by omega))
    obtain ⟨b, r, e1, e2, e3⟩ := hat i c ec
    exact ⟨b, r, e1, e2, (Tu.new hp _) _ _ e3⟩
abbrev N_l_rows : List Str := ["_law_tape_here", "_law_tongue_here", "_law_deep", "_law_way", "_law_rows_here", "_law_h", "_law_sorts", "_law_sort", "_law_own", "_law_body", "_law_k"]
theorem sc_l_rows : FnScope N_l_rows ["_law_tape_here", "_law_tongue_here", "_law_deep", "_law_way"] (defScope s_l_rows) := ⟨rfl, rfl, rfl, by decide +kernel, rfl, by decide +kernel, by decide +kernel⟩
theorem ok_l_rows (F : Fun K "_law_rows" "_law_rows" s_l_rows f fd) (B : Bt mg) (c_l_take : Cal P w K mg base 1 "_law_take" ["_law_tape_here", "_law_many"] spTake) (c_l_term : Cal P w K mg base 9 "_law_term" ["_law_tape_here", "_law_tongue_here", "_law_names", "_law_sort", "_law_deep", "_law_way"] (spTerm 3))
    (c_l_neat : Cal P w K mg base 18 "_law_neat" ["_law_names", "_law_term_here"] (spLNeat K)) : FnOk P w K mg base CX0 19 f fd ["_law_tape_here", "_law_tongue_here", "_law_deep", "_law_way"] spRows := by
  refine F.ok sc_l_rows (fun vs H Q E h => by obtain ⟨tp, tg, way, c, T, rfl, _⟩ := h; rfl) (fun cdv A outer s H vs Q E hr h => ?_)
  obtain ⟨tp, tg, way, c, T, rfl, ht, hc, htg, hT, hway, q⟩ := h
  have hbig : big = 1000000000000 := rfl
  refine ⟨_, (pss_cons (ps_set (i := 4) sc_l_rows.nd rfl (by first | exact Or.inl rfl | exact Or.inr rfl) (pe_lst pa_nil))
  (pss_cons (ps_for PassesOwn.never rfl (piT (K := K) rfl (pe_ix (ixT (K := K) rfl) (pv 1) (pe_int) (fun _ _ => rfl))) (pgT (K := K) (n := 3) rfl rfl (pgs_cons (pg_name (i := 5) sc_l_rows.nd rfl (by first | exact Or.inl rfl | exact Or.inr rfl)) (pgs_cons (pg_name (i := 6) sc_l_rows.nd rfl (by first | exact Or.inl rfl | exact Or.inr rfl)) (pgs_cons (pg_name (i := 7) sc_l_rows.nd rfl (by first | exact Or.inl rfl | exact Or.inr rfl)) pgs_nil)))) (pss_cons (ps_setLc (i := 8) (own := [("_law_k", 10)]) rfl sc_l_rows.nd rfl rfl (sw_true rfl rfl rfl (by decide +kernel)) (pi_range1 (by rfl) B.range (pa_cons (pe_callB (lenQ (K := K) rfl) (by rfl) B.len bv_len (pa_cons (pv 6) pa_nil)) pa_nil)) (blkOk_by (own := [("_law_k", 10)]) (N := N_l_rows) (sc := defScope s_l_rows) (by decide +kernel)) (fun _ _ _ _ _ => pg_name (i := 10) sc_l_rows.nd rfl (by first | exact Or.inl rfl | exact Or.inr rfl)) (fun _ _ _ _ _ => pts_nil) (fun _ _ _ _ _ => pe_callTy call_str_int (by rfl) B.str bv_str (pa_cons (pv 10) pa_nil)))
  (pss_cons (ps_set (i := 9) sc_l_rows.nd rfl (by first | exact Or.inl rfl | exact Or.inr rfl) (pe_cal c_l_term (hr.mono (by omega)) (by rfl) (pa_cons (pv 0) (pa_cons (pv 1) (pa_cons (pe_dictZip (by rfl) B.dict (by rfl) B.zip (pa_cons (pv 8) (pa_cons (pv 6) pa_nil))) (pa_cons (pv 7) (pa_cons (pe_cal c_l_take (hr.mono (by omega)) (by rfl) (pa_cons (pv 0) (pa_cons (pe_op op_add (pv 2) (pe_int)) pa_nil))) (pa_cons (pv 3) pa_nil))))))))
  (pss_one (ps_expr (pe_bm PySem.F.plainAttrs_list PySem.F.slot_list_append PySem.F.type_list_append mt_append (pv 4) (pa_cons (pe_tup (pa_cons (pv 5) (pa_cons (pe_callTy (tupQ (K := K) rfl) (by rfl) B.tuple bv_tuple (pa_cons (pv 8) pa_nil)) (pa_cons (pe_cal c_l_neat (hr.mono (by omega)) (by rfl) (pa_cons (pv 8) (pa_cons (pv 9) pa_nil))) pa_nil)))) pa_nil)))))))
  (pss_one (ps_ret (pv 4))))), ?_⟩
  obtain ⟨ta, vf, vh, rfl, hta, hvf, hvh⟩ := dv_two.mp htg
  obtain ⟨ha, hvs, rfl, hha, hhvs⟩ := dv_tup.mp hvh
  have hhl := hT.hl
  have hhvl := hhvs.length
  rw [List.length_map] at hhvl
  refine ⟨z0, fun D hD => ?_⟩
  have tD : tp ≠ D := fun e => by obtain ⟨_, _, _, h, _⟩ := ht.ex; rw [e, hD] at h; cases h
  have l1 : Le0 H (upd H D (.lst [])) := Le.new hD _
  have eD : upd H D (.lst []) D = some (.lst []) := upd_same
  have ht1 := ht.mono l1 (fun z => z) (Int.le_refl c)
  generalize upd H D (.lst []) = H1 at l1 eD ht1
  refine ⟨_, rfl, ta, _, 1, _, rfl, rfl, SqT.of (l1.tup _ _ hta), at1, ha, rfl, ⟨_, SqT.of (l1.tup _ _ hha)⟩, ?_⟩
  refine for_it walk_tup (fun i σ H' => (∃ x5 x6 x7 x8 x9 x10, σ = [some (.ref tp), some (.ref ta), some (.int 1), some (.int way), some (.ref D), x5, x6, x7, x8, x9, x10]) ∧ Le (fun a => a = tp ∨ a = D) H1 H' ∧ ∃ (R : Rws) (vs : List V), H' D = some (.lst vs) ∧ DvA H' (R.map rowD) vs ∧ R.map (·.1) = (T.holes.take i).map (·.1) ∧
      (∀ r ∈ R, ∃ ss s, T.holes.lookup r.1 = some (ss, s) ∧ r.2.1 = ss.length ∧ ss.length ≤ 3 ∧ Ty T (figG ss) r.2.2 s ∧ sz r.2.2 ≤ 13 ∧ dp r.2.2 ≤ 3) ∧ Tape H' tp (c + 500 * i))
    ⟨⟨none, none, none, none, none, none, rfl⟩, Le.refl _, [], [], eD, .nil, rfl, fun r z => (nomatch z), ht1.up (by omega)⟩ (fun i σ H' _ ⟨_, l, _⟩ => SqT.of (l.tup _ _ (l1.tup _ _ hha))) (fun i x σ H20 H2 hi hP yy => ?_) fun σ H' hP => ?_
  · obtain ⟨⟨x5, x6, x7, x8, x9, x10, rfl⟩, l2, R, vs, e2, hR, hRk, hRr, hTp⟩ := hP
    obtain ⟨rfl, ex⟩ := yy
    have tt : Tu H H2 := Tu.trans l1.tup l2.tup
    obtain ⟨dd, ed, hdd⟩ := (hhvs.mono tt).get' ex
    rw [List.getElem?_map] at ed
    obtain ⟨⟨hw, ss, s0⟩, er, rfl⟩ := Option.map_eq_some_iff.mp ed
    obtain ⟨a1, y1, y2, y3, rfl, ha1, hy1, hy2, hy3⟩ := dv_three.mp hdd
    rw [dv_str] at hy1; subst hy1
    rw [dv_int] at hy3; subst hy3
    have hy2 : Dv H2 (intsD ss) y2 := hy2
    obtain ⟨sa, rfl, hsa⟩ := dv_ints.mp hy2
    have hmem := get_mem er
    have h3 : ss.length ≤ 3 := hT.hs _ hmem
    have hlk : T.holes.lookup hw = some (ss, s0) := lookup_of_mem hT.hn hmem
    have hsl : (ss.map V.int).length = ss.length := List.length_map _
    have hi5 : i < 5 := by omega
    refine ⟨a1, _, rfl, SqT.of ha1, rfl, _, _, rfl, _, _, rfl, _, _, rfl, rfl, ?_⟩
    refine ⟨_, rfl, sa, _, rfl, .inr (SqT.of hsa), ((ss.map V.int).length : Int), rfl, by omega, by omega, fun D5 hD5 => ?_⟩
    rw [Int.toNat_natCast, hsl]
    refine lc_map walk_range ((figs 0 ss.length).map strD) hD5 (smallL (by omega)) (by simp [figs_length]) (fun _ _ => trivial) (fun j x d H1 H2 hi hdi l y k1 hk1 => ?_) fun acc H5 l5 hacc hds => ?_
    · obtain ⟨rfl, rfl⟩ := y
      refine ⟨rfl, _, rfl, _, rfl, nat_log (by omega) (by omega), hk1 _ _ (Le.refl _) ?_⟩
      rw [List.getElem?_map, figs_get hi] at hdi
      cases hdi
      rw [show (0 : Int) + (j : Int) = ((0 + j : Nat) : Int) by omega]
      exact Dv.str
    rw [dva_strs] at hds
    subst hds
    have T5 : tp ≠ D5 := fun e => by obtain ⟨_, _, _, h, _⟩ := hTp.ex; rw [e, hD5] at h; cases h
    have hT5 := hTp.mono l5 (fun z => z) (Int.le_refl _)
    have kb : ((figs 0 ss.length).map Sum.inr).map kV = (figs 0 ss.length).map V.str := by rw [List.map_map]; rfl
    refine ⟨_, rfl, _, rfl, _, rfl, _, rfl, D5, sa, (figs 0 ss.length).map Sum.inr, ss.map V.int, rfl, .inl (SqL.of (by rw [kb]; exact hacc)), .inr (SqT.of (l5.tup _ _ hsa)), by simp [figs_length], fun m hm => ?_⟩
    have epr : ((figs 0 ss.length).map Sum.inr).zip (ss.map V.int) = prs (figs 0 ss.length) (ss.map V.int) := by
      unfold prs
      rw [List.zip_map_left]; rfl
    rw [epr]
    have tm : tp ≠ m := fun e => by obtain ⟨_, _, _, h, _⟩ := hT5.ex; rw [e, hm] at h; cases h
    have l6 : Le0 H2 (upd H5 m (.dK (mergeK [] (prs (figs 0 ss.length) (ss.map V.int))))) := l5.trans (Le.new hm _)
    have e6 : upd H5 m (.dK (mergeK [] (prs (figs 0 ss.length) (ss.map V.int)))) m = some (.dK (mergeK [] (prs (figs 0 ss.length) (ss.map V.int)))) := upd_same
    have e65 : upd H5 m (.dK (mergeK [] (prs (figs 0 ss.length) (ss.map V.int)))) D5 = some (.lst ((figs 0 ss.length).map V.str)) := by rw [upd_ne (ne_of_none hacc hm)]; exact hacc
    have hT6 := hTp.mono l6 (fun z => z) (Int.le_refl _)
    generalize upd H5 m (.dK (mergeK [] (prs (figs 0 ss.length) (ss.map V.int)))) = H6 at l6 e6 e65 hT6
    refine ⟨_, rfl, _, rfl, _, rfl, _, _, rfl, rfl, tp, _, _, rfl, hT6, by decide, by decide, by omega, fun d H7 hd0 hd1 l7 hT7 => ⟨_, rfl, ?_⟩⟩
    have hd1 : d < 2 := hd1
    obtain ⟨dn, rfl⟩ : ∃ n : Nat, d = n := ⟨d.toNat, by omega⟩
    obtain ⟨ks, hK, hks, hkl⟩ := NmK.figs ss.length (ss := ss) rfl
    have L7 : Tu H H7 := Tu.trans (Tu.trans tt l6.tup) l7.tup
    refine ⟨tp, m, .ref ta, s0, dn, way, _, T, _, ks, figG ss, rfl, hT7, by omega, htg.mono L7, hT, l7.rest _ _ tm.symm e6, tm, ⟨hK, fun x hx0 _ hx => ?_, by omega⟩, hT.hb _ hmem, by omega, by omega, hway, fun v t H8 l8 hv8 hty hsz hdp hT8 => ?_⟩
    · obtain ⟨i, hi, e⟩ := hks _ hx
      have := fig_inj e; omega
    have htb : tb dn ≤ 400 ∧ sb dn ≤ 13 := by
      have : dn = 0 ∨ dn = 1 := by omega
      rcases this with rfl | rfl <;> decide
    have e85 : H8 D5 = some (.lst ((figs 0 ss.length).map V.str)) := (l7.trans l8).rest _ _ T5.symm e65
    have e8 : H8 D = some (.lst vs) := (l7.trans l8).rest _ _ tD.symm (l6.rest _ _ (fun z => z) e2)
    refine ⟨_, rfl, .inl ⟨rfl, _, SqL.of e8⟩, ?_⟩
    refine ⟨_, rfl, _, rfl, D5, _, rfl, SqL.of e85, fun o ho => ?_⟩
    have l9 : Le0 H8 (upd H8 o (.tup ((figs 0 ss.length).map V.str))) := Le.new ho _
    have e9 : upd H8 o (.tup ((figs 0 ss.length).map V.str)) o = some (.tup ((figs 0 ss.length).map V.str)) := upd_same
    generalize upd H8 o (.tup ((figs 0 ss.length).map V.str)) = H9 at l9 e9
    have e95 := l9.rest _ _ (fun z => z) e85
    refine ⟨_, rfl, _, rfl, D5, v, figs 0 ss.length, t, rfl, SqL.of e95, fun H' l' => SqL.of (l'.rest _ _ (fun z => z) e95), hv8.mono l9.tup, hty.thin hT.fit.slim, by omega, by omega, by rw [figs_length]; omega, fun v' H10 l10 hv' => ⟨z3, fun r hr' => ?_⟩⟩
    have l11 : Le0 H8 (upd H10 r (.tup [.str hw, .ref o, v'])) := (l9.trans l10).trans (Le.new hr' _)
    have d11 : Dv (upd H10 r (.tup [.str hw, .ref o, v'])) (rowD (hw, ss.length, neatT (figs 0 ss.length) t)) (.ref r) := Dv.mk hr' (.cons Dv.str (.cons (dv_strs.mpr ⟨o, rfl, l10.tup _ _ e9⟩) (.cons hv' .nil)))
    generalize upd H10 r (.tup [.str hw, .ref o, v']) = H11 at l11 d11
    have e11 := l11.rest _ _ (fun z => z) e8
    have hvl := hR.length
    have hRl := congrArg List.length hRk
    rw [List.length_map, List.length_map, List.length_take] at hRl
    rw [List.length_map] at hvl
    refine ⟨D, vs, _, rfl, rfl, e11, smallL (by omega), ?_⟩
    have t12 : Tu H11 (upd H11 D (.lst (vs ++ [.ref r]))) := Tu.upd e11 (fun _ q => nomatch q) _
    have m11 : Le (fun a => a = tp ∨ a = D) H1 H11 := l2.trans ((l6.any.trans ((l7.trans l8).mono fun a h => .inl h)).trans l11.any)
    refine ⟨⟨_, _, _, _, _, _, rfl⟩, m11.mut (p := D) (.inr rfl) (fun xs e => by rw [e11] at e; cases e) _, R ++ [(hw, ss.length, neatT (figs 0 ss.length) t)], _, upd_same, ?_, ?_, fun r' hr' => ?_, ?_⟩
    · rw [List.map_append]
      exact ((hR.mono (Tu.trans (Tu.trans (Tu.trans l6.tup l7.tup) l8.tup) l11.tup)).mono t12).append (.cons (d11.mono t12) .nil)
    · rw [List.take_add_one, er, List.map_append, List.map_append, hRk]; rfl
    · rcases List.mem_append.mp hr' with h | h
      · exact hRr r' h
      · rw [List.mem_singleton] at h; subst h
        refine ⟨ss, s0, hlk, rfl, h3, ?_, by rw [sz_neatT]; omega, by rw [dp_neatT]; omega⟩
        have := ty_ren hty (bindN (fun x => x) (figs 0 ss.length) 0) (figs 0 ss.length).length (figG ss) (neat_cond (figs_nodup _ _) (figs_length _ _))
        exact this
    · have hT11 := hT8.mono l11 (fun z => z) (Int.le_refl _)
      obtain ⟨p1, p2, p3, h1, h2, h3⟩ := hT11.ex
      exact ⟨p1, p2, p3, by rw [upd_ne tD]; exact h1, h2, by omega⟩
  · obtain ⟨⟨x5, x6, x7, x8, x9, x10, rfl⟩, l2, R, vs, e2, hR, hRk, hRr, hTp⟩ := hP
    rw [hhvl, List.take_length] at hRk
    have hRl := congrArg List.length hRk
    rw [List.length_map, List.length_map] at hRl
    have m : Le (fun a => a = tp ∨ a = D) H H' := l1.any.trans l2
    refine ⟨_, rfl, q D R vs H' ⟨m.tup, fun a o ha ho => m.rest a o (fun z => z.elim ha fun z => ?_) ho, m.dom⟩ hD e2 hR ⟨by rw [hRk]; exact hT.hn, by omega, hRr⟩ (hTp.up (by omega))⟩
    subst z; rw [hD] at ho; cases ho
end
end Nh
/-! ## NhL10 -/
set_option maxHeartbeats 8000000
namespace Nh
open PySem PySem.Spec PyProof.Rows L2
theorem not_name_f {f : Str} {ps} : ∀ y, Tm.form f ps ≠ .name y := fun _ e => nomatch e
theorem not_name_h {h : Str} {xs} : ∀ y, Tm.hole h xs ≠ .name y := fun _ e => nomatch e
def spFree (n : Nat) : Sp := fun vs H Q _ => ∃ (v : V) (b : Addr) (t : Tm) (bs : List Str), vs = [v, .ref b] ∧ Dv H (encT t) v ∧ H b = some (.lst (bs.map V.str)) ∧ dp t ≤ n ∧ sz t ≤ 1000 ∧ Thin t ∧ bs.length + 3 * dp t ≤ 1000 ∧
  ∀ l (ys : List Str) H', Le0 H H' → H l = none → H' l = some (.lst (ys.map V.str)) → (∀ x, x ∈ ys ↔ x ∈ free t ∧ x ∉ bs) → ys.length ≤ sz t → Q (.ref l) H'
theorem subs_sum_at {t : Tm} {i : Nat} {p : List Str × Tm} (e : (subs t)[i]? = some p) : (((subs t).take i).map fun p => sz p.2).sum + sz p.2 + 1 ≤ sz t := by
  have h : subs t = (subs t).take i ++ p :: (subs t).drop (i + 1) := by
    obtain ⟨hi, rfl⟩ := List.getElem?_eq_some_iff.mp e
    rw [List.getElem_cons_drop, List.take_append_drop]
  have q := subs_sum t
  rw [h, List.map_append, List.map_cons, List.sum_append, List.sum_cons] at q
  omega
section
variable {P : Program} {w : World} {K : PySem.W.Frag} {mg : Str → Option Value} {base : Heap} {f : Addr} {fd : FuncData}
abbrev N_l_free : List Str := ["_law_term_here", "_law_bound_here", "_law_seen", "_law_own", "_law_body", "_law_one"]
theorem sc_l_free : FnScope N_l_free ["_law_term_here", "_law_bound_here"] (defScope s_l_free) := ⟨rfl, rfl, rfl, by decide +kernel, rfl, by decide +kernel, by decide +kernel⟩
theorem ok_l_free {n : Nat} (F : Fun K "_law_free" "_law_free" s_l_free f fd) (B : Bt mg) (c_l_free : Cal P w K mg base (n + 1) "_law_free" ["_law_term_here", "_law_bound_here"] (spFree n)) : FnOk P w K mg base CX0 (n + 2) f fd ["_law_term_here", "_law_bound_here"] (spFree (n + 1)) := by
  refine F.ok sc_l_free (fun vs H Q E h => by obtain ⟨v, b, t, bs, rfl, _⟩ := h; rfl) (fun cdv A outer s H vs Q E hr h => ?_)
  obtain ⟨v, b, t, bs, rfl, hv, hb, hd, hsz, hthin, hbl, q⟩ := h
  refine ⟨_, (pss_cons (ps_if (pt_cmpR op_eq (pe_ix (ixT (K := K) rfl) (pv 0) (pe_int) (fun _ _ => rfl)) (pe_str) (nomark _)) (pss_one (ps_ret (pe_ifExp (pt_cmpR (ninQ (K := K) rfl) (pe_ix (ixT (K := K) rfl) (pv 0) (pe_int) (fun _ _ => rfl)) (pv 1) (by rfl)) (pe_lst (pa_cons (pe_ix (ixT (K := K) rfl) (pv 0) (pe_int) (fun _ _ => rfl)) pa_nil)) (pe_lst pa_nil)))) pss_nil)
  (pss_cons (ps_set (i := 2) sc_l_free.nd rfl (by first | exact Or.inl rfl | exact Or.inr rfl) (pe_lst pa_nil))
  (pss_cons (ps_for PassesOwn.never rfl (pi_if (pt_cmpR op_eq (pe_ix (ixT (K := K) rfl) (pv 0) (pe_int) (fun _ _ => rfl)) (pe_str) (nomark _)) (piT (K := K) rfl (pe_ix (ixT (K := K) rfl) (pv 0) (pe_int) (fun _ _ => rfl))) (piL (K := K) rfl (pe_lc (own := [("_law_one", 5)]) rfl sc_l_free.nd (piT (K := K) rfl (pe_ix (ixT (K := K) rfl) (pv 0) (pe_int) (fun _ _ => rfl))) (blkOk_by (own := [("_law_one", 5)]) (N := N_l_free) (sc := defScope s_l_free) (by decide +kernel)) (fun _ _ _ _ _ => pg_name (i := 5) sc_l_free.nd rfl (by first | exact Or.inl rfl | exact Or.inr rfl)) (fun _ _ _ _ _ => pts_nil) (fun _ _ _ _ _ => pe_tup (pa_cons (pe_tup pa_nil) (pa_cons (pv 5) pa_nil)))))) (pgT (K := K) (n := 2) rfl rfl (pgs_cons (pg_name (i := 3) sc_l_free.nd rfl (by first | exact Or.inl rfl | exact Or.inr rfl)) (pgs_cons (pg_name (i := 4) sc_l_free.nd rfl (by first | exact Or.inl rfl | exact Or.inr rfl)) pgs_nil))) (pss_one (ps_expr (pe_bm PySem.F.plainAttrs_list PySem.F.slot_list_extend PySem.F.type_list_extend mt_extend (pv 2) (pa_cons (pe_cal c_l_free (hr.mono (by omega)) (by rfl) (pa_cons (pv 4) (pa_cons (pe_op op_cat (pe_callTy (lstQ (K := K) rfl) (by rfl) B.list bv_list (pa_cons (pv 1) pa_nil)) (pe_callTy (lstQ (K := K) rfl) (by rfl) B.list bv_list (pa_cons (pv 3) pa_nil))) pa_nil))) pa_nil)))))
  (pss_one (ps_ret (pv 2)))))), ?_⟩
  by_cases hn : ∃ x, t = .name x
  · obtain ⟨x, rfl⟩ := hn
    obtain ⟨a, rfl, ha⟩ := dt_name.mp hv
    refine ⟨_, rfl, a, _, 0, _, rfl, rfl, SqT.of ha, at0, rfl, _, rfl, ifT rfl ?_⟩
    refine ⟨_, rfl, a, _, 1, _, rfl, rfl, SqT.of ha, at1, _, rfl, b, _, rfl, .inl (SqL.of hb), rfl, flat_strs bs, _, rfl, ?_⟩
    show if (!inV (.str x) (bs.map V.str)) = true then _ else _
    rw [inV_strs]
    by_cases hx : x ∈ bs
    · rw [decide_eq_true hx]
      refine iteF ⟨z0, fun p hp => q p [] _ (Le.new hp _) hp upd_same (fun y => ⟨fun z => (nomatch z), fun ⟨h1, h2⟩ => ?_⟩) (Nat.zero_le _)⟩
      rw [free_name, List.mem_singleton] at h1; subst h1; exact absurd hx h2
    · rw [decide_eq_false hx]
      refine iteT ⟨_, rfl, a, _, 1, _, rfl, rfl, SqT.of ha, at1, z1, fun p hp => q p [x] _ (Le.new hp _) hp upd_same (fun y => ?_) (by rw [sz_name]; exact Nat.le_refl _)⟩
      rw [free_name, List.mem_singleton]
      exact ⟨fun e => ⟨e, by rw [e]; exact hx⟩, fun h => h.1⟩
  · have hn' : ∀ y, t ≠ .name y := fun y e => hn ⟨y, e⟩
    obtain ⟨a, r, rfl, ha⟩ := dt_head hv
    have htn : ¬ (V.str (tag t) = V.str "name") := by
      cases t with
      | name y => exact absurd rfl (hn' y)
      | hole _ _ => exact s_hn
      | form _ _ => exact s_fn
    refine ⟨_, rfl, a, _, 0, _, rfl, rfl, SqT.of ha, at0, rfl, _, rfl, ifF htn ?_⟩
    refine ⟨z0, fun D hD => ?_⟩
    have l1 : Le0 H (upd H D (.lst [])) := Le.new hD _
    have eD : upd H D (.lst []) D = some (.lst []) := upd_same
    have bD : b ≠ D := ne_of_none hb hD
    generalize upd H D (.lst []) = H1 at l1 eD
    dsimp only [gName]
    show iIf ?c ?w1 ?w2 ?s H1 ?R
    have hbl2 : (bs.map V.str).length = bs.length := List.length_map _
    have dpos := dp_pos t
    have loop : ∀ {J : It} {nn : Nat} {G : Hp → Prop} {ws : List V} (H2 : Hp), Walk J nn G (YAt ws) → nn = (subs t).length → Le0 H1 H2 → DvA H2 ((subs t).map encP) ws → (∀ H', Le (fun a => a = D) H2 H' → G H') → ?R J H2 := by
      intro J nn G ws H2 wk hnn l2 hws hG
      have hwl := hws.length
      rw [List.length_map] at hwl
      have eD2 := l2.rest _ _ (fun z => z) eD
      have hb2 := l2.rest _ _ (fun z => z) (l1.rest _ _ (fun z => z) hb)
      refine for_it wk (fun i σ H' => (∃ x3 x4 x5, σ = [some (.ref a), some (.ref b), some (.ref D), x3, x4, x5]) ∧ Le (fun a => a = D) H2 H' ∧ ∃ ys : List Str, H' D = some (.lst (ys.map V.str)) ∧ (∀ x, x ∈ ys ↔ ∃ j p, j < i ∧ (subs t)[j]? = some p ∧ x ∈ free p.2 ∧ x ∉ p.1 ∧ x ∉ bs) ∧ ys.length ≤ (((subs t).take i).map fun p => sz p.2).sum)
        ⟨⟨none, none, none, rfl⟩, Le.refl _, [], eD2, fun x => ⟨fun z => (nomatch z), fun ⟨j, p, z, _⟩ => absurd z (Nat.not_lt_zero j)⟩, Nat.zero_le _⟩ (fun i σ H' _ ⟨_, l, _⟩ => hG _ l) (fun i x σ H30 H3 hi hP y => ?_) fun σ H' hP => ?_
      · obtain ⟨⟨x3, x4, x5, rfl⟩, l3, ys, e3, hys, hyl⟩ := hP
        obtain ⟨rfl, ex⟩ := y
        obtain ⟨pp, a3, b3, y3, ep, rfl, ha3, hb3, hy3⟩ := part_at (hws.mono l3.tup) ex
        have hmm := get_mem ep
        have d1 := dp_subs hmm
        have s1 := sz_subs hmm
        have s2 := subs_sum_at ep
        have hpt : Thin pp.2 ∧ pp.1.length ≤ 3 := by
          cases hthin with
          | name => exact absurd rfl (hn' _)
          | hole => obtain ⟨z, _, e⟩ := List.mem_map.mp hmm; subst e; exact ⟨.name, Nat.zero_le _⟩
          | form h1 h2 => exact ⟨h2 pp hmm, h1 pp hmm⟩
        have hb30 := l3.rest _ _ bD hb2
        refine ⟨a3, _, rfl, SqT.of ha3, rfl, _, _, rfl, _, _, rfl, rfl, ?_⟩
        refine ⟨_, rfl, .inl ⟨rfl, _, SqL.of e3⟩, ?_⟩
        refine ⟨_, rfl, _, rfl, b, _, rfl, .inl (SqL.of hb30), fun u1 hu1 => ?_⟩
        have l4 : Le0 H3 (upd H3 u1 (.lst (bs.map V.str))) := Le.new hu1 _
        have e4 : upd H3 u1 (.lst (bs.map V.str)) u1 = some (.lst (bs.map V.str)) := upd_same
        generalize upd H3 u1 (.lst (bs.map V.str)) = H4 at l4 e4
        refine ⟨_, rfl, b3, _, rfl, .inr (SqT.of (l4.tup _ _ hb3)), fun u2 hu2 => ?_⟩
        have l5 : Le0 H4 (upd H4 u2 (.lst (pp.1.map V.str))) := Le.new hu2 _
        have e5 : upd H4 u2 (.lst (pp.1.map V.str)) u2 = some (.lst (pp.1.map V.str)) := upd_same
        generalize upd H4 u2 (.lst (pp.1.map V.str)) = H5 at l5 e5
        have hpl : (pp.1.map V.str).length = pp.1.length := List.length_map _
        refine ⟨u1, u2, _, _, rfl, rfl, l5.rest _ _ (fun z => z) e4, e5, small (by omega), fun u3 hu3 => ?_⟩
        have l6 : Le0 H5 (upd H5 u3 (.lst (bs.map V.str ++ pp.1.map V.str))) := Le.new hu3 _
        have e6 : upd H5 u3 (.lst (bs.map V.str ++ pp.1.map V.str)) u3 = some (.lst ((bs ++ pp.1).map V.str)) := by rw [upd_same, List.map_append]
        generalize upd H5 u3 (.lst (bs.map V.str ++ pp.1.map V.str)) = H6 at l6 e6
        have l36 := (l4.trans l5).trans l6
        have dpp := dp_pos pp.2
        refine ⟨y3, u3, pp.2, bs ++ pp.1, rfl, hy3.mono l36.tup, e6, by omega, by omega, hpt.1, by rw [List.length_append]; omega, fun l zs H7 l7 hnl el hzs hzl => ?_⟩
        have e37 := (l36.trans l7).rest _ _ (fun z => z) e3
        have hyv : (ys.map V.str).length = ys.length := List.length_map _
        have hzv : (zs.map V.str).length = zs.length := List.length_map _
        refine ⟨D, l, _, _, rfl, rfl, e37, el, small (by omega), ?_⟩
        refine ⟨⟨_, _, _, rfl⟩, (l3.trans (l36.trans l7).any).mut (p := D) rfl (fun xs e => by rw [e37] at e; cases e) _, ys ++ zs, by rw [upd_same, List.map_append], fun x => ?_, ?_⟩
        · rw [List.mem_append, hys, hzs]
          constructor
          · rintro (⟨j, p', hj, h1⟩ | ⟨h1, h2⟩)
            · exact ⟨j, p', Nat.lt_succ_of_lt hj, h1⟩
            · rw [List.mem_append, not_or] at h2
              exact ⟨i, pp, Nat.lt_succ_self i, ep, h1, h2.2, h2.1⟩
          · rintro ⟨j, p', hj, h1, h2, h3, h4⟩
            by_cases hji : j = i
            · subst hji
              rw [ep] at h1; cases h1
              exact .inr ⟨h2, by rw [List.mem_append, not_or]; exact ⟨h4, h3⟩⟩
            · exact .inl ⟨j, p', by omega, h1, h2, h3, h4⟩
        · rw [List.take_add_one, ep, List.map_append, List.sum_append, List.length_append]
          show _ ≤ _ + (sz pp.2 + 0)
          omega
      · obtain ⟨⟨x3, x4, x5, rfl⟩, l3, ys, e3, hys, hyl⟩ := hP
        have hs := subs_sum t
        rw [hnn, List.take_length] at hyl
        refine ⟨_, rfl, q D ys H' ((l1.trans l2).back l3 hD) hD e3 (fun x => ?_) (by omega)⟩
        rw [hys, free_subs hn']
        constructor
        · rintro ⟨j, p, _, h1, h2, h3, h4⟩
          exact ⟨⟨p, get_mem h1, h2, h3⟩, h4⟩
        · rintro ⟨⟨p, hp, h2, h3⟩, h4⟩
          obtain ⟨j, hj, e⟩ := mem_get hp
          exact ⟨j, p, by omega, e, h2, h3, h4⟩
    have ha1 := l1.tup _ _ ha
    refine ⟨_, rfl, a, _, 0, _, rfl, rfl, SqT.of ha1, at0, rfl, _, rfl, ?_⟩
    cases t with
    | name y => exact absurd rfl (hn' y)
    | hole h xs =>
      refine ifF s_hf ?_
      obtain ⟨a', bb, ws, e, ha', hbb, hw⟩ := dt_hole.mp hv
      cases e
      have hwl := hw.length
      rw [List.length_map] at hwl
      rw [sz_hole] at hsz
      have hbb1 := l1.tup _ _ hbb
      refine ⟨_, rfl, a, _, 2, _, rfl, rfl, SqT.of (l1.tup _ _ ha'), at2, bb, rfl, ⟨_, SqT.of hbb1⟩, fun D2 hD2 => ?_⟩
      refine lc_map walk_tup ((subs (.hole h xs)).map encP) hD2 (smallL (by omega)) (by show (List.map encP (xs.map _)).length = _; simp [hwl]) (fun H1 l => SqT.of (l.tup _ _ hbb1)) (fun i x d H10 H2 hi hdi l y k1 hk1 => ?_) fun acc H2 l2 hacc hds => ?_
      · obtain ⟨rfl, ex⟩ := y
        obtain ⟨z, c', ez, rfl, hc'⟩ := nm_at (hw.mono (Tu.trans l1.tup l.tup)) ex
        refine ⟨rfl, z0, fun p hp => ?_⟩
        have d3 : Dv (upd H2 p (.tup [])) (strsD []) (.ref p) := Dv.mk hp .nil
        have l3 : Le0 H2 (upd H2 p (.tup [])) := Le.new hp _
        generalize upd H2 p (.tup []) = H3 at d3 l3
        refine ⟨_, rfl, z2, fun p2 hp2 => hk1 _ _ (l3.trans (Le.new hp2 _)) ?_⟩
        have : d = encP ([], .name z) := by
          have hdi : ((xs.map fun x => (([] : List Str), Tm.name x)).map encP)[i]? = some d := hdi
          rw [List.getElem?_map, List.getElem?_map, ez] at hdi
          exact (Option.some.inj hdi).symm
        rw [this]
        refine Dv.mk hp2 (.cons d3 (.cons ?_ .nil))
        rw [encT_name]
        exact Dv.tup (l3.tup _ _ hc') (.cons Dv.str (.cons Dv.str .nil))
      · have hal := hds.length
        rw [List.length_map] at hal
        refine ⟨D2, rfl, ⟨_, SqL.of hacc⟩, loop H2 walk_list hal l2 hds fun H' l => SqL.of (l.rest _ _ (fun z => ?_) hacc)⟩
        have hz : D2 = D := z
        subst hz; rw [eD] at hD2; cases hD2
    | form f1 ps =>
      refine ifT rfl ?_
      obtain ⟨a', bb, ws, e, ha', hbb, hw⟩ := dt_form.mp hv
      cases e
      have hwl := hw.length
      rw [List.length_map] at hwl
      have hbb1 := l1.tup _ _ hbb
      exact ⟨_, rfl, a, _, 2, _, rfl, rfl, SqT.of (l1.tup _ _ ha'), at2, bb, rfl, ⟨_, SqT.of hbb1⟩, loop H1 walk_tup hwl (Le.refl _) (hw.mono l1.tup) fun H' l => SqT.of (l.tup _ _ hbb1)⟩
end
end Nh
/-! ## NhL11 -/
set_option maxHeartbeats 8000000
namespace Nh
open PySem PySem.Spec PyProof.Rows L2
theorem sl2 {K : PySem.W.Frag} {H : Hp} {a : Addr} {x y : Str} {r : List V} {Q : VK} (ha : H a = some (.tup (.str x :: .str y :: r))) (q : ∀ v H', Le0 H H' → Dv H' (.tuple [.str x, .str y]) v → Q v H') : rSlA K (.ref a) none (some 2) H Q := by
  have e2 : HT.sIx (V.str x :: V.str y :: r).length (V.str x :: V.str y :: r).length (some 2) = 2 := by
    have := HT.sIx_nat (V.str x :: V.str y :: r).length (V.str x :: V.str y :: r).length 2
    rw [show ((2 : Nat) : Int) = 2 from rfl] at this
    rw [this, List.length_cons, List.length_cons]; omega
  refine ⟨a, _, rfl, SqT.of ha, fun h => ?_, fun h p hp => ?_⟩
  · rw [e2] at h
    have : r = [] := by
      cases r with
      | nil => rfl
      | cons z r => have := h.2; simp at this
    subst this
    exact q _ _ (Le.refl _) (Dv.tup ha (.cons Dv.str (.cons Dv.str .nil)))
  · refine q _ _ (Le.new hp _) ?_
    unfold cutV
    rw [e2, HT.sIx_none]
    exact Dv.mk hp (.cons Dv.str (.cons Dv.str .nil))
section
variable {P : Program} {w : World} {K : PySem.W.Frag} {mg : Str → Option Value} {base : Heap} {f : Addr} {fd : FuncData}
abbrev N_l_laid : List Str := ["_law_pattern", "_law_term_here", "_law_rows_here", "_law_taken", "_law_body", "_law_one", "_law_part_here", "_law_other", "_law_name"]
theorem sc_l_laid : FnScope N_l_laid ["_law_pattern", "_law_term_here", "_law_rows_here"] (defScope s_l_laid) := ⟨rfl, rfl, rfl, by decide +kernel, rfl, by decide +kernel, by decide +kernel⟩
theorem ok_l_laid {n : Nat} (F : Fun K "_law_laid" "_law_laid" s_l_laid f fd) (B : Bt mg) (c_l_free : Cal P w K mg base 17 "_law_free" ["_law_term_here", "_law_bound_here"] (spFree 16)) (c_l_neat : Cal P w K mg base 18 "_law_neat" ["_law_names", "_law_term_here"] (spLNeat K))
    (c_l_laid : Cal P w K mg base (18 + n) "_law_laid" ["_law_pattern", "_law_term_here", "_law_rows_here"] (spLaid n)) : FnOk P w K mg base CX0 (18 + n + 1) f fd ["_law_pattern", "_law_term_here", "_law_rows_here"] (spLaid (n + 1)) := by
  refine F.ok sc_l_laid (fun vs H Q E h => by obtain ⟨v1, v2, g, p, t, lv, G, kvs, rfl, _⟩ := h; rfl) (fun cdv A outer s H vs Q E hr h => ?_)
  obtain ⟨v1, v2, g, p, t, lv, G, kvs, rfl, hv1, hv2, hg, hG, ⟨hal, hnt, hlo, hd1, hd2, hs1, hs2⟩, hGl, hGd, q⟩ := h
  have hu := hu_of hr
  refine ⟨_, (pss_cons (ps_if (pt_cmpR op_eq (pe_ix (ixT (K := K) rfl) (pv 0) (pe_int) (fun _ _ => rfl)) (pe_str) (nomark _)) (pss_cons (ps_set (i := 3) sc_l_laid.nd rfl (by first | exact Or.inl rfl | exact Or.inr rfl) (pe_lc (own := [("_law_one", 5)]) rfl sc_l_laid.nd (piT (K := K) rfl (pe_ix (ixT (K := K) rfl) (pv 0) (pe_int) (fun _ _ => rfl))) (blkOk_by (own := [("_law_one", 5)]) (N := N_l_laid) (sc := defScope s_l_laid) (by decide +kernel)) (fun _ _ _ _ _ => pg_name (i := 5) sc_l_laid.nd rfl (by first | exact Or.inl rfl | exact Or.inr rfl)) (fun _ _ _ _ _ => pts_nil) (fun _ _ _ _ _ => pe_ix (ixT (K := K) rfl) (pv 5) (pe_int) (fun _ _ => rfl))))
  (pss_cons (ps_if (pt_not (pt_val (pe_callB (allQ (K := K) rfl rfl) (by rfl) B.all bv_all (pa_cons (pe_lc (own := [("_law_name", 8)]) rfl sc_l_laid.nd (piL (K := K) rfl (pe_cal c_l_free (hr.mono (by omega)) (by rfl) (pa_cons (pv 1) (pa_cons (pe_lst pa_nil) pa_nil)))) (blkOk_by (own := [("_law_name", 8)]) (N := N_l_laid) (sc := defScope s_l_laid) (by decide +kernel)) (fun _ _ _ _ _ => pg_name (i := 8) sc_l_laid.nd rfl (by first | exact Or.inl rfl | exact Or.inr rfl)) (fun _ _ _ _ _ => pts_nil) (fun _ _ _ _ _ => pe_cmpR (inQ (K := K) rfl) (pv 8) (pv 3) (by rfl))) pa_nil)))) (pss_one (ps_ret (pe_bl))) pss_nil)
  (pss_cons (ps_set (i := 4) sc_l_laid.nd rfl (by first | exact Or.inl rfl | exact Or.inr rfl) (pe_cal c_l_neat (hr.mono (by omega)) (by rfl) (pa_cons (pv 3) (pa_cons (pv 1) pa_nil))))
  (pss_cons (ps_expr (pe_dsetd (pv 2) (pe_ix (ixT (K := K) rfl) (pv 0) (pe_int) (fun _ _ => rfl)) (pe_tup (pa_cons (pe_callB (lenQ (K := K) rfl) (by rfl) B.len bv_len (pa_cons (pv 3) pa_nil)) (pa_cons (pv 4) pa_nil))) ⟨rfl, rfl, rfl, rfl⟩))
  (pss_one (ps_ret (pe_cmpR (eqP (K := K) rfl hr.units) (pe_dget hu (pv 2) (pe_ix (ixT (K := K) rfl) (pv 0) (pe_int) (fun _ _ => rfl)) (fun _ _ => rfl)) (pe_tup (pa_cons (pe_callB (lenQ (K := K) rfl) (by rfl) B.len bv_len (pa_cons (pv 3) pa_nil)) (pa_cons (pv 4) pa_nil))) (nomark _)))))))) pss_nil)
  (pss_cons (ps_if (pt_cmpR (neP (K := K) rfl hr.units) (pe_slice (slAQ (K := K) rfl) (pv 0) po_none (po_some (pe_int))) (pe_slice (slAQ (K := K) rfl) (pv 1) po_none (po_some (pe_int))) (nomark _)) (pss_one (ps_ret (pe_bl))) pss_nil)
  (pss_cons (ps_if (pt_cmpR op_eq (pe_ix (ixT (K := K) rfl) (pv 0) (pe_int) (fun _ _ => rfl)) (pe_str) (nomark _)) (pss_one (ps_ret (pe_bl))) pss_nil)
  (pss_one (ps_ret (pe_callB (allQ (K := K) rfl rfl) (by rfl) B.all bv_all (pa_cons (pe_lc (own := [("_law_part_here", 6), ("_law_other", 7)]) rfl sc_l_laid.nd (zpQ (K := K) rfl (by rfl) B.zip (pa_cons (pe_ix (ixT (K := K) rfl) (pv 0) (pe_int) (fun _ _ => rfl)) (pa_cons (pe_ix (ixT (K := K) rfl) (pv 1) (pe_int) (fun _ _ => rfl)) pa_nil))) (blkOk_by (own := [("_law_part_here", 6), ("_law_other", 7)]) (N := N_l_laid) (sc := defScope s_l_laid) (by decide +kernel)) (fun _ _ _ _ _ => pgT (K := K) (n := 2) rfl rfl (pgs_cons (pg_name (i := 6) sc_l_laid.nd rfl (by first | exact Or.inl rfl | exact Or.inr rfl)) (pgs_cons (pg_name (i := 7) sc_l_laid.nd rfl (by first | exact Or.inl rfl | exact Or.inr rfl)) pgs_nil))) (fun _ _ _ _ _ => pts_nil) (fun _ _ _ _ _ => pe_cal c_l_laid (hr.mono (by omega)) (by rfl) (pa_cons (pe_ix (ixT (K := K) rfl) (pv 6) (pe_int) (fun _ _ => rfl)) (pa_cons (pe_ix (ixT (K := K) rfl) (pv 7) (pe_int) (fun _ _ => rfl)) (pa_cons (pv 2) pa_nil))))) pa_nil))))))), ?_⟩
  obtain ⟨a1, r1, rfl, ha1⟩ := dt_head hv1
  obtain ⟨a2, r2, rfl, ha2⟩ := dt_head hv2
  by_cases hh : ∃ h xs, p = .hole h xs
  · obtain ⟨h, xs, rfl⟩ := hh
    rw [sz_hole] at hs1
    refine ⟨_, rfl, a1, _, 0, _, rfl, rfl, SqT.of ha1, at0, rfl, _, rfl, ifT rfl ?_⟩
    obtain ⟨a', bb, ws, e, ha', hbb, hw⟩ := dt_hole.mp hv1
    cases e
    have hwl := hw.length
    rw [List.length_map] at hwl
    refine ⟨_, rfl, a1, _, 2, _, rfl, rfl, SqT.of ha', at2, bb, rfl, ⟨_, SqT.of hbb⟩, fun T hTn => ?_⟩
    refine lc_map walk_tup (xs.map strD) hTn (smallL (by omega)) (by simp [hwl]) (fun H1 l => SqT.of (l.tup _ _ hbb)) (fun i x d H1 H2 hi hd l y k1 hk => ?_) fun accT H1 l1 haccT hdsT => ?_
    · obtain ⟨rfl, ex⟩ := y
      obtain ⟨z, c, ez, rfl, hc⟩ := nm_at (hw.mono l.tup) ex
      refine ⟨rfl, _, rfl, c, _, 1, _, rfl, rfl, SqT.of hc, at1, hk _ _ (Le.refl _) ?_⟩
      rw [List.getElem?_map, ez] at hd
      cases hd
      exact Dv.str
    rw [dva_strs] at hdsT
    subst hdsT
    have hg1 := l1.rest _ _ (fun z => z) hg
    have gT : g ≠ T := ne_of_none hg hTn
    refine ⟨_, rfl, z0, fun u0 hu0 => ?_⟩
    have l2 : Le0 H1 (upd H1 u0 (.lst [])) := Le.new hu0 _
    have e2 : upd H1 u0 (.lst []) u0 = some (.lst []) := upd_same
    generalize upd H1 u0 (.lst []) = H2 at l2 e2
    refine ⟨.ref a2, u0, t, [], rfl, hv2.mono (Tu.trans l1.tup l2.tup), e2, by omega, by omega, hnt.thin, by show 0 + _ ≤ 1000; omega, fun l ys H3 l3 _ hl hys hyl => ?_⟩
    have L3 := (l1.trans l2).trans l3
    have eT3 := (l2.trans l3).rest _ _ (fun z => z) haccT
    refine ⟨l, rfl, ⟨_, SqL.of hl⟩, fun D hD => ?_⟩
    have hlys : (ys.map V.str).length = ys.length := List.length_map _
    have hys' : ∀ x, x ∈ ys ↔ x ∈ free t := fun x => by rw [hys]; exact ⟨fun h => h.1, fun h => ⟨h, List.not_mem_nil⟩⟩
    refine lc_mapM walk_list noM (fun _ _ => True) (fun i y _ => ∀ x, ys[i]? = some x → y = .bl (decide (x ∈ xs))) hD (fun _ z => z.elim) (smallL (by omega)) (fun _ _ _ _ h => h) (fun _ _ _ _ _ h => h) trivial (fun i H _ l _ => SqL.of (l.rest _ _ (fun z => z) hl)) (fun i x H30 H4 hi l4 _ y k1 hk1 => ?_) fun acc H4 l4 hacc hlen _ hbs => ?_
    · obtain ⟨rfl, ex⟩ := y
      rw [List.getElem?_map] at ex
      obtain ⟨z, ez, rfl⟩ := Option.map_eq_some_iff.mp ex
      refine ⟨rfl, _, rfl, _, rfl, T, _, rfl, .inl (SqL.of (l4.rest _ _ (fun z => z) eT3)), rfl, flat_strs xs, hk1 _ _ (Le.refl _) trivial fun x e => ?_⟩
      rw [ez] at e
      cases e
      show V.bl (inV (.str z) (xs.map V.str)) = _
      rw [inV_strs]
    · have hacc' : acc = (ys.map fun x => decide (x ∈ xs)).map V.bl := bl_map (by omega) fun i y e x ex => hbs i y e x ex
      rw [hacc'] at hacc
      refine ⟨D, _, rfl, SqL.of hacc, _, rfl, ?_⟩
      have L4 := L3.trans l4
      have eT4 := l4.rest _ _ (fun z => z) eT3
      have hg4 := L4.rest _ _ (fun z => z) hg
      have hall : ((ys.map fun x => decide (x ∈ xs)).all id = true) ↔ ∀ x ∈ free t, x ∈ xs := by
        rw [List.all_map, List.all_eq_true]
        constructor
        · intro h x hx
          exact of_decide_eq_true (h x ((hys' x).mpr hx))
        · intro h x hx
          exact decide_eq_true (h x ((hys' x).mp hx))
      have fin0 : ¬ (∀ x ∈ free t, x ∈ xs) → laid (.hole h xs) t G = (false, G) := fun hn => by rw [laid_hole]; unfold laidH; rw [if_neg hn]
      by_cases hf : ∀ x ∈ free t, x ∈ xs
      · rw [hall.mpr hf]
        refine iteF ?_
        refine ⟨_, rfl, _, rfl, T, .ref a2, xs, t, rfl, SqL.of eT4, fun H' l' => SqL.of (l'.rest _ _ (fun z => z) eT4), hv2.mono L4.tup, hnt.thin, by omega, by omega, by omega, fun vb H5 l5 hvb => ?_⟩
        have L5 := L4.trans l5
        have eT5 := l5.rest _ _ (fun z => z) eT4
        have hg5 := l5.rest _ _ (fun z => z) hg4
        have lx : (xs.map V.str).length = xs.length := List.length_map _
        refine ⟨_, rfl, g, rfl, .inl ⟨kvs, .inl hg5⟩, ?_⟩
        refine ⟨_, rfl, a1, _, 1, _, rfl, rfl, SqT.of (L5.tup _ _ ha1), at1, ?_⟩
        refine ⟨_, rfl, T, _, rfl, .inl (SqL.of eT5), _, rfl, z2, fun p1 hp1 => ?_⟩
        have l6 : Le0 H5 (upd H5 p1 (.tup [.int (((xs.map V.str).length : Nat) : Int), vb])) := Le.new hp1 _
        have dp1' : Dv (upd H5 p1 (.tup [.int (((xs.map V.str).length : Nat) : Int), vb])) (gotD (xs.length, neatT xs t)) (.ref p1) := by
          refine Dv.mk hp1 (.cons (dv_int.mpr (by rw [lx])) (.cons hvb .nil))
        have hg6 := l6.rest _ _ (fun z => z) hg5
        generalize upd H5 p1 (.tup [.int (((xs.map V.str).length : Nat) : Int), vb]) = H6 at l6 dp1' hg6
        have L6 := L5.trans l6
        have eT6 := l6.rest _ _ (fun z => z) eT5
        have hvb6 := hvb.mono l6.tup
        have hG6 := hG.mono L6.tup
        have hdn : dp (neatT xs t) ≤ 16 := by unfold neatT; rw [dp_ren]; exact hd2
        have kl := hG.len
        have depth_got : ∀ e : Nat × Tm, dp e.2 ≤ 16 → (gotD e).depth ≤ 60 := fun e he => by
          have := depth_encT e.2
          exact Nat.le_trans (depth_two (n := 48) (by rw [depth_int]; omega) (by omega)) (by omega)
        have pd_got : ∀ e : Nat × Tm, pd (gotD e) = true := fun e => pd_two (pd_int _) (pd_encT _)
        refine ⟨kvs, Sum.inr h, hg6, rfl, smallL (by omega), fun v hv => ?_, fun hno => ?_⟩
        · have hlk : ∃ e, G.lookup h = some e := by
            cases eq : G.lookup h with
            | none => rw [(hG6.look h).1 eq] at hv; cases hv
            | some e' => exact ⟨e', rfl⟩
          obtain ⟨e, he⟩ := hlk
          obtain ⟨v', hv', dv'⟩ := (hG6.look h).2 e he
          rw [hv] at hv'; cases hv'
          refine ⟨_, rfl, _, rfl, a1, _, 1, _, rfl, rfl, SqT.of (L6.tup _ _ ha1), at1, g, _, rfl, dget_str (.inl hg6) hv, ?_⟩
          refine ⟨_, rfl, T, _, rfl, .inl (SqL.of eT6), _, rfl, z2, fun p2 hp2 => ?_⟩
          have l7 : Le0 H6 (upd H6 p2 (.tup [.int (((xs.map V.str).length : Nat) : Int), vb])) := Le.new hp2 _
          refine ⟨gotD e, gotD (xs.length, neatT xs t), (dv'.mono l7.tup).dp, (Dv.mk hp2 (.cons (dv_int.mpr (by rw [lx])) (.cons hvb6 .nil))).dp, pd_got _, pd_got _, depth_got _ (hGd _ (lookup_mem he)), fun bo hbo => ?_⟩
          have hr : laid (.hole h xs) t G = (bo, G) := by
            rw [laid_hole]; unfold laidH; rw [if_pos hf, he]
            refine Prod.ext ?_ rfl
            refine beq_of (p := e = (xs.length, neatT xs t)) dec_iff ?_
            exact hbo.trans ⟨fun z => gotD_inj z, fun z => by rw [z]⟩
          have := q _ kvs ((L6.trans l7).any) ((L6.trans l7).rest _ _ (fun z => z) hg) (by rw [hr]; exact hG.mono (L6.trans l7).tup)
          rw [hr] at this
          exact this
        · have hlk : G.lookup h = none := by
            cases e : G.lookup h with
            | none => rfl
            | some e' => obtain ⟨v', hv', _⟩ := (hG6.look h).2 e' e; rw [hno] at hv'; cases hv'
          have m7 : Le (fun a => a = g) H (upd H6 g (.dK (putK kvs (Sum.inr h) (.ref p1)))) := (L6.any (M := fun a => a = g)).mut (p := g) rfl (fun xs e => by rw [hg6] at e; cases e) _
          have t7 : Tu H6 (upd H6 g (.dK (putK kvs (Sum.inr h) (.ref p1)))) := Tu.upd hg6 (fun _ e => nomatch e) _
          have g7 : upd H6 g (.dK (putK kvs (Sum.inr h) (.ref p1))) g = some (.dK (putK kvs (Sum.inr h) (.ref p1))) := upd_same
          have k7 := (hG6.add hlk dp1').mono t7
          have eT7 : upd H6 g (.dK (putK kvs (Sum.inr h) (.ref p1))) T = some (.lst (xs.map V.str)) := by rw [upd_ne gT.symm]; exact eT6
          have hvb7 := hvb6.mono t7
          have dp7 := dp1'.mono t7
          generalize upd H6 g (.dK (putK kvs (Sum.inr h) (.ref p1))) = H7 at m7 t7 g7 k7 eT7 hvb7 dp7
          have hv7 : valV (putK kvs (Sum.inr h) (.ref p1)) (Sum.inr h) = some (.ref p1) := by rw [valV_put, if_pos rfl]
          refine ⟨_, rfl, _, rfl, a1, _, 1, _, rfl, rfl, SqT.of (m7.tup _ _ ha1), at1, g, _, rfl, dget_str (.inl g7) hv7, ?_⟩
          refine ⟨_, rfl, T, _, rfl, .inl (SqL.of eT7), _, rfl, z2, fun p2 hp2 => ?_⟩
          have l8 : Le (fun a => a = g) H7 (upd H7 p2 (.tup [.int (((xs.map V.str).length : Nat) : Int), vb])) := Le.new hp2 _
          refine ⟨gotD (xs.length, neatT xs t), gotD (xs.length, neatT xs t), (dp7.mono l8.tup).dp, (Dv.mk hp2 (.cons (dv_int.mpr (by rw [lx])) (.cons hvb7 .nil))).dp, pd_got _, pd_got _, depth_got _ hdn, fun bo hbo => ?_⟩
          have hr : laid (.hole h xs) t G = (bo, G ++ [(h, (xs.length, neatT xs t))]) := by
            rw [laid_hole]; unfold laidH; rw [if_pos hf, hlk, hbo.mpr rfl]
          have := q _ (putK kvs (Sum.inr h) (.ref p1)) (m7.trans l8) (by rw [upd_ne (ne_of_none g7 hp2)]; exact g7) (by rw [hr]; exact k7.mono l8.tup)
          rw [hr] at this
          exact this
      · rw [show ((ys.map fun x => decide (x ∈ xs)).all id) = false from Bool.eq_false_iff.mpr fun z => hf (hall.mp z)]
        refine iteT ?_
        have := q H4 kvs L4.any hg4 (by rw [fin0 hf]; exact hG.mono L4.tup)
        rw [fin0 hf] at this
        exact this
  · have hnh : ¬ (V.str (tag p) = V.str "hole") := by
      cases p with
      | name x => exact s_nh
      | hole h xs => exact absurd ⟨h, xs, rfl⟩ hh
      | form f ps => exact s_fh
    refine ⟨_, rfl, a1, _, 0, _, rfl, rfl, SqT.of ha1, at0, rfl, _, rfl, ifF hnh ?_⟩
    refine ⟨_, rfl, _, rfl, sl2 ha1 fun u1 H1 l1 d1 => ?_⟩
    refine ⟨_, rfl, _, rfl, sl2 (l1.tup _ _ ha2) fun u2 H2 l2 d2 => ?_⟩
    have L2 := l1.trans l2
    have hg2 := L2.rest _ _ (fun z => z) hg
    have stop : laid p t G = (false, G) → Q (.bl false) H2 := fun e => by
      have := q H2 kvs L2.any hg2 (by rw [e]; exact hG.mono L2.tup)
      rw [e] at this; exact this
    refine ⟨.tuple [.str (tag p), .str (hdw p)], .tuple [.str (tag t), .str (hdw t)], (d1.mono l2.tup).dp, d2.dp, pd_two (pd_str _) (pd_str _), pd_two (pd_str _) (pd_str _), Nat.le_trans (depth_two (n := 0) (by rw [depth_str]; exact Nat.le_refl _) (by rw [depth_str]; exact Nat.le_refl _)) (by decide), fun bo hbo => ⟨bo, rfl, ?_⟩⟩
    cases bo with
    | true =>
      refine iteT (stop ?_)
      have hno := hbo.mp rfl
      cases p with
      | hole h xs => exact absurd ⟨h, xs, rfl⟩ hh
      | name x =>
        cases t with
        | name y => rw [laid_nn]; exact Prod.ext (decide_eq_false fun e => hno (by rw [e])) rfl
        | hole h ys => rw [laid_nh]
        | form f ps => rw [laid_nf]
      | form f ps =>
        cases t with
        | name y => rw [laid_fn]
        | hole h ys => rw [laid_fh]
        | form f' ps' => rw [laid_ff, if_neg fun e => hno (by rw [e]; rfl)]
    | false =>
      refine iteF ?_
      have heq : tag p = tag t ∧ hdw p = hdw t := by
        have : PyData.tuple [.str (tag p), .str (hdw p)] = PyData.tuple [.str (tag t), .str (hdw t)] := Classical.byContradiction fun z => Bool.false_ne_true (hbo.mpr z)
        injection this with e; injection e with e1 e; injection e with e2 _
        injection e1 with e1; injection e2 with e2
        exact ⟨e1, e2⟩
      obtain ⟨ht, hwd⟩ := heq
      have ha12 := L2.tup _ _ ha1
      refine ⟨_, rfl, a1, _, 0, _, rfl, rfl, SqT.of ha12, at0, rfl, _, rfl, ?_⟩
      rcases eq_tags ht with ⟨x, y, rfl, rfl⟩ | ⟨h, xs, h', ys, rfl, rfl⟩ | ⟨f1, ps, f2, qs, rfl, rfl⟩
      · refine ifT rfl ?_
        have e : laid (.name x) (.name y) G = (true, G) := by rw [laid_nn]; exact Prod.ext (decide_eq_true hwd) rfl
        have := q H2 kvs L2.any hg2 (by rw [e]; exact hG.mono L2.tup)
        rw [e] at this; exact this
      · exact absurd ⟨h, xs, rfl⟩ hh
      · refine ifF s_fn ?_
        have hw' : f1 = f2 := hwd
        subst hw'
        obtain ⟨a1', b1, w1, e1, ha1', hb1, hw1⟩ := dt_form.mp (hv1.mono L2.tup)
        cases e1
        obtain ⟨a2', b2, w2, e2, ha2', hb2, hw2⟩ := dt_form.mp (hv2.mono L2.tup)
        cases e2
        have hG2 := hG.mono L2.tup
        cases hal with
        | ff q1 q2 q3 =>
          have hlp := q1 rfl
          have hl1 := hw1.length
          have hl2 := hw2.length
          rw [List.length_map] at hl1 hl2
          have n1 := len_sz (f := f1) (ps := ps)
          have n2 := len_sz (f := f1) (ps := qs)
          refine ⟨_, rfl, a1, _, 2, _, rfl, rfl, SqT.of ha1', at2, _, rfl, a2, _, 2, _, rfl, rfl, SqT.of ha2', at2, b1, b2, _, _, rfl, .inr ⟨SqT.of hb1, SqT.of hb2, fun D3 hD3 => ?_⟩⟩
          have hzl : (ps.zip qs).length = ps.length := by rw [List.length_zip]; omega
          refine lc_mapN (walk_zipT (n := ps.length) hl1 (by omega)) (fun a => a = g) (fun i H' => ∃ kvs', H' g = some (.dK kvs') ∧ GotK H' kvs' (rr (ps.zip qs) G i).2) (fun i y _ => y = .bl (bb (ps.zip qs) G i)) hD3 (fun a e => by subst e; rw [hg2]; exact fun z => nomatch z) (smallL (by omega)) (fun i H5 H6 t ne ⟨kvs', e5, k5⟩ => ?_) (fun _ _ _ _ _ h => h) ⟨kvs, hg2, hG2⟩ (fun i H' _ l _ => ⟨SqT.of (l.tup _ _ hb1), SqT.of (l.tup _ _ hb2)⟩) (fun i x H4 H5 hi l4 hI y k1 hk1 => ?_) fun acc4 H4 l4 hacc4 hlen hI hbs => ?_
          · refine ⟨kvs', ?_, k5.mono t⟩
            rw [ne g fun z => ?_]
            · exact e5
            · rw [← z, hg2] at hD3; cases hD3
          · obtain ⟨T, u1, u2, rfl, hT, rfl, e1, e2⟩ := y
            obtain ⟨kvs4, hg4, k4⟩ := hI
            have t4 : Tu H4 (upd H4 T (.tup [u1, u2])) := Tu.new hT _
            have l5 : Le (fun a => a = g) H4 (upd H4 T (.tup [u1, u2])) := Le.new hT _
            have eT : upd H4 T (.tup [u1, u2]) T = some (.tup [u1, u2]) := upd_same
            have hg5 : upd H4 T (.tup [u1, u2]) g = some (.dK kvs4) := by rw [upd_ne (ne_of_none hg4 hT)]; exact hg4
            generalize upd H4 T (.tup [u1, u2]) = H5 at t4 l5 eT hg5
            have tw : Tu H2 H5 := Tu.trans l4.tup t4
            obtain ⟨pp, a3, b3, y3, ep, rfl, ha3, hb3, hy3⟩ := part_at (hw1.mono tw) e1
            obtain ⟨qq, a4, b4, y4, eq4, rfl, ha4, hb4, hy4⟩ := part_at (hw2.mono tw) e2
            refine ⟨T, _, rfl, SqT.of eT, rfl, _, _, rfl, _, _, rfl, rfl, rfl, ?_⟩
            refine ⟨_, rfl, a3, _, 1, _, rfl, rfl, SqT.of ha3, at1, _, rfl, a4, _, 1, _, rfl, rfl, SqT.of ha4, at1, _, rfl, ?_⟩
            have ez : (ps.zip qs)[i]? = some (pp, qq) := by rw [List.getElem?_zip_eq_some]; exact ⟨ep, eq4⟩
            have hm1 := get_mem ep
            have hm2 := get_mem eq4
            have z1 := sz_sub (f := f1) hm1
            have z2 := sz_sub (f := f1) hm2
            have d1 := dp_sub (f := f1) hm1
            have d2 := dp_sub (f := f1) hm2
            cases hnt with
            | form nt1 nt2 nt3 =>
              have ln := nt2 qq hm2
              refine ⟨y3, y4, g, pp.2, qq.2, lv + qq.1.length, _, kvs4, rfl, hy3, hy4, hg5, k4.mono t4, ⟨q3 rfl i pp qq ep eq4, nt3 qq hm2, by omega, by omega, by omega, by omega, by omega⟩, ?_, ?_, fun H6 kvs6 l6 hg6 k6 => ?_⟩
              · have q1 := laid_len (.form f1 (ps.take i)) (.form f1 (qs.take i)) G
                rw [← rr_laid] at q1
                have q2 := sz_take (f := f1) ep
                omega
              · rw [rr_laid]
                exact laid_dp _ _ _ (Nat.le_trans (dp_take f1 qs i) hd2) hGd
              · refine hk1 _ _ (l5.trans l6) ⟨kvs6, hg6, ?_⟩ ?_
                · rw [rr_succ ez]; exact k6
                · show V.bl _ = V.bl (bb _ _ _)
                  unfold bb; rw [ez]
          · obtain ⟨kvs4, hg4, k4⟩ := hI
            have hacc' : acc4 = ((List.range ps.length).map (bb (ps.zip qs) G)).map V.bl := by
              refine List.ext_getElem? fun i => ?_
              rw [List.map_map, List.getElem?_map]
              by_cases hi : i < ps.length
              · obtain ⟨y, ey⟩ := get_ex (l := acc4) (i := i) (by omega)
                rw [ey, List.getElem?_range hi, hbs i y ey]; rfl
              · rw [List.getElem?_eq_none (by omega), List.getElem?_eq_none (by rw [List.length_range]; omega)]; rfl
            rw [hacc'] at hacc4
            refine ⟨D3, _, rfl, SqL.of hacc4, ?_⟩
            have e : laid (.form f1 ps) (.form f1 qs) G = rr (ps.zip qs) G ps.length := by rw [laid_ff, if_pos rfl, ← rr_end, hzl]
            have := q H4 kvs4 ((L2.any).trans l4) hg4 (by rw [e]; exact k4)
            rw [e, rr_all _ _ _ (by omega)] at this
            exact this
end
end Nh
/-! ## NhL12 -/
set_option maxHeartbeats 8000000
namespace Nh
open PySem PySem.Spec PyProof.Rows L2
theorem sz_is (t : Tm) : sz t = 1 + ((subs t).map fun p => sz p.2).sum := by
  cases t with
  | name x => rw [sz_name]; rfl
  | form f ps => rw [sz_form]; rfl
  | hole h xs =>
    rw [sz_hole]
    show _ = 1 + ((xs.map fun x => (([] : List Str), Tm.name x)).map fun p => sz p.2).sum
    rw [List.map_map]
    have : ∀ l : List Str, (l.map ((fun p : List Str × Tm => sz p.2) ∘ fun x => (([] : List Str), Tm.name x))).sum = l.length := by
      intro l
      induction l with
      | nil => rfl
      | cons x l ih => rw [List.map_cons, List.sum_cons, ih, List.length_cons]; show sz (.name x) + _ = _; rw [sz_name]; omega
    rw [this]
theorem dp_is (t : Tm) : dp t = 1 + maxs ((subs t).map fun p => dp p.2) := by
  cases t with
  | name x => rw [dp_name]; rfl
  | form f ps => rw [dp_form]; rfl
  | hole h xs =>
    rw [dp_hole]
    show _ = 1 + maxs ((xs.map fun x => (([] : List Str), Tm.name x)).map fun p => dp p.2)
    rw [List.map_map]
    congr 2
    refine List.map_congr_left fun x _ => ?_
    show 1 = dp (.name x); rw [dp_name]
abbrev sizeD (t : Tm) : PyData := .tuple [.int (sz t : Nat), .int (dp t : Nat)]
def spSize (n : Nat) : Sp := fun vs H Q _ => ∃ (v : V) (t : Tm), vs = [v] ∧ Dv H (encT t) v ∧ dp t ≤ n ∧ sz t ≤ 1000 ∧ ∀ v' H', Le0 H H' → Dv H' (sizeD t) v' → Q v' H'
def spFits : Sp := fun vs H Q _ => ∃ (ev sv v : V) (T : Tg) (e : Ent) (ss : List Int) (s : Int) (t : Tm), vs = [ev, sv, .int s, v] ∧ Dv H (entD e) ev ∧ Dv H (intsD ss) sv ∧ Dv H (encT t) v ∧ EntOk T e ∧ Ty T (figG ss) t s ∧ Nt ss.length t ∧ dp t ≤ 16 ∧ sz t ≤ 1000 ∧
  (∀ H', Le0 H H' → fitsE e ss s t = false → Q .non H') ∧ ∀ l acc H', Le0 H H' → H l = none → H' l = some (.lst acc) → DvA H' ((rowsE e t).map rowD) acc → fitsE e ss s t = true → Q (.ref l) H'
abbrev ownK (od : Addr) (nx : Int) : List (Key × V) := [(Sum.inr "entries", .ref od), (Sum.inr "many", .int nx)]
structure OwnAt (H : Hp) (o od : Addr) (bk : Bk) (nx : Int) : Prop where
  o : H o = some (.dK (ownK od nx))
  en : EnAt H od bk
theorem OwnAt.mono {M : Addr → Prop} {H H' : Hp} {o od : Addr} {bk : Bk} {nx : Int} (h : OwnAt H o od bk nx) (l : Le M H H') (ho : ¬ M o) (hd : ¬ M od) : OwnAt H' o od bk nx := ⟨l.rest _ _ ho h.o, h.en.mono l hd⟩
theorem OwnAt.ne {H : Hp} {o od : Addr} {bk : Bk} {nx : Int} (h : OwnAt H o od bk nx) (hb : (bk.map (·.1)).length = bk.length) : o ≠ od := fun z => by
  obtain ⟨h1, kvs, h2, h3⟩ := h
  rw [z, h2] at h1
  have h1 := Option.some.inj h1
  injection h1 with h1
  have := h3.1
  rw [h1] at this
  cases bk with
  | nil => simp at this
  | cons p bk => rw [List.map_cons, List.map_cons] at this; injection this with e _; cases e
theorem own_en {H : Hp} {o od : Addr} {bk : Bk} {nx : Int} (h : OwnAt H o od bk nx) : DGet H o (.str "entries") (some (.ref od)) := dget_str (.inl h.o) (by rw [valV_pos rfl])
theorem own_many {H : Hp} {o od : Addr} {bk : Bk} {nx : Int} (h : OwnAt H o od bk nx) : DGet H o (.str "many") (some (.int nx)) := dget_str (.inl h.o) (by rw [valV_neg (fun e => absurd (Sum.inr.inj e) (by decide)), valV_pos rfl])
/-- a question, as its tuple -/
structure QAt (H : Hp) (T : Tg) (qa a : Addr) (v1 v2 sv : V) (bs : List Str) (ss : List Int) (t : Tm) (s : Int) : Prop where
  q : H qa = some (.tup [.ref a, v1, sv, .int s, v2])
  scp : FScp H a bs ss
  v1 : Dv H (encT (inS bs t)) v1
  sv : Dv H (intsD ss) sv
  v2 : Dv H (encT t) v2
  sn : ScN bs
  few : ss.length ≤ 6
  ty : Ty T (figG ss) t s
  nt : Nt ss.length t
  d : dp t ≤ 16
  s : sz t ≤ 1000
theorem QAt.mono {M : Addr → Prop} {H H' : Hp} {T : Tg} {qa a : Addr} {v1 v2 sv : V} {bs : List Str} {ss : List Int} {t : Tm} {s : Int} (h : QAt H T qa a v1 v2 sv bs ss t s) (l : Le M H H') (hm : ¬ M a) : QAt H' T qa a v1 v2 sv bs ss t s :=
  ⟨l.tup _ _ h.q, h.scp.mono l hm, h.v1.mono l.tup, h.sv.mono l.tup, h.v2.mono l.tup, h.sn, h.few, h.ty, h.nt, h.d, h.s⟩
def spLFit : Sp := fun vs H Q _ => ∃ (o od qa a : Addr) (v1 v2 sv : V) (T : Tg) (bk : Bk) (nx : Int) (bs : List Str) (ss : List Int) (t : Tm) (s : Int), vs = [.ref o, .ref qa] ∧ OwnAt H o od bk nx ∧ BkOk T bk nx ∧ QAt H T qa a v1 v2 sv bs ss t s ∧
  ∀ l H', Le0 H H' → H l = none → H' l = some (.lst (nosV (fitB bk ss s t))) → Q (.ref l) H'
section
variable {P : Program} {w : World} {K : PySem.W.Frag} {mg : Str → Option Value} {base : Heap} {f : Addr} {fd : FuncData}
abbrev N_l_size : List Str := ["_law_term_here", "_law_inner", "_law_one"]
theorem sc_l_size : FnScope N_l_size ["_law_term_here"] (defScope s_l_size) := ⟨rfl, rfl, rfl, by decide +kernel, rfl, by decide +kernel, by decide +kernel⟩
theorem ok_l_size {n : Nat} (F : Fun K "_law_size" "_law_size" s_l_size f fd) (B : Bt mg) (c_l_size : Cal P w K mg base n "_law_size" ["_law_term_here"] (spSize n)) : FnOk P w K mg base CX0 (n + 1) f fd ["_law_term_here"] (spSize (n + 1)) := by
  refine F.ok sc_l_size (fun vs H Q E h => by obtain ⟨v, t, rfl, _⟩ := h; rfl) (fun cdv A outer s H vs Q E hr h => ?_)
  obtain ⟨v, t, rfl, hv, hd, hs, q⟩ := h
  refine ⟨_, (pss_cons (ps_set (i := 1) sc_l_size.nd rfl (by first | exact Or.inl rfl | exact Or.inr rfl) (pe_lst pa_nil))
  (pss_cons (ps_if (pt_cmpR op_ne (pe_ix (ixT (K := K) rfl) (pv 0) (pe_int) (fun _ _ => rfl)) (pe_str) (nomark _)) (pss_one (ps_setLc (i := 1) (own := [("_law_one", 2)]) rfl sc_l_size.nd rfl rfl (sw_true rfl rfl rfl (by decide +kernel)) (piT (K := K) rfl (pe_ix (ixT (K := K) rfl) (pv 0) (pe_int) (fun _ _ => rfl))) (blkOk_by (own := [("_law_one", 2)]) (N := N_l_size) (sc := defScope s_l_size) (by decide +kernel)) (fun _ _ _ _ _ => pg_name (i := 2) sc_l_size.nd rfl (by first | exact Or.inl rfl | exact Or.inr rfl)) (fun _ _ _ _ _ => pts_nil) (fun _ _ _ _ _ => pe_cal c_l_size (hr.mono (by omega)) (by rfl) (pa_cons (pe_ifExp (pt_cmpR op_eq (pe_ix (ixT (K := K) rfl) (pv 0) (pe_int) (fun _ _ => rfl)) (pe_str) (nomark _)) (pe_ix (ixT (K := K) rfl) (pv 2) (pe_int) (fun _ _ => rfl)) (pv 2)) pa_nil)))) pss_nil)
  (pss_one (ps_ret (pe_tup (pa_cons (pe_op op_add (pe_int) (pe_callB (sumQ (K := K) rfl rfl) (by rfl) B.sum bv_sum (pa_cons (pe_lc (own := [("_law_one", 2)]) rfl sc_l_size.nd (piL (K := K) rfl (pv 1)) (blkOk_by (own := [("_law_one", 2)]) (N := N_l_size) (sc := defScope s_l_size) (by decide +kernel)) (fun _ _ _ _ _ => pg_name (i := 2) sc_l_size.nd rfl (by first | exact Or.inl rfl | exact Or.inr rfl)) (fun _ _ _ _ _ => pts_nil) (fun _ _ _ _ _ => pe_ix (ixT (K := K) rfl) (pv 2) (pe_int) (fun _ _ => rfl))) pa_nil))) (pa_cons (pe_op op_add (pe_int) (pe_callB (maxQ (K := K) rfl rfl) (by rfl) B.max bv_max (pa_cons (pe_op op_cat (pe_lc (own := [("_law_one", 2)]) rfl sc_l_size.nd (piL (K := K) rfl (pv 1)) (blkOk_by (own := [("_law_one", 2)]) (N := N_l_size) (sc := defScope s_l_size) (by decide +kernel)) (fun _ _ _ _ _ => pg_name (i := 2) sc_l_size.nd rfl (by first | exact Or.inl rfl | exact Or.inr rfl)) (fun _ _ _ _ _ => pts_nil) (fun _ _ _ _ _ => pe_ix (ixT (K := K) rfl) (pv 2) (pe_int) (fun _ _ => rfl))) (pe_lst (pa_cons (pe_int) pa_nil))) pa_nil))) pa_nil))))))), ?_⟩
  refine ⟨z0, fun D hD => ?_⟩
  have l1 : Le0 H (upd H D (.lst [])) := Le.new hD _
  have eD : upd H D (.lst []) D = some (.lst []) := upd_same
  generalize upd H D (.lst []) = H1 at l1 eD
  dsimp only [gName]
  show tSeq (tIfS ?c ?a ?b) ?r ?D ?s H1
  have hsub := subs_sum t
  have hlen := len_subs t
  have tail : ∀ (σ : L2.St) (H' : Hp) (l : Addr) (ws : List V), (∃ x2, σ = [some v, some (.ref l), x2]) → Le0 H1 H' → H' l = some (.lst ws) → DvA H' ((subs t).map fun p => sizeD p.2) ws → ?r ?D σ H' := by
    rintro σ H2 l ws ⟨x2, rfl⟩ l2 el hws
    have hwl := hws.length
    rw [List.length_map] at hwl
    refine ⟨_, rfl, l, rfl, ⟨_, SqL.of el⟩, fun D2 hD2 => ?_⟩
    refine lc_map walk_list (((subs t).map fun p => ((sz p.2 : Nat) : Int)).map PyData.int) hD2 (smallL (by omega)) (by simp [hwl]) (fun H l => SqL.of (l.rest _ _ (fun z => z) el)) (fun i x d H30 H3 hi hdi l y k1 hk1 => ?_) fun acc H3 l3 hacc hds => ?_
    · obtain ⟨rfl, ex⟩ := y
      obtain ⟨dd, ed, hdd⟩ := (hws.mono l.tup).get' ex
      rw [List.getElem?_map] at ed
      obtain ⟨p, ep, rfl⟩ := Option.map_eq_some_iff.mp ed
      obtain ⟨a1, x1, x2, rfl, ha1, hx1, hx2⟩ := dv_two.mp hdd
      rw [dv_int] at hx1; subst hx1
      refine ⟨rfl, _, rfl, a1, _, 0, _, rfl, rfl, SqT.of ha1, at0, hk1 _ _ (Le.refl _) ?_⟩
      rw [List.getElem?_map, List.getElem?_map, ep] at hdi
      cases hdi
      exact Dv.int
    rw [dva_ints] at hds
    subst hds
    have el3 := l3.rest _ _ (fun z => z) el
    refine ⟨D2, _, rfl, SqL.of hacc, _, _, rfl, rfl, ?_⟩
    refine ⟨_, rfl, l, rfl, ⟨_, SqL.of el3⟩, fun D4 hD4 => ?_⟩
    refine lc_map walk_list (((subs t).map fun p => ((dp p.2 : Nat) : Int)).map PyData.int) hD4 (smallL (by omega)) (by simp [hwl]) (fun H l => SqL.of (l.rest _ _ (fun z => z) el3)) (fun i x d H50 H5 hi hdi l y k1 hk1 => ?_) fun acc H5 l5 hacc5 hds => ?_
    · obtain ⟨rfl, ex⟩ := y
      obtain ⟨dd, ed, hdd⟩ := (hws.mono (Tu.trans l3.tup l.tup)).get' ex
      rw [List.getElem?_map] at ed
      obtain ⟨p, ep, rfl⟩ := Option.map_eq_some_iff.mp ed
      obtain ⟨a1, x1, x2, rfl, ha1, hx1, hx2⟩ := dv_two.mp hdd
      rw [dv_int] at hx2; subst hx2
      refine ⟨rfl, _, rfl, a1, _, 1, _, rfl, rfl, SqT.of ha1, at1, hk1 _ _ (Le.refl _) ?_⟩
      rw [List.getElem?_map, List.getElem?_map, ep] at hdi
      cases hdi
      exact Dv.int
    rw [dva_ints] at hds
    subst hds
    refine ⟨z1, fun u hu => ?_⟩
    have l6 : Le0 H5 (upd H5 u (.lst [.int 0])) := Le.new hu _
    have e6 : upd H5 u (.lst [.int 0]) u = some (.lst [.int 0]) := upd_same
    generalize upd H5 u (.lst [.int 0]) = H6 at l6 e6
    refine ⟨D4, u, _, _, rfl, rfl, l6.rest _ _ (fun z => z) hacc5, e6, small (by simp; omega), fun p hp => ?_⟩
    have e7 : upd H6 p (.lst ((((subs t).map fun p : List Str × Tm => ((dp p.2 : Nat) : Int)).map V.int) ++ [.int 0])) p = some (.lst ((((subs t).map fun p : List Str × Tm => ((dp p.2 : Nat) : Int)) ++ [0]).map V.int)) := by rw [upd_same, List.map_append]; rfl
    have l7 : Le0 H6 (upd H6 p (.lst ((((subs t).map fun p : List Str × Tm => ((dp p.2 : Nat) : Int)).map V.int) ++ [.int 0]))) := Le.new hp _
    generalize upd H6 p (.lst ((((subs t).map fun p : List Str × Tm => ((dp p.2 : Nat) : Int)).map V.int) ++ [.int 0])) = H7 at l7 e7
    refine ⟨p, _, rfl, SqL.of e7, by rw [List.length_append]; exact Nat.succ_pos _, fun m hm hmx => ⟨_, _, rfl, rfl, z2, fun r hr' => ?_⟩⟩
    refine q _ _ ((((((l1.trans l2).trans l3).trans l5).trans l6).trans l7).trans (Le.new hr' _)) ?_
    have hm2 : m = ((maxs ((subs t).map fun p => dp p.2) : Nat) : Int) := by
      refine Int.le_antisymm ?_ ?_
      · rcases List.mem_append.mp hm with h | h
        · obtain ⟨p, hp, rfl⟩ := List.mem_map.mp h
          have := le_maxs (show dp p.2 ∈ (subs t).map (fun p : List Str × Tm => dp p.2) from List.mem_map.mpr ⟨p, hp, rfl⟩)
          omega
        · rw [List.mem_singleton] at h; subst h; omega
      · have h0 : 0 ≤ m := hmx 0 (List.mem_append_right _ List.mem_cons_self)
        have : maxs ((subs t).map fun p => dp p.2) ≤ m.toNat := maxs_le fun x hx => by
          obtain ⟨p, hp, rfl⟩ := List.mem_map.mp hx
          have := hmx _ (List.mem_append_left _ (List.mem_map.mpr ⟨p, hp, rfl⟩))
          omega
        omega
    have hsum : ((subs t).map fun p => ((sz p.2 : Nat) : Int)).sum = ((((subs t).map fun p => sz p.2).sum : Nat) : Int) := by
      have : ∀ l : List (List Str × Tm), (l.map fun p => ((sz p.2 : Nat) : Int)).sum = (((l.map fun p => sz p.2).sum : Nat) : Int) := by
        intro l
        induction l with
        | nil => rfl
        | cons a l ih => rw [List.map_cons, List.map_cons, List.sum_cons, List.sum_cons, ih]; omega
      exact this _
    have e1 : (sz t : Int) = 1 + ((subs t).map fun p => ((sz p.2 : Nat) : Int)).sum := by rw [hsum, sz_is t]; omega
    have e2 : (dp t : Int) = 1 + m := by rw [hm2, dp_is t]; omega
    refine Dv.mk hr' (.cons ?_ (.cons ?_ .nil))
    · rw [e1]; exact Dv.int
    · rw [e2]; exact Dv.int
  obtain ⟨a, r0, rfl, ha⟩ := dt_head hv
  have ha1 := l1.tup _ _ ha
  refine ⟨_, rfl, a, _, 0, _, rfl, rfl, SqT.of ha1, at0, rfl, _, rfl, ?_⟩
  cases t with
  | name x =>
    refine iteF ?_
    exact tail _ _ D [] ⟨_, rfl⟩ (Le.refl _) eD .nil
  | hole h xs =>
    rw [show (!decide (V.str (tag (.hole h xs)) = V.str "name")) = true by rw [decide_eq_false (show ¬ V.str (tag (.hole h xs)) = V.str "name" from s_hn)]; rfl]
    refine iteT ?_
    obtain ⟨a', bb, ws, e, ha', hbb, hw⟩ := dt_hole.mp (hv.mono l1.tup)
    cases e
    have hwl := hw.length
    rw [List.length_map] at hwl
    rw [sz_hole] at hs
    refine ⟨_, rfl, a, _, 2, _, rfl, rfl, SqT.of ha', at2, bb, rfl, ⟨_, SqT.of hbb⟩, fun D2 hD2 => ?_⟩
    refine lc_map walk_tup ((subs (.hole h xs)).map fun p => sizeD p.2) hD2 (smallL (by omega)) (by show (List.map _ (xs.map _)).length = _; simp [hwl]) (fun H1 l => SqT.of (l.tup _ _ hbb)) (fun i x d H10 H2 hi hdi l y k1 hk1 => ?_) fun acc H2 l2 hacc hds => ?_
    · obtain ⟨rfl, ex⟩ := y
      obtain ⟨z, c', ez, rfl, hc'⟩ := nm_at (hw.mono l.tup) ex
      have hmm : (([] : List Str), Tm.name z) ∈ subs (.hole h xs) := List.mem_map.mpr ⟨z, get_mem ez, rfl⟩
      have d1 := dp_subs hmm
      have hz2 : sz (.name z) = 1 := sz_name z
      have d1 : dp (.name z) + 1 ≤ dp (.hole h xs) := d1
      refine ⟨rfl, _, rfl, a, _, 0, _, rfl, rfl, SqT.of (l.tup _ _ ha'), at0, rfl, _, rfl, ifF s_hf ?_⟩
      refine ⟨_, rfl, .ref c', .name z, rfl, dt_name.mpr ⟨c', rfl, hc'⟩, by omega, by omega, fun v' H' l' hv' => hk1 _ _ l' ?_⟩
      have : d = sizeD (.name z) := by
        have hdi : ((xs.map fun x => (([] : List Str), Tm.name x)).map fun p => sizeD p.2)[i]? = some d := hdi
        rw [List.getElem?_map, List.getElem?_map, ez] at hdi
        exact (Option.some.inj hdi).symm
      rw [this]; exact hv'
    · exact tail _ _ D2 acc ⟨_, rfl⟩ l2 hacc hds
  | form f1 ps =>
    rw [show (!decide (V.str (tag (.form f1 ps)) = V.str "name")) = true by rw [decide_eq_false (show ¬ V.str (tag (.form f1 ps)) = V.str "name" from s_fn)]; rfl]
    refine iteT ?_
    obtain ⟨a', bb, ws, e, ha', hbb, hw⟩ := dt_form.mp (hv.mono l1.tup)
    cases e
    have hwl := hw.length
    rw [List.length_map] at hwl
    refine ⟨_, rfl, a, _, 2, _, rfl, rfl, SqT.of ha', at2, bb, rfl, ⟨_, SqT.of hbb⟩, fun D2 hD2 => ?_⟩
    refine lc_map walk_tup ((subs (.form f1 ps)).map fun p => sizeD p.2) hD2 (smallL (by have : ps.length ≤ sz (.form f1 ps) := hlen; omega)) (by show (List.map _ ps).length = _; simp [hwl]) (fun H1 l => SqT.of (l.tup _ _ hbb)) (fun i x d H10 H2 hi hdi l y k1 hk1 => ?_) fun acc H2 l2 hacc hds => ?_
    · obtain ⟨rfl, ex⟩ := y
      obtain ⟨pp, a3, b3, y3, ep, rfl, ha3, hb3, hy3⟩ := part_at (hw.mono l.tup) ex
      have hmm : pp ∈ subs (.form f1 ps) := get_mem ep
      have d1 := dp_subs hmm
      have s1 := sz_subs hmm
      refine ⟨rfl, _, rfl, a, _, 0, _, rfl, rfl, SqT.of (l.tup _ _ ha'), at0, rfl, _, rfl, ifT rfl ?_⟩
      refine ⟨_, rfl, a3, _, 1, _, rfl, rfl, SqT.of ha3, at1, y3, pp.2, rfl, hy3, by omega, by omega, fun v' H' l' hv' => hk1 _ _ l' ?_⟩
      have : d = sizeD pp.2 := by
        have hdi : (ps.map fun p => sizeD p.2)[i]? = some d := hdi
        rw [List.getElem?_map, ep] at hdi
        exact (Option.some.inj hdi).symm
      rw [this]; exact hv'
    · exact tail _ _ D2 acc ⟨_, rfl⟩ l2 hacc hds
abbrev N_l_fits : List Str := ["_law_entry_here", "_law_sorts", "_law_sort", "_law_term_here", "_law_rows_here", "_law_h", "_law_k"]
theorem sc_l_fits : FnScope N_l_fits ["_law_entry_here", "_law_sorts", "_law_sort", "_law_term_here"] (defScope s_l_fits) := ⟨rfl, rfl, rfl, by decide +kernel, rfl, by decide +kernel, by decide +kernel⟩
abbrev sc_fits : Scope := lcScope (defBody s_l_fits)[2]?
theorem ok_l_fits (F : Fun K "_law_fits" "_law_fits" s_l_fits f fd) (B : Bt mg) (c_l_laid : Cal P w K mg base 34 "_law_laid" ["_law_pattern", "_law_term_here", "_law_rows_here"] (spLaid 16)) : FnOk P w K mg base CX0 35 f fd ["_law_entry_here", "_law_sorts", "_law_sort", "_law_term_here"] spFits := by
  refine F.ok sc_l_fits (fun vs H Q E h => by obtain ⟨ev, sv, v, T, e, ss, s, t, rfl, _⟩ := h; rfl) (fun cdv A outer s H vs Q E hr h => ?_)
  obtain ⟨ev, sv, v, T, e, ss, s0, t, rfl, hev, hsv, hv, he, hty, hnt, hd, hs, q0, q1⟩ := h
  have hu := hu_of hr
  refine ⟨_, (pss_cons (ps_set (i := 4) sc_l_fits.nd rfl (by first | exact Or.inl rfl | exact Or.inr rfl) (pe_dnewK))
  (pss_cons (ps_if (PW.pt (pw_or (pt_cmpR (neP (K := K) rfl hr.units) (pe_ix (ixT (K := K) rfl) (pv 0) (pe_int) (fun _ _ => rfl)) (pv 1) (nomark _)) (pw_or (pt_cmpR op_ne (pe_ix (ixT (K := K) rfl) (pv 0) (pe_int) (fun _ _ => rfl)) (pv 2) (nomark _)) (pw_or1 (pt_not (pt_val (pe_cal c_l_laid (hr.mono (by omega)) (by rfl) (pa_cons (pe_ix (ixT (K := K) rfl) (pv 0) (pe_int) (fun _ _ => rfl)) (pa_cons (pv 3) (pa_cons (pv 4) pa_nil)))))))))) (pss_one (ps_ret (pe_non))) pss_nil)
  (pss_one (ps_ret (pe_lc (own := [("_law_h", 5)]) rfl sc_l_fits.nd (piL (K := K) rfl (pe_callB (call_sortedD rfl) (by rfl) B.sorted bv_sorted (pa_cons (pv 4) pa_nil))) (blkOk_by (own := [("_law_h", 5)]) (N := N_l_fits) (sc := defScope s_l_fits) (by decide +kernel)) (fun _ _ _ _ _ => pg_name (i := 5) sc_l_fits.nd rfl (by first | exact Or.inl rfl | exact Or.inr rfl)) (fun _ _ _ _ _ => pts_nil) (fun _ _ _ _ _ => pe_tup (pa_cons (pv 5) (pa_cons (pe_callTy (tupQ (K := K) rfl) (by rfl) B.tuple bv_tuple (pa_cons (pe_lc (own := [("_law_k", 6)]) rfl sc_l_fits.nd (pi_range1 (by rfl) B.range (pa_cons (pe_ix (ixT (K := K) rfl) (pe_dget hu (pv 4) (pv 5) (fun _ _ => rfl)) (pe_int) (fun _ _ => rfl)) pa_nil)) (blkOk_by (own := [("_law_k", 6)]) (N := N_l_fits) (sc := relS sc_fits (defScope s_l_fits)) (by decide +kernel)) (fun _ _ _ _ _ => pg_name (i := 6) sc_l_fits.nd rfl (by first | exact Or.inl rfl | exact Or.inr rfl)) (fun _ _ _ _ _ => pts_nil) (fun _ _ _ _ _ => pe_callTy call_str_int (by rfl) B.str bv_str (pa_cons (pv 6) pa_nil))) pa_nil)) (pa_cons (pe_ix (ixT (K := K) rfl) (pe_dget hu (pv 4) (pv 5) (fun _ _ => rfl)) (pe_int) (fun _ _ => rfl)) pa_nil))))))))), ?_⟩
  obtain ⟨ea, us, rfl, hea, hus⟩ := dv_tup.mp hev
  obtain ⟨u1, us, rfl, d1, hus⟩ := dva_cons.mp hus
  obtain ⟨u2, us, rfl, d2, hus⟩ := dva_cons.mp hus
  obtain ⟨u3, us, rfl, d3, hus⟩ := dva_cons.mp hus
  obtain ⟨u4, us, rfl, d4, hus⟩ := dva_cons.mp hus
  obtain rfl := dva_nil.mp hus
  rw [dv_int] at d3; subst d3
  refine fun g hg => ?_
  have l1 : Le0 H (upd H g (.dK [])) := Le.new hg _
  have eg : upd H g (.dK []) g = some (.dK []) := upd_same
  generalize upd H g (.dK []) = H1 at l1 eg
  have hea1 := l1.tup _ _ hea
  refine ⟨_, rfl, ea, _, 1, _, rfl, rfl, SqT.of hea1, at1, _, rfl, intsD e.sorts, intsD ss, (d2.mono l1.tup).dp, (hsv.mono l1.tup).dp, pd_ints _, pd_ints _, Nat.le_trans (depth_ints _) (by decide), fun bo hbo => ⟨bo, rfl, ?_⟩⟩
  by_cases hss : e.sorts = ss
  · rw [show bo = false from Bool.eq_false_iff.mpr fun z => hbo.mp z (by rw [hss])]
    refine iteF ?_
    refine ⟨_, rfl, ea, _, 2, _, rfl, rfl, SqT.of hea1, at2, _, rfl, rfl, _, rfl, ?_⟩
    by_cases hs1 : e.sort = s0
    · rw [show (!decide (V.int e.sort = V.int s0)) = false by rw [decide_eq_true (by rw [hs1])]; rfl]
      refine iteF ?_
      have hM : MatchOk e.pat t ss.length := by
        have := he.match hty (by rw [hss]; exact hnt) hd hs
        rw [hss] at this; exact this
      have hF : fitsE e ss s0 t = (laid e.pat t []).1 := by
        unfold fitsE
        rw [decide_eq_true hss, decide_eq_true hs1, Bool.true_and, Bool.true_and]
      have h60 := hM.s1
      have small0 := laid_small (n := 1000) e.pat t [] (by omega) (fun e he => nomatch he)
      have hlen := laid_len e.pat t []
      refine ⟨_, rfl, ea, _, 3, _, rfl, rfl, SqT.of hea1, at3, _, rfl, _, rfl, ?_⟩
      refine ⟨u4, v, g, e.pat, t, ss.length, [], [], rfl, d4.mono l1.tup, hv.mono l1.tup, eg, ⟨rfl, .nil⟩, ⟨hM.ali, hM.nt, by have := hM.lo; omega, hM.dp1, hM.dp2, by omega, hs⟩, (by show 0 + sz e.pat ≤ 5000; omega), (fun e he => nomatch he), fun H2 kvs2 l2 eg2 k2 => ⟨_, rfl, ?_⟩⟩
      have L2 : Le0 H H2 := by
        have l8 := (l1.any (M := fun a => a = g)).trans l2
        refine ⟨l8.tup, fun p o hp ho => ?_, l8.dom⟩
        refine l8.rest p o (fun z => ?_) ho
        subst z; rw [hg] at ho; cases ho
      cases e1 : (laid e.pat t []).1 with
      | false => exact iteT (q0 H2 L2 (by rw [hF]; exact e1))
      | true =>
        refine iteF ?_
        generalize hGG : (laid e.pat t []).2 = G at k2 small0 hlen
        have kl := k2.len
        rw [List.length_nil, Nat.zero_add] at hlen
        refine ⟨_, rfl, g, kvs2, G.map (·.1), rfl, .inl eg2, by rw [k2.1, List.map_map]; rfl, by rw [List.length_map]; omega, fun ys a hp hsd ha => ?_⟩
        have hys := upS_eq hp hsd
        have l3 : Le0 H2 (upd H2 a (.lst (ys.map V.str))) := Le.new ha _
        have e3 : upd H2 a (.lst (ys.map V.str)) a = some (.lst (ys.map V.str)) := upd_same
        show ∃ a, _
        generalize upd H2 a (.lst (ys.map V.str)) = H3 at l3 e3
        have hyl : ys.length = G.length := by rw [hp.length_eq, List.length_map]
        refine ⟨a, rfl, ⟨_, SqL.of e3⟩, fun D hD => ?_⟩
        have hll : (ys.map V.str).length = ys.length := List.length_map _
        refine lc_map walk_list ((rowsG G).map rowD) hD (smallL (by omega)) (by unfold rowsG; rw [List.length_map, List.length_map, ← hys, hll]) (fun H2 l => SqL.of (l.rest _ _ (fun z => z) e3)) (fun i x d H40 H4 hi hd l y k1 hk => ?_) fun acc H4 l4 hacc hds => ?_
        · obtain ⟨rfl, ex⟩ := y
          rw [List.getElem?_map] at ex
          obtain ⟨h, eh, rfl⟩ := Option.map_eq_some_iff.mp ex
          have hm : h ∈ G.map (·.1) := hp.mem_iff.mp (get_mem eh)
          obtain ⟨r, hr1⟩ := lookup_ex hm
          have lt := l3.trans l
          have eg4 := lt.rest _ _ (fun z => z) eg2
          obtain ⟨rv, hrv, drv⟩ := ((k2.mono lt.tup).look h).2 r hr1
          obtain ⟨a1, x1, y1, rfl, ha1, hx1, hy1⟩ := dv_two.mp drv
          rw [dv_int] at hx1; subst hx1
          have hr1000 := small0 _ (lookup_mem hr1)
          have hr1000 : r.1 ≤ 1000 := hr1000
          refine ⟨rfl, _, rfl, _, rfl, _, rfl, g, _, rfl, dget_str (.inl eg4) hrv, a1, _, 0, _, rfl, rfl, SqT.of ha1, at0, (r.1 : Int), rfl, by omega, by omega, fun D5 hD5 => ?_⟩
          rw [Int.toNat_natCast]
          refine lc_map walk_range ((figs 0 r.1).map strD) hD5 (smallL (by omega)) (by simp [figs_length]) (fun _ _ => trivial) (fun j x d H1 H2 hi hdi l y k1 hk1 => ?_) fun acc H5 l5 hacc hds => ?_
          · obtain ⟨rfl, rfl⟩ := y
            refine ⟨rfl, _, rfl, _, rfl, nat_log (by omega) (by omega), hk1 _ _ (Le.refl _) ?_⟩
            rw [List.getElem?_map, figs_get hi] at hdi
            cases hdi
            rw [show (0 : Int) + (j : Int) = ((0 + j : Nat) : Int) by omega]
            exact Dv.str
          refine ⟨D5, acc, rfl, SqL.of hacc, fun o ho => ?_⟩
          have d6 : Dv (upd H5 o (.tup acc)) (strsD (figs 0 r.1)) (.ref o) := Dv.mk ho hds
          have l6 : Le0 H4 (upd H5 o (.tup acc)) := l5.trans (Le.new ho _)
          have eg5 := l5.rest _ _ (fun z => z) eg4
          generalize upd H5 o (.tup acc) = H6 at d6 l6
          refine ⟨_, rfl, _, rfl, g, _, rfl, dget_str (.inl (l6.rest _ _ (fun z => z) eg4)) hrv, a1, _, 1, _, rfl, rfl, SqT.of (l6.tup _ _ ha1), at1, z3, fun p hp' => ?_⟩
          refine hk _ _ (l6.trans (Le.new hp' _)) ?_
          have : d = rowD (h, r) := by
            rw [List.getElem?_map] at hd
            unfold rowsG at hd
            rw [List.getElem?_map, ← hys, eh] at hd
            rw [← Option.some.inj hd]
            show rowD (h, (List.lookup h G).getD (0, .name h)) = _
            rw [hr1]; rfl
          rw [this]
          exact Dv.mk hp' (.cons Dv.str (.cons d6 (.cons (hy1.mono l6.tup) .nil)))
        · refine q1 D acc H4 ((L2.trans l3).trans l4) ((L2.trans l3).nil hD) hacc ?_ (by rw [hF]; exact e1)
          unfold rowsE
          rw [hGG]; exact hds
    · rw [show (!decide (V.int e.sort = V.int s0)) = true by rw [decide_eq_false (fun z => hs1 (by injection z))]; rfl]
      refine iteT ?_
      exact iteT (q0 H1 l1 (by unfold fitsE; rw [decide_eq_false hs1, Bool.false_and, Bool.and_false]))
  · rw [hbo.mpr fun z => hss (intsD_inj z)]
    refine iteT ?_
    exact iteT (q0 H1 l1 (by unfold fitsE; rw [decide_eq_false hss, Bool.false_and]))
end
end Nh
/-! ## NhL13 -/
set_option maxHeartbeats 8000000
namespace Nh
open PySem PySem.Spec PyProof.Rows L2
theorem NmK.figs2 (n : Nat) {ss : List Int} (hl : ss.length = n) : ∃ ks, NmK (mergeK [] (prs (Nh.figs 0 n) (ss.map V.int))) ks (bindG noG (Nh.figs 0 n) ss) ∧ (∀ x ∈ ks, ∃ i, i < n ∧ x = fig i) ∧ ks.length ≤ n ∧ ks.Perm (Nh.figs 0 n) := by
  obtain ⟨ks, h1, h2, h3⟩ := NmK.figs n hl
  obtain ⟨ks', k1, k2, k3⟩ := keys_upd (kvs := []) (ks := []) (zs := Nh.figs 0 n) (vs := ss.map V.int) rfl List.nodup_nil (by simp [figs_length, hl])
  refine ⟨ks, h1, h2, h3, ?_⟩
  refine (List.perm_ext_iff_of_nodup h1.nd (figs_nodup _ _)).mpr fun x => ?_
  have e : ks.map (Sum.inr : Str → Key) = ks'.map Sum.inr := h1.keys.symm.trans k1
  have : ks = ks' := (List.map_inj_right fun a b e => Sum.inr.inj e).mp e
  rw [this, k3]; simp
theorem sorted_figs {n : Nat} {ys : List Str} (hn : n ≤ 2) (hp : ys.Perm (figs 0 n)) (hs : sortedS ys = true) : ys = figs 0 n := by
  have h2 : sortedS (figs 0 n) = true := by
    have : n = 0 ∨ n = 1 ∨ n = 2 := by omega
    rcases this with rfl | rfl | rfl <;> decide +kernel
  rw [upS_eq hp hs, ← upS_eq (List.Perm.refl _) h2]
theorem ty_figs {T : Tg} {ss : List Int} {t : Tm} {s : Int} (h : Ty T (figG ss) t s) : Ty T (figG ss) (neatT (figs 0 ss.length) t) s := ty_ren h _ _ _ (neat_cond (figs_nodup _ _) (figs_length _ _))
theorem nt_figs {T : Tg} (hT : Slim T) {ss : List Int} {t : Tm} {s : Int} (h : Ty T (figG ss) t s) : Nt ss.length (neatT (figs 0 ss.length) t) := by
  have := nt_ren hT h (bindN (fun x => x) (figs 0 ss.length) 0) (figs 0 ss.length).length fun x r e => by
    obtain ⟨i, hi, rfl, _⟩ := figG_get e
    refine ⟨i, by rw [figs_length]; exact hi, ?_⟩
    exact bindN_at (figs_nodup _ _) (by rw [figs_get hi, Nat.zero_add])
  rw [figs_length] at this
  unfold neatT
  rw [figs_length]
  exact this
theorem figs_self {ss : List Int} (hl : ss.length ≤ 10) : Cond (figG ss) (fun x => x) 100 (figG ss) := by
  refine ⟨fun x r h => h, fun x y r q _ _ e => e, fun x r h m hm => ?_⟩
  obtain ⟨i, hi, rfl, _⟩ := figG_get h
  intro e
  have := fig_inj e; omega
/-- a made term -/
theorem made_ok {T : Tg} (hT : TgOk T) {e : Ent} (he : EntOk T e) {R : Rws} (hR : RowsOk T R) : Ty T (figG e.sorts) (giv (rwOf R) (fun x => x) 100 e.pat) e.sort ∧ sz (giv (rwOf R) (fun x => x) 100 e.pat) ≤ 780 ∧ dp (giv (rwOf R) (fun x => x) 100 e.pat) ≤ 11 := by
  have hb : ∀ h own body, rwOf R h = some (own, body) → sz body ≤ 13 ∧ dp body ≤ 3 := fun h own body e => by
    obtain ⟨r, er, e2⟩ := Option.map_eq_some_iff.mp (show (R.lookup h).map _ = some (own, body) from e)
    obtain ⟨ss, s, _, _, _, _, h5, h6⟩ := hR.row _ (lookup_mem er)
    injection e2 with _ e4
    subst e4; exact ⟨h5, h6⟩
  refine ⟨ty_giv hR.rw he.ty _ _ _ (figs_self he.len), ?_, ?_⟩
  · have := sz_giv (B := 13) (by decide) (fun h own body e => (hb h own body e).1) e.pat (fun x => x) 100
    have := he.s; omega
  · have := dp_giv (D := 3) (fun h own body e => (hb h own body e).2) e.pat (fun x => x) 100
    have := he.d; omega
theorem RowsOk.made {T : Tg} (hT : TgOk T) {R : Rws} (h : RowsOk T R) : ∀ r ∈ R, Thin r.2.2 ∧ dp r.2.2 ≤ 4 ∧ sz r.2.2 ≤ 100 ∧ r.2.1 ≤ 10 := fun r hr => by
  obtain ⟨ss, s, h1, h2, h3, h4, h5, h6⟩ := h.row r hr
  exact ⟨h4.thin hT.fit.slim, by omega, by omega, by omega⟩
def spEntryL : Sp := fun vs H Q _ => ∃ (tp o od : Addr) (tg : V) (T : Tg) (bk : Bk) (nx c : Int), vs = [.ref tp, tg, .ref o] ∧ Tape H tp c ∧ c + 200000 ≤ big ∧ Dv H (tgD T) tg ∧ TgOk T ∧ OwnAt H o od bk nx ∧ BkOk T bk nx ∧ o ≠ tp ∧ od ≠ tp ∧ (∀ p ∈ bk, p.2.sorts.length ≤ 6) ∧
  ∀ v e H', Le (atT tp) H H' → Dv H' (entD e) v → EntOk T e → e.sorts.length ≤ 6 → Tape H' tp (c + 10000) → Q v H'
def Ents (bk : Bk) : Prop := ∀ p ∈ bk, p.2.sorts.length ≤ 6
section
variable {P : Program} {w : World} {K : PySem.W.Frag} {mg : Str → Option Value} {base : Heap} {f : Addr} {fd : FuncData}
abbrev N_l_entry : List Str := ["_law_tape_here", "_law_tongue_here", "_law_own", "_law_word", "_law_names", "_law_numbers", "_law_sorts", "_law_sort", "_law_old", "_law_pattern", "_law_k", "_law_its"]
theorem sc_l_entry : FnScope N_l_entry ["_law_tape_here", "_law_tongue_here", "_law_own"] (defScope s_l_entry) := ⟨rfl, rfl, rfl, by decide +kernel, rfl, by decide +kernel, by decide +kernel⟩
theorem ok_l_entry (F : Fun K "_law_entry" "_law_entry" s_l_entry f fd) (B : Bt mg) (c_l_take : Cal P w K mg base 1 "_law_take" ["_law_tape_here", "_law_many"] spTake) (c_l_term : Cal P w K mg base 9 "_law_term" ["_law_tape_here", "_law_tongue_here", "_law_names", "_law_sort", "_law_deep", "_law_way"] (spTerm 3))
    (c_l_neat : Cal P w K mg base 18 "_law_neat" ["_law_names", "_law_term_here"] (spLNeat K)) (c_l_made : Cal P w K mg base 18 "_law_made" ["_law_term_here", "_law_rows_here"] spMade) (c_l_rows : Cal P w K mg base 19 "_law_rows" ["_law_tape_here", "_law_tongue_here", "_law_deep", "_law_way"] spRows)
    (c_l_size : Cal P w K mg base 16 "_law_size" ["_law_term_here"] (spSize 16)) : FnOk P w K mg base CX0 20 f fd ["_law_tape_here", "_law_tongue_here", "_law_own"] spEntryL := by
  refine F.ok sc_l_entry (fun vs H Q E h => by obtain ⟨tp, o, od, tg, T, bk, nx, c, rfl, _⟩ := h; rfl) (fun cdv A outer s H vs Q E hr h => ?_)
  obtain ⟨tp, o, od, tg, T, bk, nx, c, rfl, ht, hc, htg, hT, hown, hbk, oT, dT, hes, q⟩ := h
  have hu := hu_of hr
  have hbig : big = 1000000000000 := rfl
  refine ⟨_, (pss_cons (ps_set (i := 3) sc_l_entry.nd rfl (by first | exact Or.inl rfl | exact Or.inr rfl) (pe_ix (ixL (K := K) rfl) (pe_lst (pa_cons (pe_str) (pa_cons (pe_str) (pa_cons (pe_str) (pa_cons (pe_str) (pa_cons (pe_str) pa_nil)))))) (pe_cal c_l_take (hr.mono (by omega)) (by rfl) (pa_cons (pv 0) (pa_cons (pe_int) pa_nil))) (fun _ _ => rfl)))
  (pss_cons (ps_if (PW.pt (pw_and (pt_cmpR (op_ne0 hr.units0) (pe_dget hu (pv 2) (pe_str) (fun _ _ => rfl)) (pe_dnewK) (nomark _)) (pw_and1 (pt_cmpR op_gt (pe_cal c_l_take (hr.mono (by omega)) (by rfl) (pa_cons (pv 0) (pa_cons (pe_int) pa_nil))) (pe_int) (nomark _))))) (pss_cons (ps_set (i := 5) sc_l_entry.nd rfl (by first | exact Or.inl rfl | exact Or.inr rfl) (pe_callB (call_sortedDI rfl) (by rfl) B.sorted bv_sorted (pa_cons (pe_dget hu (pv 2) (pe_str) (fun _ _ => rfl)) pa_nil)))
  (pss_cons (ps_asg (pe_dget hu (pe_dget hu (pv 2) (pe_str) (fun _ _ => rfl)) (pe_ix (ixL (K := K) rfl) (pv 5) (pe_cal c_l_take (hr.mono (by omega)) (by rfl) (pa_cons (pv 0) (pa_cons (pe_callB (lenQ (K := K) rfl) (by rfl) B.len bv_len (pa_cons (pv 5) pa_nil)) pa_nil))) (fun _ _ => rfl)) (fun _ _ => rfl)) (pgT (K := K) (n := 4) rfl rfl (pgs_cons (pg_name (i := 8) sc_l_entry.nd rfl (by first | exact Or.inl rfl | exact Or.inr rfl)) (pgs_cons (pg_name (i := 6) sc_l_entry.nd rfl (by first | exact Or.inl rfl | exact Or.inr rfl)) (pgs_cons (pg_name (i := 7) sc_l_entry.nd rfl (by first | exact Or.inl rfl | exact Or.inr rfl)) (pgs_cons (pg_name (i := 9) sc_l_entry.nd rfl (by first | exact Or.inl rfl | exact Or.inr rfl)) pgs_nil))))))
  (pss_cons (ps_if (pt_cmpR op_gt (pe_cal c_l_take (hr.mono (by omega)) (by rfl) (pa_cons (pv 0) (pa_cons (pe_int) pa_nil))) (pe_int) (nomark _)) (pss_cons (ps_setLc (i := 4) (own := [("_law_k", 10)]) rfl sc_l_entry.nd rfl rfl (sw_true rfl rfl rfl (by decide +kernel)) (pi_range1 (by rfl) B.range (pa_cons (pe_callB (lenQ (K := K) rfl) (by rfl) B.len bv_len (pa_cons (pv 6) pa_nil)) pa_nil)) (blkOk_by (own := [("_law_k", 10)]) (N := N_l_entry) (sc := defScope s_l_entry) (by decide +kernel)) (fun _ _ _ _ _ => pg_name (i := 10) sc_l_entry.nd rfl (by first | exact Or.inl rfl | exact Or.inr rfl)) (fun _ _ _ _ _ => pts_nil) (fun _ _ _ _ _ => pe_callTy call_str_int (by rfl) B.str bv_str (pa_cons (pv 10) pa_nil)))
  (pss_one (ps_set (i := 9) sc_l_entry.nd rfl (by first | exact Or.inl rfl | exact Or.inr rfl) (pe_cal c_l_neat (hr.mono (by omega)) (by rfl) (pa_cons (pv 4) (pa_cons (pe_cal c_l_made (hr.mono (by omega)) (by rfl) (pa_cons (pv 9) (pa_cons (pe_cal c_l_rows (hr.mono (by omega)) (by rfl) (pa_cons (pv 0) (pa_cons (pv 1) (pa_cons (pe_int) (pa_cons (pe_int) pa_nil))))) pa_nil))) pa_nil)))))) pss_nil)
  (pss_one (ps_if (PW.pt (pw_and (pt_cmpR op_lt (pe_ix (ixT (K := K) rfl) (pe_cal c_l_size (hr.mono (by omega)) (by rfl) (pa_cons (pv 9) pa_nil)) (pe_int) (fun _ _ => rfl)) (pe_int) (nomark _)) (pw_and1 (pt_cmpR op_lt (pe_ix (ixT (K := K) rfl) (pe_cal c_l_size (hr.mono (by omega)) (by rfl) (pa_cons (pv 9) pa_nil)) (pe_int) (fun _ _ => rfl)) (pe_int) (nomark _))))) (pss_one (ps_ret (pe_tup (pa_cons (pv 3) (pa_cons (pv 6) (pa_cons (pv 7) (pa_cons (pv 9) pa_nil))))))) pss_nil))))) pss_nil)
  (pss_cons (ps_par (i := 6) (j := 7) rfl sc_l_entry.nd rfl rfl (by decide) rfl rfl (pa_cons (pe_ix (ixL (K := K) rfl) (pe_lst (pa_cons (pe_tup (pa_cons (pe_int) (pa_cons (pe_int) pa_nil))) (pa_cons (pe_tup (pa_cons (pe_int) pa_nil)) (pa_cons (pe_tup pa_nil) (pa_cons (pe_tup (pa_cons (pe_int) (pa_cons (pe_int) pa_nil))) (pa_cons (pe_tup (pa_cons (pe_int) (pa_cons (pe_int) pa_nil))) pa_nil)))))) (pe_cal c_l_take (hr.mono (by omega)) (by rfl) (pa_cons (pv 0) (pa_cons (pe_int) pa_nil))) (fun _ _ => rfl)) (pa_cons (pe_cal c_l_take (hr.mono (by omega)) (by rfl) (pa_cons (pv 0) (pa_cons (pe_int) pa_nil))) pa_nil)) (by rfl))
  (pss_cons (ps_set (i := 4) sc_l_entry.nd rfl (by first | exact Or.inl rfl | exact Or.inr rfl) (pe_callTy (dictP (K := K) rfl rfl) (by rfl) B.dict bv_dict (pa_cons (pe_lc (own := [("_law_k", 10), ("_law_its", 11)]) rfl sc_l_entry.nd (enT (K := K) rfl (by rfl) B.enumerate (pa_cons (pv 6) pa_nil)) (blkOk_by (own := [("_law_k", 10), ("_law_its", 11)]) (N := N_l_entry) (sc := defScope s_l_entry) (by decide +kernel)) (fun _ _ _ _ _ => pgT (K := K) (n := 2) rfl rfl (pgs_cons (pg_name (i := 10) sc_l_entry.nd rfl (by first | exact Or.inl rfl | exact Or.inr rfl)) (pgs_cons (pg_name (i := 11) sc_l_entry.nd rfl (by first | exact Or.inl rfl | exact Or.inr rfl)) pgs_nil))) (fun _ _ _ _ _ => pts_nil) (fun _ _ _ _ _ => pe_tup (pa_cons (pe_callTy call_str_int (by rfl) B.str bv_str (pa_cons (pv 10) pa_nil)) (pa_cons (pv 11) pa_nil)))) pa_nil)))
  (pss_one (ps_ret (pe_tup (pa_cons (pv 3) (pa_cons (pv 6) (pa_cons (pv 7) (pa_cons (pe_cal c_l_neat (hr.mono (by omega)) (by rfl) (pa_cons (pe_callB (call_sortedD rfl) (by rfl) B.sorted bv_sorted (pa_cons (pv 4) pa_nil)) (pa_cons (pe_cal c_l_term (hr.mono (by omega)) (by rfl) (pa_cons (pv 0) (pa_cons (pv 1) (pa_cons (pv 4) (pa_cons (pv 7) (pa_cons (pe_int) (pa_cons (pe_int) pa_nil))))))) pa_nil))) pa_nil))))))))))), ?_⟩
  refine ⟨z5, fun u hu => ?_⟩
  have lu : Le0 H (upd H u (.lst [.str "", .str "a", .str "a", .str "two words", .str "~ 9"])) := Le.new hu _
  have eu : upd H u (.lst [.str "", .str "a", .str "a", .str "two words", .str "~ 9"]) u = some (.lst [.str "", .str "a", .str "a", .str "two words", .str "~ 9"]) := upd_same
  have uT : u ≠ tp := fun e => by obtain ⟨_, _, _, h, _⟩ := ht.ex; rw [e, h] at hu; cases hu
  show tCall _ _ _ _ _ _ _
  generalize upd H u (.lst [.str "", .str "a", .str "a", .str "two words", .str "~ 9"]) = K0 at lu eu
  refine ⟨_, rfl, tp, 5, _, rfl, ht.mono lu (fun z => z) (Int.le_refl _), by decide, by decide, by omega, fun j H1 hj0 hj1 l1 hT1 => ?_⟩
  have pick : ∃ wd : Str, atI ([.str "", .str "a", .str "a", .str "two words", .str "~ 9"] : List V) j = some (.str wd) := by
    have hj : j = 0 ∨ j = 1 ∨ j = 2 ∨ j = 3 ∨ j = 4 := by omega
    rcases hj with rfl | rfl | rfl | rfl | rfl
    · exact ⟨_, rfl⟩
    · exact ⟨_, rfl⟩
    · exact ⟨_, rfl⟩
    · exact ⟨_, rfl⟩
    · exact ⟨_, rfl⟩
  obtain ⟨wd, ewd⟩ := pick
  have LL1 : Le (atT tp) H H1 := lu.any.trans l1
  refine ⟨u, _, j, .str wd, rfl, rfl, SqL.of (l1.rest _ _ uT eu), ewd, ?_⟩
  clear ewd uT eu lu
  dsimp only [gName]
  show tSeq (tIfS ?t1 ?a1 ?b1) ?r ?D ?s H1
  have tail : ∀ (σ : L2.St) (H' : Hp), (∃ (x4 x5 x6 x7 x8 x9 x10 x11 : Option V), σ = [some (.ref tp), some tg, some (.ref o), some (.str wd), x4, x5, x6, x7, x8, x9, x10, x11]) → Le (atT tp) H H' → Tape H' tp (c + 6000) → ?r ?D σ H' := by
    clear hT1 LL1 l1
    rintro σ H1 ⟨x4, x5, x6, x7, x8, x9, x10, x11, rfl⟩ l1 hT1
    refine ⟨z2, fun p0 hp0 => ?_⟩
    have lp0 : Le0 H1 (upd H1 p0 (.tup [.int 0, .int 1])) := Le.new hp0 _
    have ep0 : upd H1 p0 (.tup [.int 0, .int 1]) p0 = some (.tup (([0, 1] : List Int).map V.int)) := upd_same
    generalize upd H1 p0 (.tup [.int 0, .int 1]) = K0 at lp0 ep0
    refine ⟨z1, fun p1 hp1 => ?_⟩
    have lp1 : Le0 K0 (upd K0 p1 (.tup [.int 0])) := Le.new hp1 _
    have ep1 : upd K0 p1 (.tup [.int 0]) p1 = some (.tup (([0] : List Int).map V.int)) := upd_same
    generalize upd K0 p1 (.tup [.int 0]) = K1 at lp1 ep1
    refine ⟨z0, fun p2 hp2 => ?_⟩
    have lp2 : Le0 K1 (upd K1 p2 (.tup [])) := Le.new hp2 _
    have ep2 : upd K1 p2 (.tup []) p2 = some (.tup (([] : List Int).map V.int)) := upd_same
    generalize upd K1 p2 (.tup []) = K2 at lp2 ep2
    refine ⟨z2, fun p3 hp3 => ?_⟩
    have lp3 : Le0 K2 (upd K2 p3 (.tup [.int 1, .int 0])) := Le.new hp3 _
    have ep3 : upd K2 p3 (.tup [.int 1, .int 0]) p3 = some (.tup (([1, 0] : List Int).map V.int)) := upd_same
    generalize upd K2 p3 (.tup [.int 1, .int 0]) = K3 at lp3 ep3
    refine ⟨z2, fun p4 hp4 => ?_⟩
    have lp4 : Le0 K3 (upd K3 p4 (.tup [.int 0, .int 0])) := Le.new hp4 _
    have ep4 : upd K3 p4 (.tup [.int 0, .int 0]) p4 = some (.tup (([0, 0] : List Int).map V.int)) := upd_same
    generalize upd K3 p4 (.tup [.int 0, .int 0]) = K4 at lp4 ep4
    refine ⟨z5, fun u hu => ?_⟩
    have lu : Le0 K4 (upd K4 u (.lst [.ref p0, .ref p1, .ref p2, .ref p3, .ref p4])) := Le.new hu _
    have eu : upd K4 u (.lst [.ref p0, .ref p1, .ref p2, .ref p3, .ref p4]) u = some (.lst [.ref p0, .ref p1, .ref p2, .ref p3, .ref p4]) := upd_same
    have uT : u ≠ tp := fun e => by obtain ⟨_, _, _, h, _⟩ := (hT1.mono (((((lp0).trans lp1).trans lp2).trans lp3).trans lp4) (fun z => z) (Int.le_refl _)).ex; rw [e, h] at hu; cases hu
    show tCall _ _ _ _ _ _ _
    generalize upd K4 u (.lst [.ref p0, .ref p1, .ref p2, .ref p3, .ref p4]) = KU at lu eu
    have LU : Le0 H1 KU := (((((lp0).trans lp1).trans lp2).trans lp3).trans lp4).trans lu
    refine ⟨_, rfl, tp, 5, _, rfl, hT1.mono LU (fun z => z) (Int.le_refl _), by decide, by decide, by omega, fun j H2 hj0 hj1 l2 hT2 => ?_⟩
    have pick : ∃ (pa : Addr) (ss : List Int), atI ([.ref p0, .ref p1, .ref p2, .ref p3, .ref p4] : List V) j = some (.ref pa) ∧ H2 pa = some (.tup (ss.map V.int)) ∧ ss.length ≤ 2 := by
      have hj : j = 0 ∨ j = 1 ∨ j = 2 ∨ j = 3 ∨ j = 4 := by omega
      rcases hj with rfl | rfl | rfl | rfl | rfl
      · exact ⟨p0, [0, 1], rfl, l2.tup _ _ ((((((lp1).trans lp2).trans lp3).trans lp4).trans lu).tup _ _ ep0), by decide⟩
      · exact ⟨p1, [0], rfl, l2.tup _ _ (((((lp2).trans lp3).trans lp4).trans lu).tup _ _ ep1), by decide⟩
      · exact ⟨p2, [], rfl, l2.tup _ _ ((((lp3).trans lp4).trans lu).tup _ _ ep2), by decide⟩
      · exact ⟨p3, [1, 0], rfl, l2.tup _ _ (((lp4).trans lu).tup _ _ ep3), by decide⟩
      · exact ⟨p4, [0, 0], rfl, l2.tup _ _ ((lu).tup _ _ ep4), by decide⟩
    obtain ⟨pa, ss, epa, hpa, hss⟩ := pick
    have LL2 := l1.trans (LU.any.trans l2)
    refine ⟨u, _, j, .ref pa, rfl, rfl, SqL.of (l2.rest _ _ uT eu), epa, ?_⟩
    refine ⟨_, rfl, tp, 2, _, rfl, hT2, by decide, by decide, by omega, fun sj H3 hs0 hs1 l3 hT3 => ⟨_, _, rfl, ?_⟩⟩
    have hbn : Bn sj := by unfold Bn; omega
    have hpa3 := l3.tup _ _ hpa
    have LL3 := LL2.trans l3
    have hsl : (ss.map V.int).length = ss.length := List.length_map _
    refine ⟨_, rfl, pa, _, rfl, SqT.of hpa3, fun D hD => ?_⟩
    refine lc_map walk_enumT (((figs 0 ss.length).zip (ss.map PyData.int)).map fun p => PyData.tuple [.str p.1, p.2]) hD (smallL (by omega)) (by simp [figs_length]) (fun H l => SqT.of (l.tup _ _ hpa3)) (fun i x d H4 H5 hi hdi l y k1 hk1 => ?_) fun acc H4 l4 hacc4 hds4 => ?_
    · obtain ⟨U, x1, x2, rfl, hU, rfl, f1, f2⟩ := y
      have hi2 : i < ss.length := by omega
      obtain ⟨r, er⟩ := get_ex (l := ss) (i := i) hi2
      obtain rfl : V.int (i : Nat) = x1 := Option.some.inj f1
      have f2 : (ss.map V.int)[i]? = some x2 := f2
      rw [List.getElem?_map, er] at f2
      obtain rfl := Option.some.inj f2
      refine ⟨U, _, rfl, SqT.of upd_same, rfl, _, _, rfl, _, _, rfl, rfl, rfl, _, rfl, _, rfl, nat_log (by omega) (by omega), _, rfl, z2, fun p hp => ?_⟩
      refine hk1 _ _ ((Le.new hU _).trans (Le.new hp _)) ?_
      have : d = .tuple [.str (fig i), .int r] := by
        rw [List.getElem?_map] at hdi
        obtain ⟨pq, epp, rfl⟩ := Option.map_eq_some_iff.mp hdi
        rw [List.getElem?_zip_eq_some, List.getElem?_map, er, figs_get hi2, Nat.zero_add] at epp
        obtain ⟨z1, z2⟩ := epp
        rw [← Option.some.inj z1, ← Option.some.inj z2]
      rw [this]
      exact Dv.mk hp (.cons Dv.str (.cons Dv.int .nil))
    obtain ⟨as, ws, rfl, la, lw, dw, pw⟩ := dv_prs (K := K) (by simp [figs_length]) hds4
    rw [dva_ints] at dw; subst dw
    refine ⟨D, as, _, rfl, SqL.of hacc4, pw, fun m hm => ?_⟩
    obtain ⟨ks, hK, hks, hkl, hkp⟩ := NmK.figs2 ss.length (ss := ss) rfl
    have l5 : Le0 H3 (upd H4 m (.dK (mergeK [] (prs (figs 0 ss.length) (ss.map V.int))))) := l4.trans (Le.new hm _)
    have em : upd H4 m (.dK (mergeK [] (prs (figs 0 ss.length) (ss.map V.int)))) m = some (.dK (mergeK [] (prs (figs 0 ss.length) (ss.map V.int)))) := upd_same
    have hT4 := hT3.mono l4 (fun z => z) (Int.le_refl _)
    have tm : tp ≠ m := fun e => by obtain ⟨_, _, _, h, _⟩ := hT4.ex; rw [e, hm] at h; cases h
    have hT5 := hT3.mono l5 (fun z => z) (Int.le_refl _)
    generalize upd H4 m (.dK (mergeK [] (prs (figs 0 ss.length) (ss.map V.int)))) = H5 at l5 em hT5
    refine ⟨_, rfl, _, rfl, _, rfl, ?_⟩
    refine ⟨_, rfl, m, _, ks, rfl, .inl em, hK.keys, by omega, fun ys sl hp hsd hsl2 => ?_⟩
    obtain rfl := sorted_figs (by omega) (hp.trans hkp) hsd
    have l6 : Le0 H5 (upd H5 sl (.lst ((figs 0 ss.length).map V.str))) := Le.new hsl2 _
    have e6 : upd H5 sl (.lst ((figs 0 ss.length).map V.str)) sl = some (.lst ((figs 0 ss.length).map V.str)) := upd_same
    have slT : sl ≠ tp := fun e => by obtain ⟨_, _, _, h, _⟩ := hT5.ex; rw [e, h] at hsl2; cases hsl2
    have hT6 := hT5.mono l6 (fun z => z) (Int.le_refl _)
    show tCons _ _ _ _ _
    generalize upd H5 sl (.lst ((figs 0 ss.length).map V.str)) = H6 at l6 e6 hT6
    have LL6 : Le (atT tp) H H6 := LL3.trans (l5.trans l6).any
    refine ⟨_, rfl, _, rfl, _, rfl, _, rfl, tp, m, tg, sj, 2, 1, _, T, _, ks, figG ss, rfl, hT6, by omega, htg.mono LL6.tup, hT, l6.rest _ _ (fun z => z) em, tm, ⟨hK, fun x hx0 _ hx => ?_, by omega⟩, hbn, by decide, by decide, .inr rfl, fun tv t H7 l7 htv hty hsz hdp hT7 => ?_⟩
    · obtain ⟨i, hi, e⟩ := hks _ hx
      have := fig_inj e; omega
    have hsz : sz t ≤ 40 := hsz
    have htb : tb 2 = 1600 := rfl
    have e7 := l7.rest _ _ slT e6
    refine ⟨sl, tv, figs 0 ss.length, t, rfl, SqL.of e7, fun H' l' => SqL.of (l'.rest _ _ (fun z => z) e7), htv, hty.thin hT.fit.slim, by omega, by omega, by rw [figs_length]; omega, fun nv H8 l8 hnv => ?_⟩
    have LL8 : Le (atT tp) H H8 := (LL6.trans l7).trans l8.any
    have hT8 := hT7.mono l8 (fun z => z) (Int.le_refl _)
    have nty : Ty T (figG ss) (neatT (figs 0 ss.length) t) sj := ty_figs hty
    have nnt : Nt ss.length (neatT (figs 0 ss.length) t) := nt_figs hT.fit.slim hty
    have nsz : sz (neatT (figs 0 ss.length) t) ≤ 40 := by rw [sz_neatT]; exact hsz
    have ndp : dp (neatT (figs 0 ss.length) t) ≤ 4 := by rw [dp_neatT]; exact hdp
    refine ⟨z4, fun p hp => ?_⟩
    refine q _ ⟨wd, ss, sj, neatT (figs 0 ss.length) t⟩ _ (LL8.trans (Le.new hp _)) ?_ ⟨nty, nnt, by show ss.length ≤ 10; omega, Nat.le_trans nsz (by decide), Nat.le_trans ndp (by decide)⟩ (by show ss.length ≤ 6; omega) ((hT8.mono (Le.new (M := noM) hp _) (fun z => z) (Int.le_refl _)).up (by omega))
    exact Dv.mk hp (.cons Dv.str (.cons (dv_ints.mpr ⟨pa, rfl, (Tu.trans (Tu.trans (Tu.trans l5.tup l6.tup) l7.tup) l8.tup) _ _ hpa3⟩) (.cons Dv.int (.cons hnv .nil))))
  obtain ⟨ho, kvs, hd, hk⟩ := id hown
  have ho1 := LL1.rest _ _ oT ho
  have own1 := hown.mono LL1 oT dT
  have hd1 := LL1.rest _ _ dT hd
  have hk1 := hk.mono LL1.tup
  have kl := hk.len
  have bl := hbk.len
  refine ⟨_, rfl, o, _, rfl, own_en own1, fun m hm => ?_⟩
  have l2 : Le0 H1 (upd H1 m (.dK [])) := Le.new hm _
  have e2 : upd H1 m (.dK []) m = some (.dK []) := upd_same
  generalize upd H1 m (.dK []) = H2 at l2 e2
  have hT2 := hT1.mono l2 (fun z => z) (Int.le_refl _)
  have LL2 := LL1.trans l2.any
  refine ⟨od, m, kvs, rfl, rfl, .inl (l2.rest _ _ (fun z => z) hd1), e2, _, rfl, ?_⟩
  cases hkv : kvs with
  | nil => exact iteF (tail _ _ ⟨_, _, _, _, _, _, _, _, rfl⟩ LL2 (hT2.up (by omega)))
  | cons kv0 kvr =>
    have hpos : 0 < kvs.length := by rw [hkv]; exact Nat.succ_pos _
    refine iteT ?_
    refine ⟨_, rfl, tp, 3, _, rfl, hT2, by decide, by decide, by omega, fun k H3 hk0 hk1' l3 hT3 => ⟨_, _, rfl, rfl, _, rfl, ?_⟩⟩
    have LL3 := LL2.trans l3
    by_cases hkk : (0 : Int) < k
    · refine ifT hkk ?_
      have own3 := hown.mono LL3 oT dT
      have hd3 := LL3.rest _ _ dT hd
      refine ⟨_, rfl, o, _, rfl, own_en own3, od, kvs, bk.map (·.1), rfl, .inl hd3, by rw [hk.1, List.map_map]; rfl, by rw [List.length_map]; omega, fun ys p hp hup hnp => ?_⟩
      obtain rfl := upI_eq hp hup hbk.up
      have l4 : Le0 H3 (upd H3 p (.lst (nosV bk))) := Le.new hnp _
      have e4 : upd H3 p (.lst (nosV bk)) p = some (.lst (nosV bk)) := upd_same
      have pT : p ≠ tp := fun e => by obtain ⟨_, _, _, h, _⟩ := hT3.ex; rw [e, h] at hnp; cases hnp
      show gName _ _ _ _ _
      generalize upd H3 p (.lst (nosV bk)) = H4 at l4 e4
      have hT4 := hT3.mono l4 (fun z => z) (Int.le_refl _)
      have LL4 := LL3.trans l4.any
      have own4 := hown.mono LL4 oT dT
      have hnl : (nosV bk).length = bk.length := by simp
      refine ⟨_, rfl, o, _, rfl, own_en own4, ?_⟩
      refine ⟨_, rfl, _, rfl, _, rfl, p, _, rfl, .inl (SqL.of e4), tp, _, _, rfl, hT4, by omega, by omega, by omega, fun i H5 hi0 hi1 l5 hT5 => ?_⟩
      have LL5 := LL4.trans l5
      obtain ⟨pp, ep⟩ := get_ex (l := bk) (i := i.toNat) (by omega)
      have hmem := get_mem ep
      refine ⟨p, _, i, .int pp.1, rfl, rfl, SqL.of (l5.rest _ _ pT e4), ?_, ?_⟩
      · have := atI_nat (xs := nosV bk) (j := i.toNat) (v := .int pp.1) (by rw [List.getElem?_map, List.getElem?_map, ep]; rfl)
        rw [show ((i.toNat : Nat) : Int) = i by omega] at this
        exact this
      have hd5 := LL5.rest _ _ dT hd
      obtain ⟨ev, hev, dev⟩ := (hk.mono LL5.tup).get hbk.nodup (k := pp.1) (e := pp.2) hmem
      have he : EntOk T pp.2 := hbk.ent pp hmem
      have he6 := hes pp hmem
      obtain ⟨ea, us, rfl, hea, hus⟩ := dv_tup.mp dev
      obtain ⟨u1, us, rfl, d1, hus⟩ := dva_cons.mp hus
      obtain ⟨u2, us, rfl, d2, hus⟩ := dva_cons.mp hus
      obtain ⟨u3, us, rfl, d3, hus⟩ := dva_cons.mp hus
      obtain ⟨u4, us, rfl, d4, hus⟩ := dva_cons.mp hus
      obtain rfl := dva_nil.mp hus
      rw [dv_int] at d3; subst d3
      obtain ⟨sa, rfl, hsa⟩ := dv_ints.mp d2
      refine ⟨od, _, rfl, dget_int (.inl hd5) hev, ?_⟩
      refine ⟨ea, _, rfl, SqT.of hea, rfl, _, _, rfl, _, _, rfl, _, _, rfl, _, _, rfl, rfl, ?_⟩
      dsimp only [gName]
      show tSeq (tIfS ?t2 ?a2 ?b2) ?r2 ?D2 ?s2 H5
      have tail2 : ∀ (σ : L2.St) (H' : Hp) (v : V) (p : Tm), (∃ (x4 x5 x8 x10 x11 : Option V), σ = [some (.ref tp), some tg, some (.ref o), some (.str wd), x4, x5, some (.ref sa), some (.int pp.2.sort), x8, some v, x10, x11]) → Dv H' (encT p) v → H' sa = some (.tup (pp.2.sorts.map V.int)) → Ty T (figG pp.2.sorts) p pp.2.sort → Nt pp.2.sorts.length p → sz p ≤ 1000 → dp p ≤ 16 → Le (atT tp) H H' → Tape H' tp (c + 5500) → ?r2 ?D2 σ H' := by
        rintro σ H6 v p6 ⟨x4, x5, x8, x10, x11, rfl⟩ hv hsa6 hty hnt hsz hdp l6 hT6
        refine ⟨_, rfl, v, p6, rfl, hv, hdp, hsz, fun v7 H7 l7 hv7 => ?_⟩
        obtain ⟨a7, y1, y2, rfl, ha7, hy1, hy2⟩ := dv_two.mp hv7
        rw [dv_int] at hy1; subst hy1
        refine ⟨a7, _, 0, _, rfl, rfl, SqT.of ha7, at0, _, _, rfl, rfl, _, rfl, ?_⟩
        by_cases h31 : ((sz p6 : Nat) : Int) < 31
        · refine ifT h31 ?_
          refine ⟨_, rfl, v, p6, rfl, hv.mono l7.tup, hdp, hsz, fun v8 H8 l8 hv8 => ?_⟩
          obtain ⟨a8, w1, w2, rfl, ha8, hw1, hw2⟩ := dv_two.mp hv8
          rw [dv_int] at hw2; subst hw2
          refine ⟨a8, _, 1, _, rfl, rfl, SqT.of ha8, at1, _, _, rfl, rfl, _, rfl, ?_⟩
          have LL8 := (l6.trans l7.any).trans l8.any
          have hT8 := hT6.mono (l7.trans l8) (fun z => z) (Int.le_refl _)
          by_cases h9 : ((dp p6 : Nat) : Int) < 9
          · refine ifT h9 ?_
            refine ⟨_, rfl, _, rfl, _, rfl, _, rfl, z4, fun p hp => ?_⟩
            refine q _ ⟨wd, pp.2.sorts, pp.2.sort, p6⟩ _ (LL8.trans (Le.new hp _)) ?_ ⟨hty, hnt, he.len, by show sz p6 ≤ 60; omega, by show dp p6 ≤ 8; omega⟩ he6 ((hT8.mono (Le.new (M := noM) hp _) (fun z => z) (Int.le_refl _)).up (by omega))
            exact Dv.mk hp (.cons Dv.str (.cons (dv_ints.mpr ⟨sa, rfl, (Tu.trans l7.tup l8.tup) _ _ hsa6⟩) (.cons Dv.int (.cons (hv.mono (Tu.trans l7.tup l8.tup)) .nil))))
          · refine ifF h9 ?_
            exact tail _ _ ⟨_, _, _, _, _, _, _, _, rfl⟩ LL8 (hT8.up (by omega))
        · refine ifF h31 ?_
          exact tail _ _ ⟨_, _, _, _, _, _, _, _, rfl⟩ (l6.trans l7.any) (hT6.mono l7 (fun z => z) (by omega))
      have hsl : (pp.2.sorts.map V.int).length = pp.2.sorts.length := List.length_map _
      have elen := he.len
      have hs60 := he.s
      have hd8 := he.d
      refine ⟨_, rfl, tp, 4, _, rfl, hT5, by decide, by decide, by omega, fun k4 H6 _ _ l6 hT6 => ⟨_, _, rfl, rfl, _, rfl, ?_⟩⟩
      have LL6 := LL5.trans l6
      have hsa6 := l6.tup _ _ hsa
      have d46 := d4.mono l6.tup
      by_cases h4 : (0 : Int) < k4
      · refine ifT h4 ?_
        refine ⟨_, rfl, sa, _, rfl, .inr (SqT.of hsa6), ((pp.2.sorts.map V.int).length : Int), rfl, by omega, by omega, fun D7 hD7 => ?_⟩
        rw [Int.toNat_natCast, hsl]
        refine lc_map walk_range ((figs 0 pp.2.sorts.length).map strD) hD7 (smallL (by omega)) (by simp [figs_length]) (fun _ _ => trivial) (fun j x d H1 H2 hi hdi l y k1 hk1 => ?_) fun acc H7 l7 hacc hds => ?_
        · obtain ⟨rfl, rfl⟩ := y
          refine ⟨rfl, _, rfl, _, rfl, nat_log (by omega) (by omega), hk1 _ _ (Le.refl _) ?_⟩
          rw [List.getElem?_map, figs_get hi] at hdi
          cases hdi
          rw [show (0 : Int) + (j : Int) = ((0 + j : Nat) : Int) by omega]
          exact Dv.str
        rw [dva_strs] at hds
        subst hds
        have LL7 := LL6.trans l7.any
        have hT7 := hT6.mono l7 (fun z => z) (Int.le_refl _)
        have DT7 : D7 ≠ tp := fun e => by obtain ⟨_, _, _, h, _⟩ := hT6.ex; rw [e, h] at hD7; cases hD7
        refine ⟨_, rfl, _, rfl, _, rfl, _, rfl, tp, tg, 1, _, T, rfl, hT7, by omega, htg.mono LL7.tup, hT, .inr rfl, fun rl R rvs H8 l8 hnrl erl hrvs hRok hT8 => ?_⟩
        have LL8 := LL7.trans l8
        have eD8 := l8.rest _ _ DT7 hacc
        obtain ⟨hmty, hmsz, hmdp⟩ := made_ok hT he hRok
        refine ⟨u4, rl, pp.2.pat, R, rvs, rfl, d46.mono (Tu.trans l7.tup l8.tup), erl, hrvs, hRok.nd, by have := hRok.len; omega, hRok.made hT, he.ty.thin hT.fit.slim, he.ty.hfit hRok.rw, by omega, by omega, fun mv H9 l9 hmv => ?_⟩
        refine ⟨D7, mv, figs 0 pp.2.sorts.length, _, rfl, SqL.of (l9.rest _ _ (fun z => z) eD8), fun H' l' => SqL.of (l'.rest _ _ (fun z => z) (l9.rest _ _ (fun z => z) eD8)), hmv, hmty.thin hT.fit.slim, by omega, by omega, by rw [figs_length]; omega, fun nv H10 l10 hnv => ?_⟩
        have LL10 := LL8.trans (l9.trans l10).any
        have hT10 := hT8.mono (l9.trans l10) (fun z => z) (Int.le_refl _)
        exact tail2 _ _ _ _ ⟨_, _, _, _, _, rfl⟩ hnv ((Tu.trans (Tu.trans (Tu.trans l7.tup l8.tup) l9.tup) l10.tup) _ _ hsa6) (ty_figs hmty) (nt_figs hT.fit.slim hmty) (by rw [sz_neatT]; omega) (by rw [dp_neatT]; omega) LL10 (hT10.up (by omega))
      · refine ifF h4 ?_
        exact tail2 _ _ _ _ ⟨_, _, _, _, _, rfl⟩ d46 hsa6 he.ty he.nt (by omega) (by omega) LL6 (hT6.up (by omega))
    · refine ifF hkk ?_
      exact tail _ _ ⟨_, _, _, _, _, _, _, _, rfl⟩ LL3 (hT3.up (by omega))
end
end Nh
/-! ## NhL14 -/
set_option maxHeartbeats 8000000
namespace Nh
open PySem PySem.Spec PyProof.Rows L2
def spQuestion : Sp := fun vs H Q _ => ∃ (tp o od : Addr) (tg : V) (T : Tg) (bk : Bk) (nx c : Int), vs = [.ref tp, tg, .ref o] ∧ Tape H tp c ∧ c + 200000 ≤ big ∧ Dv H (tgD T) tg ∧ TgOk T ∧ OwnAt H o od bk nx ∧ BkOk T bk nx ∧ o ≠ tp ∧ od ≠ tp ∧ (∀ p ∈ bk, p.2.sorts.length ≤ 6) ∧
  ∀ qa a v1 v2 sv bs ss t s H', Le (atT tp) H H' → H a = none → QAt H' T qa a v1 v2 sv bs ss t s → Tape H' tp (c + 10000) → Q (.ref qa) H'
section
variable {P : Program} {w : World} {K : PySem.W.Frag} {mg : Str → Option Value} {base : Heap} {f : Addr} {fd : FuncData}
abbrev N_l_question : List Str := ["_law_tape_here", "_law_tongue_here", "_law_own", "_law_names", "_law_term_here", "_law_scope_here", "_law_sorts", "_law_sort", "_law_numbers", "_law_number", "_law_word", "_law_pattern", "_law_k", "_law_its"]
theorem sc_l_question : FnScope N_l_question ["_law_tape_here", "_law_tongue_here", "_law_own"] (defScope s_l_question) := ⟨rfl, rfl, rfl, by decide +kernel, rfl, by decide +kernel, by decide +kernel⟩
theorem ok_l_question (F : Fun K "_law_question" "_law_question" s_l_question f fd) (B : Bt mg) (c_l_take : Cal P w K mg base 1 "_law_take" ["_law_tape_here", "_law_many"] spTake) (c_l_term : Cal P w K mg base 9 "_law_term" ["_law_tape_here", "_law_tongue_here", "_law_names", "_law_sort", "_law_deep", "_law_way"] (spTerm 3))
    (c_l_neat : Cal P w K mg base 18 "_law_neat" ["_law_names", "_law_term_here"] (spLNeat K)) (c_l_made : Cal P w K mg base 18 "_law_made" ["_law_term_here", "_law_rows_here"] spMade) (c_l_rows : Cal P w K mg base 19 "_law_rows" ["_law_tape_here", "_law_tongue_here", "_law_deep", "_law_way"] spRows)
    (c_l_scope_of : Cal P w K mg base 3 "_law_scope_of" ["_law_tape_here", "_law_sorts"] spScopeOf) (c_l_in_scope : Cal P w K mg base 18 "_law_in_scope" ["_law_scope_here", "_law_term_here"] spInScope) : FnOk P w K mg base CX0 20 f fd ["_law_tape_here", "_law_tongue_here", "_law_own"] spQuestion := by
  refine F.ok sc_l_question (fun vs H Q E h => by obtain ⟨tp, o, od, tg, T, bk, nx, c, rfl, _⟩ := h; rfl) (fun cdv A outer s H vs Q E hr h => ?_)
  obtain ⟨tp, o, od, tg, T, bk, nx, c, rfl, ht, hc, htg, hT, hown, hbk, oT, dT, hes, q⟩ := h
  have hu := hu_of hr
  have hbig : big = 1000000000000 := rfl
  refine ⟨_, (pss_cons (ps_par (i := 6) (j := 7) rfl sc_l_question.nd rfl rfl (by decide) rfl rfl (pa_cons (pe_ix (ixL (K := K) rfl) (pe_lst (pa_cons (pe_tup (pa_cons (pe_int) (pa_cons (pe_int) pa_nil))) (pa_cons (pe_tup (pa_cons (pe_int) pa_nil)) (pa_cons (pe_tup pa_nil) pa_nil)))) (pe_cal c_l_take (hr.mono (by omega)) (by rfl) (pa_cons (pv 0) (pa_cons (pe_int) pa_nil))) (fun _ _ => rfl)) (pa_cons (pe_cal c_l_take (hr.mono (by omega)) (by rfl) (pa_cons (pv 0) (pa_cons (pe_int) pa_nil))) pa_nil)) (by rfl))
  (pss_cons (ps_set (i := 3) sc_l_question.nd rfl (by first | exact Or.inl rfl | exact Or.inr rfl) (pe_callTy (dictP (K := K) rfl rfl) (by rfl) B.dict bv_dict (pa_cons (pe_lc (own := [("_law_k", 12), ("_law_its", 13)]) rfl sc_l_question.nd (enT (K := K) rfl (by rfl) B.enumerate (pa_cons (pv 6) pa_nil)) (blkOk_by (own := [("_law_k", 12), ("_law_its", 13)]) (N := N_l_question) (sc := defScope s_l_question) (by decide +kernel)) (fun _ _ _ _ _ => pgT (K := K) (n := 2) rfl rfl (pgs_cons (pg_name (i := 12) sc_l_question.nd rfl (by first | exact Or.inl rfl | exact Or.inr rfl)) (pgs_cons (pg_name (i := 13) sc_l_question.nd rfl (by first | exact Or.inl rfl | exact Or.inr rfl)) pgs_nil))) (fun _ _ _ _ _ => pts_nil) (fun _ _ _ _ _ => pe_tup (pa_cons (pe_callTy call_str_int (by rfl) B.str bv_str (pa_cons (pv 12) pa_nil)) (pa_cons (pv 13) pa_nil)))) pa_nil)))
  (pss_cons (ps_set (i := 4) sc_l_question.nd rfl (by first | exact Or.inl rfl | exact Or.inr rfl) (pe_cal c_l_neat (hr.mono (by omega)) (by rfl) (pa_cons (pe_callB (call_sortedD rfl) (by rfl) B.sorted bv_sorted (pa_cons (pv 3) pa_nil)) (pa_cons (pe_cal c_l_term (hr.mono (by omega)) (by rfl) (pa_cons (pv 0) (pa_cons (pv 1) (pa_cons (pv 3) (pa_cons (pv 7) (pa_cons (pe_int) (pa_cons (pe_int) pa_nil))))))) pa_nil))))
  (pss_cons (ps_if (PW.pt (pw_and (pt_cmpR (op_ne0 hr.units0) (pe_dget hu (pv 2) (pe_str) (fun _ _ => rfl)) (pe_dnewK) (nomark _)) (pw_and1 (pt_cmpR op_gt (pe_cal c_l_take (hr.mono (by omega)) (by rfl) (pa_cons (pv 0) (pa_cons (pe_int) pa_nil))) (pe_int) (nomark _))))) (pss_cons (ps_set (i := 8) sc_l_question.nd rfl (by first | exact Or.inl rfl | exact Or.inr rfl) (pe_callB (call_sortedDI rfl) (by rfl) B.sorted bv_sorted (pa_cons (pe_dget hu (pv 2) (pe_str) (fun _ _ => rfl)) pa_nil)))
  (pss_cons (ps_set (i := 9) sc_l_question.nd rfl (by first | exact Or.inl rfl | exact Or.inr rfl) (pe_ix (ixL (K := K) rfl) (pv 8) (pe_cal c_l_take (hr.mono (by omega)) (by rfl) (pa_cons (pv 0) (pa_cons (pe_callB (lenQ (K := K) rfl) (by rfl) B.len bv_len (pa_cons (pv 8) pa_nil)) pa_nil))) (fun _ _ => rfl)))
  (pss_cons (ps_asg (pe_dget hu (pe_dget hu (pv 2) (pe_str) (fun _ _ => rfl)) (pv 9) (fun _ _ => rfl)) (pgT (K := K) (n := 4) rfl rfl (pgs_cons (pg_name (i := 10) sc_l_question.nd rfl (by first | exact Or.inl rfl | exact Or.inr rfl)) (pgs_cons (pg_name (i := 6) sc_l_question.nd rfl (by first | exact Or.inl rfl | exact Or.inr rfl)) (pgs_cons (pg_name (i := 7) sc_l_question.nd rfl (by first | exact Or.inl rfl | exact Or.inr rfl)) (pgs_cons (pg_name (i := 11) sc_l_question.nd rfl (by first | exact Or.inl rfl | exact Or.inr rfl)) pgs_nil))))))
  (pss_cons (ps_setLc (i := 3) (own := [("_law_k", 12)]) rfl sc_l_question.nd rfl rfl (sw_true rfl rfl rfl (by decide +kernel)) (pi_range1 (by rfl) B.range (pa_cons (pe_callB (lenQ (K := K) rfl) (by rfl) B.len bv_len (pa_cons (pv 6) pa_nil)) pa_nil)) (blkOk_by (own := [("_law_k", 12)]) (N := N_l_question) (sc := defScope s_l_question) (by decide +kernel)) (fun _ _ _ _ _ => pg_name (i := 12) sc_l_question.nd rfl (by first | exact Or.inl rfl | exact Or.inr rfl)) (fun _ _ _ _ _ => pts_nil) (fun _ _ _ _ _ => pe_callTy call_str_int (by rfl) B.str bv_str (pa_cons (pv 12) pa_nil)))
  (pss_one (ps_set (i := 4) sc_l_question.nd rfl (by first | exact Or.inl rfl | exact Or.inr rfl) (pe_cal c_l_neat (hr.mono (by omega)) (by rfl) (pa_cons (pv 3) (pa_cons (pe_cal c_l_made (hr.mono (by omega)) (by rfl) (pa_cons (pv 11) (pa_cons (pe_cal c_l_rows (hr.mono (by omega)) (by rfl) (pa_cons (pv 0) (pa_cons (pv 1) (pa_cons (pe_int) (pa_cons (pe_int) pa_nil))))) pa_nil))) pa_nil))))))))) pss_nil)
  (pss_cons (ps_set (i := 5) sc_l_question.nd rfl (by first | exact Or.inl rfl | exact Or.inr rfl) (pe_cal c_l_scope_of (hr.mono (by omega)) (by rfl) (pa_cons (pv 0) (pa_cons (pv 6) pa_nil))))
  (pss_one (ps_ret (pe_tup (pa_cons (pv 5) (pa_cons (pe_cal c_l_in_scope (hr.mono (by omega)) (by rfl) (pa_cons (pv 5) (pa_cons (pv 4) pa_nil))) (pa_cons (pv 6) (pa_cons (pv 7) (pa_cons (pv 4) pa_nil))))))))))))), ?_⟩
  have hT1 : Tape H tp c := ht
  have l1 : Le (atT tp) H H := Le.refl _
  refine ⟨z2, fun p0 hp0 => ?_⟩
  have lp0 : Le0 H (upd H p0 (.tup [.int 0, .int 1])) := Le.new hp0 _
  have ep0 : upd H p0 (.tup [.int 0, .int 1]) p0 = some (.tup (([0, 1] : List Int).map V.int)) := upd_same
  generalize upd H p0 (.tup [.int 0, .int 1]) = K0 at lp0 ep0
  refine ⟨z1, fun p1 hp1 => ?_⟩
  have lp1 : Le0 K0 (upd K0 p1 (.tup [.int 0])) := Le.new hp1 _
  have ep1 : upd K0 p1 (.tup [.int 0]) p1 = some (.tup (([0] : List Int).map V.int)) := upd_same
  generalize upd K0 p1 (.tup [.int 0]) = K1 at lp1 ep1
  refine ⟨z0, fun p2 hp2 => ?_⟩
  have lp2 : Le0 K1 (upd K1 p2 (.tup [])) := Le.new hp2 _
  have ep2 : upd K1 p2 (.tup []) p2 = some (.tup (([] : List Int).map V.int)) := upd_same
  generalize upd K1 p2 (.tup []) = K2 at lp2 ep2
  refine ⟨z3, fun u hu => ?_⟩
  have lu : Le0 K2 (upd K2 u (.lst [.ref p0, .ref p1, .ref p2])) := Le.new hu _
  have eu : upd K2 u (.lst [.ref p0, .ref p1, .ref p2]) u = some (.lst [.ref p0, .ref p1, .ref p2]) := upd_same
  have uT : u ≠ tp := fun e => by obtain ⟨_, _, _, h, _⟩ := (hT1.mono (((lp0).trans lp1).trans lp2) (fun z => z) (Int.le_refl _)).ex; rw [e, h] at hu; cases hu
  show tCall _ _ _ _ _ _ _
  generalize upd K2 u (.lst [.ref p0, .ref p1, .ref p2]) = KU at lu eu
  have LU : Le0 H KU := (((lp0).trans lp1).trans lp2).trans lu
  refine ⟨_, rfl, tp, 3, _, rfl, hT1.mono LU (fun z => z) (Int.le_refl _), by decide, by decide, by omega, fun j H2 hj0 hj1 l2 hT2 => ?_⟩
  have pick : ∃ (pa : Addr) (ss : List Int), atI ([.ref p0, .ref p1, .ref p2] : List V) j = some (.ref pa) ∧ H2 pa = some (.tup (ss.map V.int)) ∧ ss.length ≤ 2 := by
    have hj : j = 0 ∨ j = 1 ∨ j = 2 := by omega
    rcases hj with rfl | rfl | rfl
    · exact ⟨p0, [0, 1], rfl, l2.tup _ _ ((((lp1).trans lp2).trans lu).tup _ _ ep0), by decide⟩
    · exact ⟨p1, [0], rfl, l2.tup _ _ (((lp2).trans lu).tup _ _ ep1), by decide⟩
    · exact ⟨p2, [], rfl, l2.tup _ _ ((lu).tup _ _ ep2), by decide⟩
  obtain ⟨pa, ss, epa, hpa, hss⟩ := pick
  have LL2 := l1.trans (LU.any.trans l2)
  refine ⟨u, _, j, .ref pa, rfl, rfl, SqL.of (l2.rest _ _ uT eu), epa, ?_⟩
  refine ⟨_, rfl, tp, 2, _, rfl, hT2, by decide, by decide, by omega, fun sj H3 hs0 hs1 l3 hT3 => ⟨_, _, rfl, ?_⟩⟩
  have hbn : Bn sj := by unfold Bn; omega
  have hpa3 := l3.tup _ _ hpa
  have LL3 := LL2.trans l3
  have hsl : (ss.map V.int).length = ss.length := List.length_map _
  refine ⟨_, rfl, pa, _, rfl, SqT.of hpa3, fun D hD => ?_⟩
  refine lc_map walk_enumT (((figs 0 ss.length).zip (ss.map PyData.int)).map fun p => PyData.tuple [.str p.1, p.2]) hD (smallL (by omega)) (by simp [figs_length]) (fun H l => SqT.of (l.tup _ _ hpa3)) (fun i x d H4 H5 hi hdi l y k1 hk1 => ?_) fun acc H4 l4 hacc4 hds4 => ?_
  · obtain ⟨U, x1, x2, rfl, hU, rfl, f1, f2⟩ := y
    have hi2 : i < ss.length := by omega
    obtain ⟨r, er⟩ := get_ex (l := ss) (i := i) hi2
    obtain rfl : V.int (i : Nat) = x1 := Option.some.inj f1
    have f2 : (ss.map V.int)[i]? = some x2 := f2
    rw [List.getElem?_map, er] at f2
    obtain rfl := Option.some.inj f2
    refine ⟨U, _, rfl, SqT.of upd_same, rfl, _, _, rfl, _, _, rfl, rfl, rfl, _, rfl, _, rfl, nat_log (by omega) (by omega), _, rfl, z2, fun p hp => ?_⟩
    refine hk1 _ _ ((Le.new hU _).trans (Le.new hp _)) ?_
    have : d = .tuple [.str (fig i), .int r] := by
      rw [List.getElem?_map] at hdi
      obtain ⟨pq, epp, rfl⟩ := Option.map_eq_some_iff.mp hdi
      rw [List.getElem?_zip_eq_some, List.getElem?_map, er, figs_get hi2, Nat.zero_add] at epp
      obtain ⟨z1, z2⟩ := epp
      rw [← Option.some.inj z1, ← Option.some.inj z2]
    rw [this]
    exact Dv.mk hp (.cons Dv.str (.cons Dv.int .nil))
  obtain ⟨as, ws, rfl, la, lw, dw, pw⟩ := dv_prs (K := K) (by simp [figs_length]) hds4
  rw [dva_ints] at dw; subst dw
  refine ⟨D, as, _, rfl, SqL.of hacc4, pw, fun m hm => ?_⟩
  obtain ⟨ks, hK, hks, hkl, hkp⟩ := NmK.figs2 ss.length (ss := ss) rfl
  have l5 : Le0 H3 (upd H4 m (.dK (mergeK [] (prs (figs 0 ss.length) (ss.map V.int))))) := l4.trans (Le.new hm _)
  have em : upd H4 m (.dK (mergeK [] (prs (figs 0 ss.length) (ss.map V.int)))) m = some (.dK (mergeK [] (prs (figs 0 ss.length) (ss.map V.int)))) := upd_same
  have hT4 := hT3.mono l4 (fun z => z) (Int.le_refl _)
  have tm : tp ≠ m := fun e => by obtain ⟨_, _, _, h, _⟩ := hT4.ex; rw [e, hm] at h; cases h
  have hT5 := hT3.mono l5 (fun z => z) (Int.le_refl _)
  generalize upd H4 m (.dK (mergeK [] (prs (figs 0 ss.length) (ss.map V.int)))) = H5 at l5 em hT5
  dsimp only [gName]
  refine ⟨_, rfl, m, _, ks, rfl, .inl em, hK.keys, by omega, fun ys sl hp hsd hsl2 => ?_⟩
  obtain rfl := sorted_figs (by omega) (hp.trans hkp) hsd
  have l6 : Le0 H5 (upd H5 sl (.lst ((figs 0 ss.length).map V.str))) := Le.new hsl2 _
  have e6 : upd H5 sl (.lst ((figs 0 ss.length).map V.str)) sl = some (.lst ((figs 0 ss.length).map V.str)) := upd_same
  have slT : sl ≠ tp := fun e => by obtain ⟨_, _, _, h, _⟩ := hT5.ex; rw [e, h] at hsl2; cases hsl2
  have hT6 := hT5.mono l6 (fun z => z) (Int.le_refl _)
  show tCons _ _ _ _ _
  generalize upd H5 sl (.lst ((figs 0 ss.length).map V.str)) = H6 at l6 e6 hT6
  have LL6 : Le (atT tp) H H6 := LL3.trans (l5.trans l6).any
  refine ⟨_, rfl, _, rfl, _, rfl, _, rfl, tp, m, tg, sj, 2, 0, _, T, _, ks, figG ss, rfl, hT6, by omega, htg.mono LL6.tup, hT, l6.rest _ _ (fun z => z) em, tm, ⟨hK, fun x hx0 _ hx => ?_, by omega⟩, hbn, by decide, by decide, .inl rfl, fun tv t H7 l7 htv hty hsz hdp hT7 => ?_⟩
  · obtain ⟨i, hi, e⟩ := hks _ hx
    have := fig_inj e; omega
  have hsz : sz t ≤ 40 := hsz
  have htb : tb 2 = 1600 := rfl
  have e7 := l7.rest _ _ slT e6
  refine ⟨sl, tv, figs 0 ss.length, t, rfl, SqL.of e7, fun H' l' => SqL.of (l'.rest _ _ (fun z => z) e7), htv, hty.thin hT.fit.slim, by omega, by omega, by rw [figs_length]; omega, fun nv H8 l8 hnv => ?_⟩
  have LL8 : Le (atT tp) H H8 := (LL6.trans l7).trans l8.any
  have hT8 := hT7.mono l8 (fun z => z) (Int.le_refl _)
  have nty : Ty T (figG ss) (neatT (figs 0 ss.length) t) sj := ty_figs hty
  have nnt : Nt ss.length (neatT (figs 0 ss.length) t) := nt_figs hT.fit.slim hty
  have nsz : sz (neatT (figs 0 ss.length) t) ≤ 40 := by rw [sz_neatT]; exact hsz
  have ndp : dp (neatT (figs 0 ss.length) t) ≤ 4 := by rw [dp_neatT]; exact hdp
  have hpa8 := (Tu.trans (Tu.trans (Tu.trans l5.tup l6.tup) l7.tup) l8.tup) _ _ hpa3
  clear l8 l7 l6 l5 l4 l3 LL6 LL3 LL2 hT7 hT6 hT5 hT4 hT3 em e6 e7
  dsimp only [gName]
  show tSeq (tIfS ?t1 ?a1 ?b1) ?r ?D ?s H8
  have tail : ∀ (σ : L2.St) (H' : Hp) (v : V) (sa : Addr) (ss : List Int) (s : Int) (p : Tm), (∃ (x3 x5 x8 x9 x10 x11 x12 x13 : Option V), σ = [some (.ref tp), some tg, some (.ref o), x3, some v, x5, some (.ref sa), some (.int s), x8, x9, x10, x11, x12, x13]) → Dv H' (encT p) v → H' sa = some (.tup (ss.map V.int)) → Ty T (figG ss) p s → Nt ss.length p → sz p ≤ 1000 → dp p ≤ 16 → ss.length ≤ 6 → Le (atT tp) H H' → Tape H' tp (c + 8000) → ?r ?D σ H' := by
    rintro σ H6 v sa ss s p ⟨x3, x5, x8, x9, x10, x11, x12, x13, rfl⟩ hv hsa hty hnt hsz hdp hsl l6 hT6
    refine ⟨_, rfl, _, rfl, tp, .ref sa, ss, _, rfl, hT6, by omega, dv_ints.mpr ⟨sa, rfl, hsa⟩, hsl, fun a bs H7 l7 hna hsc hsn hT7 => ?_⟩
    have blen := hsc.len
    refine ⟨_, rfl, _, rfl, _, rfl, a, v, bs, ss, p, rfl, hsc.scp, hv.mono l7.tup, hty.thin hT.fit.slim, hdp, hsz, by omega, fun v8 H8 l8 hv8 => ?_⟩
    refine ⟨_, rfl, _, rfl, _, rfl, z5, fun r hr' => ?_⟩
    have l9 : Le0 H7 (upd H8 r (.tup [.ref a, v8, .ref sa, .int s, v])) := l8.trans (Le.new hr' _)
    refine q r a v8 v (.ref sa) bs ss p s _ (l6.trans (l7.trans l9.any)) (l6.nil hna) ⟨upd_same, hsc.mono l9 (fun z => z), hv8.mono (Tu.new hr' _), dv_ints.mpr ⟨sa, rfl, (Tu.trans l7.tup l9.tup) _ _ hsa⟩, hv.mono (Tu.trans l7.tup l9.tup), hsn, hsl, hty, hnt, hdp, hsz⟩ ((hT7.mono l9 (fun z => z) (Int.le_refl _)).up (by omega))
  have hT8 : Tape H8 tp (c + 1700) := hT8.up (by omega)
  have fin : ∀ (H' : Hp) (σ : L2.St), Le0 H8 H' ∨ Le (atT tp) H8 H' → True := fun _ _ _ => trivial
  obtain ⟨ho, kvs, hd, hk⟩ := id hown
  have kl := hk.len
  have bl := hbk.len
  have own1 := hown.mono LL8 oT dT
  have hd1 := LL8.rest _ _ dT hd
  refine ⟨_, rfl, o, _, rfl, own_en own1, fun m hm => ?_⟩
  have l2 : Le0 H8 (upd H8 m (.dK [])) := Le.new hm _
  have e2 : upd H8 m (.dK []) m = some (.dK []) := upd_same
  generalize upd H8 m (.dK []) = H2 at l2 e2
  have hT2 := hT8.mono l2 (fun z => z) (Int.le_refl _)
  have LL2 := LL8.trans l2.any
  refine ⟨od, m, kvs, rfl, rfl, .inl (l2.rest _ _ (fun z => z) hd1), e2, _, rfl, ?_⟩
  cases hkv : kvs with
  | nil => exact iteF (tail _ _ _ _ _ _ _ ⟨_, _, _, _, _, _, _, _, rfl⟩ (hnv.mono l2.tup) (l2.tup _ _ hpa8) nty nnt (by omega) (by omega) (by omega) LL2 (hT2.up (by omega)))
  | cons kv0 kvr =>
    have hpos : 0 < kvs.length := by rw [hkv]; exact Nat.succ_pos _
    refine iteT ?_
    refine ⟨_, rfl, tp, 5, _, rfl, hT2, by decide, by decide, by omega, fun k H3 hk0 hk1' l3 hT3 => ⟨_, _, rfl, rfl, _, rfl, ?_⟩⟩
    have LL3 := LL2.trans l3
    by_cases hkk : (0 : Int) < k
    · refine ifT hkk ?_
      have own3 := hown.mono LL3 oT dT
      have hd3 := LL3.rest _ _ dT hd
      refine ⟨_, rfl, o, _, rfl, own_en own3, od, kvs, bk.map (·.1), rfl, .inl hd3, by rw [hk.1, List.map_map]; rfl, by rw [List.length_map]; omega, fun ys p hp hup hnp => ?_⟩
      obtain rfl := upI_eq hp hup hbk.up
      have l4 : Le0 H3 (upd H3 p (.lst (nosV bk))) := Le.new hnp _
      have e4 : upd H3 p (.lst (nosV bk)) p = some (.lst (nosV bk)) := upd_same
      have pT : p ≠ tp := fun e => by obtain ⟨_, _, _, h, _⟩ := hT3.ex; rw [e, h] at hnp; cases hnp
      show gName _ _ _ _ _
      generalize upd H3 p (.lst (nosV bk)) = H4 at l4 e4
      have hT4 := hT3.mono l4 (fun z => z) (Int.le_refl _)
      have LL4 := LL3.trans l4.any
      have hnl : (nosV bk).length = bk.length := by simp
      refine ⟨_, rfl, _, rfl, _, rfl, p, _, rfl, .inl (SqL.of e4), tp, _, _, rfl, hT4, by omega, by omega, by omega, fun i H5 hi0 hi1 l5 hT5 => ?_⟩
      have LL5 := LL4.trans l5
      have own5 := hown.mono LL5 oT dT
      obtain ⟨pp, ep⟩ := get_ex (l := bk) (i := i.toNat) (by omega)
      have hmem := get_mem ep
      refine ⟨p, _, i, .int pp.1, rfl, rfl, SqL.of (l5.rest _ _ pT e4), ?_, ?_⟩
      · have := atI_nat (xs := nosV bk) (j := i.toNat) (v := .int pp.1) (by rw [List.getElem?_map, List.getElem?_map, ep]; rfl)
        rw [show ((i.toNat : Nat) : Int) = i by omega] at this
        exact this
      have hd5 := LL5.rest _ _ dT hd
      obtain ⟨ev, hev, dev⟩ := (hk.mono LL5.tup).get hbk.nodup (k := pp.1) (e := pp.2) hmem
      have he : EntOk T pp.2 := hbk.ent pp hmem
      have he6 := hes pp hmem
      obtain ⟨ea, us, rfl, hea, hus⟩ := dv_tup.mp dev
      obtain ⟨u1, us, rfl, d1, hus⟩ := dva_cons.mp hus
      obtain ⟨u2, us, rfl, d2, hus⟩ := dva_cons.mp hus
      obtain ⟨u3, us, rfl, d3, hus⟩ := dva_cons.mp hus
      obtain ⟨u4, us, rfl, d4, hus⟩ := dva_cons.mp hus
      obtain rfl := dva_nil.mp hus
      rw [dv_int] at d3; subst d3
      obtain ⟨sa, rfl, hsa⟩ := dv_ints.mp d2
      refine ⟨_, rfl, o, _, rfl, own_en own5, _, rfl, od, _, rfl, dget_int (.inl hd5) hev, ?_⟩
      refine ⟨ea, _, rfl, SqT.of hea, rfl, _, _, rfl, _, _, rfl, _, _, rfl, _, _, rfl, rfl, ?_⟩
      have hsl : (pp.2.sorts.map V.int).length = pp.2.sorts.length := List.length_map _
      have elen := he.len
      have hs60 := he.s
      have hd8 := he.d
      have LL6 := LL5
      have hT6 := hT5
      have hsa6 := hsa
      have d46 := d4
      refine ⟨_, rfl, sa, _, rfl, .inr (SqT.of hsa6), ((pp.2.sorts.map V.int).length : Int), rfl, by omega, by omega, fun D7 hD7 => ?_⟩
      rw [Int.toNat_natCast, hsl]
      refine lc_map walk_range ((figs 0 pp.2.sorts.length).map strD) hD7 (smallL (by omega)) (by simp [figs_length]) (fun _ _ => trivial) (fun j x d H1 H2 hi hdi l y k1 hk1 => ?_) fun acc H7 l7 hacc hds => ?_
      · obtain ⟨rfl, rfl⟩ := y
        refine ⟨rfl, _, rfl, _, rfl, nat_log (by omega) (by omega), hk1 _ _ (Le.refl _) ?_⟩
        rw [List.getElem?_map, figs_get hi] at hdi
        cases hdi
        rw [show (0 : Int) + (j : Int) = ((0 + j : Nat) : Int) by omega]
        exact Dv.str
      rw [dva_strs] at hds
      subst hds
      have LL7 := LL6.trans l7.any
      have hT7 := hT6.mono l7 (fun z => z) (Int.le_refl _)
      have DT7 : D7 ≠ tp := fun e => by obtain ⟨_, _, _, h, _⟩ := hT6.ex; rw [e, h] at hD7; cases hD7
      refine ⟨_, rfl, _, rfl, _, rfl, _, rfl, tp, tg, 0, _, T, rfl, hT7, by omega, htg.mono LL7.tup, hT, .inl rfl, fun rl R rvs H8 l8 hnrl erl hrvs hRok hT8 => ?_⟩
      have LL8 := LL7.trans l8
      have eD8 := l8.rest _ _ DT7 hacc
      obtain ⟨hmty, hmsz, hmdp⟩ := made_ok hT he hRok
      refine ⟨u4, rl, pp.2.pat, R, rvs, rfl, d46.mono (Tu.trans l7.tup l8.tup), erl, hrvs, hRok.nd, by have := hRok.len; omega, hRok.made hT, he.ty.thin hT.fit.slim, he.ty.hfit hRok.rw, by omega, by omega, fun mv H9 l9 hmv => ?_⟩
      refine ⟨D7, mv, figs 0 pp.2.sorts.length, _, rfl, SqL.of (l9.rest _ _ (fun z => z) eD8), fun H' l' => SqL.of (l'.rest _ _ (fun z => z) (l9.rest _ _ (fun z => z) eD8)), hmv, hmty.thin hT.fit.slim, by omega, by omega, by rw [figs_length]; omega, fun nv H10 l10 hnv => ?_⟩
      have LL10 := LL8.trans (l9.trans l10).any
      have hT10 := hT8.mono (l9.trans l10) (fun z => z) (Int.le_refl _)
      exact tail _ _ _ _ _ _ _ ⟨_, _, _, _, _, _, _, _, rfl⟩ hnv ((Tu.trans (Tu.trans (Tu.trans l7.tup l8.tup) l9.tup) l10.tup) _ _ hsa6) (ty_figs hmty) (nt_figs hT.fit.slim hmty) (by rw [sz_neatT]; omega) (by rw [dp_neatT]; omega) he6 LL10 (hT10.up (by omega))
    · refine ifF hkk ?_
      exact tail _ _ _ _ _ _ _ ⟨_, _, _, _, _, _, _, _, rfl⟩ (hnv.mono (Tu.trans l2.tup l3.tup)) ((Tu.trans l2.tup l3.tup) _ _ hpa8) nty nnt (by omega) (by omega) (by omega) LL3 (hT3.up (by omega))
end
end Nh
/-! ## NhL15 -/
set_option maxHeartbeats 8000000
namespace Nh
open PySem PySem.Spec PyProof.Rows L2
structure Far (tp x d o od : Addr) : Prop where
  tx : tp ≠ x
  td : tp ≠ d
  to : tp ≠ o
  tod : tp ≠ od
  xd : x ≠ d
  xo : x ≠ o
  xod : x ≠ od
  do_ : d ≠ o
  dod : d ≠ od
  ood : o ≠ od
abbrev M5 (tp x d o od : Addr) : Addr → Prop := fun a => a = tp ∨ a = x ∨ a = d ∨ a = o ∨ a = od
structure Sta (H : Hp) (C tp x d o od : Addr) (tg : V) (T : Tg) (bk : Bk) (nx c : Int) : Prop where
  tape : Tape H tp c
  book : BkAt H C x d T bk nx
  own : OwnAt H o od bk nx
  tgd : Dv H (tgD T) tg
  ok : TgOk T
  bok : BkOk T bk nx
  es : ∀ p ∈ bk, p.2.sorts.length ≤ 6
theorem Sta.mono {H H' : Hp} {C tp x d o od : Addr} {tg : V} {T : Tg} {bk : Bk} {nx c c' : Int} (h : Sta H C tp x d o od tg T bk nx c) (F : Far tp x d o od) (l : Le (atT tp) H H') (ht : Tape H' tp c') : Sta H' C tp x d o od tg T bk nx c' :=
  ⟨ht, h.book.mono l F.tx.symm F.td.symm, h.own.mono l F.to.symm F.tod.symm, h.tgd.mono l.tup, h.ok, h.bok, h.es⟩
def spLPut (C : Addr) : Sp := fun vs H Q _ => ∃ (tp x d o od : Addr) (tg : V) (T : Tg) (bk : Bk) (nx c : Int), vs = [.ref tp, tg, .ref x, .ref o] ∧ Sta H C tp x d o od tg T bk nx c ∧ Far tp x d o od ∧ c + 300000 ≤ big ∧ bk.length < 40 ∧ nx < 1000 ∧
  ∀ bk' H', Le (M5 tp x d o od) H H' → Sta H' C tp x d o od tg T bk' (nx + 1) (c + 20000) → bk'.length ≤ bk.length + 1 → Q (.bl true) H'
def spLDeed (C : Addr) : Sp := fun vs H Q _ => ∃ (tp x d o od : Addr) (tg : V) (T : Tg) (bk : Bk) (nx c : Int), vs = [.ref tp, tg, .ref x, .ref o] ∧ Sta H C tp x d o od tg T bk nx c ∧ Far tp x d o od ∧ c + 300100 ≤ big ∧ bk.length < 40 ∧ nx < 1000 ∧
  ∀ bk' nx' H', Le (M5 tp x d o od) H H' → Sta H' C tp x d o od tg T bk' nx' (c + 30000) → bk'.length ≤ bk.length + 1 → nx' ≤ nx + 1 → Q (.bl true) H'
theorem EnAt.add {H : Hp} {d : Addr} {bk : Bk} {kvs : List (Key × V)} (hd : H d = some (.dK kvs)) (hk : EnKv H kvs bk) {k : Int} {e : Ent} {v : V} (hn : k ∉ bk.map (·.1)) (hv : Dv H (entD e) v) : EnAt (upd H d (.dK (putK kvs (Sum.inl k) v))) d (bk ++ [(k, e)]) :=
  ⟨_, upd_same, (hk.add hn hv).mono (Tu.upd hd (fun _ e => nomatch e) _)⟩
section
variable {P : Program} {w : World} {K : PySem.W.Frag} {mg : Str → Option Value} {base : Heap} {f : Addr} {fd : FuncData} {C : Addr}
abbrev N_l_fitting : List Str := ["_law_own", "_law_question_here", "_law_some", "_law_scope_here", "_law_term_here", "_law_sorts", "_law_sort", "_law_due", "_law_number"]
theorem sc_l_fitting : FnScope N_l_fitting ["_law_own", "_law_question_here"] (defScope s_l_fitting) := ⟨rfl, rfl, rfl, by decide +kernel, rfl, by decide +kernel, by decide +kernel⟩
theorem ok_l_fitting (F : Fun K "_law_fitting" "_law_fitting" s_l_fitting f fd) (B : Bt mg) (c_l_fits : Cal P w K mg base 35 "_law_fits" ["_law_entry_here", "_law_sorts", "_law_sort", "_law_term_here"] spFits) : FnOk P w K mg base CX0 36 f fd ["_law_own", "_law_question_here"] spLFit := by
  refine F.ok sc_l_fitting (fun vs H Q E h => by obtain ⟨o, od, qa, a, v1, v2, sv, T, bk, nx, bs, ss, t, s, rfl, _⟩ := h; rfl) (fun cdv A outer s H vs Q E hr h => ?_)
  obtain ⟨o, od, qa, a, v1, v2, sv, T, bk, nx, bs, ss, t, s0, rfl, hown, hok, hq, q⟩ := h
  have hu := hu_of hr
  refine ⟨_, (pss_cons (ps_asg (pv 1) (pgT (K := K) (n := 5) rfl rfl (pgs_cons (pg_name (i := 3) sc_l_fitting.nd rfl (by first | exact Or.inl rfl | exact Or.inr rfl)) (pgs_cons (pg_name (i := 4) sc_l_fitting.nd rfl (by first | exact Or.inl rfl | exact Or.inr rfl)) (pgs_cons (pg_name (i := 5) sc_l_fitting.nd rfl (by first | exact Or.inl rfl | exact Or.inr rfl)) (pgs_cons (pg_name (i := 6) sc_l_fitting.nd rfl (by first | exact Or.inl rfl | exact Or.inr rfl)) (pgs_cons (pg_name (i := 7) sc_l_fitting.nd rfl (by first | exact Or.inl rfl | exact Or.inr rfl)) pgs_nil)))))))
  (pss_cons (ps_set (i := 2) sc_l_fitting.nd rfl (by first | exact Or.inl rfl | exact Or.inr rfl) (pe_dget hu (pv 0) (pe_str) (fun _ _ => rfl)))
  (pss_one (ps_ret (pe_lc (own := [("_law_number", 8)]) rfl sc_l_fitting.nd (piL (K := K) rfl (pe_callB (call_sortedDI rfl) (by rfl) B.sorted bv_sorted (pa_cons (pv 2) pa_nil))) (blkOk_by (own := [("_law_number", 8)]) (N := N_l_fitting) (sc := defScope s_l_fitting) (by decide +kernel)) (fun _ _ _ _ _ => pg_name (i := 8) sc_l_fitting.nd rfl (by first | exact Or.inl rfl | exact Or.inr rfl)) (fun _ _ _ _ _ => pts_one (pt_cmpR op_notN (pe_cal c_l_fits (hr.mono (by omega)) (by rfl) (pa_cons (pe_dget hu (pv 2) (pv 8) (fun _ _ => rfl)) (pa_cons (pv 5) (pa_cons (pv 6) (pa_cons (pv 7) pa_nil))))) pe_non (nomark _))) (fun _ _ _ _ _ => pv 8)))))), ?_⟩
  obtain ⟨ho, kvs, hd, hk⟩ := id hown
  have kl := hk.len
  have bl := hok.len
  refine ⟨_, rfl, qa, _, rfl, SqT.of hq.q, rfl, _, _, rfl, _, _, rfl, _, _, rfl, _, _, rfl, _, _, rfl, rfl, ?_⟩
  refine ⟨_, rfl, o, _, rfl, own_en hown, ?_⟩
  refine ⟨_, rfl, od, kvs, bk.map (·.1), rfl, .inl hd, by rw [hk.1, List.map_map]; rfl, by rw [List.length_map]; omega, fun ys p hp hup hnp => ?_⟩
  obtain rfl := upI_eq hp hup hok.up
  have l1 : Le0 H (upd H p (.lst (nosV bk))) := Le.new hnp _
  have e1 : upd H p (.lst (nosV bk)) p = some (.lst (nosV bk)) := upd_same
  show ∃ a, _
  generalize upd H p (.lst (nosV bk)) = H1 at l1 e1
  refine ⟨p, rfl, ⟨_, SqL.of e1⟩, fun D hD => ?_⟩
  have hll : (nosV bk).length = bk.length := by simp
  refine lc_acc walk_list noM (fun i acc _ => acc = nosV (fitB (bk.take i) ss s0 t)) hD (fun _ z => z.elim) (smallL (by omega)) (fun i acc H H' _ _ _ h => h) rfl (fun i acc H' _ l _ => SqL.of (l.rest _ _ (fun z => z) e1)) (fun i y acc2 H7 H8 hi2 l7 _ _ hP2 y2 k1 k0 hk1' hk0' => ?_) fun acc2 H7 l7 hacc7 _ hP2 => ?_
  · obtain ⟨rfl, ex⟩ := y2
    obtain ⟨pp, ep⟩ := get_ex (l := bk) (i := i) (by omega)
    rw [List.getElem?_map, List.getElem?_map, ep] at ex
    obtain rfl := Option.some.inj ex
    have hm := get_mem ep
    have L := l1.trans l7
    have hd7 := L.rest _ _ (fun z => z) hd
    have hq7 := hq.mono L fun z => z
    obtain ⟨ev, hev, dev⟩ := (hk.mono L.tup).get hok.nodup (k := pp.1) (e := pp.2) hm
    have tk : bk.take (i + 1) = bk.take i ++ [pp] := by rw [List.take_add_one, ep]; rfl
    refine ⟨rfl, ?_⟩
    refine ⟨_, rfl, _, rfl, od, _, rfl, dget_int (.inl hd7) hev, _, rfl, _, rfl, _, rfl, ?_⟩
    refine ⟨ev, sv, v2, T, pp.2, ss, s0, t, rfl, dev, hq7.sv, hq7.v2, hok.ent pp hm, hq.ty, hq.nt, hq.d, hq.s, fun H' l' e' => ⟨rfl, _, rfl, ?_⟩, fun l acc H' l' _ _ _ e' => ⟨rfl, _, rfl, ?_⟩⟩
    · refine hk0' _ l' ?_
      unfold fitB at hP2 ⊢
      rw [tk, List.filter_append, List.filter_cons_of_neg (by rw [e']; exact Bool.false_ne_true), List.filter_nil, List.append_nil]
      exact hP2
    · refine ⟨_, rfl, hk1' _ _ l' ?_⟩
      unfold fitB at hP2 ⊢
      rw [tk, List.filter_append, show List.filter (fun p : Int × Ent => fitsE p.2 ss s0 t) [pp] = [pp] from List.filter_cons_of_pos (p := fun p : Int × Ent => fitsE p.2 ss s0 t) e', hP2]
      simp
  · rw [hll] at hP2
    rw [List.take_length] at hP2
    subst hP2
    exact q D _ (l1.trans l7) (l1.nil hD) hacc7
abbrev N_l_put : List Str := ["_law_tape_here", "_law_tongue_here", "_law_book", "_law_own", "_law_entry_here", "_law_scope_here"]
theorem sc_l_put : FnScope N_l_put ["_law_tape_here", "_law_tongue_here", "_law_book", "_law_own"] (defScope s_l_put) := ⟨rfl, rfl, rfl, by decide +kernel, rfl, by decide +kernel, by decide +kernel⟩
theorem ok_l_put (F : Fun K "_law_put" "_law_put" s_l_put f fd) (B : Bt mg) (c_l_entry : Cal P w K mg base 20 "_law_entry" ["_law_tape_here", "_law_tongue_here", "_law_own"] spEntryL) (c_l_scope_of : Cal P w K mg base 3 "_law_scope_of" ["_law_tape_here", "_law_sorts"] spScopeOf)
    (c_l_in_scope : Cal P w K mg base 18 "_law_in_scope" ["_law_scope_here", "_law_term_here"] spInScope) (m_put : MCal P w K base mg 35 C "put" ["self", "word", "scope", "term"] (spPut C)) : FnOk P w K mg base CX0 36 f fd ["_law_tape_here", "_law_tongue_here", "_law_book", "_law_own"] (spLPut C) := by
  refine F.ok sc_l_put (fun vs H Q E h => by obtain ⟨tp, x, d, o, od, tg, T, bk, nx, c, rfl, _⟩ := h; rfl) (fun cdv A outer s H vs Q E hr h => ?_)
  obtain ⟨tp, x, d, o, od, tg, T, bk, nx, c, rfl, hS, hF, hc, hbl, hnx, q⟩ := h
  have hu := hu_of hr
  have hbig : big = 1000000000000 := rfl
  refine ⟨_, (pss_cons (ps_set (i := 4) sc_l_put.nd rfl (by first | exact Or.inl rfl | exact Or.inr rfl) (pe_cal c_l_entry (hr.mono (by omega)) (by rfl) (pa_cons (pv 0) (pa_cons (pv 1) (pa_cons (pv 3) pa_nil)))))
  (pss_cons (ps_set (i := 5) sc_l_put.nd rfl (by first | exact Or.inl rfl | exact Or.inr rfl) (pe_cal c_l_scope_of (hr.mono (by omega)) (by rfl) (pa_cons (pv 0) (pa_cons (pe_ix (ixT (K := K) rfl) (pv 4) (pe_int) (fun _ _ => rfl)) pa_nil))))
  (pss_cons (ps_dput hu (pe_dget hu (pv 3) (pe_str) (fun _ _ => rfl)) (pe_dget hu (pv 3) (pe_str) (fun _ _ => rfl)) (pv 4) rfl)
  (pss_cons (ps_dput hu (pv 3) (pe_str) (pe_op op_add (pe_dget hu (pv 3) (pe_str) (fun _ _ => rfl)) (pe_int)) rfl)
  (pss_one (ps_ret (pe_cmpR op_eq (pe_mcal m_put (hr.mono (by omega)) (pv 2) (pa_cons (pe_ix (ixT (K := K) rfl) (pv 4) (pe_int) (fun _ _ => rfl)) (pa_cons (pv 5) (pa_cons (pe_cal c_l_in_scope (hr.mono (by omega)) (by rfl) (pa_cons (pv 5) (pa_cons (pe_ix (ixT (K := K) rfl) (pv 4) (pe_int) (fun _ _ => rfl)) pa_nil))) pa_nil)))) (pe_op op_sub (pe_dget hu (pv 3) (pe_str) (fun _ _ => rfl)) (pe_int)) (nomark _)))))))), ?_⟩
  refine ⟨_, rfl, _, rfl, _, rfl, tp, o, od, tg, T, bk, nx, c, rfl, hS.tape, by omega, hS.tgd, hS.ok, hS.own, hS.bok, hF.to.symm, hF.tod.symm, hS.es, fun v e H1 l1 hv he he6 hT1 => ?_⟩
  obtain ⟨ea, us, rfl, hea, hus⟩ := dv_tup.mp hv
  obtain ⟨u1, us, rfl, d1, hus⟩ := dva_cons.mp hus
  obtain ⟨u2, us, rfl, d2, hus⟩ := dva_cons.mp hus
  obtain ⟨u3, us, rfl, d3, hus⟩ := dva_cons.mp hus
  obtain ⟨u4, us, rfl, d4, hus⟩ := dva_cons.mp hus
  obtain rfl := dva_nil.mp hus
  rw [dv_str] at d1; subst d1
  rw [dv_int] at d3; subst d3
  refine ⟨_, rfl, _, rfl, ea, _, 1, _, rfl, rfl, SqT.of hea, at1, tp, u2, e.sorts, _, rfl, hT1, by omega, d2, he6, fun a bs H2 l2 hna hsc hsn hT2 => ?_⟩
  have L2 := l1.trans l2
  have S2 := hS.mono hF L2 hT2
  have blen := hsc.len
  obtain ⟨ho, kvs, hd, hk⟩ := id S2.own
  have kl := hk.len
  have hnew := hS.bok.new
  have hv2 := hv.mono l2.tup
  refine ⟨_, rfl, _, rfl, o, _, rfl, own_en S2.own, _, rfl, o, _, rfl, own_many S2.own, od, _, rfl, .inl ⟨kvs, Sum.inl nx, hd, rfl, smallL (by omega), rfl⟩, ?_⟩
  have m3 : Le (fun a => a = od) H2 (upd H2 od (.dK (putK kvs (Sum.inl nx) (.ref ea)))) := (Le.refl (M := fun a => a = od) H2).mut (p := od) rfl (fun xs e => by rw [hd] at e; cases e) _
  have en3 := EnAt.add hd hk hnew hv2
  have aod : a ≠ od := fun e => by
    subst e
    exact (l1.dom _ fun z => by obtain ⟨_, h, _⟩ := hS.own.en.ex; rw [h] at z; cases z) hna
  generalize upd H2 od (.dK (putK kvs (Sum.inl nx) (.ref ea))) = H3 at m3 en3
  have ho3 := m3.rest _ _ hF.ood ho
  have hT3 := hT2.mono m3 hF.tod (Int.le_refl _)
  have gm : DGet H3 o (.str "many") (some (.int nx)) := dget_str (.inl ho3) (by rw [valV_neg (fun e => absurd (Sum.inr.inj e) (by decide)), valV_pos rfl])
  refine ⟨_, rfl, o, _, rfl, gm, _, _, rfl, rfl, _, rfl, o, _, rfl, .inl ⟨_, Sum.inr "many", ho3, rfl, smallL (by show 2 ≤ 100000; decide), rfl⟩, ?_⟩
  have epk : putK (ownK od nx) (Sum.inr ("many" : Str)) (V.int (nx + 1)) = ownK od (nx + 1) := rfl
  have m4 : Le (fun a => a = o) H3 (upd H3 o (.dK (ownK od (nx + 1)))) := (Le.refl (M := fun a => a = o) H3).mut (p := o) rfl (fun xs e => by rw [ho3] at e; cases e) _
  have ho4 : upd H3 o (.dK (ownK od (nx + 1))) o = some (.dK (ownK od (nx + 1))) := upd_same
  have aoo : a ≠ o := fun e => by
    subst e
    exact (l1.dom _ fun z => by rw [hS.own.o] at z; cases z) hna
  dsimp only
  rw [epk]
  generalize upd H3 o (.dK (ownK od (nx + 1))) = H4 at m4 ho4
  have m24 : Le (fun a => a = o ∨ a = od) H2 H4 := (m3.mono fun a h => .inr h).trans (m4.mono fun a h => .inl h)
  have own4 : OwnAt H4 o od (bk ++ [(nx, e)]) (nx + 1) := ⟨ho4, en3.mono m4 hF.ood.symm⟩
  have bk4 := S2.book.mono m24 (fun z => z.elim hF.xo hF.xod) (fun z => z.elim hF.do_ hF.dod)
  have hsc4 := hsc.mono m24 fun z => z.elim aoo aod
  have hT4 := hT3.mono m4 hF.to (Int.le_refl _)
  obtain ⟨dx, tv, hx, htv⟩ := bk4.ins
  have tt4 : Tu H1 H4 := Tu.trans l2.tup m24.tup
  have hea4 := tt4 _ _ hea
  have d44 := d4.mono tt4
  refine ⟨_, rfl, x, dx, _, rfl, hx, rfl, _, rfl, ea, _, 0, _, rfl, rfl, SqT.of hea4, at0, _, rfl, ?_⟩
  have e60 := he.s
  have e8 := he.d
  have hqo : QOk T bs e.sorts (inS bs e.pat) e.sort := q_of hsn blen he.len he.ty (by omega) (by omega)
  refine ⟨_, rfl, _, rfl, ea, _, 3, _, rfl, rfl, SqT.of hea4, at3, a, u4, bs, e.sorts, e.pat, rfl, hsc4.scp, d44, he.ty.thin hS.ok.fit.slim, by omega, by omega, by omega, fun v5 H5 l5 hv5 => ?_⟩
  have hbl2 := hS.bok.len
  refine ⟨x, d, a, v5, T, bk, nx, e.word, bs, e.sorts, inS bs e.pat, e.sort, rfl, bk4.mono l5 (fun z => z) (fun z => z), hnew, by omega, hsc4.mono l5 (fun z => z), hv5, hS.ok.fit, hqo, fun H6 m6 bk6 => ?_⟩
  have hsame : neatT bs (inS bs e.pat) = e.pat := neat_in_same hsn (by rw [blen]; exact he.nt)
  rw [hsame] at bk6
  have own6 : OwnAt H6 o od (bk ++ [(nx, e)]) (nx + 1) := (own4.mono l5 (fun z => z) fun z => z).mono m6 (fun z => z.elim (fun e => hF.do_ e.symm) fun e => hF.xo e.symm) (fun z => z.elim (fun e => hF.dod e.symm) fun e => hF.xod e.symm)
  refine ⟨_, rfl, o, _, rfl, own_many own6, _, _, rfl, rfl, rfl, ?_⟩
  have hT6 : Tape H6 tp (c + 20000) := ((hT4.mono l5 (fun z => z) (Int.le_refl _)).mono m6 (fun z => z.elim hF.td hF.tx) (Int.le_refl _)).up (by omega)
  have MM : Le (M5 tp x d o od) H H6 := ((L2.mono fun a h => .inl h).trans (m24.mono fun a h => .inr (.inr (.inr h)))).trans (l5.any.trans (m6.mono fun a h => h.elim (fun h => .inr (.inr (.inl h))) fun h => .inr (.inl h)))
  have := q (bk ++ [(nx, e)]) H6 MM ⟨hT6, bk6, own6, hS.tgd.mono MM.tup, hS.ok, hS.bok.add he hbl hnx, fun p hp => ?_⟩ (by rw [List.length_append]; exact Nat.le_refl _)
  · have e2 : decide (V.int nx = V.int (nx + 1 - 1)) = true := decide_eq_true (by rw [Int.add_sub_cancel])
    rw [← e2] at this
    exact this
  · rcases List.mem_append.mp hp with hp | hp
    · exact hS.es p hp
    · rw [List.mem_singleton] at hp; subst hp; exact he6
abbrev N_l_deed : List Str := ["_law_tape_here", "_law_tongue_here", "_law_book", "_law_own", "_law_numbers", "_law_number"]
theorem sc_l_deed : FnScope N_l_deed ["_law_tape_here", "_law_tongue_here", "_law_book", "_law_own"] (defScope s_l_deed) := ⟨rfl, rfl, rfl, by decide +kernel, rfl, by decide +kernel, by decide +kernel⟩
theorem ok_l_deed (F : Fun K "_law_deed" "_law_deed" s_l_deed f fd) (B : Bt mg) (c_l_take : Cal P w K mg base 1 "_law_take" ["_law_tape_here", "_law_many"] spTake) (c_l_put : Cal P w K mg base 36 "_law_put" ["_law_tape_here", "_law_tongue_here", "_law_book", "_law_own"] (spLPut C))
    (m_drop : MCal P w K base mg 2 C "drop" ["self", "number"] (spDrop C)) : FnOk P w K mg base CX0 37 f fd ["_law_tape_here", "_law_tongue_here", "_law_book", "_law_own"] (spLDeed C) := by
  refine F.ok sc_l_deed (fun vs H Q E h => by obtain ⟨tp, x, d, o, od, tg, T, bk, nx, c, rfl, _⟩ := h; rfl) (fun cdv A outer s H vs Q E hr h => ?_)
  obtain ⟨tp, x, d, o, od, tg, T, bk, nx, c, rfl, hS, hF, hc, hbl, hnx, q⟩ := h
  have hu := hu_of hr
  have hbig : big = 1000000000000 := rfl
  refine ⟨_, (pss_cons (ps_set (i := 4) sc_l_deed.nd rfl (by first | exact Or.inl rfl | exact Or.inr rfl) (pe_callB (call_sortedDI rfl) (by rfl) B.sorted bv_sorted (pa_cons (pe_dget hu (pv 3) (pe_str) (fun _ _ => rfl)) pa_nil)))
  (pss_cons (ps_if (PW.pt (pw_or (pt_cmpR (eqP (K := K) rfl hr.units) (pv 4) (pe_lst pa_nil) (nomark _)) (pw_or1 (pt_cmpR op_gt (pe_cal c_l_take (hr.mono (by omega)) (by rfl) (pa_cons (pv 0) (pa_cons (pe_int) pa_nil))) (pe_int) (nomark _))))) (pss_one (ps_ret (pe_cal c_l_put (hr.mono (by omega)) (by rfl) (pa_cons (pv 0) (pa_cons (pv 1) (pa_cons (pv 2) (pa_cons (pv 3) pa_nil))))))) pss_nil)
  (pss_cons (ps_set (i := 5) sc_l_deed.nd rfl (by first | exact Or.inl rfl | exact Or.inr rfl) (pe_ix (ixL (K := K) rfl) (pv 4) (pe_cal c_l_take (hr.mono (by omega)) (by rfl) (pa_cons (pv 0) (pa_cons (pe_callB (lenQ (K := K) rfl) (by rfl) B.len bv_len (pa_cons (pv 4) pa_nil)) pa_nil))) (fun _ _ => rfl)))
  (pss_cons (ps_expr (pe_dpop1 (pe_dget hu (pv 3) (pe_str) (fun _ _ => rfl)) (pv 5) ⟨rfl, rfl, rfl, rfl⟩))
  (pss_one (ps_ret (pe_cmpR op_isN (pe_mcal m_drop (hr.mono (by omega)) (pv 2) (pa_cons (pv 5) pa_nil)) pe_non (nomark _)))))))), ?_⟩
  obtain ⟨ho, kvs, hd, hk⟩ := id hS.own
  have kl := hk.len
  refine ⟨_, rfl, o, _, rfl, own_en hS.own, od, kvs, bk.map (·.1), rfl, .inl hd, by rw [hk.1, List.map_map]; rfl, by rw [List.length_map]; omega, fun ys p hp hup hnp => ?_⟩
  obtain rfl := upI_eq hp hup hS.bok.up
  have l1 : Le0 H (upd H p (.lst (nosV bk))) := Le.new hnp _
  have e1 : upd H p (.lst (nosV bk)) p = some (.lst (nosV bk)) := upd_same
  have pT : p ≠ tp := fun e => by obtain ⟨_, _, _, h, _⟩ := hS.tape.ex; rw [e, h] at hnp; cases hnp
  have pod : p ≠ od := fun e => by rw [e, hd] at hnp; cases hnp
  show gName _ _ _ _ _
  generalize upd H p (.lst (nosV bk)) = H1 at l1 e1
  have S1 := hS.mono hF l1.any (hS.tape.mono l1 (fun z => z) (Int.le_refl _))
  have hnl : (nosV bk).length = bk.length := by simp
  dsimp only [gName]
  show tSeq (tIfS ?t1 ?a1 ?b1) ?r ?D ?s H1
  have put : ∀ H', Le (atT tp) H H' → Tape H' tp (c + 1) → ?a1 { ?D with nx := ?r ?D } ?s H' := fun H' l' hT' => by
    refine ⟨_, rfl, _, rfl, _, rfl, _, rfl, tp, x, d, o, od, tg, T, bk, nx, _, rfl, hS.mono hF l' hT', hF, by omega, hbl, hnx, fun bk' H2 m2 S2 hl2 => q bk' (nx + 1) H2 ((l'.mono fun a h => .inl h).trans m2) ?_ hl2 (Int.le_refl _)⟩
    exact ⟨S2.tape.up (by omega), S2.book, S2.own, S2.tgd, S2.ok, S2.bok, S2.es⟩
  refine ⟨_, rfl, z0, fun u0 hu0 => ?_⟩
  have l2 : Le0 H1 (upd H1 u0 (.lst [])) := Le.new hu0 _
  have e2 : upd H1 u0 (.lst []) u0 = some (.lst []) := upd_same
  show rEqP _ _ _ _ _
  generalize upd H1 u0 (.lst []) = H2 at l2 e2
  have e12 := l2.rest _ _ (fun z => z) e1
  have L2 : Le0 H H2 := l1.trans l2
  have hT2 := hS.tape.mono L2 (fun z => z) (Int.le_refl _)
  refine ⟨.list ((bk.map (·.1)).map PyData.int), .list [], .lst (SqL.of e12) (dva_ints.mpr rfl).dp, .lst (SqL.of e2) .nil, by rw [pd_lst, ← pd_tup]; exact pd_ints _, rfl, Nat.le_trans (depth_lst (n := 0) fun x hx => by obtain ⟨y, _, rfl⟩ := List.mem_map.mp hx; rw [depth_int]; exact Nat.le_refl _) (by decide), fun bo hbo => ⟨bo, rfl, ?_⟩⟩
  cases bo with
  | true => exact iteT (put H2 L2.any (hT2.up (by omega)))
  | false =>
    refine iteF ?_
    have hpos : 0 < bk.length := by
      refine Nat.pos_of_ne_zero fun z => Bool.false_ne_true (hbo.mpr ?_)
      rw [List.eq_nil_of_length_eq_zero z]; rfl
    refine ⟨_, rfl, tp, 4, _, rfl, hT2, by decide, by decide, by omega, fun k H3 _ _ l3 hT3 => ⟨_, _, rfl, rfl, _, rfl, ?_⟩⟩
    have LL3 : Le (atT tp) H H3 := L2.any.trans l3
    by_cases hkk : (0 : Int) < k
    · refine ifT hkk ?_
      exact put H3 LL3 hT3
    · refine ifF hkk ?_
      refine ⟨_, rfl, _, rfl, _, rfl, p, _, rfl, .inl (SqL.of (l3.rest _ _ pT e12)), tp, _, _, rfl, hT3, by omega, by omega, by omega, fun i H4 hi0 hi1 l4 hT4 => ?_⟩
      have LL4 := LL3.trans l4
      obtain ⟨pp, ep⟩ := get_ex (l := bk) (i := i.toNat) (by omega)
      have hmem := get_mem ep
      refine ⟨p, _, i, .int pp.1, rfl, rfl, SqL.of (l4.rest _ _ pT (l3.rest _ _ pT e12)), ?_, ?_⟩
      · have := atI_nat (xs := nosV bk) (j := i.toNat) (v := .int pp.1) (by rw [List.getElem?_map, List.getElem?_map, ep]; rfl)
        rw [show ((i.toNat : Nat) : Int) = i by omega] at this
        exact this
      have S4 := hS.mono hF LL4 hT4
      obtain ⟨ho4, kvs4, hd4, hk4⟩ := id S4.own
      obtain ⟨ev, hev, dev⟩ := hk4.get hS.bok.nodup (k := pp.1) (e := pp.2) hmem
      refine ⟨_, rfl, o, _, rfl, own_en S4.own, od, rfl, .inl ⟨kvs4, .inl hd4⟩, _, rfl, kvs4, Sum.inl pp.1, ev, hd4, rfl, hev, ?_⟩
      have m5 : Le (fun a => a = od) H4 (upd H4 od (.dK (dropK kvs4 (Sum.inl pp.1)))) := (Le.refl (M := fun a => a = od) H4).mut (p := od) rfl (fun xs e => by rw [hd4] at e; cases e) _
      have en5 : EnAt (upd H4 od (.dK (dropK kvs4 (Sum.inl pp.1)))) od (bk.filter fun q => decide (q.1 ≠ pp.1)) := ⟨_, upd_same, (hk4.drop pp.1).mono m5.tup⟩
      generalize upd H4 od (.dK (dropK kvs4 (Sum.inl pp.1))) = H5 at m5 en5
      have own5 : OwnAt H5 o od (bk.filter fun q => decide (q.1 ≠ pp.1)) nx := ⟨m5.rest _ _ hF.ood ho4, en5⟩
      have bk5 := S4.book.mono m5 hF.xod hF.dod
      have hT5 := hT4.mono m5 hF.tod (Int.le_refl _)
      obtain ⟨dx, tv, hx, htv⟩ := bk5.ins
      refine ⟨_, rfl, x, dx, _, rfl, hx, rfl, _, rfl, x, d, T, bk, nx, pp.1, pp.2, rfl, bk5, hS.bok.nodup, hmem, fun H6 m6 bk6 => ⟨rfl, ?_⟩⟩
      have MM : Le (M5 tp x d o od) H H6 := ((LL4.mono fun a h => .inl h).trans (m5.mono fun a h => .inr (.inr (.inr (.inr h))))).trans (m6.mono fun a h => .inr (.inr (.inl h)))
      refine q _ nx H6 MM ⟨(hT5.mono m6 hF.td (Int.le_refl _)).up (by omega), bk6, own5.mono m6 (fun e => hF.do_ e.symm) (fun e => hF.dod e.symm), hS.tgd.mono MM.tup, hS.ok, hS.bok.drop pp.1, fun p hp => hS.es p (List.mem_filter.mp hp).1⟩ (by have := List.length_filter_le (fun q : Int × Ent => decide (q.1 ≠ pp.1)) bk; omega) (by omega)
end
end Nh
/-! ## NhL16 -/
set_option maxHeartbeats 8000000
namespace Nh
open PySem PySem.Spec PyProof.Rows L2
def spStands (C : Addr) : Sp := fun vs H Q _ => ∃ (tp x d o od : Addr) (tg : V) (T : Tg) (bk : Bk) (nx c : Int), vs = [.ref tp, tg, .ref x, .ref o] ∧ Sta H C tp x d o od tg T bk nx c ∧ Far tp x d o od ∧ c + 400000 ≤ big ∧
  ∀ H', Le (atT tp) H H' → Tape H' tp (c + 30000) → Q (.bl true) H'
theorem same_lt {bk : Bk} {p : Int × Int} (h : p ∈ sameB bk) : p.1 < p.2 := by
  rw [sameB_eq] at h
  obtain ⟨a, _, h⟩ := List.mem_flatMap.mp h
  obtain ⟨b, hb, rfl⟩ := List.mem_map.mp h
  have := (List.mem_filter.mp hb).2
  unfold sameP at this
  rw [Bool.and_eq_true] at this
  exact of_decide_eq_true this.1
theorem dv_nos {H : Hp} {l : List Int} : DvA H (l.map PyData.int) (l.map V.int) := dva_ints.mpr rfl
theorem pd_nos (l : List Int) : pd (.list (l.map PyData.int)) = true := by rw [pd_lst, ← pd_tup]; exact pd_ints l
theorem depth_nos (l : List Int) : (PyData.list (l.map PyData.int)).depth ≤ 60 := Nat.le_trans (depth_lst (n := 0) fun x hx => by obtain ⟨y, _, rfl⟩ := List.mem_map.mp hx; rw [depth_int]; exact Nat.le_refl _) (by decide)
theorem QAt.ask {H : Hp} {T : Tg} {qa a : Addr} {v1 v2 sv : V} {bs : List Str} {ss : List Int} {t : Tm} {s : Int} (h : QAt H T qa a v1 v2 sv bs ss t s) (hT : TgOk T) : AskOk H T a v1 bs ss (inS bs t) s :=
  ⟨h.scp, h.v1, hT.fit, q_of h.sn h.scp.len (by have := h.few; omega) h.ty h.d h.s⟩
theorem QAt.same {H : Hp} {T : Tg} {qa a : Addr} {v1 v2 sv : V} {bs : List Str} {ss : List Int} {t : Tm} {s : Int} (h : QAt H T qa a v1 v2 sv bs ss t s) : neatT bs (inS bs t) = t := neat_in_same h.sn (by rw [h.scp.len]; exact h.nt)
section
variable {P : Program} {w : World} {K : PySem.W.Frag} {mg : Str → Option Value} {base : Heap} {f : Addr} {fd : FuncData} {C : Addr}
abbrev N_l_stands : List Str := ["_law_tape_here", "_law_tongue_here", "_law_book", "_law_own", "_law_turn", "_law_question_here", "_law_number", "_law_other"]
theorem sc_l_stands : FnScope N_l_stands ["_law_tape_here", "_law_tongue_here", "_law_book", "_law_own"] (defScope s_l_stands) := ⟨rfl, rfl, rfl, by decide +kernel, rfl, by decide +kernel, by decide +kernel⟩
theorem ok_l_stands (F : Fun K "_law_stands" "_law_stands" s_l_stands f fd) (B : Bt mg) (c_l_question : Cal P w K mg base 20 "_law_question" ["_law_tape_here", "_law_tongue_here", "_law_own"] spQuestion) (c_l_fitting : Cal P w K mg base 36 "_law_fitting" ["_law_own", "_law_question_here"] spLFit)
    (m_word_of : MCal P w K base mg 2 C "word_of" ["self", "number"] (spWord C)) (m_fitting : MCal P w K base mg 52 C "fitting" ["self", "scope", "term"] (spFitting C)) (m_same_entries : MCal P w K base mg 53 C "same_entries" ["self"] (spSame C)) :
    FnOk P w K mg base CX0 54 f fd ["_law_tape_here", "_law_tongue_here", "_law_book", "_law_own"] (spStands C) := by
  refine F.ok sc_l_stands (fun vs H Q E h => by obtain ⟨tp, x, d, o, od, tg, T, bk, nx, c, rfl, _⟩ := h; rfl) (fun cdv A outer s H vs Q E hr h => ?_)
  obtain ⟨tp, x, d, o, od, tg, T, bk, nx, c, rfl, hS, hF, hc, q⟩ := h
  have hu := hu_of hr
  have hbig : big = 1000000000000 := rfl
  refine ⟨_, (pss_cons (ps_if (pt_val (pe_callB (anyQ (K := K) rfl rfl) (by rfl) B.any bv_any (pa_cons (pe_lock (pe_lc (own := [("_law_number", 6)]) rfl sc_l_stands.nd (pi_keys (pe_dget hu (pv 3) (pe_str) (fun _ _ => rfl))) (blkOk_by (own := [("_law_number", 6)]) (N := N_l_stands) (sc := defScope s_l_stands) (by decide +kernel)) (fun _ _ _ _ _ => pg_name (i := 6) sc_l_stands.nd rfl (by first | exact Or.inl rfl | exact Or.inr rfl)) (fun _ _ _ _ _ => pts_nil) (fun _ _ _ _ _ => pe_cmpR op_ne (pe_mcal m_word_of (hr.mono (by omega)) (pv 2) (pa_cons (pv 6) pa_nil)) (pe_ix (ixT (K := K) rfl) (pe_dget hu (pe_dget hu (pv 3) (pe_str) (fun _ _ => rfl)) (pv 6) (fun _ _ => rfl)) (pe_int) (fun _ _ => rfl)) (nomark _)))) pa_nil))) (pss_one (ps_ret (pe_bl))) pss_nil)
  (pss_cons (ps_for PassesOwn.never rfl (pi_range1 (by rfl) B.range (pa_cons (pe_int) pa_nil)) (pg_name (i := 4) sc_l_stands.nd rfl (by first | exact Or.inl rfl | exact Or.inr rfl)) (pss_cons (ps_set (i := 5) sc_l_stands.nd rfl (by first | exact Or.inl rfl | exact Or.inr rfl) (pe_cal c_l_question (hr.mono (by omega)) (by rfl) (pa_cons (pv 0) (pa_cons (pv 1) (pa_cons (pv 3) pa_nil)))))
  (pss_one (ps_if (pt_cmpR (neP (K := K) rfl hr.units) (pe_mcal m_fitting (hr.mono (by omega)) (pv 2) (pa_cons (pe_ix (ixT (K := K) rfl) (pv 5) (pe_int) (fun _ _ => rfl)) (pa_cons (pe_ix (ixT (K := K) rfl) (pv 5) (pe_int) (fun _ _ => rfl)) pa_nil))) (pe_cal c_l_fitting (hr.mono (by omega)) (by rfl) (pa_cons (pv 3) (pa_cons (pv 5) pa_nil))) (nomark _)) (pss_one (ps_ret (pe_bl))) pss_nil))))
  (pss_one (ps_ret (pe_callB (allQ (K := K) rfl rfl) (by rfl) B.all bv_all (pa_cons (pe_lc (own := [("_law_number", 6), ("_law_other", 7)]) rfl sc_l_stands.nd (piL (K := K) rfl (pe_mcal0 m_same_entries (hr.mono (by omega)) (pv 2))) (blkOk_by (own := [("_law_number", 6), ("_law_other", 7)]) (N := N_l_stands) (sc := defScope s_l_stands) (by decide +kernel)) (fun _ _ _ _ _ => pgT (K := K) (n := 2) rfl rfl (pgs_cons (pg_name (i := 6) sc_l_stands.nd rfl (by first | exact Or.inl rfl | exact Or.inr rfl)) (pgs_cons (pg_name (i := 7) sc_l_stands.nd rfl (by first | exact Or.inl rfl | exact Or.inr rfl)) pgs_nil))) (fun _ _ _ _ _ => pts_nil) (fun _ _ _ _ _ => pe_cmpR op_lt (pv 6) (pv 7) (nomark _))) pa_nil)))))), ?_⟩
  obtain ⟨ho, kvs, hd, hk⟩ := id hS.own
  have kl := hk.len
  have bl := hS.bok.len
  refine ⟨od, _, hd, True.intro, fun ob => ?_⟩
  have eF : upd H od (.frz ob (.dK kvs)) od = some (.frz ob (.dK kvs)) := upd_same
  have mF : Le (fun a => a = od) H (upd H od (.frz ob (.dK kvs))) := (Le.refl (M := fun a => a = od) H).mut (p := od) rfl (fun xs e => by rw [hd] at e; cases e) _
  have unl := fun {H' : Hp} (l : Le0 (upd H od (.frz ob (.dK kvs))) H') => Le.unlock hd l
  generalize upd H od (.frz ob (.dK kvs)) = H1 at eF mF unl
  have ho1 := mF.rest _ _ hF.ood ho
  have g1 : ∀ {H'}, Le0 H1 H' → DGet H' o (.str "entries") (some (.ref od)) := fun l => dget_str (.inl (l.rest _ _ (fun z => z) ho1)) (by rw [valV_pos rfl])
  have bk1 := hS.book.mono mF hF.xod hF.dod
  refine ⟨_, rfl, o, _, rfl, g1 (Le.refl _), od, ob, rfl, .inl ⟨kvs, eF, fun D hD => ?_⟩⟩
  refine lc_mapN walk_keys noM (fun _ _ => True) (fun i y _ => y = .bl false) hD (fun _ z => z.elim) (smallL (by omega)) (fun _ _ _ _ _ h => h) (fun _ _ _ _ _ h => h) trivial (fun i H _ l _ => l.rest _ _ (fun z => z) eF) (fun i x0 H3 H4 hi l3 _ y k1 hk1 => ?_) fun acc2 H3 l3 hacc2 hlen2 _ hbs => ?_
  · obtain ⟨rfl, k, vv, ek, rfl⟩ := y
    obtain ⟨pp, ep⟩ := get_ex (l := bk) (i := i) (by omega)
    have ek' : k = Sum.inl pp.1 := by
      have := congrArg (fun l => l[i]?) hk.1
      simp only [List.getElem?_map, ek, ep, Option.map_some, Option.some.injEq] at this
      exact this
    subst ek'
    have hmem := get_mem ep
    have bk4 := bk1.mono l3 (fun z => z) fun z => z
    obtain ⟨dx, tv, hx, _⟩ := bk4.ins
    have tt : Tu H H4 := Tu.trans mF.tup l3.tup
    obtain ⟨ev, hev, dev⟩ := (hk.mono tt).get hS.bok.nodup (k := pp.1) (e := pp.2) hmem
    obtain ⟨ea, us, rfl, hea, hus⟩ := dv_tup.mp dev
    obtain ⟨u1, us, rfl, d1, hus⟩ := dva_cons.mp hus
    rw [dv_str] at d1; subst d1
    refine ⟨rfl, _, rfl, x, dx, _, rfl, hx, rfl, _, rfl, x, d, T, bk, nx, pp.1, pp.2, rfl, bk4, hS.bok.nodup, hmem, ?_⟩
    refine ⟨_, rfl, o, _, rfl, g1 l3, _, rfl, od, _, rfl, dget_int (.inr ⟨ob, l3.rest _ _ (fun z => z) eF⟩) hev, ea, _, 0, _, rfl, rfl, SqT.of hea, at0, rfl, hk1 _ _ (Le.refl _) trivial ?_⟩
    rw [decide_eq_true rfl]; rfl
  rw [all_bl hbs] at hacc2
  refine ⟨l3.rest _ _ (fun z => z) eF, ?_⟩
  have l4 := unl l3
  have Dod : D ≠ od := fun e => by rw [e, eF] at hD; cases hD
  have e4 : upd H3 od (.dK kvs) D = some (.lst ((List.replicate acc2.length false).map V.bl)) := by rw [upd_ne Dod]; exact hacc2
  generalize upd H3 od (.dK kvs) = H4 at l4 e4
  refine ⟨D, _, rfl, SqL.of e4, _, rfl, ?_⟩
  rw [any_rep]
  refine iteF ?_
  have hT4 := hS.tape.mono l4 (fun z => z) (Int.le_refl _)
  refine ⟨2, rfl, by decide, by decide, ?_⟩
  refine for_it walk_range (fun i σ H' => (∃ x4 x5 x6 x7, σ = [some (.ref tp), some tg, some (.ref x), some (.ref o), x4, x5, x6, x7]) ∧ Le (atT tp) H H' ∧ Tape H' tp (c + 12000 * i)) ⟨⟨_, _, _, _, rfl⟩, l4.any, hT4.up (by omega)⟩ (fun _ _ _ _ _ => trivial) (fun i y σ H50 H5 hi hP yy => ?_) fun σ H' hP => ?_
  · obtain ⟨⟨x4, x5, x6, x7, rfl⟩, l5, hT5⟩ := hP
    obtain ⟨rfl, rfl⟩ := yy
    have hi : i < 2 := hi
    have S5 := hS.mono hF l5 hT5
    refine ⟨_, rfl, _, rfl, _, rfl, tp, o, od, tg, T, bk, nx, _, rfl, hT5, by omega, S5.tgd, hS.ok, S5.own, hS.bok, hF.to.symm, hF.tod.symm, hS.es, fun qa a v1 v2 sv bs ss t s0 H6 l6 hna hq hT6 => ?_⟩
    have S6 := S5.mono hF l6 hT6
    obtain ⟨dx, tv, hx, _⟩ := S6.book.ins
    refine ⟨_, rfl, x, dx, _, rfl, hx, rfl, _, rfl, qa, _, 0, _, rfl, rfl, SqT.of hq.q, at0, _, rfl, qa, _, 1, _, rfl, rfl, SqT.of hq.q, at1, ?_⟩
    refine ⟨x, d, a, v1, T, bk, nx, bs, ss, inS bs t, s0, rfl, S6.book, hS.bok, hq.ask hS.ok, fun fl H7 l7 hnf ef => ?_⟩
    rw [hq.same] at ef
    have hq7 := hq.mono l7 fun z => z
    refine ⟨_, rfl, _, rfl, o, od, qa, a, v1, v2, sv, T, bk, nx, bs, ss, t, s0, rfl, S6.own.mono l7 (fun z => z) (fun z => z), hS.bok, hq7, fun gl H8 l8 hng eg => ?_⟩
    refine ⟨.list (((fitB bk ss s0 t).map (·.1)).map PyData.int), .list (((fitB bk ss s0 t).map (·.1)).map PyData.int), .lst (SqL.of (l8.rest _ _ (fun z => z) ef)) dv_nos.dp, .lst (SqL.of eg) dv_nos.dp, pd_nos _, pd_nos _, depth_nos _, fun bo hbo => ⟨bo, rfl, ?_⟩⟩
    rw [show bo = false from Bool.eq_false_iff.mpr fun z => hbo.mp z rfl]
    refine iteF ?_
    exact ⟨⟨_, _, _, _, rfl⟩, (l5.trans l6).trans (l7.trans l8).any, (hT6.mono (l7.trans l8) (fun z => z) (Int.le_refl _)).up (by omega)⟩
  · obtain ⟨⟨x4, x5, x6, x7, rfl⟩, l5, hT5⟩ := hP
    have S5 := hS.mono hF l5 hT5
    obtain ⟨dx, tv, hx, _⟩ := S5.book.ins
    refine ⟨_, rfl, x, dx, _, rfl, hx, rfl, x, d, T, bk, nx, rfl, S5.book, hS.bok, hS.ok.fit, fun l acc H6 l6 hnl el hacc => ?_⟩
    have hal := hacc.length
    rw [List.length_map] at hal
    have b1 : (sameB bk).length ≤ bk.length * bk.length := by rw [sameB_eq]; exact flat_len _ _ _ fun a _ => by unfold sameR; rw [List.length_map]; exact List.length_filter_le _ _
    have b2 : bk.length * bk.length ≤ 40 * 40 := Nat.mul_le_mul bl bl
    refine ⟨l, rfl, ⟨_, SqL.of el⟩, fun D2 hD2 => ?_⟩
    refine lc_mapN walk_list noM (fun _ _ => True) (fun i y _ => y = .bl true) hD2 (fun _ z => z.elim) (smallL (by omega)) (fun _ _ _ _ _ h => h) (fun _ _ _ _ _ h => h) trivial (fun i H _ l _ => SqL.of (l.rest _ _ (fun z => z) el)) (fun i x0 H70 H7 hi l7 _ y k1 hk1 => ?_) fun acc2 H7 l7 hacc2 hlen2 _ hbs => ?_
    · obtain ⟨rfl, ex⟩ := y
      obtain ⟨dd, ed, hdd⟩ := (hacc.mono l7.tup).get' ex
      rw [List.getElem?_map] at ed
      obtain ⟨p, ep, rfl⟩ := Option.map_eq_some_iff.mp ed
      obtain ⟨a1, y1, y2, rfl, ha1, hy1, hy2⟩ := dv_two.mp hdd
      rw [dv_int] at hy1 hy2; subst hy1 hy2
      have hlt := same_lt (get_mem ep)
      refine ⟨a1, _, rfl, SqT.of ha1, rfl, _, _, rfl, _, _, rfl, rfl, rfl, _, rfl, _, rfl, _, _, rfl, rfl, hk1 _ _ (Le.refl _) trivial ?_⟩
      show V.bl (decide (p.1 < p.2)) = _
      rw [decide_eq_true hlt]
    · rw [all_bl hbs] at hacc2
      refine ⟨D2, _, rfl, SqL.of hacc2, ?_⟩
      rw [all_rep]
      exact q _ (l5.trans (l6.trans l7).any) ((hT5.mono (l6.trans l7) (fun z => z) (Int.le_refl _)).up (by omega))
end
end Nh
/-! ## NhL17 -/
set_option maxHeartbeats 8000000
namespace Nh
open PySem PySem.Spec PyProof.Rows L2
def spEmptied (C : Addr) : Sp := fun vs H Q _ => ∃ (tp x d o od : Addr) (tg : V) (T : Tg) (bk : Bk) (nx c : Int), vs = [.ref tp, tg, .ref x, .ref o] ∧ Sta H C tp x d o od tg T bk nx c ∧ Far tp x d o od ∧ c + 3000000 ≤ big ∧
  ∀ H', Le (M5 tp x d o od) H H' → Tape H' tp (c + 2000000) → Q (.bl true) H'
section
variable {P : Program} {w : World} {K : PySem.W.Frag} {mg : Str → Option Value} {base : Heap} {f : Addr} {fd : FuncData} {C : Addr}
abbrev N_l_emptied_right : List Str := ["_law_tape_here", "_law_tongue_here", "_law_book", "_law_own", "_law_numbers", "_law_number"]
theorem sc_l_emptied_right : FnScope N_l_emptied_right ["_law_tape_here", "_law_tongue_here", "_law_book", "_law_own"] (defScope s_l_emptied_right) := ⟨rfl, rfl, rfl, by decide +kernel, rfl, by decide +kernel, by decide +kernel⟩
theorem ok_l_emptied_right (F : Fun K "_law_emptied_right" "_law_emptied_right" s_l_emptied_right f fd) (B : Bt mg) (c_l_take : Cal P w K mg base 1 "_law_take" ["_law_tape_here", "_law_many"] spTake) (c_l_stands : Cal P w K mg base 54 "_law_stands" ["_law_tape_here", "_law_tongue_here", "_law_book", "_law_own"] (spStands C))
    (m_drop : MCal P w K base mg 2 C "drop" ["self", "number"] (spDrop C)) (m_same_entries : MCal P w K base mg 53 C "same_entries" ["self"] (spSame C)) : FnOk P w K mg base CX0 55 f fd ["_law_tape_here", "_law_tongue_here", "_law_book", "_law_own"] (spEmptied C) := by
  refine F.ok sc_l_emptied_right (fun vs H Q E h => by obtain ⟨tp, x, d, o, od, tg, T, bk, nx, c, rfl, _⟩ := h; rfl) (fun cdv A outer s H vs Q E hr h => ?_)
  obtain ⟨tp, x, d, o, od, tg, T, bk, nx, c, rfl, hS, hF, hc, q⟩ := h
  have hu := hu_of hr
  have hbig : big = 1000000000000 := rfl
  have hbl := hS.bok.len
  refine ⟨_, (pss_cons (ps_while PassesOwn.never (pt_cmpR (op_ne0 hr.units0) (pe_dget hu (pv 3) (pe_str) (fun _ _ => rfl)) (pe_dnewK) (nomark _)) (pss_cons (ps_set (i := 4) sc_l_emptied_right.nd rfl (by first | exact Or.inl rfl | exact Or.inr rfl) (pe_callB (call_sortedDI rfl) (by rfl) B.sorted bv_sorted (pa_cons (pe_dget hu (pv 3) (pe_str) (fun _ _ => rfl)) pa_nil)))
  (pss_cons (ps_set (i := 5) sc_l_emptied_right.nd rfl (by first | exact Or.inl rfl | exact Or.inr rfl) (pe_ix (ixL (K := K) rfl) (pv 4) (pe_cal c_l_take (hr.mono (by omega)) (by rfl) (pa_cons (pv 0) (pa_cons (pe_callB (lenQ (K := K) rfl) (by rfl) B.len bv_len (pa_cons (pv 4) pa_nil)) pa_nil))) (fun _ _ => rfl)))
  (pss_cons (ps_expr (pe_dpop1 (pe_dget hu (pv 3) (pe_str) (fun _ _ => rfl)) (pv 5) ⟨rfl, rfl, rfl, rfl⟩))
  (pss_one (ps_if (PW.pt (pw_or (pt_cmpR op_notN (pe_mcal m_drop (hr.mono (by omega)) (pv 2) (pa_cons (pv 5) pa_nil)) pe_non (nomark _)) (pw_or1 (pt_not (pt_val (pe_cal c_l_stands (hr.mono (by omega)) (by rfl) (pa_cons (pv 0) (pa_cons (pv 1) (pa_cons (pv 2) (pa_cons (pv 3) pa_nil)))))))))) (pss_one (ps_ret (pe_bl))) pss_nil))))))
  (pss_one (ps_ret (pe_cmpR (eqP (K := K) rfl hr.units) (pe_mcal0 m_same_entries (hr.mono (by omega)) (pv 2)) (pe_lst pa_nil) (nomark _))))), ?_⟩
  refine ⟨fun m σ H' => ∃ (x4 x5 : Option V) (b : Bk), σ = [some (.ref tp), some tg, some (.ref x), some (.ref o), x4, x5] ∧ Le (M5 tp x d o od) H H' ∧ Sta H' C tp x d o od tg T b nx (c + 40000 * (bk.length - b.length)) ∧ b.length ≤ bk.length ∧ m = b.length,
    ⟨bk.length, none, none, bk, rfl, Le.refl _, ⟨hS.tape.up (by omega), hS.book, hS.own, hS.tgd, hS.ok, hS.bok, hS.es⟩, Nat.le_refl _, rfl⟩, fun m σ H1 ⟨x4, x5, b, e1, l1, S1, hb1, em⟩ => ?_⟩
  subst e1 em
  obtain ⟨ho, kvs, hd, hk⟩ := id S1.own
  have kl := hk.len
  refine ⟨_, rfl, o, _, rfl, own_en S1.own, fun m hm => ?_⟩
  have l2 : Le0 H1 (upd H1 m (.dK [])) := Le.new hm _
  have e2 : upd H1 m (.dK []) m = some (.dK []) := upd_same
  generalize upd H1 m (.dK []) = H2 at l2 e2
  have S2 := S1.mono hF l2.any (S1.tape.mono l2 (fun z => z) (Int.le_refl _))
  have L2 : Le (M5 tp x d o od) H H2 := l1.trans l2.any
  have hd2 := l2.rest _ _ (fun z => z) hd
  refine ⟨od, m, kvs, rfl, rfl, .inl hd2, e2, _, rfl, ?_⟩
  cases hkv : kvs with
  | nil =>
    refine iteF ?_
    have hbn : b = [] := List.eq_nil_of_length_eq_zero (by rw [← kl, hkv]; rfl)
    subst hbn
    obtain ⟨dx, tv, hx, _⟩ := S2.book.ins
    refine ⟨_, rfl, x, dx, _, rfl, hx, rfl, x, d, T, [], nx, rfl, S2.book, S2.bok, hS.ok.fit, fun l acc H3 l3 hnl el hacc => ?_⟩
    refine ⟨z0, fun u hu => ?_⟩
    have l4 : Le0 H3 (upd H3 u (.lst [])) := Le.new hu _
    have e4 : upd H3 u (.lst []) u = some (.lst []) := upd_same
    show rEqP _ _ _ _ _
    generalize upd H3 u (.lst []) = H4 at l4 e4
    refine ⟨.list [], .list [], .lst (SqL.of (l4.rest _ _ (fun z => z) el)) (hacc.mono l4.tup).dp, .lst (SqL.of e4) .nil, rfl, rfl, by decide, fun bo hbo => ?_⟩
    rw [hbo.mpr rfl]
    exact q H4 (L2.trans (l3.trans l4).any) ((S2.tape.mono (l3.trans l4) (fun z => z) (Int.le_refl _)).up (by simp; omega))
  | cons kv0 kvr =>
    refine iteT ?_
    have hpos : 0 < b.length := by rw [← kl, hkv]; exact Nat.succ_pos _
    refine ⟨fun σ H' => ∃ (x4 x5 : Option V) (b' : Bk), σ = [some (.ref tp), some tg, some (.ref x), some (.ref o), x4, x5] ∧ Le (M5 tp x d o od) H H' ∧ Sta H' C tp x d o od tg T b' nx (c + 40000 * (bk.length - b'.length)) ∧ b'.length < b.length, fun σ' H' ⟨y4, y5, b', e, l', S', hb'⟩ => ⟨b'.length, hb', y4, y5, b', e, l', S', by omega, rfl⟩, ?_⟩
    refine ⟨_, rfl, o, _, rfl, own_en S2.own, od, kvs, b.map (·.1), rfl, .inl hd2, by rw [hk.1, List.map_map]; rfl, by rw [List.length_map]; omega, fun ys p hp hup hnp => ?_⟩
    obtain rfl := upI_eq hp hup S1.bok.up
    have l3 : Le0 H2 (upd H2 p (.lst (nosV b))) := Le.new hnp _
    have e3 : upd H2 p (.lst (nosV b)) p = some (.lst (nosV b)) := upd_same
    have pT : p ≠ tp := fun e => by obtain ⟨_, _, _, h, _⟩ := S2.tape.ex; rw [e, h] at hnp; cases hnp
    show gName _ _ _ _ _
    generalize upd H2 p (.lst (nosV b)) = H3 at l3 e3
    have S3 := S2.mono hF l3.any (S2.tape.mono l3 (fun z => z) (Int.le_refl _))
    have hnl : (nosV b).length = b.length := by simp
    refine ⟨_, rfl, _, rfl, _, rfl, p, _, rfl, .inl (SqL.of e3), tp, _, _, rfl, S3.tape, by omega, by omega, by omega, fun i H4 hi0 hi1 l4 hT4 => ?_⟩
    obtain ⟨pp, ep⟩ := get_ex (l := b) (i := i.toNat) (by omega)
    have hmem := get_mem ep
    refine ⟨p, _, i, .int pp.1, rfl, rfl, SqL.of (l4.rest _ _ pT e3), ?_, ?_⟩
    · have := atI_nat (xs := nosV b) (j := i.toNat) (v := .int pp.1) (by rw [List.getElem?_map, List.getElem?_map, ep]; rfl)
      rw [show ((i.toNat : Nat) : Int) = i by omega] at this
      exact this
    have S4 := S3.mono hF l4 hT4
    obtain ⟨ho4, kvs4, hd4, hk4⟩ := id S4.own
    obtain ⟨ev, hev, dev⟩ := hk4.get S1.bok.nodup (k := pp.1) (e := pp.2) hmem
    refine ⟨_, rfl, o, _, rfl, own_en S4.own, od, rfl, .inl ⟨kvs4, .inl hd4⟩, _, rfl, kvs4, Sum.inl pp.1, ev, hd4, rfl, hev, ?_⟩
    have m5 : Le (fun a => a = od) H4 (upd H4 od (.dK (dropK kvs4 (Sum.inl pp.1)))) := (Le.refl (M := fun a => a = od) H4).mut (p := od) rfl (fun xs e => by rw [hd4] at e; cases e) _
    have en5 : EnAt (upd H4 od (.dK (dropK kvs4 (Sum.inl pp.1)))) od (b.filter fun q => decide (q.1 ≠ pp.1)) := ⟨_, upd_same, (hk4.drop pp.1).mono m5.tup⟩
    generalize upd H4 od (.dK (dropK kvs4 (Sum.inl pp.1))) = H5 at m5 en5
    have own5 : OwnAt H5 o od (b.filter fun q => decide (q.1 ≠ pp.1)) nx := ⟨m5.rest _ _ hF.ood ho4, en5⟩
    have bk5 := S4.book.mono m5 hF.xod hF.dod
    have hT5 := hT4.mono m5 hF.tod (Int.le_refl _)
    obtain ⟨dx, tv, hx, htv⟩ := bk5.ins
    refine ⟨_, rfl, x, dx, _, rfl, hx, rfl, _, rfl, x, d, T, b, nx, pp.1, pp.2, rfl, bk5, S1.bok.nodup, hmem, fun H6 m6 bk6 => ⟨rfl, _, rfl, ?_⟩⟩
    refine iteF ?_
    have hlt : (b.filter fun q : Int × Ent => decide (q.1 ≠ pp.1)).length < b.length := List.length_filter_lt_length_iff_exists.mpr ⟨pp, hmem, by simp⟩
    have m56 : Le (M5 tp x d o od) H4 H6 := (m5.mono fun a h => .inr (.inr (.inr (.inr h)))).trans (m6.mono fun a h => .inr (.inr (.inl h)))
    have L6 : Le (M5 tp x d o od) H H6 := ((L2.trans l3.any).trans (l4.mono fun a h => .inl h)).trans m56
    have S6 : Sta H6 C tp x d o od tg T (b.filter fun q => decide (q.1 ≠ pp.1)) nx (c + 40000 * (bk.length - b.length) + 1) :=
      ⟨hT5.mono m6 hF.td (Int.le_refl _), bk6, own5.mono m6 (fun e => hF.do_ e.symm) (fun e => hF.dod e.symm), S4.tgd.mono m56.tup, hS.ok, S1.bok.drop pp.1, fun p hp => S1.es p (List.mem_filter.mp hp).1⟩
    refine ⟨_, rfl, _, rfl, _, rfl, _, rfl, tp, x, d, o, od, tg, T, _, nx, _, rfl, S6, hF, by omega, fun H7 l7 hT7 => ⟨_, rfl, ?_⟩⟩
    refine iteF ?_
    have S7 := S6.mono hF l7 hT7
    exact ⟨_, _, _, rfl, L6.trans (l7.mono fun a h => .inl h), ⟨S7.tape.up (by omega), S7.book, S7.own, S7.tgd, S7.ok, S7.bok, S7.es⟩, hlt⟩
end
end Nh
/-! ## NhL18 -/
set_option maxHeartbeats 8000000
namespace Nh
open PySem PySem.Spec PyProof.Rows L2
/-! ### the same entries by the numbers 0, 1, .. -/
def tri : Bk → Nat → Tri
  | [], _ => []
  | p :: r, j => (p.1, ((j : Nat) : Int), p.2) :: tri r (j + 1)
theorem tri_one : ∀ (b : Bk) (j : Nat), Tri.one (tri b j) = b
  | [], _ => rfl
  | p :: r, j => by show (p.1, p.2) :: Tri.one (tri r (j + 1)) = _; rw [tri_one r (j + 1)]
theorem tri_at : ∀ (b : Bk) (j i : Nat), (tri b j)[i]? = (b[i]?).map fun p => (p.1, ((j + i : Nat) : Int), p.2)
  | [], _, _ => by simp [tri]
  | p :: r, j, 0 => rfl
  | p :: r, j, i + 1 => by
    show (tri r (j + 1))[i]? = (r[i]?).map _
    rw [tri_at r (j + 1) i, show j + 1 + i = j + (i + 1) by omega]
theorem tri_len (b : Bk) (j : Nat) : (tri b j).length = b.length := by have := congrArg List.length (tri_one b j); simpa using this
theorem tri_snoc : ∀ (b : Bk) (p : Int × Ent) (j : Nat), tri (b ++ [p]) j = tri b j ++ [(p.1, ((j + b.length : Nat) : Int), p.2)]
  | [], _, _ => rfl
  | q :: r, p, j => by
    show _ :: tri (r ++ [p]) (j + 1) = _ :: (tri r (j + 1) ++ _)
    rw [tri_snoc r p (j + 1), show j + 1 + r.length = j + (q :: r).length by rw [List.length_cons]; omega]
abbrev anewB (b : Bk) : Bk := Tri.two (tri b 0)
theorem anew_snoc (b : Bk) (p : Int × Ent) : anewB (b ++ [p]) = anewB b ++ [(((b.length : Nat) : Int), p.2)] := by
  unfold anewB
  rw [tri_snoc, Nat.zero_add]
  show List.map _ _ = _
  rw [List.map_append]; rfl
theorem anew_at (b : Bk) (i : Nat) : (anewB b)[i]? = (b[i]?).map fun p => (((i : Nat) : Int), p.2) := by
  unfold anewB
  rw [List.getElem?_map, tri_at, Option.map_map, Nat.zero_add]; rfl
theorem anew_len (b : Bk) : (anewB b).length = b.length := by unfold anewB; rw [List.length_map, tri_len]
def phi (b : Bk) (j : Int) : Int := ((b.map (·.1))[j.toNat]?).getD 0
theorem phi_at {b : Bk} {i : Nat} {p : Int × Ent} (e : b[i]? = some p) : phi b ((i : Nat) : Int) = p.1 := by
  unfold phi
  rw [Int.toNat_natCast, List.getElem?_map, e]; rfl
theorem tri_phi {b : Bk} : ∀ x ∈ tri b 0, phi b x.2.1 = x.1 := fun x hx => by
  obtain ⟨i, hi, e⟩ := mem_get hx
  rw [tri_at, Nat.zero_add] at e
  obtain ⟨p, ep, rfl⟩ := Option.map_eq_some_iff.mp e
  exact phi_at ep
theorem anew_mem {b : Bk} {p : Int × Ent} (h : p ∈ anewB b) : ∃ (i : Nat) (q : Int × Ent), b[i]? = some q ∧ p = (((i : Nat) : Int), q.2) := by
  obtain ⟨i, hi, e⟩ := mem_get h
  rw [anew_at] at e
  obtain ⟨q, eq, e⟩ := Option.map_eq_some_iff.mp e
  exact ⟨i, q, eq, e.symm⟩
theorem tri_up {b : Bk} (hu : (b.map (·.1)).Pairwise (· < ·)) : ∀ x ∈ tri b 0, ∀ y ∈ tri b 0, (x.2.1 < y.2.1 ↔ x.1 < y.1) := fun x hx y hy => by
  obtain ⟨i, hi, e⟩ := mem_get hx
  obtain ⟨j, hj, e'⟩ := mem_get hy
  rw [tri_at, Nat.zero_add] at e e'
  obtain ⟨p, ep, rfl⟩ := Option.map_eq_some_iff.mp e
  obtain ⟨q, eq, rfl⟩ := Option.map_eq_some_iff.mp e'
  rw [tri_len] at hi hj
  have lt : ∀ {i j : Nat} {p q : Int × Ent}, b[i]? = some p → b[j]? = some q → i < j → p.1 < q.1 := fun {i j p q} e1 e2 h => by
    obtain ⟨h1, e1⟩ := List.getElem?_eq_some_iff.mp e1
    obtain ⟨h2, e2⟩ := List.getElem?_eq_some_iff.mp e2
    have := (List.pairwise_iff_getElem.mp hu) i j (by simpa using h1) (by simpa using h2) h
    simp only [List.getElem_map, e1, e2] at this
    exact this
  show ((i : Nat) : Int) < ((j : Nat) : Int) ↔ p.1 < q.1
  constructor
  · intro h; exact lt ep eq (by omega)
  · intro h
    by_cases h1 : i < j
    · omega
    · by_cases h2 : j < i
      · have := lt eq ep h2; omega
      · have : i = j := by omega
        subst this
        rw [ep] at eq; cases eq; omega
theorem anew_ok {T : Tg} {b : Bk} {nx : Int} (h : BkOk T b nx) : BkOk T (anewB b) ((b.length : Nat) : Int) := by
  refine ⟨?_, fun p hp => ?_, fun p hp => ?_, by rw [anew_len]; exact h.len, by omega, by have := h.len; omega⟩
  · refine List.pairwise_iff_getElem.mpr fun i j hi hj hij => ?_
    have at_ : ∀ {i : Nat} (hi : i < ((anewB b).map (·.1)).length), ((anewB b).map (·.1))[i] = ((i : Nat) : Int) := fun {i} hi => by
      have hi2 : i < b.length := by rw [List.length_map, anew_len] at hi; exact hi
      obtain ⟨p, ep⟩ := get_ex hi2
      have h1 : ((anewB b).map (·.1))[i]? = some ((i : Nat) : Int) := by rw [List.getElem?_map, anew_at, ep]; rfl
      exact Option.some.inj ((List.getElem?_eq_getElem hi).symm.trans h1)
    rw [at_ hi, at_ hj]
    show ((i : Nat) : Int) < ((j : Nat) : Int); omega
  · obtain ⟨i, q, e, rfl⟩ := anew_mem hp
    have := (List.getElem?_eq_some_iff.mp e).1
    exact ⟨by show (0 : Int) ≤ ((i : Nat) : Int); omega, by show ((i : Nat) : Int) < _; omega⟩
  · obtain ⟨i, q, e, rfl⟩ := anew_mem hp
    exact h.ent q (get_mem e)
theorem anew_new (b : Bk) : ((b.length : Nat) : Int) ∉ (anewB b).map (·.1) := fun z => by
  obtain ⟨p, hp, e⟩ := List.mem_map.mp z
  obtain ⟨i, q, eq, rfl⟩ := anew_mem hp
  have := (List.getElem?_eq_some_iff.mp eq).1
  have e : ((i : Nat) : Int) = ((b.length : Nat) : Int) := e
  omega
theorem fit_anew (b : Bk) (ss : List Int) (s : Int) (t : Tm) : (fitB (anewB b) ss s t).map (fun p => phi b p.1) = (fitB b ss s t).map (·.1) := by
  have := fit_two (L := tri b 0) (φ := phi b) tri_phi ss s t
  rw [tri_one] at this
  exact this
theorem nar_anew (b : Bk) (ss : List Int) (s : Int) (t : Tm) : (narB (fitB (anewB b) ss s t)).map (fun p => phi b p.1) = (narB (fitB b ss s t)).map (·.1) := by
  have := nar_two (L := tri b 0) (φ := phi b) tri_phi ss s t
  rw [tri_one] at this
  exact this
theorem same_anew {b : Bk} (hu : (b.map (·.1)).Pairwise (· < ·)) : (sameB (anewB b)).map (fun p => (phi b p.1, phi b p.2)) = sameB b := by
  have := same_two (L := tri b 0) (φ := phi b) tri_phi (tri_up hu)
  rw [tri_one] at this
  exact this
theorem pick_phi {b : Bk} {p : Int × Ent} (h : p ∈ anewB b) : atI (nosV b) p.1 = some (.int (phi b p.1)) ∧ (phi b p.1, p.2) ∈ b := by
  obtain ⟨i, q, e, rfl⟩ := anew_mem h
  have hp := phi_at e
  refine ⟨?_, ?_⟩
  · show atI (nosV b) ((i : Nat) : Int) = some (.int (phi b ((i : Nat) : Int)))
    rw [hp]
    exact atI_nat (by rw [List.getElem?_map, List.getElem?_map, e]; rfl)
  · show (phi b ((i : Nat) : Int), q.2) ∈ b
    rw [hp]; exact get_mem e
theorem same_mem {b : Bk} {p : Int × Int} (h : p ∈ sameB b) : ∃ q r, q ∈ b ∧ r ∈ b ∧ p = (q.1, r.1) := by
  rw [sameB_eq] at h
  obtain ⟨q, hq, h⟩ := List.mem_flatMap.mp h
  obtain ⟨r, hr, rfl⟩ := List.mem_map.mp h
  exact ⟨q, r, hq, (List.mem_filter.mp hr).1, rfl⟩
theorem pd_prs (l : List (Int × Int)) : pd (.list (l.map prD)) = true := by rw [pd_lst, pdA_iff]; intro x hx; obtain ⟨y, _, rfl⟩ := List.mem_map.mp hx; exact pd_two (pd_int _) (pd_int _)
theorem depth_prs (l : List (Int × Int)) : (PyData.list (l.map prD)).depth ≤ 60 := Nat.le_trans (depth_lst (n := 1) fun x hx => by obtain ⟨y, _, rfl⟩ := List.mem_map.mp hx; exact depth_two (n := 0) (by rw [depth_int]; exact Nat.le_refl _) (by rw [depth_int]; exact Nat.le_refl _)) (by decide)
theorem pd_rows (l : List (Str × Nat × Tm)) : pd (.list (l.map rowD)) = true := by rw [pd_lst, pdA_iff]; intro x hx; obtain ⟨y, _, rfl⟩ := List.mem_map.mp hx; exact pd_three (pd_str _) (pd_strs _) (pd_encT _)
theorem depth_rowsE {T : Tg} {e : Ent} {t : Tm} (hd : dp t ≤ 16) : (PyData.list ((rowsE e t).map rowD)).depth ≤ 60 := by
  refine Nat.le_trans (depth_lst (n := 49) fun x hx => ?_) (by decide)
  obtain ⟨y, hy, rfl⟩ := List.mem_map.mp hx
  unfold rowsE rowsG at hy
  obtain ⟨h, hh, rfl⟩ := List.mem_map.mp hy
  have hm : h ∈ (laid e.pat t []).2.map (·.1) := ((upS_spec _).1.mem_iff).mp hh
  obtain ⟨r, hr⟩ := lookup_ex hm
  have hdp : dp r.2 ≤ 16 := laid_dp e.pat t [] hd (fun _ z => nomatch z) _ (lookup_mem hr)
  refine depth_three (n := 48) (by rw [depth_str]; omega) (Nat.le_trans (depth_strs _) (by decide)) ?_
  show (encT ((List.lookup h (laid e.pat t []).2).getD (0, .name h)).2).depth ≤ 48
  rw [hr]
  have := depth_encT r.2
  show (encT r.2).depth ≤ 48
  omega
def spAnew (C : Addr) : Sp := fun vs H Q _ => ∃ (tp x d o od : Addr) (tg : V) (T : Tg) (bk : Bk) (nx c : Int), vs = [.ref tp, tg, .ref x, .ref o] ∧ Sta H C tp x d o od tg T bk nx c ∧ Far tp x d o od ∧ c + 1000000 ≤ big ∧
  ∀ H', Le (atT tp) H H' → Tape H' tp (c + 100000) → Q (.bl true) H'
section
variable {P : Program} {w : World} {K : PySem.W.Frag} {mg : Str → Option Value} {base : Heap} {f : Addr} {fd : FuncData} {C : Addr}
abbrev N_l_anew_right : List Str := ["_law_tape_here", "_law_tongue_here", "_law_book", "_law_own", "_law_number", "_law_turn", "_law_numbers", "_law_other", "_law_scope_here", "_law_some", "_law_word", "_law_sorts", "_law_sort", "_law_pattern", "_law_term_here", "_law_at", "_law_one", "_law_two"]
theorem sc_l_anew_right : FnScope N_l_anew_right ["_law_tape_here", "_law_tongue_here", "_law_book", "_law_own"] (defScope s_l_anew_right) := ⟨rfl, rfl, rfl, by decide +kernel, rfl, by decide +kernel, by decide +kernel⟩
theorem ok_l_anew_right (F : Fun K "_law_anew_right" "_law_anew_right" s_l_anew_right f fd) (B : Bt mg) (c_l_question : Cal P w K mg base 20 "_law_question" ["_law_tape_here", "_law_tongue_here", "_law_own"] spQuestion) (c_l_scope_of : Cal P w K mg base 3 "_law_scope_of" ["_law_tape_here", "_law_sorts"] spScopeOf)
    (c_l_in_scope : Cal P w K mg base 18 "_law_in_scope" ["_law_scope_here", "_law_term_here"] spInScope) (k_book : MkCal P w K base mg 1 C "Book" ["self", "tongue"] (spBkInit C)) (m_put : MCal P w K base mg 35 C "put" ["self", "word", "scope", "term"] (spPut C)) (m_fitting : MCal P w K base mg 52 C "fitting" ["self", "scope", "term"] (spFitting C))
    (m_narrowest : MCal P w K base mg 54 C "narrowest" ["self", "scope", "term"] (spNarrowest C)) (m_rows_of : MCal P w K base mg 52 C "rows_of" ["self", "number", "scope", "term"] (spRowsOf C)) (m_same_entries : MCal P w K base mg 53 C "same_entries" ["self"] (spSame C)) :
    FnOk P w K mg base CX0 55 f fd ["_law_tape_here", "_law_tongue_here", "_law_book", "_law_own"] (spAnew C) := by
  refine F.ok sc_l_anew_right (fun vs H Q E h => by obtain ⟨tp, x, d, o, od, tg, T, bk, nx, c, rfl, _⟩ := h; rfl) (fun cdv A outer s H vs Q E hr h => ?_)
  obtain ⟨tp, x, d, o, od, tg, T, bk, nx, c, rfl, hS, hF, hc, q⟩ := h
  have hu := hu_of hr
  have hbig : big = 1000000000000 := rfl
  have hbl := hS.bok.len
  refine ⟨_, (pss_cons (ps_asg (pe_tup (pa_cons (pe_callB (call_sortedDI rfl) (by rfl) B.sorted bv_sorted (pa_cons (pe_dget hu (pv 3) (pe_str) (fun _ _ => rfl)) pa_nil)) (pa_cons (pe_mk k_book (hr.mono (by omega)) (by rfl) (pa_cons (pv 1) pa_nil)) pa_nil))) (pgT (K := K) (n := 2) rfl rfl (pgs_cons (pg_name (i := 6) sc_l_anew_right.nd rfl (by first | exact Or.inl rfl | exact Or.inr rfl)) (pgs_cons (pg_name (i := 7) sc_l_anew_right.nd rfl (by first | exact Or.inl rfl | exact Or.inr rfl)) pgs_nil))))
  (pss_cons (ps_for PassesOwn.never rfl (piL (K := K) rfl (pv 6)) (pg_name (i := 4) sc_l_anew_right.nd rfl (by first | exact Or.inl rfl | exact Or.inr rfl)) (pss_cons (ps_asg (pe_dget hu (pe_dget hu (pv 3) (pe_str) (fun _ _ => rfl)) (pv 4) (fun _ _ => rfl)) (pgT (K := K) (n := 4) rfl rfl (pgs_cons (pg_name (i := 10) sc_l_anew_right.nd rfl (by first | exact Or.inl rfl | exact Or.inr rfl)) (pgs_cons (pg_name (i := 11) sc_l_anew_right.nd rfl (by first | exact Or.inl rfl | exact Or.inr rfl)) (pgs_cons (pg_name (i := 12) sc_l_anew_right.nd rfl (by first | exact Or.inl rfl | exact Or.inr rfl)) (pgs_cons (pg_name (i := 13) sc_l_anew_right.nd rfl (by first | exact Or.inl rfl | exact Or.inr rfl)) pgs_nil))))))
  (pss_cons (ps_set (i := 8) sc_l_anew_right.nd rfl (by first | exact Or.inl rfl | exact Or.inr rfl) (pe_cal c_l_scope_of (hr.mono (by omega)) (by rfl) (pa_cons (pv 0) (pa_cons (pv 11) pa_nil))))
  (pss_one (ps_expr (pe_mcal m_put (hr.mono (by omega)) (pv 7) (pa_cons (pv 10) (pa_cons (pv 8) (pa_cons (pe_cal c_l_in_scope (hr.mono (by omega)) (by rfl) (pa_cons (pv 8) (pa_cons (pv 13) pa_nil))) pa_nil)))))))))
  (pss_cons (ps_for PassesOwn.never rfl (pi_range1 (by rfl) B.range (pa_cons (pe_int) pa_nil)) (pg_name (i := 5) sc_l_anew_right.nd rfl (by first | exact Or.inl rfl | exact Or.inr rfl)) (pss_cons (ps_asg (pe_slice (slAQ (K := K) rfl) (pe_cal c_l_question (hr.mono (by omega)) (by rfl) (pa_cons (pv 0) (pa_cons (pv 1) (pa_cons (pv 3) pa_nil)))) po_none (po_some (pe_int))) (pgT (K := K) (n := 2) rfl rfl (pgs_cons (pg_name (i := 8) sc_l_anew_right.nd rfl (by first | exact Or.inl rfl | exact Or.inr rfl)) (pgs_cons (pg_name (i := 14) sc_l_anew_right.nd rfl (by first | exact Or.inl rfl | exact Or.inr rfl)) pgs_nil))))
  (pss_cons (ps_set (i := 9) sc_l_anew_right.nd rfl (by first | exact Or.inl rfl | exact Or.inr rfl) (pe_mcal m_fitting (hr.mono (by omega)) (pv 7) (pa_cons (pv 8) (pa_cons (pv 14) pa_nil))))
  (pss_cons (ps_if (pt_cmpR (neP (K := K) rfl hr.units) (pe_lc (own := [("_law_at", 15)]) rfl sc_l_anew_right.nd (piL (K := K) rfl (pv 9)) (blkOk_by (own := [("_law_at", 15)]) (N := N_l_anew_right) (sc := defScope s_l_anew_right) (by decide +kernel)) (fun _ _ _ _ _ => pg_name (i := 15) sc_l_anew_right.nd rfl (by first | exact Or.inl rfl | exact Or.inr rfl)) (fun _ _ _ _ _ => pts_nil) (fun _ _ _ _ _ => pe_ix (ixL (K := K) rfl) (pv 6) (pv 15) (fun _ _ => rfl))) (pe_mcal m_fitting (hr.mono (by omega)) (pv 2) (pa_cons (pv 8) (pa_cons (pv 14) pa_nil))) (nomark _)) (pss_one (ps_ret (pe_bl))) pss_nil)
  (pss_cons (ps_if (pt_cmpR (neP (K := K) rfl hr.units) (pe_lc (own := [("_law_at", 15)]) rfl sc_l_anew_right.nd (piL (K := K) rfl (pe_mcal m_narrowest (hr.mono (by omega)) (pv 7) (pa_cons (pv 8) (pa_cons (pv 14) pa_nil)))) (blkOk_by (own := [("_law_at", 15)]) (N := N_l_anew_right) (sc := defScope s_l_anew_right) (by decide +kernel)) (fun _ _ _ _ _ => pg_name (i := 15) sc_l_anew_right.nd rfl (by first | exact Or.inl rfl | exact Or.inr rfl)) (fun _ _ _ _ _ => pts_nil) (fun _ _ _ _ _ => pe_ix (ixL (K := K) rfl) (pv 6) (pv 15) (fun _ _ => rfl))) (pe_mcal m_narrowest (hr.mono (by omega)) (pv 2) (pa_cons (pv 8) (pa_cons (pv 14) pa_nil))) (nomark _)) (pss_one (ps_ret (pe_bl))) pss_nil)
  (pss_one (ps_if (pt_val (pe_callB (anyQ (K := K) rfl rfl) (by rfl) B.any bv_any (pa_cons (pe_lc (own := [("_law_at", 15)]) rfl sc_l_anew_right.nd (piL (K := K) rfl (pv 9)) (blkOk_by (own := [("_law_at", 15)]) (N := N_l_anew_right) (sc := defScope s_l_anew_right) (by decide +kernel)) (fun _ _ _ _ _ => pg_name (i := 15) sc_l_anew_right.nd rfl (by first | exact Or.inl rfl | exact Or.inr rfl)) (fun _ _ _ _ _ => pts_nil) (fun _ _ _ _ _ => pe_cmpR (neP (K := K) rfl hr.units) (pe_mcal m_rows_of (hr.mono (by omega)) (pv 7) (pa_cons (pv 15) (pa_cons (pv 8) (pa_cons (pv 14) pa_nil)))) (pe_mcal m_rows_of (hr.mono (by omega)) (pv 2) (pa_cons (pe_ix (ixL (K := K) rfl) (pv 6) (pv 15) (fun _ _ => rfl)) (pa_cons (pv 8) (pa_cons (pv 14) pa_nil)))) (nomark _))) pa_nil))) (pss_one (ps_ret (pe_bl))) pss_nil)))))))
  (pss_one (ps_ret (pe_cmpR (eqP (K := K) rfl hr.units) (pe_lc (own := [("_law_one", 16), ("_law_two", 17)]) rfl sc_l_anew_right.nd (piL (K := K) rfl (pe_mcal0 m_same_entries (hr.mono (by omega)) (pv 7))) (blkOk_by (own := [("_law_one", 16), ("_law_two", 17)]) (N := N_l_anew_right) (sc := defScope s_l_anew_right) (by decide +kernel)) (fun _ _ _ _ _ => pgT (K := K) (n := 2) rfl rfl (pgs_cons (pg_name (i := 16) sc_l_anew_right.nd rfl (by first | exact Or.inl rfl | exact Or.inr rfl)) (pgs_cons (pg_name (i := 17) sc_l_anew_right.nd rfl (by first | exact Or.inl rfl | exact Or.inr rfl)) pgs_nil))) (fun _ _ _ _ _ => pts_nil) (fun _ _ _ _ _ => pe_tup (pa_cons (pe_ix (ixL (K := K) rfl) (pv 6) (pv 16) (fun _ _ => rfl)) (pa_cons (pe_ix (ixL (K := K) rfl) (pv 6) (pv 17) (fun _ _ => rfl)) pa_nil)))) (pe_mcal0 m_same_entries (hr.mono (by omega)) (pv 2)) (nomark _))))))), ?_⟩
  obtain ⟨ho, kvs, hd, hk⟩ := id hS.own
  have kl := hk.len
  refine ⟨_, rfl, o, _, rfl, own_en hS.own, od, kvs, bk.map (·.1), rfl, .inl hd, by rw [hk.1, List.map_map]; rfl, by rw [List.length_map]; omega, fun ys p hp hup hnp => ?_⟩
  obtain rfl := upI_eq hp hup hS.bok.up
  have l1 : Le0 H (upd H p (.lst (nosV bk))) := Le.new hnp _
  have e1 : upd H p (.lst (nosV bk)) p = some (.lst (nosV bk)) := upd_same
  show tCons _ _ _ _ _
  generalize upd H p (.lst (nosV bk)) = H1 at l1 e1
  refine ⟨_, rfl, fun x2 dx2 hx2 hdx2 hne => ?_⟩
  have hx3 : upd H1 dx2 (.own x2) x2 = none := by rw [upd_ne fun z => hne z.symm]; exact hx2
  have l2 : Le0 H1 (upd (upd H1 dx2 (.own x2)) x2 (.ins C dx2 [])) := (Le.new hdx2 _).trans (Le.new hx3 _)
  refine ⟨x2, dx2, tg, T, rfl, upd_same, hS.tgd.mono (Tu.trans l1.tup l2.tup), fun d2 H2 m2 hd2 bk0 => ⟨rfl, z2, fun pr hpr => ?_⟩⟩
  have L2 : Le0 H1 H2 := l2.back m2 hx2
  have hd2' : H1 d2 = none := l2.nil hd2
  have l3 : Le0 H1 (upd H2 pr (.tup [.ref p, .ref x2])) := L2.trans (Le.new hpr _)
  have epr : upd H2 pr (.tup [.ref p, .ref x2]) pr = some (.tup [.ref p, .ref x2]) := upd_same
  have bk3 := bk0.mono (Le.new (M := noM) hpr (.tup [.ref p, .ref x2])) (fun z => z) fun z => z
  generalize upd H2 pr (.tup [.ref p, .ref x2]) = H3 at l3 epr bk3
  have hlen3 : (nosV bk).length = bk.length := by simp
  have L3 : Le0 H H3 := l1.trans l3
  have hT3 := hS.tape.mono L3 (fun z => z) (Int.le_refl _)
  have S3 := hS.mono hF L3.any hT3
  have fr : ∀ {a : Addr} {u : HO}, H a = some u → a ≠ x2 ∧ a ≠ d2 := fun {a u} h => ⟨fun e => (by rw [← e, l1.rest _ _ (fun z => z) h] at hx2; cases hx2), fun e => (by rw [← e, l1.rest _ _ (fun z => z) h] at hd2'; cases hd2')⟩
  obtain ⟨_, _, _, htp, _⟩ := hS.tape.ex
  obtain ⟨_, _, hxx, _⟩ := hS.book.ins
  obtain ⟨_, hdd, _⟩ := hS.book.en.ex
  have t2 := fr htp
  have xx2 := fr hxx
  have dd2 := fr hdd
  have oo2 := fr ho
  have od2 := fr hd
  have p2 : p ≠ x2 ∧ p ≠ d2 := ⟨fun e => (by rw [e] at e1; rw [hx2] at e1; cases e1), fun e => (by rw [e] at e1; rw [hd2'] at e1; cases e1)⟩
  have pT : p ≠ tp := fun e => by rw [e, htp] at hnp; cases hnp
  have x2d2 := bk3.ne
  have e3 := l3.rest _ _ (fun z => z) e1
  refine ⟨pr, _, rfl, SqT.of epr, rfl, _, _, rfl, _, _, rfl, rfl, ?_⟩
  refine ⟨_, rfl, p, rfl, ⟨_, SqL.of e3⟩, ?_⟩
  refine for_it walk_list (fun i σ H' => (∃ (y4 y5 y8 y9 y10 y11 y12 y13 y14 y15 y16 y17 : Option V), σ = [some (.ref tp), some tg, some (.ref x), some (.ref o), y4, y5, some (.ref p), some (.ref x2), y8, y9, y10, y11, y12, y13, y14, y15, y16, y17]) ∧ Le (fun a => a = tp ∨ a = x2 ∨ a = d2) H3 H' ∧ BkAt H' C x2 d2 T (anewB (bk.take i)) ((i : Nat) : Int) ∧ Tape H' tp (c + 100 * i))
    ⟨⟨none, none, none, none, none, none, none, none, none, none, none, none, rfl⟩, Le.refl _, bk3, hT3.up (by omega)⟩ (fun i σ H' _ ⟨_, l, _⟩ => SqL.of (l.rest _ _ (fun z => z.elim pT fun z => z.elim p2.1 p2.2) e3)) (fun i y σ H40 H4 hi hP yy => ?_) fun σ H4 hP => ?_
  · obtain ⟨⟨y4, y5, y8, y9, y10, y11, y12, y13, y14, y15, y16, y17, rfl⟩, l4, bk4, hT4⟩ := hP
    obtain ⟨rfl, ex⟩ := yy
    obtain ⟨pp, ep⟩ := get_ex (l := bk) (i := i) (by omega)
    rw [List.getElem?_map, List.getElem?_map, ep] at ex
    obtain rfl := Option.some.inj ex
    have hmem := get_mem ep
    have tk : bk.take (i + 1) = bk.take i ++ [pp] := by rw [List.take_add_one, ep]; rfl
    have own4 := S3.own.mono l4 (fun z => z.elim hF.to.symm fun z => z.elim oo2.1 oo2.2) (fun z => z.elim hF.tod.symm fun z => z.elim od2.1 od2.2)
    obtain ⟨ho4, kvs4, hd4, hk4⟩ := id own4
    obtain ⟨ev, hev, dev⟩ := hk4.get hS.bok.nodup (k := pp.1) (e := pp.2) hmem
    have he : EntOk T pp.2 := hS.bok.ent pp hmem
    have he6 := hS.es pp hmem
    obtain ⟨ea, us, rfl, hea, hus⟩ := dv_tup.mp dev
    obtain ⟨u1, us, rfl, d1, hus⟩ := dva_cons.mp hus
    obtain ⟨u2, us, rfl, d2', hus⟩ := dva_cons.mp hus
    obtain ⟨u3, us, rfl, d3, hus⟩ := dva_cons.mp hus
    obtain ⟨u4, us, rfl, d4, hus⟩ := dva_cons.mp hus
    obtain rfl := dva_nil.mp hus
    rw [dv_str] at d1; subst d1
    rw [dv_int] at d3; subst d3
    refine ⟨_, rfl, o, _, rfl, own_en own4, _, rfl, od, _, rfl, dget_int (.inl hd4) hev, ?_⟩
    refine ⟨ea, _, rfl, SqT.of hea, rfl, _, _, rfl, _, _, rfl, _, _, rfl, _, _, rfl, rfl, ?_⟩
    refine ⟨_, rfl, _, rfl, tp, u2, pp.2.sorts, _, rfl, hT4, by omega, d2', he6, fun a bs H5 l5 hna hsc hsn hT5 => ?_⟩
    have blen := hsc.len
    have bk5 := bk4.mono l5 t2.1.symm t2.2.symm
    obtain ⟨dx5, tv5, hx5, _⟩ := bk5.ins
    have e60 := he.s
    have e8 := he.d
    refine ⟨_, rfl, x2, dx5, _, rfl, hx5, rfl, _, rfl, _, rfl, _, rfl, _, rfl, a, u4, bs, pp.2.sorts, pp.2.pat, rfl, hsc.scp, d4.mono l5.tup, he.ty.thin hS.ok.fit.slim, by omega, by omega, by omega, fun v6 H6 l6 hv6 => ?_⟩
    have hqo : QOk T bs pp.2.sorts (inS bs pp.2.pat) pp.2.sort := q_of hsn blen he.len he.ty (by omega) (by omega)
    have hlt : (bk.take i).length = i := by rw [List.length_take]; omega
    refine ⟨x2, d2, a, v6, T, anewB (bk.take i), ((i : Nat) : Int), pp.2.word, bs, pp.2.sorts, inS bs pp.2.pat, pp.2.sort, rfl, bk5.mono l6 (fun z => z) (fun z => z), ?_, by rw [anew_len]; omega, hsc.mono l6 (fun z => z), hv6, hS.ok.fit, hqo, fun H7 m7 bk7 => ?_⟩
    · have := anew_new (bk.take i); rw [hlt] at this; exact this
    have hsame : neatT bs (inS bs pp.2.pat) = pp.2.pat := neat_in_same hsn (by rw [blen]; exact he.nt)
    rw [hsame] at bk7
    refine ⟨⟨_, _, _, _, _, _, _, _, _, _, _, _, rfl⟩, (l4.trans (l5.mono fun a h => .inl h)).trans (l6.any.trans (m7.mono fun a h => h.elim (fun h => .inr (.inr h)) fun h => .inr (.inl h))), ?_, ((hT5.mono l6 (fun z => z) (Int.le_refl _)).mono m7 (fun z => z.elim t2.2 t2.1) (Int.le_refl _)).up (by omega)⟩
    rw [tk, anew_snoc, hlt]
    exact bk7
  obtain ⟨⟨y4, y5, y8, y9, y10, y11, y12, y13, y14, y15, y16, y17, rfl⟩, l4, bk4, hT4⟩ := hP
  rw [show bk.take (nosV bk).length = bk by rw [hlen3, List.take_length]] at bk4
  rw [hlen3] at bk4 hT4
  have bok2 := anew_ok hS.bok
  have own4 := S3.own.mono l4 (fun z => z.elim hF.to.symm fun z => z.elim oo2.1 oo2.2) (fun z => z.elim hF.tod.symm fun z => z.elim od2.1 od2.2)
  have book4 := S3.book.mono l4 (fun z => z.elim hF.tx.symm fun z => z.elim xx2.1 xx2.2) (fun z => z.elim hF.td.symm fun z => z.elim dd2.1 dd2.2)
  have S4 : Sta H4 C tp x d o od tg T bk nx (c + 100 * bk.length) := ⟨hT4, book4, own4, S3.tgd.mono l4.tup, hS.ok, hS.bok, hS.es⟩
  have e4 : H4 p = some (.lst (nosV bk)) := l4.rest _ _ (fun z => z.elim pT fun z => z.elim p2.1 p2.2) e3
  have LH4 : Le (atT tp) H H4 := by
    have m := L3.any.trans l4
    refine ⟨m.tup, fun a u ha hu => m.rest a u (fun z => z.elim ha fun z => z.elim (fun z => (fr hu).1 z) fun z => (fr hu).2 z) hu, m.dom⟩
  refine ⟨3, rfl, by decide, by decide, ?_⟩
  refine for_it walk_range (fun i σ H' => (∃ (y4 y5 y8 y9 y10 y11 y12 y13 y14 y15 y16 y17 : Option V), σ = [some (.ref tp), some tg, some (.ref x), some (.ref o), y4, y5, some (.ref p), some (.ref x2), y8, y9, y10, y11, y12, y13, y14, y15, y16, y17]) ∧ Le (atT tp) H4 H' ∧ Tape H' tp (c + 100 * bk.length + 12000 * i)) ⟨⟨_, _, _, _, _, _, _, _, _, _, _, _, rfl⟩, Le.refl _, hT4.up (by omega)⟩ (fun _ _ _ _ _ => trivial) (fun i y σ H50 H5 hi hP yy => ?_) fun σ H5 hP => ?_
  · obtain ⟨⟨y4, y5, y8, y9, y10, y11, y12, y13, y14, y15, y16, y17, rfl⟩, l5, hT5⟩ := hP
    obtain ⟨rfl, rfl⟩ := yy
    have hi : i < 3 := hi
    have S5 := S4.mono hF l5 hT5
    refine ⟨_, rfl, _, rfl, _, rfl, tp, o, od, tg, T, bk, nx, _, rfl, hT5, by omega, S5.tgd, hS.ok, S5.own, hS.bok, hF.to.symm, hF.tod.symm, hS.es, fun qa a v1 v2 sv bs ss t s0 H6 l6 hna hq hT6 => ?_⟩
    refine ⟨_, rfl, qa, _, rfl, SqT.of hq.q, fun h => ?_, fun _ q2 hq2 => ?_⟩
    · exfalso
      have h2 := h.2
      rw [show (2 : Int) = ((2 : Nat) : Int) from rfl, HT.sIx_nat] at h2
      simp at h2
    have l7 : Le0 H6 (upd H6 q2 (.tup [.ref a, v1])) := Le.new hq2 _
    have e7 : upd H6 q2 (.tup [.ref a, v1]) q2 = some (.tup [.ref a, v1]) := upd_same
    have ecut : cutV [.ref a, v1, sv, .int s0, v2] none (some 2) = [.ref a, v1] := rfl
    rw [ecut]
    generalize upd H6 q2 (.tup [.ref a, v1]) = H7 at l7 e7
    have LL7 : Le (atT tp) H4 H7 := (l5.trans l6).trans l7.any
    have hT7 := hT6.mono l7 (fun z => z) (Int.le_refl _)
    have S7 := S4.mono hF LL7 hT7
    have ob7 := bk4.mono LL7 t2.1.symm t2.2.symm
    have hq7 := hq.mono l7 fun z => z
    have ask7 := hq7.ask hS.ok
    have e47 := LL7.rest _ _ pT e4
    have same := hq7.same
    refine ⟨q2, _, rfl, SqT.of e7, rfl, _, _, rfl, _, _, rfl, rfl, ?_⟩
    obtain ⟨dx7, tv7, hx7, _⟩ := ob7.ins
    refine ⟨_, rfl, x2, dx7, _, rfl, hx7, rfl, _, rfl, _, rfl, x2, d2, a, v1, T, anewB bk, _, bs, ss, inS bs t, s0, rfl, ob7, bok2, ask7, fun fl H8 l8 hnf ef => ?_⟩
    rw [same] at ef
    have S8 := S7.mono hF l8.any (hT7.mono l8 (fun z => z) (Int.le_refl _))
    have ob8 := ob7.mono l8 (fun z => z) fun z => z
    have ask8 := ask7.mono l8 fun z => z
    have e48 := l8.rest _ _ (fun z => z) e47
    have hfl : (fitB (anewB bk) ss s0 t).length ≤ (anewB bk).length := List.length_filter_le _ _
    rw [anew_len] at hfl
    have hfm : ∀ p ∈ fitB (anewB bk) ss s0 t, p ∈ anewB bk ∧ fitsE p.2 ss s0 t = true := fun p hp => List.mem_filter.mp hp
    have hfn : (nosV (fitB (anewB bk) ss s0 t)).length = (fitB (anewB bk) ss s0 t).length := by simp
    have nums : ∀ (fb : Bk) (H9 : Hp), Le0 H8 H9 → (∀ p ∈ fb, p ∈ anewB bk) → True := fun _ _ _ _ => trivial
    refine ⟨_, rfl, fl, rfl, ⟨_, SqL.of ef⟩, fun D hD => ?_⟩
    refine lc_map walk_list (((fitB (anewB bk) ss s0 t).map fun p => phi bk p.1).map PyData.int) hD (smallL (by omega)) (by simp) (fun H l => SqL.of (l.rest _ _ (fun z => z) ef)) (fun j y d H90 H9 hj hdi l y9 k1 hk1 => ?_) fun acc H9 l9 hacc hds => ?_
    · obtain ⟨rfl, ex⟩ := y9
      obtain ⟨p3, ep3⟩ := get_ex (l := fitB (anewB bk) ss s0 t) (i := j) (by omega)
      rw [List.getElem?_map, List.getElem?_map, ep3] at ex
      obtain rfl := Option.some.inj ex
      refine ⟨rfl, _, rfl, _, rfl, p, _, p3.1, _, rfl, rfl, SqL.of (l.rest _ _ (fun z => z) e48), (pick_phi (hfm p3 (get_mem ep3)).1).1, hk1 _ _ (Le.refl _) ?_⟩
      rw [List.getElem?_map, List.getElem?_map, ep3] at hdi
      cases hdi
      exact Dv.int
    rw [fit_anew] at hds
    have S9 := S8.mono hF l9.any (S8.tape.mono l9 (fun z => z) (Int.le_refl _))
    obtain ⟨dx9, tv9, hx9, _⟩ := S9.book.ins
    refine ⟨_, rfl, x, dx9, _, rfl, hx9, rfl, _, rfl, _, rfl, x, d, a, v1, T, bk, nx, bs, ss, inS bs t, s0, rfl, S9.book, hS.bok, ask8.mono l9 (fun z => z), fun gl H10 l10 hng eg => ?_⟩
    rw [same] at eg
    refine ⟨.list (((fitB bk ss s0 t).map (·.1)).map PyData.int), .list (((fitB bk ss s0 t).map (·.1)).map PyData.int), .lst (SqL.of (l10.rest _ _ (fun z => z) hacc)) (hds.mono l10.tup).dp, .lst (SqL.of eg) dv_nos.dp, pd_nos _, pd_nos _, depth_nos _, fun bo hbo => ⟨bo, rfl, ?_⟩⟩
    rw [show bo = false from Bool.eq_false_iff.mpr fun z => hbo.mp z rfl]
    refine iteF ?_
    have L10 : Le0 H8 H10 := l9.trans l10
    have ob10 := ob8.mono L10 (fun z => z) fun z => z
    have ask10 := ask8.mono L10 fun z => z
    obtain ⟨dxA, tvA, hxA, _⟩ := ob10.ins
    refine ⟨_, rfl, x2, dxA, _, rfl, hxA, rfl, _, rfl, _, rfl, x2, d2, a, v1, T, anewB bk, _, bs, ss, inS bs t, s0, rfl, ob10, bok2, ask10, fun nl H11 l11 hnn en => ?_⟩
    rw [same] at en
    have L11 : Le0 H8 H11 := L10.trans l11
    have e411 := L11.rest _ _ (fun z => z) e48
    have hnl : (narB (fitB (anewB bk) ss s0 t)).length ≤ (fitB (anewB bk) ss s0 t).length := List.length_filter_le _ _
    have hnm : ∀ p ∈ narB (fitB (anewB bk) ss s0 t), p ∈ anewB bk := fun p hp => (hfm p (List.mem_filter.mp hp).1).1
    have hnn2 : (nosV (narB (fitB (anewB bk) ss s0 t))).length = (narB (fitB (anewB bk) ss s0 t)).length := by simp
    refine ⟨nl, rfl, ⟨_, SqL.of en⟩, fun D12 hD12 => ?_⟩
    refine lc_map walk_list (((narB (fitB (anewB bk) ss s0 t)).map fun p => phi bk p.1).map PyData.int) hD12 (smallL (by omega)) (by simp) (fun H l => SqL.of (l.rest _ _ (fun z => z) en)) (fun j y d H130 H13 hj hdi l y9 k1 hk1 => ?_) fun acc12 H12 l12 hacc12 hds12 => ?_
    · obtain ⟨rfl, ex⟩ := y9
      obtain ⟨p3, ep3⟩ := get_ex (l := narB (fitB (anewB bk) ss s0 t)) (i := j) (by omega)
      rw [List.getElem?_map, List.getElem?_map, ep3] at ex
      obtain rfl := Option.some.inj ex
      refine ⟨rfl, _, rfl, _, rfl, p, _, p3.1, _, rfl, rfl, SqL.of (l.rest _ _ (fun z => z) e411), (pick_phi (hnm p3 (get_mem ep3))).1, hk1 _ _ (Le.refl _) ?_⟩
      rw [List.getElem?_map, List.getElem?_map, ep3] at hdi
      cases hdi
      exact Dv.int
    rw [nar_anew] at hds12
    have L12 : Le0 H8 H12 := L11.trans l12
    have S12 := S8.mono hF L12.any (S8.tape.mono L12 (fun z => z) (Int.le_refl _))
    obtain ⟨dxB, tvB, hxB, _⟩ := S12.book.ins
    refine ⟨_, rfl, x, dxB, _, rfl, hxB, rfl, _, rfl, _, rfl, x, d, a, v1, T, bk, nx, bs, ss, inS bs t, s0, rfl, S12.book, hS.bok, ask8.mono L12 (fun z => z), fun ml H13 l13 hnm2 em => ?_⟩
    rw [same] at em
    refine ⟨.list (((narB (fitB bk ss s0 t)).map (·.1)).map PyData.int), .list (((narB (fitB bk ss s0 t)).map (·.1)).map PyData.int), .lst (SqL.of (l13.rest _ _ (fun z => z) hacc12)) (hds12.mono l13.tup).dp, .lst (SqL.of em) dv_nos.dp, pd_nos _, pd_nos _, depth_nos _, fun bo hbo => ⟨bo, rfl, ?_⟩⟩
    rw [show bo = false from Bool.eq_false_iff.mpr fun z => hbo.mp z rfl]
    refine iteF ?_
    have L13 : Le0 H8 H13 := L12.trans l13
    have ef13 := L13.rest _ _ (fun z => z) ef
    refine ⟨_, rfl, fl, rfl, ⟨_, SqL.of ef13⟩, fun D14 hD14 => ?_⟩
    refine lc_mapN walk_list noM (fun _ _ => True) (fun i y _ => y = .bl false) hD14 (fun _ z => z.elim) (smallL (by omega)) (fun _ _ _ _ _ h => h) (fun _ _ _ _ _ h => h) trivial (fun i H _ l _ => SqL.of (l.rest _ _ (fun z => z) ef13)) (fun j x0 H140 H14 hj l14 _ y k1 hk1 => ?_) fun acc14 H14 l14 hacc14 hlen14 _ hbs => ?_
    · obtain ⟨rfl, ex⟩ := y
      obtain ⟨p3, ep3⟩ := get_ex (l := fitB (anewB bk) ss s0 t) (i := j) (by omega)
      rw [List.getElem?_map, List.getElem?_map, ep3] at ex
      obtain rfl := Option.some.inj ex
      obtain ⟨hm3, hf3⟩ := hfm p3 (get_mem ep3)
      obtain ⟨at3, mem3⟩ := pick_phi hm3
      have L14 : Le0 H8 H14 := L13.trans l14
      have ob14 := ob8.mono L14 (fun z => z) fun z => z
      have ask14 := ask8.mono L14 fun z => z
      obtain ⟨dxC, tvC, hxC, _⟩ := ob14.ins
      have hf3' : fitsE p3.2 ss s0 (neatT bs (inS bs t)) = true := by rw [same]; exact hf3
      refine ⟨rfl, _, rfl, x2, dxC, _, rfl, hxC, rfl, _, rfl, _, rfl, _, rfl, x2, d2, a, v1, T, anewB bk, _, p3.1, p3.2, bs, ss, inS bs t, s0, rfl, ob14, bok2, hm3, ask14, hf3', fun r1 acc1 H15 l15 hn1 er1 hacc1 => ?_⟩
      have L15 : Le0 H8 H15 := L14.trans l15
      have S15 := S8.mono hF L15.any (S8.tape.mono L15 (fun z => z) (Int.le_refl _))
      obtain ⟨dxD, tvD, hxD, _⟩ := S15.book.ins
      refine ⟨_, rfl, x, dxD, _, rfl, hxD, rfl, _, rfl, _, rfl, p, _, p3.1, _, rfl, rfl, SqL.of (L15.rest _ _ (fun z => z) e48), at3, _, rfl, _, rfl, x, d, a, v1, T, bk, nx, phi bk p3.1, p3.2, bs, ss, inS bs t, s0, rfl, S15.book, hS.bok, mem3, ask8.mono L15 (fun z => z), hf3', fun r2 acc2 H16 l16 hn2 er2 hacc2 => ?_⟩
      rw [same] at hacc1 hacc2
      refine ⟨.list ((rowsE p3.2 t).map rowD), .list ((rowsE p3.2 t).map rowD), .lst (SqL.of (l16.rest _ _ (fun z => z) er1)) (hacc1.mono l16.tup).dp, .lst (SqL.of er2) hacc2.dp, pd_rows _, pd_rows _, depth_rowsE (T := T) hq.d, fun bo hbo => ?_⟩
      rw [show bo = false from Bool.eq_false_iff.mpr fun z => hbo.mp z rfl]
      exact hk1 _ _ (l15.trans l16) trivial rfl
    · rw [all_bl hbs] at hacc14
      refine ⟨D14, _, rfl, SqL.of hacc14, _, rfl, ?_⟩
      rw [any_rep]
      refine iteF ?_
      have L14 : Le0 H8 H14 := L13.trans l14
      exact ⟨⟨_, _, _, _, _, _, _, _, _, _, _, _, rfl⟩, LL7.trans (l8.trans L14).any, (hT7.mono (l8.trans L14) (fun z => z) (Int.le_refl _)).up (by omega)⟩
  · obtain ⟨⟨y4, y5, y8, y9, y10, y11, y12, y13, y14, y15, y16, y17, rfl⟩, l5, hT5⟩ := hP
    have S5 := S4.mono hF l5 hT5
    have ob5 := bk4.mono l5 t2.1.symm t2.2.symm
    have e45 := l5.rest _ _ pT e4
    obtain ⟨dx5, tv5, hx5, _⟩ := ob5.ins
    refine ⟨_, rfl, x2, dx5, _, rfl, hx5, rfl, x2, d2, T, anewB bk, _, rfl, ob5, bok2, hS.ok.fit, fun l acc H6 l6 hnl el hacc => ?_⟩
    have e46 := l6.rest _ _ (fun z => z) e45
    have hal := hacc.length
    rw [List.length_map] at hal
    have b1 : (sameB (anewB bk)).length ≤ (anewB bk).length * (anewB bk).length := by rw [sameB_eq]; exact flat_len _ _ _ fun a _ => by unfold sameR; rw [List.length_map]; exact List.length_filter_le _ _
    have b2 : (anewB bk).length * (anewB bk).length ≤ 40 * 40 := Nat.mul_le_mul bok2.len bok2.len
    refine ⟨l, rfl, ⟨_, SqL.of el⟩, fun D hD => ?_⟩
    refine lc_map walk_list (((sameB (anewB bk)).map fun p => (phi bk p.1, phi bk p.2)).map prD) hD (smallL (by omega)) (by simp [hal]) (fun H l => SqL.of (l.rest _ _ (fun z => z) el)) (fun j y d H70 H7 hj hdi l7 y9 k1 hk1 => ?_) fun acc2 H7 l7 hacc2 hds => ?_
    · obtain ⟨rfl, ex⟩ := y9
      obtain ⟨dd, ed, hdd⟩ := (hacc.mono l7.tup).get' ex
      rw [List.getElem?_map] at ed
      obtain ⟨p3, ep3, rfl⟩ := Option.map_eq_some_iff.mp ed
      obtain ⟨a1, w1, w2, rfl, ha1, hw1, hw2⟩ := dv_two.mp hdd
      rw [dv_int] at hw1 hw2; subst hw1 hw2
      obtain ⟨q1, r1, hq1, hr1, rfl⟩ := same_mem (get_mem ep3)
      have e47 := l7.rest _ _ (fun z => z) e46
      refine ⟨a1, _, rfl, SqT.of ha1, rfl, _, _, rfl, _, _, rfl, rfl, rfl, _, rfl, _, rfl, p, _, q1.1, _, rfl, rfl, SqL.of e47, (pick_phi hq1).1, _, rfl, _, rfl, p, _, r1.1, _, rfl, rfl, SqL.of e47, (pick_phi hr1).1, z2, fun z hz => hk1 _ _ (Le.new hz _) ?_⟩
      rw [List.getElem?_map, List.getElem?_map, ep3] at hdi
      cases hdi
      exact Dv.mk hz (.cons Dv.int (.cons Dv.int .nil))
    rw [same_anew hS.bok.up] at hds
    have L7 : Le0 H5 H7 := l6.trans l7
    have S7 := S5.mono hF L7.any (hT5.mono L7 (fun z => z) (Int.le_refl _))
    obtain ⟨dx7, tv7, hx7, _⟩ := S7.book.ins
    refine ⟨_, rfl, x, dx7, _, rfl, hx7, rfl, x, d, T, bk, nx, rfl, S7.book, hS.bok, hS.ok.fit, fun l2 acc3 H8 l8 hn2 el2 hacc3 => ?_⟩
    refine ⟨.list ((sameB bk).map prD), .list ((sameB bk).map prD), .lst (SqL.of (l8.rest _ _ (fun z => z) hacc2)) (hds.mono l8.tup).dp, .lst (SqL.of el2) hacc3.dp, pd_prs _, pd_prs _, depth_prs _, fun bo hbo => ?_⟩
    rw [hbo.mpr rfl]
    exact q H8 (LH4.trans (l5.trans (L7.trans l8).any)) ((hT5.mono (L7.trans l8) (fun z => z) (Int.le_refl _)).up (by omega))
end
end Nh
/-! ## NhL19 -/
set_option maxHeartbeats 8000000
namespace Nh
open PySem PySem.Spec PyProof.Rows L2
def spTongue : Sp := fun vs H Q _ => ∃ (tp : Addr) (c : Int), vs = [.ref tp] ∧ Tape H tp c ∧ c + 10000 ≤ big ∧ ∀ v T H', Le (atT tp) H H' → Dv H' (tgD T) v → TgOk T → Tape H' tp (c + 1000) → Q v H'
/-- one of the two books -/
structure BS where
  tg : V
  x : Addr
  d : Addr
  o : Addr
  od : Addr
  T : Tg
  bk : Bk
  nx : Int
abbrev BS.adr (b : BS) : List Addr := [b.x, b.d, b.o, b.od]
abbrev BS.sta (b : BS) (H : Hp) (C tp : Addr) (c : Int) : Prop := Sta H C tp b.x b.d b.o b.od b.tg b.T b.bk b.nx c
abbrev BS.far (b : BS) (tp : Addr) : Prop := Far tp b.x b.d b.o b.od
abbrev BS.m5 (b : BS) (tp : Addr) : Addr → Prop := M5 tp b.x b.d b.o b.od
theorem BS.far.mem {b : BS} {tp : Addr} (h : b.far tp) : tp ∉ b.adr := fun z => by
  rcases List.mem_cons.mp z with z | z
  · exact h.tx z
  rcases List.mem_cons.mp z with z | z
  · exact h.td z
  rcases List.mem_cons.mp z with z | z
  · exact h.to z
  rcases List.mem_cons.mp z with z | z
  · exact h.tod z
  · cases z
theorem m5_adr {b : BS} {tp a : Addr} (h : b.m5 tp a) : a = tp ∨ a ∈ b.adr := by
  rcases h with h | h | h | h | h
  · exact .inl h
  · exact .inr (by rw [h]; simp)
  · exact .inr (by rw [h]; simp)
  · exact .inr (by rw [h]; simp)
  · exact .inr (by rw [h]; simp)
/-- a book that stands apart from what changes -/
theorem BS.sta.apart {b : BS} {H H' : Hp} {C tp : Addr} {c c' : Int} {M : Addr → Prop} (h : b.sta H C tp c) (l : Le M H H') (hm : ∀ a ∈ b.adr, ¬ M a) (ht : Tape H' tp c') : b.sta H' C tp c' :=
  ⟨ht, h.book.mono l (hm _ (by simp)) (hm _ (by simp)), h.own.mono l (hm _ (by simp)) (hm _ (by simp)), h.tgd.mono l.tup, h.ok, h.bok, h.es⟩
theorem BS.sta.stab {b : BS} {H H' : Hp} {C tp D : Addr} {c : Int} (h : b.sta H C tp c) (t : Tu H H') (ne : ∀ a, a ≠ D → H' a = H a) (hD : D ∉ b.adr) (htp : tp ≠ D) : b.sta H' C tp c := by
  have hx : H' b.x = H b.x := ne _ fun e => hD (by rw [← e]; simp)
  have hd : H' b.d = H b.d := ne _ fun e => hD (by rw [← e]; simp)
  have ho : H' b.o = H b.o := ne _ fun e => hD (by rw [← e]; simp)
  have hod : H' b.od = H b.od := ne _ fun e => hD (by rw [← e]; simp)
  obtain ⟨⟨p1, p2, p3, h1, h2, h3⟩, ⟨⟨dx, tv, h4, h5⟩, kvs, h6, h7⟩, ⟨h8, kvs2, h9, h10⟩, h11, h12, h13, h14⟩ := h
  exact ⟨⟨p1, p2, p3, by rw [ne _ htp]; exact h1, h2, h3⟩, ⟨⟨dx, tv, by rw [hx]; exact h4, h5.mono t⟩, kvs, by rw [hd]; exact h6, h7.mono t⟩, ⟨by rw [ho]; exact h8, kvs2, by rw [hod]; exact h9, h10.mono t⟩, h11.mono t, h12, h13, h14⟩
theorem BS.sta.some {b : BS} {H : Hp} {C tp : Addr} {c : Int} (h : b.sta H C tp c) : ∀ a ∈ b.adr, H a ≠ none := by
  obtain ⟨⟨p1, p2, p3, h1, h2, h3⟩, ⟨⟨dx, tv, h4, h5⟩, kvs, h6, h7⟩, ⟨h8, kvs2, h9, h10⟩, h11, h12, h13, h14⟩ := h
  intro a ha
  rcases List.mem_cons.mp ha with e | ha
  · rw [e, h4]; exact fun z => nomatch z
  rcases List.mem_cons.mp ha with e | ha
  · rw [e, h6]; exact fun z => nomatch z
  rcases List.mem_cons.mp ha with e | ha
  · rw [e, h8]; exact fun z => nomatch z
  rcases List.mem_cons.mp ha with e | ha
  · rw [e, h9]; exact fun z => nomatch z
  · cases ha
structure Duo (H : Hp) (C tp : Addr) (a b : BS) (c : Int) (m : Nat) : Prop where
  s1 : a.sta H C tp c
  s2 : b.sta H C tp c
  f1 : a.far tp
  f2 : b.far tp
  dis : ∀ p ∈ a.adr, p ∉ b.adr
  n1 : a.bk.length ≤ m ∧ a.nx ≤ m
  n2 : b.bk.length ≤ m ∧ b.nx ≤ m
theorem Duo.swap {H : Hp} {C tp : Addr} {a b : BS} {c : Int} {m : Nat} (h : Duo H C tp a b c m) : Duo H C tp b a c m :=
  ⟨h.s2, h.s1, h.f2, h.f1, fun p hp hq => h.dis p hq hp, h.n2, h.n1⟩
theorem Duo.first {H H' : Hp} {C tp : Addr} {a b : BS} {c c' : Int} {m : Nat} (h : Duo H C tp a b c m) {bk' : Bk} {nx' : Int} (l : Le (a.m5 tp) H H') (s : Sta H' C tp a.x a.d a.o a.od a.tg a.T bk' nx' c') (h1 : bk'.length ≤ a.bk.length + 1) (h2 : nx' ≤ a.nx + 1) :
    Duo H' C tp { a with bk := bk', nx := nx' } b c' (m + 1) :=
  ⟨s, h.s2.apart l (fun p hp z => (m5_adr z).elim (fun e => h.f2.mem (e ▸ hp)) fun e => h.dis p e hp) s.tape, h.f1, h.f2, h.dis, ⟨by have := h.n1.1; show bk'.length ≤ m + 1; omega, by have := h.n1.2; show nx' ≤ ((m + 1 : Nat) : Int); omega⟩, ⟨by have := h.n2.1; omega, by have := h.n2.2; omega⟩⟩
theorem Duo.tape {H H' : Hp} {C tp : Addr} {a b : BS} {c c' : Int} {m : Nat} (h : Duo H C tp a b c m) (l : Le (atT tp) H H') (ht : Tape H' tp c') : Duo H' C tp a b c' m :=
  ⟨h.s1.mono h.f1 l ht, h.s2.mono h.f2 l ht, h.f1, h.f2, h.dis, h.n1, h.n2⟩
abbrev bsD (b : BS) : List V := [b.tg, .ref b.x, .ref b.o]
def spLaw (K : PySem.W.Frag) : Sp := fun vs H Q _ => ∃ (a : Addr) (ns : List Int), vs = [.ref a] ∧ (∀ H', Le0 H H' → SqL K H' a (ns.map V.int)) ∧ ∀ H', Q (.bl true) H'
/-- the books' list -/
structure Lst (H : Hp) (C tp L : Addr) (Ls : List BS) (ts : List Addr) (c : Int) : Prop where
  li : H L = some (.lst (ts.map V.ref))
  len : ts.length = Ls.length
  at_ : ∀ (j : Nat) b t, Ls[j]? = some b → ts[j]? = some t → H t = some (.tup (bsD b))
  all : ∀ b ∈ Ls, b.sta H C tp c ∧ b.far tp ∧ b.bk = [] ∧ b.nx = 0 ∧ L ∉ b.adr
  dis : Ls.Pairwise fun a b => ∀ p ∈ a.adr, p ∉ b.adr
  lt : L ≠ tp
  tape : Tape H tp c
/-- both books, their list and tuples -/
structure Both (H : Hp) (C tp L t1 t2 : Addr) (a b : BS) (c : Int) (m : Nat) : Prop where
  duo : Duo H C tp a b c m
  li : H L = some (.lst [.ref t1, .ref t2])
  e1 : H t1 = some (.tup (bsD a))
  e2 : H t2 = some (.tup (bsD b))
  la : L ∉ a.adr
  lb : L ∉ b.adr
  lt : L ≠ tp
theorem Both.tape {H H' : Hp} {C tp L t1 t2 : Addr} {a b : BS} {c c' : Int} {m : Nat} (h : Both H C tp L t1 t2 a b c m) (l : Le (atT tp) H H') (ht : Tape H' tp c') : Both H' C tp L t1 t2 a b c' m :=
  ⟨h.duo.tape l ht, l.rest _ _ h.lt h.li, l.tup _ _ h.e1, l.tup _ _ h.e2, h.la, h.lb, h.lt⟩
theorem Both.swap2 {H H' : Hp} {C tp L t1 t2 : Addr} {a b : BS} {c c' : Int} {m : Nat} (h : Both H C tp L t1 t2 a b c m) {bk' : Bk} {nx' : Int} (l : Le (b.m5 tp) H H') (s : Sta H' C tp b.x b.d b.o b.od b.tg b.T bk' nx' c') (h1 : bk'.length ≤ b.bk.length + 1) (h2 : nx' ≤ b.nx + 1) :
    Both H' C tp L t1 t2 a { b with bk := bk', nx := nx' } c' (m + 1) :=
  ⟨(h.duo.swap.first l s h1 h2).swap, l.rest _ _ (fun z => (m5_adr z).elim h.lt h.lb) h.li, l.tup _ _ h.e1, l.tup _ _ h.e2, h.la, h.lb, h.lt⟩
theorem Both.one {H H' : Hp} {C tp L t1 t2 : Addr} {a b : BS} {c c' : Int} {m : Nat} (h : Both H C tp L t1 t2 a b c m) {bk' : Bk} {nx' : Int} (l : Le (a.m5 tp) H H') (s : Sta H' C tp a.x a.d a.o a.od a.tg a.T bk' nx' c') (h1 : bk'.length ≤ a.bk.length + 1) (h2 : nx' ≤ a.nx + 1) :
    Both H' C tp L t1 t2 { a with bk := bk', nx := nx' } b c' (m + 1) :=
  ⟨h.duo.first l s h1 h2, l.rest _ _ (fun z => (m5_adr z).elim h.lt h.la) h.li, l.tup _ _ h.e1, l.tup _ _ h.e2, h.la, h.lb, h.lt⟩
theorem len_two {α : Type} {l : List α} (h : l.length = 2) : ∃ a b, l = [a, b] := by
  cases l with
  | nil => cases h
  | cons a l =>
    cases l with
    | nil => cases h
    | cons b l =>
      cases l with
      | nil => exact ⟨a, b, rfl⟩
      | cons c l => simp at h
theorem staUp {b : BS} {H : Hp} {C tp : Addr} {c c' : Int} (h : b.sta H C tp c) (hc : c ≤ c') : b.sta H C tp c' := ⟨h.tape.up hc, h.book, h.own, h.tgd, h.ok, h.bok, h.es⟩
theorem Both.up {H : Hp} {C tp L t1 t2 : Addr} {a b : BS} {c c' : Int} {m : Nat} (h : Both H C tp L t1 t2 a b c m) (hc : c ≤ c') : Both H C tp L t1 t2 a b c' m :=
  ⟨⟨staUp h.duo.s1 hc, staUp h.duo.s2 hc, h.duo.f1, h.duo.f2, h.duo.dis, h.duo.n1, h.duo.n2⟩, h.li, h.e1, h.e2, h.la, h.lb, h.lt⟩
theorem le0_m5 {b : BS} {H1 H H' : Hp} {tp : Addr} (l : Le0 H1 H) (m : Le (b.m5 tp) H H') (ht : H1 tp = none) (hb : ∀ z ∈ b.adr, H1 z = none) : Le0 H1 H' := by
  have m := l.any.trans m
  refine ⟨m.tup, fun z u _ hz => m.rest z u (fun e => (m5_adr e).elim (fun e => ?_) fun e => ?_) hz, m.dom⟩
  · rw [e, ht] at hz; cases hz
  · rw [hb z e] at hz; cases hz
section
variable {P : Program} {w : World} {K : PySem.W.Frag} {mg : Str → Option Value} {base : Heap} {f : Addr} {fd : FuncData} {C : Addr}
abbrev N_law : List Str := ["_law_script", "_law_k", "_law_tape_here", "_law_books", "_law_turn", "_law_tongue_here", "_law_book", "_law_own"]
theorem sc_law : FnScope N_law ["_law_script"] (defScope s_law) := ⟨rfl, rfl, rfl, by decide +kernel, rfl, by decide +kernel, by decide +kernel⟩
theorem ok_law (F : Fun K "law" "law" s_law f fd) (B : Bt mg) (c_l_take : Cal P w K mg base 1 "_law_take" ["_law_tape_here", "_law_many"] spTake) (c_l_tape : Cal P w K mg base 2 "_law_tape" ["_law_script", "_law_k"] (spTape K)) (c_l_tongue : Cal P w K mg base 3 "_law_tongue" ["_law_tape_here"] spTongue)
    (k_book : MkCal P w K base mg 1 C "Book" ["self", "tongue"] (spBkInit C)) (c_l_deed : Cal P w K mg base 37 "_law_deed" ["_law_tape_here", "_law_tongue_here", "_law_book", "_law_own"] (spLDeed C)) (c_l_stands : Cal P w K mg base 54 "_law_stands" ["_law_tape_here", "_law_tongue_here", "_law_book", "_law_own"] (spStands C))
    (c_l_anew_right : Cal P w K mg base 55 "_law_anew_right" ["_law_tape_here", "_law_tongue_here", "_law_book", "_law_own"] (spAnew C)) (c_l_emptied_right : Cal P w K mg base 55 "_law_emptied_right" ["_law_tape_here", "_law_tongue_here", "_law_book", "_law_own"] (spEmptied C)) :
    FnOk P w K mg base CX0 56 f fd ["_law_script"] (spLaw K) := by
  refine F.ok sc_law (fun vs H Q E h => by obtain ⟨a, ns, rfl, _⟩ := h; rfl) (fun cdv A outer s H vs Q E hr h => ?_)
  obtain ⟨a, ns, rfl, hsc, q⟩ := h
  have hu := hu_of hr
  have hbig : big = 1000000000000 := rfl
  refine ⟨_, (pss_cons (ps_for PassesOwn.never rfl (pi_range1 (by rfl) B.range (pa_cons (pe_op op_add (pe_int) (pe_callB (call_min2 rfl) (by rfl) B.min bv_min (pa_cons (pe_int) (pa_cons (pe_callB (lenQ (K := K) rfl) (by rfl) B.len bv_len (pa_cons (pv 0) pa_nil)) pa_nil)))) pa_nil)) (pg_name (i := 1) sc_law.nd rfl (by first | exact Or.inl rfl | exact Or.inr rfl)) (pss_cons (ps_set (i := 2) sc_law.nd rfl (by first | exact Or.inl rfl | exact Or.inr rfl) (pe_cal c_l_tape (hr.mono (by omega)) (by rfl) (pa_cons (pv 0) (pa_cons (pv 1) pa_nil))))
  (pss_cons (ps_set (i := 3) sc_law.nd rfl (by first | exact Or.inl rfl | exact Or.inr rfl) (pe_lst pa_nil))
  (pss_cons (ps_for PassesOwn.never rfl (pi_range1 (by rfl) B.range (pa_cons (pe_int) pa_nil)) (pg_name (i := 4) sc_law.nd rfl (by first | exact Or.inl rfl | exact Or.inr rfl)) (pss_cons (ps_set (i := 5) sc_law.nd rfl (by first | exact Or.inl rfl | exact Or.inr rfl) (pe_cal c_l_tongue (hr.mono (by omega)) (by rfl) (pa_cons (pv 2) pa_nil)))
  (pss_one (ps_expr (pe_bm PySem.F.plainAttrs_list PySem.F.slot_list_append PySem.F.type_list_append mt_append (pv 3) (pa_cons (pe_tup (pa_cons (pv 5) (pa_cons (pe_mk k_book (hr.mono (by omega)) (by rfl) (pa_cons (pv 5) pa_nil)) (pa_cons (pe_disp (pps_cons (pe_str) (pe_dnewK) (pps_cons (pe_str) (pe_int) pps_nil)) (by rfl) (by rfl) (fun z => by cases z) (by decide)) pa_nil)))) pa_nil))))))
  (pss_cons (ps_for PassesOwn.never rfl (pi_range1 (by rfl) B.range (pa_cons (pe_int) pa_nil)) (pg_name (i := 4) sc_law.nd rfl (by first | exact Or.inl rfl | exact Or.inr rfl)) (pss_cons (ps_asg (pe_ix (ixL (K := K) rfl) (pv 3) (pe_cal c_l_take (hr.mono (by omega)) (by rfl) (pa_cons (pv 2) (pa_cons (pe_int) pa_nil))) (fun _ _ => rfl)) (pgT (K := K) (n := 3) rfl rfl (pgs_cons (pg_name (i := 5) sc_law.nd rfl (by first | exact Or.inl rfl | exact Or.inr rfl)) (pgs_cons (pg_name (i := 6) sc_law.nd rfl (by first | exact Or.inl rfl | exact Or.inr rfl)) (pgs_cons (pg_name (i := 7) sc_law.nd rfl (by first | exact Or.inl rfl | exact Or.inr rfl)) pgs_nil)))))
  (pss_one (ps_if (pt_not (pt_val (pe_cal c_l_deed (hr.mono (by omega)) (by rfl) (pa_cons (pv 2) (pa_cons (pv 5) (pa_cons (pv 6) (pa_cons (pv 7) pa_nil))))))) (pss_one (ps_ret (pe_bl))) pss_nil))))
  (pss_cons (ps_if (pt_not (pt_val (pe_callB (allQ (K := K) rfl rfl) (by rfl) B.all bv_all (pa_cons (pe_lc (own := [("_law_tongue_here", 5), ("_law_book", 6), ("_law_own", 7)]) rfl sc_law.nd (piL (K := K) rfl (pv 3)) (blkOk_by (own := [("_law_tongue_here", 5), ("_law_book", 6), ("_law_own", 7)]) (N := N_law) (sc := defScope s_law) (by decide +kernel)) (fun _ _ _ _ _ => pgT (K := K) (n := 3) rfl rfl (pgs_cons (pg_name (i := 5) sc_law.nd rfl (by first | exact Or.inl rfl | exact Or.inr rfl)) (pgs_cons (pg_name (i := 6) sc_law.nd rfl (by first | exact Or.inl rfl | exact Or.inr rfl)) (pgs_cons (pg_name (i := 7) sc_law.nd rfl (by first | exact Or.inl rfl | exact Or.inr rfl)) pgs_nil)))) (fun _ _ _ _ _ => pts_nil) (fun _ _ _ _ _ => pe_cal c_l_stands (hr.mono (by omega)) (by rfl) (pa_cons (pv 2) (pa_cons (pv 5) (pa_cons (pv 6) (pa_cons (pv 7) pa_nil)))))) pa_nil)))) (pss_one (ps_ret (pe_bl))) pss_nil)
  (pss_cons (ps_if (pt_not (pt_val (pe_callB (allQ (K := K) rfl rfl) (by rfl) B.all bv_all (pa_cons (pe_lc (own := [("_law_tongue_here", 5), ("_law_book", 6), ("_law_own", 7)]) rfl sc_law.nd (piL (K := K) rfl (pv 3)) (blkOk_by (own := [("_law_tongue_here", 5), ("_law_book", 6), ("_law_own", 7)]) (N := N_law) (sc := defScope s_law) (by decide +kernel)) (fun _ _ _ _ _ => pgT (K := K) (n := 3) rfl rfl (pgs_cons (pg_name (i := 5) sc_law.nd rfl (by first | exact Or.inl rfl | exact Or.inr rfl)) (pgs_cons (pg_name (i := 6) sc_law.nd rfl (by first | exact Or.inl rfl | exact Or.inr rfl)) (pgs_cons (pg_name (i := 7) sc_law.nd rfl (by first | exact Or.inl rfl | exact Or.inr rfl)) pgs_nil)))) (fun _ _ _ _ _ => pts_nil) (fun _ _ _ _ _ => pe_cal c_l_anew_right (hr.mono (by omega)) (by rfl) (pa_cons (pv 2) (pa_cons (pv 5) (pa_cons (pv 6) (pa_cons (pv 7) pa_nil)))))) pa_nil)))) (pss_one (ps_ret (pe_bl))) pss_nil)
  (pss_one (ps_if (pt_not (pt_val (pe_callB (allQ (K := K) rfl rfl) (by rfl) B.all bv_all (pa_cons (pe_lc (own := [("_law_tongue_here", 5), ("_law_book", 6), ("_law_own", 7)]) rfl sc_law.nd (piL (K := K) rfl (pv 3)) (blkOk_by (own := [("_law_tongue_here", 5), ("_law_book", 6), ("_law_own", 7)]) (N := N_law) (sc := defScope s_law) (by decide +kernel)) (fun _ _ _ _ _ => pgT (K := K) (n := 3) rfl rfl (pgs_cons (pg_name (i := 5) sc_law.nd rfl (by first | exact Or.inl rfl | exact Or.inr rfl)) (pgs_cons (pg_name (i := 6) sc_law.nd rfl (by first | exact Or.inl rfl | exact Or.inr rfl)) (pgs_cons (pg_name (i := 7) sc_law.nd rfl (by first | exact Or.inl rfl | exact Or.inr rfl)) pgs_nil)))) (fun _ _ _ _ _ => pts_nil) (fun _ _ _ _ _ => pe_cal c_l_emptied_right (hr.mono (by omega)) (by rfl) (pa_cons (pv 2) (pa_cons (pv 5) (pa_cons (pv 6) (pa_cons (pv 7) pa_nil)))))) pa_nil)))) (pss_one (ps_ret (pe_bl))) pss_nil)))))))))
  (pss_one (ps_ret (pe_bl)))), ?_⟩
  have hsc0 := hsc H (Le.refl _)
  have hnl : (ns.map V.int).length = ns.length := List.length_map _
  refine ⟨_, rfl, a, _, rfl, .inl hsc0, _, _, rfl, _, _, rfl, rfl, ?_⟩
  generalize hmm : (1 : Int) + (if ((ns.map V.int).length : Int) < 3 then ((ns.map V.int).length : Int) else 3) = mm
  have hm0 : 0 ≤ mm ∧ mm ≤ 4 := by rw [← hmm]; split <;> omega
  refine ⟨_, rfl, by show _ ≤ _; omega, by show _ < _; omega, ?_⟩
  refine for_it walk_range (fun i σ H' => (∃ (y1 y2 y3 y4 y5 y6 y7 : Option V), σ = [some (.ref a), y1, y2, y3, y4, y5, y6, y7]) ∧ Le0 H H') ⟨⟨none, none, none, none, none, none, none, rfl⟩, Le.refl _⟩ (fun _ _ _ _ _ => trivial) (fun i y σ H10 H1 hi hP yy => ?_) fun σ H' hP => ?_
  · obtain ⟨⟨y1, y2, y3, y4, y5, y6, y7, rfl⟩, l1⟩ := hP
    obtain ⟨rfl, rfl⟩ := yy
    refine ⟨_, rfl, _, rfl, a, ns, _, rfl, hsc _ l1, by omega, by omega, fun tp H2 l2 hntp hT2 => ?_⟩
    refine ⟨z0, fun L hL => ?_⟩
    have l3 : Le0 H1 (upd H2 L (.lst [])) := l2.trans (Le.new hL _)
    have eL : upd H2 L (.lst []) L = some (.lst []) := upd_same
    have hT3 := hT2.mono (Le.new (M := noM) hL (.lst [])) (fun z => z) (Int.le_refl _)
    have LT : L ≠ tp := fun e => by obtain ⟨_, _, _, h, _⟩ := hT2.ex; rw [e, h] at hL; cases hL
    have hnL : H1 L = none := l2.nil hL
    generalize upd H2 L (.lst []) = H3 at l3 eL hT3
    refine ⟨2, rfl, by decide, by decide, ?_⟩
    refine for_it walk_range (fun j σ H' => (∃ (y4 y5 y6 y7 : Option V), σ = [some (.ref a), some (.int (0 + (i : Nat))), some (.ref tp), some (.ref L), y4, y5, y6, y7]) ∧ Le (fun a => a = tp ∨ a = L) H3 H' ∧ ∃ Ls ts, Ls.length = j ∧ Lst H' C tp L Ls ts (2000 * j) ∧ ∀ b ∈ Ls, ∀ z ∈ b.adr, H1 z = none)
      ⟨⟨_, _, _, _, rfl⟩, Le.refl _, [], [], rfl, ⟨eL, rfl, fun j b t z => (by simp at z), fun b z => (nomatch z), .nil, LT, hT3.up (by omega)⟩, fun b z => (nomatch z)⟩ (fun _ _ _ _ _ => trivial) (fun j y σ H40 H4 hj hP yy => ?_) fun σ H4 hP => ?_
    · obtain ⟨⟨y4, y5, y6, y7, rfl⟩, l4, Ls, ts, hLj, hLs, hfr⟩ := hP
      obtain ⟨rfl, rfl⟩ := yy
      have hj : j < 2 := hj
      refine ⟨_, rfl, tp, _, rfl, hLs.tape, by omega, fun v T H5 l5 hv hTo hT5 => ?_⟩
      have eL5 := l5.rest _ _ hLs.lt hLs.li
      refine ⟨_, rfl, .inl ⟨rfl, _, SqL.of eL5⟩, ?_⟩
      refine ⟨_, rfl, _, rfl, fun x dx hx hdx hne => ?_⟩
      have hx1 : upd H5 dx (.own x) x = none := by rw [upd_ne fun z => hne z.symm]; exact hx
      have l6 : Le0 H5 (upd (upd H5 dx (.own x)) x (.ins C dx [])) := (Le.new hdx _).trans (Le.new hx1 _)
      refine ⟨x, dx, v, T, rfl, upd_same, hv.mono l6.tup, fun d H6 m6 hd bk0 => ⟨rfl, ?_⟩⟩
      have L6 : Le0 H5 H6 := l6.back m6 hx
      have hd5 : H5 d = none := l6.nil hd
      intro o ho
      have ho5 : H5 o = none := L6.nil ho
      have l7 : Le0 H6 (upd H6 o (.dK [])) := Le.new ho _
      have eo7 : upd H6 o (.dK []) o = some (.dK []) := upd_same
      have bk7 := bk0.mono l7 (fun z => z) (fun z => z)
      obtain ⟨dx6, tv6, hx6, _⟩ := bk0.ins
      obtain ⟨kv6, hd6, _⟩ := bk0.en.ex
      have xo : x ≠ o := ne_of_none hx6 ho
      have do_ : d ≠ o := ne_of_none hd6 ho
      generalize upd H6 o (.dK []) = H7 at l7 eo7 bk7
      refine fun od hod => ?_
      have hod5 : H5 od = none := (L6.trans l7).nil hod
      have l8 : Le0 H7 (upd H7 od (.dK [])) := Le.new hod _
      have eod : upd H7 od (.dK []) od = some (.dK []) := upd_same
      have eo8 := l8.rest _ _ (fun z => z) eo7
      have bk8 := bk7.mono l8 (fun z => z) (fun z => z)
      obtain ⟨dx7, tv7, hx7, _⟩ := bk7.ins
      obtain ⟨kv7, hd7, _⟩ := bk7.en.ex
      have xod : x ≠ od := ne_of_none hx7 hod
      have dod : d ≠ od := ne_of_none hd7 hod
      have ood : o ≠ od := ne_of_none eo7 hod
      generalize upd H7 od (.dK []) = H8 at l8 eod eo8 bk8
      refine ⟨eo8, ownK od 0, rfl, (by show 2 ≤ 15; decide), z3, fun t ht => ?_⟩
      have emk : mergeK [] (ownK od 0) = ownK od 0 := rfl
      rw [emk] at ht ⊢
      have l9 : Le0 H5 (upd H8 o (.dK (ownK od 0))) := (L6.trans (l7.trans l8)).chg ho5 _
      have m9 : Le (fun a => a = o) H8 (upd H8 o (.dK (ownK od 0))) := (Le.refl (M := fun a => a = o) H8).mut (p := o) rfl (fun xs e => by rw [eo8] at e; cases e) _
      have eo9 : upd H8 o (.dK (ownK od 0)) o = some (.dK (ownK od 0)) := upd_same
      have eod9 := m9.rest _ _ ood.symm eod
      have bk9 := bk8.mono m9 xo do_
      generalize upd H8 o (.dK (ownK od 0)) = H9 at ht l9 m9 eo9 eod9 bk9
      have l10 : Le0 H9 (upd H9 t (.tup [v, .ref x, .ref o])) := Le.new ht _
      have et : upd H9 t (.tup [v, .ref x, .ref o]) t = some (.tup [v, .ref x, .ref o]) := upd_same
      generalize upd H9 t (.tup [v, .ref x, .ref o]) = H10 at l10 et
      have L10 : Le0 H5 H10 := l9.trans l10
      have eL10 := L10.rest _ _ (fun z => z) eL5
      have htl := hLs.len
      have html : (ts.map V.ref).length = ts.length := List.length_map _
      refine ⟨L, ts.map V.ref, _, rfl, rfl, eL10, smallL (by omega), ?_⟩
      have t11 : Tu H10 (upd H10 L (.lst (ts.map V.ref ++ [.ref t]))) := Tu.upd eL10 (fun _ q => nomatch q) _
      have ne11 : ∀ z, z ≠ L → upd H10 L (.lst (ts.map V.ref ++ [.ref t])) z = H10 z := fun z h => upd_ne h
      have eL11 : upd H10 L (.lst (ts.map V.ref ++ [.ref t])) L = some (.lst ((ts ++ [t]).map V.ref)) := by rw [upd_same, List.map_append]; rfl
      have m11 : Le (fun a => a = tp ∨ a = L) H3 (upd H10 L (.lst (ts.map V.ref ++ [.ref t]))) := ((l4.trans (l5.mono fun a h => .inl h)).trans L10.any).mut (p := L) (.inr rfl) (fun xs e => by rw [eL10] at e; cases e) _
      generalize upd H10 L (.lst (ts.map V.ref ++ [.ref t])) = H11 at t11 ne11 eL11 m11
      have hT10 := hT5.mono L10 (fun z => z) (Int.le_refl _)
      have tn : ∀ {z : Addr}, H5 z = none → tp ≠ z := fun {z} h e => by obtain ⟨_, _, _, h', _⟩ := hT5.ex; rw [e, h] at h'; cases h'
      have Ln : ∀ {z : Addr}, H5 z = none → L ≠ z := fun {z} h e => by rw [e, h] at eL5; cases eL5
      have hx5 : H5 x = none := hx
      let nb : BS := ⟨v, x, d, o, od, T, [], 0⟩
      have nsta : nb.sta H10 C tp (2000 * j + 1000) := ⟨hT10.up (by omega), bk9.mono l10 (fun z => z) (fun z => z), (⟨eo9, ⟨[], eod9, .nil⟩⟩ : OwnAt H9 o od [] 0).mono l10 (fun z => z) (fun z => z), hv.mono L10.tup, hTo, ⟨.nil, fun p z => (nomatch z), fun p z => (nomatch z), Nat.zero_le _, Int.le_refl _, (by show (0 : Int) ≤ 1000; decide)⟩, fun p z => nomatch z⟩
      have nfar : nb.far tp := ⟨tn hx5, tn hd5, tn ho5, tn hod5, bk0.ne, xo, xod, do_, dod, ood⟩
      have nL : L ∉ nb.adr := fun z => by
        rcases List.mem_cons.mp z with z | z
        · exact Ln hx5 z
        rcases List.mem_cons.mp z with z | z
        · exact Ln hd5 z
        rcases List.mem_cons.mp z with z | z
        · exact Ln ho5 z
        rcases List.mem_cons.mp z with z | z
        · exact Ln hod5 z
        · cases z
      have nnone : ∀ z ∈ nb.adr, H5 z = none := fun z hz => by
        rcases List.mem_cons.mp hz with e | hz
        · rw [e]; exact hx5
        rcases List.mem_cons.mp hz with e | hz
        · rw [e]; exact hd5
        rcases List.mem_cons.mp hz with e | hz
        · rw [e]; exact ho5
        rcases List.mem_cons.mp hz with e | hz
        · rw [e]; exact hod5
        · cases hz
      have old5 : ∀ b ∈ Ls, b.sta H5 C tp (2000 * j + 1000) := fun b hb => (hLs.all b hb).1.mono (hLs.all b hb).2.1 l5 hT5
      refine ⟨⟨_, _, _, _, rfl⟩, m11, Ls ++ [nb], ts ++ [t], by rw [List.length_append, hLj]; rfl, ⟨eL11, by rw [List.length_append, List.length_append, htl]; rfl, fun k b u eb eu => ?_, fun b hb => ?_, ?_, hLs.lt, ?_⟩, fun b hb z hz => ?_⟩
      · by_cases hk : k < Ls.length
        · rw [List.getElem?_append_left hk] at eb
          rw [List.getElem?_append_left (by omega)] at eu
          exact t11 _ _ (L10.tup _ _ (l5.tup _ _ (hLs.at_ k b u eb eu)))
        · have hk2 : k = Ls.length := by
            have := (List.getElem?_eq_some_iff.mp eb).1
            rw [List.length_append, List.length_singleton] at this; omega
          subst hk2
          rw [List.getElem?_append_right (Nat.le_refl _), Nat.sub_self] at eb
          rw [List.getElem?_append_right (by omega), htl, Nat.sub_self] at eu
          simp at eb eu
          subst eb eu
          exact t11 _ _ et
      · rcases List.mem_append.mp hb with hb | hb
        · obtain ⟨h1, h2, h3, h4, h5⟩ := hLs.all b hb
          have := ((old5 b hb).apart L10 (fun _ _ z => z) (hT10.up (Int.le_refl _))).stab t11 ne11 h5 hLs.lt.symm
          exact ⟨⟨this.tape.up (by omega), this.book, this.own, this.tgd, this.ok, this.bok, this.es⟩, h2, h3, h4, h5⟩
        · rw [List.mem_singleton] at hb; subst hb
          have := nsta.stab t11 ne11 nL hLs.lt.symm
          exact ⟨⟨this.tape.up (by omega), this.book, this.own, this.tgd, this.ok, this.bok, this.es⟩, nfar, rfl, rfl, nL⟩
      · refine List.pairwise_append.mpr ⟨hLs.dis, List.pairwise_singleton _ _, fun b hb b' hb' z hz hz' => ?_⟩
        rw [List.mem_singleton] at hb'; subst hb'
        exact (old5 b hb).some z hz (nnone z hz')
      · obtain ⟨p1, p2, p3, h1, h2, h3⟩ := hT10.ex
        exact ⟨p1, p2, p3, by rw [ne11 _ hLs.lt.symm]; exact h1, h2, by omega⟩
      · rcases List.mem_append.mp hb with hb | hb
        · exact hfr b hb z hz
        · rw [List.mem_singleton] at hb; subst hb
          exact l3.nil ((l4.trans (l5.mono fun a h => .inl h)).nil (nnone z hz))
    · obtain ⟨⟨y4, y5, y6, y7, rfl⟩, l4, Ls, ts, hLj, hLs, hfr⟩ := hP
      obtain ⟨b1, b2, rfl⟩ := len_two hLj
      obtain ⟨t1, t2, rfl⟩ := len_two (hLs.len.trans hLj)
      have hb1 := hLs.all b1 List.mem_cons_self
      have hb2 := hLs.all b2 (List.mem_cons_of_mem _ List.mem_cons_self)
      have hntp1 : H1 tp = none := hntp
      have le14 : Le0 H1 H4 := by
        have m := l3.any.trans l4
        refine ⟨m.tup, fun z u _ hz => m.rest z u (fun e => e.elim (fun e => ?_) fun e => ?_) hz, m.dom⟩
        · rw [e, hntp1] at hz; cases hz
        · rw [e, hnL] at hz; cases hz
      have both4 : Both H4 C tp L t1 t2 b1 b2 (2000 * 2) 0 :=
        ⟨⟨hb1.1, hb2.1, hb1.2.1, hb2.2.1, (List.pairwise_cons.mp hLs.dis).1 b2 List.mem_cons_self, ⟨by rw [hb1.2.2.1]; exact Nat.le_refl _, by rw [hb1.2.2.2.1]; exact Int.le_refl _⟩, ⟨by rw [hb2.2.2.1]; exact Nat.le_refl _, by rw [hb2.2.2.2.1]; exact Int.le_refl _⟩⟩,
          hLs.li, hLs.at_ 0 b1 t1 rfl rfl, hLs.at_ 1 b2 t2 rfl rfl, hb1.2.2.2.2, hb2.2.2.2.2, hLs.lt⟩
      have fr1 := hfr b1 List.mem_cons_self
      have fr2 := hfr b2 (List.mem_cons_of_mem _ List.mem_cons_self)
      refine ⟨12, rfl, by decide, by decide, ?_⟩
      refine for_it walk_range (fun j σ H' => (∃ (y4 y5 y6 y7 : Option V), σ = [some (.ref a), some (.int (0 + (i : Nat))), some (.ref tp), some (.ref L), y4, y5, y6, y7]) ∧ Le0 H1 H' ∧ ∃ a1 a2 : BS, Both H' C tp L t1 t2 a1 a2 (4000 + 40000 * j) j ∧ (∀ z ∈ a1.adr, H1 z = none) ∧ ∀ z ∈ a2.adr, H1 z = none)
        ⟨⟨_, _, _, _, rfl⟩, le14, b1, b2, both4.up (by decide), fr1, fr2⟩ (fun _ _ _ _ _ => trivial) (fun j y σ H50 H5 hj hP yy => ?_) fun σ H5 hP => ?_
      · obtain ⟨⟨y4, y5, y6, y7, rfl⟩, l5, a1, a2, hBo, hz1, hz2⟩ := hP
        obtain ⟨rfl, rfl⟩ := yy
        have hj : j < 12 := hj
        refine ⟨_, rfl, _, rfl, tp, 2, _, rfl, hBo.duo.s1.tape, by decide, by decide, by omega, fun k H6 hk0 hk1 l6 hT6 => ?_⟩
        have hB6 := hBo.tape l6 hT6
        have le6 : Le0 H1 H6 := by
          have m := l5.any.trans l6
          refine ⟨m.tup, fun z u _ hz => m.rest z u (fun e => ?_) hz, m.dom⟩
          have e : z = tp := e
          rw [e, hntp1] at hz; cases hz
        have hk : k = 0 ∨ k = 1 := by omega
        rcases hk with rfl | rfl
        · refine ⟨L, _, 0, .ref t1, rfl, rfl, SqL.of hB6.li, at0, t1, _, rfl, SqT.of hB6.e1, rfl, _, _, rfl, _, _, rfl, _, _, rfl, rfl, ?_⟩
          refine ⟨_, rfl, _, rfl, _, rfl, _, rfl, tp, a1.x, a1.d, a1.o, a1.od, a1.tg, a1.T, a1.bk, a1.nx, _, rfl, hB6.duo.s1, hB6.duo.f1, by omega, by have := hB6.duo.n1.1; omega, by have := hB6.duo.n1.2; omega, fun bk' nx' H7 m7 S7 h1 h2 => ⟨_, rfl, ?_⟩⟩
          refine iteF ?_
          have hB7 := hB6.one m7 S7 h1 h2
          exact ⟨⟨_, _, _, _, rfl⟩, le0_m5 le6 m7 hntp1 hz1, _, a2, hB7.up (by omega), hz1, hz2⟩
        · refine ⟨L, _, 1, .ref t2, rfl, rfl, SqL.of hB6.li, at1, t2, _, rfl, SqT.of hB6.e2, rfl, _, _, rfl, _, _, rfl, _, _, rfl, rfl, ?_⟩
          refine ⟨_, rfl, _, rfl, _, rfl, _, rfl, tp, a2.x, a2.d, a2.o, a2.od, a2.tg, a2.T, a2.bk, a2.nx, _, rfl, hB6.duo.s2, hB6.duo.f2, by omega, by have := hB6.duo.n2.1; omega, by have := hB6.duo.n2.2; omega, fun bk' nx' H7 m7 S7 h1 h2 => ⟨_, rfl, ?_⟩⟩
          refine iteF ?_
          have hB7 := hB6.swap2 m7 S7 h1 h2
          exact ⟨⟨_, _, _, _, rfl⟩, le0_m5 le6 m7 hntp1 hz2, a1, _, hB7.up (by omega), hz1, hz2⟩
      · obtain ⟨⟨y4, y5, y6, y7, rfl⟩, l5, a1, a2, hBo, hz1, hz2⟩ := hP
        have tT : ∀ {H' : Hp} {D : Addr} {c : Int}, Tape H' tp c → H' D = none → tp ≠ D := fun h hD e => by obtain ⟨_, _, _, h', _⟩ := h.ex; rw [e, hD] at h'; cases h'
        have le0T : ∀ {H' H'' : Hp}, Le0 H1 H' → Le (atT tp) H' H'' → Le0 H1 H'' := fun {H' H''} l m => by
          have m := l.any.trans m
          refine ⟨m.tup, fun z u _ hz => m.rest z u (fun e => ?_) hz, m.dom⟩
          have e : z = tp := e
          rw [e, hntp1] at hz; cases hz
        -- they stand
        refine ⟨_, rfl, L, rfl, ⟨_, SqL.of hBo.li⟩, fun D hD => ?_⟩
        have tD := tT hBo.duo.s1.tape hD
        refine lc_acc walk_list (atT tp) (fun j acc H => acc = (List.replicate j true).map V.bl ∧ Tape H tp (500000 + 40000 * j)) hD (fun z e => by have e : z = tp := e; subst e; obtain ⟨_, _, _, h, _⟩ := hBo.duo.s1.tape.ex; rw [h]; exact fun z => nomatch z) (by show 2 < sizeLine; decide)
          (fun j acc H H' _ _ ne ⟨h1, p1, p2, p3, h2, h3⟩ => ⟨h1, p1, p2, p3, by rw [ne tp tD]; exact h2, h3⟩) ⟨rfl, hBo.duo.s1.tape.up (by decide)⟩ (fun j acc H' _ l _ => SqL.of (l.rest _ _ hBo.lt hBo.li)) (fun j x acc H60 H6 hj l6 _ _ hP y k1 k0 hk1 hk0 => ?_) fun acc H6 l6 hacc _ hP => ?_
        · obtain ⟨rfl, hT6⟩ := hP
          obtain ⟨rfl, ex⟩ := y
          have hB6 := hBo.tape l6 hT6
          have hj : j < 2 := hj
          have hjj : j = 0 ∨ j = 1 := by omega
          rcases hjj with rfl | rfl
          · obtain rfl : V.ref t1 = x := Option.some.inj ex
            refine ⟨t1, _, rfl, SqT.of hB6.e1, rfl, _, _, rfl, _, _, rfl, _, _, rfl, rfl, rfl, ?_⟩
            exact ⟨_, rfl, _, rfl, _, rfl, _, rfl, tp, a1.x, a1.d, a1.o, a1.od, a1.tg, a1.T, a1.bk, a1.nx, _, rfl, hB6.duo.s1, hB6.duo.f1, by omega, fun H7 l7 hT7 => hk1 _ _ l7 ⟨rfl, hT7.up (by omega)⟩⟩
          · obtain rfl : V.ref t2 = x := Option.some.inj ex
            refine ⟨t2, _, rfl, SqT.of hB6.e2, rfl, _, _, rfl, _, _, rfl, _, _, rfl, rfl, rfl, ?_⟩
            exact ⟨_, rfl, _, rfl, _, rfl, _, rfl, tp, a2.x, a2.d, a2.o, a2.od, a2.tg, a2.T, a2.bk, a2.nx, _, rfl, hB6.duo.s2, hB6.duo.f2, by omega, fun H7 l7 hT7 => hk1 _ _ l7 ⟨rfl, hT7.up (by omega)⟩⟩
        obtain ⟨rfl, hT6⟩ := hP
        refine ⟨D, _, rfl, SqL.of hacc, _, rfl, ?_⟩
        rw [all_rep]
        refine iteF ?_
        have hB6 := hBo.tape l6 hT6
        have le6 := le0T l5 l6
        clear hacc
        -- the book made anew is right
        refine ⟨_, rfl, L, rfl, ⟨_, SqL.of hB6.li⟩, fun D2 hD2 => ?_⟩
        have tD2 := tT hB6.duo.s1.tape hD2
        refine lc_acc walk_list (atT tp) (fun j acc H => acc = (List.replicate j true).map V.bl ∧ Tape H tp (600000 + 110000 * j)) hD2 (fun z e => by have e : z = tp := e; subst e; obtain ⟨_, _, _, h, _⟩ := hB6.duo.s1.tape.ex; rw [h]; exact fun z => nomatch z) (by show 2 < sizeLine; decide)
          (fun j acc H H' _ _ ne ⟨h1, p1, p2, p3, h2, h3⟩ => ⟨h1, p1, p2, p3, by rw [ne tp tD2]; exact h2, h3⟩) ⟨rfl, hB6.duo.s1.tape.up (by show (500000 : Int) + 40000 * ((2 : Nat) : Int) ≤ 600000 + 110000 * ((0 : Nat) : Int); decide)⟩ (fun j acc H' _ l _ => SqL.of (l.rest _ _ hB6.lt hB6.li)) (fun j x acc H70 H7 hj l7 _ _ hP y k1 k0 hk1 hk0 => ?_) fun acc H7 l7 hacc _ hP => ?_
        · obtain ⟨rfl, hT7⟩ := hP
          obtain ⟨rfl, ex⟩ := y
          have hB7 := hB6.tape l7 hT7
          have hj : j < 2 := hj
          have hjj : j = 0 ∨ j = 1 := by omega
          rcases hjj with rfl | rfl
          · obtain rfl : V.ref t1 = x := Option.some.inj ex
            refine ⟨t1, _, rfl, SqT.of hB7.e1, rfl, _, _, rfl, _, _, rfl, _, _, rfl, rfl, rfl, ?_⟩
            exact ⟨_, rfl, _, rfl, _, rfl, _, rfl, tp, a1.x, a1.d, a1.o, a1.od, a1.tg, a1.T, a1.bk, a1.nx, _, rfl, hB7.duo.s1, hB7.duo.f1, by omega, fun H8 l8 hT8 => hk1 _ _ l8 ⟨rfl, hT8.up (by omega)⟩⟩
          · obtain rfl : V.ref t2 = x := Option.some.inj ex
            refine ⟨t2, _, rfl, SqT.of hB7.e2, rfl, _, _, rfl, _, _, rfl, _, _, rfl, rfl, rfl, ?_⟩
            exact ⟨_, rfl, _, rfl, _, rfl, _, rfl, tp, a2.x, a2.d, a2.o, a2.od, a2.tg, a2.T, a2.bk, a2.nx, _, rfl, hB7.duo.s2, hB7.duo.f2, by omega, fun H8 l8 hT8 => hk1 _ _ l8 ⟨rfl, hT8.up (by omega)⟩⟩
        obtain ⟨rfl, hT7⟩ := hP
        refine ⟨D2, _, rfl, SqL.of hacc, _, rfl, ?_⟩
        rw [all_rep]
        refine iteF ?_
        have hB7 := hB6.tape l7 hT7
        have le7 := le0T le6 l7
        clear hacc
        -- emptied
        refine ⟨_, rfl, L, rfl, ⟨_, SqL.of hB7.li⟩, fun D3 hD3 => ?_⟩
        have tD3 := tT hB7.duo.s1.tape hD3
        have nD1 : D3 ∉ a1.adr := fun z => hB7.duo.s1.some _ z hD3
        have nD2 : D3 ∉ a2.adr := fun z => hB7.duo.s2.some _ z hD3
        have nLm : ¬ (L = tp ∨ L ∈ a1.adr ∨ L ∈ a2.adr) := fun z => z.elim hB7.lt fun z => z.elim hB7.la hB7.lb
        refine lc_acc walk_list (fun z => z = tp ∨ z ∈ a1.adr ∨ z ∈ a2.adr) (fun j acc H => acc = (List.replicate j true).map V.bl ∧ (j = 0 → a1.sta H C tp (1000000 + 3000000 * j)) ∧ (j ≤ 1 → a2.sta H C tp (1000000 + 3000000 * j))) hD3
          (fun z e => by
            rcases e with e | e | e
            · rw [e]; obtain ⟨_, _, _, h, _⟩ := hB7.duo.s1.tape.ex; rw [h]; exact fun z => nomatch z
            · exact hB7.duo.s1.some z e
            · exact hB7.duo.s2.some z e) (by show 2 < sizeLine; decide)
          (fun j acc H H' _ t ne ⟨h1, h2, h3⟩ => ⟨h1, fun e => (h2 e).stab t ne nD1 tD3, fun e => (h3 e).stab t ne nD2 tD3⟩)
          ⟨rfl, fun _ => staUp hB7.duo.s1 (by show (600000 : Int) + 110000 * ((2 : Nat) : Int) ≤ 1000000 + 3000000 * ((0 : Nat) : Int); decide), fun _ => staUp hB7.duo.s2 (by show (600000 : Int) + 110000 * ((2 : Nat) : Int) ≤ 1000000 + 3000000 * ((0 : Nat) : Int); decide)⟩ (fun j acc H' _ l _ => SqL.of (l.rest _ _ nLm hB7.li)) (fun j x acc H80 H8 hj l8 _ _ hP y k1 k0 hk1 hk0 => ?_) fun acc H8 l8 hacc _ hP => ?_
        · obtain ⟨rfl, hs1, hs2⟩ := hP
          obtain ⟨rfl, ex⟩ := y
          have hj : j < 2 := hj
          have hjj : j = 0 ∨ j = 1 := by omega
          rcases hjj with rfl | rfl
          · obtain rfl : V.ref t1 = x := Option.some.inj ex
            refine ⟨t1, _, rfl, SqT.of (l8.tup _ _ hB7.e1), rfl, _, _, rfl, _, _, rfl, _, _, rfl, rfl, rfl, ?_⟩
            refine ⟨_, rfl, _, rfl, _, rfl, _, rfl, tp, a1.x, a1.d, a1.o, a1.od, a1.tg, a1.T, a1.bk, a1.nx, _, rfl, hs1 rfl, hB7.duo.f1, by omega, fun H9 m9 hT9 => hk1 _ _ (m9.mono fun z hz => (m5_adr hz).imp id .inl) ⟨rfl, fun e => (nomatch e), fun _ => ?_⟩⟩
            exact staUp ((hs2 (by decide)).apart m9 (fun z hz e => (m5_adr e).elim (fun e => hB7.duo.f2.mem (e ▸ hz)) fun e => hB7.duo.dis z e hz) hT9) (by omega)
          · obtain rfl : V.ref t2 = x := Option.some.inj ex
            refine ⟨t2, _, rfl, SqT.of (l8.tup _ _ hB7.e2), rfl, _, _, rfl, _, _, rfl, _, _, rfl, rfl, rfl, ?_⟩
            exact ⟨_, rfl, _, rfl, _, rfl, _, rfl, tp, a2.x, a2.d, a2.o, a2.od, a2.tg, a2.T, a2.bk, a2.nx, _, rfl, hs2 (by decide), hB7.duo.f2, by omega, fun H9 m9 hT9 => hk1 _ _ (m9.mono fun z hz => (m5_adr hz).imp id .inr) ⟨rfl, fun e => (nomatch e), fun e => absurd e (by decide)⟩⟩
        obtain ⟨rfl, _, _⟩ := hP
        refine ⟨D3, _, rfl, SqL.of hacc, _, rfl, ?_⟩
        rw [all_rep]
        refine iteF ?_
        refine ⟨⟨_, _, _, _, _, _, _, rfl⟩, l1.trans ?_⟩
        have m := le7.any.trans l8
        refine ⟨m.tup, fun z u _ hz => m.rest z u (fun e => ?_) hz, m.dom⟩
        rcases e with e | e | e
        · rw [e, hntp1] at hz; cases hz
        · rw [hz1 z e] at hz; cases hz
        · rw [hz2 z e] at hz; cases hz
  · exact q H'
end
end Nh
/-! ## NhL20a -/
set_option maxHeartbeats 8000000
namespace Nh
open PySem PySem.Spec PyProof.Rows L2
theorem seq_asg {te : TE} {tg : TG} {u : TS} {D : Ends} {σ : L2.St} {H : Hp} (h : te σ H fun x H1 => tg x σ H1 (u D)) : tSeq (tAsg te tg) u D σ H := h
/-! ### literal tuples -/
def Lit (te : TE) (d : PyData) : Prop := ∀ σ H (Q : VK), (∀ v H', Le0 H H' → Dv H' d v → Q v H') → te σ H Q
def LitA (t : TA) (ds : List PyData) : Prop := ∀ σ H (Q : List V → Hp → Prop), (∀ vs H', Le0 H H' → DvA H' ds vs → Q vs H') → t σ H Q
def LitL (te : TE) (ds : List PyData) : Prop := ∀ σ H (Q : VK), (∀ l vs H', Le0 H H' → H l = none → H' l = some (.lst vs) → DvA H' ds vs → Q (.ref l) H') → te σ H Q
theorem Lit.int {i : Int} : Lit (tC (.int i)) (.int i) := fun σ H Q q => q _ H (Le.refl _) Dv.int
theorem LitA.nil : LitA tNil [] := fun σ H Q q => q [] H (Le.refl _) .nil
theorem LitA.cons {te : TE} {t : TA} {d : PyData} {ds : List PyData} (h : Lit te d) (r : LitA t ds) : LitA (tCons te t) (d :: ds) :=
  fun σ H Q q => h σ H _ fun v H1 l1 d1 => r σ H1 _ fun vs H2 l2 d2 => q _ H2 (l1.trans l2) (.cons (d1.mono l2.tup) d2)
theorem Lit.tup {t : TA} {ds : List PyData} (h : LitA t ds) (hl : ds.length ≤ 100) : Lit (tTup t) (.tuple ds) :=
  fun σ H Q q => h σ H _ fun vs H1 l1 d1 => ⟨small (by rw [d1.length]; omega), fun p hp => q _ _ (l1.trans (Le.new hp _)) (Dv.mk hp d1)⟩
theorem LitL.lst {t : TA} {ds : List PyData} (h : LitA t ds) (hl : ds.length ≤ 100) : LitL (tLst t) ds :=
  fun σ H Q q => h σ H _ fun vs H1 l1 d1 => ⟨small (by rw [d1.length]; omega), fun p hp => q p vs _ (l1.trans (Le.new hp _)) (l1.nil hp) upd_same (d1.mono (Tu.new hp _))⟩
theorem DvA.take {H : Hp} {ds : List PyData} {vs : List V} (h : DvA H ds vs) (m : Nat) : DvA H (ds.take m) (vs.take m) := by
  refine DvA.of (by rw [List.length_take, List.length_take, h.length]) fun i d v e1 e2 => ?_
  rw [List.getElem?_take] at e1 e2
  split at e1
  · rename_i hi
    rw [if_pos hi] at e2
    obtain ⟨v', ev, hd⟩ := h.get e1
    rw [e2] at ev; cases ev; exact hd
  · cases e1
theorem DvA.drop {H : Hp} {ds : List PyData} {vs : List V} (h : DvA H ds vs) (m : Nat) : DvA H (ds.drop m) (vs.drop m) := by
  refine DvA.of (by rw [List.length_drop, List.length_drop, h.length]) fun i d v e1 e2 => ?_
  rw [List.getElem?_drop] at e1 e2
  obtain ⟨v', ev, hd⟩ := h.get e1
  rw [e2] at ev; cases ev; exact hd
abbrev kindD (k : List (List Int × Int) × Int) : PyData := .tuple [.tuple (k.1.map partD), .int k.2]
def kinds1 : List (List (List Int × Int) × Int) := [([], 0), ([], 1), ([([], 0)], 0), ([([], 0), ([], 1)], 1), ([([0], 1)], 1), ([([1], 0), ([], 1)], 0)]
def kinds2 : List (List (List Int × Int) × Int) := [([([0, 1, 0], 0), ([1], 1)], 1), ([([], 1), ([], 0), ([0], 0)], 0)]
/-- kinds of forms -/
structure KsOk (Ks : List (List (List Int × Int) × Int)) : Prop where
  len : Ks.length = 9
  k0 : Ks[0]? = some ([], 0)
  k1 : Ks[1]? = some ([], 1)
  all : ∀ k ∈ Ks, k.1.length ≤ 3 ∧ ∀ q ∈ k.1, q.1.length ≤ 3 ∧ (q.2 = 0 ∨ q.2 = 1)
theorem ks_ok {m : Nat} (sj : Int) (hm : 3 ≤ m) : KsOk ((kinds1 ++ kinds2).take m ++ [([], sj)] ++ (kinds1 ++ kinds2).drop m) := by
  have h8 : (kinds1 ++ kinds2).length = 8 := rfl
  have all8 : ∀ k ∈ kinds1 ++ kinds2, k.1.length ≤ 3 ∧ ∀ q ∈ k.1, q.1.length ≤ 3 ∧ (q.2 = 0 ∨ q.2 = 1) := by decide
  refine ⟨?_, ?_, ?_, fun k hk => ?_⟩
  · rw [List.length_append, List.length_append, List.length_take, List.length_drop, h8, List.length_singleton]; omega
  · rw [List.append_assoc, List.getElem?_append_left (by rw [List.length_take, h8]; omega), List.getElem?_take, if_pos (by omega)]; rfl
  · rw [List.append_assoc, List.getElem?_append_left (by rw [List.length_take, h8]; omega), List.getElem?_take, if_pos (by omega)]; rfl
  · rcases List.mem_append.mp hk with hk | hk
    · rcases List.mem_append.mp hk with hk | hk
      · exact all8 k (List.mem_of_mem_take hk)
      · rw [List.mem_singleton] at hk; subst hk; exact ⟨Nat.zero_le _, fun q z => nomatch z⟩
    · exact all8 k (List.mem_of_mem_drop hk)
/-! ### alike data -/
theorem alike_int (i j : Int) : PySem.W.alike (.int i) (.int j) = true := by unfold PySem.W.alike; rfl
theorem alike_str (x y : Str) : PySem.W.alike (.str x) (.str y) = true := by unfold PySem.W.alike; rfl
theorem alike_tup {xs ys : List PyData} (h : PySem.W.alikeAll xs ys = true) : PySem.W.alike (.tuple xs) (.tuple ys) = true := by unfold PySem.W.alike; exact h
theorem alikeAll_of : ∀ {xs ys : List PyData}, (∀ x ∈ xs, ∀ y ∈ ys, PySem.W.alike x y = true) → PySem.W.alikeAll xs ys = true
  | [], ys, _ => by unfold PySem.W.alikeAll; rfl
  | x :: xs, [], _ => by unfold PySem.W.alikeAll; rfl
  | x :: xs, y :: ys, h => by
    unfold PySem.W.alikeAll
    rw [h x List.mem_cons_self y List.mem_cons_self, alikeAll_of fun a ha b hb => h a (List.mem_cons_of_mem _ ha) b (List.mem_cons_of_mem _ hb)]
    rfl
theorem alikeAll_cons {x y : PyData} {xs ys : List PyData} (h : PySem.W.alike x y = true) (r : PySem.W.alikeAll xs ys = true) : PySem.W.alikeAll (x :: xs) (y :: ys) = true := by
  unfold PySem.W.alikeAll; rw [h, r]; rfl
theorem alikeAll_nil : PySem.W.alikeAll [] [] = true := by unfold PySem.W.alikeAll; rfl
theorem alike_ints (xs ys : List Int) : PySem.W.alike (intsD xs) (intsD ys) = true := alike_tup (alikeAll_of fun a ha b hb => by
  obtain ⟨i, _, rfl⟩ := List.mem_map.mp ha
  obtain ⟨j, _, rfl⟩ := List.mem_map.mp hb
  exact alike_int i j)
theorem alike_part (p q : List Int × Int) : PySem.W.alike (partD p) (partD q) = true := alike_tup (alikeAll_cons (alike_ints _ _) (alikeAll_cons (alike_int _ _) alikeAll_nil))
theorem alike_form (p q : Str × List (List Int × Int) × Int) : PySem.W.alike (formD p) (formD q) = true := alike_tup (alikeAll_cons (alike_str _ _) (alikeAll_cons (alike_tup (alikeAll_of fun a ha b hb => by
  obtain ⟨i, _, rfl⟩ := List.mem_map.mp ha
  obtain ⟨j, _, rfl⟩ := List.mem_map.mp hb
  exact alike_part i j)) (alikeAll_cons (alike_int _ _) alikeAll_nil)))
theorem alike_hole (p q : Str × List Int × Int) : PySem.W.alike (holeD p) (holeD q) = true := alike_tup (alikeAll_cons (alike_str _ _) (alikeAll_cons (alike_ints _ _) (alikeAll_cons (alike_int _ _) alikeAll_nil)))
theorem depth_partD (q : List Int × Int) : (partD q).depth ≤ 2 := depth_two (n := 1) (depth_ints _) (by rw [depth_int]; omega)
theorem depth_formD (r : Str × List (List Int × Int) × Int) : (formD r).depth ≤ 4 := depth_three (n := 3) (by rw [depth_str]; omega) (depth_tup (n := 2) fun x hx => by obtain ⟨y, _, rfl⟩ := List.mem_map.mp hx; exact depth_partD y) (by rw [depth_int]; omega)
/-! ### rows in another order -/
theorem perm_map_ex {α β : Type} {g : α → β} : ∀ {ys : List β} {zs : List α}, ys.Perm (zs.map g) → ∃ zs' : List α, zs'.Perm zs ∧ ys = zs'.map g
  | [], zs, h => by
    have : zs.map g = [] := (List.Perm.nil_eq h).symm
    rw [List.map_eq_nil_iff] at this
    subst this
    exact ⟨[], .nil, rfl⟩
  | y :: ys, zs, h => by
    have hy : y ∈ zs.map g := h.subset List.mem_cons_self
    obtain ⟨z, hz, rfl⟩ := List.mem_map.mp hy
    obtain ⟨l1, l2, rfl⟩ := List.append_of_mem hz
    have h2 : (g z :: ys).Perm (g z :: (l1 ++ l2).map g) := h.trans (by
      rw [List.map_append, List.map_append, List.map_cons]
      exact List.perm_middle)
    obtain ⟨zs', hp, e⟩ := perm_map_ex (List.Perm.cons_inv h2)
    exact ⟨z :: zs', (hp.cons z).trans List.perm_middle.symm, by rw [e]; rfl⟩
theorem dva_all {α : Type} {H : Hp} {enc : α → PyData} : ∀ {zs : List (V × α)}, (∀ p ∈ zs, Dv H (enc p.2) p.1) → DvA H ((zs.map (·.2)).map enc) (zs.map (·.1))
  | [], _ => .nil
  | p :: zs, h => .cons (h p List.mem_cons_self) (dva_all fun q hq => h q (List.mem_cons_of_mem _ hq))
theorem perm_data {α : Type} {H : Hp} {enc : α → PyData} {Fs : List α} {ws : List V} (h : DvA H (Fs.map enc) ws) {ys : List (V × PyData)} (hp : ys.Perm (ws.zip (Fs.map enc))) : ∃ Fs' : List α, Fs'.Perm Fs ∧ DvA H (Fs'.map enc) (ys.map (·.1)) := by
  have hl := h.length
  rw [List.length_map] at hl
  have e : ws.zip (Fs.map enc) = (ws.zip Fs).map fun p => (p.1, enc p.2) := by rw [List.zip_map_right]; rfl
  rw [e] at hp
  obtain ⟨zs, hz, rfl⟩ := perm_map_ex hp
  refine ⟨zs.map (·.2), ?_, ?_⟩
  · have := hz.map (·.2)
    rw [List.map_snd_zip (by omega)] at this
    exact this
  · have := dva_all (H := H) (enc := enc) (zs := zs) fun p hp => by
      have hm := hz.subset hp
      obtain ⟨i, ei⟩ := List.mem_iff_getElem?.mp hm
      rw [List.getElem?_zip_eq_some] at ei
      obtain ⟨v, ev, hv⟩ := h.get (i := i) (d := enc p.2) (by rw [List.getElem?_map, ei.2]; rfl)
      rw [ei.1] at ev; cases ev
      exact hv
    rw [show ((zs.map fun p => (p.1, enc p.2)).map (·.1)) = zs.map (·.1) by rw [List.map_map]; rfl]
    exact this
theorem zip_fst_sub {α β : Type} : ∀ (l : List α) (m : List β), ((l.zip m).map (·.1)).Sublist l
  | [], m => by simp
  | a :: l, [] => by simp
  | a :: l, b :: m => by
    rw [List.zip_cons_cons, List.map_cons]
    exact (zip_fst_sub l m).cons_cons a
/-! ### the tongue that is drawn -/
structure HsOk (ws : List Str) (Hs : List (Str × List Int × Int)) : Prop where
  at_ : ∀ (j : Nat) r, Hs[j]? = some r → (ws[11 - j]? = some r.1 ∨ ∃ q, q < 3 ∧ r.1 = fig (3 * j + q)) ∧ r.2.1.length ≤ 3 ∧ Bn r.2.2
theorem tg_ok {ws : List Str} {Ks : List (List (List Int × Int) × Int)} {many : Nat} {Fs : List (Str × List (List Int × Int) × Int)} {Hs : List (Str × List Int × Int)} (hw : Wds ws 12) (hK : KsOk Ks) (hm : 3 ≤ many ∧ many ≤ 8) (hH : HsOk ws Hs) (hHl : Hs.length ≤ 4)
    (eF : ((ws.zip Ks).take many).map (fun p => (p.1, p.2.1, p.2.2)) = Fs) {Fs' : List (Str × List (List Int × Int) × Int)} {Hs' : List (Str × List Int × Int)} (pF : Fs'.Perm Fs) (pH : Hs'.Perm Hs) : TgOk ⟨Fs', Hs'⟩ := by
  have memF : ∀ r ∈ Fs', ∃ k ∈ Ks, r.2.1 = k.1 ∧ r.2.2 = k.2 := fun r hr => by
    have h := pF.subset hr
    rw [← eF] at h
    obtain ⟨p, hp, rfl⟩ := List.mem_map.mp h
    exact ⟨p.2, (List.of_mem_zip (List.mem_of_mem_take hp)).2, rfl, rfl⟩
  have memH : ∀ r ∈ Hs', r.2.1.length ≤ 3 ∧ Bn r.2.2 := fun r hr => by
    obtain ⟨j, _, ej⟩ := mem_get (pH.subset hr)
    exact (hH.at_ j r ej).2
  have nH : (Hs.map (·.1)).Nodup := by
    refine List.pairwise_iff_getElem.mpr fun i j hi hj hij e0 => ?_
    rw [List.length_map] at hi hj
    obtain ⟨a, ea⟩ := get_ex (l := Hs) hi
    obtain ⟨b, eb⟩ := get_ex (l := Hs) hj
    have e : a.1 = b.1 := by
      have q1 : (Hs.map (·.1))[i]? = some a.1 := by rw [List.getElem?_map, ea]; rfl
      have q2 : (Hs.map (·.1))[j]? = some b.1 := by rw [List.getElem?_map, eb]; rfl
      rw [List.getElem?_eq_getElem (by rw [List.length_map]; exact hi)] at q1
      rw [List.getElem?_eq_getElem (by rw [List.length_map]; exact hj)] at q2
      exact (Option.some.inj q1).symm.trans (e0.trans (Option.some.inj q2))
    rcases (hH.at_ i a ea).1 with h1 | ⟨q, hq, h1⟩ <;> rcases (hH.at_ j b eb).1 with h2 | ⟨q', hq', h2⟩
    · rw [← e] at h2
      obtain ⟨k1, e1⟩ := List.getElem?_eq_some_iff.mp h1
      obtain ⟨k2, e2⟩ := List.getElem?_eq_some_iff.mp h2
      have := (List.getElem_inj hw.nd).mp (e1.trans e2.symm)
      omega
    · exact (hw.wd _ (get_mem h1)).ne_fig _ (e.trans h2)
    · exact (hw.wd _ (get_mem h2)).ne_fig _ (e.symm.trans h1)
    · have := fig_inj (h1.symm.trans (e.trans h2)); omega
  have nF : (Fs.map (·.1)).Nodup := by
    rw [← eF, List.map_map]
    have s1 : (((ws.zip Ks).take many).map (·.1)).Sublist ((ws.zip Ks).map (·.1)) := (List.take_sublist _ _).map _
    exact (s1.trans (zip_fst_sub ws Ks)).nodup hw.nd
  have lF : Fs.length ≤ 8 := by rw [← eF, List.length_map, List.length_take]; omega
  refine ⟨(pF.map (·.1)).nodup_iff.mpr nF, (pH.map (·.1)).nodup_iff.mpr nH, ?_, ?_, fun r hr => ?_, fun r hr q hq => ?_, fun r hr q hq => ?_, fun r hr => (memH r hr).1, fun r hr => (memH r hr).2, fun s hs => ?_⟩
  · have := pF.length_eq; show Fs'.length ≤ 9; omega
  · have := pH.length_eq; show Hs'.length ≤ 5; omega
  · obtain ⟨k, hk, e1, e2⟩ := memF r hr
    rw [e1]; exact (hK.all k hk).1
  · obtain ⟨k, hk, e1, e2⟩ := memF r hr
    rw [e1] at hq; exact ((hK.all k hk).2 q hq).1
  · obtain ⟨k, hk, e1, e2⟩ := memF r hr
    rw [e1] at hq; exact ((hK.all k hk).2 q hq).2
  · have at_ : ∀ (i : Nat) (z : Int), i < 3 → Ks[i]? = some ([], z) → ∃ r ∈ Fs', r.2.1 = [] ∧ r.2.2 = z := fun i z hi ek => by
      obtain ⟨x, ex⟩ := get_ex (l := ws) (i := i) (by rw [hw.len]; omega)
      have ez : ((ws.zip Ks).take many)[i]? = some (x, ([], z)) := by
        rw [List.getElem?_take, if_pos (by omega), List.getElem?_zip_eq_some]; exact ⟨ex, ek⟩
      refine ⟨(x, [], z), pF.symm.subset ?_, rfl, rfl⟩
      rw [← eF]
      exact List.mem_map.mpr ⟨_, get_mem ez, rfl⟩
    rcases hs with rfl | rfl
    · exact at_ 0 0 (by decide) hK.k0
    · exact at_ 1 1 (by decide) hK.k1
end Nh
/-! ## NhL20 -/
set_option maxHeartbeats 8000000
namespace Nh
open PySem PySem.Spec PyProof.Rows L2
section
variable {P : Program} {w : World} {K : PySem.W.Frag} {mg : Str → Option Value} {base : Heap} {f : Addr} {fd : FuncData}
abbrev N_l_tongue : List Str := ["_law_tape_here", "_law_kinds", "_law_forms", "_law_holes", "_law_k", "_law_many", "_law_words_here", "_law_sorts", "_law_called", "_law_kind", "_law_turn"]
theorem sc_l_tongue : FnScope N_l_tongue ["_law_tape_here"] (defScope s_l_tongue) := ⟨rfl, rfl, rfl, by decide +kernel, rfl, by decide +kernel, by decide +kernel⟩
theorem ok_l_tongue (F : Fun K "_law_tongue" "_law_tongue" s_l_tongue f fd) (B : Bt mg) (c_l_take : Cal P w K mg base 1 "_law_take" ["_law_tape_here", "_law_many"] spTake) (c_l_words : Cal P w K mg base 2 "_law_words" ["_law_tape_here", "_law_many"] spWords) : FnOk P w K mg base CX0 3 f fd ["_law_tape_here"] spTongue := by
  refine F.ok sc_l_tongue (fun vs H Q E h => by obtain ⟨tp, c, rfl, _⟩ := h; rfl) (fun cdv A outer s H vs Q E hr h => ?_)
  obtain ⟨tp, c, rfl, ht, hc, q⟩ := h
  have hbig : big = 1000000000000 := rfl
  refine ⟨_, (pss_cons (ps_set (i := 1) sc_l_tongue.nd rfl (by first | exact Or.inl rfl | exact Or.inr rfl) (pe_lst (pa_cons (pe_tup (pa_cons (pe_tup pa_nil) (pa_cons (pe_int) pa_nil))) (pa_cons (pe_tup (pa_cons (pe_tup pa_nil) (pa_cons (pe_int) pa_nil))) (pa_cons (pe_tup (pa_cons (pe_tup (pa_cons (pe_tup (pa_cons (pe_tup pa_nil) (pa_cons (pe_int) pa_nil))) pa_nil)) (pa_cons (pe_int) pa_nil))) (pa_cons (pe_tup (pa_cons (pe_tup (pa_cons (pe_tup (pa_cons (pe_tup pa_nil) (pa_cons (pe_int) pa_nil))) (pa_cons (pe_tup (pa_cons (pe_tup pa_nil) (pa_cons (pe_int) pa_nil))) pa_nil))) (pa_cons (pe_int) pa_nil))) (pa_cons (pe_tup (pa_cons (pe_tup (pa_cons (pe_tup (pa_cons (pe_tup (pa_cons (pe_int) pa_nil)) (pa_cons (pe_int) pa_nil))) pa_nil)) (pa_cons (pe_int) pa_nil))) (pa_cons (pe_tup (pa_cons (pe_tup (pa_cons (pe_tup (pa_cons (pe_tup (pa_cons (pe_int) pa_nil)) (pa_cons (pe_int) pa_nil))) (pa_cons (pe_tup (pa_cons (pe_tup pa_nil) (pa_cons (pe_int) pa_nil))) pa_nil))) (pa_cons (pe_int) pa_nil))) pa_nil))))))))
  (pss_cons (ps_set (i := 1) sc_l_tongue.nd rfl (by first | exact Or.inl rfl | exact Or.inr rfl) (pe_op op_cat (pv 1) (pe_lst (pa_cons (pe_tup (pa_cons (pe_tup (pa_cons (pe_tup (pa_cons (pe_tup (pa_cons (pe_int) (pa_cons (pe_int) (pa_cons (pe_int) pa_nil)))) (pa_cons (pe_int) pa_nil))) (pa_cons (pe_tup (pa_cons (pe_tup (pa_cons (pe_int) pa_nil)) (pa_cons (pe_int) pa_nil))) pa_nil))) (pa_cons (pe_int) pa_nil))) (pa_cons (pe_tup (pa_cons (pe_tup (pa_cons (pe_tup (pa_cons (pe_tup pa_nil) (pa_cons (pe_int) pa_nil))) (pa_cons (pe_tup (pa_cons (pe_tup pa_nil) (pa_cons (pe_int) pa_nil))) (pa_cons (pe_tup (pa_cons (pe_tup (pa_cons (pe_int) pa_nil)) (pa_cons (pe_int) pa_nil))) pa_nil)))) (pa_cons (pe_int) pa_nil))) pa_nil)))))
  (pss_cons (ps_expr (pe_bm PySem.F.plainAttrs_list PySem.F.slot_list_insert PySem.F.type_list_insert mt_insert (pv 1) (pa_cons (pe_op op_add (pe_int) (pe_cal c_l_take (hr.mono (by omega)) (by rfl) (pa_cons (pv 0) (pa_cons (pe_int) pa_nil)))) (pa_cons (pe_tup (pa_cons (pe_tup pa_nil) (pa_cons (pe_cal c_l_take (hr.mono (by omega)) (by rfl) (pa_cons (pv 0) (pa_cons (pe_int) pa_nil))) pa_nil))) pa_nil))))
  (pss_cons (ps_asg (pe_tup (pa_cons (pe_op op_add (pe_int) (pe_cal c_l_take (hr.mono (by omega)) (by rfl) (pa_cons (pv 0) (pa_cons (pe_int) pa_nil)))) (pa_cons (pe_cal c_l_words (hr.mono (by omega)) (by rfl) (pa_cons (pv 0) (pa_cons (pe_int) pa_nil))) pa_nil))) (pgT (K := K) (n := 2) rfl rfl (pgs_cons (pg_name (i := 5) sc_l_tongue.nd rfl (by first | exact Or.inl rfl | exact Or.inr rfl)) (pgs_cons (pg_name (i := 6) sc_l_tongue.nd rfl (by first | exact Or.inl rfl | exact Or.inr rfl)) pgs_nil))))
  (pss_cons (ps_setLc (i := 2) (own := [("_law_k", 4), ("_law_kind", 9)]) rfl sc_l_tongue.nd rfl rfl (sw_true rfl rfl rfl (by decide +kernel)) (enL (K := K) rfl (by rfl) B.enumerate (pa_cons (pe_slice (slLQ (K := K) rfl) (pv 1) po_none (po_some (pv 5))) pa_nil)) (blkOk_by (own := [("_law_k", 4), ("_law_kind", 9)]) (N := N_l_tongue) (sc := defScope s_l_tongue) (by decide +kernel)) (fun _ _ _ _ _ => pgT (K := K) (n := 2) rfl rfl (pgs_cons (pg_name (i := 4) sc_l_tongue.nd rfl (by first | exact Or.inl rfl | exact Or.inr rfl)) (pgs_cons (pg_name (i := 9) sc_l_tongue.nd rfl (by first | exact Or.inl rfl | exact Or.inr rfl)) pgs_nil))) (fun _ _ _ _ _ => pts_nil) (fun _ _ _ _ _ => pe_op (catT (K := K) rfl) (pe_tup (pa_cons (pe_ix (ixL (K := K) rfl) (pv 6) (pv 4) (fun _ _ => rfl)) pa_nil)) (pv 9)))
  (pss_cons (ps_set (i := 3) sc_l_tongue.nd rfl (by first | exact Or.inl rfl | exact Or.inr rfl) (pe_lst pa_nil))
  (pss_cons (ps_for PassesOwn.never rfl (pi_range1 (by rfl) B.range (pa_cons (pe_op op_add (pe_int) (pe_cal c_l_take (hr.mono (by omega)) (by rfl) (pa_cons (pv 0) (pa_cons (pe_int) pa_nil)))) pa_nil)) (pg_name (i := 4) sc_l_tongue.nd rfl (by first | exact Or.inl rfl | exact Or.inr rfl)) (pss_cons (ps_set (i := 7) sc_l_tongue.nd rfl (by first | exact Or.inl rfl | exact Or.inr rfl) (pe_callTy (tupQ (K := K) rfl) (by rfl) B.tuple bv_tuple (pa_cons (pe_lc (own := [("_law_turn", 10)]) rfl sc_l_tongue.nd (pi_range1 (by rfl) B.range (pa_cons (pe_ix (ixL (K := K) rfl) (pe_lst (pa_cons (pe_int) (pa_cons (pe_int) (pa_cons (pe_int) (pa_cons (pe_int) (pa_cons (pe_int) (pa_cons (pe_int) pa_nil))))))) (pe_cal c_l_take (hr.mono (by omega)) (by rfl) (pa_cons (pv 0) (pa_cons (pe_int) pa_nil))) (fun _ _ => rfl)) pa_nil)) (blkOk_by (own := [("_law_turn", 10)]) (N := N_l_tongue) (sc := defScope s_l_tongue) (by decide +kernel)) (fun _ _ _ _ _ => pg_name (i := 10) sc_l_tongue.nd rfl (by first | exact Or.inl rfl | exact Or.inr rfl)) (fun _ _ _ _ _ => pts_nil) (fun _ _ _ _ _ => pe_cal c_l_take (hr.mono (by omega)) (by rfl) (pa_cons (pv 0) (pa_cons (pe_int) pa_nil)))) pa_nil)))
  (pss_cons (ps_set (i := 8) sc_l_tongue.nd rfl (by first | exact Or.inl rfl | exact Or.inr rfl) (pe_ix (ixL (K := K) rfl) (pe_lst (pa_cons (pe_ix (ixL (K := K) rfl) (pv 6) (pe_op op_sub (pe_int) (pv 4)) (fun _ _ => rfl)) (pa_cons (pe_callTy call_str_int (by rfl) B.str bv_str (pa_cons (pe_op op_add (pe_op op_mul (pe_int) (pv 4)) (pe_cal c_l_take (hr.mono (by omega)) (by rfl) (pa_cons (pv 0) (pa_cons (pe_int) pa_nil)))) pa_nil)) pa_nil))) (pe_op op_fdivN (pe_cal c_l_take (hr.mono (by omega)) (by rfl) (pa_cons (pv 0) (pa_cons (pe_int) pa_nil))) (pe_int)) (fun _ _ => rfl)))
  (pss_one (ps_expr (pe_bm PySem.F.plainAttrs_list PySem.F.slot_list_append PySem.F.type_list_append mt_append (pv 3) (pa_cons (pe_tup (pa_cons (pv 8) (pa_cons (pv 7) (pa_cons (pe_cal c_l_take (hr.mono (by omega)) (by rfl) (pa_cons (pv 0) (pa_cons (pe_int) pa_nil))) pa_nil)))) pa_nil)))))))
  (pss_one (ps_ret (pe_tup (pa_cons (pe_callTy (tupQ (K := K) rfl) (by rfl) B.tuple bv_tuple (pa_cons (pe_callB (srtD (K := K) rfl hr.units) (by rfl) B.sorted bv_sorted (pa_cons (pv 2) pa_nil)) pa_nil)) (pa_cons (pe_callTy (tupQ (K := K) rfl) (by rfl) B.tuple bv_tuple (pa_cons (pe_callB (srtD (K := K) rfl hr.units) (by rfl) B.sorted bv_sorted (pa_cons (pv 3) pa_nil)) pa_nil)) pa_nil)))))))))))), ?_⟩
  refine seq_asg ?_
  refine (LitL.lst (ds := kinds1.map kindD) ?lit1 (by decide)) _ _ _ fun l1a ks1 H1 l1 hnl1 el1 dl1 => ?_
  case lit1 =>
    unfold kinds1
    simp only [List.map_cons, List.map_nil]
    repeat (first | exact LitA.nil | exact Lit.int | refine LitA.cons ?_ ?_ | (refine Lit.tup ?_ (by decide)))
  dsimp only [gName]
  refine seq_asg ?_
  refine ⟨_, rfl, ?_⟩
  refine (LitL.lst (ds := kinds2.map kindD) ?lit2 (by decide)) _ _ _ fun l2a ks2 H2 l2 hnl2 el2 dl2 => ?_
  case lit2 =>
    unfold kinds2
    simp only [List.map_cons, List.map_nil]
    repeat (first | exact LitA.nil | exact Lit.int | refine LitA.cons ?_ ?_ | (refine Lit.tup ?_ (by decide)))
  have len1 := dl1.length
  have len2 := dl2.length
  have el12 := l2.rest _ _ (fun z => z) el1
  refine ⟨l1a, l2a, _, _, rfl, rfl, el12, el2, small (by rw [len1, len2]; decide), fun p hp => ?_⟩
  have l3 : Le0 H (upd H2 p (.lst (ks1 ++ ks2))) := (l1.trans l2).trans (Le.new hp _)
  have e3 : upd H2 p (.lst (ks1 ++ ks2)) p = some (.lst (ks1 ++ ks2)) := upd_same
  have d3 : DvA (upd H2 p (.lst (ks1 ++ ks2))) ((kinds1 ++ kinds2).map kindD) (ks1 ++ ks2) := by
    rw [List.map_append]
    exact ((dl1.mono l2.tup).append dl2).mono (Tu.new hp _)
  have hT3 := ht.mono l3 (fun z => z) (Int.le_refl c)
  have pT : p ≠ tp := fun e => by obtain ⟨_, _, _, h, _⟩ := (ht.mono (l1.trans l2) (fun z => z) (Int.le_refl c)).ex; rw [e, h] at hp; cases hp
  generalize upd H2 p (.lst (ks1 ++ ks2)) = H3 at l3 e3 d3 hT3
  dsimp only [gName]
  clear el1 el12 el2 dl1 dl2
  refine ⟨_, rfl, .inl ⟨rfl, _, SqL.of e3⟩, ?_⟩
  refine ⟨_, rfl, tp, 15, _, rfl, hT3, by decide, by decide, by omega, fun j H4 hj0 hj1 l4 hT4 => ⟨_, _, rfl, rfl, z0, fun p0 hp0 => ?_⟩⟩
  have l5 : Le0 H4 (upd H4 p0 (.tup [])) := Le.new hp0 _
  have e5 : upd H4 p0 (.tup []) p0 = some (.tup []) := upd_same
  generalize upd H4 p0 (.tup []) = H5 at l5 e5
  refine ⟨_, rfl, tp, 2, _, rfl, hT4.mono l5 (fun z => z) (Int.le_refl _), by decide, by decide, by omega, fun sj H6 hs0 hs1 l6 hT6 => ⟨z2, fun p3 hp3 => ?_⟩⟩
  have l7 : Le0 H6 (upd H6 p3 (.tup [.ref p0, .int sj])) := Le.new hp3 _
  have d7 : Dv (upd H6 p3 (.tup [.ref p0, .int sj])) (kindD ([], sj)) (.ref p3) := Dv.mk hp3 (.cons (Dv.tup (l6.tup _ _ e5) .nil) (.cons Dv.int .nil))
  generalize upd H6 p3 (.tup [.ref p0, .int sj]) = H7 at l7 d7
  have LL7 : Le (atT tp) H H7 := (l3.any.trans l4).trans ((l5.any.trans l6).trans l7.any)
  have e7 : H7 p = some (.lst (ks1 ++ ks2)) := l7.rest _ _ (fun z => z) (l6.rest _ _ pT (l5.rest _ _ (fun z => z) (l4.rest _ _ pT e3)))
  have lk : (ks1 ++ ks2).length = 8 := by rw [d3.length]; rfl
  refine ⟨p, _, _, _, rfl, rfl, e7, smallL (by rw [lk]; decide), by show 0 ≤ 3 + j; omega, by show 3 + j < 2 ^ 63; omega, ?_⟩
  have hm : (3 + j).toNat ≤ 17 ∧ 3 ≤ (3 + j).toNat := by omega
  dsimp only
  generalize (3 + j).toNat = m at hm
  have d37 := d3.mono (Tu.trans l4.tup (Tu.trans (Tu.trans l5.tup l6.tup) l7.tup))
  have t8 : Tu H7 (upd H7 p (.lst ((ks1 ++ ks2).take m ++ [.ref p3] ++ (ks1 ++ ks2).drop m))) := Tu.upd e7 (fun _ q => nomatch q) _
  have d8 : DvA (upd H7 p (.lst ((ks1 ++ ks2).take m ++ [.ref p3] ++ (ks1 ++ ks2).drop m))) (((kinds1 ++ kinds2).take m ++ [([], sj)] ++ (kinds1 ++ kinds2).drop m).map kindD) ((ks1 ++ ks2).take m ++ [.ref p3] ++ (ks1 ++ ks2).drop m) := by
    rw [List.map_append, List.map_append, List.map_take, List.map_drop]
    exact (((d37.take m).append (.cons d7 .nil)).append (d37.drop m)).mono t8
  have hKs := ks_ok sj hm.2
  have e8 : upd H7 p (.lst ((ks1 ++ ks2).take m ++ [.ref p3] ++ (ks1 ++ ks2).drop m)) p = some (.lst ((ks1 ++ ks2).take m ++ [.ref p3] ++ (ks1 ++ ks2).drop m)) := upd_same
  have hT7 := (hT6.mono l7 (fun z => z) (Int.le_refl _))
  have hT8 : Tape (upd H7 p (.lst ((ks1 ++ ks2).take m ++ [.ref p3] ++ (ks1 ++ ks2).drop m))) tp (c + 2) := by
    obtain ⟨q1, q2, q3, h1, h2, h3⟩ := hT7.ex
    exact ⟨q1, q2, q3, by rw [upd_ne pT.symm]; exact h1, h2, by omega⟩
  have np : H p = none := (l1.trans l2).nil hp
  have LL8 : Le (atT tp) H (upd H7 p (.lst ((ks1 ++ ks2).take m ++ [.ref p3] ++ (ks1 ++ ks2).drop m))) := LL7.chg np _
  generalize (kinds1 ++ kinds2).take m ++ [([], sj)] ++ (kinds1 ++ kinds2).drop m = Ks at d8 hKs
  generalize (ks1 ++ ks2).take m ++ [.ref p3] ++ (ks1 ++ ks2).drop m = ws8 at t8 d8 e8 hT8 LL8
  generalize upd H7 p (.lst ws8) = H8 at t8 d8 e8 hT8 LL8
  clear d37 d7 d3 e7 e3 l7 l6 l5 l4 l3 LL7 hT7 hT6 hT4 hT3 e5 t8 lk len1 len2 hp0 hp3
  refine seq_asg ?_
  refine ⟨_, rfl, tp, 6, _, rfl, hT8, by decide, by decide, by omega, fun km H9 hk0 hk1 l9 hT9 => ⟨_, _, rfl, rfl, ?_⟩⟩
  refine ⟨_, rfl, tp, 12, _, rfl, hT9, by decide, by omega, fun wl ws H10 l10 hnw ew hws hT10 => ⟨z2, fun pr hpr => ?_⟩⟩
  have l11 : Le0 H10 (upd H10 pr (.tup [.int (3 + km), .ref wl])) := Le.new hpr _
  have e11 : upd H10 pr (.tup [.int (3 + km), .ref wl]) pr = some (.tup [.int (3 + km), .ref wl]) := upd_same
  dsimp only
  generalize upd H10 pr (.tup [.int (3 + km), .ref wl]) = H11 at l11 e11
  have LL11 : Le (atT tp) H H11 := ((LL8.trans l9).trans l10).trans l11.any
  have wT : wl ≠ tp := fun e => by obtain ⟨_, _, _, h, _⟩ := hT9.ex; rw [e, h] at hnw; cases hnw
  have ew11 := l11.rest _ _ (fun z => z) ew
  have e811 : H11 p = some (.lst ws8) := l11.rest _ _ (fun z => z) (l10.rest _ _ pT (l9.rest _ _ pT e8))
  have d811 := d8.mono (Tu.trans (Tu.trans l9.tup l10.tup) l11.tup)
  have hT11 := hT10.mono l11 (fun z => z) (Int.le_refl _)
  refine ⟨pr, _, rfl, SqT.of e11, rfl, _, _, rfl, _, _, rfl, rfl, ?_⟩
  have ecut : cutV ws8 none (some (3 + km)) = ws8.take (3 + km).toNat := by
    have h8l : ws8.length = 9 := by rw [d8.length, List.length_map]; exact hKs.len
    unfold cutV
    rw [HT.sIx_none, List.drop_zero, Nat.sub_zero]
    have := HT.sIx_nat ws8.length ws8.length (3 + km).toNat
    rw [show (((3 + km).toNat : Nat) : Int) = 3 + km by omega] at this
    rw [this, Nat.min_eq_left (by omega)]
  refine ⟨_, rfl, _, rfl, _, rfl, p, ws8, rfl, SqL.of e811, fun sl hsl => ?_⟩
  rw [ecut]
  have hmany : (3 + km).toNat ≤ 8 ∧ 3 ≤ (3 + km).toNat := by omega
  generalize (3 + km).toNat = many at hmany
  have l12 : Le0 H11 (upd H11 sl (.lst (ws8.take many))) := Le.new hsl _
  have e12 : upd H11 sl (.lst (ws8.take many)) sl = some (.lst (ws8.take many)) := upd_same
  generalize upd H11 sl (.lst (ws8.take many)) = H12 at l12 e12
  have h8l : ws8.length = 9 := by rw [d8.length, List.length_map]; exact hKs.len
  have htl : (ws8.take many).length = many := by rw [List.length_take]; omega
  refine ⟨sl, _, rfl, SqL.of e12, fun D hD => ?_⟩
  refine lc_map walk_enum ((((ws.zip Ks).take many).map fun p => (p.1, p.2.1, p.2.2)).map formD) hD (smallL (by omega)) (by rw [List.length_map, List.length_map, List.length_take, List.length_zip, hws.len, hKs.len, htl]; omega) (fun H l => SqL.of (l.rest _ _ (fun z => z) e12)) (fun i x dd H13 H14 hi hdi l y k1 hk1 => ?_) fun acc H13 l13 hacc hds => ?_
  · obtain ⟨U, x1, x2, rfl, hU, rfl, f1, f2⟩ := y
    have hi2 : i < many := by omega
    obtain rfl : V.int (i : Nat) = x1 := Option.some.inj f1
    have f2 : (ws8.take many)[i]? = some x2 := f2
    rw [List.getElem?_take, if_pos hi2] at f2
    obtain ⟨kk, ekk⟩ := get_ex (l := Ks) (i := i) (by rw [hKs.len]; omega)
    obtain ⟨wd, ewd⟩ := get_ex (l := ws) (i := i) (by rw [hws.len]; omega)
    have tt13 : Tu H11 H13 := Tu.trans l12.tup l.tup
    obtain ⟨d', ed', hd'⟩ := (d811.mono tt13).get' f2
    rw [List.getElem?_map, ekk] at ed'
    obtain rfl := Option.some.inj ed'
    have l14 : Le0 H13 (upd H13 U (.tup [.int (i : Nat), x2])) := Le.new hU _
    have eU : upd H13 U (.tup [.int (i : Nat), x2]) U = some (.tup [.int (i : Nat), x2]) := upd_same
    generalize upd H13 U (.tup [.int (i : Nat), x2]) = H14 at l14 eU
    obtain ⟨ka, u1, u2, rfl, hka, hu1, hu2⟩ := dv_two.mp (hd'.mono l14.tup)
    rw [dv_int] at hu2; subst hu2
    have ew14 : H14 wl = some (.lst (ws.map V.str)) := (l12.trans (l.trans l14)).rest _ _ (fun z => z) ew11
    refine ⟨U, _, rfl, SqT.of eU, rfl, _, _, rfl, _, _, rfl, rfl, rfl, ?_⟩
    refine ⟨_, rfl, _, rfl, wl, _, (i : Int), .str wd, rfl, rfl, SqL.of ew14, atI_nat (by rw [List.getElem?_map, ewd]; rfl), z1, fun p1 hp1 => ?_⟩
    have l15 : Le0 H14 (upd H14 p1 (.tup [.str wd])) := Le.new hp1 _
    have e15 : upd H14 p1 (.tup [.str wd]) p1 = some (.tup [.str wd]) := upd_same
    generalize upd H14 p1 (.tup [.str wd]) = H15 at l15 e15
    refine ⟨_, rfl, p1, ka, _, _, rfl, rfl, SqT.of e15, SqT.of (l15.tup _ _ hka), (fun z => nomatch z), small (by show 3 ≤ 100000; decide), (fun z => nomatch z), fun _ p2 hp2 => ?_⟩
    refine hk1 _ _ ((l14.trans l15).trans (Le.new hp2 _)) ?_
    have : dd = formD (wd, kk.1, kk.2) := by
      rw [List.getElem?_map, List.getElem?_map, List.getElem?_take, if_pos hi2] at hdi
      have ez : (ws.zip Ks)[i]? = some (wd, kk) := by rw [List.getElem?_zip_eq_some]; exact ⟨ewd, ekk⟩
      rw [ez] at hdi
      exact (Option.some.inj hdi).symm
    rw [this]
    exact Dv.mk hp2 (.cons Dv.str (.cons (hu1.mono l15.tup) (.cons Dv.int .nil)))
  have LL13 : Le (atT tp) H H13 := LL11.trans (l12.trans l13).any
  have hT13 := hT11.mono (l12.trans l13) (fun z => z) (Int.le_refl _)
  have ew13 := (l12.trans l13).rest _ _ (fun z => z) ew11
  have wlen := hws.len
  generalize hFs : ((ws.zip Ks).take many).map (fun p => (p.1, p.2.1, p.2.2)) = Fs at hds
  dsimp only [gName]
  refine seq_asg ?_
  refine ⟨z0, fun D2 hD2 => ?_⟩
  have l14 : Le0 H13 (upd H13 D2 (.lst [])) := Le.new hD2 _
  have e14 : upd H13 D2 (.lst []) D2 = some (.lst []) := upd_same
  have tD2 : tp ≠ D2 := fun e => by obtain ⟨_, _, _, h, _⟩ := hT13.ex; rw [e, hD2] at h; cases h
  have DD2 : D ≠ D2 := ne_of_none hacc hD2
  have wD2 : wl ≠ D2 := ne_of_none ew13 hD2
  have hT14 := hT13.mono l14 (fun z => z) (Int.le_refl _)
  generalize upd H13 D2 (.lst []) = H14 at l14 e14 hT14
  dsimp only [gName]
  refine ⟨_, rfl, tp, 4, _, rfl, hT14, by decide, by decide, by omega, fun hm0 H15 hh0 hh1 l15 hT15 => ⟨_, _, rfl, rfl, _, rfl, by show _ ≤ 1 + hm0; omega, by show 1 + hm0 < _; omega, ?_⟩⟩
  have TD2 : ∀ {H' : Hp} {c' : Int}, Tape H' tp c' → ∀ {q : Addr}, H' q = none → tp ≠ q := fun h q hq e => by obtain ⟨_, _, _, h', _⟩ := h.ex; rw [e, hq] at h'; cases h'
  have hnum : (1 + hm0).toNat ≤ 4 := by omega
  refine for_it walk_range (fun i σ H' => (∃ x4 x7 x8 x9 x10 : Option V, σ = [some (.ref tp), some (.ref p), some (.ref D), some (.ref D2), x4, some (.int (3 + km)), some (.ref wl), x7, x8, x9, x10]) ∧ Le (fun a => a = tp ∨ a = D2) H14 H' ∧ ∃ (Hs : List (Str × List Int × Int)) (vs : List V), H' D2 = some (.lst vs) ∧ DvA H' (Hs.map holeD) vs ∧ Hs.length = i ∧ HsOk ws Hs ∧ Tape H' tp (c + 100 + 20 * i))
    ⟨⟨none, none, none, none, none, rfl⟩, l15.mono fun a h => .inl h, [], [], l15.rest _ _ tD2.symm e14, .nil, rfl, ⟨fun j r z => by simp at z⟩, hT15.up (by omega)⟩ (fun _ _ _ _ _ => trivial) (fun i y σ H160 H16 hi hP yy => ?_) fun σ H16 hP => ?_
  · obtain ⟨⟨x4, x7, x8, x9, x10, rfl⟩, l16, Hs, vs, e16, hvs, hHl, hHr, hT16⟩ := hP
    obtain ⟨rfl, rfl⟩ := yy
    have hi4 : i < 4 := by omega
    have ew16 : H16 wl = some (.lst (ws.map V.str)) := l16.rest _ _ (fun z => z.elim wT wD2) (l14.rest _ _ (fun z => z) ew13)
    refine ⟨z6, fun u hu => ?_⟩
    have l17 : Le0 H16 (upd H16 u (.lst [.int 0, .int 1, .int 1, .int 2, .int 2, .int 3])) := Le.new hu _
    have e17 : upd H16 u (.lst [.int 0, .int 1, .int 1, .int 2, .int 2, .int 3]) u = some (.lst [.int 0, .int 1, .int 1, .int 2, .int 2, .int 3]) := upd_same
    have uT := TD2 hT16 hu
    have hT17 := hT16.mono l17 (fun z => z) (Int.le_refl _)
    show tCall _ _ _ _ _ (upd H16 u (.lst [.int 0, .int 1, .int 1, .int 2, .int 2, .int 3])) _
    generalize upd H16 u (.lst [.int 0, .int 1, .int 1, .int 2, .int 2, .int 3]) = H17 at l17 e17 hT17
    refine ⟨_, rfl, tp, 6, _, rfl, hT17, by decide, by decide, by omega, fun dk H18 hd0 hd1 l18 hT18 => ?_⟩
    have e18 := l18.rest _ _ uT.symm e17
    have pickn : ∃ n : Nat, n ≤ 3 ∧ atI ([.int 0, .int 1, .int 1, .int 2, .int 2, .int 3] : List V) dk = some (.int (n : Nat)) := by
      have h6 : dk = 0 ∨ dk = 1 ∨ dk = 2 ∨ dk = 3 ∨ dk = 4 ∨ dk = 5 := by omega
      rcases h6 with rfl | rfl | rfl | rfl | rfl | rfl
      · exact ⟨0, by decide, rfl⟩
      · exact ⟨1, by decide, rfl⟩
      · exact ⟨1, by decide, rfl⟩
      · exact ⟨2, by decide, rfl⟩
      · exact ⟨2, by decide, rfl⟩
      · exact ⟨3, by decide, rfl⟩
    obtain ⟨n, hn3, en⟩ := pickn
    refine ⟨u, _, dk, .int (n : Nat), rfl, rfl, SqL.of e18, en, (n : Int), rfl, by omega, by omega, fun D5 hD5 => ?_⟩
    have tD5 := TD2 hT18 hD5
    rw [Int.toNat_natCast]
    refine lc_mapM walk_range (atT tp) (fun j H => Tape H tp (c + 101 + 20 * i + j)) (fun j y H => ∃ z : Int, y = .int z) hD5 (fun a e => by have e : a = tp := e; subst e; obtain ⟨_, _, _, h, _⟩ := hT18.ex; rw [h]; exact fun z => nomatch z) (smallL (by omega)) (fun j H H' ne ⟨p1, p2, p3, h1, h2, h3⟩ => ⟨p1, p2, p3, by rw [ne tp tD5]; exact h1, h2, h3⟩) (fun j y H H' _ h => h)
      (hT18.up (by omega)) (fun _ _ _ _ _ => trivial) (fun j x H190 H19 hj l hTj yy k1 hk1 => ?_) fun acc H19 l19 hacc hal hT19 hzs => ?_
    · obtain ⟨rfl, rfl⟩ := yy
      exact ⟨rfl, _, rfl, tp, 2, _, rfl, hTj, by decide, by decide, by omega, fun z H20 _ _ l20 hT20 => hk1 _ _ l20 (hT20.up (by omega)) ⟨z, rfl⟩⟩
    obtain ⟨ss, ess⟩ : ∃ ss : List Int, acc = ss.map V.int := by
      have gen : ∀ acc : List V, (∀ (j : Nat) y, acc[j]? = some y → ∃ z : Int, y = .int z) → ∃ ss : List Int, acc = ss.map V.int := by
        intro acc
        induction acc with
        | nil => exact fun _ => ⟨[], rfl⟩
        | cons y r ih =>
          intro h
          obtain ⟨z, rfl⟩ := h 0 y rfl
          obtain ⟨ss, rfl⟩ := ih fun j y e => h (j + 1) y (by simpa using e)
          exact ⟨z :: ss, rfl⟩
      exact gen acc hzs
    subst ess
    rw [List.length_map] at hal
    refine ⟨D5, _, rfl, SqL.of hacc, fun o ho => ?_⟩
    have l20 : Le0 H19 (upd H19 o (.tup (ss.map V.int))) := Le.new ho _
    have e20 : Dv (upd H19 o (.tup (ss.map V.int))) (intsD ss) (.ref o) := dv_ints.mpr ⟨o, rfl, upd_same⟩
    have hT20 := hT19.mono l20 (fun z => z) (Int.le_refl _)
    generalize upd H19 o (.tup (ss.map V.int)) = H20 at l20 e20 hT20
    have LL20 : Le (atT tp) H16 H20 := (l17.any.trans l18).trans (l19.trans l20.any)
    have ew20 := LL20.rest _ _ wT ew16
    obtain ⟨wd, ewd⟩ := get_ex (l := ws) (i := 11 - i) (by omega)
    clear hacc e17 e18 hT17 hT18 hT19 l17 l18 l19 l20
    dsimp only [gName]
    refine seq_asg ?_
    refine ⟨_, rfl, _, rfl, _, _, rfl, rfl, wl, _, 11 - (0 + (i : Int)), .str wd, rfl, rfl, SqL.of ew20, ?_, ?_⟩
    · have := atI_nat (xs := ws.map V.str) (j := 11 - i) (v := .str wd) (by rw [List.getElem?_map, ewd]; rfl)
      rw [show ((11 - i : Nat) : Int) = 11 - (0 + (i : Int)) by omega] at this
      exact this
    refine ⟨_, rfl, _, _, rfl, rfl, .inl (by decide), _, rfl, tp, 3, _, rfl, hT20, by decide, by decide, by omega, fun dq H21 hq0 hq1 l21 hT21 => ?_⟩
    obtain ⟨q3, rfl⟩ : ∃ q : Nat, dq = q := ⟨dq.toNat, by omega⟩
    have e3 : 3 * (0 + (i : Int)) + (q3 : Nat) = ((3 * i + q3 : Nat) : Int) := by omega
    refine ⟨_, _, rfl, rfl, _, rfl, ?_, ?_⟩
    · show (3 * (0 + (i : Int)) + (q3 : Nat)).natAbs.log2 < 1920
      rw [e3]; exact nat_log (by omega) (by omega)
    refine ⟨z2, fun u2 hu2 => ?_⟩
    show tOp _ _ _ _ (upd H21 u2 (.lst [.str wd, .str (Str.ofString (toString (3 * (0 + (i : Int)) + (q3 : Nat))))])) _
    rw [e3, show Str.ofString (toString ((3 * i + q3 : Nat) : Int)) = fig (3 * i + q3) from rfl]
    have l22 : Le0 H21 (upd H21 u2 (.lst [.str wd, .str (fig (3 * i + q3))])) := Le.new hu2 _
    have e22 : upd H21 u2 (.lst [.str wd, .str (fig (3 * i + q3))]) u2 = some (.lst [.str wd, .str (fig (3 * i + q3))]) := upd_same
    have u2T := TD2 hT21 hu2
    have hT22 := hT21.mono l22 (fun z => z) (Int.le_refl _)
    generalize upd H21 u2 (.lst [.str wd, .str (fig (3 * i + q3))]) = H22 at l22 e22 hT22
    refine ⟨_, rfl, tp, 8, _, rfl, hT22, by decide, by decide, by omega, fun dz H23 hz0 hz1 l23 hT23 => ?_⟩
    have e23 := l23.rest _ _ u2T.symm e22
    have hdd : dz.fdiv 7 = 0 ∨ dz.fdiv 7 = 1 := by
      rw [Int.fdiv_eq_ediv_of_nonneg _ (by decide)]; omega
    have pick : ∃ b, atI ([.str wd, .str (fig (3 * i + q3))] : List V) (dz.fdiv 7) = some (.str b) ∧ (ws[11 - i]? = some b ∨ ∃ q, q < 3 ∧ b = fig (3 * i + q)) := by
      rcases hdd with e | e
      · rw [e]; exact ⟨wd, at0, .inl ewd⟩
      · rw [e]; exact ⟨_, at1, .inr ⟨q3, by omega, rfl⟩⟩
    obtain ⟨b, eb, hb⟩ := pick
    refine ⟨_, _, rfl, rfl, ⟨by decide, by decide⟩, u2, _, dz.fdiv 7, .str b, rfl, rfl, SqL.of e23, eb, ?_⟩
    dsimp only [gName]
    have LL23 : Le (atT tp) H16 H23 := ((LL20.trans l21).trans l22.any).trans l23
    have e16b := LL23.rest _ _ tD2.symm e16
    refine ⟨_, rfl, .inl ⟨rfl, _, SqL.of e16b⟩, ?_⟩
    refine ⟨_, rfl, _, rfl, _, rfl, tp, 2, _, rfl, hT23, by decide, by decide, by omega, fun s2 H24 hs20 hs21 l24 hT24 => ⟨z3, fun p5 hp5 => ?_⟩⟩
    have l25 : Le0 H24 (upd H24 p5 (.tup [.str b, .ref o, .int s2])) := Le.new hp5 _
    have d25 : Dv (upd H24 p5 (.tup [.str b, .ref o, .int s2])) (holeD (b, ss, s2)) (.ref p5) := Dv.mk hp5 (.cons Dv.str (.cons (e20.mono (Tu.trans l21.tup (Tu.trans l22.tup (Tu.trans l23.tup l24.tup)))) (.cons Dv.int .nil)))
    have hT25 := hT24.mono l25 (fun z => z) (Int.le_refl _)
    generalize upd H24 p5 (.tup [.str b, .ref o, .int s2]) = H25 at l25 d25 hT25
    have LL25 : Le (atT tp) H16 H25 := (LL23.trans l24).trans l25.any
    have e25 := LL25.rest _ _ tD2.symm e16
    have hvl := hvs.length
    rw [List.length_map] at hvl
    refine ⟨D2, vs, _, rfl, rfl, e25, smallL (by omega), ?_⟩
    have t26 : Tu H25 (upd H25 D2 (.lst (vs ++ [.ref p5]))) := Tu.upd e25 (fun _ q => nomatch q) _
    have m25 : Le (fun a => a = tp ∨ a = D2) H14 H25 := l16.trans (LL25.mono fun a h => .inl h)
    refine ⟨⟨_, _, _, _, _, rfl⟩, m25.mut (p := D2) (.inr rfl) (fun xs e => by rw [e25] at e; cases e) _, Hs ++ [(b, ss, s2)], _, upd_same, ?_, ?_, ⟨fun j r er => ?_⟩, ?_⟩
    · rw [List.map_append]
      exact ((hvs.mono LL25.tup).mono t26).append (.cons (d25.mono t26) .nil)
    · rw [List.length_append, hHl]; rfl
    · by_cases hj : j < Hs.length
      · rw [List.getElem?_append_left hj] at er; exact hHr.at_ j r er
      · have hj2 : j = Hs.length := by
          have := (List.getElem?_eq_some_iff.mp er).1
          rw [List.length_append, List.length_singleton] at this; omega
        subst hj2
        rw [List.getElem?_append_right (Nat.le_refl _), Nat.sub_self] at er
        obtain rfl : (b, ss, s2) = r := Option.some.inj er
        rw [hHl]
        exact ⟨hb, by show ss.length ≤ 3; omega, by unfold Bn; show s2 = 0 ∨ s2 = 1; omega⟩
    · obtain ⟨p1, p2, p3, h1, h2, h3⟩ := hT25.ex
      exact ⟨p1, p2, p3, by rw [upd_ne tD2]; exact h1, h2, by omega⟩
  · obtain ⟨⟨x4, x7, x8, x9, x10, rfl⟩, l16, Hs, vs, e16, hvs, hHl, hHr, hT16⟩ := hP
    have hHl4 : Hs.length ≤ 4 := by omega
    have DT : D ≠ tp := fun e => by obtain ⟨_, _, _, h, _⟩ := (hT11.mono l12 (fun z => z) (Int.le_refl _)).ex; rw [← e, hD] at h; cases h
    have tt : Tu H13 H16 := Tu.trans l14.tup l16.tup
    have hacc16 : H16 D = some (.lst acc) := l16.rest _ _ (fun z => z.elim (fun e => DT e) DD2) (l14.rest _ _ (fun z => z) hacc)
    have hds16 := hds.mono tt
    refine ⟨_, rfl, D, acc, _, rfl, SqL.of hacc16, hds16.dp, fun a ha b hb => ?_, .inl fun a ha => ?_, fun a ha => ?_, fun ys1 q1 hp1 hq1 => ?_⟩
    · obtain ⟨x, _, rfl⟩ := List.mem_map.mp ha
      obtain ⟨y, _, rfl⟩ := List.mem_map.mp hb
      exact alike_form x y
    · obtain ⟨x, _, rfl⟩ := List.mem_map.mp ha
      exact ⟨_, _, rfl⟩
    · obtain ⟨x, _, rfl⟩ := List.mem_map.mp ha
      exact Nat.le_trans (depth_formD x) (by decide)
    obtain ⟨Fs', pF, dF⟩ := perm_data hds16 hp1
    have l17 : Le0 H16 (upd H16 q1 (.lst (ys1.map (·.1)))) := Le.new hq1 _
    have e17 : upd H16 q1 (.lst (ys1.map (·.1))) q1 = some (.lst (ys1.map (·.1))) := upd_same
    have e17b := l17.rest _ _ (fun z => z) e16
    have dF17 := dF.mono l17.tup
    generalize upd H16 q1 (.lst (ys1.map (·.1))) = H17 at l17 e17 e17b dF17
    refine ⟨q1, _, rfl, SqL.of e17, fun o1 ho1 => ?_⟩
    have l18 : Le0 H17 (upd H17 o1 (.tup (ys1.map (·.1)))) := Le.new ho1 _
    have d18 : Dv (upd H17 o1 (.tup (ys1.map (·.1)))) (.tuple (Fs'.map formD)) (.ref o1) := Dv.mk ho1 dF17
    have e18b := l18.rest _ _ (fun z => z) e17b
    generalize upd H17 o1 (.tup (ys1.map (·.1))) = H18 at l18 d18 e18b
    have hvs18 := hvs.mono (Tu.trans l17.tup l18.tup)
    refine ⟨_, rfl, D2, vs, _, rfl, SqL.of e18b, hvs18.dp, fun a ha b hb => ?_, .inl fun a ha => ?_, fun a ha => ?_, fun ys2 q2 hp2 hq2 => ?_⟩
    · obtain ⟨x, _, rfl⟩ := List.mem_map.mp ha
      obtain ⟨y, _, rfl⟩ := List.mem_map.mp hb
      exact alike_hole x y
    · obtain ⟨x, _, rfl⟩ := List.mem_map.mp ha
      exact ⟨_, _, rfl⟩
    · obtain ⟨x, _, rfl⟩ := List.mem_map.mp ha
      refine Nat.le_trans (m := 2) (depth_three (n := 1) (by rw [depth_str]; omega) (depth_ints _) (by rw [depth_int]; omega)) (by decide)
    obtain ⟨Hs', pH, dH⟩ := perm_data hvs18 hp2
    have l19 : Le0 H18 (upd H18 q2 (.lst (ys2.map (·.1)))) := Le.new hq2 _
    have e19 : upd H18 q2 (.lst (ys2.map (·.1))) q2 = some (.lst (ys2.map (·.1))) := upd_same
    have dH19 := dH.mono l19.tup
    generalize upd H18 q2 (.lst (ys2.map (·.1))) = H19 at l19 e19 dH19
    refine ⟨q2, _, rfl, SqL.of e19, fun o2 ho2 => ?_⟩
    have l20 : Le0 H19 (upd H19 o2 (.tup (ys2.map (·.1)))) := Le.new ho2 _
    have d20 : Dv (upd H19 o2 (.tup (ys2.map (·.1)))) (.tuple (Hs'.map holeD)) (.ref o2) := Dv.mk ho2 dH19
    generalize upd H19 o2 (.tup (ys2.map (·.1))) = H20 at l20 d20
    refine ⟨z2, fun o3 ho3 => ?_⟩
    have l21 : Le0 H16 (upd H20 o3 (.tup [.ref o1, .ref o2])) := ((l17.trans l18).trans (l19.trans l20)).trans (Le.new ho3 _)
    have hfin : Le (fun a => a = tp ∨ a = D2) H (upd H20 o3 (.tup [.ref o1, .ref o2])) := ((LL13.mono fun a h => .inl h).trans (l14.any.trans l16)).trans l21.any
    have nD2 : H D2 = none := LL13.nil hD2
    refine q _ ⟨Fs', Hs'⟩ _ ⟨hfin.tup, fun a o na ha => hfin.rest a o (fun z => z.elim na fun e => ?_) ha, hfin.dom⟩ (Dv.mk ho3 (.cons (d18.mono (Tu.trans l19.tup l20.tup)) (.cons d20 .nil))) (tg_ok hws hKs ⟨hmany.2, hmany.1⟩ hHr hHl4 hFs pF pH) ((hT16.mono l21 (fun z => z) (Int.le_refl _)).up (by omega))
    rw [e, nD2] at ha; cases ha
end
end Nh
/-! ## NhT -/
set_option maxHeartbeats 4000000
namespace Nh
open PySem PySem.Spec PyProof.Rows L2
/-! ### methods, makers -/
structure Mf (K : PySem.W.Frag) (C : Addr) (m qual : Str) (st : Stmt) (ps : List Str) : Prop where
  ex : ∃ f fd, Cls K C ∧ Meth K C m f ∧ Fun K m qual st f fd ∧ Binds K fd ps []
structure Kf (K : PySem.W.Frag) (mg : Str → Option Value) (C : Addr) (x qual : Str) (st : Stmt) (ps : List Str) : Prop where
  ex : ∃ f fd, Mk K C f ∧ Fun K "__init__" qual st f fd ∧ Binds K fd ps [] ∧ mg x = some (.ref C)
section
variable {P : Program} {w : World} {K : PySem.W.Frag} {mg : Str → Option Value} {base : Heap} {k : Nat} {x m qual : Str} {st : Stmt} {ps : List Str} {sp : Sp} {f C S : Addr} {fd : FuncData}
theorem Mf.cal (D : Mf K C m qual st ps) (h : ∀ f fd, Fun K m qual st f fd → FnOk P w K mg base CX0 k f fd ps sp) : MCal P w K base mg k C m ps sp :=
  let ⟨f, fd, c, a, F, b⟩ := D.ex; ⟨f, fd, c, a, h f fd F, b⟩
theorem Kf.cal (D : Kf K mg C x qual st ps) (h : ∀ f fd, Fun K "__init__" qual st f fd → FnOk P w K mg base CX0 k f fd ps sp) : MkCal P w K base mg k C x ps sp :=
  let ⟨f, fd, c, F, b, g⟩ := D.ex; ⟨f, fd, c, h f fd F, b, g⟩
theorem vac (no : ∀ vs H Q E, ¬ sp vs H Q E) : FnOk P w K mg base CX0 k f fd ps sp :=
  ⟨fun vs H Q E h => absurd h (no vs H Q E), fun A outer s H args us vs Q E _ _ _ _ h => absurd h (no vs H Q E)⟩
/-- where all stand -/
structure Tx (K : PySem.W.Frag) (mg : Str → Option Value) (C S : Addr) : Prop where
  B : Bt mg
  BK : BkK K C
  SK : SrtK K S
  d_straight_within : Df K mg "straight_within" s_straight_within ["term"]
  d_names_of : Df K mg "names_of" s_names_of ["term"]
  d_free_names : Df K mg "free_names" s_free_names ["term"]
  d_all_within : Df K mg "all_within" s_all_within ["term"]
  d_is_bare : Df K mg "is_bare" s_is_bare ["term"]
  d_told_of : Df K mg "told_of" s_told_of ["rows", "word"]
  d_sort_in : Df K mg "sort_in" s_sort_in ["tongue", "scope", "term"]
  d_takes_names : Df K mg "takes_names" s_takes_names ["term"]
  d_is_clear : Df K mg "is_clear" s_is_clear ["term"]
  d_called_by : Df K mg "called_by" s_called_by ["term", "calls", "deep"]
  d_part_called_by : Df K mg "part_called_by" s_part_called_by ["names", "inner", "calls", "deep"]
  d_neat : Df K mg "neat" s_neat ["names", "term"]
  d_figures : Df K mg "figures" s_figures ["many"]
  d_names_taken : Df K mg "names_taken" s_names_taken ["term"]
  d_laid_on : Df K mg "laid_on" s_laid_on ["one", "other", "got"]
  d_rows_got : Df K mg "rows_got" s_rows_got ["got"]
  d_match : Df K mg "match" s_match ["tongue", "scope", "pattern", "term"]
  d_wider : Df K mg "wider" s_wider ["tongue", "scope", "one", "other"]
  d_sorts_of : Df K mg "sorts_of" s_sorts_of ["scope"]
  d_neat_scope : Df K mg "neat_scope" s_neat_scope ["sorts"]
  d_neat_in : Df K mg "neat_in" s_neat_in ["scope", "term"]
  d_l_cell_at : Df K mg "_law_cell_at" s_l_cell_at ["_law_script", "_law_k"]
  d_l_tape : Df K mg "_law_tape" s_l_tape ["_law_script", "_law_k"]
  d_l_take : Df K mg "_law_take" s_l_take ["_law_tape_here", "_law_many"]
  d_l_words : Df K mg "_law_words" s_l_words ["_law_tape_here", "_law_many"]
  d_l_tongue : Df K mg "_law_tongue" s_l_tongue ["_law_tape_here"]
  d_l_bound : Df K mg "_law_bound" s_l_bound ["_law_tape_here", "_law_names", "_law_deep"]
  d_l_term : Df K mg "_law_term" s_l_term ["_law_tape_here", "_law_tongue_here", "_law_names", "_law_sort", "_law_deep", "_law_way"]
  d_l_hole : Df K mg "_law_hole" s_l_hole ["_law_tape_here", "_law_tongue_here", "_law_names", "_law_hole_here", "_law_deep", "_law_way"]
  d_l_part : Df K mg "_law_part" s_l_part ["_law_tape_here", "_law_tongue_here", "_law_names", "_law_part_here", "_law_deep", "_law_way"]
  d_l_given : Df K mg "_law_given" s_l_given ["_law_term_here", "_law_names", "_law_rows_here", "_law_level"]
  d_l_neat : Df K mg "_law_neat" s_l_neat ["_law_names", "_law_term_here"]
  d_l_free : Df K mg "_law_free" s_l_free ["_law_term_here", "_law_bound_here"]
  d_l_rows : Df K mg "_law_rows" s_l_rows ["_law_tape_here", "_law_tongue_here", "_law_deep", "_law_way"]
  d_l_made : Df K mg "_law_made" s_l_made ["_law_term_here", "_law_rows_here"]
  d_l_laid : Df K mg "_law_laid" s_l_laid ["_law_pattern", "_law_term_here", "_law_rows_here"]
  d_l_scope_of : Df K mg "_law_scope_of" s_l_scope_of ["_law_tape_here", "_law_sorts"]
  d_l_in_scope : Df K mg "_law_in_scope" s_l_in_scope ["_law_scope_here", "_law_term_here"]
  d_l_size : Df K mg "_law_size" s_l_size ["_law_term_here"]
  d_l_entry : Df K mg "_law_entry" s_l_entry ["_law_tape_here", "_law_tongue_here", "_law_own"]
  d_l_put : Df K mg "_law_put" s_l_put ["_law_tape_here", "_law_tongue_here", "_law_book", "_law_own"]
  d_l_deed : Df K mg "_law_deed" s_l_deed ["_law_tape_here", "_law_tongue_here", "_law_book", "_law_own"]
  d_l_question : Df K mg "_law_question" s_l_question ["_law_tape_here", "_law_tongue_here", "_law_own"]
  d_l_fits : Df K mg "_law_fits" s_l_fits ["_law_entry_here", "_law_sorts", "_law_sort", "_law_term_here"]
  d_l_fitting : Df K mg "_law_fitting" s_l_fitting ["_law_own", "_law_question_here"]
  d_l_stands : Df K mg "_law_stands" s_l_stands ["_law_tape_here", "_law_tongue_here", "_law_book", "_law_own"]
  d_l_anew_right : Df K mg "_law_anew_right" s_l_anew_right ["_law_tape_here", "_law_tongue_here", "_law_book", "_law_own"]
  d_l_emptied_right : Df K mg "_law_emptied_right" s_l_emptied_right ["_law_tape_here", "_law_tongue_here", "_law_book", "_law_own"]
  d_law : Df K mg "law" s_law ["_law_script"]
  k_sorter : Kf K mg S "Sorter" "Sorter.__init__" s_sorter___init__ ["self", "tongue"]
  m_sort_of : Mf K S "sort_of" "Sorter.sort_of" s_sorter_sort_of ["self", "known", "term"]
  m_sort_of_hole : Mf K S "sort_of_hole" "Sorter.sort_of_hole" s_sorter_sort_of_hole ["self", "known", "term"]
  m_sort_of_form : Mf K S "sort_of_form" "Sorter.sort_of_form" s_sorter_sort_of_form ["self", "known", "term"]
  k_book : Kf K mg C "Book" "Book.__init__" s_book___init__ ["self", "tongue"]
  m_put : Mf K C "put" "Book.put" s_book_put ["self", "word", "scope", "term"]
  m_entry : Mf K C "entry" "Book.entry" s_book_entry ["self", "number"]
  m_drop : Mf K C "drop" "Book.drop" s_book_drop ["self", "number"]
  m_word_of : Mf K C "word_of" "Book.word_of" s_book_word_of ["self", "number"]
  m_rows_for : Mf K C "rows_for" "Book.rows_for" s_book_rows_for ["self", "number", "scope", "term"]
  m_fitting : Mf K C "fitting" "Book.fitting" s_book_fitting ["self", "scope", "term"]
  m_is_wider : Mf K C "is_wider" "Book.is_wider" s_book_is_wider ["self", "number", "other"]
  m_is_narrower : Mf K C "is_narrower" "Book.is_narrower" s_book_is_narrower ["self", "number", "other"]
  m_narrowest : Mf K C "narrowest" "Book.narrowest" s_book_narrowest ["self", "scope", "term"]
  m_rows_of : Mf K C "rows_of" "Book.rows_of" s_book_rows_of ["self", "number", "scope", "term"]
  m_same_entries : Mf K C "same_entries" "Book.same_entries" s_book_same_entries ["self"]
theorem cal_names_of (D : Df K mg "names_of" s_names_of ["term"]) (B : Bt mg) (cw : Cal P w K mg base 1 "straight_within" ["term"] spWithin) : ∀ n : Nat, Cal P w K mg base (n + 1) "names_of" ["term"] (spNamesOf n)
  | 0 => D.cal fun f fd F => vac fun vs H Q E h => by obtain ⟨v, t, _, _, h, _⟩ := h; have := dp_pos t; omega
  | n + 1 => D.cal fun f fd F => ok_names_of F B cw (cal_names_of D B cw n)
theorem cal_laid_on (D : Df K mg "laid_on" s_laid_on ["one", "other", "got"]) (B : Bt mg) (c1 : Cal P w K mg base 1 "names_taken" ["term"] spNamesTaken) (c2 : Cal P w K mg base 18 "free_names" ["term"] (spFreeNames 16)) (c3 : Cal P w K mg base 33 "neat" ["names", "term"] (spNeat 16)) : ∀ n : Nat, Cal P w K mg base (33 + n) "laid_on" ["one", "other", "got"] (spLaid n)
  | 0 => D.cal fun f fd F => vac fun vs H Q E h => by obtain ⟨v1, v2, g, p, t, lv, G, kvs, _, _, _, _, _, h, _⟩ := h; have := dp_pos p; have := h.dp1; omega
  | n + 1 => D.cal fun f fd F => ok_laid F B c1 c2 c3 (cal_laid_on D B c1 c2 c3 n)
theorem cal_is_clear (D : Df K mg "is_clear" s_is_clear ["term"]) (B : Bt mg) (c1 : Cal P w K mg base 1 "takes_names" ["term"] spTakes) : ∀ n : Nat, Cal P w K mg base (n + 1) "is_clear" ["term"] (spClear n)
  | 0 => D.cal fun f fd F => vac fun vs H Q E h => by obtain ⟨v, t, _, _, _, h, _⟩ := h; have := dp_pos t; omega
  | n + 1 => D.cal fun f fd F => ok_is_clear F B c1 (cal_is_clear D B c1 n)
theorem cal_l_given (D : Df K mg "_law_given" s_l_given ["_law_term_here", "_law_names", "_law_rows_here", "_law_level"]) (B : Bt mg) : ∀ n : Nat, Cal P w K mg base (n + 1) "_law_given" ["_law_term_here", "_law_names", "_law_rows_here", "_law_level"] (spGiven n)
  | 0 => D.cal fun f fd F => vac fun vs H Q E h => by obtain ⟨v, nm, rw, t, kvs, rvs, ν, ρ, b, lv, _, _, _, _, _, _, _, _, h, _⟩ := h; have := dp_pos t; omega
  | n + 1 => D.cal fun f fd F => ok_l_given F B (cal_l_given D B n)
theorem cal_l_free (D : Df K mg "_law_free" s_l_free ["_law_term_here", "_law_bound_here"]) (B : Bt mg) : ∀ n : Nat, Cal P w K mg base (n + 1) "_law_free" ["_law_term_here", "_law_bound_here"] (spFree n)
  | 0 => D.cal fun f fd F => vac fun vs H Q E h => by obtain ⟨v, b, t, bs, _, _, _, h, _⟩ := h; have := dp_pos t; omega
  | n + 1 => D.cal fun f fd F => ok_l_free F B (cal_l_free D B n)
theorem cal_l_laid (D : Df K mg "_law_laid" s_l_laid ["_law_pattern", "_law_term_here", "_law_rows_here"]) (B : Bt mg) (c1 : Cal P w K mg base 17 "_law_free" ["_law_term_here", "_law_bound_here"] (spFree 16)) (c2 : Cal P w K mg base 18 "_law_neat" ["_law_names", "_law_term_here"] (spLNeat K)) : ∀ n : Nat, Cal P w K mg base (18 + n) "_law_laid" ["_law_pattern", "_law_term_here", "_law_rows_here"] (spLaid n)
  | 0 => D.cal fun f fd F => vac fun vs H Q E h => by obtain ⟨v1, v2, g, p, t, lv, G, kvs, _, _, _, _, _, h, _⟩ := h; have := dp_pos p; have := h.dp1; omega
  | n + 1 => D.cal fun f fd F => ok_l_laid F B c1 c2 (cal_l_laid D B c1 c2 n)
theorem cal_l_size (D : Df K mg "_law_size" s_l_size ["_law_term_here"]) (B : Bt mg) : ∀ n : Nat, Cal P w K mg base (n) "_law_size" ["_law_term_here"] (spSize n)
  | 0 => D.cal fun f fd F => vac fun vs H Q E h => by obtain ⟨v, t, _, _, h, _⟩ := h; have := dp_pos t; omega
  | n + 1 => D.cal fun f fd F => ok_l_size F B (cal_l_size D B n)
theorem cal_l_term (D1 : Df K mg "_law_term" s_l_term ["_law_tape_here", "_law_tongue_here", "_law_names", "_law_sort", "_law_deep", "_law_way"]) (D2 : Df K mg "_law_part" s_l_part ["_law_tape_here", "_law_tongue_here", "_law_names", "_law_part_here", "_law_deep", "_law_way"]) (B : Bt mg) (c1 : Cal P w K mg base 1 "_law_take" ["_law_tape_here", "_law_many"] spTake) (c2 : Cal P w K mg base 2 "_law_hole" ["_law_tape_here", "_law_tongue_here", "_law_names", "_law_hole_here", "_law_deep", "_law_way"] spHole) (c3 : Cal P w K mg base 2 "_law_bound" ["_law_tape_here", "_law_names", "_law_deep"] spBound) : ∀ n : Nat, Cal P w K mg base (2 * n + 3) "_law_term" ["_law_tape_here", "_law_tongue_here", "_law_names", "_law_sort", "_law_deep", "_law_way"] (spTerm n) ∧ Cal P w K mg base (2 * n + 4) "_law_part" ["_law_tape_here", "_law_tongue_here", "_law_names", "_law_part_here", "_law_deep", "_law_way"] (spPart n)
  | 0 => by
    have c0 : Cal P w K mg base (2 * 0 + 3) "_law_term" ["_law_tape_here", "_law_tongue_here", "_law_names", "_law_sort", "_law_deep", "_law_way"] (spTerm 0) := D1.cal fun f fd F => vac fun vs H Q E h => by obtain ⟨tp, nm, tg, s, d, way, c, T, kvs, ks, Γ, _, _, _, _, _, _, _, _, _, h, _⟩ := h; omega
    exact ⟨c0, D2.cal fun f fd F => ok_l_part F B c3 c0⟩
  | n + 1 => by
    obtain ⟨a, b⟩ := cal_l_term D1 D2 B c1 c2 c3 n
    have c : Cal P w K mg base (2 * (n + 1) + 3) "_law_term" ["_law_tape_here", "_law_tongue_here", "_law_names", "_law_sort", "_law_deep", "_law_way"] (spTerm (n + 1)) := D1.cal fun f fd F => ok_l_term F B c1 c2 b
    exact ⟨c, D2.cal fun f fd F => ok_l_part F B c3 c⟩
theorem cal_sort (D1 : Mf K S "sort_of" "Sorter.sort_of" s_sorter_sort_of ["self", "known", "term"]) (D2 : Mf K S "sort_of_hole" "Sorter.sort_of_hole" s_sorter_sort_of_hole ["self", "known", "term"]) (D3 : Mf K S "sort_of_form" "Sorter.sort_of_form" s_sorter_sort_of_form ["self", "known", "term"]) (B : Bt mg) (SK : SrtK K S) (c1 : Cal P w K mg base 1 "told_of" ["rows", "word"] spTold) : ∀ n : Nat, MCal P w K base mg (2 * n + 1) S "sort_of" ["self", "known", "term"] (spSort S n)
  | 0 => D1.cal fun f fd F => none_sort
  | n + 1 => by
    have c := cal_sort D1 D2 D3 B SK c1 n
    exact D1.cal fun f fd F => ok_sort_of F B (D2.cal fun f fd F => ok_sort_of_hole F B SK c1 c) (D3.cal fun f fd F => ok_sort_of_form F B SK c1 c)
theorem law_fn (T : Tx K mg C S) (F : Fun K "law" "law" s_law f fd) : FnOk P w K mg base CX0 56 f fd ["_law_script"] (spLaw K) := by
  have B := T.B
  have c_figures : Cal P w K mg base 1 "figures" ["many"] spFigures := T.d_figures.cal fun f fd F => ok_figures F B 
  have c_names_taken : Cal P w K mg base 1 "names_taken" ["term"] spNamesTaken := T.d_names_taken.cal fun f fd F => ok_names_taken F B 
  have c_called_by : Cal P w K mg base 32 "called_by" ["term", "calls", "deep"] (spCB 16) := (cal_called T.d_called_by T.d_part_called_by B 16).1
  have c_straight_within : Cal P w K mg base 1 "straight_within" ["term"] spWithin := T.d_straight_within.cal fun f fd F => ok_within F B 
  have c_names_of : Cal P w K mg base 17 "names_of" ["term"] (spNamesOf 16) := cal_names_of T.d_names_of B c_straight_within 16
  have c_free_names : Cal P w K mg base 18 "free_names" ["term"] (spFreeNames 16) := T.d_free_names.cal fun f fd F => ok_free_names (n := 16) F B c_names_of
  have c_neat : Cal P w K mg base 33 "neat" ["names", "term"] (spNeat 16) := T.d_neat.cal fun f fd F => ok_neat (n := 16) F B c_called_by
  have c_laid_on : Cal P w K mg base 49 "laid_on" ["one", "other", "got"] (spLaid 16) := cal_laid_on T.d_laid_on B c_names_taken c_free_names c_neat 16
  have c_rows_got : Cal P w K mg base 2 "rows_got" ["got"] spRowsGot := T.d_rows_got.cal fun f fd F => ok_rows_got F B c_figures
  have c_match : Cal P w K mg base 50 "match" ["tongue", "scope", "pattern", "term"] spMatch := T.d_match.cal fun f fd F => ok_match F B c_neat c_laid_on c_rows_got
  have c_wider : Cal P w K mg base 51 "wider" ["tongue", "scope", "one", "other"] spWider := T.d_wider.cal fun f fd F => ok_wider F B c_match
  have c_sorts_of : Cal P w K mg base 1 "sorts_of" ["scope"] spSortsOf := T.d_sorts_of.cal fun f fd F => ok_sorts_of F B 
  have c_neat_scope : Cal P w K mg base 1 "neat_scope" ["sorts"] spNeatScope := T.d_neat_scope.cal fun f fd F => ok_neat_scope F B 
  have c_neat_in : Cal P w K mg base 34 "neat_in" ["scope", "term"] spNeatIn := T.d_neat_in.cal fun f fd F => ok_neat_in F B c_neat
  have c_told_of : Cal P w K mg base 1 "told_of" ["rows", "word"] spTold := T.d_told_of.cal fun f fd F => ok_told_of F B 
  have c_all_within : Cal P w K mg base 2 "all_within" ["term"] spAllWithin := T.d_all_within.cal fun f fd F => ok_all_within F B c_straight_within
  have c_is_bare : Cal P w K mg base 3 "is_bare" ["term"] spBare := T.d_is_bare.cal fun f fd F => ok_is_bare F B c_all_within
  have c_takes_names : Cal P w K mg base 1 "takes_names" ["term"] spTakes := T.d_takes_names.cal fun f fd F => ok_takes_names F B 
  have c_is_clear : Cal P w K mg base 17 "is_clear" ["term"] (spClear 16) := cal_is_clear T.d_is_clear B c_takes_names 16
  have k_sorter : MkCal P w K base mg 1 S "Sorter" ["self", "tongue"] (spSrtInit S) := T.k_sorter.cal fun f fd F => ok_srt_init F B T.SK
  have m_sort_of : MCal P w K base mg 33 S "sort_of" ["self", "known", "term"] (spSort S 16) := cal_sort T.m_sort_of T.m_sort_of_hole T.m_sort_of_form B T.SK c_told_of 16
  have c_sort_in : Cal P w K mg base 34 "sort_in" ["tongue", "scope", "term"] spSortIn := T.d_sort_in.cal fun f fd F => ok_sort_in F B k_sorter m_sort_of
  have k_book : MkCal P w K base mg 1 C "Book" ["self", "tongue"] (spBkInit C) := T.k_book.cal fun f fd F => ok_bk_init F B T.BK
  have m_entry : MCal P w K base mg 1 C "entry" ["self", "number"] (spEntry C) := T.m_entry.cal fun f fd F => ok_entry F B T.BK
  have m_drop : MCal P w K base mg 2 C "drop" ["self", "number"] (spDrop C) := T.m_drop.cal fun f fd F => ok_drop F B T.BK m_entry
  have m_word_of : MCal P w K base mg 2 C "word_of" ["self", "number"] (spWord C) := T.m_word_of.cal fun f fd F => ok_word_of F B T.BK m_entry
  have m_put : MCal P w K base mg 35 C "put" ["self", "word", "scope", "term"] (spPut C) := T.m_put.cal fun f fd F => ok_put F B T.BK c_sort_in c_is_bare c_is_clear c_sorts_of c_neat_in
  have m_rows_for : MCal P w K base mg 51 C "rows_for" ["self", "number", "scope", "term"] (spRowsFor C) := T.m_rows_for.cal fun f fd F => ok_rows_for F B T.BK c_sort_in c_sorts_of c_neat_in c_neat_scope c_match
  have m_fitting : MCal P w K base mg 52 C "fitting" ["self", "scope", "term"] (spFitting C) := T.m_fitting.cal fun f fd F => ok_fitting F B T.BK m_rows_for
  have m_is_wider : MCal P w K base mg 52 C "is_wider" ["self", "number", "other"] (spWide C) := T.m_is_wider.cal fun f fd F => ok_is_wider F B T.BK c_neat_scope c_wider
  have m_is_narrower : MCal P w K base mg 53 C "is_narrower" ["self", "number", "other"] (spNarrow C) := T.m_is_narrower.cal fun f fd F => ok_is_narrower F B T.BK m_is_wider
  have m_rows_of : MCal P w K base mg 52 C "rows_of" ["self", "number", "scope", "term"] (spRowsOf C) := T.m_rows_of.cal fun f fd F => ok_rows_of F B T.BK m_entry m_rows_for
  have m_narrowest : MCal P w K base mg 54 C "narrowest" ["self", "scope", "term"] (spNarrowest C) := T.m_narrowest.cal fun f fd F => ok_narrowest F B T.BK m_fitting m_is_narrower
  have m_same_entries : MCal P w K base mg 53 C "same_entries" ["self"] (spSame C) := T.m_same_entries.cal fun f fd F => ok_same F B T.BK m_is_wider
  have c_l_cell_at : Cal P w K mg base 1 "_law_cell_at" ["_law_script", "_law_k"] (spCell K) := T.d_l_cell_at.cal fun f fd F => ok_l_cell_at F B 
  have c_l_tape : Cal P w K mg base 2 "_law_tape" ["_law_script", "_law_k"] (spTape K) := T.d_l_tape.cal fun f fd F => ok_l_tape F B c_l_cell_at
  have c_l_take : Cal P w K mg base 1 "_law_take" ["_law_tape_here", "_law_many"] spTake := T.d_l_take.cal fun f fd F => ok_l_take F B 
  have c_l_words : Cal P w K mg base 2 "_law_words" ["_law_tape_here", "_law_many"] spWords := T.d_l_words.cal fun f fd F => ok_l_words F B c_l_take
  have c_l_tongue : Cal P w K mg base 3 "_law_tongue" ["_law_tape_here"] spTongue := T.d_l_tongue.cal fun f fd F => ok_l_tongue F B c_l_take c_l_words
  have c_l_bound : Cal P w K mg base 2 "_law_bound" ["_law_tape_here", "_law_names", "_law_deep"] spBound := T.d_l_bound.cal fun f fd F => ok_l_bound F B c_l_take
  have c_l_hole : Cal P w K mg base 2 "_law_hole" ["_law_tape_here", "_law_tongue_here", "_law_names", "_law_hole_here", "_law_deep", "_law_way"] spHole := T.d_l_hole.cal fun f fd F => ok_l_hole F B c_l_take
  have c_l_term : Cal P w K mg base 9 "_law_term" ["_law_tape_here", "_law_tongue_here", "_law_names", "_law_sort", "_law_deep", "_law_way"] (spTerm 3) := (cal_l_term T.d_l_term T.d_l_part B c_l_take c_l_hole c_l_bound 3).1
  have c_l_given : Cal P w K mg base 17 "_law_given" ["_law_term_here", "_law_names", "_law_rows_here", "_law_level"] (spGiven 16) := cal_l_given T.d_l_given B 16
  have c_l_neat : Cal P w K mg base 18 "_law_neat" ["_law_names", "_law_term_here"] (spLNeat K) := T.d_l_neat.cal fun f fd F => ok_l_neat F B c_l_given
  have c_l_in_scope : Cal P w K mg base 18 "_law_in_scope" ["_law_scope_here", "_law_term_here"] spInScope := T.d_l_in_scope.cal fun f fd F => ok_l_in_scope F B c_l_given
  have c_l_made : Cal P w K mg base 18 "_law_made" ["_law_term_here", "_law_rows_here"] spMade := T.d_l_made.cal fun f fd F => ok_l_made F B c_l_given
  have c_l_scope_of : Cal P w K mg base 3 "_law_scope_of" ["_law_tape_here", "_law_sorts"] spScopeOf := T.d_l_scope_of.cal fun f fd F => ok_l_scope_of F B c_l_take c_l_words
  have c_l_rows : Cal P w K mg base 19 "_law_rows" ["_law_tape_here", "_law_tongue_here", "_law_deep", "_law_way"] spRows := T.d_l_rows.cal fun f fd F => ok_l_rows F B c_l_take c_l_term c_l_neat
  have c_l_free : Cal P w K mg base 17 "_law_free" ["_law_term_here", "_law_bound_here"] (spFree 16) := cal_l_free T.d_l_free B 16
  have c_l_laid : Cal P w K mg base 34 "_law_laid" ["_law_pattern", "_law_term_here", "_law_rows_here"] (spLaid 16) := cal_l_laid T.d_l_laid B c_l_free c_l_neat 16
  have c_l_size : Cal P w K mg base 16 "_law_size" ["_law_term_here"] (spSize 16) := cal_l_size T.d_l_size B 16
  have c_l_fits : Cal P w K mg base 35 "_law_fits" ["_law_entry_here", "_law_sorts", "_law_sort", "_law_term_here"] spFits := T.d_l_fits.cal fun f fd F => ok_l_fits F B c_l_laid
  have c_l_entry : Cal P w K mg base 20 "_law_entry" ["_law_tape_here", "_law_tongue_here", "_law_own"] spEntryL := T.d_l_entry.cal fun f fd F => ok_l_entry F B c_l_take c_l_term c_l_neat c_l_made c_l_rows c_l_size
  have c_l_question : Cal P w K mg base 20 "_law_question" ["_law_tape_here", "_law_tongue_here", "_law_own"] spQuestion := T.d_l_question.cal fun f fd F => ok_l_question F B c_l_take c_l_term c_l_neat c_l_made c_l_rows c_l_scope_of c_l_in_scope
  have c_l_fitting : Cal P w K mg base 36 "_law_fitting" ["_law_own", "_law_question_here"] spLFit := T.d_l_fitting.cal fun f fd F => ok_l_fitting F B c_l_fits
  have c_l_put : Cal P w K mg base 36 "_law_put" ["_law_tape_here", "_law_tongue_here", "_law_book", "_law_own"] (spLPut C) := T.d_l_put.cal fun f fd F => ok_l_put F B c_l_entry c_l_scope_of c_l_in_scope m_put
  have c_l_deed : Cal P w K mg base 37 "_law_deed" ["_law_tape_here", "_law_tongue_here", "_law_book", "_law_own"] (spLDeed C) := T.d_l_deed.cal fun f fd F => ok_l_deed F B c_l_take c_l_put m_drop
  have c_l_stands : Cal P w K mg base 54 "_law_stands" ["_law_tape_here", "_law_tongue_here", "_law_book", "_law_own"] (spStands C) := T.d_l_stands.cal fun f fd F => ok_l_stands F B c_l_question c_l_fitting m_word_of m_fitting m_same_entries
  have c_l_emptied_right : Cal P w K mg base 55 "_law_emptied_right" ["_law_tape_here", "_law_tongue_here", "_law_book", "_law_own"] (spEmptied C) := T.d_l_emptied_right.cal fun f fd F => ok_l_emptied_right F B c_l_take c_l_stands m_drop m_same_entries
  have c_l_anew_right : Cal P w K mg base 55 "_law_anew_right" ["_law_tape_here", "_law_tongue_here", "_law_book", "_law_own"] (spAnew C) := T.d_l_anew_right.cal fun f fd F => ok_l_anew_right F B c_l_question c_l_scope_of c_l_in_scope k_book m_put m_fitting m_narrowest m_rows_of m_same_entries
  exact ok_law F B c_l_take c_l_tape c_l_tongue k_book c_l_deed c_l_stands c_l_anew_right c_l_emptied_right
end
end Nh
set_option maxHeartbeats 0
namespace Nh
open PySem PySem.Spec PyProof.Rows L2
section
variable {P : Program} {w : World} {K : PySem.W.Frag} {h : Heap} {mg : Str → Option Value}
abbrev LkD (K : PySem.W.Frag) (d : He.FnD) : Prop := ∃ oc od osl kV doc pm an cdv ct, K.lookup (He.fAd K d.at_) = some ⟨oc, od, .func (PySem.W.fnOf d.name d.qual d.params d.body d.scope .none kV doc pm an cdv ct), osl⟩ ∧ PySem.W.codeIn K cdv d.qual = true
abbrev BdD (x qual : Str) (st : Stmt) (ps : List Str) : Prop := ∀ (kV doc pm : Value) (an : Option Addr) (cdv ct : Value) (us : List Value), us.length = ps.length → bindArgs (PySem.W.fnOf x qual (defArgs st) (defBody st) (defScope st) .none kV doc pm an cdv ct) ⟨us, []⟩ = pure (ps.zip us)
theorem df_mk (X : K.In h) (G : h.Ns mainGlobals mg) {x : Str} {st : Stmt} {ps : List Str} (a : (He.Fa.glo x).ok K = true) (b : (He.Fa.keep x).ok K = true) (l : LkD K ⟨(x, none), x, x, defArgs st, defBody st, defScope st⟩) (hb : BdD x x st ps) : Df K mg x st ps := by
  obtain ⟨oc, od, osl, kV, doc, pm, an, cdv, ct, lk, cd⟩ := l
  have F := fun_mk (st := st) lk cd b
  exact ⟨_, _, F, F.binds hb, He.glo_ok X G a⟩
theorem mf_mk {c m qual : Str} {st : Stmt} {ps : List Str} (a : (He.Fa.cls c).ok K = true) (b : (He.Fa.meth c m).ok K = true) (l : LkD K ⟨(c, some m), m, qual, defArgs st, defBody st, defScope st⟩) (hb : BdD m qual st ps) : Mf K (He.ga K c) m qual st ps := by
  obtain ⟨oc, od, osl, kV, doc, pm, an, cdv, ct, lk, cd⟩ := l
  have q := He.meth_ok b
  obtain ⟨q1, q2, q3⟩ := id q
  have F := fun_mk (st := st) lk cd q3
  exact ⟨_, _, He.cls_ok a, q, F, F.binds hb⟩
theorem kf_mk (X : K.In h) (G : h.Ns mainGlobals mg) {c qual : Str} {st : Stmt} {ps : List Str} (a : (He.Fa.mkr c).ok K = true) (b : (He.Fa.meth c "__init__").ok K = true) (g : (He.Fa.glo c).ok K = true) (l : LkD K ⟨(c, some "__init__"), "__init__", qual, defArgs st, defBody st, defScope st⟩) (hb : BdD "__init__" qual st ps) : Kf K mg (He.ga K c) c qual st ps := by
  obtain ⟨oc, od, osl, kV, doc, pm, an, cdv, ct, lk, cd⟩ := l
  obtain ⟨q1, q2, q3⟩ := He.meth_ok b
  have F := fun_mk (st := st) lk cd q3
  exact ⟨_, _, He.mkr_ok a, F, F.binds hb, He.glo_ok X G g⟩
theorem tx_mk (X : K.In h) (G : h.Ns mainGlobals mg) (c : He.SaysE fa fn K) : Tx K mg (He.ga K "Book") (He.ga K "Sorter") := by
  have B : Bt mg := ⟨He.free_ok X G (c.fact 98 (f := .free "len") rfl), He.free_ok X G (c.fact 99 (f := .free "sorted") rfl), He.free_ok X G (c.fact 100 (f := .free "all") rfl), He.free_ok X G (c.fact 101 (f := .free "any") rfl), He.free_ok X G (c.fact 102 (f := .free "max") rfl), He.free_ok X G (c.fact 103 (f := .free "min") rfl), He.free_ok X G (c.fact 104 (f := .free "sum") rfl), He.free_ok X G (c.fact 105 (f := .free "abs") rfl), He.free_ok X G (c.fact 106 (f := .free "tuple") rfl), He.free_ok X G (c.fact 107 (f := .free "list") rfl), He.free_ok X G (c.fact 108 (f := .free "dict") rfl), He.free_ok X G (c.fact 109 (f := .free "str") rfl), He.free_ok X G (c.fact 110 (f := .free "int") rfl), He.free_ok X G (c.fact 111 (f := .free "set") rfl), He.free_ok X G (c.fact 112 (f := .free "range") rfl), He.free_ok X G (c.fact 113 (f := .free "zip") rfl), He.free_ok X G (c.fact 114 (f := .free "enumerate") rfl)⟩
  have BK : BkK K (He.ga K "Book") := ⟨He.cls_ok (c.fact 121 (f := .cls "Book") rfl), He.noat_ok (c.fact 123 (f := .noat "Book" "tongue") rfl), He.noat_ok (c.fact 124 (f := .noat "Book" "entries") rfl), He.noat_ok (c.fact 125 (f := .noat "Book" "next_number") rfl)⟩
  have SK : SrtK K (He.ga K "Sorter") := ⟨He.cls_ok (c.fact 116 (f := .cls "Sorter") rfl), He.noat_ok (c.fact 118 (f := .noat "Sorter" "forms") rfl), He.noat_ok (c.fact 119 (f := .noat "Sorter" "holes") rfl)⟩
  have d_straight_within : Df K mg "straight_within" s_straight_within ["term"] := df_mk X G (c.fact 0 (f := .glo "straight_within") rfl) (c.fact 49 (f := .keep "straight_within") rfl) (c.def_ 0 (d := dn_straight_within) rfl) (fun _ _ _ _ _ _ us hl => match us, hl with | [_], _ => rfl)
  have d_names_of : Df K mg "names_of" s_names_of ["term"] := df_mk X G (c.fact 1 (f := .glo "names_of") rfl) (c.fact 50 (f := .keep "names_of") rfl) (c.def_ 1 (d := dn_names_of) rfl) (fun _ _ _ _ _ _ us hl => match us, hl with | [_], _ => rfl)
  have d_free_names : Df K mg "free_names" s_free_names ["term"] := df_mk X G (c.fact 2 (f := .glo "free_names") rfl) (c.fact 51 (f := .keep "free_names") rfl) (c.def_ 2 (d := dn_free_names) rfl) (fun _ _ _ _ _ _ us hl => match us, hl with | [_], _ => rfl)
  have d_all_within : Df K mg "all_within" s_all_within ["term"] := df_mk X G (c.fact 3 (f := .glo "all_within") rfl) (c.fact 52 (f := .keep "all_within") rfl) (c.def_ 3 (d := dn_all_within) rfl) (fun _ _ _ _ _ _ us hl => match us, hl with | [_], _ => rfl)
  have d_is_bare : Df K mg "is_bare" s_is_bare ["term"] := df_mk X G (c.fact 4 (f := .glo "is_bare") rfl) (c.fact 53 (f := .keep "is_bare") rfl) (c.def_ 4 (d := dn_is_bare) rfl) (fun _ _ _ _ _ _ us hl => match us, hl with | [_], _ => rfl)
  have d_told_of : Df K mg "told_of" s_told_of ["rows", "word"] := df_mk X G (c.fact 5 (f := .glo "told_of") rfl) (c.fact 54 (f := .keep "told_of") rfl) (c.def_ 5 (d := dn_told_of) rfl) (fun _ _ _ _ _ _ us hl => match us, hl with | [_, _], _ => rfl)
  have d_sort_in : Df K mg "sort_in" s_sort_in ["tongue", "scope", "term"] := df_mk X G (c.fact 6 (f := .glo "sort_in") rfl) (c.fact 55 (f := .keep "sort_in") rfl) (c.def_ 6 (d := dn_sort_in) rfl) (fun _ _ _ _ _ _ us hl => match us, hl with | [_, _, _], _ => rfl)
  have d_takes_names : Df K mg "takes_names" s_takes_names ["term"] := df_mk X G (c.fact 7 (f := .glo "takes_names") rfl) (c.fact 56 (f := .keep "takes_names") rfl) (c.def_ 7 (d := dn_takes_names) rfl) (fun _ _ _ _ _ _ us hl => match us, hl with | [_], _ => rfl)
  have d_is_clear : Df K mg "is_clear" s_is_clear ["term"] := df_mk X G (c.fact 8 (f := .glo "is_clear") rfl) (c.fact 57 (f := .keep "is_clear") rfl) (c.def_ 8 (d := dn_is_clear) rfl) (fun _ _ _ _ _ _ us hl => match us, hl with | [_], _ => rfl)
  have d_called_by : Df K mg "called_by" s_called_by ["term", "calls", "deep"] := df_mk X G (c.fact 9 (f := .glo "called_by") rfl) (c.fact 58 (f := .keep "called_by") rfl) (c.def_ 9 (d := dn_called_by) rfl) (fun _ _ _ _ _ _ us hl => match us, hl with | [_, _, _], _ => rfl)
  have d_part_called_by : Df K mg "part_called_by" s_part_called_by ["names", "inner", "calls", "deep"] := df_mk X G (c.fact 10 (f := .glo "part_called_by") rfl) (c.fact 59 (f := .keep "part_called_by") rfl) (c.def_ 10 (d := dn_part_called_by) rfl) (fun _ _ _ _ _ _ us hl => match us, hl with | [_, _, _, _], _ => rfl)
  have d_neat : Df K mg "neat" s_neat ["names", "term"] := df_mk X G (c.fact 11 (f := .glo "neat") rfl) (c.fact 60 (f := .keep "neat") rfl) (c.def_ 11 (d := dn_neat) rfl) (fun _ _ _ _ _ _ us hl => match us, hl with | [_, _], _ => rfl)
  have d_figures : Df K mg "figures" s_figures ["many"] := df_mk X G (c.fact 12 (f := .glo "figures") rfl) (c.fact 61 (f := .keep "figures") rfl) (c.def_ 12 (d := dn_figures) rfl) (fun _ _ _ _ _ _ us hl => match us, hl with | [_], _ => rfl)
  have d_names_taken : Df K mg "names_taken" s_names_taken ["term"] := df_mk X G (c.fact 13 (f := .glo "names_taken") rfl) (c.fact 62 (f := .keep "names_taken") rfl) (c.def_ 13 (d := dn_names_taken) rfl) (fun _ _ _ _ _ _ us hl => match us, hl with | [_], _ => rfl)
  have d_laid_on : Df K mg "laid_on" s_laid_on ["one", "other", "got"] := df_mk X G (c.fact 14 (f := .glo "laid_on") rfl) (c.fact 63 (f := .keep "laid_on") rfl) (c.def_ 14 (d := dn_laid_on) rfl) (fun _ _ _ _ _ _ us hl => match us, hl with | [_, _, _], _ => rfl)
  have d_rows_got : Df K mg "rows_got" s_rows_got ["got"] := df_mk X G (c.fact 15 (f := .glo "rows_got") rfl) (c.fact 64 (f := .keep "rows_got") rfl) (c.def_ 15 (d := dn_rows_got) rfl) (fun _ _ _ _ _ _ us hl => match us, hl with | [_], _ => rfl)
  have d_match : Df K mg "match" s_match ["tongue", "scope", "pattern", "term"] := df_mk X G (c.fact 16 (f := .glo "match") rfl) (c.fact 65 (f := .keep "match") rfl) (c.def_ 16 (d := dn_match) rfl) (fun _ _ _ _ _ _ us hl => match us, hl with | [_, _, _, _], _ => rfl)
  have d_wider : Df K mg "wider" s_wider ["tongue", "scope", "one", "other"] := df_mk X G (c.fact 17 (f := .glo "wider") rfl) (c.fact 66 (f := .keep "wider") rfl) (c.def_ 17 (d := dn_wider) rfl) (fun _ _ _ _ _ _ us hl => match us, hl with | [_, _, _, _], _ => rfl)
  have d_sorts_of : Df K mg "sorts_of" s_sorts_of ["scope"] := df_mk X G (c.fact 18 (f := .glo "sorts_of") rfl) (c.fact 67 (f := .keep "sorts_of") rfl) (c.def_ 18 (d := dn_sorts_of) rfl) (fun _ _ _ _ _ _ us hl => match us, hl with | [_], _ => rfl)
  have d_neat_scope : Df K mg "neat_scope" s_neat_scope ["sorts"] := df_mk X G (c.fact 19 (f := .glo "neat_scope") rfl) (c.fact 68 (f := .keep "neat_scope") rfl) (c.def_ 19 (d := dn_neat_scope) rfl) (fun _ _ _ _ _ _ us hl => match us, hl with | [_], _ => rfl)
  have d_neat_in : Df K mg "neat_in" s_neat_in ["scope", "term"] := df_mk X G (c.fact 20 (f := .glo "neat_in") rfl) (c.fact 69 (f := .keep "neat_in") rfl) (c.def_ 20 (d := dn_neat_in) rfl) (fun _ _ _ _ _ _ us hl => match us, hl with | [_, _], _ => rfl)
  have d_l_cell_at : Df K mg "_law_cell_at" s_l_cell_at ["_law_script", "_law_k"] := df_mk X G (c.fact 21 (f := .glo "_law_cell_at") rfl) (c.fact 70 (f := .keep "_law_cell_at") rfl) (c.def_ 21 (d := dn_l_cell_at) rfl) (fun _ _ _ _ _ _ us hl => match us, hl with | [_, _], _ => rfl)
  have d_l_tape : Df K mg "_law_tape" s_l_tape ["_law_script", "_law_k"] := df_mk X G (c.fact 22 (f := .glo "_law_tape") rfl) (c.fact 71 (f := .keep "_law_tape") rfl) (c.def_ 22 (d := dn_l_tape) rfl) (fun _ _ _ _ _ _ us hl => match us, hl with | [_, _], _ => rfl)
  have d_l_take : Df K mg "_law_take" s_l_take ["_law_tape_here", "_law_many"] := df_mk X G (c.fact 23 (f := .glo "_law_take") rfl) (c.fact 72 (f := .keep "_law_take") rfl) (c.def_ 23 (d := dn_l_take) rfl) (fun _ _ _ _ _ _ us hl => match us, hl with | [_, _], _ => rfl)
  have d_l_words : Df K mg "_law_words" s_l_words ["_law_tape_here", "_law_many"] := df_mk X G (c.fact 24 (f := .glo "_law_words") rfl) (c.fact 73 (f := .keep "_law_words") rfl) (c.def_ 24 (d := dn_l_words) rfl) (fun _ _ _ _ _ _ us hl => match us, hl with | [_, _], _ => rfl)
  have d_l_tongue : Df K mg "_law_tongue" s_l_tongue ["_law_tape_here"] := df_mk X G (c.fact 25 (f := .glo "_law_tongue") rfl) (c.fact 74 (f := .keep "_law_tongue") rfl) (c.def_ 25 (d := dn_l_tongue) rfl) (fun _ _ _ _ _ _ us hl => match us, hl with | [_], _ => rfl)
  have d_l_bound : Df K mg "_law_bound" s_l_bound ["_law_tape_here", "_law_names", "_law_deep"] := df_mk X G (c.fact 26 (f := .glo "_law_bound") rfl) (c.fact 75 (f := .keep "_law_bound") rfl) (c.def_ 26 (d := dn_l_bound) rfl) (fun _ _ _ _ _ _ us hl => match us, hl with | [_, _, _], _ => rfl)
  have d_l_term : Df K mg "_law_term" s_l_term ["_law_tape_here", "_law_tongue_here", "_law_names", "_law_sort", "_law_deep", "_law_way"] := df_mk X G (c.fact 27 (f := .glo "_law_term") rfl) (c.fact 76 (f := .keep "_law_term") rfl) (c.def_ 27 (d := dn_l_term) rfl) (fun _ _ _ _ _ _ us hl => match us, hl with | [_, _, _, _, _, _], _ => rfl)
  have d_l_hole : Df K mg "_law_hole" s_l_hole ["_law_tape_here", "_law_tongue_here", "_law_names", "_law_hole_here", "_law_deep", "_law_way"] := df_mk X G (c.fact 28 (f := .glo "_law_hole") rfl) (c.fact 77 (f := .keep "_law_hole") rfl) (c.def_ 28 (d := dn_l_hole) rfl) (fun _ _ _ _ _ _ us hl => match us, hl with | [_, _, _, _, _, _], _ => rfl)
  have d_l_part : Df K mg "_law_part" s_l_part ["_law_tape_here", "_law_tongue_here", "_law_names", "_law_part_here", "_law_deep", "_law_way"] := df_mk X G (c.fact 29 (f := .glo "_law_part") rfl) (c.fact 78 (f := .keep "_law_part") rfl) (c.def_ 29 (d := dn_l_part) rfl) (fun _ _ _ _ _ _ us hl => match us, hl with | [_, _, _, _, _, _], _ => rfl)
  have d_l_given : Df K mg "_law_given" s_l_given ["_law_term_here", "_law_names", "_law_rows_here", "_law_level"] := df_mk X G (c.fact 30 (f := .glo "_law_given") rfl) (c.fact 79 (f := .keep "_law_given") rfl) (c.def_ 30 (d := dn_l_given) rfl) (fun _ _ _ _ _ _ us hl => match us, hl with | [_, _, _, _], _ => rfl)
  have d_l_neat : Df K mg "_law_neat" s_l_neat ["_law_names", "_law_term_here"] := df_mk X G (c.fact 31 (f := .glo "_law_neat") rfl) (c.fact 80 (f := .keep "_law_neat") rfl) (c.def_ 31 (d := dn_l_neat) rfl) (fun _ _ _ _ _ _ us hl => match us, hl with | [_, _], _ => rfl)
  have d_l_free : Df K mg "_law_free" s_l_free ["_law_term_here", "_law_bound_here"] := df_mk X G (c.fact 32 (f := .glo "_law_free") rfl) (c.fact 81 (f := .keep "_law_free") rfl) (c.def_ 32 (d := dn_l_free) rfl) (fun _ _ _ _ _ _ us hl => match us, hl with | [_, _], _ => rfl)
  have d_l_rows : Df K mg "_law_rows" s_l_rows ["_law_tape_here", "_law_tongue_here", "_law_deep", "_law_way"] := df_mk X G (c.fact 33 (f := .glo "_law_rows") rfl) (c.fact 82 (f := .keep "_law_rows") rfl) (c.def_ 33 (d := dn_l_rows) rfl) (fun _ _ _ _ _ _ us hl => match us, hl with | [_, _, _, _], _ => rfl)
  have d_l_made : Df K mg "_law_made" s_l_made ["_law_term_here", "_law_rows_here"] := df_mk X G (c.fact 34 (f := .glo "_law_made") rfl) (c.fact 83 (f := .keep "_law_made") rfl) (c.def_ 34 (d := dn_l_made) rfl) (fun _ _ _ _ _ _ us hl => match us, hl with | [_, _], _ => rfl)
  have d_l_laid : Df K mg "_law_laid" s_l_laid ["_law_pattern", "_law_term_here", "_law_rows_here"] := df_mk X G (c.fact 35 (f := .glo "_law_laid") rfl) (c.fact 84 (f := .keep "_law_laid") rfl) (c.def_ 35 (d := dn_l_laid) rfl) (fun _ _ _ _ _ _ us hl => match us, hl with | [_, _, _], _ => rfl)
  have d_l_scope_of : Df K mg "_law_scope_of" s_l_scope_of ["_law_tape_here", "_law_sorts"] := df_mk X G (c.fact 36 (f := .glo "_law_scope_of") rfl) (c.fact 85 (f := .keep "_law_scope_of") rfl) (c.def_ 36 (d := dn_l_scope_of) rfl) (fun _ _ _ _ _ _ us hl => match us, hl with | [_, _], _ => rfl)
  have d_l_in_scope : Df K mg "_law_in_scope" s_l_in_scope ["_law_scope_here", "_law_term_here"] := df_mk X G (c.fact 37 (f := .glo "_law_in_scope") rfl) (c.fact 86 (f := .keep "_law_in_scope") rfl) (c.def_ 37 (d := dn_l_in_scope) rfl) (fun _ _ _ _ _ _ us hl => match us, hl with | [_, _], _ => rfl)
  have d_l_size : Df K mg "_law_size" s_l_size ["_law_term_here"] := df_mk X G (c.fact 38 (f := .glo "_law_size") rfl) (c.fact 87 (f := .keep "_law_size") rfl) (c.def_ 38 (d := dn_l_size) rfl) (fun _ _ _ _ _ _ us hl => match us, hl with | [_], _ => rfl)
  have d_l_entry : Df K mg "_law_entry" s_l_entry ["_law_tape_here", "_law_tongue_here", "_law_own"] := df_mk X G (c.fact 39 (f := .glo "_law_entry") rfl) (c.fact 88 (f := .keep "_law_entry") rfl) (c.def_ 39 (d := dn_l_entry) rfl) (fun _ _ _ _ _ _ us hl => match us, hl with | [_, _, _], _ => rfl)
  have d_l_put : Df K mg "_law_put" s_l_put ["_law_tape_here", "_law_tongue_here", "_law_book", "_law_own"] := df_mk X G (c.fact 40 (f := .glo "_law_put") rfl) (c.fact 89 (f := .keep "_law_put") rfl) (c.def_ 40 (d := dn_l_put) rfl) (fun _ _ _ _ _ _ us hl => match us, hl with | [_, _, _, _], _ => rfl)
  have d_l_deed : Df K mg "_law_deed" s_l_deed ["_law_tape_here", "_law_tongue_here", "_law_book", "_law_own"] := df_mk X G (c.fact 41 (f := .glo "_law_deed") rfl) (c.fact 90 (f := .keep "_law_deed") rfl) (c.def_ 41 (d := dn_l_deed) rfl) (fun _ _ _ _ _ _ us hl => match us, hl with | [_, _, _, _], _ => rfl)
  have d_l_question : Df K mg "_law_question" s_l_question ["_law_tape_here", "_law_tongue_here", "_law_own"] := df_mk X G (c.fact 42 (f := .glo "_law_question") rfl) (c.fact 91 (f := .keep "_law_question") rfl) (c.def_ 42 (d := dn_l_question) rfl) (fun _ _ _ _ _ _ us hl => match us, hl with | [_, _, _], _ => rfl)
  have d_l_fits : Df K mg "_law_fits" s_l_fits ["_law_entry_here", "_law_sorts", "_law_sort", "_law_term_here"] := df_mk X G (c.fact 43 (f := .glo "_law_fits") rfl) (c.fact 92 (f := .keep "_law_fits") rfl) (c.def_ 43 (d := dn_l_fits) rfl) (fun _ _ _ _ _ _ us hl => match us, hl with | [_, _, _, _], _ => rfl)
  have d_l_fitting : Df K mg "_law_fitting" s_l_fitting ["_law_own", "_law_question_here"] := df_mk X G (c.fact 44 (f := .glo "_law_fitting") rfl) (c.fact 93 (f := .keep "_law_fitting") rfl) (c.def_ 44 (d := dn_l_fitting) rfl) (fun _ _ _ _ _ _ us hl => match us, hl with | [_, _], _ => rfl)
  have d_l_stands : Df K mg "_law_stands" s_l_stands ["_law_tape_here", "_law_tongue_here", "_law_book", "_law_own"] := df_mk X G (c.fact 45 (f := .glo "_law_stands") rfl) (c.fact 94 (f := .keep "_law_stands") rfl) (c.def_ 45 (d := dn_l_stands) rfl) (fun _ _ _ _ _ _ us hl => match us, hl with | [_, _, _, _], _ => rfl)
  have d_l_anew_right : Df K mg "_law_anew_right" s_l_anew_right ["_law_tape_here", "_law_tongue_here", "_law_book", "_law_own"] := df_mk X G (c.fact 46 (f := .glo "_law_anew_right") rfl) (c.fact 95 (f := .keep "_law_anew_right") rfl) (c.def_ 46 (d := dn_l_anew_right) rfl) (fun _ _ _ _ _ _ us hl => match us, hl with | [_, _, _, _], _ => rfl)
  have d_l_emptied_right : Df K mg "_law_emptied_right" s_l_emptied_right ["_law_tape_here", "_law_tongue_here", "_law_book", "_law_own"] := df_mk X G (c.fact 47 (f := .glo "_law_emptied_right") rfl) (c.fact 96 (f := .keep "_law_emptied_right") rfl) (c.def_ 47 (d := dn_l_emptied_right) rfl) (fun _ _ _ _ _ _ us hl => match us, hl with | [_, _, _, _], _ => rfl)
  have d_law : Df K mg "law" s_law ["_law_script"] := df_mk X G (c.fact 48 (f := .glo "law") rfl) (c.fact 97 (f := .keep "law") rfl) (c.def_ 48 (d := dn_law) rfl) (fun _ _ _ _ _ _ us hl => match us, hl with | [_], _ => rfl)
  have k_sorter : Kf K mg (He.ga K "Sorter") "Sorter" "Sorter.__init__" s_sorter___init__ ["self", "tongue"] := kf_mk X G (c.fact 117 (f := .mkr "Sorter") rfl) (c.fact 126 (f := .meth "Sorter" "__init__") rfl) (c.fact 115 (f := .glo "Sorter") rfl) (c.def_ 49 (d := dn_sorter___init__) rfl) (fun _ _ _ _ _ _ us hl => match us, hl with | [_, _], _ => rfl)
  have m_sort_of : Mf K (He.ga K "Sorter") "sort_of" "Sorter.sort_of" s_sorter_sort_of ["self", "known", "term"] := mf_mk (c.fact 116 (f := .cls "Sorter") rfl) (c.fact 127 (f := .meth "Sorter" "sort_of") rfl) (c.def_ 50 (d := dn_sorter_sort_of) rfl) (fun _ _ _ _ _ _ us hl => match us, hl with | [_, _, _], _ => rfl)
  have m_sort_of_hole : Mf K (He.ga K "Sorter") "sort_of_hole" "Sorter.sort_of_hole" s_sorter_sort_of_hole ["self", "known", "term"] := mf_mk (c.fact 116 (f := .cls "Sorter") rfl) (c.fact 128 (f := .meth "Sorter" "sort_of_hole") rfl) (c.def_ 51 (d := dn_sorter_sort_of_hole) rfl) (fun _ _ _ _ _ _ us hl => match us, hl with | [_, _, _], _ => rfl)
  have m_sort_of_form : Mf K (He.ga K "Sorter") "sort_of_form" "Sorter.sort_of_form" s_sorter_sort_of_form ["self", "known", "term"] := mf_mk (c.fact 116 (f := .cls "Sorter") rfl) (c.fact 129 (f := .meth "Sorter" "sort_of_form") rfl) (c.def_ 52 (d := dn_sorter_sort_of_form) rfl) (fun _ _ _ _ _ _ us hl => match us, hl with | [_, _, _], _ => rfl)
  have k_book : Kf K mg (He.ga K "Book") "Book" "Book.__init__" s_book___init__ ["self", "tongue"] := kf_mk X G (c.fact 122 (f := .mkr "Book") rfl) (c.fact 130 (f := .meth "Book" "__init__") rfl) (c.fact 120 (f := .glo "Book") rfl) (c.def_ 53 (d := dn_book___init__) rfl) (fun _ _ _ _ _ _ us hl => match us, hl with | [_, _], _ => rfl)
  have m_put : Mf K (He.ga K "Book") "put" "Book.put" s_book_put ["self", "word", "scope", "term"] := mf_mk (c.fact 121 (f := .cls "Book") rfl) (c.fact 131 (f := .meth "Book" "put") rfl) (c.def_ 54 (d := dn_book_put) rfl) (fun _ _ _ _ _ _ us hl => match us, hl with | [_, _, _, _], _ => rfl)
  have m_entry : Mf K (He.ga K "Book") "entry" "Book.entry" s_book_entry ["self", "number"] := mf_mk (c.fact 121 (f := .cls "Book") rfl) (c.fact 132 (f := .meth "Book" "entry") rfl) (c.def_ 55 (d := dn_book_entry) rfl) (fun _ _ _ _ _ _ us hl => match us, hl with | [_, _], _ => rfl)
  have m_drop : Mf K (He.ga K "Book") "drop" "Book.drop" s_book_drop ["self", "number"] := mf_mk (c.fact 121 (f := .cls "Book") rfl) (c.fact 133 (f := .meth "Book" "drop") rfl) (c.def_ 56 (d := dn_book_drop) rfl) (fun _ _ _ _ _ _ us hl => match us, hl with | [_, _], _ => rfl)
  have m_word_of : Mf K (He.ga K "Book") "word_of" "Book.word_of" s_book_word_of ["self", "number"] := mf_mk (c.fact 121 (f := .cls "Book") rfl) (c.fact 134 (f := .meth "Book" "word_of") rfl) (c.def_ 57 (d := dn_book_word_of) rfl) (fun _ _ _ _ _ _ us hl => match us, hl with | [_, _], _ => rfl)
  have m_rows_for : Mf K (He.ga K "Book") "rows_for" "Book.rows_for" s_book_rows_for ["self", "number", "scope", "term"] := mf_mk (c.fact 121 (f := .cls "Book") rfl) (c.fact 135 (f := .meth "Book" "rows_for") rfl) (c.def_ 58 (d := dn_book_rows_for) rfl) (fun _ _ _ _ _ _ us hl => match us, hl with | [_, _, _, _], _ => rfl)
  have m_fitting : Mf K (He.ga K "Book") "fitting" "Book.fitting" s_book_fitting ["self", "scope", "term"] := mf_mk (c.fact 121 (f := .cls "Book") rfl) (c.fact 136 (f := .meth "Book" "fitting") rfl) (c.def_ 59 (d := dn_book_fitting) rfl) (fun _ _ _ _ _ _ us hl => match us, hl with | [_, _, _], _ => rfl)
  have m_is_wider : Mf K (He.ga K "Book") "is_wider" "Book.is_wider" s_book_is_wider ["self", "number", "other"] := mf_mk (c.fact 121 (f := .cls "Book") rfl) (c.fact 137 (f := .meth "Book" "is_wider") rfl) (c.def_ 60 (d := dn_book_is_wider) rfl) (fun _ _ _ _ _ _ us hl => match us, hl with | [_, _, _], _ => rfl)
  have m_is_narrower : Mf K (He.ga K "Book") "is_narrower" "Book.is_narrower" s_book_is_narrower ["self", "number", "other"] := mf_mk (c.fact 121 (f := .cls "Book") rfl) (c.fact 138 (f := .meth "Book" "is_narrower") rfl) (c.def_ 61 (d := dn_book_is_narrower) rfl) (fun _ _ _ _ _ _ us hl => match us, hl with | [_, _, _], _ => rfl)
  have m_narrowest : Mf K (He.ga K "Book") "narrowest" "Book.narrowest" s_book_narrowest ["self", "scope", "term"] := mf_mk (c.fact 121 (f := .cls "Book") rfl) (c.fact 139 (f := .meth "Book" "narrowest") rfl) (c.def_ 62 (d := dn_book_narrowest) rfl) (fun _ _ _ _ _ _ us hl => match us, hl with | [_, _, _], _ => rfl)
  have m_rows_of : Mf K (He.ga K "Book") "rows_of" "Book.rows_of" s_book_rows_of ["self", "number", "scope", "term"] := mf_mk (c.fact 121 (f := .cls "Book") rfl) (c.fact 140 (f := .meth "Book" "rows_of") rfl) (c.def_ 63 (d := dn_book_rows_of) rfl) (fun _ _ _ _ _ _ us hl => match us, hl with | [_, _, _, _], _ => rfl)
  have m_same_entries : Mf K (He.ga K "Book") "same_entries" "Book.same_entries" s_book_same_entries ["self"] := mf_mk (c.fact 121 (f := .cls "Book") rfl) (c.fact 141 (f := .meth "Book" "same_entries") rfl) (c.def_ 64 (d := dn_book_same_entries) rfl) (fun _ _ _ _ _ _ us hl => match us, hl with | [_], _ => rfl)
  exact ⟨B, BK, SK, d_straight_within, d_names_of, d_free_names, d_all_within, d_is_bare, d_told_of, d_sort_in, d_takes_names, d_is_clear, d_called_by, d_part_called_by, d_neat, d_figures, d_names_taken, d_laid_on, d_rows_got, d_match, d_wider, d_sorts_of, d_neat_scope, d_neat_in, d_l_cell_at, d_l_tape, d_l_take, d_l_words, d_l_tongue, d_l_bound, d_l_term, d_l_hole, d_l_part, d_l_given, d_l_neat, d_l_free, d_l_rows, d_l_made, d_l_laid, d_l_scope_of, d_l_in_scope, d_l_size, d_l_entry, d_l_put, d_l_deed, d_l_question, d_l_fits, d_l_fitting, d_l_stands, d_l_anew_right, d_l_emptied_right, d_law, k_sorter, m_sort_of, m_sort_of_hole, m_sort_of_form, k_book, m_put, m_entry, m_drop, m_word_of, m_rows_for, m_fitting, m_is_wider, m_is_narrower, m_narrowest, m_rows_of, m_same_entries⟩
theorem facts {f : Addr} (X : K.In h) (G : h.Ns mainGlobals mg) (hfa : mg ("law" : Str) = some (.ref f)) (c : He.SaysE fa fn K) :
    ∃ fd : FuncData, (∀ (s : Shared) (v : Value), BindsTo s fd ⟨[v], []⟩ [("_law_script", v)]) ∧ ∀ base : Heap, K.In base → base.Ns mainGlobals mg → FnOk P w K mg base CX0 56 f fd ["_law_script"] (spLaw K) := by
  have T := tx_mk X G c
  obtain ⟨oc, od, osl, kV, doc, pm, an, cdv, ct, lk, cd⟩ := (c.def_ 48 (d := dn_law) rfl)
  have e := hfa.symm.trans (He.glo_ok X G (c.fact 48 (f := .glo "law") rfl))
  cases e
  have F := fun_mk (st := s_law) lk cd (c.fact 97 (f := .keep "law") rfl)
  exact ⟨_, fun s v => .of_eq rfl, fun base _ _ => law_fn T F⟩
end
end Nh
open PySem PySem.W PySem.Calls PyProof.Rows
set_option maxHeartbeats 0 in
theorem PySem.Challenge.cw_nameholes_k61_whole_two_books_by_turns_holds : PySem.Challenge.rw_nameholes_k61_whole_two_books_by_turns.Holds := by
  w_on; o_law
  refine HandSHeadRun.head_any (r := OpenLaw.row PySem.Challenge.rw_nameholes_k61_whole_two_books_by_turns) (q := view (OpenLaw.row PySem.Challenge.rw_nameholes_k61_whole_two_books_by_turns).prog [67]) (H := Nh.hk) (ob := Nh.ob) (M := 6000) (loose := Nh.loose) (d := HandSHeadRun.topDef (OpenLaw.row PySem.Challenge.rw_nameholes_k61_whole_two_books_by_turns).prog 67) (kwd := []) Nh.ob_eq
    (by kernel_rfl) (fun s => by kernel_rfl) Nh.run (by kernel_rfl) (by kernel_rfl) (by kernel_rfl) (by rfl) (by first | assumption | decide +kernel) (by decide +kernel) ⟨rfl, rfl, rfl, rfl, rfl, by decide +kernel⟩ ?hw ?hc
  case hw => w_witness2
  case hc =>
    refine L2.walk_ofE (l := PySem.Challenge.rw_nameholes_k61_whole_two_books_by_turns) (n := 63) (k := 56) (x := "_law_script") (CX := L2.CX0) rfl (by decide) (by kernel_rfl) ⟨rfl, by decide, by decide⟩ ?F (fun _ _ _ _ z => z)
    intro w mg fa h Y G hmg0
    obtain ⟨K, KX, c⟩ := Y
    have hmg : mg ("law" : PySem.Str) = some (.ref fa) := by
      have e : (HandSHeadRun.topDef (OpenLaw.row PySem.Challenge.rw_nameholes_k61_whole_two_books_by_turns).prog 67).name = ("law" : PySem.Str) := by kernel_rfl
      rw [← e]
      exact hmg0
    obtain ⟨fd, hb, hF⟩ := Nh.facts (P := (PySem.Challenge.rw_nameholes_k61_whole_two_books_by_turns).prog) (w := w) KX G hmg c
    exact ⟨K, fd, Nh.spLaw K, KX, hb, fun H a ns hl _ hS => ⟨a, ns, rfl, fun H' l => l.same.seq hS, fun _ => rfl⟩, hF⟩
