import PyProof.Rows.All
import HandS.ListItems
import Wide.All
import OpenK.AllK
import Wide.FinOn
import KE.KStateDown
import HandS.ForMost
import HandS.Exc
import HandS.ExcInit
import HandS.ExcField
import HandS.TryMany
import HandS.Defaults
import HandS.Lambda
import HandS.EndTab
import HandS.IsInst
import HandS.Codes
import HandS.Star
import HandS.Head0
import HandS.Head1
import HandS.Head2
import HandS.HeadEnd
import HandS.HeadHook1
import HandS.HeadHook2
import HandS.HeadHook3
import HandS.HeadHook4
import HandS.HeadWalk
import PySem.Challenge.RW_primetalks_k47_whole_left_and_faults
import KE.DataMinMax
import HandS.DictComp
import HandS.Conv
import HandS.Zip
import HandS.Style
import HandS.TryOnly
import HandS.ExcOwn
import HandS.WordsExc
import KE.SortData
import KE.GoesEnum
import HandS.DictTup
import KE.KDictKeyed
import HandS.TupLen
import HandS.TupAny
set_option Elab.async false
set_option linter.all false
set_option maxRecDepth 100000
set_option maxHeartbeats 0
namespace T47
open PySem PySem.Spec PyProof.Rows L2
/-! ### the text by places -/
def top (i : Nat) : Stmt := PySem.Challenge.pw_primetalks_k47_whole_left_and_faults.main.body.getD i (.Pass ⟨0, 0, 0, 0⟩)
abbrev s_BadBook_init : Stmt := inClass (top 2) 0
abbrev s_BadLong_init : Stmt := inClass (top 3) 0
abbrev s_BadNumber_init : Stmt := inClass (top 4) 0
abbrev s_BadRow_init : Stmt := inClass (top 5) 0
abbrev s_BadTalks_init : Stmt := inClass (top 6) 0
abbrev s_BadWord_init : Stmt := inClass (top 7) 0
abbrev s_NoEnd_init : Stmt := inClass (top 8) 0
abbrev s_NoTalk_init : Stmt := inClass (top 9) 0
abbrev s_NotFinished_init : Stmt := inClass (top 10) 0
abbrev s_NotSimple_init : Stmt := inClass (top 11) 0
abbrev s_is_list : Stmt := top 17
abbrev s_is_name : Stmt := top 18
abbrev s_is_bare_letter : Stmt := top 19
abbrev s_is_letter : Stmt := top 20
abbrev s_is_row : Stmt := top 21
abbrev s_is_one_of : Stmt := top 22
abbrev s_is_rule : Stmt := top 24
abbrev s_as_rule : Stmt := top 25
abbrev s_is_talk : Stmt := top 26
abbrev s_lacking_in : Stmt := top 27
abbrev s_norms_in : Stmt := top 28
abbrev s_checked_talks : Stmt := top 29
abbrev s_Book_init : Stmt := inClass (top 30) 0
abbrev s_Book_talks : Stmt := inClass (top 30) 1
abbrev s_Book_rules : Stmt := inClass (top 30) 2
abbrev s_Book_eq : Stmt := inClass (top 30) 3
abbrev s_checked_book : Stmt := top 31
abbrev s_checked_row : Stmt := top 32
abbrev s_checked_word : Stmt := top 33
abbrev s_checked_simple : Stmt := top 35
abbrev s_checked_along : Stmt := top 36
abbrev s_left_behind : Stmt := top 37
abbrev s_rows_along : Stmt := top 38
abbrev s_left_in : Stmt := top 39
abbrev s_fault_in : Stmt := top 40
abbrev s_letters_of : Stmt := top 41
abbrev s_left_by : Stmt := top 42
abbrev s_next_letters : Stmt := top 43
abbrev s_letter_fault : Stmt := top 44
abbrev s_is_finished : Stmt := top 45
abbrev s_w_d_names : Stmt := top 47
abbrev s_w_d_made : Stmt := top 48
abbrev s_w_d_row : Stmt := top 49
abbrev s_w_d_norms : Stmt := top 50
abbrev s_w_d_norm : Stmt := top 51
abbrev s_w_d_odd_rows : Stmt := top 52
abbrev s_w_g_book : Stmt := top 53
abbrev s_w_g_letters : Stmt := top 54
abbrev s_w_g_rows : Stmt := top 55
abbrev s_w_g_fault : Stmt := top 56
abbrev s_w_g_rest : Stmt := top 57
abbrev s_w_g_walk : Stmt := top 58
abbrev s_w_g_finished : Stmt := top 59
abbrev s_w_g_bent : Stmt := top 60
abbrev s_w_g_met : Stmt := top 61
abbrev s_w_g_odd_words : Stmt := top 62
abbrev s_w_g_twice : Stmt := top 63
abbrev s_w_g_refused : Stmt := top 64
abbrev s_w_start : Stmt := top 65
abbrev s_w_draw : Stmt := top 66
abbrev s_w_pick : Stmt := top 67
abbrev s_w_mixed : Stmt := top 68
abbrev s_w_same : Stmt := top 69
abbrev s_w_loose : Stmt := top 70
abbrev s_w_word_right : Stmt := top 71
abbrev s_w_held_right : Stmt := top 72
abbrev s_w_refused_right : Stmt := top 73
abbrev s_law : Stmt := top 74
/-! ### the head: facts by names -/
def loose0 : List Str := ["TalkError", "BadBook", "BadLong", "BadNumber", "BadRow", "BadTalks", "BadWord", "NoEnd", "NoTalk", "NotFinished", "NotSimple", "SMALL", "FIGURES", "WORDS", "Made", "is_list", "is_name", "is_bare_letter", "is_letter", "is_row", "is_one_of", "is_rule", "as_rule", "is_talk", "lacking_in", "norms_in", "checked_talks", "Book", "checked_book", "checked_row"]
def loose1 : List Str := ["checked_word", "checked_simple", "checked_along", "left_behind", "rows_along", "left_in", "fault_in", "letters_of", "left_by", "next_letters", "letter_fault", "is_finished", "_law_d_names", "_law_d_made", "_law_d_row", "_law_d_norms", "_law_d_norm", "_law_d_odd_rows", "_law_g_book", "_law_g_letters", "_law_g_rows", "_law_g_fault", "_law_g_rest", "_law_g_walk", "_law_g_finished", "_law_g_bent", "_law_g_met", "_law_g_odd_words", "_law_g_twice", "_law_g_refused"]
def loose2 : List Str := ["_law_start", "_law_draw", "_law_pick", "_law_mixed", "_law_same", "_law_loose", "_law_word_right", "_law_held_right", "_law_refused_right"]
def loose : List Str := loose0 ++ loose1 ++ loose2
def fn1 : List He.DefD := [⟨("BadBook", some "__init__"), "__init__", "BadBook.__init__", defArgs s_BadBook_init, defBody s_BadBook_init, defScope s_BadBook_init, [], []⟩,
  ⟨("BadLong", some "__init__"), "__init__", "BadLong.__init__", defArgs s_BadLong_init, defBody s_BadLong_init, defScope s_BadLong_init, [], []⟩,
  ⟨("BadNumber", some "__init__"), "__init__", "BadNumber.__init__", defArgs s_BadNumber_init, defBody s_BadNumber_init, defScope s_BadNumber_init, [], []⟩,
  ⟨("BadRow", some "__init__"), "__init__", "BadRow.__init__", defArgs s_BadRow_init, defBody s_BadRow_init, defScope s_BadRow_init, [], []⟩,
  ⟨("BadTalks", some "__init__"), "__init__", "BadTalks.__init__", defArgs s_BadTalks_init, defBody s_BadTalks_init, defScope s_BadTalks_init, [], []⟩,
  ⟨("BadWord", some "__init__"), "__init__", "BadWord.__init__", defArgs s_BadWord_init, defBody s_BadWord_init, defScope s_BadWord_init, [], []⟩,
  ⟨("NoEnd", some "__init__"), "__init__", "NoEnd.__init__", defArgs s_NoEnd_init, defBody s_NoEnd_init, defScope s_NoEnd_init, [], []⟩,
  ⟨("NoTalk", some "__init__"), "__init__", "NoTalk.__init__", defArgs s_NoTalk_init, defBody s_NoTalk_init, defScope s_NoTalk_init, [], []⟩,
  ⟨("NotFinished", some "__init__"), "__init__", "NotFinished.__init__", defArgs s_NotFinished_init, defBody s_NotFinished_init, defScope s_NotFinished_init, [], []⟩,
  ⟨("NotSimple", some "__init__"), "__init__", "NotSimple.__init__", defArgs s_NotSimple_init, defBody s_NotSimple_init, defScope s_NotSimple_init, [], []⟩,
  ⟨("is_list", none), "is_list", "is_list", defArgs s_is_list, defBody s_is_list, defScope s_is_list, [], []⟩,
  ⟨("is_name", none), "is_name", "is_name", defArgs s_is_name, defBody s_is_name, defScope s_is_name, [], []⟩,
  ⟨("is_bare_letter", none), "is_bare_letter", "is_bare_letter", defArgs s_is_bare_letter, defBody s_is_bare_letter, defScope s_is_bare_letter, [], []⟩,
  ⟨("is_letter", none), "is_letter", "is_letter", defArgs s_is_letter, defBody s_is_letter, defScope s_is_letter, [], []⟩,
  ⟨("is_row", none), "is_row", "is_row", defArgs s_is_row, defBody s_is_row, defScope s_is_row, [], []⟩,
  ⟨("is_one_of", none), "is_one_of", "is_one_of", defArgs s_is_one_of, defBody s_is_one_of, defScope s_is_one_of, [], []⟩,
  ⟨("is_rule", none), "is_rule", "is_rule", defArgs s_is_rule, defBody s_is_rule, defScope s_is_rule, [], []⟩,
  ⟨("as_rule", none), "as_rule", "as_rule", defArgs s_as_rule, defBody s_as_rule, defScope s_as_rule, [], []⟩,
  ⟨("is_talk", none), "is_talk", "is_talk", defArgs s_is_talk, defBody s_is_talk, defScope s_is_talk, [], []⟩,
  ⟨("lacking_in", none), "lacking_in", "lacking_in", defArgs s_lacking_in, defBody s_lacking_in, defScope s_lacking_in, [], []⟩,
  ⟨("norms_in", none), "norms_in", "norms_in", defArgs s_norms_in, defBody s_norms_in, defScope s_norms_in, [], []⟩,
  ⟨("checked_talks", none), "checked_talks", "checked_talks", defArgs s_checked_talks, defBody s_checked_talks, defScope s_checked_talks, [], []⟩,
  ⟨("Book", some "__init__"), "__init__", "Book.__init__", defArgs s_Book_init, defBody s_Book_init, defScope s_Book_init, [], []⟩,
  ⟨("Book", some "talks"), "talks", "Book.talks", defArgs s_Book_talks, defBody s_Book_talks, defScope s_Book_talks, [], []⟩,
  ⟨("Book", some "rules"), "rules", "Book.rules", defArgs s_Book_rules, defBody s_Book_rules, defScope s_Book_rules, [], []⟩,
  ⟨("Book", some "__eq__"), "__eq__", "Book.__eq__", defArgs s_Book_eq, defBody s_Book_eq, defScope s_Book_eq, [], []⟩,
  ⟨("checked_book", none), "checked_book", "checked_book", defArgs s_checked_book, defBody s_checked_book, defScope s_checked_book, [], []⟩,
  ⟨("checked_row", none), "checked_row", "checked_row", defArgs s_checked_row, defBody s_checked_row, defScope s_checked_row, [], []⟩,
  ⟨("checked_word", none), "checked_word", "checked_word", defArgs s_checked_word, defBody s_checked_word, defScope s_checked_word, [], []⟩,
  ⟨("checked_simple", none), "checked_simple", "checked_simple", defArgs s_checked_simple, defBody s_checked_simple, defScope s_checked_simple, [], []⟩,
  ⟨("checked_along", none), "checked_along", "checked_along", defArgs s_checked_along, defBody s_checked_along, defScope s_checked_along, [], []⟩,
  ⟨("left_behind", none), "left_behind", "left_behind", defArgs s_left_behind, defBody s_left_behind, defScope s_left_behind, [], []⟩,
  ⟨("rows_along", none), "rows_along", "rows_along", defArgs s_rows_along, defBody s_rows_along, defScope s_rows_along, [], []⟩,
  ⟨("left_in", none), "left_in", "left_in", defArgs s_left_in, defBody s_left_in, defScope s_left_in, [], []⟩]
def fn2 : List He.DefD := [⟨("fault_in", none), "fault_in", "fault_in", defArgs s_fault_in, defBody s_fault_in, defScope s_fault_in, [], []⟩,
  ⟨("letters_of", none), "letters_of", "letters_of", defArgs s_letters_of, defBody s_letters_of, defScope s_letters_of, [], []⟩,
  ⟨("left_by", none), "left_by", "left_by", defArgs s_left_by, defBody s_left_by, defScope s_left_by, [], []⟩,
  ⟨("next_letters", none), "next_letters", "next_letters", defArgs s_next_letters, defBody s_next_letters, defScope s_next_letters, [], []⟩,
  ⟨("letter_fault", none), "letter_fault", "letter_fault", defArgs s_letter_fault, defBody s_letter_fault, defScope s_letter_fault, [], []⟩,
  ⟨("is_finished", none), "is_finished", "is_finished", defArgs s_is_finished, defBody s_is_finished, defScope s_is_finished, [], []⟩,
  ⟨("_law_d_names", none), "_law_d_names", "_law_d_names", defArgs s_w_d_names, defBody s_w_d_names, defScope s_w_d_names, [], []⟩,
  ⟨("_law_d_made", none), "_law_d_made", "_law_d_made", defArgs s_w_d_made, defBody s_w_d_made, defScope s_w_d_made, [], []⟩,
  ⟨("_law_d_row", none), "_law_d_row", "_law_d_row", defArgs s_w_d_row, defBody s_w_d_row, defScope s_w_d_row, [], []⟩,
  ⟨("_law_d_norms", none), "_law_d_norms", "_law_d_norms", defArgs s_w_d_norms, defBody s_w_d_norms, defScope s_w_d_norms, [], []⟩,
  ⟨("_law_d_norm", none), "_law_d_norm", "_law_d_norm", defArgs s_w_d_norm, defBody s_w_d_norm, defScope s_w_d_norm, [], []⟩,
  ⟨("_law_d_odd_rows", none), "_law_d_odd_rows", "_law_d_odd_rows", defArgs s_w_d_odd_rows, defBody s_w_d_odd_rows, defScope s_w_d_odd_rows, [], []⟩,
  ⟨("_law_g_book", none), "_law_g_book", "_law_g_book", defArgs s_w_g_book, defBody s_w_g_book, defScope s_w_g_book, [], []⟩,
  ⟨("_law_g_letters", none), "_law_g_letters", "_law_g_letters", defArgs s_w_g_letters, defBody s_w_g_letters, defScope s_w_g_letters, [], []⟩,
  ⟨("_law_g_rows", none), "_law_g_rows", "_law_g_rows", defArgs s_w_g_rows, defBody s_w_g_rows, defScope s_w_g_rows, [], []⟩,
  ⟨("_law_g_fault", none), "_law_g_fault", "_law_g_fault", defArgs s_w_g_fault, defBody s_w_g_fault, defScope s_w_g_fault, [], []⟩,
  ⟨("_law_g_rest", none), "_law_g_rest", "_law_g_rest", defArgs s_w_g_rest, defBody s_w_g_rest, defScope s_w_g_rest, [], []⟩,
  ⟨("_law_g_walk", none), "_law_g_walk", "_law_g_walk", defArgs s_w_g_walk, defBody s_w_g_walk, defScope s_w_g_walk, [], []⟩,
  ⟨("_law_g_finished", none), "_law_g_finished", "_law_g_finished", defArgs s_w_g_finished, defBody s_w_g_finished, defScope s_w_g_finished, [], []⟩,
  ⟨("_law_g_bent", none), "_law_g_bent", "_law_g_bent", defArgs s_w_g_bent, defBody s_w_g_bent, defScope s_w_g_bent, [], []⟩,
  ⟨("_law_g_met", none), "_law_g_met", "_law_g_met", defArgs s_w_g_met, defBody s_w_g_met, defScope s_w_g_met, [], []⟩,
  ⟨("_law_g_odd_words", none), "_law_g_odd_words", "_law_g_odd_words", defArgs s_w_g_odd_words, defBody s_w_g_odd_words, defScope s_w_g_odd_words, [], []⟩,
  ⟨("_law_g_twice", none), "_law_g_twice", "_law_g_twice", defArgs s_w_g_twice, defBody s_w_g_twice, defScope s_w_g_twice, [], []⟩,
  ⟨("_law_g_refused", none), "_law_g_refused", "_law_g_refused", defArgs s_w_g_refused, defBody s_w_g_refused, defScope s_w_g_refused, [], []⟩,
  ⟨("_law_start", none), "_law_start", "_law_start", defArgs s_w_start, defBody s_w_start, defScope s_w_start, [], []⟩,
  ⟨("_law_draw", none), "_law_draw", "_law_draw", defArgs s_w_draw, defBody s_w_draw, defScope s_w_draw, [], []⟩,
  ⟨("_law_pick", none), "_law_pick", "_law_pick", defArgs s_w_pick, defBody s_w_pick, defScope s_w_pick, [], []⟩,
  ⟨("_law_mixed", none), "_law_mixed", "_law_mixed", defArgs s_w_mixed, defBody s_w_mixed, defScope s_w_mixed, [], []⟩,
  ⟨("_law_same", none), "_law_same", "_law_same", defArgs s_w_same, defBody s_w_same, defScope s_w_same, [], []⟩,
  ⟨("_law_loose", none), "_law_loose", "_law_loose", defArgs s_w_loose, defBody s_w_loose, defScope s_w_loose, [], []⟩,
  ⟨("_law_word_right", none), "_law_word_right", "_law_word_right", defArgs s_w_word_right, defBody s_w_word_right, defScope s_w_word_right, [], []⟩,
  ⟨("_law_held_right", none), "_law_held_right", "_law_held_right", defArgs s_w_held_right, defBody s_w_held_right, defScope s_w_held_right, [], []⟩,
  ⟨("_law_refused_right", none), "_law_refused_right", "_law_refused_right", defArgs s_w_refused_right, defBody s_w_refused_right, defScope s_w_refused_right, [], []⟩,
  ⟨("law", none), "law", "law", defArgs s_law, defBody s_law, defScope s_law, [], []⟩]
def fn : List He.DefD := fn1 ++ fn2
def fa0 : List He.Fa := [.glo "TalkError", .keep "TalkError", .glo "BadBook", .keep "BadBook", .glo "BadLong", .keep "BadLong", .glo "BadNumber", .keep "BadNumber", .glo "BadRow", .keep "BadRow", .glo "BadTalks", .keep "BadTalks", .glo "BadWord", .keep "BadWord", .glo "NoEnd", .keep "NoEnd", .glo "NoTalk", .keep "NoTalk", .glo "NotFinished", .keep "NotFinished", .glo "NotSimple", .keep "NotSimple", .glo "Made", .keep "Made", .glo "is_list", .glo "is_name", .glo "is_bare_letter", .glo "is_letter", .glo "is_row", .glo "is_one_of", .glo "is_rule", .glo "as_rule", .glo "is_talk", .glo "lacking_in", .glo "norms_in", .glo "checked_talks"]
def fa1 : List He.Fa := [.glo "Book", .keep "Book", .glo "checked_book", .glo "checked_row", .glo "checked_word", .glo "checked_simple", .glo "checked_along", .glo "left_behind", .glo "rows_along", .glo "left_in", .glo "fault_in", .glo "letters_of", .glo "left_by", .glo "next_letters", .glo "letter_fault", .glo "is_finished", .glo "_law_d_names", .glo "_law_d_made", .glo "_law_d_row", .glo "_law_d_norms", .glo "_law_d_norm", .glo "_law_d_odd_rows", .glo "_law_g_book", .glo "_law_g_letters", .glo "_law_g_rows", .glo "_law_g_fault", .glo "_law_g_rest", .glo "_law_g_walk", .glo "_law_g_finished", .glo "_law_g_bent", .glo "_law_g_met", .glo "_law_g_odd_words", .glo "_law_g_twice", .glo "_law_g_refused", .glo "_law_start", .glo "_law_draw"]
def fa2 : List He.Fa := [.glo "_law_pick", .glo "_law_mixed", .glo "_law_same", .glo "_law_loose", .glo "_law_word_right", .glo "_law_held_right", .glo "_law_refused_right", .glo "law", .free "ValueError", .free "all", .free "bool", .free "dict", .free "enumerate", .free "int", .free "isinstance", .free "len", .free "list", .free "min", .free "range", .free "repr", .free "sorted", .free "str", .free "sum", .free "tuple", .free "zip", .str "SMALL" "abcdefghijklmnopqrstuvwxyz", .str "FIGURES" "0123456789", .cls "Book", .noat "Book" "own_rules", .noat "Book" "own_norms", .noat "Book" "own_rounds", .meth "Book" "talks", .meth "Book" "rules", .mkr "Book", .exm "BadBook" "BadBook" true, .exm "NotSimple" "BadBook" false]
def fa3 : List He.Fa := [.exm "NotSimple" "NotSimple" true, .exm "BadRow" "BadBook" false, .exm "BadRow" "NotSimple" false, .exm "BadRow" "BadRow" true, .exm "BadWord" "BadBook" false, .exm "BadWord" "NotSimple" false, .exm "BadWord" "BadRow" false, .exm "BadWord" "BadWord" true, .glo "WORDS"]
def fa : List He.Fa := fa0 ++ fa1 ++ fa2 ++ fa3
/-- an own exception class over ValueError, through own classes -/
def oexB (K : PySem.W.Frag) (C : Addr) : Bool := match K.lookup C with
  | some ⟨.type "type", _, .cls cd, sl⟩ => (match cd.mro, sl.toList with
    | .ref C' :: bm, [_, _, _, _, some (.builtin n), _] => C' == C && n == "ValueError.__new__" && !cd.hasDel && PySem.HandSPX.refsVE bm && cd.hasDict
    | _, _ => false)
  | _ => false
def excB (K : PySem.W.Frag) (p : Str × Str) : Bool :=
  oexB K (He.ga K p.1) && (decide (PySem.W.findIn K (.ref (He.ga K p.1)) "__setattr__" = some (some (.builtin "object.__setattr__"))) && (decide (PySem.W.subIn K (.ref (He.ga K p.1)) (.type "BaseException") = some true) &&
  (decide (PySem.W.typeIn K (.ref (He.ga K p.1)) = some (.type "type")) && (PySem.W.keepIn K (.ref (He.ga K p.1)) && (xfB K (He.ga K p.1) && (decide (PySem.W.findIn K (.ref (He.ga K p.1)) p.2 = some none) &&
  (decide (PySem.W.findIn K (.ref (He.ga K p.1)) "__init__" = some (some (.ref (He.ma K (He.ga K p.1) "__init__")))) && decide (PySem.W.typeIn K (.ref (He.ma K (He.ga K p.1) "__init__")) = some (.type "function")))))))))
def insB (K : PySem.W.Frag) (x : Str) : Bool :=
  decide (PySem.W.findIn K (.ref (He.ga K x)) "__class__" = some (some (.builtin "object.__class__"))) && (decide (PySem.W.specialIn K (.builtin "object.__class__") "__get__" = some (some (.builtin "getset_descriptor.__get__"))) &&
  (decide (PySem.W.takesIn K (.builtin "object.__class__") = some true) && (decide (PySem.W.mroIn K (He.ga K x) (.type "object") = some true) && (decide (PySem.W.kitOne K (.ref (He.ga K x)) (.ref (He.ga K x)) = some true) &&
  (["int", "str", "list", "tuple", "dict", "NoneType", "bool"].all fun n => decide (PySem.W.kitOne K (.type n) (.ref (He.ga K x)) = some false))))))
def excs : List (Str × Str) := [("BadBook", "thing"), ("BadRow", "index"), ("BadWord", "index"), ("NotSimple", "name"), ("BadTalks", "index"), ("NoTalk", "thing"), ("NoEnd", "name")]
def wordsL : List Str := ["talk", "proc", "keeps", "say", "hear", "do", "pick", "nothing", "is", "watch", "hold", "norm", "prime", "row", "alike", "simple"]
def ex (K : PySem.W.Frag) : Bool := ((excs.all fun p => excB K p) && decide ((He.cT K ("_law_g_refused", none)).2 ≠ (He.cT K ("_law_refused_right", none)).2)) && (insB K "Book" && He.tupB K "WORDS" (wordsL.map He.Dv.str))
def tf : List He.Defn := [("_law_g_refused", none), ("_law_refused_right", none)]
abbrev R : PySem.W.OpenRow := PySem.W.OpenLaw.row PySem.Challenge.rw_primetalks_k47_whole_left_and_faults
abbrev hk : PySem.W.Hook := He.hookX 4 fa fn [] tf ex
def ob (s : PySem.W.SharedT) : He.AlX := He.obsX 4 fa fn [] tf ex (HandSHeadRun.getT s)
theorem ob_eq (s : PySem.W.SharedT) : ob s = hk.obs s.abs := He.obsX_eq (HandSHeadRun.getT_eq s)

end T47
namespace T47
open PySem PySem.Spec PyProof.Rows L2
theorem run (w : World) : HandSHeadRun.RunEq R (PySem.W.view R.prog [74]) hk ob 6000 loose w := by
  intro os
  kernel_rfl
end T47
/-! Data trees over the layer, and what a reading evaluates to. -/
namespace Pk
open PySem PySem.Spec PyProof.Rows L2
/-! ### heaps: G the part that stays, within H -/
theorem same_none {G H : Hp} (e : Same G H) {p : Addr} (h : H p = none) : G p = none := Same.free e h
structure Gr (G H G' H' : Hp) : Prop where
  g : Same G G'
  h : Same H H'
  gh : Same G' H'
  nw : ∀ b o, G' b = some o → G b = some o ∨ H b = none
theorem Gr.refl {G H : Hp} (e : Same G H) : Gr G H G H := ⟨Same.refl _, Same.refl _, e, fun _ _ h => .inl h⟩
theorem Gr.trans {G H G1 H1 G2 H2 : Hp} (a : Gr G H G1 H1) (b : Gr G1 H1 G2 H2) : Gr G H G2 H2 := by
  refine ⟨a.g.trans b.g, a.h.trans b.h, b.gh, fun x o h => ?_⟩
  rcases b.nw x o h with h | h
  · exact a.nw x o h
  · exact .inr (same_none a.h h)
theorem same_new {H : Hp} {p : Addr} {o : HO} (h : H p = none) : Same H (upd H p o) := fun a u e => by
  rw [upd_ne (ne_of_none e h)]
  exact e
theorem same_both {G H : Hp} {p : Addr} {o : HO} (e : Same G H) : Same (upd G p o) (upd H p o) := fun a u h => by
  by_cases ha : a = p
  · subst ha
    rw [upd_same] at h ⊢
    exact h
  · rw [upd_ne ha] at h ⊢
    exact e a u h
/-- a new thing that stays -/
theorem Gr.new {G H : Hp} {p : Addr} {o : HO} (e : Same G H) (hp : H p = none) : Gr G H (upd G p o) (upd H p o) := by
  refine ⟨same_new (same_none e hp), same_new hp, same_both e, fun b u h => ?_⟩
  by_cases hb : b = p
  · subst hb
    exact .inr hp
  · rw [upd_ne hb] at h
    exact .inl h
/-- a new thing that may change -/
theorem Gr.ov {G H : Hp} {p : Addr} {o : HO} (e : Same G H) (hp : H p = none) : Gr G H G (upd H p o) :=
  ⟨Same.refl _, same_new hp, e.trans (same_new hp), fun _ _ h => .inl h⟩
/-- what may change stays apart -/
theorem Gr.apart {G H G' H' : Hp} (g : Gr G H G' H') {p : Addr} {o : HO} (h : H p = some o) (hg : G p = none) : G' p = none := by
  cases e : G' p with
  | none => rfl
  | some u =>
    rcases g.nw p u e with q | q
    · rw [hg] at q; cases q
    · rw [h] at q; cases q
/-- G widened: what G' has besides -/
def join (G G' : Hp) : Hp := fun b => match G b with | some o => some o | none => G' b
theorem Gr.up {G G1 H G' H' : Hp} (g : Gr G H G' H') (e1 : Same G G1) (e2 : Same G1 H) : Gr G1 H (join G1 G') H' ∧ Same G' (join G1 G') := by
  refine ⟨⟨fun b o h => ?_, g.h, fun b o h => ?_, fun b o h => ?_⟩, fun b o h => ?_⟩
  · unfold join; rw [h]
  · unfold join at h
    cases q : G1 b with
    | some u =>
      rw [q] at h
      cases h
      exact g.h _ _ (e2 _ _ q)
    | none =>
      rw [q] at h
      exact g.gh _ _ h
  · unfold join at h
    cases q : G1 b with
    | some u =>
      rw [q] at h
      cases h
      exact .inl rfl
    | none =>
      rw [q] at h
      rcases g.nw b o h with z | z
      · rw [e1 _ _ z] at q; cases q
      · exact .inr z
  · unfold join
    cases q : G1 b with
    | none => exact h
    | some u =>
      rcases g.nw b o h with z | z
      · rw [e1 _ _ z] at q
        exact q.symm
      · rw [e2 _ _ q] at z; cases z
/-! ### data -/
inductive D where
  | non | bl (b : Bool) | int (i : Int) | str (x : Str) | lst (xs : List D) | tup (xs : List D) | dic (kvs : List (Str × D))
mutual
inductive Dq (K : PySem.W.Frag) (H : Hp) : V → D → Prop
  | non : Dq K H .non .non
  | bl (b : Bool) : Dq K H (.bl b) (.bl b)
  | int (i : Int) : Dq K H (.int i) (.int i)
  | str (x : Str) : Dq K H (.str x) (.str x)
  | lst {a : Addr} {xs : List V} {ds : List D} : Rd H a (.lst xs) → Dqs K H xs ds → Dq K H (.ref a) (.lst ds)
  | tup {a : Addr} {xs : List V} {ds : List D} : Rd H a (.tup xs) → Dqs K H xs ds → Dq K H (.ref a) (.tup ds)
  | dic {a : Addr} {o : Obj} {ws : List (Key × V)} {kvs : List (Str × D)} : H a = some (.frz o (.dK ws)) → ws.map (·.1) = kvs.map (fun p => Sum.inr p.1) → Dqs K H (ws.map (·.2)) (kvs.map (·.2)) → Dq K H (.ref a) (.dic kvs)
inductive Dqs (K : PySem.W.Frag) (H : Hp) : List V → List D → Prop
  | nil : Dqs K H [] []
  | cons {v : V} {vs : List V} {d : D} {ds : List D} : Dq K H v d → Dqs K H vs ds → Dqs K H (v :: vs) (d :: ds)
end
section
variable {K : PySem.W.Frag} {G H : Hp}
theorem Rd.up {a : Addr} {u : HO} (e : Same G H) (h : Rd G a u) : Rd H a u := by
  rcases h with h | ⟨o, h⟩
  · exact .inl (e _ _ h)
  · exact .inr ⟨o, e _ _ h⟩
mutual
theorem Dq.up (e : Same G H) : ∀ {d : D} {v : V}, Dq K G v d → Dq K H v d
  | _, _, .non => .non
  | _, _, .bl b => .bl b
  | _, _, .int i => .int i
  | _, _, .str x => .str x
  | _, _, .lst h hs => .lst (Rd.up e h) (Dqs.up e hs)
  | _, _, .tup h hs => .tup (Rd.up e h) (Dqs.up e hs)
  | _, _, .dic h k hs => .dic (e _ _ h) k (Dqs.up e hs)
theorem Dqs.up (e : Same G H) : ∀ {ds : List D} {vs : List V}, Dqs K G vs ds → Dqs K H vs ds
  | _, _, .nil => .nil
  | _, _, .cons h hs => .cons (Dq.up e h) (Dqs.up e hs)
end
theorem Dqs.length {ds : List D} {vs : List V} (h : Dqs K G vs ds) : vs.length = ds.length := by
  induction ds generalizing vs with
  | nil => cases h; rfl
  | cons d ds ih => cases h with | cons a b => rw [List.length_cons, List.length_cons, ih b]
theorem Dqs.get {ds : List D} {vs : List V} (h : Dqs K G vs ds) {i : Nat} {d : D} (hd : ds[i]? = some d) : ∃ v, vs[i]? = some v ∧ Dq K G v d := by
  induction ds generalizing vs i with
  | nil => simp at hd
  | cons d0 ds ih =>
    cases h with
    | cons a b =>
      cases i with
      | zero => simp at hd; subst hd; exact ⟨_, rfl, a⟩
      | succ i => simp at hd; obtain ⟨v, e, q⟩ := ih b hd; exact ⟨v, by simpa using e, q⟩
theorem Dqs.at {ds : List D} {vs : List V} (h : Dqs K G vs ds) {i : Nat} {v : V} (hv : vs[i]? = some v) : ∃ d, ds[i]? = some d ∧ Dq K G v d := by
  induction ds generalizing vs i with
  | nil => cases h; simp at hv
  | cons d0 ds ih =>
    cases h with
    | cons a b =>
      cases i with
      | zero => simp at hv; subst hv; exact ⟨_, rfl, a⟩
      | succ i => simp at hv; obtain ⟨d, e, q⟩ := ih b hv; exact ⟨d, by simpa using e, q⟩
theorem Dqs.append {ds es : List D} {vs ws : List V} (h : Dqs K G vs ds) (h' : Dqs K G ws es) : Dqs K G (vs ++ ws) (ds ++ es) := by
  induction ds generalizing vs with
  | nil => cases h; exact h'
  | cons d ds ih => cases h with | cons a b => exact .cons a (ih b)
theorem Dqs.take {ds : List D} {vs : List V} (n : Nat) (h : Dqs K G vs ds) : Dqs K G (vs.take n) (ds.take n) := by
  induction n generalizing ds vs with
  | zero => simp only [List.take_zero]; exact .nil
  | succ n ih => cases h with
    | nil => simp only [List.take_nil]; exact .nil
    | cons a b => exact .cons a (ih b)
theorem Dqs.drop {ds : List D} {vs : List V} (n : Nat) (h : Dqs K G vs ds) : Dqs K G (vs.drop n) (ds.drop n) := by
  induction n generalizing ds vs with
  | zero => exact h
  | succ n ih => cases h with
    | nil => simp only [List.drop_nil]; exact .nil
    | cons a b => exact ih b
theorem Dqs.snoc {ds : List D} {vs : List V} {v : V} {d : D} (h : Dqs K G vs ds) (h' : Dq K G v d) : Dqs K G (vs ++ [v]) (ds ++ [d]) := h.append (.cons h' .nil)
theorem Dqs.reverse {ds : List D} {vs : List V} (h : Dqs K G vs ds) : Dqs K G vs.reverse ds.reverse := by
  induction ds generalizing vs with
  | nil => cases h; exact .nil
  | cons d ds ih => cases h with | cons a b => rw [List.reverse_cons, List.reverse_cons]; exact (ih b).snoc a
theorem dqs_str {vs : List V} {xs : List Str} (h : Dqs K G vs (xs.map D.str)) : vs = xs.map V.str := by
  induction xs generalizing vs with
  | nil => cases h; rfl
  | cons x xs ih => cases h with | cons a b => cases a; rw [ih b]; rfl
theorem dqs_of_str (xs : List Str) : Dqs K G (xs.map V.str) (xs.map D.str) := by
  induction xs with
  | nil => exact .nil
  | cons x xs ih => exact .cons (.str x) ih
theorem dqs_of_bl (bs : List Bool) {vs : List V} (h : Dqs K G vs (bs.map D.bl)) : vs = bs.map V.bl := by
  induction bs generalizing vs with
  | nil => cases h; rfl
  | cons x xs ih => cases h with | cons a b => cases a; rw [ih b]; rfl
theorem dqs_of_int (bs : List Int) {vs : List V} (h : Dqs K G vs (bs.map D.int)) : vs = bs.map V.int := by
  induction bs generalizing vs with
  | nil => cases h; rfl
  | cons x xs ih => cases h with | cons a b => cases a; rw [ih b]; rfl
theorem seqL {a : Addr} {xs : List V} (h : Rd G a (.lst xs)) : SqL K G a xs := .inl h
theorem seqT {a : Addr} {xs : List V} (h : Rd G a (.tup xs)) : SqT K G a xs := .inl h
end
/-! ### what a reading evaluates to -/
section
variable {K : PySem.W.Frag}
def EvD (K : PySem.W.Frag) (te : TE) (σ : L2.St) (G : Hp) (d : D) : Prop := ∀ H, Same G H → ∀ Q : VK, (∀ v G' H', Gr G H G' H' → Dq K G' v d → Q v H') → te σ H Q
def EvB (tt : TT) (σ : L2.St) (G : Hp) (b : Bool) : Prop := ∀ H, Same G H → ∀ Q : Bool → Hp → Prop, (∀ G' H', Gr G H G' H' → Q b H') → tt σ H Q
def EvA (K : PySem.W.Frag) (ta : TA) (σ : L2.St) (G : Hp) (ds : List D) : Prop := ∀ H, Same G H → ∀ Q : List V → Hp → Prop, (∀ vs G' H', Gr G H G' H' → Dqs K G' vs ds → Q vs H') → ta σ H Q
variable {σ : L2.St} {G G1 H : Hp} {te ta tb : TE} {tt uu : TT} {as : TA} {d d' : D} {ds : List D} {b : Bool}
theorem EvD.up (h : EvD K te σ G d) (e : Same G G1) : EvD K te σ G1 d := fun H e1 Q q => h H (e.trans e1) Q fun v G' H' g hv => by
  obtain ⟨g1, g2⟩ := g.up e e1
  exact q v _ H' g1 (hv.up g2)
theorem EvB.up (h : EvB tt σ G b) (e : Same G G1) : EvB tt σ G1 b := fun H e1 Q q => h H (e.trans e1) Q fun G' H' g => by
  obtain ⟨g1, g2⟩ := g.up e e1
  exact q _ H' g1
theorem EvA.up (h : EvA K as σ G ds) (e : Same G G1) : EvA K as σ G1 ds := fun H e1 Q q => h H (e.trans e1) Q fun vs G' H' g hv => by
  obtain ⟨g1, g2⟩ := g.up e e1
  exact q vs _ H' g1 (hv.up g2)
theorem ev_var {i : Nat} {v : V} (h : σ[i]? = some (some v)) (hv : Dq K G v d) : EvD K (tVar i) σ G d := fun H e Q q => ⟨v, h, q v G H (Gr.refl e) hv⟩
theorem ev_int {i : Int} : EvD K (tC (.int i)) σ G (.int i) := fun H e Q q => q _ G H (Gr.refl e) (.int i)
theorem ev_bl {i : Bool} : EvD K (tC (.bl i)) σ G (.bl i) := fun H e Q q => q _ G H (Gr.refl e) (.bl i)
theorem ev_str {i : Str} : EvD K (tC (.str i)) σ G (.str i) := fun H e Q q => q _ G H (Gr.refl e) (.str i)
theorem ev_non : EvD K (tC .non) σ G .non := fun H e Q q => q _ G H (Gr.refl e) .non
theorem ea_nil : EvA K tNil σ G [] := fun H e Q q => q _ G H (Gr.refl e) .nil
theorem ea_cons (h : EvD K te σ G d) (hr : EvA K as σ G ds) : EvA K (tCons te as) σ G (d :: ds) := fun H e Q q =>
  h H e _ fun v G1 H1 g1 hv => (hr.up g1.g) H1 g1.gh _ fun vs G2 H2 g2 hvs => q _ G2 H2 (g1.trans g2) (.cons (hv.up g2.g) hvs)
theorem ev_tup (h : EvA K as σ G ds) (hl : ds.length ≤ 100000) : EvD K (tTup as) σ G (.tup ds) := fun H e Q q =>
  h H e _ fun vs G1 H1 g1 hvs => ⟨Nat.le_trans (Nat.le_of_eq hvs.length) (Nat.le_trans hl (by decide)), fun p hp => q _ _ _ (g1.trans (Gr.new g1.gh hp)) (.tup (.inl upd_same) (hvs.up (same_new (same_none g1.gh hp))))⟩
theorem ev_lst (h : EvA K as σ G ds) (hl : ds.length ≤ 100000) : EvD K (tLst as) σ G (.lst ds) := fun H e Q q =>
  h H e _ fun vs G1 H1 g1 hvs => ⟨Nat.le_trans (Nat.le_of_eq hvs.length) (Nat.le_trans hl (by decide)), fun p hp => q _ _ _ (g1.trans (Gr.new g1.gh hp)) (.lst (.inl upd_same) (hvs.up (same_new (same_none g1.gh hp))))⟩
theorem ev_ixT {i : Nat} (h : EvD K ta σ G (.tup ds)) (hi : ds[i]? = some d) : EvD K (tOp (rIxT K) ta (tC (.int i))) σ G d := fun H e Q q =>
  h H e _ fun v G1 H1 g1 hv => by
    cases hv with
    | @tup a xs _ hr hs =>
      obtain ⟨w, hw, hq⟩ := hs.get hi
      exact ⟨a, xs, i, w, rfl, rfl, seqT (Rd.up g1.gh hr), atI_nat hw, q w G1 H1 g1 hq⟩
theorem ev_ixL {i : Nat} (h : EvD K ta σ G (.lst ds)) (hi : ds[i]? = some d) : EvD K (tOp (rIxL K) ta (tC (.int i))) σ G d := fun H e Q q =>
  h H e _ fun v G1 H1 g1 hv => by
    cases hv with
    | @lst a xs _ hr hs =>
      obtain ⟨w, hw, hq⟩ := hs.get hi
      exact ⟨a, xs, i, w, rfl, rfl, seqL (Rd.up g1.gh hr), atI_nat hw, q w G1 H1 g1 hq⟩
theorem rIx_L {K : PySem.W.Frag} {x y : V} {H : Hp} {Q : VK} (h : rIxL K x y H Q) : rIx K x y H Q := .inl h
theorem rIx_T {K : PySem.W.Frag} {x y : V} {H : Hp} {Q : VK} (h : rIxT K x y H Q) : rIx K x y H Q := .inr (.inl h)
theorem rIx_S {K : PySem.W.Frag} {x y : V} {H : Hp} {Q : VK} (h : rIxS x y H Q) : rIx K x y H Q := .inr (.inr h)
/-- xs[i], a list or a tuple -/
theorem ev_ix {i : Nat} (h : EvD K ta σ G (.lst ds) ∨ EvD K ta σ G (.tup ds)) (hi : ds[i]? = some d) : EvD K (tOp (rIx K) ta (tC (.int i))) σ G d := fun H e Q q => by
  rcases h with h | h
  · refine h H e _ fun v G1 H1 g1 hv => ?_
    cases hv with
    | @lst a xs _ hr hs =>
      obtain ⟨w, hw, hq⟩ := hs.get hi
      exact rIx_L ⟨a, xs, i, w, rfl, rfl, seqL (Rd.up g1.gh hr), atI_nat hw, q w G1 H1 g1 hq⟩
  · refine h H e _ fun v G1 H1 g1 hv => ?_
    cases hv with
    | @tup a xs _ hr hs =>
      obtain ⟨w, hw, hq⟩ := hs.get hi
      exact rIx_T ⟨a, xs, i, w, rfl, rfl, seqT (Rd.up g1.gh hr), atI_nat hw, q w G1 H1 g1 hq⟩
/-! ### tests and truths -/
theorem eb_test (h : EvD K te σ G (.bl b)) : EvB (tTest te) σ G b := fun H e Q q => h H e _ fun v G1 H1 g1 hv => by
  cases hv
  exact ⟨b, rfl, q G1 H1 g1⟩
theorem eb_B (h : EvD K te σ G (.bl b)) : EvB (tB te) σ G b := fun H e Q q => h H e _ fun v G1 H1 g1 hv => by
  cases hv
  exact ⟨b, rfl, q G1 H1 g1⟩
theorem eb_not (h : EvB tt σ G b) : EvB (tNot tt) σ G (!b) := fun H e Q q => h H e _ fun G1 H1 g1 => q G1 H1 g1
theorem eb_and {a : Bool} (h : EvB tt σ G a) (h2 : a = true → EvB uu σ G b) : EvB (tAnd tt uu) σ G (a && b) := fun H e Q q => h H e _ fun G1 H1 g1 => by
  cases a with
  | true => exact iteT ((h2 rfl).up g1.g H1 g1.gh _ fun G2 H2 g2 => q G2 H2 (g1.trans g2))
  | false => exact iteF (q G1 H1 g1)
theorem eb_or {a : Bool} (h : EvB tt σ G a) (h2 : a = false → EvB uu σ G b) : EvB (tOr tt uu) σ G (a || b) := fun H e Q q => h H e _ fun G1 H1 g1 => by
  cases a with
  | true => exact iteT (q G1 H1 g1)
  | false => exact iteF ((h2 rfl).up g1.g H1 g1.gh _ fun G2 H2 g2 => q G2 H2 (g1.trans g2))
theorem ev_andV {a : Bool} (h : EvD K ta σ G (.bl a)) (h2 : a = true → EvD K tb σ G (.bl b)) : EvD K (tAndV ta tb) σ G (.bl (a && b)) := fun H e Q q => h H e _ fun v G1 H1 g1 hv => by
  cases hv
  cases a with
  | true => exact ⟨true, rfl, iteT ((h2 rfl).up g1.g H1 g1.gh _ fun v G2 H2 g2 hv => q v G2 H2 (g1.trans g2) hv)⟩
  | false => exact ⟨false, rfl, iteF (q _ G1 H1 g1 (.bl false))⟩
theorem ev_orV {a : Bool} (h : EvD K ta σ G (.bl a)) (h2 : a = false → EvD K tb σ G (.bl b)) : EvD K (tOrV ta tb) σ G (.bl (a || b)) := fun H e Q q => h H e _ fun v G1 H1 g1 hv => by
  cases hv
  cases a with
  | true => exact ⟨true, rfl, iteT (q _ G1 H1 g1 (.bl true))⟩
  | false => exact ⟨false, rfl, iteF ((h2 rfl).up g1.g H1 g1.gh _ fun v G2 H2 g2 hv => q v G2 H2 (g1.trans g2) hv)⟩
theorem ev_notV {a : Bool} (h : EvD K ta σ G (.bl a)) : EvD K (tNotV ta) σ G (.bl (!a)) := fun H e Q q => h H e _ fun v G1 H1 g1 hv => by
  cases hv
  exact ⟨a, rfl, q _ G1 H1 g1 (.bl _)⟩
theorem ev_if (h : EvB tt σ G b) (h1 : b = true → EvD K ta σ G d) (h2 : b = false → EvD K tb σ G d) : EvD K (tIf tt ta tb) σ G d := fun H e Q q => h H e _ fun G1 H1 g1 => by
  cases b with
  | true => exact iteT ((h1 rfl).up g1.g H1 g1.gh _ fun v G2 H2 g2 hv => q v G2 H2 (g1.trans g2) hv)
  | false => exact iteF ((h2 rfl).up g1.g H1 g1.gh _ fun v G2 H2 g2 hv => q v G2 H2 (g1.trans g2) hv)
theorem EvD.is (h : EvD K te σ G d) (e : d = d') : EvD K te σ G d' := e ▸ h
theorem EvB.is {b' : Bool} (h : EvB tt σ G b) (e : b = b') : EvB tt σ G b' := e ▸ h
/-- one value: what a V-reading gives without making anything -/
theorem ev_val {v : V} (h : ∀ H, Same G H → ∀ Q : VK, Q v H → te σ H Q) (hv : Dq K G v d) : EvD K te σ G d := fun H e Q q => h H e Q (q v G H (Gr.refl e) hv)
/-! ### built-ins -/
/-- a call of a built-in that gives a value and makes nothing -/
theorem ev_cb {r : List V → Hp → VK → Prop} (h : EvA K as σ G ds) (hr : ∀ vs G1 H1, Gr G H1 G1 H1 ∨ True → Same G G1 → Same G1 H1 → Dqs K G1 vs ds → ∀ Q : VK, (∀ v, Dq K G1 v d → Q v H1) → r vs H1 Q) : EvD K (tCB r as) σ G d := fun H e Q q =>
  h H e _ fun vs G1 H1 g1 hvs => hr vs G1 H1 (.inr trivial) g1.g g1.gh hvs Q fun v hv => q v G1 H1 g1 hv
theorem ev_op {r : R2} (ha : EvD K ta σ G d) (hb : EvD K tb σ G d') {z : D} (hr : ∀ x y G1 H1, Same G G1 → Same G1 H1 → Dq K G1 x d → Dq K G1 y d' → ∀ Q : VK, (∀ v, Dq K G1 v z → Q v H1) → r x y H1 Q) : EvD K (tOp r ta tb) σ G z := fun H e Q q =>
  ha H e _ fun x G1 H1 g1 hx => (hb.up g1.g) H1 g1.gh _ fun y G2 H2 g2 hy => hr x y G2 H2 (g1.g.trans g2.g) g2.gh (hx.up g2.g) hy Q fun v hv => q v G2 H2 (g1.trans g2) hv
def rLenB (K : PySem.W.Frag) : List V → Hp → VK → Prop := fun xs H Q => ∃ x n, xs = [x] ∧ LenV K x H n ∧ Q (.int n) H
theorem ev_len {z : Int} (h : EvD K te σ G d) (hz : (∃ x : Str, d = .str x ∧ x.length ≤ sizeLine ∧ z = x.length) ∨ (d = .lst ds ∧ z = ds.length) ∨ (d = .tup ds ∧ z = ds.length)) :
    EvD K (tCB (fun xs H Q => ∃ x n, xs = [x] ∧ LenV K x H n ∧ Q (.int n) H) (tCons te tNil)) σ G (.int z) := fun H e Q q =>
  h H e _ fun v G1 H1 g1 hv => by
    rcases hz with ⟨x, rfl, hl, rfl⟩ | ⟨rfl, rfl⟩ | ⟨rfl, rfl⟩
    · cases hv
      exact ⟨_, _, rfl, ⟨hl, rfl⟩, q _ G1 H1 g1 (.int _)⟩
    · cases hv with
      | @lst a xs _ hr hs => exact ⟨_, _, rfl, .inl ⟨xs, seqL (Rd.up g1.gh hr), rfl⟩, q _ G1 H1 g1 (by rw [hs.length]; exact .int _)⟩
    · cases hv with
      | @tup a xs _ hr hs => exact ⟨_, _, rfl, .inr ⟨xs, seqT (Rd.up g1.gh hr), rfl⟩, q _ G1 H1 g1 (by rw [hs.length]; exact .int _)⟩
theorem ev_all {bs : List Bool} (h : EvD K te σ G (.lst (bs.map D.bl))) : EvD K (tCB (rAll K) (tCons te tNil)) σ G (.bl (bs.all id)) := fun H e Q q =>
  h H e _ fun v G1 H1 g1 hv => by
    cases hv with
    | @lst a xs _ hr hs =>
      have := dqs_of_bl bs hs
      subst this
      exact ⟨a, bs, rfl, seqL (Rd.up g1.gh hr), q _ G1 H1 g1 (.bl _)⟩
theorem ev_sum {bs : List Int} (h : EvD K te σ G (.lst (bs.map D.int))) : EvD K (tCB (rSum K) (tCons te tNil)) σ G (.int bs.sum) := fun H e Q q =>
  h H e _ fun v G1 H1 g1 hv => by
    cases hv with
    | @lst a xs _ hr hs =>
      have := dqs_of_int bs hs
      subst this
      exact ⟨a, bs, rfl, seqL (Rd.up g1.gh hr), q _ G1 H1 g1 (.int _)⟩
/-! ### pure defs -/
/-- a def that tells a datum of data, and changes nothing -/
def spD (K : PySem.W.Frag) (f : List D → D → Prop) : Sp := fun vs H Q _ => ∃ G ds d, Same G H ∧ Dqs K G vs ds ∧ f ds d ∧ ∀ v G' H', Gr G H G' H' → Dq K G' v d → Q v H'
theorem ev_call {f : List D → D → Prop} {E : XK} (h : EvA K as σ G ds) (hf : f ds d) : EvD K (tCall (spD K f) [] E as) σ G d := fun H e Q q =>
  h H e _ fun vs G1 H1 g1 hvs => ⟨G1, ds, d, g1.gh, by rw [List.append_nil]; exact hvs, hf, fun v G2 H2 g2 hv => q v G2 H2 (g1.trans g2) hv⟩
end

/-! ### types -/
def D.ty : D → String
  | .non => "NoneType" | .bl _ => "bool" | .int _ => "int" | .str _ => "str" | .lst _ => "list" | .tup _ => "tuple" | .dic _ => "dict"
theorem ty_of {K : PySem.W.Frag} {H : Hp} {v : V} {d : D} (h : Dq K H v d) : TyX K H v (.type d.ty) := by
  cases h with
  | non => exact .base .non
  | bl b => exact .base (.bl b)
  | int i => exact .base (.int i)
  | str x => exact .base (.str x)
  | lst h _ => rcases h with h | ⟨o, h⟩
               · exact .base (.lst h)
               · exact .base (.frz h)
  | tup h _ => rcases h with h | ⟨o, h⟩
               · exact .base (.tup h)
               · exact .fTuple h
  | dic h _ _ => exact .fDict h
section
variable {K : PySem.W.Frag} {σ : L2.St} {G G1 H : Hp} {te ta tb : TE} {tt uu : TT} {as : TA} {d d' : D} {ds : List D} {b : Bool}
/-- isinstance(x, c), c a built-in type -/
theorem ev_isi {c : String} (h : EvD K te σ G d) (hk : kitB d.ty c = some b) : EvD K (tCB (rIsi K) (tCons te (tCons (tC (.ty c)) tNil))) σ G (.bl b) := fun H e Q q =>
  h H e _ fun v G1 H1 g1 hv => ⟨v, .ty c, _, _, b, rfl, .ty c, ty_of (hv.up g1.gh), kit_ty hk, q _ G1 H1 g1 (.bl b)⟩
def isiB (t : String) : List String → Option Bool
  | [] => some false
  | c :: cs => match kitB t c with
    | some true => some true
    | some false => isiB t cs
    | none => none
theorem isiB_ok {t : String} : ∀ {cs : List String} {b : Bool}, isiB t cs = some b → PySem.W.kitAny K (.type t) (cs.map Value.type) = some b
  | [], b, h => by cases h; exact kitAny_nil
  | c :: cs, b, h => by
    unfold isiB at h
    cases e : kitB t c with
    | none => rw [e] at h; cases h
    | some x =>
      rw [e] at h
      cases x with
      | true => cases h; exact kitAny_cons (kit_ty e) (fun z => by cases z) (fun _ => rfl)
      | false => exact kitAny_cons (kit_ty e) (fun _ => isiB_ok h) (fun z => by cases z)
def tTys : List String → TA
  | [] => tNil
  | c :: cs => tCons (tC (.ty c)) (tTys cs)
theorem cls_tys : ∀ cs : List String, Paired ClsV (cs.map V.ty) (cs.map Value.type)
  | [] => .nil
  | c :: cs => .cons (.ty c) (cls_tys cs)
theorem tTys_run : ∀ {cs : List String} {σ : L2.St} {H : Hp} {Q : List V → Hp → Prop}, Q (cs.map V.ty) H → tTys cs σ H Q
  | [], _, _, _, q => q
  | c :: cs, _, _, _, q => tTys_run (cs := cs) q
/-- isinstance(x, (c, ..)) -/
theorem ev_isiT (cs : List String) (hl : cs.length ≤ 1000) (h : EvD K te σ G d) (hk : isiB d.ty cs = some b) : EvD K (tCB (rIsiT K) (tCons te (tCons (tTup (tTys cs)) tNil))) σ G (.bl b) := fun H e Q q =>
  h H e _ fun v G1 H1 g1 hv => tTys_run ⟨by rw [List.length_map]; exact Nat.le_trans hl (by decide), fun p hp =>
    ⟨v, p, cs.map V.ty, _, cs.map Value.type, b, rfl, upd_same, cls_tys cs, ty_of (hv.up (g1.gh.trans (same_new hp))), isiB_ok hk, q _ G1 _ (g1.trans (Gr.ov g1.gh hp)) (.bl b)⟩⟩
end
/-! ### walks over lists, tuples, texts -/
def iSeq (K : PySem.W.Frag) (tl : TE) : TI := fun σ H R => tl σ H fun x H1 => (∃ a, x = .ref a ∧ (∃ xs, SqL K H1 a xs) ∧ R (Itl K a) H1) ∨ (∃ a, x = .ref a ∧ (∃ xs, SqT K H1 a xs) ∧ R (Itt K a) H1) ∨ ∃ s, x = .str s ∧ R (Its s) H1
theorem pi_seq {X : Cx} {tg l : Expr} {tl : TE} (hl : PE X l tl) : PI X tg l (iSeq X.K tl) := by
  refine ⟨fun pins s σ H R I h => ?_⟩
  refine thn (hl.run pins s σ H _ I h) fun v s1 ⟨x, H1, I1, r1, q1⟩ => ?_
  rcases q1 with ⟨a, e, ⟨xs, hq⟩, q⟩ | ⟨a, e, ⟨xs, hq⟩, q⟩ | ⟨x, ex, q⟩
  · subst e
    cases r1
    obtain ⟨its, rv, p, hz⟩ := I1.list hq
    refine wpAny_pyIter_list p.isList ?_
    refine ⟨s1.heap.objs.size, [s1.heap.objs.size], _, _, H1, rfl, I1.kept (t' := s1.toks) fun b o e => Heap.get?_push_of_some _ e, turn_list a _, ⟨_, Heap.get?_push_size _ rfl, rfl, rfl⟩, fun b hb => ?_, q⟩
    have e : b = s1.heap.objs.size := by simpa using hb
    subst e
    exact I1.fpOk (Nat.le_refl _) (I1.hok.fresh (Nat.le_refl _))
  · subst e
    cases r1
    obtain ⟨its, rv, p, hz⟩ := I1.tuple hq
    refine wpAny_pyIter_tuple (show s1.heap.IsTuple a its.toArray from p) ?_
    refine ⟨s1.heap.objs.size, [s1.heap.objs.size], _, _, H1, rfl, I1.kept (t' := s1.toks) fun b o e => Heap.get?_push_of_some _ e, turn_tuple a _, ⟨_, Heap.get?_push_size _ rfl, rfl, rfl⟩, fun b hb => ?_, q⟩
    have e : b = s1.heap.objs.size := by simpa using hb
    subst e
    exact I1.fpOk (Nat.le_refl _) (I1.hok.fresh (Nat.le_refl _))
  · subst ex
    obtain ⟨t, rfl⟩ := r1
    cases ha : x.cps.all (· < 128)
    · exact wpAny_pyIter_wide ha (pi_one (tk := s1.toks) I1 _ (turn_str _ x t "str_iterator" (.inr rfl)) ⟨_, Heap.get?_push_size _ rfl, rfl, rfl⟩ q)
    · exact wpAny_pyIter_ascii ha (pi_one (tk := s1.toks) I1 _ (turn_str _ x t "str_ascii_iterator" (.inl rfl)) ⟨_, Heap.get?_push_size _ rfl, rfl, rfl⟩ q)
/-- a comprehension's loop over n items -/
theorem lc_gen {J : It} {n : Nat} {g : TG} {tt : TT} {te : TE} {vs : List Nat} {σ : L2.St} {H1 : Hp} {Dl : Addr} {Qd : Hp → Prop} (it : Nat → V → Prop) (Pv : Nat → Hp → Prop) (h0 : Pv 0 (upd H1 Dl (.lst [])))
    (hgo : ∀ i H, i < n → Pv i H → J.go i H) (hst : ∀ H, Pv n H → J.stop n H) (hy : ∀ i H x H', i < n → Pv i H → J.yld i H x H' → H' = H ∧ it i x)
    (hs : ∀ i x H, i < n → it i x → Pv i H → g x (wipe σ vs) H fun σ2 H2 => wipe σ2 vs = wipe σ vs ∧ tt σ2 H2 fun b H3 =>
      if b = true then te σ2 H3 fun y H4 => ∃ acc, H4 Dl = some (.lst acc) ∧ acc.length < sizeLine ∧ Pv (i + 1) (upd H4 Dl (.lst (acc ++ [y]))) else Pv (i + 1) H3) (hd : ∀ H, Pv n H → Qd H) :
    ∃ W : Nat → Nat → Hp → Prop, (∃ m, W 0 m (upd H1 Dl (.lst []))) ∧ ∀ i m H, W i m H →
      (J.stop i H ∧ Qd H) ∨ (J.go i H ∧ ∃ Nx : Hp → Prop, (∀ H', Nx H' → ∃ m', m' < m ∧ W (i + 1) m' H') ∧ ∀ x H', J.yld i H x H' → g x (wipe σ vs) H' fun σ2 H2 => wipe σ2 vs = wipe σ vs ∧ tt σ2 H2 fun b H3 =>
        if b = true then te σ2 H3 fun y H4 => ∃ acc, H4 Dl = some (.lst acc) ∧ acc.length < sizeLine ∧ Nx (upd H4 Dl (.lst (acc ++ [y]))) else Nx H3) := by
  refine ⟨fun i m H => m = n - i ∧ i ≤ n ∧ Pv i H, ⟨n, by simp, Nat.zero_le _, h0⟩, ?_⟩
  rintro i m H ⟨rfl, hi, p⟩
  by_cases hlt : i < n
  · refine .inr ⟨hgo i H hlt p, Pv (i + 1), fun H' p' => ⟨n - (i + 1), by omega, rfl, hlt, p'⟩, fun x H' y => ?_⟩
    obtain ⟨e, z⟩ := hy i H x H' hlt p y
    subst e
    exact hs i x _ hlt z p
  · have e : i = n := by omega
    subst e
    exact .inl ⟨hst H p, hd H p⟩
/-- what a target makes of an item -/
def TgOk (K : PySem.W.Frag) (g : TG) (σ0 : L2.St) (d : D) (P : L2.St → Hp → Prop) : Prop := ∀ x G H, Same G H → Dq K G x d → ∀ Q : L2.St → Hp → Prop, (∀ σ2, P σ2 G → Q σ2 H) → g x σ0 H Q
theorem tg_name {K : PySem.W.Frag} {j : Nat} {σ0 : L2.St} {d : D} : TgOk K (gName j) σ0 d (fun σ2 G => ∃ v, Dq K G v d ∧ σ2 = σ0.set j (some v)) := fun x G H e hx Q q => q _ ⟨x, hx, rfl⟩
theorem tg_two {K : PySem.W.Frag} {i j : Nat} {σ0 : L2.St} {d d' : D} : TgOk K (gTup K 2 (gCons (gName i) (gCons (gName j) gNil))) σ0 (.tup [d, d']) (fun σ2 G => ∃ v w, Dq K G v d ∧ Dq K G w d' ∧ σ2 = (σ0.set i (some v)).set j (some w)) := fun x G H e hx Q q => by
  cases hx with
  | @tup a xs _ hr hs =>
    cases hs with
    | cons h1 h2 =>
      cases h2 with
      | cons h2 h3 =>
        cases h3
        exact ⟨a, _, rfl, seqT (Rd.up e hr), rfl, _, _, rfl, _, _, rfl, rfl, q _ ⟨_, _, h1, h2, rfl⟩⟩
/-- what is walked -/
def D.items : D → Option (List D)
  | .lst ds => some ds
  | .tup ds => some ds
  | .str x => some (x.cps.toList.map fun c => .str ⟨#[c]⟩)
  | _ => none
section
variable {K : PySem.W.Frag} {σ : L2.St} {G : Hp} {tl te : TE} {tt : TT} {g : TG} {d : D} {ds : List D} {vs : List Nat}
/-- the comprehension's list so far, at Dl, the rest in G -/
def LcInv (K : PySem.W.Frag) (G0 H0 : Hp) (Dl : Addr) (ys : List D) (H : Hp) : Prop := ∃ G acc, Gr G0 H0 G H ∧ H0 Dl = none ∧ G Dl = none ∧ H Dl = some (.lst acc) ∧ Dqs K G acc ys
theorem lcInv_start {G H : Hp} {Dl : Addr} (e : Same G H) (hD : H Dl = none) : LcInv K G H Dl [] (upd H Dl (.lst [])) := ⟨G, [], Gr.ov e hD, hD, same_none e hD, upd_same, .nil⟩
theorem same_upd {G H : Hp} {p : Addr} {o : HO} (e : Same G H) (hp : G p = none) : Same G (upd H p o) := fun b u h => by
  rw [upd_ne (ne_of_none h hp)]
  exact e b u h
theorem lcInv_end {G H H' : Hp} {Dl : Addr} {ys : List D} (h : LcInv K G H Dl ys H') : ∃ G', Gr G H G' H' ∧ Dq K G' (.ref Dl) (.lst ys) := by
  obtain ⟨G1, acc, g, h0, h1, h2, h3⟩ := h
  refine ⟨upd G1 Dl (.lst acc), ⟨g.g.trans (same_new h1), g.h, fun b o e => ?_, fun b o e => ?_⟩, .lst (.inl upd_same) (h3.up (same_new h1))⟩
  · by_cases hb : b = Dl
    · subst hb; rw [upd_same] at e; rw [h2]; exact e
    · rw [upd_ne hb] at e; exact g.gh b o e
  · by_cases hb : b = Dl
    · subst hb; exact .inr h0
    · rw [upd_ne hb] at e; exact g.nw b o e
theorem gr_upd {G H G1 H1 : Hp} {p : Addr} {o : HO} (g : Gr G H G1 H1) (h0 : H p = none) (h1 : G1 p = none) : Gr G H G1 (upd H1 p o) :=
  ⟨g.g, fun b u e => by rw [upd_ne (ne_of_none e h0)]; exact g.h b u e, same_upd g.gh h1, g.nw⟩
/-- one turn -/
theorem lc_turn {H : Hp} {Dl : Addr} {ys : List D} {H' : Hp} {x : V} {di : D} {b : Bool} {y : D} {Pv : Hp → Prop} {P : L2.St → Hp → Prop} (p : LcInv K G H Dl ys H') (hz : ys.length < 100000) (hx : Dq K G x di) (hT : TgOk K g (wipe σ vs) di P)
    (hw : ∀ σ2 G1, P σ2 G1 → wipe σ2 vs = wipe σ vs) (ht : ∀ σ2 G1, Same G G1 → P σ2 G1 → EvB tt σ2 G1 b) (he : ∀ σ2 G1, Same G G1 → P σ2 G1 → b = true → EvD K te σ2 G1 y)
    (hP : ∀ H2, LcInv K G H Dl (if b = true then ys ++ [y] else ys) H2 → Pv H2) :
    g x (wipe σ vs) H' fun σ2 H2 => wipe σ2 vs = wipe σ vs ∧ tt σ2 H2 fun b' H3 => if b' = true then te σ2 H3 fun y' H4 => ∃ acc, H4 Dl = some (.lst acc) ∧ acc.length < sizeLine ∧ Pv (upd H4 Dl (.lst (acc ++ [y']))) else Pv H3 := by
  obtain ⟨G1, acc, g1, h0, h1, h2, h3⟩ := p
  refine hT x G1 H' g1.gh (hx.up g1.g) _ fun σ2 p2 => ⟨hw σ2 G1 p2, ?_⟩
  refine ht σ2 G1 g1.g p2 H' g1.gh _ fun G2 H2 g2 => ?_
  have a2 := g2.apart h2 h1
  cases b with
  | false => exact iteF (hP _ (by rw [if_neg Bool.false_ne_true]; exact ⟨G2, acc, g1.trans g2, h0, a2, g2.h _ _ h2, h3.up g2.g⟩))
  | true =>
    refine iteT (((he σ2 G1 g1.g p2 rfl).up g2.g) H2 g2.gh _ fun v G3 H3 g3 hv => ?_)
    have e3 := g3.h _ _ (g2.h _ _ h2)
    have a3 := g3.apart (g2.h _ _ h2) a2
    refine ⟨acc, e3, Nat.lt_of_lt_of_le (by rw [h3.length]; exact hz) (show 100000 ≤ sizeLine by decide), hP _ ?_⟩
    rw [if_pos rfl]
    exact ⟨G3, acc ++ [v], gr_upd (g1.trans (g2.trans g3)) h0 a3, h0, a3, upd_same, (h3.up (g2.g.trans g3.g)).snoc hv⟩
theorem take_next {α : Type} {l : List α} {i : Nat} {x : α} (h : l[i]? = some x) : l.take (i + 1) = l.take i ++ [x] := by
  rw [List.take_succ, h]
  rfl
theorem fm_next {ds : List D} {i : Nat} {x : D} (f : D → Bool) (v : D → D) (h : ds[i]? = some x) : ((ds.take (i + 1)).filter f).map v = if f x = true then ((ds.take i).filter f).map v ++ [v x] else ((ds.take i).filter f).map v := by
  rw [take_next h, List.filter_append, List.map_append]
  cases e : f x with
  | true => simp [e]
  | false => simp [e]
theorem fm_len {ds : List D} {i : Nat} (f : D → Bool) (v : D → D) : (((ds.take i).filter f).map v).length ≤ ds.length := by
  rw [List.length_map]
  exact Nat.le_trans (List.length_filter_le _ _) (List.length_take_le' _ _)
/-- [e for target in s if t], s a list, a tuple, a text -/
theorem ev_lc (h : EvD K tl σ G d) (hi : d.items = some ds) (hz : ds.length < 50000) (f : D → Bool) (v : D → D) (P : D → L2.St → Hp → Prop) (hT : ∀ di ∈ ds, TgOk K g (wipe σ vs) di (P di)) (hw : ∀ di σ2 G1, di ∈ ds → P di σ2 G1 → wipe σ2 vs = wipe σ vs)
    (ht : ∀ di σ2 G1, di ∈ ds → Same G G1 → P di σ2 G1 → EvB tt σ2 G1 (f di)) (he : ∀ di σ2 G1, di ∈ ds → Same G G1 → P di σ2 G1 → f di = true → EvD K te σ2 G1 (v di)) : EvD K (tLc (iSeq K tl) g tt te vs) σ G (.lst ((ds.filter f).map v)) := fun H e Q q =>
  h H e _ fun x G1 H1 g1 hx => by
    have fin : ∀ (Dl : Addr) (H' : Hp), LcInv K G1 H1 Dl (((ds.take ds.length).filter f).map v) H' → Q (.ref Dl) H' := fun Dl H' p => by
      obtain ⟨G', g2, hv⟩ := lcInv_end p
      rw [List.take_length] at hv
      exact q _ G' H' (g1.trans g2) hv
    have turn : ∀ (Dl : Addr) (i : Nat) (x : V) (H' : Hp), i < ds.length → (∃ di, ds[i]? = some di ∧ Dq K G1 x di) → LcInv K G1 H1 Dl (((ds.take i).filter f).map v) H' →
        g x (wipe σ vs) H' fun σ2 H2 => wipe σ2 vs = wipe σ vs ∧ tt σ2 H2 fun b' H3 => if b' = true then te σ2 H3 fun y' H4 => ∃ acc, H4 Dl = some (.lst acc) ∧ acc.length < sizeLine ∧ LcInv K G1 H1 Dl (((ds.take (i + 1)).filter f).map v) (upd H4 Dl (.lst (acc ++ [y'])))
          else LcInv K G1 H1 Dl (((ds.take (i + 1)).filter f).map v) H3 := fun Dl i x H' hlt ⟨di, hdi, hq⟩ p => by
      have hm := List.mem_of_getElem? hdi
      refine lc_turn (b := f di) (y := v di) p (by have := fm_len (ds := ds) (i := i) f v; omega) hq (hT di hm) (fun σ2 G2 z => hw di σ2 G2 hm z) (fun σ2 G2 e2 z => ht di σ2 G2 hm (g1.g.trans e2) z) (fun σ2 G2 e2 z hb => he di σ2 G2 hm (g1.g.trans e2) z hb) fun H2 p2 => ?_
      rw [fm_next f v hdi]
      exact p2
    cases hx with
    | @lst a xs ds' hr hs =>
      obtain rfl : ds' = ds := Option.some.inj hi
      refine .inl ⟨a, rfl, ⟨xs, seqL (Rd.up g1.gh hr)⟩, fun Dl hD => ?_⟩
      have sq : ∀ (ys : List D) (H' : Hp), LcInv K G1 H1 Dl ys H' → SqL K H' a xs := fun ys H' ⟨G2, acc, g2, _, _, _, _⟩ => seqL (Rd.up g2.gh (Rd.up g2.g hr))
      exact lc_gen (n := ds'.length) (fun i x => ∃ di, ds'[i]? = some di ∧ Dq K G1 x di) (fun i H' => LcInv K G1 H1 Dl (((ds'.take i).filter f).map v) H') (lcInv_start g1.gh hD)
        (fun i H' hlt p => ⟨xs, xs[i]'(by rw [hs.length]; exact hlt), sq _ H' p, by simp [hs.length, hlt]⟩) (fun H' p => ⟨xs, sq _ H' p, Nat.le_of_eq hs.length⟩)
        (fun i H' x H'' hlt p y => ⟨y.1, hs.at (y.2 xs (sq _ H' p))⟩) (fun i x H' hlt hq p => turn Dl i x H' hlt hq p) (fun H' p => fin Dl H' p)
    | @tup a xs ds' hr hs =>
      obtain rfl : ds' = ds := Option.some.inj hi
      refine .inr (.inl ⟨a, rfl, ⟨xs, seqT (Rd.up g1.gh hr)⟩, fun Dl hD => ?_⟩)
      have sq : ∀ (ys : List D) (H' : Hp), LcInv K G1 H1 Dl ys H' → SqT K H' a xs := fun ys H' ⟨G2, acc, g2, _, _, _, _⟩ => seqT (Rd.up g2.gh (Rd.up g2.g hr))
      exact lc_gen (n := ds'.length) (fun i x => ∃ di, ds'[i]? = some di ∧ Dq K G1 x di) (fun i H' => LcInv K G1 H1 Dl (((ds'.take i).filter f).map v) H') (lcInv_start g1.gh hD)
        (fun i H' hlt p => ⟨xs, xs[i]'(by rw [hs.length]; exact hlt), sq _ H' p, by simp [hs.length, hlt]⟩) (fun H' p => ⟨xs, sq _ H' p, Nat.le_of_eq hs.length⟩)
        (fun i H' x H'' hlt p y => ⟨y.1, hs.at (y.2 xs (sq _ H' p))⟩) (fun i x H' hlt hq p => turn Dl i x H' hlt hq p) (fun H' p => fin Dl H' p)
    | str x =>
      have hds : ds = x.cps.toList.map fun c => .str ⟨#[c]⟩ := (Option.some.inj hi).symm
      have hn : ds.length = x.cps.size := by rw [hds, List.length_map]; simp
      refine .inr (.inr ⟨x, rfl, fun Dl hD => ?_⟩)
      exact lc_gen (n := ds.length) (fun i w => ∃ di, ds[i]? = some di ∧ Dq K G1 w di) (fun i H' => LcInv K G1 H1 Dl (((ds.take i).filter f).map v) H') (lcInv_start g1.gh hD)
        (fun i H' hlt p => by rw [hn] at hlt; exact hlt) (fun H' p => Nat.le_of_eq hn.symm)
        (fun i H' w H'' hlt p y => ⟨y.1, by
          obtain ⟨c, hc, rfl⟩ := y.2
          refine ⟨.str ⟨#[c]⟩, ?_, .str _⟩
          rw [hds, List.getElem?_map]
          have : x.cps.toList[i]? = some c := by rw [Array.getElem?_toList]; exact hc
          rw [this]
          rfl⟩) (fun i x H' hlt hq p => turn Dl i x H' hlt hq p) (fun H' p => fin Dl H' p)
    | non => cases hi
    | bl b => cases hi
    | int i => cases hi
    | dic h _ _ => cases hi
end
end Pk
/-! Defs by name. -/
namespace Pk
open PySem PySem.Spec PyProof.Rows L2
/-- the def called x keeps the promise sp -/
structure Has (P : Program) (w : World) (K : PySem.W.Frag) (mg : Str → Option Value) (base : Heap) (CX : CXT) (x : Str) (k : Nat) (ps : List Str) (sp : Sp) : Prop where
  ex : ∃ f fd, FnOk P w K mg base CX k f fd ps sp ∧ mg x = some (.ref f) ∧ PySem.W.keepIn K (.ref f) = true ∧ Binds K fd ps []
section
variable {P : Program} {w : World} {K : PySem.W.Frag} {mg : Str → Option Value} {base : Heap}
theorem Has.mono {CX : CXT} {x : Str} {j k : Nat} {ps : List Str} {sp : Sp} (h : Has P w K mg base CX x j ps sp) (l : j ≤ k) : Has P w K mg base CX x k ps sp := by
  obtain ⟨f, fd, F, r⟩ := h.ex
  exact ⟨f, fd, F.mono l, r⟩
theorem Has.imp {CX : CXT} {x : Str} {k : Nat} {ps : List Str} {sp sp' : Sp} (h : Has P w K mg base CX x k ps sp) (i : ∀ vs H Q E, sp' vs H Q E → sp vs H Q E) : Has P w K mg base CX x k ps sp' := by
  obtain ⟨f, fd, F, r⟩ := h.ex
  exact ⟨f, fd, F.imp i, r⟩
/-- a def of the text -/
theorem has_of {y x qual : Str} {params : Arguments} {body : List Stmt} {scope : Scope} {f : Addr} {fd : FuncData} {N ps : List Str} {k : Nat} {sp : Sp} (F : FunD K x qual params body scope [] [] f fd) (hm : mg y = some (.ref f)) (S : FnScope N ps scope)
    (hb : ∀ (kV doc pm : Value) (an : Option Addr) (cdv ct : Value) (us : List Value), us.length = ps.length → bindArgs (PySem.W.fnOf x qual params body scope .none kV doc pm an cdv ct) ⟨us, []⟩ = pure (ps.zip us))
    (len : ∀ vs H Q E, sp vs H Q E → vs.length = ps.length)
    (hbody : ∀ (cdv : Value) (A : Around) (outer : List Env) (s : Shared) (H : Hp) (vs : List V) (Q : VK) (E : XK), Room k (A.deeper (envOfC qual scope s.heap.objs.size f cdv)) → sp vs H Q E →
      ∃ t, PSs (cxOf CX0 P w K mg base N qual scope f cdv A outer s H E).nox body t ∧ t { nx := fun _ H' => Q .non H', rt := Q } (start N vs) H) : Has P w K mg base CX0 y (k + 1) ps sp :=
  ⟨f, fd, F.ok S len fun cdv A outer s H vs Q E hr h => by
    obtain ⟨t, h1, h2⟩ := hbody cdv A outer s H vs Q E hr h
    exact ⟨t, h1.nox, h2⟩, hm, F.kp, F.bindsN hb⟩
theorem fn_of {x qual : Str} {params : Arguments} {body : List Stmt} {scope : Scope} {f : Addr} {fd : FuncData} {N ps : List Str} {k : Nat} {sp : Sp} (F : FunD K x qual params body scope [] [] f fd) (S : FnScope N ps scope)
    (len : ∀ vs H Q E, sp vs H Q E → vs.length = ps.length)
    (hbody : ∀ (cdv : Value) (A : Around) (outer : List Env) (s : Shared) (H : Hp) (vs : List V) (Q : VK) (E : XK), Room k (A.deeper (envOfC qual scope s.heap.objs.size f cdv)) → sp vs H Q E →
      ∃ t, PSs (cxOf CX0 P w K mg base N qual scope f cdv A outer s H E).nox body t ∧ t { nx := fun _ H' => Q .non H', rt := Q } (start N vs) H) : FnOk P w K mg base CX0 (k + 1) f fd ps sp :=
  F.ok S len fun cdv A outer s H vs Q E hr h => by
    obtain ⟨t, h1, h2⟩ := hbody cdv A outer s H vs Q E hr h
    exact ⟨t, h1.nox, h2⟩
/-- a def that may raise -/
theorem has_ofX {y x qual : Str} {params : Arguments} {body : List Stmt} {scope : Scope} {f : Addr} {fd : FuncData} {N ps : List Str} {k : Nat} {sp : Sp} (F : FunD K x qual params body scope [] [] f fd) (hm : mg y = some (.ref f)) (S : FnScope N ps scope)
    (hb : ∀ (kV doc pm : Value) (an : Option Addr) (cdv ct : Value) (us : List Value), us.length = ps.length → bindArgs (PySem.W.fnOf x qual params body scope .none kV doc pm an cdv ct) ⟨us, []⟩ = pure (ps.zip us))
    (len : ∀ vs H Q E, sp vs H Q E → vs.length = ps.length)
    (hbody : ∀ (cdv : Value) (A : Around) (outer : List Env) (s : Shared) (H : Hp) (vs : List V) (Q : VK) (E : XK), Room k (A.deeper (envOfC qual scope s.heap.objs.size f cdv)) → sp vs H Q E →
      ∃ t, PSs (cxOf (L2.CX P w) P w K mg base N qual scope f cdv A outer s H E) body t ∧ t { nx := fun _ H' => Q .non H', rt := Q } (start N vs) H) : Has P w K mg base (L2.CX P w) y (k + 1) ps sp :=
  ⟨f, fd, F.ok S len hbody, hm, F.kp, F.bindsN hb⟩
end
section
variable {X : Cx} {k : Nat} {ps : List Str} {sp : Sp} {x : Str} {p pos : Pos} {e : Expr} {es : List Expr} {t : TA}
theorem pe_h (h : Has X.prog X.w X.K X.mg X.base CX0 x k ps sp) (hr : Room k X.A) (hg : Gl X x) (ha : PA X (e :: es) t) (hdb : (x == ("__debug__" : Str)) = false := by decide)
    (he : starEach (e :: es) X.env = (false, eval e X.env) :: starEach es X.env := by rfl) (hpl : (backTo pos (starEach es X.env)).any (·.1) = false := by rfl) : PE X (.Call (.Name x p) (e :: es) [] pos) (tCall sp [] E0 t) := by
  obtain ⟨f, fd, F, hm, hk, hb⟩ := h.ex
  exact pe_call F hr hg hm hk hb .nil pass0 ha hdb he hpl
/-- a call of a def that may raise, where nothing that is raised may leave -/
theorem pe_hL (h : Has X.prog X.w X.K X.mg X.base (L2.CX X.prog X.w) x k ps sp) (hr : Room k X.A) (hg : Gl X x) (ha : PA X (e :: es) t) (hdb : (x == ("__debug__" : Str)) = false := by decide)
    (he : starEach (e :: es) X.env = (false, eval e X.env) :: starEach es X.env := by rfl) (hpl : (backTo pos (starEach es X.env)).any (·.1) = false := by rfl) : PE X (.Call (.Name x p) (e :: es) [] pos) (tCall sp [] E0 t) := by
  obtain ⟨f, fd, F, hm, hk, hb⟩ := h.ex
  exact pe_call F hr hg hm hk hb .nil passL ha hdb he hpl
end
end Pk
namespace T47
open PySem PySem.Spec PyProof.Rows L2 Pk
structure Tx (w : World) (K : PySem.W.Frag) (mg : Str → Option Value) : Prop where
  ex : ∃ h : Heap, K.In h ∧ h.Ns mainGlobals mg ∧ He.SaysX fa fn [] tf T47.ex w h K
section
variable {w : World} {K : PySem.W.Frag} {mg : Str → Option Value}
theorem Tx.free (T : Tx w K mg) {x : Str} (j : Nat) (h : fa[j]? = some (.free x) := by rfl) : mg x = none := by
  obtain ⟨hh, X, G, c⟩ := T.ex
  exact He.free_ok X G (c.t.d.fact j h)
theorem Tx.glo (T : Tx w K mg) {x : Str} (j : Nat) (h : fa[j]? = some (.glo x) := by rfl) : mg x = some (.ref (He.ga K x)) := by
  obtain ⟨hh, X, G, c⟩ := T.ex
  exact He.glo_ok X G (c.t.d.fact j h)
theorem Tx.str (T : Tx w K mg) {x z : Str} (j : Nat) (h : fa[j]? = some (.str x z) := by rfl) : ∃ t, mg x = some (.str z t) := by
  obtain ⟨hh, X, G, c⟩ := T.ex
  exact He.str_ok X G (c.t.d.fact j h)
theorem Tx.fact (T : Tx w K mg) {f : He.Fa} (j : Nat) (h : fa[j]? = some f := by rfl) : f.ok K = true := by
  obtain ⟨hh, X, G, c⟩ := T.ex
  exact c.t.d.fact j h
theorem Tx.def_ (T : Tx w K mg) {d : He.DefD} (i : Nat) (h : fn[i]? = some d := by rfl) : ∃ fd, FunD K d.name d.qual d.params d.body d.scope (d.dvs K) (d.kws K) (He.fAd K d.at_) fd := by
  obtain ⟨hh, X, G, c⟩ := T.ex
  exact c.t.d.def_ i h
theorem Tx.more (T : Tx w K mg) : T47.ex K = true := by
  obtain ⟨hh, X, G, c⟩ := T.ex
  exact c.more
end
end T47
/-! Blocks that tell a datum; texts, orders, slices. -/
namespace Pk
open PySem PySem.Spec PyProof.Rows L2
section
variable {K : PySem.W.Frag}
def isS : D → Bool
  | .str _ => true
  | _ => false
def isL : D → Bool
  | .lst _ => true
  | .tup _ => true
  | _ => false
theorem kit_s : ∀ d : D, kitB d.ty "str" = some (isS d)
  | .non => (by decide +kernel : kitB "NoneType" "str" = some false)
  | .bl _ => (by decide +kernel : kitB "bool" "str" = some false)
  | .int _ => (by decide +kernel : kitB "int" "str" = some false)
  | .str _ => (by decide +kernel : kitB "str" "str" = some true)
  | .lst _ => (by decide +kernel : kitB "list" "str" = some false)
  | .tup _ => (by decide +kernel : kitB "tuple" "str" = some false)
  | .dic _ => (by decide +kernel : kitB "dict" "str" = some false)
theorem kit_l : ∀ d : D, isiB d.ty ["list", "tuple"] = some (isL d)
  | .non => (by decide +kernel : isiB "NoneType" ["list", "tuple"] = some false)
  | .bl _ => (by decide +kernel : isiB "bool" ["list", "tuple"] = some false)
  | .int _ => (by decide +kernel : isiB "int" ["list", "tuple"] = some false)
  | .str _ => (by decide +kernel : isiB "str" ["list", "tuple"] = some false)
  | .lst _ => (by decide +kernel : isiB "list" ["list", "tuple"] = some true)
  | .tup _ => (by decide +kernel : isiB "tuple" ["list", "tuple"] = some true)
  | .dic _ => (by decide +kernel : isiB "dict" ["list", "tuple"] = some false)
theorem cutS_len (x : Str) {lo hi : Option Int} : (cutS x lo hi).length ≤ x.length := by
  unfold cutS
  simp only [Str.length, List.size_toArray, List.length_take, List.length_drop, Array.length_toList]
  omega
/-- a block that hands back a datum -/
def EvR (K : PySem.W.Frag) (ts : TS) (σ : L2.St) (G : Hp) (d : D) : Prop := ∀ H, Same G H → ∀ (E : Ends), (∀ v G' H', Gr G H G' H' → Dq K G' v d → E.rt v H') → ts E σ H
variable {σ : L2.St} {G G1 H : Hp} {te ta tb tl th : TE} {tt uu : TT} {t u ts : TS} {as : TA} {d d' z : D} {ds es : List D} {b : Bool}
theorem EvR.up (h : EvR K ts σ G d) (e : Same G G1) : EvR K ts σ G1 d := fun H e1 E q => h H (e.trans e1) E fun v G' H' g hv => by
  obtain ⟨g1, g2⟩ := g.up e e1
  exact q v _ H' g1 (hv.up g2)
theorem r_ret (h : EvD K te σ G d) : EvR K (tRet te) σ G d := fun H e E q => h H e _ q
theorem r_if (h : EvB tt σ G b) (h1 : b = true → EvR K t σ G d) (h2 : b = false → EvR K u σ G d) : EvR K (tIfS tt t u) σ G d := fun H e E q => h H e _ fun G1 H1 g1 => by
  cases b with
  | true => exact iteT ((h1 rfl).up g1.g H1 g1.gh E fun v G2 H2 g2 hv => q v G2 H2 (g1.trans g2) hv)
  | false => exact iteF ((h2 rfl).up g1.g H1 g1.gh E fun v G2 H2 g2 hv => q v G2 H2 (g1.trans g2) hv)
/-- if c: .. return; the rest -/
theorem r_ifq (h : EvB tt σ G b) (h1 : b = true → EvR K t σ G d) (h2 : b = false → EvR K u σ G d) : EvR K (tSeq (tIfS tt t tNext) u) σ G d := fun H e E q => h H e _ fun G1 H1 g1 => by
  cases b with
  | true => exact iteT ((h1 rfl).up g1.g H1 g1.gh _ fun v G2 H2 g2 hv => q v G2 H2 (g1.trans g2) hv)
  | false => exact iteF ((h2 rfl).up g1.g H1 g1.gh _ fun v G2 H2 g2 hv => q v G2 H2 (g1.trans g2) hv)
theorem r_set {i : Nat} (h : EvD K te σ G d') (k : ∀ v G1, Same G G1 → Dq K G1 v d' → EvR K u (σ.set i (some v)) G1 d) : EvR K (tSeq (tAsg te (gName i)) u) σ G d := fun H e E q => h H e _ fun v G1 H1 g1 hv =>
  k v G1 g1.g hv H1 g1.gh _ fun w G2 H2 g2 hw => q w G2 H2 (g1.trans g2) hw
theorem EvR.is (h : EvR K ts σ G d) (e : d = d') : EvR K ts σ G d' := e ▸ h
/-! ### order of ints, equality of scalars -/
theorem ev_I0 {g : Int → Int → V} {i j : Int} (ha : EvD K ta σ G (.int i)) (hb : EvD K tb σ G (.int j)) (hz : Dq K (fun _ => none) (g i j) z) : EvD K (tOp (rI0 g) ta tb) σ G z :=
  ev_op ha hb fun x y G1 H1 _ e2 hx hy Q q => by
    cases hx; cases hy
    exact ⟨i, j, rfl, rfl, q _ (hz.up fun _ _ h => by cases h)⟩
def D.scal : D → Option V
  | .non => some .non | .bl b => some (.bl b) | .int i => some (.int i) | .str x => some (.str x) | _ => none
theorem scal_eq {G : Hp} {v w : V} {d : D} (h : Dq K G v d) (e : d.scal = some w) : v = w := by
  cases h <;> first | (cases e; rfl) | cases e
theorem ev_eq {v w : V} (ha : EvD K ta σ G d) (hb : EvD K tb σ G d') (h1 : d.scal = some v) (h2 : d'.scal = some w) (hs : L2.scal v w = true) : EvD K (tOp rEq ta tb) σ G (.bl (decide (v = w))) :=
  ev_op ha hb fun x y G1 H1 _ e2 hx hy Q q => by
    obtain rfl := scal_eq hx h1
    obtain rfl := scal_eq hy h2
    exact ⟨hs, q _ (.bl _)⟩
theorem ev_ne {v w : V} (ha : EvD K ta σ G d) (hb : EvD K tb σ G d') (h1 : d.scal = some v) (h2 : d'.scal = some w) (hs : L2.scal v w = true) : EvD K (tOp rNe ta tb) σ G (.bl (!decide (v = w))) :=
  ev_op ha hb fun x y G1 H1 _ e2 hx hy Q q => by
    obtain rfl := scal_eq hx h1
    obtain rfl := scal_eq hy h2
    exact ⟨hs, q _ (.bl _)⟩
theorem ev_isN (ha : EvD K ta σ G d) (hz : b = (match d with | .non => true | _ => false)) : EvD K (tOp (fun x y H Q => y = V.non ∧ Q (.bl (decide (x = .non))) H) ta (tC .non)) σ G (.bl b) := fun H e Q q => ha H e _ fun v G1 H1 g1 hv => ⟨rfl, by
  subst hz
  cases hv <;> exact q _ G1 H1 g1 (.bl _)⟩
theorem ev_notN (ha : EvD K ta σ G d) (hz : b = (match d with | .non => false | _ => true)) : EvD K (tOp (fun x y H Q => y = V.non ∧ Q (.bl (!decide (x = .non))) H) ta (tC .non)) σ G (.bl b) := fun H e Q q => ha H e _ fun v G1 H1 g1 hv => ⟨rfl, by
  subst hz
  cases hv <;> exact q _ G1 H1 g1 (.bl _)⟩
/-- a < b < c of ints -/
theorem ev_chain {g g' : Int → Int → Bool} {i j k : Int} (ha : EvD K ta σ G (.int i)) (hb : EvD K tb σ G (.int j)) (hc : EvD K tl σ G (.int k)) : EvD K (tChain (rI0 fun i j => .bl (g i j)) (rI0 fun i j => .bl (g' i j)) ta tb tl) σ G (.bl (g i j && g' j k)) := fun H e Q q =>
  ha H e _ fun x G1 H1 g1 hx => (hb.up g1.g) H1 g1.gh _ fun y G2 H2 g2 hy => by
    cases hx; cases hy
    refine ⟨i, j, rfl, rfl, g i j, rfl, ?_⟩
    cases hg : g i j with
    | false => exact iteF (q _ G2 H2 (g1.trans g2) (by rw [hg]; exact .bl _))
    | true => exact iteT (hc.up (g1.g.trans g2.g) H2 g2.gh _ fun w G3 H3 g3 hw => by
        cases hw
        exact ⟨j, k, rfl, rfl, q _ G3 H3 (g1.trans (g2.trans g3)) (by rw [hg]; exact .bl _)⟩)
/-! ### texts -/
theorem ev_inS {c : Nat} {x : Str} (ha : EvD K ta σ G (.str ⟨#[c]⟩)) (hb : EvD K tb σ G (.str x)) : EvD K (tOp (fun x y H Q => ∃ (c : Nat) (z : Str), x = .str ⟨#[c]⟩ ∧ y = .str z ∧ Q (.bl (decide (c ∈ z.cps.toList))) H) ta tb) σ G (.bl (decide (c ∈ x.cps.toList))) :=
  ev_op ha hb fun v w G1 H1 _ e2 hx hy Q q => by
    cases hx; cases hy
    exact ⟨c, x, rfl, rfl, q _ (.bl _)⟩
theorem ev_notInS {c : Nat} {x : Str} (ha : EvD K ta σ G (.str ⟨#[c]⟩)) (hb : EvD K tb σ G (.str x)) : EvD K (tOp (fun x y H Q => ∃ (c : Nat) (z : Str), x = .str ⟨#[c]⟩ ∧ y = .str z ∧ Q (.bl (!decide (c ∈ z.cps.toList))) H) ta tb) σ G (.bl (!decide (c ∈ x.cps.toList))) :=
  ev_op ha hb fun v w G1 H1 _ e2 hx hy Q q => by
    cases hx; cases hy
    exact ⟨c, x, rfl, rfl, q _ (.bl _)⟩
theorem ev_addS {x y : Str} (ha : EvD K ta σ G (.str x)) (hb : EvD K tb σ G (.str y)) (hl : x.length + y.length ≤ sizeLine) : EvD K (tOp (fun x y H Q => ∃ i j, x = V.str i ∧ y = .str j ∧ i.length + j.length ≤ sizeLine ∧ Q (.str (i ++ j)) H) ta tb) σ G (.str (x ++ y)) :=
  ev_op ha hb fun v w G1 H1 _ e2 hx hy Q q => by
    cases hx; cases hy
    exact ⟨x, y, rfl, rfl, hl, q _ (.str _)⟩
/-- s[i] of a text -/
theorem ev_ixS {x : Str} {i : Nat} {c : Nat} (h : EvD K ta σ G (.str x)) (hl : x.length ≤ sizeLine) (hc : x.cps.toList[i]? = some c) : EvD K (tOp (rIx K) ta (tC (.int i))) σ G (.str ⟨#[c]⟩) := fun H e Q q => h H e _ fun v G1 H1 g1 hv => by
  cases hv
  exact rIx_S ⟨x, i, c, rfl, rfl, hl, atI_nat hc, q _ G1 H1 g1 (.str _)⟩
/-- x in t, t a tuple of texts that stands written -/
theorem ev_inT {p : Addr} {x : Str} {xs : List Str} (ha : EvD K ta σ G (.str x)) (hp : ∀ H, SqT K H p (xs.map V.str)) : EvD K (tOp (rIn K false) ta (tC (.ref p))) σ G (.bl (xs.any fun y => decide (y = x))) := fun H e Q q => ha H e _ fun v G1 H1 g1 hv => by
  cases hv
  refine ⟨p, xs.map V.str, rfl, .inr (hp H1), rfl, by rw [List.all_map]; exact List.all_eq_true.mpr fun _ _ => rfl, ?_⟩
  have e : inV (.str x) (xs.map V.str) = xs.any fun y => decide (y = x) := by
    unfold inV
    rw [List.any_map]
    rfl
  show Q (.bl (inV (.str x) (xs.map V.str))) H1
  rw [e]
  exact q _ G1 H1 g1 (.bl _)
/-- x in (a, b, ..), written texts -/
theorem ev_inW {x : Str} {xs : List Str} (ha : EvD K ta σ G (.str x)) (hb : EvD K tb σ G (.tup (xs.map D.str))) : EvD K (tOp (rIn K false) ta tb) σ G (.bl (xs.any fun y => decide (y = x))) :=
  ev_op ha hb fun v w G1 H1 _ e2 hx hy Q q => by
    cases hx
    cases hy with
    | @tup a vs _ hr hs =>
      have := dqs_str hs
      subst this
      refine ⟨a, xs.map V.str, rfl, .inr (seqT (Rd.up e2 hr)), rfl, by rw [List.all_map]; exact List.all_eq_true.mpr fun _ _ => rfl, ?_⟩
      have e : inV (.str x) (xs.map V.str) = xs.any fun y => decide (y = x) := by
        unfold inV
        rw [List.any_map]
        rfl
      show Q (.bl (inV (.str x) (xs.map V.str))) H1
      rw [e]
      exact q _ (.bl _)
/-- s[a:b] of a text -/
theorem ev_slS {x : Str} {lo hi : Option Int} {to tp : TO} (h : EvD K ta σ G (.str x)) (hl : x.length ≤ sizeLine) (h1 : ∀ (H : Hp) (Q : Option Int → Hp → Prop), Q lo H → to σ H Q) (h2 : ∀ (H : Hp) (Q : Option Int → Hp → Prop), Q hi H → tp σ H Q) :
    EvD K (tSl (fun x lo hi H Q => ∃ z : Str, x = .str z ∧ z.length ≤ sizeLine ∧ Q (.str (cutS z lo hi)) H) ta to tp) σ G (.str (cutS x lo hi)) := fun H e Q q => h H e _ fun v G1 H1 g1 hv => by
  cases hv
  exact h1 H1 _ (h2 H1 _ ⟨x, rfl, hl, q _ G1 H1 g1 (.str _)⟩)
theorem po_no {H : Hp} {Q : Option Int → Hp → Prop} (h : Q none H) : tNoPart σ H Q := h
theorem po_int {i : Int} {H : Hp} {Q : Option Int → Hp → Prop} (h : Q (some i) H) : tPart (tC (.int i)) σ H Q := ⟨i, rfl, h⟩
end
end Pk
namespace T47
open PySem PySem.Spec PyProof.Rows L2 Pk
theorem Tx.words {w : World} {K : PySem.W.Frag} {mg : Str → Option Value} (T : Tx w K mg) : mg "WORDS" = some (.ref (He.ga K "WORDS")) ∧ ∀ H, SqT K H (He.ga K "WORDS") (wordsL.map V.str) := by
  have m := T.more
  unfold T47.ex at m
  have m2 := (He.ba (He.ba m).2).2
  have m3 : ∀ H, SqT K H (He.ga K "WORDS") ((wordsL.map He.Dv.str).map (He.Dv.v K)) := fun H => He.tupB_ok m2 H
  rw [List.map_map] at m3
  exact ⟨T.glo 116, m3⟩
end T47
namespace Pk
open PySem PySem.Spec PyProof.Rows L2
/-! ### dicts by names -/
def lookD (kvs : List (Str × D)) (x : Str) : Option D := (kvs.find? fun p => decide (p.1 = x)).map (·.2)
theorem lookD_cons (p : Str × D) (kvs : List (Str × D)) (x : Str) : lookD (p :: kvs) x = if p.1 = x then some p.2 else lookD kvs x := by
  unfold lookD
  rw [List.find?_cons]
  by_cases h : p.1 = x
  · simp [h]
  · simp [h]
theorem lookD_nil (x : Str) : lookD [] x = none := rfl
section
variable {K : PySem.W.Frag} {G : Hp}
theorem dic_look : ∀ {kvs : List (Str × D)} {ws : List (Key × V)} {x : Str}, ws.map (·.1) = kvs.map (fun p => (Sum.inr p.1 : Key)) → Dqs K G (ws.map (·.2)) (kvs.map (·.2)) →
    (∃ v d, valV ws (Sum.inr x : Key) = some v ∧ lookD kvs x = some d ∧ Dq K G v d) ∨ (valV ws (Sum.inr x : Key) = none ∧ lookD kvs x = none)
  | [], ws, x, h, _ => by
    cases ws with
    | nil => exact .inr ⟨rfl, rfl⟩
    | cons a b => cases h
  | p :: kvs, ws, x, h, hs => by
    cases ws with
    | nil => cases h
    | cons a b =>
      obtain ⟨h1, h2⟩ := List.cons.inj h
      have h1 : a.1 = (Sum.inr p.1 : Key) := h1
      cases hs with
      | cons q qs =>
        rw [lookD_cons]
        by_cases e : p.1 = x
        · rw [if_pos e]
          exact .inl ⟨a.2, p.2, valV_pos (by rw [h1, e]), rfl, q⟩
        · rw [if_neg e]
          have e' : a.1 ≠ (Sum.inr x : Key) := fun z => e (by rw [h1] at z; exact Sum.inr.inj z)
          have hv : valV (a :: b) (Sum.inr x : Key) = valV b (Sum.inr x) := by simp [valV, List.find?_cons, e']
          rw [hv]
          exact dic_look h2 qs
variable {σ : L2.St} {te ta tb tl th td ty : TE} {as : TA} {d d' z : D} {ds es : List D} {kvs : List (Str × D)} {x : Str} {b : Bool}
theorem ev_dget (hd : EvD K td σ G (.dic kvs)) (hx : EvD K ty σ G (.str x)) (h : lookD kvs x = some d) : EvD K (tDGet td ty) σ G d := fun H e Q q =>
  hd H e _ fun v G1 H1 g1 hv => (hx.up g1.g) H1 g1.gh _ fun y G2 H2 g2 hy => by
    cases hv with
    | @dic a o ws _ hr hk hs =>
      cases hy
      rcases dic_look (x := x) hk hs with ⟨v, d0, e1, e2, hq⟩ | ⟨e1, e2⟩
      · rw [h] at e2
        cases e2
        exact ⟨a, v, rfl, .inl ⟨ws, Sum.inr x, Or.inr ⟨_, g2.gh _ _ (g2.g _ _ hr)⟩, rfl, e1.symm⟩, q v G2 H2 (g1.trans g2) (hq.up g2.g)⟩
      · rw [h] at e2
        cases e2
theorem ev_din (hx : EvD K ty σ G (.str x)) (hd : EvD K td σ G (.dic kvs)) : EvD K (tDIn ty td) σ G (.bl (lookD kvs x).isSome) := fun H e Q q =>
  hx H e _ fun y G1 H1 g1 hy => (hd.up g1.g) H1 g1.gh _ fun v G2 H2 g2 hv => by
    cases hy
    cases hv with
    | @dic a o ws _ hr hk hs =>
      refine ⟨a, _, rfl, .inl ⟨ws, Sum.inr x, Or.inr ⟨_, g2.gh _ _ hr⟩, rfl, rfl⟩, ?_⟩
      rcases dic_look (x := x) hk hs with ⟨v, d0, e1, e2, hq⟩ | ⟨e1, e2⟩
      · rw [e1]
        exact q _ G2 H2 (g1.trans g2) (by rw [e2]; exact .bl _)
      · rw [e1]
        exact q _ G2 H2 (g1.trans g2) (by rw [e2]; exact .bl _)
theorem ev_dnotin (hx : EvD K ty σ G (.str x)) (hd : EvD K td σ G (.dic kvs)) : EvD K (tDNotIn ty td) σ G (.bl (!(lookD kvs x).isSome)) := fun H e Q q =>
  hx H e _ fun y G1 H1 g1 hy => (hd.up g1.g) H1 g1.gh _ fun v G2 H2 g2 hv => by
    cases hy
    cases hv with
    | @dic a o ws _ hr hk hs =>
      refine ⟨a, _, rfl, .inl ⟨ws, Sum.inr x, Or.inr ⟨_, g2.gh _ _ hr⟩, rfl, rfl⟩, ?_⟩
      rcases dic_look (x := x) hk hs with ⟨v, d0, e1, e2, hq⟩ | ⟨e1, e2⟩
      · rw [e1]
        exact q _ G2 H2 (g1.trans g2) (by rw [e2]; exact .bl _)
      · rw [e1]
        exact q _ G2 H2 (g1.trans g2) (by rw [e2]; exact .bl _)
/-! ### stars, slices, copies -/
theorem ea_star (h : EvD K te σ G (.lst ds) ∨ EvD K te σ G (.tup ds)) (hr : EvA K as σ G es) : EvA K (StX.tStar K te as) σ G (ds ++ es) := fun H e Q q => by
  rcases h with h | h
  · refine h H e _ fun v G1 H1 g1 hv => ?_
    cases hv with
    | @lst a xs _ hr1 hs => exact ⟨a, xs, rfl, .inr (seqL (Rd.up g1.gh hr1)), (hr.up g1.g) H1 g1.gh _ fun vs G2 H2 g2 hvs => q _ G2 H2 (g1.trans g2) ((hs.up g2.g).append hvs)⟩
  · refine h H e _ fun v G1 H1 g1 hv => ?_
    cases hv with
    | @tup a xs _ hr1 hs => exact ⟨a, xs, rfl, .inl (seqT (Rd.up g1.gh hr1)), (hr.up g1.g) H1 g1.gh _ fun vs G2 H2 g2 hvs => q _ G2 H2 (g1.trans g2) ((hs.up g2.g).append hvs)⟩
def cutD {α : Type} (xs : List α) (lo hi : Option Int) : List α := (xs.drop (HT.sIx xs.length 0 lo)).take (HT.sIx xs.length xs.length hi - HT.sIx xs.length 0 lo)
theorem Dqs.cut {vs : List V} (h : Dqs K G vs ds) (lo hi : Option Int) : Dqs K G (cutV vs lo hi) (cutD ds lo hi) := by
  unfold cutV cutD
  rw [h.length]
  exact (h.drop _).take _
theorem ev_slL {lo hi : Option Int} {to tp : TO} (h : EvD K ta σ G (.lst ds)) (h1 : ∀ (H : Hp) (Q : Option Int → Hp → Prop), Q lo H → to σ H Q) (h2 : ∀ (H : Hp) (Q : Option Int → Hp → Prop), Q hi H → tp σ H Q) : EvD K (tSl (rSlL K) ta to tp) σ G (.lst (cutD ds lo hi)) := fun H e Q q =>
  h H e _ fun v G1 H1 g1 hv => by
    cases hv with
    | @lst a xs _ hr hs =>
      exact h1 H1 _ (h2 H1 _ ⟨a, xs, rfl, seqL (Rd.up g1.gh hr), fun p hp => q _ _ _ (g1.trans (Gr.new g1.gh hp)) (.lst (.inl upd_same) ((hs.cut lo hi).up (same_new (same_none g1.gh hp))))⟩)
theorem ev_list (h : EvD K te σ G (.lst ds) ∨ EvD K te σ G (.tup ds)) : EvD K (tCB (fun xs H Q => ∃ p ys, xs = [.ref p] ∧ (SqL K H p ys ∨ SqT K H p ys) ∧ ∀ l, H l = none → Q (.ref l) (upd H l (.lst ys))) (tCons te tNil)) σ G (.lst ds) := fun H e Q q => by
  rcases h with h | h
  · refine h H e _ fun v G1 H1 g1 hv => ?_
    cases hv with
    | @lst a xs _ hr hs => exact ⟨a, xs, rfl, .inl (seqL (Rd.up g1.gh hr)), fun p hp => q _ _ _ (g1.trans (Gr.new g1.gh hp)) (.lst (.inl upd_same) (hs.up (same_new (same_none g1.gh hp))))⟩
  · refine h H e _ fun v G1 H1 g1 hv => ?_
    cases hv with
    | @tup a xs _ hr hs => exact ⟨a, xs, rfl, .inr (seqT (Rd.up g1.gh hr)), fun p hp => q _ _ _ (g1.trans (Gr.new g1.gh hp)) (.lst (.inl upd_same) (hs.up (same_new (same_none g1.gh hp))))⟩
theorem ev_tuple (h : EvD K te σ G (.lst ds) ∨ EvD K te σ G (.tup ds)) : EvD K (tCB (fun xs H Q => ∃ p ys, xs = [.ref p] ∧ ((SqL K H p ys ∧ ∀ l, H l = none → Q (.ref l) (upd H l (.tup ys))) ∨ (SqT K H p ys ∧ Q (.ref p) H))) (tCons te tNil)) σ G (.tup ds) := fun H e Q q => by
  rcases h with h | h
  · refine h H e _ fun v G1 H1 g1 hv => ?_
    cases hv with
    | @lst a xs _ hr hs => exact ⟨a, xs, rfl, .inl ⟨seqL (Rd.up g1.gh hr), fun p hp => q _ _ _ (g1.trans (Gr.new g1.gh hp)) (.tup (.inl upd_same) (hs.up (same_new (same_none g1.gh hp))))⟩⟩
  · refine h H e _ fun v G1 H1 g1 hv => ?_
    cases hv with
    | @tup a xs _ hr hs => exact ⟨a, xs, rfl, .inr ⟨seqT (Rd.up g1.gh hr), q _ _ _ g1 (.tup hr hs)⟩⟩
/-! ### == of lists and tuples -/
mutual
def D.py : D → PyData
  | .non => .none
  | .bl b => .bool b
  | .int i => .int i
  | .str x => .str x
  | .lst ds => .list (pys ds)
  | .tup ds => .tuple (pys ds)
  | .dic _ => .none
def pys : List D → List PyData
  | [] => []
  | d :: ds => d.py :: pys ds
end
mutual
def D.flat : D → Bool
  | .lst ds => flats ds
  | .tup ds => flats ds
  | .dic _ => false
  | _ => true
def flats : List D → Bool
  | [] => true
  | d :: ds => d.flat && flats ds
end
mutual
theorem Dq.dp {H : Hp} : ∀ {d : D} {v : V}, d.flat = true → Dq K H v d → Dp K H v d.py
  | .non, _, _, .non => .non
  | .bl _, _, _, .bl b => .bl b
  | .int _, _, _, .int i => .int i
  | .str _, _, _, .str x => .str x
  | .lst ds, _, f, .lst h hs => .lst (seqL h) (Dqs.dp f hs)
  | .tup ds, _, f, .tup h hs => .tup (seqT h) (Dqs.dp f hs)
  | .dic _, _, f, _ => by cases f
theorem Dqs.dp {H : Hp} : ∀ {ds : List D} {vs : List V}, flats ds = true → Dqs K H vs ds → DpAll K H vs (pys ds)
  | [], _, _, .nil => .nil
  | d :: ds, _, f, .cons h hs => .cons (Dq.dp (Bool.and_eq_true_iff.mp f).1 h) (Dqs.dp (Bool.and_eq_true_iff.mp f).2 hs)
end
theorem ev_eqD (ha : EvD K ta σ G d) (hb : EvD K tb σ G d') (f1 : d.flat = true) (f2 : d'.flat = true) (s1 : SeqAt.shaped d.py = true) (s2 : SeqAt.shaped d'.py = true) (hz : PyData.eqv d.py d'.py = b) : EvD K (tOp (rEqD K) ta tb) σ G (.bl b) :=
  ev_op ha hb fun x y G1 H1 _ e2 hx hy Q q => ⟨_, _, (hx.up e2).dp f1, (hy.up e2).dp f2, s1, s2, by rw [hz]; exact q _ (.bl _)⟩
theorem ev_neD (ha : EvD K ta σ G d) (hb : EvD K tb σ G d') (f1 : d.flat = true) (f2 : d'.flat = true) (s1 : SeqAt.shaped d.py = true) (s2 : SeqAt.shaped d'.py = true) (hz : PyData.eqv d.py d'.py = b) : EvD K (tOp (rNeD K) ta tb) σ G (.bl (!b)) :=
  ev_op ha hb fun x y G1 H1 _ e2 hx hy Q q => ⟨_, _, (hx.up e2).dp f1, (hy.up e2).dp f2, s1, s2, by rw [hz]; exact q _ (.bl _)⟩
end
end Pk
namespace Pk
open PySem PySem.Spec PyProof.Rows L2
/-- a list or a tuple -/
inductive Lk : D → List D → Prop
  | lst (ds : List D) : Lk (.lst ds) ds
  | tup (ds : List D) : Lk (.tup ds) ds
theorem Lk.items {d : D} {ds : List D} (h : Lk d ds) : d.items = some ds := by cases h <;> rfl
theorem Lk.isL {d : D} {ds : List D} (h : Lk d ds) : isL d = true := by cases h <;> rfl
section
variable {K : PySem.W.Frag} {G : Hp} {σ : L2.St} {te tl ta : TE} {d x : D} {ds : List D} {j : Nat}
theorem Lk.ev (h : Lk d ds) (he : EvD K te σ G d) : EvD K te σ G (.lst ds) ∨ EvD K te σ G (.tup ds) := by
  cases h with
  | lst => exact .inl he
  | tup => exact .inr he
theorem Lk.len (h : Lk d ds) (he : EvD K te σ G d) : EvD K (tCB (fun xs H Q => ∃ x n, xs = [x] ∧ LenV K x H n ∧ Q (.int n) H) (tCons te tNil)) σ G (.int ds.length) := by
  cases h with
  | lst => exact ev_len he (.inr (.inl ⟨rfl, rfl⟩))
  | tup => exact ev_len he (.inr (.inr ⟨rfl, rfl⟩))
theorem eb_yes : EvB tYes σ G true := fun H e Q q => q G H (Gr.refl e)
/-- [e for x in s] -/
theorem ev_lc1 (h : EvD K tl σ G x) (hk : Lk x ds) (hz : ds.length < 50000) (v : D → D) (hw : ∀ u, wipe ((wipe σ [j]).set j (some u)) [j] = wipe σ [j])
    (he : ∀ di u G1, di ∈ ds → Same G G1 → Dq K G1 u di → EvD K te ((wipe σ [j]).set j (some u)) G1 (v di)) : EvD K (tLc (iSeq K tl) (gName j) tYes te [j]) σ G (.lst (ds.map v)) := by
  refine (ev_lc h hk.items hz (fun _ => true) v (fun di σ2 G2 => ∃ u, Dq K G2 u di ∧ σ2 = (wipe σ [j]).set j (some u)) (fun di _ => tg_name) (fun di σ2 G1 _ ⟨u, _, e⟩ => by rw [e]; exact hw u) (fun di σ2 G1 _ _ _ => eb_yes) ?_).is ?_
  · rintro di σ2 G1 hm e1 ⟨u, hu, rfl⟩ _
    exact he di u G1 hm e1 hu
  · rw [List.filter_eq_self.mpr (fun _ _ => rfl)]
/-- all([e for x in s]) -/
theorem ev_all1 (h : EvD K tl σ G x) (hk : Lk x ds) (hz : ds.length < 50000) (p : D → Bool) (hw : ∀ u, wipe ((wipe σ [j]).set j (some u)) [j] = wipe σ [j])
    (he : ∀ di u G1, di ∈ ds → Same G G1 → Dq K G1 u di → EvD K te ((wipe σ [j]).set j (some u)) G1 (.bl (p di))) : EvD K (tCB (rAll K) (tCons (tLc (iSeq K tl) (gName j) tYes te [j]) tNil)) σ G (.bl (ds.all p)) := by
  refine (ev_all (bs := ds.map p) ((ev_lc1 h hk hz (fun d => .bl (p d)) hw he).is ?_)).is ?_
  · rw [List.map_map]
    rfl
  · rw [List.all_map]
    rfl
end
end Pk
/-! Loops over data, comprehensions of dicts, errors. -/
namespace Pk
open PySem PySem.Spec PyProof.Rows L2
/-! ### a loop over n items -/
theorem for_gen {J : It} {n : Nat} {g : TG} {tb : TS} {E : Ends} {σ : L2.St} {H : Hp} (it : Nat → V → Prop) (Pv : Nat → L2.St → Hp → Prop) (h0 : Pv 0 σ H)
    (hgo : ∀ i σ H, i < n → Pv i σ H → J.go i H) (hst : ∀ σ H, Pv n σ H → J.stop n H) (hy : ∀ i σ H x H', i < n → Pv i σ H → J.yld i H x H' → H' = H ∧ it i x)
    (hs : ∀ i x σ H, i < n → it i x → Pv i σ H → g x σ H fun σ2 H2 => tb { E with nx := Pv (i + 1), ct := Pv (i + 1), bk := E.nx } σ2 H2) (hd : ∀ σ H, Pv n σ H → E.nx σ H) :
    ∃ W : Nat → Nat → L2.St → Hp → Prop, (∃ m, W 0 m σ H) ∧ ∀ i m σ H, W i m σ H →
      (J.stop i H ∧ E.nx σ H) ∨ (J.go i H ∧ ∃ N : L2.St → Hp → Prop, (∀ σ' H', N σ' H' → ∃ m', m' < m ∧ W (i + 1) m' σ' H') ∧ ∀ x H', J.yld i H x H' → g x σ H' fun σ2 H2 => tb { E with nx := N, ct := N, bk := E.nx } σ2 H2) := by
  refine ⟨fun i m σ H => m = n - i ∧ i ≤ n ∧ Pv i σ H, ⟨n, by simp, Nat.zero_le _, h0⟩, ?_⟩
  rintro i m σ H ⟨rfl, hi, p⟩
  by_cases hlt : i < n
  · refine .inr ⟨hgo i σ H hlt p, Pv (i + 1), fun σ' H' p' => ⟨n - (i + 1), by omega, rfl, hlt, p'⟩, fun x H' y => ?_⟩
    obtain ⟨e, z⟩ := hy i σ H x H' hlt p y
    subst e
    exact hs i x σ _ hlt z p
  · have e : i = n := by omega
    subst e
    exact .inl ⟨hst σ H p, hd σ H p⟩
section
variable {K : PySem.W.Frag} {σ : L2.St} {G H : Hp} {te tl ta tb td tk tv : TE} {tt : TT} {ts : TS} {g : TG} {x d : D} {ds : List D} {E : Ends}
/-- for target in s: body; s a list or a tuple that stays: Pv says what holds between the turns -/
theorem f_seq (h : EvD K tl σ G x) (hk : Lk x ds) (e : Same G H)
    (k : ∀ G1 H1, Gr G H G1 H1 → ∃ Pv : Nat → L2.St → Hp → Prop, Pv 0 σ H1 ∧ (∀ i σ' H', Pv i σ' H' → Same G1 H') ∧
      (∀ i di v σ' H', ds[i]? = some di → Dq K G1 v di → Pv i σ' H' → g v σ' H' fun σ2 H2 => ts { E with nx := Pv (i + 1), ct := Pv (i + 1), bk := E.nx } σ2 H2) ∧ ∀ σ' H', Pv ds.length σ' H' → E.nx σ' H') : tFor (iSeq K tl) g ts E σ H :=
  h H e _ fun v G1 H1 g1 hv => by
    obtain ⟨Pv, h0, hS, hs, hd⟩ := k G1 H1 g1
    cases hk with
    | lst ds =>
      cases hv with
      | @lst a xs _ hr hq =>
        refine .inl ⟨a, rfl, ⟨xs, seqL (Rd.up g1.gh hr)⟩, ?_⟩
        exact for_gen (n := ds.length) (fun i w => ∃ di, ds[i]? = some di ∧ Dq K G1 w di) Pv h0 (fun i σ' H' hlt p => ⟨xs, xs[i]'(by rw [hq.length]; exact hlt), seqL (Rd.up (hS _ _ _ p) hr), by simp [hq.length, hlt]⟩)
          (fun σ' H' p => ⟨xs, seqL (Rd.up (hS _ _ _ p) hr), Nat.le_of_eq hq.length⟩) (fun i σ' H' w H'' hlt p y => ⟨y.1, hq.at (y.2 xs (seqL (Rd.up (hS _ _ _ p) hr)))⟩) (fun i w σ' H' hlt ⟨di, e1, e2⟩ p => hs i di w σ' H' e1 e2 p) hd
    | tup ds =>
      cases hv with
      | @tup a xs _ hr hq =>
        refine .inr (.inl ⟨a, rfl, ⟨xs, seqT (Rd.up g1.gh hr)⟩, ?_⟩)
        exact for_gen (n := ds.length) (fun i w => ∃ di, ds[i]? = some di ∧ Dq K G1 w di) Pv h0 (fun i σ' H' hlt p => ⟨xs, xs[i]'(by rw [hq.length]; exact hlt), seqT (Rd.up (hS _ _ _ p) hr), by simp [hq.length, hlt]⟩)
          (fun σ' H' p => ⟨xs, seqT (Rd.up (hS _ _ _ p) hr), Nat.le_of_eq hq.length⟩) (fun i σ' H' w H'' hlt p y => ⟨y.1, hq.at (y.2 xs (seqT (Rd.up (hS _ _ _ p) hr)))⟩) (fun i w σ' H' hlt ⟨di, e1, e2⟩ p => hs i di w σ' H' e1 e2 p) hd
/-! ### a search: the turns return or change nothing but slots -/
/-- for target in s: body, a body that returns or goes on, nothing changed: then the rest -/
theorem r_for {u : TS} {z : D} (h : EvD K tl σ G x) (hk : Lk x ds) (Ps : Nat → L2.St → Prop) (h0 : Ps 0 σ)
    (hs : ∀ i di v σ' G1 H', ds[i]? = some di → Same G G1 → Same G1 H' → Dq K G1 v di → Ps i σ' → ∀ E : Ends, (∀ σ2 G2 H2, Gr G1 H' G2 H2 → Ps (i + 1) σ2 → E.nx σ2 H2) → (∀ σ2 G2 H2, Gr G1 H' G2 H2 → Ps (i + 1) σ2 → E.ct σ2 H2) → (∀ w G2 H2, Gr G1 H' G2 H2 → Dq K G2 w z → E.rt w H2) → g v σ' H' fun σ2 H2 => ts E σ2 H2)
    (hd : ∀ σ' G1, Same G G1 → Ps ds.length σ' → EvR K u σ' G1 z) : EvR K (tSeq (tFor (iSeq K tl) g ts) u) σ G z := fun H e E q =>
  f_seq (E := { E with nx := u E }) h hk e fun G1 H1 g1 => ⟨fun i σ' H' => Ps i σ' ∧ ∃ G2, Gr G H G2 H' ∧ Same G1 G2, ⟨h0, G1, g1, Same.refl _⟩, fun i σ' H' ⟨_, G2, g2, s2⟩ => s2.trans g2.gh,
    fun i di v σ' H' hdi hv ⟨p, G2, g2, s2⟩ => hs i di v σ' G2 H' hdi g2.g g2.gh (hv.up s2) p _ (fun σ2 G3 H3 g3 p3 => ⟨p3, G3, g2.trans g3, s2.trans g3.g⟩) (fun σ2 G3 H3 g3 p3 => ⟨p3, G3, g2.trans g3, s2.trans g3.g⟩) fun w G3 H3 g3 hw => q w G3 H3 (g2.trans g3) hw,
    fun σ' H' ⟨p, G2, g2, s2⟩ => hd σ' G2 g2.g p H' g2.gh E fun w G3 H3 g3 hw => q w G3 H3 (g2.trans g3) hw⟩
/-! ### dict comprehensions -/
def putD (kvs : List (Str × D)) (k : Str) (v : D) : List (Str × D) := if (kvs.any fun kv => decide (kv.1 = k)) = true then kvs.map (fun kv => if kv.1 = k then (kv.1, v) else kv) else kvs ++ [(k, v)]
theorem putD_len (kvs : List (Str × D)) (k : Str) (v : D) : (putD kvs k v).length ≤ kvs.length + 1 := by
  unfold putD
  split <;> simp
structure DicAt (K : PySem.W.Frag) (G : Hp) (ws : List (Key × V)) (kvs : List (Str × D)) : Prop where
  k : ws.map (·.1) = kvs.map (fun p => (Sum.inr p.1 : Key))
  v : Dqs K G (ws.map (·.2)) (kvs.map (·.2))
theorem DicAt.up {G G1 : Hp} {ws : List (Key × V)} {kvs : List (Str × D)} (h : DicAt K G ws kvs) (e : Same G G1) : DicAt K G1 ws kvs := ⟨h.k, h.v.up e⟩
theorem DicAt.len {ws : List (Key × V)} {kvs : List (Str × D)} (h : DicAt K G ws kvs) : ws.length = kvs.length := by
  have := congrArg List.length h.k
  simpa using this
theorem any_key {ws : List (Key × V)} {kvs : List (Str × D)} {k : Str} (h : ws.map (·.1) = kvs.map (fun p => (Sum.inr p.1 : Key))) : (ws.any fun kv => decide (kv.1 = (Sum.inr k : Key))) = kvs.any fun kv => decide (kv.1 = k) := by
  induction kvs generalizing ws with
  | nil =>
    cases ws with
    | nil => rfl
    | cons a b => cases h
  | cons p kvs ih =>
    cases ws with
    | nil => cases h
    | cons a b =>
      obtain ⟨h1, h2⟩ := List.cons.inj h
      have h1 : a.1 = (Sum.inr p.1 : Key) := h1
      rw [List.any_cons, List.any_cons, ih h2, h1]
      congr 1
      by_cases e : p.1 = k
      · rw [e]; simp
      · simp [e]
theorem DicAt.put {ws : List (Key × V)} {kvs : List (Str × D)} {k : Str} {v : V} {d : D} (h : DicAt K G ws kvs) (hv : Dq K G v d) : DicAt K G (putK ws (Sum.inr k : Key) v) (putD kvs k d) := by
  unfold putK putD
  rw [any_key h.k]
  split
  · have hm : ∀ {ws : List (Key × V)} {kvs : List (Str × D)}, DicAt K G ws kvs → DicAt K G (ws.map fun kv => if kv.1 = (Sum.inr k : Key) then (kv.1, v) else kv) (kvs.map fun kv => if kv.1 = k then (kv.1, d) else kv) := by
      intro ws kvs h
      induction kvs generalizing ws with
      | nil =>
        cases ws with
        | nil => exact ⟨rfl, .nil⟩
        | cons a b => cases h.k
      | cons p kvs ih =>
        cases ws with
        | nil => cases h.k
        | cons a b =>
          obtain ⟨h1, h2⟩ := List.cons.inj h.k
          have h1 : a.1 = (Sum.inr p.1 : Key) := h1
          have hv2 := h.v
          cases hv2 with
          | cons q qs =>
            have z := ih ⟨h2, qs⟩
            by_cases e : p.1 = k
            · have e' : a.1 = (Sum.inr k : Key) := by rw [h1, e]
              rw [List.map_cons, List.map_cons, if_pos e, if_pos e']
              exact ⟨by rw [List.map_cons, List.map_cons, z.k, h1], .cons hv z.v⟩
            · have e' : ¬ a.1 = (Sum.inr k : Key) := fun y => e (by rw [h1] at y; exact Sum.inr.inj y)
              rw [List.map_cons, List.map_cons, if_neg e, if_neg e']
              exact ⟨by rw [List.map_cons, List.map_cons, z.k, h1], .cons q z.v⟩
    exact hm h
  · exact ⟨by rw [List.map_append, List.map_append, h.k]; rfl, by rw [List.map_append, List.map_append]; exact h.v.append (.cons hv .nil)⟩
/-- the new dict so far, at Dl -/
def DcInv (K : PySem.W.Frag) (G0 H0 : Hp) (Dl : Addr) (ys : List (Str × D)) (H : Hp) : Prop := ∃ G ws, Gr G0 H0 G H ∧ H0 Dl = none ∧ G Dl = none ∧ H Dl = some (.dK ws) ∧ DicAt K G ws ys
theorem dq_frz {G H : Hp} {Dl : Addr} {ws : List (Key × V)} {ys : List (Str × D)} {G0 H0 : Hp} (g : Gr G0 H0 G H) (h0 : H0 Dl = none) (h1 : G Dl = none) (h : DicAt K G ws ys) (od : Obj) : ∃ G', Gr G0 H0 G' (upd H Dl (.frz od (.dK ws))) ∧ Dq K G' (.ref Dl) (.dic ys) ∧ Same G G' := by
  refine ⟨upd G Dl (.frz od (.dK ws)), ⟨g.g.trans (same_new h1), fun b u e => ?_, same_both g.gh, fun b o e => ?_⟩, .dic upd_same h.k (h.v.up (same_new h1)), same_new h1⟩
  · rw [upd_ne (ne_of_none e h0)]; exact g.h b u e
  · by_cases hb : b = Dl
    · subst hb; exact .inr h0
    · rw [upd_ne hb] at e; exact g.nw b o e
/-- the value is locked for good -/
def tFrz (t : TE) : TE := fun σ H Q => t σ H fun v H1 => ∃ d u, v = .ref d ∧ H1 d = some u ∧ Mut (some u) ∧ ∀ od, Q v (upd H1 d (.frz od u))
theorem pe_frz {X : Cx} {e : Expr} {t : TE} (h : PE X e t) : PE X e (tFrz t) := by
  refine ⟨fun pins s σ H Q I hw => ?_⟩
  refine thn (h.run pins s σ _ _ I hw) fun v s1 ⟨x, H1, I1, r, d, u, ex, hd, mu, q⟩ => ?_
  obtain ⟨od, I2⟩ := I1.lock hd mu
  exact ⟨x, _, I2, r, q od⟩
/-- a dict comprehension's loop -/
theorem dc_gen {J : It} {n : Nat} {g : TG} {tt : TT} {tk tv : TE} {vs : List Nat} {σ : L2.St} {H1 : Hp} {Dl : Addr} {Qd : Hp → Prop} (it : Nat → V → Prop) (Pv : Nat → Hp → Prop) (h0 : Pv 0 (upd H1 Dl (.dK [])))
    (hgo : ∀ i H, i < n → Pv i H → J.go i H) (hst : ∀ H, Pv n H → J.stop n H) (hy : ∀ i H x H', i < n → Pv i H → J.yld i H x H' → H' = H ∧ it i x)
    (hs : ∀ i x H, i < n → it i x → Pv i H → g x (wipe σ vs) H fun σ2 H2 => wipe σ2 vs = wipe σ vs ∧ tt σ2 H2 fun b H3 =>
      if b = true then tk σ2 H3 fun y H4 => tv σ2 H4 fun z H5 => ∃ kvs k, y = kV k ∧ H5 Dl = some (.dK kvs) ∧ kvs.length < sizeLine ∧ Pv (i + 1) (upd H5 Dl (.dK (putK kvs k z))) else Pv (i + 1) H3) (hd : ∀ H, Pv n H → Qd H) :
    ∃ W : Nat → Nat → Hp → Prop, (∃ m, W 0 m (upd H1 Dl (.dK []))) ∧ ∀ i m H, W i m H →
      (J.stop i H ∧ Qd H) ∨ (J.go i H ∧ ∃ Nx : Hp → Prop, (∀ H', Nx H' → ∃ m', m' < m ∧ W (i + 1) m' H') ∧ ∀ x H', J.yld i H x H' → g x (wipe σ vs) H' fun σ2 H2 => wipe σ2 vs = wipe σ vs ∧ tt σ2 H2 fun b H3 =>
        if b = true then tk σ2 H3 fun y H4 => tv σ2 H4 fun z H5 => ∃ kvs k, y = kV k ∧ H5 Dl = some (.dK kvs) ∧ kvs.length < sizeLine ∧ Nx (upd H5 Dl (.dK (putK kvs k z))) else Nx H3) := by
  refine ⟨fun i m H => m = n - i ∧ i ≤ n ∧ Pv i H, ⟨n, by simp, Nat.zero_le _, h0⟩, ?_⟩
  rintro i m H ⟨rfl, hi, p⟩
  by_cases hlt : i < n
  · refine .inr ⟨hgo i H hlt p, Pv (i + 1), fun H' p' => ⟨n - (i + 1), by omega, rfl, hlt, p'⟩, fun x H' y => ?_⟩
    obtain ⟨e, z⟩ := hy i H x H' hlt p y
    subst e
    exact hs i x _ hlt z p
  · have e : i = n := by omega
    subst e
    exact .inl ⟨hst H p, hd H p⟩
/-- one step of the dict that is made -/
def dStep (f : D → Bool) (k : D → Str) (v : D → D) (acc : List (Str × D)) (d : D) : List (Str × D) := if f d = true then putD acc (k d) (v d) else acc
theorem dFold_next {ds : List D} {i : Nat} {x : D} (f : D → Bool) (k : D → Str) (v : D → D) (h : ds[i]? = some x) : (ds.take (i + 1)).foldl (dStep f k v) [] = dStep f k v ((ds.take i).foldl (dStep f k v) []) x := by
  rw [take_next h, List.foldl_append]
  rfl
theorem dFold_len (f : D → Bool) (k : D → Str) (v : D → D) : ∀ (ds : List D) (acc : List (Str × D)), (ds.foldl (dStep f k v) acc).length ≤ acc.length + ds.length
  | [], acc => Nat.le_refl _
  | d :: ds, acc => by
    rw [List.foldl_cons]
    have h := dFold_len f k v ds (dStep f k v acc d)
    have h2 : (dStep f k v acc d).length ≤ acc.length + 1 := by
      unfold dStep
      split
      · exact putD_len _ _ _
      · omega
    rw [List.length_cons]
    omega
/-- {k: v for target in s if t} -/
theorem ev_dc {vs : List Nat} (h : EvD K tl σ G x) (hk : Lk x ds) (hz : ds.length < 50000) (f : D → Bool) (kf : D → Str) (vf : D → D) (P : D → L2.St → Hp → Prop) (hT : ∀ di ∈ ds, TgOk K g (wipe σ vs) di (P di)) (hw : ∀ di σ2 G1, di ∈ ds → P di σ2 G1 → wipe σ2 vs = wipe σ vs)
    (ht : ∀ di σ2 G1, di ∈ ds → Same G G1 → P di σ2 G1 → EvB tt σ2 G1 (f di)) (hkk : ∀ di σ2 G1, di ∈ ds → Same G G1 → P di σ2 G1 → f di = true → EvD K tk σ2 G1 (.str (kf di))) (he : ∀ di σ2 G1, di ∈ ds → Same G G1 → P di σ2 G1 → f di = true → EvD K tv σ2 G1 (vf di)) :
    EvD K (tFrz (tDc (iSeq K tl) g tt tk tv vs)) σ G (.dic (ds.foldl (dStep f kf vf) [])) := fun H e Q q =>
  h H e _ fun x' G1 H1 g1 hx => by
    have fin : ∀ (Dl : Addr) (H' : Hp), DcInv K G1 H1 Dl ((ds.take ds.length).foldl (dStep f kf vf) []) H' → ∃ d u, V.ref Dl = .ref d ∧ H' d = some u ∧ Mut (some u) ∧ ∀ od, Q (.ref Dl) (upd H' d (.frz od u)) := fun Dl H' p => by
      obtain ⟨G2, ws, g2, h0, h1, h2, h3⟩ := p
      rw [List.take_length] at h3
      refine ⟨Dl, _, rfl, h2, True.intro, fun od => ?_⟩
      obtain ⟨G', g3, hv, _⟩ := dq_frz g2 h0 h1 h3 od
      exact q _ G' _ (g1.trans g3) hv
    have strt : ∀ {Dl : Addr}, H1 Dl = none → DcInv K G1 H1 Dl [] (upd H1 Dl (.dK [])) := fun {Dl} hD => ⟨G1, [], Gr.ov g1.gh hD, hD, same_none g1.gh hD, upd_same, ⟨rfl, .nil⟩⟩
    have turn : ∀ (Dl : Addr) (i : Nat) (y : V) (H' : Hp), i < ds.length → (∃ di, ds[i]? = some di ∧ Dq K G1 y di) → DcInv K G1 H1 Dl ((ds.take i).foldl (dStep f kf vf) []) H' →
        g y (wipe σ vs) H' fun σ2 H2 => wipe σ2 vs = wipe σ vs ∧ tt σ2 H2 fun b' H3 => if b' = true then tk σ2 H3 fun y' H4 => tv σ2 H4 fun z H5 => ∃ kvs k, y' = kV k ∧ H5 Dl = some (.dK kvs) ∧ kvs.length < sizeLine ∧ DcInv K G1 H1 Dl ((ds.take (i + 1)).foldl (dStep f kf vf) []) (upd H5 Dl (.dK (putK kvs k z)))
          else DcInv K G1 H1 Dl ((ds.take (i + 1)).foldl (dStep f kf vf) []) H3 := fun Dl i y H' hlt ⟨di, hdi, hq⟩ p => by
      have hm := List.mem_of_getElem? hdi
      rw [dFold_next f kf vf hdi]
      have hlen := dFold_len f kf vf (ds.take i) []
      have hlen2 := List.length_take_le i ds
      obtain ⟨G2, ws, g2, h0, h1, h2, h3⟩ := p
      refine hT di hm y G2 H' g2.gh (hq.up g2.g) _ fun σ2 p2 => ⟨hw di σ2 G2 hm p2, ?_⟩
      refine ht di σ2 G2 hm (g1.g.trans g2.g) p2 H' g2.gh _ fun G3 H3 g3 => ?_
      have a3 := g3.apart h2 h1
      cases hb : f di with
      | false =>
        have e : dStep f kf vf ((ds.take i).foldl (dStep f kf vf) []) di = (ds.take i).foldl (dStep f kf vf) [] := by
          unfold dStep
          rw [hb]
          rfl
        rw [e]
        exact iteF ⟨G3, ws, g2.trans g3, h0, a3, g3.h _ _ h2, h3.up g3.g⟩
      | true =>
        have e : dStep f kf vf ((ds.take i).foldl (dStep f kf vf) []) di = putD ((ds.take i).foldl (dStep f kf vf) []) (kf di) (vf di) := by
          unfold dStep
          rw [hb]
          rfl
        rw [e]
        refine iteT (((hkk di σ2 G2 hm (g1.g.trans g2.g) p2 hb).up g3.g) H3 g3.gh _ fun ky G4 H4 g4 hky => ?_)
        have a4 := g4.apart (g3.h _ _ h2) a3
        refine (((he di σ2 G2 hm (g1.g.trans g2.g) p2 hb).up (g3.g.trans g4.g)) H4 g4.gh _ fun vy G5 H5 g5 hvy => ?_)
        have a5 := g5.apart (g4.h _ _ (g3.h _ _ h2)) a4
        have e5 := g5.h _ _ (g4.h _ _ (g3.h _ _ h2))
        cases hky
        refine ⟨ws, Sum.inr (kf di), rfl, e5, ?_, ?_⟩
        · have := h3.len
          rw [this]
          exact Nat.lt_of_le_of_lt (Nat.le_trans hlen (by simp; omega)) (show 50000 < sizeLine by decide)
        · exact ⟨G5, _, gr_upd (g2.trans (g3.trans (g4.trans g5))) h0 a5, h0, a5, upd_same, (h3.up (g3.g.trans (g4.g.trans g5.g))).put hvy⟩
    cases hk with
    | lst ds =>
      cases hx with
      | @lst a xs _ hr hs =>
        refine .inl ⟨a, rfl, ⟨xs, seqL (Rd.up g1.gh hr)⟩, fun Dl hD => ?_⟩
        have sq : ∀ (ys : List (Str × D)) (H' : Hp), DcInv K G1 H1 Dl ys H' → SqL K H' a xs := fun ys H' ⟨G2, acc, g2, _, _, _, _⟩ => seqL (Rd.up g2.gh (Rd.up g2.g hr))
        exact dc_gen (n := ds.length) (fun i x => ∃ di, ds[i]? = some di ∧ Dq K G1 x di) (fun i H' => DcInv K G1 H1 Dl ((ds.take i).foldl (dStep f kf vf) []) H') (strt hD)
          (fun i H' hlt p => ⟨xs, xs[i]'(by rw [hs.length]; exact hlt), sq _ H' p, by simp [hs.length, hlt]⟩) (fun H' p => ⟨xs, sq _ H' p, Nat.le_of_eq hs.length⟩)
          (fun i H' x H'' hlt p y => ⟨y.1, hs.at (y.2 xs (sq _ H' p))⟩) (fun i x H' hlt hq p => turn Dl i x H' hlt hq p) (fun H' p => fin Dl H' p)
    | tup ds =>
      cases hx with
      | @tup a xs _ hr hs =>
        refine .inr (.inl ⟨a, rfl, ⟨xs, seqT (Rd.up g1.gh hr)⟩, fun Dl hD => ?_⟩)
        have sq : ∀ (ys : List (Str × D)) (H' : Hp), DcInv K G1 H1 Dl ys H' → SqT K H' a xs := fun ys H' ⟨G2, acc, g2, _, _, _, _⟩ => seqT (Rd.up g2.gh (Rd.up g2.g hr))
        exact dc_gen (n := ds.length) (fun i x => ∃ di, ds[i]? = some di ∧ Dq K G1 x di) (fun i H' => DcInv K G1 H1 Dl ((ds.take i).foldl (dStep f kf vf) []) H') (strt hD)
          (fun i H' hlt p => ⟨xs, xs[i]'(by rw [hs.length]; exact hlt), sq _ H' p, by simp [hs.length, hlt]⟩) (fun H' p => ⟨xs, sq _ H' p, Nat.le_of_eq hs.length⟩)
          (fun i H' x H'' hlt p y => ⟨y.1, hs.at (y.2 xs (sq _ H' p))⟩) (fun i x H' hlt hq p => turn Dl i x H' hlt hq p) (fun H' p => fin Dl H' p)
end
end Pk
/-! Dict comprehensions whose keys are nested tuples; the length of such a dict. -/
namespace Pk
open PySem PySem.Spec PyProof.Rows L2
abbrev NEnt := NestedKey × Addr × Value
/-- at D a dict of the entries xs; whether the keys are what they seem is told apart -/
def RawN (P : Program) (w : World) (D : Addr) (xs : List NEnt) (h : Heap) : Prop := (D == sysModules) = false ∧ ∃ o es ep, h.get? D = some o ∧ o.ExactDict ∧ o.data = .dict es ep ∧ es.toList = xs.map (entryOfKey (nestedKind P w)) ∧ (xs.map (·.1)).Nodup
theorem rawN_stays {P : Program} {w : World} {D : Addr} {xs : List NEnt} : ∀ h1 h2 : Heap, RawN P w D xs h1 → (∀ o, h1.get? D = some o → h2.get? D = some o) → RawN P w D xs h2 := fun h1 h2 ⟨n, o, es, ep, e, r⟩ k => ⟨n, o, es, ep, k o e, r⟩
theorem rawN_ok {P : Program} {w : World} {H : Hp} {D : Addr} {xs : List NEnt} {h : Heap} (r : RawN P w D xs h) : ObjOk P w H h D (.ext (RawN P w D xs)) := ⟨r, let ⟨_, o, _, _, e, _⟩ := r; ⟨o, e⟩, rawN_stays⟩
theorem rawN_new {P : Program} {w : World} {H : Hp} (h : Heap) (hb : sysModules < h.objs.size) : ObjOk P w H (h.push { cls := .type "dict", data := .dict #[] }) h.objs.size (.ext (RawN P w h.objs.size [])) :=
  rawN_ok ⟨beq_eq_false_iff_ne.mpr (Ne.symm (Nat.ne_of_lt hb)), _, #[], 0, Heap.get?_push_size _ rfl, ⟨rfl, rfl, rfl⟩, rfl, rfl, List.nodup_nil⟩
/-- the key's object is the key, in every heap that H holds -/
def KeyN (P : Program) (w : World) (H : Hp) (k : NestedKey) (a : Addr) : Prop := ∀ h, HOk P w H h → (nestedKind P w).is h k a
theorem d_dictSetN {X : Cx} {pins : List (Addr × Obj)} {σ : L2.St} {H : Hp} {s : Shared} {E : Value → Shared → Prop} {D a : Addr} {xs : List NEnt} {k : NestedKey} {v : V} {r : Value} {Q : Unit → Shared → Prop} (hun : X.A.units + 64 < cLine) (I : Inv X pins σ H s) (hD : H D = some (.ext (RawN X.prog X.w D xs)))
    (hz : xs.length < sizeLine) (hk : KeyN X.prog X.w H k a ∧ ∀ x ∈ xs, KeyN X.prog X.w H x.1 x.2.1) (rv : RelV v r) (h : ∀ s' z, Inv X pins σ (upd H D (.ext (RawN X.prog X.w D (storedH xs k a z)))) s' → Q () s') : wpAny (model X.prog X.w) X.A (dictSet D (.ref a) r) Q E s := by
  obtain ⟨⟨hn, o, es, ep, e1, e2, e3, e4, e5⟩, _, _⟩ := (show ObjOk X.prog X.w H s.heap D (.ext (RawN X.prog X.w D xs)) from I.hok D _ hD)
  refine wpAny_dictSet_heap (knd := nestedKind X.prog X.w) (hsz := Nat.le_of_lt hz) (show X.A.units + 8 < cLine by omega) (hk.1 _ I.hok) ⟨o, es, ep, e1, e2, e3, e4, fun x hx => hk.2 x hx _ I.hok, e5⟩ fun h' dd hs => h _ r ?_
  obtain ⟨o', es', ep', f1, f2, f3, f4, _, f5⟩ := dd
  exact d_write I (by rw [hD]; exact True.intro) hs ⟨o', f1⟩ (rawN_ok ⟨hn, o', es', ep', f1, f2, f3, f4, f5⟩)
section
variable {X : Cx}
/-- {k: v for target in s if ..}, the keys nested tuples -/
def tDcN (P : Program) (w : World) (wi : TI) (g : TG) (tt : TT) (tk tv : TE) (vs : List Nat) : TE := fun σ H Q => wi σ H fun J H1 => ∀ D, H1 D = none → ∃ W : Nat → Nat → Hp → Prop, (∃ m, W 0 m (upd H1 D (.ext (RawN P w D [])))) ∧ ∀ i m H, W i m H →
  (J.stop i H ∧ Q (.ref D) H) ∨ (J.go i H ∧ ∃ Nx : Hp → Prop, (∀ H', Nx H' → ∃ m', m' < m ∧ W (i + 1) m' H') ∧ ∀ x H', J.yld i H x H' → g x (wipe σ vs) H' fun σ2 H2 => wipe σ2 vs = wipe σ vs ∧ tt σ2 H2 fun b H3 =>
    if b = true then tk σ2 H3 fun y H4 => tv σ2 H4 fun z H5 => ∃ xs k a, y = .ref a ∧ H5 D = some (.ext (RawN P w D xs)) ∧ xs.length < sizeLine ∧ (KeyN P w H5 k a ∧ ∀ x ∈ xs, KeyN P w H5 x.1 x.2.1) ∧ ∀ u, Nx (upd H5 D (.ext (RawN P w D (storedH xs k a u)))) else Nx H3)
/-- where the loop of a block stands: i things are taken from the iterator, n is what W still counts -/
structure AtN (Y : Cx) (own : List Addr) (st : Nat → Heap → Prop) (W : Nat → Nat → Hp → Prop) (τ : L2.St) (i n : Nat) (s : Shared) (H : Hp) : Prop where
  inv : Inv Y [] τ H s
  it : st i s.heap
  out : ∀ b ∈ own, H b = none
  cnt : W i n H
section
variable {Y : Cx} {own : List Addr} {τ τ2 : L2.St} {H : Hp} {s : Shared}
/-- a block may turn the objects that it was given -/
theorem own_may (he : Y.ex = own) (hp : Y.pn = []) (I : Inv Y [] τ H s) (ho : ∀ b ∈ own, H b = none) : ∀ b ∈ own, FpOk Y [] H b := by
  intro b hb
  have hx : b ∈ Y.ex := by rw [he]; exact hb
  refine ⟨ho b hb, (I.ok.exf b hx).1, I.ok.exfs b hx, Or.inl hx, (I.ok.exf b hx).2, fun p hm => ?_⟩
  rw [hp] at hm
  cases hm
/-- the end of a turn: what the iterator had held is as it was, the block's own names are forgotten -/
theorem AtN.next {tg : Expr} {J : It} {a : Addr} {st : Nat → Heap → Prop} {W : Nat → Nat → Hp → Prop} {vs : List Nat} {h0 : Heap} {i m : Nat} (T : Turn Y.prog Y.w Y.K tg J own a st) (h1 : st i h0) (I : Inv Y ([] ++ pinsAt own h0) τ2 H s) (hw : wipe τ2 vs = τ) (hc : W i m H) : AtN Y own st W τ i m s H := by
  have same : ∀ b ∈ own, ∀ o, h0.get? b = some o → s.heap.get? b = some o ∧ H b = none := by
    intro b hb o e
    have := I.pin (b, o) (List.mem_append.mpr (.inr (List.mem_append.mpr (.inr (mem_pinsAt hb e)))))
    exact ⟨this.1, this.2.1⟩
  refine { inv := ?_, it := T.keep i h0 s.heap h1 fun b hb o e => (same b hb o e).1, out := ?_, cnt := hc }
  · subst hw
    exact (I.unpinned (pins := [])).weak (wipe_length _ _) fun j v e => (wipe_some e).1
  · intro b hb
    obtain ⟨o, e, _⟩ := T.obj i h0 h1 b hb
    exact (same b hb o e).2
/-- the loop that fills the dict at D -/
theorem n_loop {tg itx kx vx : Expr} {ifz : List Expr} {scope : Scope} {pos : Pos} {J : It} {a D : Addr} {st : Nat → Heap → Prop} {W : Nat → Nat → Hp → Prop} {vs : List Nat} {g : TG} {tt : TT} {tk tv : TE} {Qd : Hp → Prop} {R : Result → Shared → Prop} {m : Nat}
    (he : Y.ex = own) (hp : Y.pn = []) (hx : Y.xe = fun _ _ => False) (hcm : Y.calm = true) (hun : Y.A.units + 64 < cLine) (T : Turn Y.prog Y.w Y.K tg J own a st) (pg : PG Y tg g) (pt : PTs Y ifz tt) (pk : PE Y kx tk) (pv : PE Y vx tv) (L0 : AtN Y own st W τ 0 m s H)
    (hW : ∀ i n H, W i n H → (J.stop i H ∧ Qd H) ∨ (J.go i H ∧ ∃ Nx : Hp → Prop, (∀ H', Nx H' → ∃ n', n' < n ∧ W (i + 1) n' H') ∧ ∀ x H', J.yld i H x H' → g x τ H' fun σ2 H2 => wipe σ2 vs = τ ∧ tt σ2 H2 fun b H3 =>
      if b = true then tk σ2 H3 fun y H4 => tv σ2 H4 fun z H5 => ∃ xs k c, y = .ref c ∧ H5 D = some (.ext (RawN Y.prog Y.w D xs)) ∧ xs.length < sizeLine ∧ (KeyN Y.prog Y.w H5 k c ∧ ∀ x ∈ xs, KeyN Y.prog Y.w H5 x.1 x.2.1) ∧ ∀ u, Nx (upd H5 D (.ext (RawN Y.prog Y.w D (storedH xs k c u)))) else Nx H3))
    (hR : ∀ s' H', Inv Y [] τ H' s' → Qd H' → R (.ok .next) s') : codeAny (model Y.prog Y.w) Y.A (.compLoop (.DictComp kx vx [⟨tg, itx, ifz, 0⟩] scope pos) 0 (.ref a) (.ref D) Y.env) R s := by
  have pgr := pg.run
  have ptr := pt.run
  have pkr := pk.run
  have pvr := pv.run
  rw [hx] at pgr ptr pkr pvr
  refine compLoop_anyD (fun n s => ∃ i H, AtN Y own st W τ i n s H) (fun n s L => ?_) m ⟨0, H, L0⟩
  obtain ⟨i, H, L⟩ := L
  have may := own_may he hp L.inv L.out
  rcases hW i n H L.cnt with ⟨stop, fin⟩ | ⟨go, Nx, dec, step⟩
  · refine thnF (T.done Y rfl rfl rfl hcm i [] s τ H _ L.inv may L.it stop) fun r s1 came => ?_
    rcases came with ⟨rfl, I1⟩
    exact hR s1 H I1 fin
  · refine thnF (T.item Y rfl rfl rfl hcm i [] s τ H _ L.inv may L.it go) fun r s1 came => ?_
    rcases came with ⟨u, rfl, got⟩
    refine thnF got fun _ s2 ⟨x, H2, I2, ru, hy, n2, o2⟩ => ?_
    have again : ∀ {σ' : L2.St} {H' : Hp} {s' : Shared}, Inv Y ([] ++ pinsAt own s2.heap) σ' H' s' → wipe σ' vs = τ → Nx H' → ∃ n', n' < n ∧ ∃ i H, AtN Y own st W τ i n' s' H := fun I' ew nx =>
      (dec _ nx).elim fun n' ⟨lt, w'⟩ => ⟨n', lt, i + 1, _, AtN.next T n2 I' ew w'⟩
    refine thnF (pgr _ s2 τ H2 x u _ (I2.pinned (own_may he hp I2 o2) (T.obj (i + 1) s2.heap n2)) ru (step x H2 hy)) fun _ s3 named => ?_
    rcases named with ⟨σ3, H3, I3, e3, q3⟩
    refine thnF (ptr _ s3 σ3 H3 _ I3 q3) fun ok s4 told => ?_
    rcases told with ⟨H4, I4, q4⟩
    by_cases hok : ok = true
    · rw [if_pos hok] at q4 ⊢
      refine thnF (pkr _ s4 σ3 H4 _ I4 q4) fun kv s5 keyed => ?_
      rcases keyed with ⟨y, H5, I5, ry, q5⟩
      refine thnF (pvr _ s5 σ3 H5 _ I5 q5) fun vv s6 valued => ?_
      rcases valued with ⟨z, H6, I6, rz, xs, k, c, rfl, hD, hz, hks, nx⟩
      obtain rfl : kv = Value.ref c := ry
      exact d_dictSetN hun I6 hD hz hks rz fun s7 u' I7 => again I7 e3 (nx u')
    · rw [if_neg hok] at q4 ⊢
      exact again I4 e3 q4
end
section
variable {pins : List (Addr × Obj)} {σ : L2.St} {H : Hp} {s : Shared}
/-- an empty dict is new -/
theorem n_new (I : Inv X pins σ H s) : Inv X pins σ (upd H s.heap.objs.size (.ext (RawN X.prog X.w s.heap.objs.size []))) { s with heap := s.heap.push { cls := .type "dict", data := .dict #[] } } :=
  I.laid (t' := s.toks) (fun b o e => Heap.get?_push_of_some _ e) (Nat.le_refl _) (rawN_new s.heap I.big)
theorem n_out {own : List Addr} {o : HO} {ob : Obj} (ho : ∀ b ∈ own, FpOk X pins H b) (hs : ∀ b ∈ own, b < s.heap.objs.size) : ∀ b ∈ own, FpOk X pins (upd H s.heap.objs.size o) b ∧ b < (s.heap.push ob).objs.size := by
  intro b hb
  have lt := hs b hb
  refine ⟨⟨(upd_ne (Nat.ne_of_lt lt)).trans (ho b hb).1, (ho b hb).2⟩, ?_⟩
  rw [Heap.size_push]
  exact Nat.lt_succ_of_lt lt
end
/-- as a value -/
theorem pe_dcN {kxp vxp tgt itx : Expr} {ifz : List Expr} {scope : Scope} {ownl : List (Str × Nat)} {pos : Pos} {wit : TI} {g : TG} {tt : TT} {tk tv : TE} (hun : X.A.units + 64 < cLine) (hcm : X.calm = true) (hNd : X.N.Nodup) (hit : PI X tgt itx wit) (okb : BlkOk X.N X.env.scope scope ownl)
    (htg : ∀ (sh : Shared) (H : Hp) (C : Addr) (cl : List (Str × Addr)) (fpr : List Addr), PG (X.blk sh H scope (compEnvC scope cl C X.env) fpr) tgt g) (htt : ∀ (sh : Shared) (H : Hp) (C : Addr) (cl : List (Str × Addr)) (fpr : List Addr), PTs (X.blk sh H scope (compEnvC scope cl C X.env) fpr) ifz tt)
    (hkx : ∀ (sh : Shared) (H : Hp) (C : Addr) (cl : List (Str × Addr)) (fpr : List Addr), PE (X.blk sh H scope (compEnvC scope cl C X.env) fpr) kxp tk)
    (hvx : ∀ (sh : Shared) (H : Hp) (C : Addr) (cl : List (Str × Addr)) (fpr : List Addr), PE (X.blk sh H scope (compEnvC scope cl C X.env) fpr) vxp tv) (hfs : ∀ x, foldedSetIterable itx X.env x = pure x := by intro _; rfl) :
    PE X (.DictComp kxp vxp [⟨tgt, itx, ifz, 0⟩] scope pos) (tDcN X.prog X.w wit g tt tk tv (ownl.map (·.2))) where
  run := by
    intro pins s σ H Q I h
    have seen : ∀ y ∈ scope.names, y.2 = .free → ∃ c, X.env.cells.lookup y.1 = some c := fun y hy e =>
      (okb.free y hy e).elim (fun k => I.ok.has _ (.inl k)) fun k => I.ok.has _ (.inr k)
    rw [arm_eval_DictComp]
    refine wpAny_comprehension_free (use := none) rfl hfs (closure_ok seen) okb.kind (fun y hy e => (okb.uniq y hy).trans (by rw [e])) ?_
    refine thn (hit.run pins s σ H _ I h) fun v s1 came => thn came fun itv s2 came2 => ?_
    obtain ⟨a, own, st, J, H2, rfl, I2, T, n2, f2, q⟩ := came2
    -- the dict, then the block
    refine wpAny_newObj_type (newEnv_comp ?_)
    obtain ⟨W, ⟨m, w0⟩, hW⟩ := q s2.heap.objs.size (I2.hok.fresh (Nat.le_refl _))
    have I3 := n_new I2
    have o3 := n_out (o := .ext (RawN X.prog X.w s2.heap.objs.size [])) (ob := { cls := .type "dict", data := .dict #[] }) f2 fun b hb => (T.obj 0 s2.heap n2 b hb).elim fun o e => Heap.lt_size e.1
    have n3 : st 0 (s2.heap.push { cls := .type "dict", data := .dict #[] }) := T.keep 0 _ _ n2 fun b _ o e => Heap.get?_push_of_some _ e
    generalize hD : s2.heap.objs.size = D at I3 o3 w0 hW ⊢
    generalize hs3 : ({ s2 with heap := s2.heap.push { cls := .type "dict", data := .dict #[] } } : Shared) = s3 at I3
    have h3 : s2.heap.push { cls := .type "dict", data := .dict #[] } = s3.heap := by rw [← hs3]
    rw [h3] at o3 n3
    generalize hH3 : upd H2 D (.ext (RawN X.prog X.w D [])) = H3 at I3 o3 w0
    have I4 := block_start I3 okb hNd o3
    have n4 : st 0 (pushCells (s3.heap.push { cls := .type "dict", data := .dict #[] }) scope.names) := T.keep 0 _ _ n3 fun b _ o e => pushCells_keeps _ _ _ _ (Heap.get?_push_of_some _ e)
    have lp := n_loop (Y := X.blk s3 H3 scope (compEnvC scope (cellsFrom (s3.heap.objs.size + 1) scope.names (cloFrom X.env.cells scope.names [])) s3.heap.objs.size X.env) own) (own := own) (D := D) (itx := itx) (scope := scope) (pos := pos) (R := compPost (model X.prog X.w) X.A X.xe none (fun v s' => ∃ y H', Inv X pins σ H' s' ∧ RelV y v ∧ Q y H') (.ref D) s3.heap.objs.size)
      rfl rfl rfl hcm hun T (htg _ _ _ _ _) (htt _ _ _ _ _) (hkx _ _ _ _ _) (hvx _ _ _ _ _) ⟨I4, n4, fun b hb => (o3 b hb).1.1, w0⟩ hW fun s' H' I' qd => by
        obtain ⟨mm, hn, _⟩ := I'.loc
        have fr : H' s3.heap.objs.size = none := I'.free
        have back : Inv X pins σ H' s' := I3.call' (ch := own) I'.os I'.base I'.hok I'.bare fun b hb => ⟨(o3 b hb).1.2.2.2.1, (o3 b hb).1.2.1, (o3 b hb).1.2.2.2.2.1, (o3 b hb).1.2.2.2.2.2⟩
        have fC := I3.fpOk (H' := H') (Nat.le_refl _) fr
        exact ⟨mm, hn, fun h'' sb => ⟨.ref D, H', back.turned (t' := s'.toks) (fun b o hb e => (sb.2 b hb).trans e) fC.1 fC.2.1 fC.2.2.2.1 fC.2.2.2.2.1 fC.2.2.2.2.2, rfl, qd⟩⟩
    subst hs3
    exact codeAny_compStart_dict lp (T.self X.A 0 _ _ _ n4 lp)

/-- len of a dict of nested keys -/
theorem call_lenN : CallR X (.builtin "len") (fun xs H Q => ∃ D es, xs = [.ref D] ∧ H D = some (.ext (RawN X.prog X.w D es)) ∧ es.length < sizeLine ∧ (∀ x ∈ es, KeyN X.prog X.w H x.1 x.2.1) ∧ Q (.int es.length) H) := by
  intro pins s σ H xs us Q I r h
  obtain ⟨D, es, rfl, hD, hl, hks, q⟩ := h
  obtain ⟨u, rfl, rx⟩ := vals1 r
  cases rx
  obtain ⟨⟨hn, o, en, ep, e1, e2, e3, e4, e5⟩, _, _⟩ := (show ObjOk X.prog X.w H s.heap D (.ext (RawN X.prog X.w D es)) from I.hok D _ hD)
  exact call_len_dictH hn (knd := nestedKind X.prog X.w) ⟨o, en, ep, e1, e2, e3, e4, fun x hx => hks x hx _ I.hok, e5⟩ (by rw [show sizeLine = 16777216 from sizeLine_eq] at hl; omega) ⟨.int es.length, H, I.tok _, ⟨_, rfl⟩, q⟩
end
end Pk

namespace Pk
open PySem PySem.Spec PyProof.Rows L2
mutual
def D.nk : D → Option NestedKey
  | .non => some .none
  | .bl b => some (.num (if b = true then 1 else 0))
  | .int i => some (.num i)
  | .str x => some (.text x)
  | .tup ds => (nks ds).map .tup
  | _ => none
def nks : List D → Option (List NestedKey)
  | [] => some []
  | d :: ds => match d.nk, nks ds with
    | some k, some ks => some (k :: ks)
    | _, _ => none
end
section
variable {P : Program} {w : World} {K : PySem.W.Frag} {G H : Hp} {h : Heap}
mutual
theorem nk_is (ok : HOk P w H h) : ∀ {d : D} {v : V} {u : Value} {k : NestedKey}, Dq K H v d → RelV v u → d.nk = some k → NestedIs h k u
  | .non, _, _, _, .non, r, e => by cases e; obtain rfl : _ = Value.none := r; exact .none
  | .bl _, _, _, _, .bl b, r, e => by cases e; obtain rfl : _ = Value.bool b := r; exact .bool rfl
  | .int _, _, _, _, .int i, r, e => by cases e; obtain ⟨t, rfl⟩ := r; exact .int i t
  | .str _, _, _, _, .str x, r, e => by cases e; obtain ⟨t, rfl⟩ := r; exact .text x t
  | .tup ds, _, _, k, .tup hr hs, r, e => by
    obtain rfl : _ = Value.ref _ := r
    have e : (nks ds).map NestedKey.tup = some k := by rw [← e]; rfl
    obtain ⟨ks, e1, rfl⟩ := Option.map_eq_some_iff.mp e
    obtain ⟨_, its, hv, o, p1, p2, n, p3⟩ := Rd.ok hr ok
    exact .tup p1 p2 p3 (by simpa using nks_are ok hs hv e1)
  | .lst _, _, _, _, _, _, e => by cases e
  | .dic _, _, _, _, _, _, e => by cases e
theorem nks_are (ok : HOk P w H h) : ∀ {ds : List D} {vs : List V} {us : List Value} {ks : List NestedKey}, Dqs K H vs ds → Vals vs us → nks ds = some ks → NestedAll h ks us
  | [], _, _, _, .nil, r, e => by cases e; cases r; exact .nil
  | d :: ds, _, _, ks, .cons q qs, r, e => by
    cases r with
    | cons r1 r2 =>
      unfold nks at e
      cases e1 : d.nk with
      | none => rw [e1] at e; cases e
      | some k =>
        cases e2 : nks ds with
        | none => rw [e1, e2] at e; cases e
        | some kk =>
          rw [e1, e2] at e
          cases e
          exact .cons (nk_is ok q r1 e1) (nks_are ok qs r2 e2)
end
theorem keyN_of {d : D} {a : Addr} {k : NestedKey} (q : Dq K G (.ref a) d) (e : Same G H) (hk : d.nk = some k) (hd : k.depth ≤ 8) : KeyN P w H k a := fun h ok => ⟨nk_is ok (q.up e) rfl hk, hd⟩
/-- the dict of nested keys so far, at Dl -/
def DnInv (P : Program) (w : World) (K : PySem.W.Frag) (G0 H0 : Hp) (Dl : Addr) (ks : List NestedKey) (H : Hp) : Prop := ∃ G xs, Gr G0 H0 G H ∧ H0 Dl = none ∧ G Dl = none ∧ H Dl = some (.ext (RawN P w Dl xs)) ∧ xs.map (·.1) = ks ∧ ∀ x ∈ xs, ∃ d, Dq K G (.ref x.2.1) d ∧ d.nk = some x.1 ∧ x.1.depth ≤ 8
end
/-- a dict comprehension's loop -/
theorem dcn_gen {P : Program} {w : World} {J : It} {n : Nat} {g : TG} {tt : TT} {tk tv : TE} {vs : List Nat} {σ : L2.St} {H1 : Hp} {Dl : Addr} {Qd : Hp → Prop} (it : Nat → V → Prop) (Pv : Nat → Hp → Prop) (h0 : Pv 0 (upd H1 Dl (.ext (RawN P w Dl []))))
    (hgo : ∀ i H, i < n → Pv i H → J.go i H) (hst : ∀ H, Pv n H → J.stop n H) (hy : ∀ i H x H', i < n → Pv i H → J.yld i H x H' → H' = H ∧ it i x)
    (hs : ∀ i x H, i < n → it i x → Pv i H → g x (wipe σ vs) H fun σ2 H2 => wipe σ2 vs = wipe σ vs ∧ tt σ2 H2 fun b H3 =>
      if b = true then tk σ2 H3 fun y H4 => tv σ2 H4 fun z H5 => ∃ xs k a, y = .ref a ∧ H5 Dl = some (.ext (RawN P w Dl xs)) ∧ xs.length < sizeLine ∧ (KeyN P w H5 k a ∧ ∀ x ∈ xs, KeyN P w H5 x.1 x.2.1) ∧ ∀ u, Pv (i + 1) (upd H5 Dl (.ext (RawN P w Dl (storedH xs k a u)))) else Pv (i + 1) H3) (hd : ∀ H, Pv n H → Qd H) :
    ∃ W : Nat → Nat → Hp → Prop, (∃ m, W 0 m (upd H1 Dl (.ext (RawN P w Dl [])))) ∧ ∀ i m H, W i m H →
      (J.stop i H ∧ Qd H) ∨ (J.go i H ∧ ∃ Nx : Hp → Prop, (∀ H', Nx H' → ∃ m', m' < m ∧ W (i + 1) m' H') ∧ ∀ x H', J.yld i H x H' → g x (wipe σ vs) H' fun σ2 H2 => wipe σ2 vs = wipe σ vs ∧ tt σ2 H2 fun b H3 =>
        if b = true then tk σ2 H3 fun y H4 => tv σ2 H4 fun z H5 => ∃ xs k a, y = .ref a ∧ H5 Dl = some (.ext (RawN P w Dl xs)) ∧ xs.length < sizeLine ∧ (KeyN P w H5 k a ∧ ∀ x ∈ xs, KeyN P w H5 x.1 x.2.1) ∧ ∀ u, Nx (upd H5 Dl (.ext (RawN P w Dl (storedH xs k a u)))) else Nx H3) := by
  refine ⟨fun i m H => m = n - i ∧ i ≤ n ∧ Pv i H, ⟨n, by simp, Nat.zero_le _, h0⟩, ?_⟩
  rintro i m H ⟨rfl, hi, p⟩
  by_cases hlt : i < n
  · refine .inr ⟨hgo i H hlt p, Pv (i + 1), fun H' p' => ⟨n - (i + 1), by omega, rfl, hlt, p'⟩, fun x H' y => ?_⟩
    obtain ⟨e, z⟩ := hy i H x H' hlt p y
    subst e
    exact hs i x _ hlt z p
  · have e : i = n := by omega
    subst e
    exact .inl ⟨hst H p, hd H p⟩
section
variable {P : Program} {w : World} {K : PySem.W.Frag} {σ : L2.St} {G H : Hp} {tl tk tv : TE} {x : D} {ds : List D}
/-- len({k: v for x in s}), the keys nested tuples, all different -/
theorem ev_lenN {j : Nat} (h : EvD K tl σ G x) (hk : Lk x ds) (hz : ds.length < 50000) (kd vd : D → D) (kk : D → NestedKey) (hw : ∀ u, wipe ((wipe σ [j]).set j (some u)) [j] = wipe σ [j]) (hn : (ds.map kk).Nodup)
    (hkn : ∀ di ∈ ds, (kd di).nk = some (kk di) ∧ (kk di).depth ≤ 8 ∧ ∃ es, kd di = .tup es)
    (hkk : ∀ di u G1, di ∈ ds → Same G G1 → Dq K G1 u di → EvD K tk ((wipe σ [j]).set j (some u)) G1 (kd di)) (he : ∀ di u G1, di ∈ ds → Same G G1 → Dq K G1 u di → EvD K tv ((wipe σ [j]).set j (some u)) G1 (vd di)) :
    EvD K (tCB (fun xs H Q => ∃ D es, xs = [.ref D] ∧ H D = some (.ext (RawN P w D es)) ∧ es.length < sizeLine ∧ (∀ x ∈ es, KeyN P w H x.1 x.2.1) ∧ Q (.int es.length) H) (tCons (tDcN P w (iSeq K tl) (gName j) tYes tk tv [j]) tNil)) σ G (.int ds.length) := fun H e Q q =>
  h H e _ fun x' G1 H1 g1 hx => by
    have fin : ∀ (Dl : Addr) (H' : Hp), DnInv P w K G1 H1 Dl ((ds.take ds.length).map kk) H' → ∃ D es, [V.ref Dl] = [V.ref D] ∧ H' D = some (.ext (RawN P w D es)) ∧ es.length < sizeLine ∧ (∀ x ∈ es, KeyN P w H' x.1 x.2.1) ∧ Q (.int es.length) H' := fun Dl H' p => by
      obtain ⟨G2, xs, g2, h0, h1, h2, h3, h4⟩ := p
      have hl : xs.length = ds.length := by
        have := congrArg List.length h3
        simpa using this
      refine ⟨Dl, xs, rfl, h2, ?_, fun y hy => ?_, ?_⟩
      · rw [hl]; exact Nat.lt_of_lt_of_le hz (show 50000 ≤ sizeLine by decide)
      · obtain ⟨d, q1, q2, q3⟩ := h4 y hy
        exact keyN_of q1 g2.gh q2 q3
      · rw [hl]
        exact q _ G2 H' (g1.trans g2) (.int _)
    have strt : ∀ {Dl : Addr}, H1 Dl = none → DnInv P w K G1 H1 Dl [] (upd H1 Dl (.ext (RawN P w Dl []))) := fun {Dl} hD => ⟨G1, [], Gr.ov g1.gh hD, hD, same_none g1.gh hD, upd_same, rfl, fun _ z => nomatch z⟩
    have turn : ∀ (Dl : Addr) (i : Nat) (y : V) (H' : Hp), i < ds.length → (∃ di, ds[i]? = some di ∧ Dq K G1 y di) → DnInv P w K G1 H1 Dl ((ds.take i).map kk) H' →
        gName j y (wipe σ [j]) H' fun σ2 H2 => wipe σ2 [j] = wipe σ [j] ∧ tYes σ2 H2 fun b' H3 => if b' = true then tk σ2 H3 fun y' H4 => tv σ2 H4 fun z H5 => ∃ xs k a, y' = .ref a ∧ H5 Dl = some (.ext (RawN P w Dl xs)) ∧ xs.length < sizeLine ∧ (KeyN P w H5 k a ∧ ∀ x ∈ xs, KeyN P w H5 x.1 x.2.1) ∧ ∀ u, DnInv P w K G1 H1 Dl ((ds.take (i + 1)).map kk) (upd H5 Dl (.ext (RawN P w Dl (storedH xs k a u))))
          else DnInv P w K G1 H1 Dl ((ds.take (i + 1)).map kk) H3 := fun Dl i y H' hlt ⟨di, hdi, hq⟩ p => by
      have hm := List.mem_of_getElem? hdi
      obtain ⟨G2, xs, g2, h0, h1, h2, h3, h4⟩ := p
      obtain ⟨n1, n2, es, n3⟩ := hkn di hm
      refine ⟨hw y, iteT (B := DnInv P w K G1 H1 Dl ((ds.take (i + 1)).map kk) H') (hkk di y G2 hm (g1.g.trans g2.g) (hq.up g2.g) H' g2.gh _ fun ky G4 H4 g4 hky => ?_)⟩
      have a4 := g4.apart h2 h1
      refine (((he di y G2 hm (g1.g.trans g2.g) (hq.up g2.g)).up g4.g) H4 g4.gh _ fun vy G5 H5 g5 hvy => ?_)
      have a5 := g5.apart (g4.h _ _ h2) a4
      have e5 := g5.h _ _ (g4.h _ _ h2)
      rw [n3] at hky n1
      obtain ⟨a, rfl⟩ : ∃ a, ky = V.ref a := by
        cases hky with
        | @tup a _ _ _ _ => exact ⟨a, rfl⟩
      have hl : xs.length ≤ ds.length := by
        have := congrArg List.length h3
        rw [List.length_map, List.length_map, List.length_take] at this
        omega
      have hnew : kk di ∉ xs.map (·.1) := by
        rw [h3]
        intro hmem
        have hnd : ((ds.take (i + 1)).map kk).Nodup := (List.Sublist.map kk (List.take_sublist _ _)).nodup hn
        rw [take_next hdi, List.map_append, List.nodup_append] at hnd
        exact hnd.2.2 _ hmem _ (by simp) rfl
      refine ⟨xs, kk di, a, rfl, e5, Nat.lt_of_le_of_lt (Nat.le_trans hl (Nat.le_of_lt hz)) (show 50000 < sizeLine by decide), ⟨keyN_of (hky.up g5.g) g5.gh n1 n2, fun z hz' => ?_⟩, fun u => ?_⟩
      · obtain ⟨d, q1, q2, q3⟩ := h4 z hz'
        exact keyN_of (q1.up (g4.g.trans g5.g)) g5.gh q2 q3
      · have hst : storedH xs (kk di) a u = xs ++ [(kk di, a, u)] := storedH_new (atKey_none_of_get fun j p e => hnew (List.mem_map.mpr ⟨_, List.mem_of_getElem? e, rfl⟩)) a u
        rw [hst]
        refine ⟨G5, _, gr_upd (g2.trans (g4.trans g5)) h0 a5, h0, a5, upd_same, ?_, fun z hz' => ?_⟩
        · rw [List.map_append, h3, take_next hdi, List.map_append]
          rfl
        · rcases List.mem_append.mp hz' with hz' | hz'
          · obtain ⟨d, q1, q2, q3⟩ := h4 z hz'
            exact ⟨d, q1.up (g4.g.trans g5.g), q2, q3⟩
          · rw [List.mem_singleton.mp hz']
            exact ⟨_, hky.up g5.g, n1, n2⟩
    cases hk with
    | lst ds =>
      cases hx with
      | @lst a xs _ hr hs =>
        refine .inl ⟨a, rfl, ⟨xs, seqL (Rd.up g1.gh hr)⟩, fun Dl hD => ?_⟩
        have sq : ∀ (ys : List NestedKey) (H' : Hp), DnInv P w K G1 H1 Dl ys H' → SqL K H' a xs := fun ys H' ⟨G2, acc, g2, _, _, _, _⟩ => seqL (Rd.up g2.gh (Rd.up g2.g hr))
        exact dcn_gen (n := ds.length) (fun i x => ∃ di, ds[i]? = some di ∧ Dq K G1 x di) (fun i H' => DnInv P w K G1 H1 Dl ((ds.take i).map kk) H') (strt hD)
          (fun i H' hlt p => ⟨xs, xs[i]'(by rw [hs.length]; exact hlt), sq _ H' p, by simp [hs.length, hlt]⟩) (fun H' p => ⟨xs, sq _ H' p, Nat.le_of_eq hs.length⟩)
          (fun i H' x H'' hlt p y => ⟨y.1, hs.at (y.2 xs (sq _ H' p))⟩) (fun i x H' hlt hq p => turn Dl i x H' hlt hq p) (fun H' p => fin Dl H' p)
    | tup ds =>
      cases hx with
      | @tup a xs _ hr hs =>
        refine .inr (.inl ⟨a, rfl, ⟨xs, seqT (Rd.up g1.gh hr)⟩, fun Dl hD => ?_⟩)
        have sq : ∀ (ys : List NestedKey) (H' : Hp), DnInv P w K G1 H1 Dl ys H' → SqT K H' a xs := fun ys H' ⟨G2, acc, g2, _, _, _, _⟩ => seqT (Rd.up g2.gh (Rd.up g2.g hr))
        exact dcn_gen (n := ds.length) (fun i x => ∃ di, ds[i]? = some di ∧ Dq K G1 x di) (fun i H' => DnInv P w K G1 H1 Dl ((ds.take i).map kk) H') (strt hD)
          (fun i H' hlt p => ⟨xs, xs[i]'(by rw [hs.length]; exact hlt), sq _ H' p, by simp [hs.length, hlt]⟩) (fun H' p => ⟨xs, sq _ H' p, Nat.le_of_eq hs.length⟩)
          (fun i H' x H'' hlt p y => ⟨y.1, hs.at (y.2 xs (sq _ H' p))⟩) (fun i x H' hlt hq p => turn Dl i x H' hlt hq p) (fun H' p => fin Dl H' p)
end
end Pk
/-! enumerate over a tuple that stays. -/
namespace Pk
open PySem PySem.Spec PyProof.Rows L2
theorem meets_enum_any {v : Value} {ob : Obj} {Hq : Heap → Prop} (B : Begins v ob Hq) :
    Meets (Builtin.«enumerate.__new__» ⟨[.type "enumerate", v], []⟩) (fun _ R s => Hq s.heap ∧
      R (.ok (.ret (.ref (s.heap.push ob).objs.size))) { s with heap := (s.heap.push ob).push { cls := .type "enumerate", data := .fields #[.none, .bool false, .ref s.heap.objs.size, rawInt 0, .none, .none] } }) :=
  .of_wp fun prog w A R s hh => by
    obtain ⟨hp, gg, dd, tk, os⟩ := s
    obtain ⟨hq, hr⟩ := hh
    have hsub := sub_enumerate
    have itr : ∀ {A' : Around} {E' : Value → Shared → Prop} {Q' : Value → Shared → Prop}, Q' (.ref hp.objs.size) ⟨hp.push ob, gg, dd, tk, os⟩ → wpAny (model prog w) A' (pyIter v) Q' E' ⟨hp, gg, dd, tk, os⟩ :=
      fun z => B.iter prog w _ _ ⟨hp, gg, dd, tk, os⟩ _ hq z
    wp_walk using itr
    refine wpAny_stack_any fun st' => wpAny_pure ?_
    split
    · rename_i c _ _ _ _ _
      cases (c == Value.type "enumerate")
      · wp_walk using itr
        exact ⟨_, rfl, hr⟩
      · wp_walk using itr
        exact ⟨_, rfl, hr⟩
    · wp_walk using itr
      exact ⟨_, rfl, hr⟩
theorem call_enum_any {prog : Program} {w : World} {A : Around} {E : Value → Shared → Prop} {s : Shared} {v : Value} {ob : Obj} {Hq : Heap → Prop} {Q : Value → Shared → Prop} (B : Begins v ob Hq) (hq : Hq s.heap)
    (h : ∀ h', IsEnum h' (s.heap.objs.size + 1) s.heap.objs.size 0 .none → h'.get? s.heap.objs.size = some ob → (∀ b o, s.heap.get? b = some o → h'.get? b = some o) → Q (.ref (s.heap.objs.size + 1)) { s with heap := h' }) :
    wpAny (model prog w) A (call (.type "enumerate") [v]) Q E s := by
  refine callType_new F.called_enumerate (by decide) (F.typeCall_enumerate_1 _) (F.newCall_enumerate_1 _) (fun obj => F.args_object_init_2 obj _) F.entry_enumerate_new (meets_enum_any B) ⟨hq, ?_⟩
  have hz : (s.heap.push ob).objs.size = s.heap.objs.size + 1 := Heap.size_push ..
  show _ ∧ _
  rw [hz]
  have he : IsEnum ((s.heap.push ob).push { cls := .type "enumerate", data := .fields #[.none, .bool false, .ref s.heap.objs.size, rawInt 0, .none, .none] }) (s.heap.objs.size + 1) s.heap.objs.size 0 .none := by
    have := Heap.get?_push_size (s.heap.push ob) (o := { cls := .type "enumerate", data := .fields #[.none, .bool false, .ref s.heap.objs.size, rawInt 0, .none, .none] }) rfl
    rw [hz] at this
    exact this
  exact ⟨⟨_, he, rfl⟩, h _ he (Heap.get?_push_of_some _ (Heap.get?_push_size _ B.free)) fun b o x => Heap.get?_push_of_some _ (Heap.get?_push_of_some _ x)⟩
theorem drained {prog : Program} {w : World} {A : Around} (hh : A.handled = none) (it t : Addr) (items : Array Value) (i : Nat) (hi : items.size ≤ i) :
    Draws prog w A it [it, t] 0 (fun _ _ => False) (fun _ h => h.IsTupleIter it t i ∧ h.IsTuple t items) where
  live := fun _ _ st => let ⟨o, ho, _⟩ := st.1; ⟨o, ho⟩
  frame := fun _ _ _ st kp => ⟨st.1.at fun o e => kp it (by simp) o e, st.2.at fun o e => kp t (by simp) o e⟩
  item := fun j s Q E hj _ _ => absurd hj (Nat.not_lt_zero _)
  done := fun s Q E st hE => wpAny_nextOf_tuple_end hh st.1 st.2 (by simp [hi]) hE
/-- the items of the tuple at a, each in a new pair -/
def ItE (K : PySem.W.Frag) (a : Addr) : It :=
  ⟨fun i H => ∃ (xs : List V) (x : V), SqT K H a xs ∧ xs[i]? = some x, fun i H v H' => ∃ T x, v = .ref T ∧ H T = none ∧ H' = upd H T (.tup [.int (i : Nat), x]) ∧ ∀ xs, SqT K H a xs → xs[i]? = some x, fun i H => ∃ xs : List V, SqT K H a xs ∧ xs.length ≤ i⟩
theorem turn_enumT {P : Program} {w : World} {K : PySem.W.Frag} {elts : List Expr} {kk : Nat} {tpos : Pos} (a e it : Addr) (hai : a ≠ it) (hae : a ≠ e) :
    Turn P w K (.Tuple elts kk tpos) (ItE K a) [e, it] e (fun i h => (∃ old, IsEnum h e it ((i : Nat) : Int) old) ∧ h.IsTupleIter it a i ∧ e ≠ it) where
  mem := by simp
  obj := fun i h st bb hb => by
    obtain ⟨⟨old, he⟩, ⟨o, ho, hc, hd⟩, _⟩ := st
    have e' : bb = e ∨ bb = it := by simpa using hb
    rcases e' with z | z
    · rw [z]
      exact ⟨_, he, fun v q => nomatch q⟩
    · rw [z]
      exact ⟨o, ho, fun v q => by rw [hd] at q; cases q⟩
  keep := fun i h h' st kp => let ⟨⟨old, he⟩, hi, hne⟩ := st; ⟨⟨old, kp e (by simp) _ he⟩, hi.at fun o q => kp it (by simp) o q, hne⟩
  item := by
    intro X hP hw hK hc i pins s σ H E I hf st hg
    subst hP hw hK
    obtain ⟨⟨old, he⟩, hit, hne⟩ := st
    obtain ⟨xs, x, hq, hx⟩ := hg
    obtain ⟨its, rv, p, hz⟩ := I.tuple hq
    obtain ⟨u, hu, ru⟩ := rv.get hx
    have hel : e < s.heap.objs.size := Heap.lt_size he
    have hil : it < s.heap.objs.size := by obtain ⟨_, q, _⟩ := hit; exact Heap.lt_size q
    have hsz : its.toArray.size = xs.length := by rw [rv.length]; simp
    have hlt : i < its.toArray.size := by rw [hsz]; exact (List.getElem?_eq_some_iff.mp hx).1
    have hh : X.A.in1.handled = none := I.ok.hd hc
    refine wpAny_pyNext_enum_itemC (Draws.tuple hh it a hai its.toArray) he ⟨hit, p⟩ hlt hne (by simp [hne, Ne.symm hae]) fun y h' tk hP ho hit' hT hsz' hk => ?_
    have hy : y = u := by
      have z : its.toArray[i]? = some y := hP
      have z2 : its[i]? = some y := by simpa using z
      rw [hu] at z2
      exact (Option.some.inj z2).symm
    subst hy
    refine ⟨_, rfl, wpAny_letOwnedTupleGo_enum (s := { s with heap := h', toks := tk + 1 }) ho fun h'' he' sb => ?_⟩
    have hT2 : h''.get? s.heap.objs.size = some { cls := .type "tuple", data := .seq #[.int i tk, y] } := (sb.2 _ (Nat.ne_of_gt hel)).trans hT
    have new : ObjOk X.prog X.w (upd H s.heap.objs.size (.tup [.int (i : Nat), x])) h'' s.heap.objs.size (.tup [.int (i : Nat), x]) :=
      ⟨by show 2 ≤ sizeLine; decide, [.int i tk, y], .cons ⟨_, rfl⟩ (.cons ru .nil), ⟨_, hT2, rfl, _, rfl⟩⟩
    have J1 : Inv X pins σ (upd H s.heap.objs.size (.tup [.int (i : Nat), x])) { s with heap := h'', toks := tk + 1 } :=
      I.turnedNew (ch := [e, it]) (fun b ob hb q => (sb.2 b (fun z => hb (by simp [z]))).trans (hk b ob (fun z => hb (by simp [z])) (fun z => hb (by simp [z])) q)) hf (Nat.le_refl _) new
    refine ⟨.ref s.heap.objs.size, _, J1, rfl, ⟨_, x, rfl, I.hok.fresh (Nat.le_refl _), rfl, fun ys hy => by rw [I.tuple_inj hy hq]; exact hx⟩, ⟨⟨y, ?_⟩, hit'.1.at fun o q => (sb.2 it (Ne.symm hne)).trans q, hne⟩, fun b hb => ?_⟩
    · have e1 : ((i + 1 : Nat) : Int) = (i : Int) + 1 := by omega
      rw [e1]
      exact he'
    · have hb' : b < s.heap.objs.size := by
        have e' : b = e ∨ b = it := by simpa using hb
        rcases e' with z | z
        · rw [z]; exact hel
        · rw [z]; exact hil
      rw [upd_ne (Nat.ne_of_lt hb')]
      exact (hf b hb).1
  done := by
    intro X hP hw hK hc i pins s σ H E I hf st hg
    subst hP hw hK
    obtain ⟨⟨old, he⟩, hit, hne⟩ := st
    obtain ⟨xs, hq, hx⟩ := hg
    obtain ⟨its, rv, p, hz⟩ := I.tuple hq
    obtain ⟨k0, k1, k2, k3, k4, k5⟩ := hf it (by simp)
    have hsz : its.toArray.size = xs.length := by rw [rv.length]; simp
    have hh : X.A.in1.handled = none := I.ok.hd hc
    exact wpAny_pyNext_enum_endD (drained hh it a its.toArray i (by omega)) he ⟨hit, p⟩ fun h' eb => ⟨rfl, I.turned (t' := s.toks) (fun b o hb q => eb b o hb q) k0 k1 k3 k4 k5⟩
  self := fun A i s Q E st h => let ⟨⟨_, he⟩, _⟩ := st; wpAny_pyIter_enum he h
def iEnumS (K : PySem.W.Frag) (ta : TA) : TI := fun σ H R => ta σ H fun vs H1 => ∃ a xs, vs = [.ref a] ∧ ((SqL K H1 a xs ∧ R (Ite K a) H1) ∨ (SqT K H1 a xs ∧ R (ItE K a) H1))
theorem pi_enumS {X : Cx} {e : Expr} {ta : TA} {p pos tpos : Pos} {elts : List Expr} {kk : Nat} (hgl : Gl X "enumerate") (hmn : X.mg "enumerate" = none) (ha : PA X [e] ta) (hst : starEach [e] X.env = [(false, eval e X.env)] := by rfl) :
    PI X (.Tuple elts kk tpos) (.Call (.Name "enumerate" p) [e] [] pos) (iEnumS X.K ta) := by
  refine ⟨fun pns sh τ H R IV h => ?_⟩
  refine Call_ (ld_blt IV hgl hmn boot_enumerate (PyProof.Rows.callWith_type1 (thn (ha.run pos pns sh τ H _ IV h) fun us u1 ⟨vs, F1, J1, r1, k1⟩ => ?_) hst rfl))
  obtain ⟨a, xs, ex, k1⟩ := k1
  subst ex
  cases r1 with
  | cons r rr =>
    cases rr
    cases r
    have fp : ∀ b ∈ [u1.heap.objs.size + 1, u1.heap.objs.size], FpOk X pns F1 b := fun b hb => by
      have e' : b = u1.heap.objs.size + 1 ∨ b = u1.heap.objs.size := by simpa using hb
      have hle : u1.heap.objs.size ≤ b := by
        rcases e' with z | z
        · rw [z]; exact Nat.le_add_right _ _
        · rw [z]; exact Nat.le_refl _
      exact J1.fpOk hle (J1.hok.fresh hle)
    rcases k1 with ⟨hq, q⟩ | ⟨hq, q⟩
    · obtain ⟨its, rv, p', hz⟩ := J1.list hq
      refine call_enumerate_list p'.isList fun h' he hit hsz hk => wpAny_pyIter_enum he ?_
      exact ⟨u1.heap.objs.size + 1, [u1.heap.objs.size + 1, u1.heap.objs.size], _, _, F1, rfl, J1.kept (t' := u1.toks) hk, turn_enum a (u1.heap.objs.size + 1) u1.heap.objs.size, ⟨⟨.none, he⟩, hit, Nat.succ_ne_self _⟩, fp, q⟩
    · obtain ⟨its, rv, p', hz⟩ := J1.tuple hq
      have hlt : a < u1.heap.objs.size := by obtain ⟨_, y, _⟩ := p'; exact Heap.lt_size y
      refine call_enum_any (begins_tuple a its.toArray) p' fun h' he hit hk => wpAny_pyIter_enum he ?_
      exact ⟨u1.heap.objs.size + 1, [u1.heap.objs.size + 1, u1.heap.objs.size], _, _, F1, rfl, J1.kept (t' := u1.toks) hk, turn_enumT a (u1.heap.objs.size + 1) u1.heap.objs.size (Nat.ne_of_lt hlt) (Nat.ne_of_lt (Nat.lt_succ_of_lt hlt)), ⟨⟨.none, he⟩, ⟨_, hit, rfl, rfl⟩, Nat.succ_ne_self _⟩, fp, q⟩
end Pk
/-! sorted of lists of data. -/
namespace Pk
open PySem PySem.Spec PyProof.Rows L2
/-- the order of data -/
def dLe (a b : D) : Bool := PySem.W.dataLe false D.py a b
def pLe (a b : V × D) : Bool := PySem.W.dataLe false (fun p : V × D => p.2.py) a b
section
variable {K : PySem.W.Frag} {G H : Hp} {σ : L2.St} {te : TE}
theorem zip_each {h : Heap} {X : Cx} {pins : List (Addr × Obj)} {σ : L2.St} {s : Shared} (I : Inv X pins σ H s) : ∀ {vs : List V} {ds : List D} {us : List Value}, flats ds = true → Dqs X.K H vs ds → Vals vs us →
    PySem.W.EachIs (fun u (p : V × D) => RelV p.1 u) us (vs.zip ds) ∧ PySem.W.EachIs (fun u (p : V × D) => ∃ as, Reads s.heap u p.2.py as) us (vs.zip ds)
  | _, _, _, f, .nil, r => by cases r; exact ⟨.nil, .nil⟩
  | _, _, _, f, .cons q qs, r => by
    cases r with
    | cons r1 r2 =>
      have f := Bool.and_eq_true_iff.mp f
      obtain ⟨a, b⟩ := zip_each (h := h) I f.2 qs r2
      exact ⟨.cons r1 a, .cons (Dp.reads I _ _ _ (q.dp f.1) r1) b⟩
theorem zip_map {vs : List V} {ds : List D} (h : Dqs K G vs ds) : (vs.zip ds).map (fun p => p.2) = ds := by
  induction ds generalizing vs with
  | nil => cases h; rfl
  | cons d ds ih => cases h with | cons a b => simp [ih b]
theorem vals_each : ∀ {us : List Value} {ps : List (V × D)}, PySem.W.EachIs (fun u (p : V × D) => RelV p.1 u) us ps → Vals (ps.map (·.1)) us
  | _, _, .nil => .nil
  | _, _, .cons a b => .cons a (vals_each b)
def rSrtP (K : PySem.W.Frag) : List V → Hp → VK → Prop := fun xs H Q => ∃ a vs ds, xs = [.ref a] ∧ SqL K H a vs ∧ Dqs K H vs ds ∧ flats ds = true ∧ PySem.W.AllAlike (ds.map D.py) ∧ PySem.W.Sortable (ds.map D.py) ∧ ds.length ≤ 1000 ∧ (∀ d ∈ ds, d.py.depth ≤ 50) ∧
  ∀ p, H p = none → Q (.ref p) (upd H p (.lst (((vs.zip ds).mergeSort pLe).map (·.1))))
theorem cr_srtP {X : Cx} (hun : X.A.units + 64 < cLine) : CallR X (.builtin "sorted") (rSrtP X.K) := by
  intro pins s σ H vs us Q I r h
  obtain ⟨a, vs, ds, rfl, hs, hq, hf, hal, hso, hl, hd, q⟩ := h
  obtain ⟨its, rv, hpl, hz⟩ := I.list hs
  rw [Vals.ref1 r]
  obtain ⟨e1, e2⟩ := zip_each (h := s.heap) I hf hq rv
  have em : (vs.zip ds).map (fun p : V × D => p.2.py) = ds.map D.py := by
    have := congrArg (List.map D.py) (zip_map hq)
    rwa [List.map_map] at this
  have hlz : (vs.zip ds).length = ds.length := by rw [List.length_zip, hq.length]; simp
  refine PySem.W.sorted_data (enc := fun p : V × D => p.2.py) (R := fun u (p : V × D) => RelV p.1 u) hpl.isList e1 e2 (by rw [em]; exact hal) (by rw [em]; exact hso) (by rw [hlz]; exact Nat.le_trans hl (by decide))
    (fun p hp => by have := hd p.2 (List.of_mem_zip hp).2; show X.A.units + 2 + p.2.py.depth < cLine; omega) fun out ho eo => ?_
  obtain ⟨ep, he'⟩ := PyProof.Rows.sortedAll_at s.heap its (List.toArray out)
  have hlen : (((vs.zip ds).mergeSort pLe).map (·.1)).length ≤ sizeLine := by rw [List.length_map, List.length_mergeSort, hlz]; exact Nat.le_trans hl (by decide)
  exact ⟨.ref _, upd H (s.heap.objs.size + 1) (.lst (((vs.zip ds).mergeSort pLe).map (·.1))), I.laid (t' := s.toks) (fun _ _ => PyProof.Rows.sortedAll_old) (Nat.le_succ _) ⟨hlen, out, ep, vals_each eo, he'⟩, rfl, q _ (I.hok.fresh (Nat.le_succ _))⟩
theorem dqs_perm {ps qs : List (V × D)} (h : qs.Perm ps) (hp : ∀ p ∈ ps, Dq K G p.1 p.2) : Dqs K G (qs.map (·.1)) (qs.map (·.2)) := by
  have : ∀ p ∈ qs, Dq K G p.1 p.2 := fun p hm => hp p (h.mem_iff.mp hm)
  clear hp h
  induction qs with
  | nil => exact .nil
  | cons q qs ih => exact .cons (this q (by simp)) (ih fun p hm => this p (by simp [hm]))
theorem zip_dq {vs : List V} {ds : List D} (h : Dqs K G vs ds) : ∀ p ∈ vs.zip ds, Dq K G p.1 p.2 := by
  induction ds generalizing vs with
  | nil => intro p hp; cases h; cases hp
  | cons d ds ih =>
    cases h with
    | cons a b =>
      intro p hp
      rcases List.mem_cons.mp hp with e | hp
      · rw [e]; exact a
      · exact ih b p hp
/-- sorted(xs) -/
theorem ev_sorted {ds : List D} (h : EvD K te σ G (.lst ds)) (hf : flats ds = true) (hal : PySem.W.AllAlike (ds.map D.py)) (hso : PySem.W.Sortable (ds.map D.py)) (hl : ds.length ≤ 1000) (hd : ∀ d ∈ ds, d.py.depth ≤ 50) :
    EvD K (tCB (rSrtP K) (tCons te tNil)) σ G (.lst (ds.mergeSort dLe)) := fun H e Q q => h H e _ fun v G1 H1 g1 hv => by
  cases hv with
  | @lst a xs _ hr hs =>
    refine ⟨a, xs, ds, rfl, seqL (Rd.up g1.gh hr), hs.up g1.gh, hf, hal, hso, hl, hd, fun p hp => ?_⟩
    have e2 : ((xs.zip ds).mergeSort pLe).map (·.2) = ds.mergeSort dLe := by
      rw [List.map_mergeSort (r := pLe) (s := dLe) (f := fun p : V × D => p.2) (fun a _ b _ => rfl), zip_map hs]
    refine q _ _ _ (g1.trans (Gr.new g1.gh hp)) (.lst (.inl upd_same) ?_)
    rw [← e2]
    exact (dqs_perm (List.mergeSort_perm _ _) (zip_dq hs)).up (same_new (same_none g1.gh hp))
end
end Pk
/-! Walks over dicts, enumerate; things that may change, read for a while. -/
namespace Pk
open PySem PySem.Spec PyProof.Rows L2
section
variable {K : PySem.W.Frag} {σ : L2.St} {G G1 H : Hp} {te tl ta tb td tk tv : TE} {tt : TT} {ts : TS} {g : TG} {x d : D} {ds : List D} {kvs : List (Str × D)} {E : Ends}
theorem dk_len {ws : List (Key × V)} (h : ws.map (·.1) = kvs.map (fun p => (Sum.inr p.1 : Key))) : ws.length = kvs.length := by
  have := congrArg List.length h
  simpa using this
theorem dk_at {ws : List (Key × V)} (h : ws.map (·.1) = kvs.map (fun p => (Sum.inr p.1 : Key))) (hs : Dqs K G (ws.map (·.2)) (kvs.map (·.2))) {i : Nat} {k : Key} {v : V} (hw : ws[i]? = some (k, v)) :
    ∃ n d, kvs[i]? = some (n, d) ∧ k = Sum.inr n ∧ Dq K G v d := by
  have e1 : (ws.map (·.1))[i]? = some k := by rw [List.getElem?_map, hw]; rfl
  rw [h, List.getElem?_map] at e1
  obtain ⟨p, hp, e1⟩ := Option.map_eq_some_iff.mp e1
  have e2 : (ws.map (·.2))[i]? = some v := by rw [List.getElem?_map, hw]; rfl
  obtain ⟨d, e3, q⟩ := hs.at e2
  rw [List.getElem?_map, hp] at e3
  cases e3
  exact ⟨p.1, p.2, hp, e1.symm, q⟩
theorem f_keys (h : EvD K td σ G (.dic kvs)) (e : Same G H)
    (k : ∀ G1 H1, Gr G H G1 H1 → ∃ Pv : Nat → L2.St → Hp → Prop, Pv 0 σ H1 ∧ (∀ i σ' H', Pv i σ' H' → Same G1 H') ∧
      (∀ i n d σ' H', kvs[i]? = some (n, d) → Pv i σ' H' → g (.str n) σ' H' fun σ2 H2 => ts { E with nx := Pv (i + 1), ct := Pv (i + 1), bk := E.nx } σ2 H2) ∧ ∀ σ' H', Pv kvs.length σ' H' → E.nx σ' H') : tFor (iKeys td) g ts E σ H :=
  h H e _ fun v G1 H1 g1 hv => by
    obtain ⟨Pv, h0, hS, hs, hd⟩ := k G1 H1 g1
    cases hv with
    | @dic a o ws _ hr hk hq =>
      refine ⟨a, o, rfl, .inl ⟨ws, g1.gh _ _ hr, ?_⟩⟩
      have hl := dk_len hk
      exact for_gen (n := kvs.length) (fun i w => ∃ n d, kvs[i]? = some (n, d) ∧ w = .str n) Pv h0 (fun i σ' H' hlt p => ⟨hS _ _ _ p _ _ hr, by omega⟩) (fun σ' H' p => ⟨hS _ _ _ p _ _ hr, by omega⟩)
        (fun i σ' H' w H'' hlt p y => ⟨y.1, by
          obtain ⟨_, k, v, e1, e2⟩ := y
          obtain ⟨n, d, f1, f2, _⟩ := dk_at hk hq e1
          exact ⟨n, d, f1, by rw [e2, f2]; rfl⟩⟩) (fun i w σ' H' hlt ⟨n, d, e1, e2⟩ p => by rw [e2]; exact hs i n d σ' H' e1 p) hd
theorem f_vals (h : EvD K td σ G (.dic kvs)) (e : Same G H)
    (k : ∀ G1 H1, Gr G H G1 H1 → ∃ Pv : Nat → L2.St → Hp → Prop, Pv 0 σ H1 ∧ (∀ i σ' H', Pv i σ' H' → Same G1 H') ∧
      (∀ i n d v σ' H', kvs[i]? = some (n, d) → Dq K G1 v d → Pv i σ' H' → g v σ' H' fun σ2 H2 => ts { E with nx := Pv (i + 1), ct := Pv (i + 1), bk := E.nx } σ2 H2) ∧ ∀ σ' H', Pv kvs.length σ' H' → E.nx σ' H') : tFor (iVals td) g ts E σ H :=
  h H e _ fun v G1 H1 g1 hv => by
    obtain ⟨Pv, h0, hS, hs, hd⟩ := k G1 H1 g1
    cases hv with
    | @dic a o ws _ hr hk hq =>
      refine ⟨a, o, ws, rfl, g1.gh _ _ hr, ?_⟩
      have hl := dk_len hk
      exact for_gen (n := kvs.length) (fun i w => ∃ n d, kvs[i]? = some (n, d) ∧ Dq K G1 w d) Pv h0 (fun i σ' H' hlt p => ⟨hS _ _ _ p _ _ hr, by omega⟩) (fun σ' H' p => ⟨hS _ _ _ p _ _ hr, by omega⟩)
        (fun i σ' H' w H'' hlt p y => ⟨y.1, by
          obtain ⟨_, k, e1⟩ := y
          obtain ⟨n, d, f1, f2, q⟩ := dk_at hk hq e1
          exact ⟨n, d, f1, q⟩⟩) (fun i w σ' H' hlt ⟨n, d, e1, e2⟩ p => hs i n d w σ' H' e1 e2 p) hd
/-- for name, thing in d.items(): each pair a new tuple -/
theorem f_items {a b : Nat} (h : EvD K td σ G (.dic kvs)) (e : Same G H)
    (k : ∀ G1 H1, Gr G H G1 H1 → ∃ Pv : Nat → L2.St → Hp → Prop, Pv 0 σ H1 ∧ (∀ i σ' H', Pv i σ' H' → Same G1 H') ∧
      (∀ i n d v T σ' H', kvs[i]? = some (n, d) → Dq K G1 v d → Pv i σ' H' → H' T = none → ts { E with nx := Pv (i + 1), ct := Pv (i + 1), bk := E.nx } ((σ'.set a (some (.str n))).set b (some v)) (upd H' T (.tup [.str n, v]))) ∧ ∀ σ' H', Pv kvs.length σ' H' → E.nx σ' H') :
    tFor (iItems td) (gTup K 2 (gCons (gName a) (gCons (gName b) gNil))) ts E σ H :=
  h H e _ fun v G1 H1 g1 hv => by
    obtain ⟨Pv, h0, hS, hs, hd⟩ := k G1 H1 g1
    cases hv with
    | @dic ad o ws _ hr hk hq =>
      refine ⟨ad, o, ws, rfl, g1.gh _ _ hr, ?_⟩
      have hl := dk_len hk
      refine ⟨fun i m σ' H' => m = kvs.length - i ∧ i ≤ kvs.length ∧ Pv i σ' H', ⟨kvs.length, by simp, Nat.zero_le _, h0⟩, ?_⟩
      rintro i m σ' H' ⟨rfl, hi, p⟩
      by_cases hlt : i < kvs.length
      · refine .inr ⟨⟨hS _ _ _ p _ _ hr, by omega⟩, Pv (i + 1), fun σ2 H2 p' => ⟨kvs.length - (i + 1), by omega, rfl, hlt, p'⟩, fun x H2 y => ?_⟩
        obtain ⟨T, k, v, e1, e2, hT, e3⟩ := y
        obtain ⟨n, d, f1, f2, q⟩ := dk_at hk hq e1
        subst e2 e3 f2
        exact ⟨T, _, rfl, .inl (.inl upd_same), rfl, _, _, rfl, _, _, rfl, rfl, hs i n d v T σ' H' f1 q p hT⟩
      · have e : i = kvs.length := by omega
        subst e
        exact .inl ⟨⟨hS _ _ _ p _ _ hr, by omega⟩, hd σ' H' p⟩
/-- for index, thing in enumerate(s): each pair a new tuple -/
theorem f_enum {a b : Nat} (h : EvD K tl σ G x) (hk : Lk x ds) (e : Same G H)
    (k : ∀ G1 H1, Gr G H G1 H1 → ∃ Pv : Nat → L2.St → Hp → Prop, Pv 0 σ H1 ∧ (∀ i σ' H', Pv i σ' H' → Same G1 H') ∧
      (∀ i d v T σ' H', ds[i]? = some d → Dq K G1 v d → Pv i σ' H' → H' T = none → ts { E with nx := Pv (i + 1), ct := Pv (i + 1), bk := E.nx } ((σ'.set a (some (.int (i : Nat)))).set b (some v)) (upd H' T (.tup [.int (i : Nat), v]))) ∧ ∀ σ' H', Pv ds.length σ' H' → E.nx σ' H') :
    tFor (iEnumS K (tCons tl tNil)) (gTup K 2 (gCons (gName a) (gCons (gName b) gNil))) ts E σ H :=
  h H e _ fun v G1 H1 g1 hv => by
    obtain ⟨Pv, h0, hS, hs, hd⟩ := k G1 H1 g1
    have fin : ∀ (J : It) (xs : List V), Dqs K G1 xs ds → (∀ i H', i < ds.length → Same G1 H' → J.go i H') → (∀ H', Same G1 H' → J.stop ds.length H') → (∀ i H' x H'', Same G1 H' → J.yld i H' x H'' → ∃ T v, x = .ref T ∧ H' T = none ∧ H'' = upd H' T (.tup [.int (i : Nat), v]) ∧ xs[i]? = some v) →
        ∃ W : Nat → Nat → L2.St → Hp → Prop, (∃ m, W 0 m σ H1) ∧ ∀ i m σ H, W i m σ H → (J.stop i H ∧ E.nx σ H) ∨ (J.go i H ∧ ∃ N : L2.St → Hp → Prop, (∀ σ' H', N σ' H' → ∃ m', m' < m ∧ W (i + 1) m' σ' H') ∧
          ∀ x H', J.yld i H x H' → gTup K 2 (gCons (gName a) (gCons (gName b) gNil)) x σ H' fun σ2 H2 => ts { E with nx := N, ct := N, bk := E.nx } σ2 H2) := by
      intro J xs hq go stop yld
      refine ⟨fun i m σ' H' => m = ds.length - i ∧ i ≤ ds.length ∧ Pv i σ' H', ⟨ds.length, by simp, Nat.zero_le _, h0⟩, ?_⟩
      rintro i m σ' H' ⟨rfl, hi, p⟩
      by_cases hlt : i < ds.length
      · refine .inr ⟨go i H' hlt (hS _ _ _ p), Pv (i + 1), fun σ2 H2 p' => ⟨ds.length - (i + 1), by omega, rfl, hlt, p'⟩, fun x H2 y => ?_⟩
        obtain ⟨T, v, e1, hT, e2, e3⟩ := yld i H' x H2 (hS _ _ _ p) y
        obtain ⟨d, f1, q⟩ := hq.at e3
        subst e1 e2
        exact ⟨T, _, rfl, .inl (.inl upd_same), rfl, _, _, rfl, _, _, rfl, rfl, hs i d v T σ' H' f1 q p hT⟩
      · have e : i = ds.length := by omega
        subst e
        exact .inl ⟨stop H' (hS _ _ _ p), hd σ' H' p⟩
    cases hk with
    | lst ds =>
      cases hv with
      | @lst a xs _ hr hq =>
        refine ⟨a, xs, rfl, .inl ⟨seqL (Rd.up g1.gh hr), fin _ xs hq (fun i H' hlt e' => ⟨xs, xs[i]'(by rw [hq.length]; exact hlt), seqL (Rd.up e' hr), by simp [hq.length, hlt]⟩) (fun H' e' => ⟨xs, seqL (Rd.up e' hr), Nat.le_of_eq hq.length⟩) fun i H' x H'' e' y => ?_⟩⟩
        obtain ⟨T, v, e1, hT, e2, e3⟩ := y
        exact ⟨T, v, e1, hT, e2, e3 xs (seqL (Rd.up e' hr))⟩
    | tup ds =>
      cases hv with
      | @tup a xs _ hr hq =>
        refine ⟨a, xs, rfl, .inr ⟨seqT (Rd.up g1.gh hr), fin _ xs hq (fun i H' hlt e' => ⟨xs, xs[i]'(by rw [hq.length]; exact hlt), seqT (Rd.up e' hr), by simp [hq.length, hlt]⟩) (fun H' e' => ⟨xs, seqT (Rd.up e' hr), Nat.le_of_eq hq.length⟩) fun i H' x H'' e' y => ?_⟩⟩
        obtain ⟨T, v, e1, hT, e2, e3⟩ := y
        exact ⟨T, v, e1, hT, e2, e3 xs (seqT (Rd.up e' hr))⟩
/-! ### a thing that may change, read as if it stayed -/
def cutH (G : Hp) (a : Addr) : Hp := fun b => if b = a then none else G b
theorem cutH_ne {G : Hp} {a b : Addr} (h : b ≠ a) : cutH G a b = G b := if_neg h
theorem cutH_same {G : Hp} {a : Addr} : cutH G a a = none := if_pos rfl
/-- what reads the same without the thing at a -/
def Hides (K : PySem.W.Frag) (a : Addr) (o : HO) (d : D) : Prop := ∀ (G : Hp) (v : V), G a = some o → Dq K G v d → Dq K (cutH G a) v d
theorem hide_gr {G H G1 H1 : Hp} {a : Addr} {o : HO} (hG : G a = none) (hH : H a = some o) (g : Gr (upd G a o) H G1 H1) : Gr G H (cutH G1 a) H1 ∧ G1 a = some o := by
  have e1 : G1 a = some o := g.g _ _ upd_same
  refine ⟨⟨fun b u e => ?_, g.h, fun b u e => ?_, fun b u e => ?_⟩, e1⟩
  · have hb : b ≠ a := fun z => by rw [z, hG] at e; cases e
    rw [cutH_ne hb]
    exact g.g _ _ (by rw [upd_ne hb]; exact e)
  · by_cases hb : b = a
    · rw [hb, cutH_same] at e; cases e
    · rw [cutH_ne hb] at e
      exact g.gh _ _ e
  · by_cases hb : b = a
    · rw [hb, cutH_same] at e; cases e
    · rw [cutH_ne hb] at e
      rcases g.nw b u e with q | q
      · rw [upd_ne hb] at q
        exact .inl q
      · exact .inr q
theorem same_mut {G H : Hp} {a : Addr} {o : HO} (e : Same G H) (hH : H a = some o) : Same (upd G a o) H := fun b u h => by
  by_cases hb : b = a
  · subst hb; rw [upd_same] at h; rw [hH]; exact h
  · rw [upd_ne hb] at h; exact e _ _ h
/-- te evaluated while the thing at a is read as it stands -/
theorem mu_ev {a : Addr} {o : HO} {Q : VK} (hG : G a = none) (hH : H a = some o) (e : Same G H) (h : EvD K te σ (upd G a o) d) (hd : Hides K a o d) (q : ∀ v G1 H1, Gr G H G1 H1 → Dq K G1 v d → H1 a = some o → G1 a = none → Q v H1) : te σ H Q :=
  h H (same_mut e hH) Q fun v G1 H1 g1 hv => by
    obtain ⟨g2, e1⟩ := hide_gr hG hH g1
    exact q v _ H1 g2 (hd G1 v e1 hv) (g1.h _ _ hH) cutH_same
theorem mu_eb {a : Addr} {o : HO} {b : Bool} {Q : Bool → Hp → Prop} (hG : G a = none) (hH : H a = some o) (e : Same G H) (h : EvB tt σ (upd G a o) b) (q : ∀ G1 H1, Gr G H G1 H1 → H1 a = some o → G1 a = none → Q b H1) : tt σ H Q :=
  h H (same_mut e hH) Q fun G1 H1 g1 => by
    obtain ⟨g2, e1⟩ := hide_gr hG hH g1
    exact q _ H1 g2 (g1.h _ _ hH) cutH_same
theorem hides_scal {a : Addr} {o : HO} {d : D} {w : V} (e : d.scal = some w) : Hides K a o d := fun G v _ h => by
  cases h <;> first | (exact .non) | (exact .bl _) | (exact .int _) | (exact .str _) | cases e
mutual
def D.noDic : D → Bool
  | .lst ds => noDics ds
  | .tup ds => noDics ds
  | .dic _ => false
  | _ => true
def noDics : List D → Bool
  | [] => true
  | d :: ds => d.noDic && noDics ds
end
theorem rd_cut {G : Hp} {a b : Addr} {ws : List (Key × V)} {u : HO} (ha : G a = some (.dK ws)) (hu : u ≠ .dK ws) (hr : Rd G b u) : Rd (cutH G a) b u := by
  have hb : b ≠ a := fun z => by
    subst z
    rcases hr with hr | ⟨o, hr⟩
    · rw [ha] at hr
      exact hu (Option.some.inj hr).symm
    · rw [ha] at hr; cases hr
  rcases hr with hr | ⟨o, hr⟩
  · exact .inl (by rw [cutH_ne hb]; exact hr)
  · exact .inr ⟨o, by rw [cutH_ne hb]; exact hr⟩
mutual
theorem dq_cut {G : Hp} {a : Addr} {ws : List (Key × V)} (ha : G a = some (.dK ws)) : ∀ {d : D} {v : V}, d.noDic = true → Dq K G v d → Dq K (cutH G a) v d
  | .non, _, _, .non => .non
  | .bl _, _, _, .bl b => .bl b
  | .int _, _, _, .int i => .int i
  | .str _, _, _, .str x => .str x
  | .lst ds, _, f, .lst h hs => .lst (rd_cut ha (fun z => by cases z) h) (dqs_cut ha f hs)
  | .tup ds, _, f, .tup h hs => .tup (rd_cut ha (fun z => by cases z) h) (dqs_cut ha f hs)
  | .dic _, _, f, _ => by cases f
theorem dqs_cut {G : Hp} {a : Addr} {ws : List (Key × V)} (ha : G a = some (.dK ws)) : ∀ {ds : List D} {vs : List V}, noDics ds = true → Dqs K G vs ds → Dqs K (cutH G a) vs ds
  | [], _, _, .nil => .nil
  | d :: ds, _, f, .cons h hs => .cons (dq_cut ha (Bool.and_eq_true_iff.mp f).1 h) (dqs_cut ha (Bool.and_eq_true_iff.mp f).2 hs)
end
/-- a dict that may change is not met in what holds no dict -/
theorem hides_dic {a : Addr} {ws : List (Key × V)} {d : D} (f : d.noDic = true) : Hides K a (.dK ws) d := fun G v ha h => dq_cut ha f h
end
section
variable {K : PySem.W.Frag} {σ : L2.St} {G H : Hp} {tl tk tv : TE} {tt : TT} {x : D} {ds : List D}
/-- {k: v for x in s if t} -/
theorem ev_dc1 {j : Nat} (h : EvD K tl σ G x) (hk : Lk x ds) (hz : ds.length < 50000) (f : D → Bool) (kf : D → Str) (vf : D → D) (hw : ∀ u, wipe ((wipe σ [j]).set j (some u)) [j] = wipe σ [j])
    (ht : ∀ di u G1, di ∈ ds → Same G G1 → Dq K G1 u di → EvB tt ((wipe σ [j]).set j (some u)) G1 (f di)) (hkk : ∀ di u G1, di ∈ ds → Same G G1 → Dq K G1 u di → f di = true → EvD K tk ((wipe σ [j]).set j (some u)) G1 (.str (kf di)))
    (he : ∀ di u G1, di ∈ ds → Same G G1 → Dq K G1 u di → f di = true → EvD K tv ((wipe σ [j]).set j (some u)) G1 (vf di)) : EvD K (tFrz (tDc (iSeq K tl) (gName j) tt tk tv [j])) σ G (.dic (ds.foldl (dStep f kf vf) [])) := by
  refine ev_dc h hk hz f kf vf (fun di σ2 G2 => ∃ u, Dq K G2 u di ∧ σ2 = (wipe σ [j]).set j (some u)) (fun di _ => tg_name) (fun di σ2 G1 _ ⟨u, _, e⟩ => by rw [e]; exact hw u) ?_ ?_ ?_
  · rintro di σ2 G1 hm e1 ⟨u, hu, rfl⟩
    exact ht di u G1 hm e1 hu
  · rintro di σ2 G1 hm e1 ⟨u, hu, rfl⟩ z
    exact hkk di u G1 hm e1 hu z
  · rintro di σ2 G1 hm e1 ⟨u, hu, rfl⟩ z
    exact he di u G1 hm e1 hu z
end
/-! ### dicts that may change -/
section
variable {K : PySem.W.Frag} {σ : L2.St} {G G1 H : Hp} {te td ty tk tv : TE} {kvs : List (Str × D)} {d : D} {x : Str} {E : Ends}
/-- a new dict -/
theorem mu_new {i : Nat} {u : TS} (e : Same G H) (k : ∀ a, H a = none → u E (σ.set i (some (.ref a))) (upd H a (.dK []))) : tSeq (tAsg tDNewK (gName i)) u E σ H := fun a ha => k a ha
/-- the mutable dict at a, of the entries kvs -/
structure MuD (K : PySem.W.Frag) (G H : Hp) (a : Addr) (kvs : List (Str × D)) : Prop where
  ex : ∃ ws, H a = some (.dK ws) ∧ G a = none ∧ DicAt K G ws kvs
theorem MuD.gr {a : Addr} {H1 : Hp} (m : MuD K G H a kvs) (g : Gr G H G1 H1) : MuD K G1 H1 a kvs := by
  obtain ⟨ws, h1, h2, h3⟩ := m.ex
  exact ⟨ws, g.h _ _ h1, g.apart h1 h2, h3.up g.g⟩
/-- read: d[x] of a mutable dict, through Rd -/
theorem ev_dgetM {a : Addr} {ws : List (Key × V)} (hd : ∀ H, Same G H → ∀ Q : VK, Q (.ref a) H → td σ H Q) (ha : G a = some (.dK ws)) (hw : DicAt K G ws kvs) (hx : EvD K ty σ G (.str x)) (h : lookD kvs x = some d) : EvD K (tDGet td ty) σ G d := fun H e Q q =>
  hd H e _ (hx H e _ fun w G2 H2 g2 hw2 => by
    cases hw2
    rcases dic_look (x := x) hw.k hw.v with ⟨v, d0, e1, e2, hq⟩ | ⟨e1, e2⟩
    · rw [h] at e2
      cases e2
      exact ⟨a, v, rfl, .inl ⟨ws, Sum.inr x, .inl (g2.gh _ _ (g2.g _ _ ha)), rfl, e1.symm⟩, q v G2 H2 g2 (hq.up g2.g)⟩
    · rw [h] at e2; cases e2)
theorem ev_dinM {a : Addr} {ws : List (Key × V)} (hd : ∀ H, Same G H → ∀ Q : VK, Q (.ref a) H → td σ H Q) (ha : G a = some (.dK ws)) (hw : DicAt K G ws kvs) (hx : EvD K ty σ G (.str x)) : EvD K (tDIn ty td) σ G (.bl (lookD kvs x).isSome) := fun H e Q q =>
  hx H e _ fun w G2 H2 g2 hw2 => by
    cases hw2
    refine hd H2 (g2.g.trans g2.gh) _ ⟨a, _, rfl, .inl ⟨ws, Sum.inr x, .inl (g2.gh _ _ (g2.g _ _ ha)), rfl, rfl⟩, ?_⟩
    rcases dic_look (x := x) hw.k hw.v with ⟨v, d0, e1, e2, hq⟩ | ⟨e1, e2⟩
    · rw [e1]
      exact q _ G2 H2 g2 (by rw [e2]; exact .bl _)
    · rw [e1]
      exact q _ G2 H2 g2 (by rw [e2]; exact .bl _)
theorem ev_dnotinM {a : Addr} {ws : List (Key × V)} (hd : ∀ H, Same G H → ∀ Q : VK, Q (.ref a) H → td σ H Q) (ha : G a = some (.dK ws)) (hw : DicAt K G ws kvs) (hx : EvD K ty σ G (.str x)) : EvD K (tDNotIn ty td) σ G (.bl (!(lookD kvs x).isSome)) := fun H e Q q =>
  hx H e _ fun w G2 H2 g2 hw2 => by
    cases hw2
    refine hd H2 (g2.g.trans g2.gh) _ ⟨a, _, rfl, .inl ⟨ws, Sum.inr x, .inl (g2.gh _ _ (g2.g _ _ ha)), rfl, rfl⟩, ?_⟩
    rcases dic_look (x := x) hw.k hw.v with ⟨v, d0, e1, e2, hq⟩ | ⟨e1, e2⟩
    · rw [e1]
      exact q _ G2 H2 g2 (by rw [e2]; exact .bl _)
    · rw [e1]
      exact q _ G2 H2 g2 (by rw [e2]; exact .bl _)
end
end Pk
/-! d.update of an empty dict; statements that are not reached; a dict of pairs. -/
namespace Pk
open PySem PySem.Spec PyProof.Rows L2
section
variable {X : Cx}
/-- not reached -/
theorem ps_naught {s : Stmt} : PS X s (fun _ _ _ => False) := ⟨fun _ _ _ _ _ _ h => h.elim⟩
def rUpdE : V → List V → Hp → VK → Prop := fun x vs H Q => ∃ d o kvs, x = .ref d ∧ vs = [.ref o] ∧ d ≠ o ∧ H d = some (.dK kvs) ∧ Rd H o (.dK []) ∧ Q .non (upd H d (.dK kvs))
theorem mt_updE : MtR X "dict.update" rUpdE := by
  intro pins s σ H x vs v us Q I rx rv h
  obtain ⟨d, o, kvs, rfl, rfl, hdo, hd, ho, q⟩ := h
  cases rx
  obtain ⟨u, rfl, ru⟩ := rv.one
  cases ru
  obtain ⟨z, hn, ks, rel, dd⟩ := dk_of I.hok hd
  obtain ⟨z2, hn2, ks2, rel2, dd2⟩ := dk_rd I.hok ho
  cases rel2
  refine call_meetsIn F.slot_dict_update dd.typeIs F.entry_dict_update (F.args_dict_update_2 _ _) (meets_dict_update (mixKind X.prog X.w) d o hdo hn2) ⟨ks, [], dd, dd2, ?_, fun h' k1 _ k3 => ?_⟩
  · rw [← rel.length]
    exact z
  · obtain ⟨oo, es, ep, f1, f2⟩ := k1
    exact ⟨.non, _, d_write (t' := s.toks) I (by rw [hd]; exact True.intro) k3 ⟨oo, f1⟩ (dk_new z hn rel ⟨oo, es, ep, f1, f2⟩), rfl, q⟩
end
end Pk
/-! Results of which only something is known; d[k] = v as a target. -/
namespace Pk
open PySem PySem.Spec PyProof.Rows L2
section
variable {K : PySem.W.Frag} {σ : L2.St} {G G1 H : Hp} {te ta tb : TE} {as : TA} {d : D} {ds : List D} {u : TS} {p : D → Prop}
/-- a promise of which only p is known of the result -/
def spP (K : PySem.W.Frag) (f : List D → (D → Prop) → Prop) : Sp := fun vs H Q _ => ∃ G ds p, Same G H ∧ Dqs K G vs ds ∧ f ds p ∧ ∀ v d G' H', Gr G H G' H' → p d → Dq K G' v d → Q v H'
theorem spP_len {n : Nat} {f : List D → (D → Prop) → Prop} {vs : List V} {H : Hp} {Q : VK} {E : XK} (h : spP K f vs H Q E) (hn : ∀ ds p, f ds p → ds.length = n) : vs.length = n := by
  obtain ⟨G, ds, d, e, hds, hf, q⟩ := h
  rw [hds.length]
  exact hn ds d hf
def EvP (K : PySem.W.Frag) (te : TE) (σ : L2.St) (G : Hp) (p : D → Prop) : Prop := ∀ H, Same G H → ∀ Q : VK, (∀ v d G' H', Gr G H G' H' → p d → Dq K G' v d → Q v H') → te σ H Q
theorem EvD.toP (h : EvD K te σ G d) (hp : p d) : EvP K te σ G p := fun H e Q q => h H e Q fun v G' H' g hv => q v d G' H' g hp hv
theorem EvP.up (h : EvP K te σ G p) (e : Same G G1) : EvP K te σ G1 p := fun H e1 Q q => h H (e.trans e1) Q fun v d G' H' g hp hv => by
  obtain ⟨g1, g2⟩ := g.up e e1
  exact q v d _ H' g1 hp (hv.up g2)
theorem ev_callP {f : List D → (D → Prop) → Prop} {E : XK} (h : EvA K as σ G ds) (hf : f ds p) : EvP K (tCall (spP K f) [] E as) σ G p := fun H e Q q =>
  h H e _ fun vs G1 H1 g1 hvs => ⟨G1, ds, p, g1.gh, by rw [List.append_nil]; exact hvs, hf, fun v d G' H' g hp hv => q v d G' H' (g1.trans g) hp hv⟩
theorem r_setP {i : Nat} (h : EvP K te σ G p) (k : ∀ v d' G1, Same G G1 → p d' → Dq K G1 v d' → EvR K u (σ.set i (some v)) G1 d) : EvR K (tSeq (tAsg te (gName i)) u) σ G d := fun H e E q => h H e _ fun v d' G1 H1 g1 hp hv =>
  k v d' G1 g1.g hp hv H1 g1.gh _ fun w G2 H2 g2 hw => q w G2 H2 (g1.trans g2) hw
end
section
variable {K : PySem.W.Frag} {σ : L2.St} {G H : Hp} {tt : TT} {te : TE} {t u : TS} {D0 : Ends} {b : Bool} {d : D}
/-- if c: .. else ..; the rest -/
theorem h_ifq (h : EvB tt σ G b) (e : Same G H) (h1 : b = true → ∀ G1 H1, Gr G H G1 H1 → t { D0 with nx := u D0 } σ H1) (h2 : b = false → ∀ G1 H1, Gr G H G1 H1 → u D0 σ H1) : tSeq (tIfS tt t tNext) u D0 σ H := h H e _ fun G1 H1 g1 => by
  cases b with
  | true => exact iteT (h1 rfl G1 H1 g1)
  | false => exact iteF (h2 rfl G1 H1 g1)
theorem mu_ifq {a : Addr} {o : HO} (hG : G a = none) (hH : H a = some o) (e : Same G H) (h : EvB tt σ (upd G a o) b) (h1 : b = true → ∀ G1 H1, Gr G H G1 H1 → H1 a = some o → G1 a = none → t { D0 with nx := u D0 } σ H1) (h2 : b = false → ∀ G1 H1, Gr G H G1 H1 → H1 a = some o → G1 a = none → u D0 σ H1) :
    tSeq (tIfS tt t tNext) u D0 σ H := mu_eb hG hH e h fun G1 H1 g1 k1 k2 => by
  cases b with
  | true => exact iteT (h1 rfl G1 H1 g1 k1 k2)
  | false => exact iteF (h2 rfl G1 H1 g1 k1 k2)
theorem h_set {i : Nat} (h : EvD K te σ G d) (e : Same G H) (k : ∀ v G1 H1, Gr G H G1 H1 → Dq K G1 v d → u D0 (σ.set i (some v)) H1) : tSeq (tAsg te (gName i)) u D0 σ H := h H e _ fun v G1 H1 g1 hv => k v G1 H1 g1 hv
/-- d[n] = v, d a dict that may change -/
theorem h_dput {i : Nat} {a : Addr} {n : Str} {ty : TE} {kvs : List (Str × D)} (hv : EvD K te σ G d) (hk : ∀ G1, Same G G1 → EvD K ty σ G1 (.str n)) (hi : σ[i]? = some (some (.ref a))) (m : MuD K G H a kvs) (hl : kvs.length < 50000) (e : Same G H)
    (k : ∀ G1 H1 o, Gr G H G1 H1 → G1 a = none → MuD K G1 (upd H1 a o) a (putD kvs n d) → D0.nx σ (upd H1 a o)) : sDPut (tVar i) ty te D0 σ H := hv H e _ fun v G1 H1 g1 hv1 => by
  refine Exists.intro (V.ref a) (And.intro hi ?_)
  refine hk G1 g1.g H1 g1.gh _ fun y G2 H2 g2 hy => ?_
  cases hy
  obtain ⟨ws, k1, k2, k3⟩ := (m.gr (g1.trans g2)).ex
  refine ⟨a, _, rfl, DPut.k (k := Sum.inr n) k1 (by rw [k3.len]; exact Nat.lt_trans hl (by decide)), k G2 H2 _ (g1.trans g2) k2 ⟨_, upd_same, k2, k3.put (hv1.up g2.g)⟩⟩
theorem h_ret (h : EvD K te σ G d) (e : Same G H) (k : ∀ v G1 H1, Gr G H G1 H1 → Dq K G1 v d → D0.rt v H1) : tRet te D0 σ H := h H e _ k
end
section
variable {X : Cx}
def rSetK : V → V → V → Hp → (Hp → Prop) → Prop := fun o i v H Q => ∃ a H', o = .ref a ∧ DPut H a i v H' ∧ Q H'
theorem set_dk (hu : X.A.units + 1 < cLine) : PSet X rSetK := by
  intro pins s σ H o i v ov iv u Q I ro ri rv h
  obtain ⟨a, H', rfl, g, q⟩ := h
  cases ro
  exact d_setItem hu I g ri rv fun s' J => ⟨_, J, q⟩
end
end Pk
/-! Texts in their order. -/
namespace Pk
open PySem PySem.Spec PyProof.Rows L2
def sLe (a b : Str) : Bool := decide (a.cps.toList ≤ b.cps.toList)
theorem sLe_trans (a b c : Str) (h : sLe a b = true) (h' : sLe b c = true) : sLe a c = true := by
  unfold sLe at *
  simp only [decide_eq_true_eq] at *
  exact List.le_trans h h'
theorem sLe_total (a b : Str) : (sLe a b || sLe b a) = true := by
  unfold sLe
  rcases List.le_total a.cps.toList b.cps.toList with h | h <;> simp [h]
theorem sLe_antisymm {a b : Str} (h : sLe a b = true) (h' : sLe b a = true) : a = b := by
  unfold sLe at *
  simp only [decide_eq_true_eq] at *
  have e := List.le_antisymm h h'
  obtain ⟨x⟩ := a
  obtain ⟨y⟩ := b
  simp only at e
  rw [Array.toList_inj.mp e]
def srt (ks : List Str) : List Str := ks.mergeSort sLe
theorem srt_perm (ks : List Str) : (srt ks).Perm ks := List.mergeSort_perm _ _
theorem srt_sorted (ks : List Str) : (srt ks).Pairwise fun a b => sLe a b = true := List.pairwise_mergeSort sLe_trans sLe_total ks
theorem srt_len (ks : List Str) : (srt ks).length = ks.length := (srt_perm ks).length_eq
theorem sorted_unique {xs ys : List Str} (h : xs.Perm ys) (h1 : xs.Pairwise fun a b => sLe a b = true) (h2 : ys.Pairwise fun a b => sLe a b = true) : xs = ys :=
  List.Perm.eq_of_pairwise (fun _ _ _ _ p q => sLe_antisymm p q) h1 h2 h
theorem srt_of {ys ks : List Str} (h : ys.Perm ks) (h1 : ys.Pairwise fun a b => sLe a b = true) : ys = srt ks := sorted_unique (h.trans (srt_perm ks).symm) h1 (srt_sorted ks)
theorem srt_congr {xs ys : List Str} (h : xs.Perm ys) : srt xs = srt ys := srt_of ((srt_perm xs).trans h) (srt_sorted xs)
theorem risingS_le : ∀ (p : Str) (l : List Str), risingS p l = true → (p :: l).Pairwise fun a b => sLe a b = true
  | p, [], _ => List.pairwise_singleton _ _
  | p, x :: r, h => by
    unfold risingS at h
    obtain ⟨h1, h2⟩ := Bool.and_eq_true_iff.mp h
    have ih := risingS_le x r h2
    have hpx : sLe p x = true := by
      rw [PyProof.Rows.ltCps_eq] at h1
      unfold sLe
      simp only [Bool.not_eq_true', decide_eq_false_iff_not] at h1
      simp only [decide_eq_true_eq]
      exact List.not_lt.mp h1
    refine List.pairwise_cons.mpr ⟨fun y hy => ?_, ih⟩
    rcases List.mem_cons.mp hy with e | hy
    · rw [e]; exact hpx
    · exact sLe_trans _ _ _ hpx ((List.pairwise_cons.mp ih).1 y hy)
theorem sortedS_le {l : List Str} (h : sortedS l = true) : l.Pairwise fun a b => sLe a b = true := by
  cases l with
  | nil => exact .nil
  | cons x r => exact risingS_le x r h
section
variable {K : PySem.W.Frag} {σ : L2.St} {G H : Hp} {te : TE} {kvs : List (Str × D)}
/-- sorted(d) -/
theorem ev_sortedD (h : EvD K te σ G (.dic kvs)) (hl : kvs.length < 64) : EvD K (tCB (fun xs H Q => ∃ (a : Addr) (kvs : List (Key × V)) (ks : List Str), xs = [.ref a] ∧ Rd H a (.dK kvs) ∧ kvs.map (·.1) = ks.map Sum.inr ∧ ks.length < 64 ∧
    ∀ ys p, ys.Perm ks → sortedS ys = true → H p = none → Q (.ref p) (upd H p (.lst (ys.map V.str)))) (tCons te tNil)) σ G (.lst ((srt (kvs.map (·.1))).map D.str)) := fun H e Q q => h H e _ fun v G1 H1 g1 hv => by
  cases hv with
  | @dic a o ws _ hr hk hs =>
    refine ⟨a, ws, kvs.map (·.1), rfl, .inr ⟨o, g1.gh _ _ hr⟩, by rw [hk, List.map_map]; rfl, by rw [List.length_map]; exact hl, fun ys p h1 h2 hp => ?_⟩
    rw [srt_of h1 (sortedS_le h2)]
    exact q _ _ _ (g1.trans (Gr.new g1.gh hp)) (.lst (.inl upd_same) (dqs_of_str _))
/-- sorted(xs), texts -/
theorem ev_sortedT {xs : List Str} (h : EvD K te σ G (.lst (xs.map D.str))) (hl : xs.length < 64) : EvD K (tCB (rSortedS K) (tCons te tNil)) σ G (.lst ((srt xs).map D.str)) := fun H e Q q => h H e _ fun v G1 H1 g1 hv => by
  cases hv with
  | @lst a vs _ hr hs =>
    have := dqs_str hs
    subst this
    refine ⟨a, xs, rfl, seqL (Rd.up g1.gh hr), hl, fun ys p h1 h2 hp => ?_⟩
    rw [srt_of h1 (sortedS_le h2)]
    exact q _ _ _ (g1.trans (Gr.new g1.gh hp)) (.lst (.inl upd_same) (dqs_of_str _))
end
end Pk
/-! Comprehensions over any source; instances of a class. -/
namespace Pk
open PySem PySem.Spec PyProof.Rows L2
/-- a walk over the data ds -/
def Src (K : PySem.W.Frag) (wi : TI) (σ : L2.St) (G : Hp) (ds : List D) : Prop := ∀ H, Same G H → ∀ R : It → Hp → Prop, (∀ G1 H1 J, Gr G H G1 H1 → (∀ i H', i < ds.length → Same G1 H' → J.go i H') → (∀ H', Same G1 H' → J.stop ds.length H') →
  (∀ i H' x H'', i < ds.length → Same G1 H' → J.yld i H' x H'' → H'' = H' ∧ ∃ di, ds[i]? = some di ∧ Dq K G1 x di) → R J H1) → wi σ H R
section
variable {K : PySem.W.Frag} {σ : L2.St} {G H : Hp} {wi : TI} {tl te td tk tv : TE} {tt : TT} {g : TG} {x d : D} {ds : List D} {kvs : List (Str × D)} {vs : List Nat}
theorem src_seq (h : EvD K tl σ G x) (hk : Lk x ds) : Src K (iSeq K tl) σ G ds := fun H e R q => h H e _ fun v G1 H1 g1 hv => by
  cases hk with
  | lst ds =>
    cases hv with
    | @lst a xs _ hr hs =>
      exact .inl ⟨a, rfl, ⟨xs, seqL (Rd.up g1.gh hr)⟩, q G1 H1 _ g1 (fun i H' hlt e' => ⟨xs, xs[i]'(by rw [hs.length]; exact hlt), seqL (Rd.up e' hr), by simp [hs.length, hlt]⟩) (fun H' e' => ⟨xs, seqL (Rd.up e' hr), Nat.le_of_eq hs.length⟩)
        fun i H' x H'' hlt e' y => ⟨y.1, hs.at (y.2 xs (seqL (Rd.up e' hr)))⟩⟩
  | tup ds =>
    cases hv with
    | @tup a xs _ hr hs =>
      exact .inr (.inl ⟨a, rfl, ⟨xs, seqT (Rd.up g1.gh hr)⟩, q G1 H1 _ g1 (fun i H' hlt e' => ⟨xs, xs[i]'(by rw [hs.length]; exact hlt), seqT (Rd.up e' hr), by simp [hs.length, hlt]⟩) (fun H' e' => ⟨xs, seqT (Rd.up e' hr), Nat.le_of_eq hs.length⟩)
        fun i H' x H'' hlt e' y => ⟨y.1, hs.at (y.2 xs (seqT (Rd.up e' hr)))⟩⟩)
theorem src_keys (h : EvD K td σ G (.dic kvs)) : Src K (iKeys td) σ G (kvs.map fun p => D.str p.1) := fun H e R q => h H e _ fun v G1 H1 g1 hv => by
  cases hv with
  | @dic a o ws _ hr hk hs =>
    have hl := dk_len hk
    refine ⟨a, o, rfl, .inl ⟨ws, g1.gh _ _ hr, q G1 H1 _ g1 (fun i H' hlt e' => ⟨e' _ _ hr, by rw [List.length_map] at hlt; omega⟩) (fun H' e' => ⟨e' _ _ hr, by rw [List.length_map]; omega⟩) fun i H' x H'' hlt e' y => ⟨y.1, ?_⟩⟩⟩
    obtain ⟨_, k, v, e1, e2⟩ := y
    obtain ⟨n, d, f1, f2, _⟩ := dk_at hk hs e1
    refine ⟨.str n, by rw [List.getElem?_map, f1]; rfl, ?_⟩
    rw [e2, f2]
    exact .str n
/-- [e for target in s if t] -/
theorem ev_lcS (h : Src K wi σ G ds) (hz : ds.length < 50000) (f : D → Bool) (v : D → D) (P : D → L2.St → Hp → Prop) (hT : ∀ di ∈ ds, TgOk K g (wipe σ vs) di (P di)) (hw : ∀ di σ2 G1, di ∈ ds → P di σ2 G1 → wipe σ2 vs = wipe σ vs)
    (ht : ∀ di σ2 G1, di ∈ ds → Same G G1 → P di σ2 G1 → EvB tt σ2 G1 (f di)) (he : ∀ di σ2 G1, di ∈ ds → Same G G1 → P di σ2 G1 → f di = true → EvD K te σ2 G1 (v di)) : EvD K (tLc wi g tt te vs) σ G (.lst ((ds.filter f).map v)) := fun H e Q q =>
  h H e _ fun G1 H1 J g1 hgo hst hy Dl hD => by
    have fin : ∀ (H' : Hp), LcInv K G1 H1 Dl (((ds.take ds.length).filter f).map v) H' → Q (.ref Dl) H' := fun H' p => by
      obtain ⟨G', g2, hv⟩ := lcInv_end p
      rw [List.take_length] at hv
      exact q _ G' H' (g1.trans g2) hv
    have sm : ∀ (ys : List D) (H' : Hp), LcInv K G1 H1 Dl ys H' → Same G1 H' := fun ys H' ⟨G2, acc, g2, _, _, _, _⟩ => g2.g.trans g2.gh
    refine lc_gen (n := ds.length) (fun i x => ∃ di, ds[i]? = some di ∧ Dq K G1 x di) (fun i H' => LcInv K G1 H1 Dl (((ds.take i).filter f).map v) H') (lcInv_start g1.gh hD)
      (fun i H' hlt p => hgo i H' hlt (sm _ H' p)) (fun H' p => hst H' (sm _ H' p)) (fun i H' x H'' hlt p y => hy i H' x H'' hlt (sm _ H' p) y) (fun i x H' hlt ⟨di, hdi, hq⟩ p => ?_) (fun H' p => fin H' p)
    have hm := List.mem_of_getElem? hdi
    refine lc_turn (b := f di) (y := v di) p (by have := fm_len (ds := ds) (i := i) f v; omega) hq (hT di hm) (fun σ2 G2 z => hw di σ2 G2 hm z) (fun σ2 G2 e2 z => ht di σ2 G2 hm (g1.g.trans e2) z) (fun σ2 G2 e2 z hb => he di σ2 G2 hm (g1.g.trans e2) z hb) fun H2 p2 => ?_
    rw [fm_next f v hdi]
    exact p2
theorem ev_lcS1 {j : Nat} (h : Src K wi σ G ds) (hz : ds.length < 50000) (v : D → D) (hw : ∀ u, wipe ((wipe σ [j]).set j (some u)) [j] = wipe σ [j])
    (he : ∀ di u G1, di ∈ ds → Same G G1 → Dq K G1 u di → EvD K te ((wipe σ [j]).set j (some u)) G1 (v di)) : EvD K (tLc wi (gName j) tYes te [j]) σ G (.lst (ds.map v)) := by
  refine (ev_lcS h hz (fun _ => true) v (fun di σ2 G2 => ∃ u, Dq K G2 u di ∧ σ2 = (wipe σ [j]).set j (some u)) (fun di _ => tg_name) (fun di σ2 G1 _ ⟨u, _, e⟩ => by rw [e]; exact hw u) (fun di σ2 G1 _ _ _ => eb_yes) ?_).is ?_
  · rintro di σ2 G1 hm e1 ⟨u, hu, rfl⟩ _
    exact he di u G1 hm e1 hu
  · rw [List.filter_eq_self.mpr (fun _ _ => rfl)]
/-- {k: v for x in s if t} -/
theorem ev_dcS {j : Nat} (h : Src K wi σ G ds) (hz : ds.length < 50000) (f : D → Bool) (kf : D → Str) (vf : D → D) (hw : ∀ u, wipe ((wipe σ [j]).set j (some u)) [j] = wipe σ [j])
    (ht : ∀ di u G1, di ∈ ds → Same G G1 → Dq K G1 u di → EvB tt ((wipe σ [j]).set j (some u)) G1 (f di)) (hkk : ∀ di u G1, di ∈ ds → Same G G1 → Dq K G1 u di → f di = true → EvD K tk ((wipe σ [j]).set j (some u)) G1 (.str (kf di)))
    (he : ∀ di u G1, di ∈ ds → Same G G1 → Dq K G1 u di → f di = true → EvD K tv ((wipe σ [j]).set j (some u)) G1 (vf di)) : EvD K (tFrz (tDc wi (gName j) tt tk tv [j])) σ G (.dic (ds.foldl (dStep f kf vf) [])) := fun H e Q q =>
  h H e _ fun G1 H1 J g1 hgo hst hy Dl hD => by
    have fin : ∀ (H' : Hp), DcInv K G1 H1 Dl ((ds.take ds.length).foldl (dStep f kf vf) []) H' → ∃ d u, V.ref Dl = .ref d ∧ H' d = some u ∧ Mut (some u) ∧ ∀ od, Q (.ref Dl) (upd H' d (.frz od u)) := fun H' p => by
      obtain ⟨G2, ws, g2, h0, h1, h2, h3⟩ := p
      rw [List.take_length] at h3
      refine ⟨Dl, _, rfl, h2, True.intro, fun od => ?_⟩
      obtain ⟨G', g3, hv, _⟩ := dq_frz g2 h0 h1 h3 od
      exact q _ G' _ (g1.trans g3) hv
    have sm : ∀ (ys : List (Str × D)) (H' : Hp), DcInv K G1 H1 Dl ys H' → Same G1 H' := fun ys H' ⟨G2, acc, g2, _, _, _, _⟩ => g2.g.trans g2.gh
    refine dc_gen (n := ds.length) (fun i x => ∃ di, ds[i]? = some di ∧ Dq K G1 x di) (fun i H' => DcInv K G1 H1 Dl ((ds.take i).foldl (dStep f kf vf) []) H') ⟨G1, [], Gr.ov g1.gh hD, hD, same_none g1.gh hD, upd_same, ⟨rfl, .nil⟩⟩
      (fun i H' hlt p => hgo i H' hlt (sm _ H' p)) (fun H' p => hst H' (sm _ H' p)) (fun i H' x H'' hlt p y => hy i H' x H'' hlt (sm _ H' p) y) (fun i y H' hlt ⟨di, hdi, hq⟩ p => ?_) (fun H' p => fin H' p)
    have hm := List.mem_of_getElem? hdi
    rw [dFold_next f kf vf hdi]
    have hlen := dFold_len f kf vf (ds.take i) []
    have hlen2 := List.length_take_le i ds
    obtain ⟨G2, ws, g2, h0, h1, h2, h3⟩ := p
    refine ⟨hw y, ?_⟩
    refine ht di y G2 hm (g1.g.trans g2.g) (hq.up g2.g) H' g2.gh _ fun G3 H3 g3 => ?_
    have a3 := g3.apart h2 h1
    cases hb : f di with
    | false =>
      have e : dStep f kf vf ((ds.take i).foldl (dStep f kf vf) []) di = (ds.take i).foldl (dStep f kf vf) [] := by
        unfold dStep
        rw [hb]
        rfl
      rw [e]
      exact iteF ⟨G3, ws, g2.trans g3, h0, a3, g3.h _ _ h2, h3.up g3.g⟩
    | true =>
      have e : dStep f kf vf ((ds.take i).foldl (dStep f kf vf) []) di = putD ((ds.take i).foldl (dStep f kf vf) []) (kf di) (vf di) := by
        unfold dStep
        rw [hb]
        rfl
      rw [e]
      refine iteT (((hkk di y G2 hm (g1.g.trans g2.g) (hq.up g2.g) hb).up g3.g) H3 g3.gh _ fun ky G4 H4 g4 hky => ?_)
      have a4 := g4.apart (g3.h _ _ h2) a3
      refine (((he di y G2 hm (g1.g.trans g2.g) (hq.up g2.g) hb).up (g3.g.trans g4.g)) H4 g4.gh _ fun vy G5 H5 g5 hvy => ?_)
      have a5 := g5.apart (g4.h _ _ (g3.h _ _ h2)) a4
      have e5 := g5.h _ _ (g4.h _ _ (g3.h _ _ h2))
      cases hky
      refine ⟨ws, Sum.inr (kf di), rfl, e5, ?_, ?_⟩
      · have := h3.len
        rw [this]
        exact Nat.lt_of_le_of_lt (Nat.le_trans hlen (by simp; omega)) (show 50000 < sizeLine by decide)
      · exact ⟨G5, _, gr_upd (g2.trans (g3.trans (g4.trans g5))) h0 a5, h0, a5, upd_same, (h3.up (g3.g.trans (g4.g.trans g5.g))).put hvy⟩
/-! ### instances -/
theorem rd_cutI {G : Hp} {a b : Addr} {o u : HO} (ha : G a = some o) (h1 : u ≠ o) (h2 : ∀ ob, HO.frz ob u ≠ o) (hr : Rd G b u) : Rd (cutH G a) b u := by
  have hb : b ≠ a := fun z => by
    subst z
    rcases hr with hr | ⟨ob, hr⟩
    · rw [ha] at hr
      exact h1 (Option.some.inj hr).symm
    · rw [ha] at hr
      exact h2 ob (Option.some.inj hr).symm
  rcases hr with hr | ⟨ob, hr⟩
  · exact .inl (by rw [cutH_ne hb]; exact hr)
  · exact .inr ⟨ob, by rw [cutH_ne hb]; exact hr⟩
mutual
theorem dq_cutI {G : Hp} {a C dx : Addr} {fs : List (Str × V)} (ha : G a = some (.ins C dx fs)) : ∀ {d : D} {v : V}, Dq K G v d → Dq K (cutH G a) v d
  | .non, _, .non => .non
  | .bl _, _, .bl b => .bl b
  | .int _, _, .int i => .int i
  | .str _, _, .str x => .str x
  | .lst ds, _, .lst h hs => .lst (rd_cutI ha (fun z => by cases z) (fun _ z => by cases z) h) (dqs_cutI ha hs)
  | .tup ds, _, .tup h hs => .tup (rd_cutI ha (fun z => by cases z) (fun _ z => by cases z) h) (dqs_cutI ha hs)
  | .dic kvs, _, .dic h k hs => .dic (by rw [cutH_ne (fun z => by rw [z, ha] at h; cases h)]; exact h) k (dqs_cutI ha hs)
theorem dqs_cutI {G : Hp} {a C dx : Addr} {fs : List (Str × V)} (ha : G a = some (.ins C dx fs)) : ∀ {ds : List D} {vs : List V}, Dqs K G vs ds → Dqs K (cutH G a) vs ds
  | [], _, .nil => .nil
  | d :: ds, _, .cons h hs => .cons (dq_cutI ha h) (dqs_cutI ha hs)
end
theorem hides_ins {a C dx : Addr} {fs : List (Str × V)} {d : D} : Hides K a (.ins C dx fs) d := fun G v ha h => dq_cutI ha h
/-- {}, to stay -/
theorem ev_frznew : EvD K (tFrz tDNewK) σ G (.dic []) := fun H e Q q p hp => ⟨p, _, rfl, upd_same, True.intro, fun od => by
  obtain ⟨G', g, hv, _⟩ := dq_frz (ws := []) (ys := []) (Gr.ov (o := .dK []) e hp) hp (same_none e hp) ⟨rfl, .nil⟩ od
  exact q _ G' _ g hv⟩
/-- an attribute of an instance -/
theorem ev_fld {a C dx : Addr} {fs : List (Str × V)} {f : Str} {v : V} (ht : ∀ H, Same G H → ∀ Q : VK, Q (.ref a) H → te σ H Q) (ha : G a = some (.ins C dx fs)) (c : Cls K C) (n : NoAttr K C f) (hl : fs.lookup f = some v) (hv : Dq K G v d) : EvD K (tFld K te f) σ G d := fun H e Q q =>
  ht H e _ ⟨a, C, dx, fs, v, rfl, e _ _ ha, c, n, hl, q v G H (Gr.refl e) hv⟩
theorem h_fld {ta : TE} {f : Str} {D0 : Ends} (h : EvD K tv σ G d) (e : Same G H) (k : ∀ v G1 H1, Gr G H G1 H1 → Dq K G1 v d → ta σ H1 fun x H2 => ∃ a C dx fs, x = .ref a ∧ H2 a = some (.ins C dx fs) ∧ Cls K C ∧ NoAttr K C f ∧ fs.length < 1000 ∧ D0.nx σ (upd H2 a (.ins C dx (putF f v fs)))) : sFld K ta tv f D0 σ H := h H e _ k
end
end Pk
/-! Values as they are; what is raised; results that are new. -/
namespace Pk
open PySem PySem.Spec PyProof.Rows L2
section
variable {K : PySem.W.Frag} {σ : L2.St} {G G1 H : Hp} {te tb : TE} {as : TA} {d : D} {ds : List D} {vb : V}
def EvV (te : TE) (σ : L2.St) (G : Hp) (v : V) : Prop := ∀ H, Same G H → ∀ Q : VK, (∀ G' H', Gr G H G' H' → Q v H') → te σ H Q
theorem evv_var {i : Nat} {v : V} (h : σ[i]? = some (some v)) : EvV (tVar i) σ G v := fun H e Q q => ⟨v, h, q G H (Gr.refl e)⟩
theorem EvV.up {v : V} (h : EvV te σ G v) (e : Same G G1) : EvV te σ G1 v := fun H e1 Q q => h H (e.trans e1) Q fun G' H' g => q _ H' (g.up e e1).1
/-- the first argument as it is, the others as data -/
def EvAV (K : PySem.W.Frag) (ta : TA) (σ : L2.St) (G : Hp) (vb : V) (ds : List D) : Prop := ∀ H, Same G H → ∀ Q : List V → Hp → Prop, (∀ vs G' H', Gr G H G' H' → Dqs K G' vs ds → Q (vb :: vs) H') → ta σ H Q
theorem eav_cons (h : EvV te σ G vb) (hr : EvA K as σ G ds) : EvAV K (tCons te as) σ G vb ds := fun H e Q q =>
  h H e _ fun G1 H1 g1 => (hr.up g1.g) H1 g1.gh _ fun vs G2 H2 g2 hvs => q vs G2 H2 (g1.trans g2) hvs
/-- an attribute of an instance, the instance told by an expression -/
theorem ev_fldV {a C dx : Addr} {fs : List (Str × V)} {f : Str} {v : V} (ht : EvV te σ G (.ref a)) (ha : G a = some (.ins C dx fs)) (c : Cls K C) (n : NoAttr K C f) (hl : fs.lookup f = some v) (hv : Dq K G v d) : EvD K (tFld K te f) σ G d := fun H e Q q =>
  ht H e _ fun G1 H1 g1 => ⟨a, C, dx, fs, v, rfl, g1.gh _ _ (g1.g _ _ ha), c, n, hl, q v G1 H1 g1 (hv.up g1.g)⟩
/-! ### what is raised -/
/-- what is known of what takes an exception: the class called C, its one field f, the value at it -/
def Xr (K : PySem.W.Frag) (H : Hp) (E : XK) (C f : Str) (pv : V → Prop) : Prop := ∀ dd H' v, Same H H' → H' dd = some (.xd [(f, v)]) → pv v → E (.ref (He.ga K C)) (some dd) H'
theorem Xr.go {H1 : Hp} {E : XK} {C f : Str} {pv : V → Prop} (x : Xr K H E C f pv) (g : Same H H1) : Xr K H1 E C f pv := fun dd H' v g' hd hp => x dd H' v (g.trans g') hd hp
/-- a def that tells a datum of a value and data; one that raises -/
def spV (K : PySem.W.Frag) (f : Hp → V → List D → D → Prop) : Sp := fun vs H Q _ => ∃ G vb vs' ds d, vs = vb :: vs' ∧ Same G H ∧ Dqs K G vs' ds ∧ f G vb ds d ∧ ∀ v G' H', Gr G H G' H' → Dq K G' v d → Q v H'
def spX (K : PySem.W.Frag) (f : Hp → V → List D → Str → Str → (V → Prop) → Prop) : Sp := fun vs H _ E => ∃ G vb vs' ds C fd pv, vs = vb :: vs' ∧ Same G H ∧ Dqs K G vs' ds ∧ f G vb ds C fd pv ∧ Xr K H E C fd pv
def spOr (a b : Sp) : Sp := fun vs H Q E => a vs H Q E ∨ b vs H Q E
theorem ev_callV {f : Hp → V → List D → D → Prop} {E : XK} (h : EvAV K as σ G vb ds) (hf : ∀ G1, Same G G1 → f G1 vb ds d) : EvD K (tCall (spV K f) [] E as) σ G d := fun H e Q q =>
  h H e _ fun vs G1 H1 g1 hvs => ⟨G1, vb, vs, ds, d, by rw [List.append_nil], g1.gh, hvs, hf G1 g1.g, fun v G' H' g hv => q v G' H' (g1.trans g) hv⟩
theorem ev_callO {f : Hp → V → List D → D → Prop} {s2 : Sp} {E : XK} (h : EvAV K as σ G vb ds) (hf : ∀ G1, Same G G1 → f G1 vb ds d) : EvD K (tCall (spOr (spV K f) s2) [] E as) σ G d := fun H e Q q =>
  h H e _ fun vs G1 H1 g1 hvs => .inl ⟨G1, vb, vs, ds, d, by rw [List.append_nil], g1.gh, hvs, hf G1 g1.g, fun v G' H' g hv => q v G' H' (g1.trans g) hv⟩
/-- the call raises -/
theorem x_callO {f : Hp → V → List D → Str → Str → (V → Prop) → Prop} {s1 : Sp} {E : XK} {C fd : Str} {pv : V → Prop} {Q : VK} (h : EvAV K as σ G vb ds) (hf : ∀ G1, Same G G1 → f G1 vb ds C fd pv) (e : Same G H) (x : Xr K H E C fd pv) : tCall (spOr s1 (spX K f)) [] E as σ H Q :=
  h H e _ fun vs G1 H1 g1 hvs => .inr ⟨G1, vb, vs, ds, C, fd, pv, by rw [List.append_nil], g1.gh, hvs, hf G1 g1.g, x.go g1.h⟩
theorem spV_len {n : Nat} {f : Hp → V → List D → D → Prop} {vs : List V} {H : Hp} {Q : VK} {E : XK} (h : spV K f vs H Q E) (hn : ∀ G vb ds d, f G vb ds d → ds.length + 1 = n) : vs.length = n := by
  obtain ⟨G, vb, vs', ds, d, rfl, _, hds, hf, _⟩ := h
  rw [List.length_cons, hds.length]
  exact hn _ _ _ _ hf
theorem spX_len {n : Nat} {f : Hp → V → List D → Str → Str → (V → Prop) → Prop} {vs : List V} {H : Hp} {Q : VK} {E : XK} (h : spX K f vs H Q E) (hn : ∀ G vb ds C fd pv, f G vb ds C fd pv → ds.length + 1 = n) : vs.length = n := by
  obtain ⟨G, vb, vs', ds, C, fd, pv, rfl, _, hds, hf, _⟩ := h
  rw [List.length_cons, hds.length]
  exact hn _ _ _ _ _ _ hf
/-! ### making what is raised -/
/-- the __init__ of an own exception: the one field -/
def sp_exc (K : PySem.W.Frag) (x f : Str) : Sp := fun vs H Q _ => ∃ a v, vs = [.ref a, v] ∧ H a = some (exo a (He.ga K x) none) ∧ ∀ dx, H dx = none → dx ≠ a → Q .non (upd (upd H dx (exd dx [(f, v)])) a (exo a (He.ga K x) (some dx)))
structure ExcOk (P : Program) (w : World) (K : PySem.W.Frag) (mg : Str → Option Value) (base : Heap) (x f : Str) : Prop where
  ex : ∃ fI fd p, OexC K (He.ga K x) ∧ PySem.W.findIn K (.ref (He.ga K x)) "__init__" = some (some (.ref fI)) ∧ PySem.W.typeIn K (.ref fI) = some (.type "function") ∧ FnOk P w K mg base CX0 1 fI fd ["self", p] (sp_exc K x f) ∧ Binds K fd ["self", p] [] ∧ mg x = some (.ref (He.ga K x))
theorem pmk_e {X : Cx} {x f : Str} {k : Nat} {p pos : Pos} {e : Expr} {es : List Expr} {ta : TA} (h : ExcOk X.prog X.w X.K X.mg X.base x f) (hr : Room (k + 2) X.A) (hg : Gl X x) (ha : PA X (e :: es) ta)
    (hdb : (x == ("__debug__" : Str)) = false := by decide) (he : starEach (e :: es) X.env = (false, eval e X.env) :: starEach es X.env := by rfl) (hpl : (backTo pos (starEach es X.env)).any (·.1) = false := by rfl) :
    PMk X (.Call (.Name x p) (e :: es) [] pos) (tMkO (He.ga X.K x) (sp_exc X.K x f) [] ta) := by
  obtain ⟨fI, fd, p', T, iC, tI, F1, hb, hm⟩ := h.ex
  exact pmk_oex T iC tI F1 (hr.mono (by omega)) hb .nil pass0 hg hm ha hdb he hpl
theorem xd_same {H1 : Hp} {a dd C : Addr} {fs : List (Str × V)} (ha : H1 a = none) (hne : dd ≠ a) : upd (del (upd (upd (upd H1 a (exo a C none)) dd (exd dd fs)) a (exo a C (some dd))) a) dd (.xd fs) = upd H1 dd (.xd fs) := by
  funext b
  by_cases hb : b = dd
  · rw [hb, upd_same, upd_same]
  · rw [upd_ne hb, upd_ne hb]
    by_cases hba : b = a
    · rw [hba, del_same, ha]
    · rw [del_ne hba, upd_ne hba, upd_ne hb, upd_ne hba]
/-- the exception made: what its taker is told -/
theorem mko_end {x f : Str} {v : V} {H1 : Hp} {Q : XK} (h : ∀ dd, H1 dd = none → Q (.ref (He.ga K x)) (some dd) (upd H1 dd (.xd [(f, v)]))) : [v].length ≤ 1000 ∧ ∀ a, H1 a = none → sp_exc K x f (.ref a :: ([v] ++ [])) (upd H1 a (exo a (He.ga K x) none))
    (fun u H2 => u = .non ∧ ∃ (d : Addr) (fs : List (Str × V)), H2 a = some (exo a (He.ga K x) (some d)) ∧ H2 d = some (exd d fs) ∧ H1 d = none ∧ Q (.ref (He.ga K x)) (some d) (upd (del H2 a) d (.xd fs))) (fun _ _ _ => False) := by
  refine ⟨by show 1 ≤ 1000; decide, fun a ha => ⟨a, v, rfl, upd_same, fun dx hdx hne => ⟨rfl, dx, [(f, v)], upd_same, ?_, ?_, ?_⟩⟩⟩
  · rw [upd_ne hne, upd_same]
  · rwa [upd_ne hne] at hdx
  · rw [xd_same ha hne]
    exact h dx (by rwa [upd_ne hne] at hdx)
end
section
variable {X : Cx} {k : Nat} {ps : List Str} {sp : Sp} {x : Str} {p pos : Pos} {e : Expr} {es : List Expr} {t : TA} {W : WX} {E : XK}
/-- a call of a def that may raise, what it raises leaves -/
theorem pe_hX (h : Has X.prog X.w X.K X.mg X.base (L2.CX X.prog X.w) x k ps sp) (hr : Room k X.A) (hg : Gl X x) (tk : Takes X W) (hW : ∀ cls d σ H, E cls d H → W cls d σ H) (ha : PA X (e :: es) t) (hdb : (x == ("__debug__" : Str)) = false := by decide)
    (he : starEach (e :: es) X.env = (false, eval e X.env) :: starEach es X.env := by rfl) (hpl : (backTo pos (starEach es X.env)).any (·.1) = false := by rfl) : PE X (.Call (.Name x p) (e :: es) [] pos) (tCall sp [] E t) := by
  obtain ⟨f, fd, F, hm, hk, hb⟩ := h.ex
  exact pe_call F hr hg hm hk hb .nil (passes_call tk hW) ha hdb he hpl
end
end Pk
/-! Names, letters, rows, rules. -/
namespace T47
open PySem PySem.Spec PyProof.Rows L2 Pk
/-! ### the mirrors -/
def small : Str := "abcdefghijklmnopqrstuvwxyz"
def figs : Str := "0123456789"
def lenOk (x : Str) : Bool := decide (0 < (x.length : Int)) && decide ((x.length : Int) ≤ 8)
def noWord (x : Str) : Bool := !(wordsL.any fun y => decide (y = x))
def firstOk (x : Str) : Bool := match x.cps.toList[0]? with | some c => decide (c ∈ small.cps.toList) | none => false
def isBare (x : Str) : Bool := (lenOk x && noWord x) && x.cps.toList.all fun c => decide (c ∈ small.cps.toList)
def isName (x : Str) : Bool := (lenOk x && (firstOk x && noWord x)) && x.cps.toList.all fun c => decide (c ∈ (small ++ figs).cps.toList)
def signed (x : Str) : Bool := (["!", "?"] : List Str).any fun y => decide (y = cutS x none (some 1))
def isLetter (x : Str) : Bool := if signed x = true then isBare (cutS x (some 1) none) else isBare x
def short (d : D) : Prop := ∀ x, d = .str x → x.length ≤ 1000
def isNameD : D → Bool
  | .str x => isName x
  | _ => false
def isLetterD : D → Bool
  | .str x => isLetter x
  | _ => false
def isBareD : D → Bool
  | .str x => isBare x
  | _ => false
theorem len_cps (x : Str) : x.length = x.cps.toList.length := by simp [Str.length]
theorem line1000 {n : Nat} (h : n ≤ 1000) : n ≤ sizeLine := Nat.le_trans h (by decide)
section
variable {P : Program} {w : World} {K : PySem.W.Frag} {mg : Str → Option Value} {base : Heap}
/-! ### promises -/
def sp_is_list (K : PySem.W.Frag) : Sp := spD K fun ds d => ∃ x, ds = [x] ∧ d = .bl (isL x)
def sp_is_name (K : PySem.W.Frag) : Sp := spD K fun ds d => ∃ x, ds = [x] ∧ short x ∧ d = .bl (isNameD x)
def sp_is_bare_letter (K : PySem.W.Frag) : Sp := spD K fun ds d => ∃ x, ds = [x] ∧ short x ∧ d = .bl (isBareD x)
def sp_is_letter (K : PySem.W.Frag) : Sp := spD K fun ds d => ∃ x, ds = [x] ∧ short x ∧ d = .bl (isLetterD x)
theorem spD_len {n : Nat} {f : List D → D → Prop} {vs : List V} {H : Hp} {Q : VK} {E : XK} (h : spD K f vs H Q E) (hn : ∀ ds d, f ds d → ds.length = n) : vs.length = n := by
  obtain ⟨G, ds, d, e, hds, hf, q⟩ := h
  rw [hds.length]
  exact hn ds d hf
theorem sp_one {f : D → D → Prop} {vs : List V} {H : Hp} {Q : VK} {E : XK} (h : spD K (fun ds d => ∃ x, ds = [x] ∧ f x d) vs H Q E) :
    ∃ G x v d, vs = [v] ∧ Same G H ∧ Dq K G v x ∧ f x d ∧ ∀ v G' H', Gr G H G' H' → Dq K G' v d → Q v H' := by
  obtain ⟨G, ds, d, e, hds, ⟨x, rfl, hf⟩, q⟩ := h
  cases hds with
  | cons a b =>
    cases b
    exact ⟨G, x, _, d, rfl, e, a, hf, q⟩
/-- the signs of a text, one by one -/
theorem chars_all {σ : L2.St} {G : Hp} {tl te : TE} {x : Str} {j : Nat} (p : Nat → Bool) (h : EvD K tl σ G (.str x)) (hl : x.length ≤ 1000) (hw : ∀ v, wipe ((wipe σ [j]).set j (some v)) [j] = wipe σ [j])
    (he : ∀ c G1, Same G G1 → EvD K te ((wipe σ [j]).set j (some (.str ⟨#[c]⟩))) G1 (.bl (p c))) : EvD K (tCB (rAll K) (tCons (tLc (iSeq K tl) (gName j) tYes te [j]) tNil)) σ G (.bl (x.cps.toList.all p)) := by
  have h2 : EvD K (tLc (iSeq K tl) (gName j) tYes te [j]) σ G (.lst (((x.cps.toList.map fun c => D.str ⟨#[c]⟩).filter fun _ => true).map fun d => match d with | .str y => .bl (p (y.cps.toList.headD 0)) | _ => .non)) := by
    refine ev_lc h rfl (by rw [List.length_map, ← len_cps]; omega) (fun _ => true) _ (fun di σ2 G2 => ∃ v, Dq K G2 v di ∧ σ2 = (wipe σ [j]).set j (some v)) (fun di _ => tg_name) (fun di σ2 G1 _ ⟨v, _, e⟩ => by rw [e]; exact hw v) (fun di σ2 G1 _ _ _ H e Q q => q G1 H (Gr.refl e)) ?_
    intro di σ2 G1 hm e1 ⟨v, hv, es⟩ _
    obtain ⟨c, _, rfl⟩ := List.mem_map.mp hm
    cases hv
    rw [es]
    exact he c G1 e1
  refine (ev_all (bs := x.cps.toList.map p) (h2.is ?_)).is ?_
  · rw [List.filter_eq_self.mpr (fun _ _ => rfl), List.map_map, List.map_map]
    rfl
  · rw [List.all_map]
    rfl

theorem sc_is_list : FnScope ["thing"] ["thing"] (defScope T47.s_is_list) := ⟨rfl, rfl, rfl, by decide +kernel, rfl, by decide +kernel, by decide +kernel⟩
theorem has_is_list (T : Tx w K mg) : Has P w K mg base CX0 "is_list" 1 ["thing"] (sp_is_list K) := by
  obtain ⟨fd, F⟩ := T.def_ 10
  have gm := T.glo (x := "is_list") 24
  have z_isinstance := T.free (x := "isinstance") 86
  have z_list := T.free (x := "list") 88
  have z_tuple := T.free (x := "tuple") 95
  have nd := sc_is_list.nd
  refine has_of F gm sc_is_list (fun _ _ _ _ _ _ us hl => match us, hl with | [_], _ => rfl) (fun vs H Q E h => ?_) (fun cdv A outer s H vs Q E hr h => ?_)
  · exact spD_len h (fun ds d ⟨x, e, _⟩ => by rw [e]; rfl)
  · obtain ⟨G, x, v, d, rfl, e, hv, rfl, q⟩ := sp_one h
    refine ⟨_, (pss_one (ps_ret (pe_callB call_isiT rfl z_isinstance (by decide +kernel) (pa_cons (pv 0) (pa_cons (pe_tup (pa_cons (pe_bltn (v := .ty "list") rfl z_list (by decide +kernel) rfl) (pa_cons (pe_bltn (v := .ty "tuple") rfl z_tuple (by decide +kernel) rfl) pa_nil))) pa_nil))))), ?_⟩
    refine r_ret (ev_isiT (b := isL x) ["list", "tuple"] (by decide) (ev_var rfl hv) (kit_l x)) H e _ q

theorem sc_is_name : FnScope ["thing", "sign"] ["thing"] (defScope T47.s_is_name) := ⟨rfl, rfl, rfl, by decide +kernel, rfl, by decide +kernel, by decide +kernel⟩
theorem has_is_name (T : Tx w K mg) : Has P w K mg base CX0 "is_name" 1 ["thing"] (sp_is_name K) := by
  obtain ⟨fd, F⟩ := T.def_ 11
  have gm := T.glo (x := "is_name") 25
  have z_all := T.free (x := "all") 81
  have z_isinstance := T.free (x := "isinstance") 86
  have z_len := T.free (x := "len") 87
  have z_str := T.free (x := "str") 93
  obtain ⟨t_FIGURES, m_FIGURES⟩ := T.str (x := "FIGURES") 98
  obtain ⟨t_SMALL, m_SMALL⟩ := T.str (x := "SMALL") 97
  have m_WORDS := T.words.1
  have nd := sc_is_name.nd
  refine has_of F gm sc_is_name (fun _ _ _ _ _ _ us hl => match us, hl with | [_], _ => rfl) (fun vs H Q E h => ?_) (fun cdv A outer s H vs Q E hr h => ?_)
  · exact spD_len h (fun ds d ⟨x, e, _⟩ => by rw [e]; rfl)
  · obtain ⟨G, x, v, d, rfl, e, hv, ⟨hx, rfl⟩, q⟩ := sp_one h
    refine ⟨_, (pss_cons (ps_if (PW.pt (pw_or (pt_not (pt_val (pe_callB call_isi rfl z_isinstance (by decide +kernel) (pa_cons (pv 0) (pa_cons (pe_bltn (v := .ty "str") rfl z_str (by decide +kernel) rfl) pa_nil))))) (pw_or (pt_not (pt_chain op_lt op_le pe_int (pe_callB call_len rfl z_len (by decide +kernel) (pa_cons (pv 0) pa_nil)) pe_int)) (pw_or (pt_cmpR op_notIn_sign (pe_ix ix_seq (pv 0) pe_int (fun _ _ => rfl)) (pe_glob (v := .str small) rfl m_SMALL ⟨_, rfl⟩) rfl) (pw_or1 (pt_cmpR op_in_seq (pv 0) (pe_glob (v := .ref (He.ga K "WORDS")) rfl m_WORDS rfl) rfl)))))) (pss_one (ps_ret pe_bl)) pss_nil)
        (pss_one (ps_ret (pe_callB (cr_all rfl) rfl z_all (by decide +kernel) (pa_cons (pe_lc (own := [("sign", 1)]) (g := gName 1) (tt := tYes) rfl nd (pi_seq (pv 0)) (blkOk_by (own := [("sign", 1)]) (N := ["thing", "sign"]) (sc := (defScope T47.s_is_name)) (by decide +kernel)) (fun _ _ _ _ _ => (pg_name (i := 1) nd rfl (Or.inl rfl))) (fun _ _ _ _ _ => pts_nil) (fun _ _ _ _ _ => (pe_cmpR op_in_sign (pv 1) (pe_op op_add_str (pe_glob (v := .str small) rfl m_SMALL ⟨_, rfl⟩) (pe_glob (v := .str figs) rfl m_FIGURES ⟨_, rfl⟩)) rfl))) pa_nil))))), ?_⟩
    suffices z : EvR K _ _ G (.bl (isNameD x)) from z H e _ q
    cases x
    case str x =>
      have hl := hx x rfl
      have lenE := fun (σ : L2.St) (te : TE) (hh : EvD K te σ G (.str x)) => ev_len (ds := []) hh (.inl ⟨x, rfl, line1000 hl, rfl⟩)
      refine r_ifq (b := !(lenOk x && (firstOk x && noWord x))) ?_ (fun hb => r_ret (ev_bl.is ?_)) (fun hb => r_ret ((chars_all (fun c => decide (c ∈ (small ++ figs).cps.toList)) (ev_var rfl hv) hl (fun _ => rfl) fun c G1 e1 => ev_inS (ev_var rfl (.str _)) (ev_addS ev_str ev_str (by decide +kernel))).is ?_))
      · cases hc : x.cps.toList[0]? with
        | none =>
          have h0 : x.length = 0 := by
            rw [len_cps]
            exact Nat.le_zero.mp (List.getElem?_eq_none_iff.mp hc)
          refine (eb_or (eb_not (eb_B (ev_isi (c := "str") (b := true) (ev_var rfl hv) (kit_s _)))) fun _ => eb_or (b := false) (eb_not (eb_test (ev_chain ev_int (lenE _ _ (ev_var rfl hv)) ev_int))) fun z => ?_).is ?_
          · rw [h0] at z
            cases z
          · simp [lenOk, h0]
        | some c =>
          refine (eb_or (eb_not (eb_B (ev_isi (c := "str") (b := true) (ev_var rfl hv) (kit_s _)))) fun _ => eb_or (eb_not (eb_test (ev_chain ev_int (lenE _ _ (ev_var rfl hv)) ev_int))) fun _ => eb_or (eb_test (ev_notInS (ev_ixS (i := 0) (ev_var rfl hv) (line1000 hl) hc) ev_str)) fun _ => eb_test (ev_inT (ev_var rfl hv) T.words.2)).is ?_
          simp [lenOk, firstOk, hc, noWord, Bool.not_and]
      · show D.bl false = D.bl (isName x)
        unfold isName
        rw [show (lenOk x && (firstOk x && noWord x)) = false by cases q : (lenOk x && (firstOk x && noWord x)) <;> simp_all]
        rfl
      · show D.bl _ = D.bl (isName x)
        unfold isName
        rw [show (lenOk x && (firstOk x && noWord x)) = true by simpa using hb]
        rfl
    all_goals exact r_ifq (b := true) (eb_or (a := !false) (b := false) (eb_not (eb_B (ev_isi (c := "str") (b := false) (ev_var rfl hv) (kit_s _)))) (fun z => by cases z)) (fun _ => r_ret ev_bl) (fun z => by cases z)

theorem sc_is_bare_letter : FnScope ["thing", "sign"] ["thing"] (defScope T47.s_is_bare_letter) := ⟨rfl, rfl, rfl, by decide +kernel, rfl, by decide +kernel, by decide +kernel⟩
theorem has_is_bare_letter (T : Tx w K mg) : Has P w K mg base CX0 "is_bare_letter" 1 ["thing"] (sp_is_bare_letter K) := by
  obtain ⟨fd, F⟩ := T.def_ 12
  have gm := T.glo (x := "is_bare_letter") 26
  have z_all := T.free (x := "all") 81
  have z_isinstance := T.free (x := "isinstance") 86
  have z_len := T.free (x := "len") 87
  have z_str := T.free (x := "str") 93
  obtain ⟨t_SMALL, m_SMALL⟩ := T.str (x := "SMALL") 97
  have m_WORDS := T.words.1
  have nd := sc_is_bare_letter.nd
  refine has_of F gm sc_is_bare_letter (fun _ _ _ _ _ _ us hl => match us, hl with | [_], _ => rfl) (fun vs H Q E h => ?_) (fun cdv A outer s H vs Q E hr h => ?_)
  · exact spD_len h (fun ds d ⟨x, e, _⟩ => by rw [e]; rfl)
  · obtain ⟨G, x, v, d, rfl, e, hv, ⟨hx, rfl⟩, q⟩ := sp_one h
    refine ⟨_, (pss_cons (ps_if (PW.pt (pw_or (pt_not (pt_val (pe_callB call_isi rfl z_isinstance (by decide +kernel) (pa_cons (pv 0) (pa_cons (pe_bltn (v := .ty "str") rfl z_str (by decide +kernel) rfl) pa_nil))))) (pw_or (pt_not (pt_chain op_lt op_le pe_int (pe_callB call_len rfl z_len (by decide +kernel) (pa_cons (pv 0) pa_nil)) pe_int)) (pw_or1 (pt_cmpR op_in_seq (pv 0) (pe_glob (v := .ref (He.ga K "WORDS")) rfl m_WORDS rfl) rfl))))) (pss_one (ps_ret pe_bl)) pss_nil)
        (pss_one (ps_ret (pe_callB (cr_all rfl) rfl z_all (by decide +kernel) (pa_cons (pe_lc (own := [("sign", 1)]) (g := gName 1) (tt := tYes) rfl nd (pi_seq (pv 0)) (blkOk_by (own := [("sign", 1)]) (N := ["thing", "sign"]) (sc := (defScope T47.s_is_bare_letter)) (by decide +kernel)) (fun _ _ _ _ _ => (pg_name (i := 1) nd rfl (Or.inl rfl))) (fun _ _ _ _ _ => pts_nil) (fun _ _ _ _ _ => (pe_cmpR op_in_sign (pv 1) (pe_glob (v := .str small) rfl m_SMALL ⟨_, rfl⟩) rfl))) pa_nil))))), ?_⟩
    suffices z : EvR K _ _ G (.bl (isBareD x)) from z H e _ q
    cases x
    case str x =>
      have hl := hx x rfl
      have lenE := fun (σ : L2.St) (te : TE) (hh : EvD K te σ G (.str x)) => ev_len (ds := []) hh (.inl ⟨x, rfl, line1000 hl, rfl⟩)
      refine r_ifq (b := !(lenOk x && noWord x)) ?_ (fun hb => r_ret (ev_bl.is ?_)) (fun hb => r_ret ((chars_all (fun c => decide (c ∈ small.cps.toList)) (ev_var rfl hv) hl (fun _ => rfl) fun c G1 e1 => ev_inS (ev_var rfl (.str _)) ev_str).is ?_))
      · refine (eb_or (eb_not (eb_B (ev_isi (c := "str") (b := true) (ev_var rfl hv) (kit_s _)))) fun _ => eb_or (eb_not (eb_test (ev_chain ev_int (lenE _ _ (ev_var rfl hv)) ev_int))) fun _ => eb_test (ev_inT (ev_var rfl hv) T.words.2)).is ?_
        simp [lenOk, noWord, Bool.not_and]
      · show D.bl false = D.bl (isBare x)
        unfold isBare
        rw [show (lenOk x && noWord x) = false by cases q : (lenOk x && noWord x) <;> simp_all]
        rfl
      · show D.bl _ = D.bl (isBare x)
        unfold isBare
        rw [show (lenOk x && noWord x) = true by simpa using hb]
        rfl
    all_goals exact r_ifq (b := true) (eb_or (a := !false) (b := false) (eb_not (eb_B (ev_isi (c := "str") (b := false) (ev_var rfl hv) (kit_s _)))) (fun z => by cases z)) (fun _ => r_ret ev_bl) (fun z => by cases z)

theorem sc_is_letter : FnScope ["thing"] ["thing"] (defScope T47.s_is_letter) := ⟨rfl, rfl, rfl, by decide +kernel, rfl, by decide +kernel, by decide +kernel⟩
theorem has_is_letter (T : Tx w K mg) (h_is_bare_letter : Has P w K mg base CX0 "is_bare_letter" 1 ["thing"] (sp_is_bare_letter K)) : Has P w K mg base CX0 "is_letter" 2 ["thing"] (sp_is_letter K) := by
  obtain ⟨fd, F⟩ := T.def_ 13
  have gm := T.glo (x := "is_letter") 27
  have z_isinstance := T.free (x := "isinstance") 86
  have z_str := T.free (x := "str") 93
  have nd := sc_is_letter.nd
  refine has_of F gm sc_is_letter (fun _ _ _ _ _ _ us hl => match us, hl with | [_], _ => rfl) (fun vs H Q E h => ?_) (fun cdv A outer s H vs Q E hr h => ?_)
  · exact spD_len h (fun ds d ⟨x, e, _⟩ => by rw [e]; rfl)
  · obtain ⟨G, x, v, d, rfl, e, hv, ⟨hx, rfl⟩, q⟩ := sp_one h
    refine ⟨_, (pss_cons (ps_if (PW.pt (pw_and (pt_val (pe_callB call_isi rfl z_isinstance (by decide +kernel) (pa_cons (pv 0) (pa_cons (pe_bltn (v := .ty "str") rfl z_str (by decide +kernel) rfl) pa_nil)))) (pw_and1 (pt_cmpR op_in_seq (pe_slice sl_str (pv 0) po_none (po_some pe_int)) (pe_tup (pa_cons pe_str (pa_cons pe_str pa_nil))) rfl)))) (pss_one (ps_ret (pe_h h_is_bare_letter (hr.mono (by decide)) rfl (pa_cons (pe_slice sl_str (pv 0) (po_some pe_int) po_none) pa_nil)))) pss_nil)
        (pss_one (ps_ret (pe_h h_is_bare_letter (hr.mono (by decide)) rfl (pa_cons (pv 0) pa_nil))))), ?_⟩
    suffices z : EvR K _ _ G (.bl (isLetterD x)) from z H e _ q
    cases x
    case str x =>
      have hl := hx x rfl
      refine r_ifq (b := signed x) ((eb_and (eb_B (ev_isi (c := "str") (b := true) (ev_var rfl hv) (kit_s _))) fun _ => eb_test (ev_inW (ev_slS (ev_var rfl hv) (line1000 hl) (fun _ _ => po_no) (fun _ _ => po_int)) (ev_tup (ea_cons ev_str (ea_cons ev_str ea_nil)) (by decide)))).is (Bool.true_and _)) (fun hb => ?_) (fun hb => ?_)
      · refine r_ret (ev_call (ea_cons (ev_slS (ev_var rfl hv) (line1000 hl) (fun _ _ => po_int) (fun _ _ => po_no)) ea_nil) ⟨_, rfl, fun y hy => ?_, ?_⟩)
        · cases hy
          exact Nat.le_trans (cutS_len x) hl
        · show D.bl (isLetter x) = D.bl (isBare _)
          unfold isLetter
          rw [if_pos hb]
      · refine r_ret (ev_call (ea_cons (ev_var rfl hv) ea_nil) ⟨_, rfl, hx, ?_⟩)
        show D.bl (isLetter x) = D.bl (isBare _)
        unfold isLetter
        rw [if_neg (by rw [hb]; decide)]
    all_goals exact r_ifq (b := false) (eb_and (a := false) (b := false) (eb_B (ev_isi (c := "str") (b := false) (ev_var rfl hv) (kit_s _))) (fun z => by cases z)) (fun z => by cases z) (fun _ => r_ret (ev_call (ea_cons (ev_var rfl hv) ea_nil) ⟨_, rfl, hx, rfl⟩))

end
end T47
/-! Rows and rules. -/
namespace T47
open PySem PySem.Spec PyProof.Rows L2 Pk
/-! ### the mirrors -/
abbrev Rule := Str × List Str
abbrev Talk := Str × List Rule
def IsRow (d : D) (row : List Str) : Prop := Lk d (row.map D.str)
def IsRule (d : D) (r : Rule) : Prop := ∃ b, Lk d [.str r.1, b] ∧ IsRow b r.2
def rowOk (row : List Str) : Prop := (∀ n ∈ row, isName n = true) ∧ row.length ≤ 1000
def ruleOk (r : Rule) : Prop := isLetter r.1 = true ∧ r.1.length ≤ 1000 ∧ rowOk r.2
def keptRule (r : Rule) : D := .tup [.str r.1, .tup (r.2.map D.str)]
theorem name_len {x : Str} (h : isName x = true) : x.length ≤ 8 := by
  unfold isName lenOk at h
  simp only [Bool.and_eq_true, decide_eq_true_eq] at h
  omega
theorem name_short {x : Str} (h : isName x = true) : short (.str x) := fun y e => by
  cases e
  have := name_len h
  omega
section
variable {P : Program} {w : World} {K : PySem.W.Frag} {mg : Str → Option Value} {base : Heap}
/-! ### promises -/
def sp_is_row (K : PySem.W.Frag) : Sp := spD K fun ds d => ∃ x, ds = [x] ∧ (∃ row, IsRow x row ∧ rowOk row) ∧ d = .bl true
def sp_is_one_of (K : PySem.W.Frag) : Sp := spD K fun ds d => ∃ kvs x, ds = [.dic kvs, x] ∧ d = .bl (match x with | .str y => (lookD kvs y).isSome | _ => false)
def sp_is_rule (K : PySem.W.Frag) : Sp := spD K fun ds d => ∃ x, ds = [x] ∧ (∃ r, IsRule x r ∧ ruleOk r) ∧ d = .bl true
def sp_as_rule (K : PySem.W.Frag) : Sp := spD K fun ds d => ∃ x, ds = [x] ∧ ∃ r, IsRule x r ∧ d = keptRule r

theorem sc_is_row : FnScope ["thing", "one"] ["thing"] (defScope T47.s_is_row) := ⟨rfl, rfl, rfl, by decide +kernel, rfl, by decide +kernel, by decide +kernel⟩
theorem has_is_row (T : Tx w K mg) (h_is_list : Has P w K mg base CX0 "is_list" 1 ["thing"] (sp_is_list K)) (h_is_name : Has P w K mg base CX0 "is_name" 1 ["thing"] (sp_is_name K)) : Has P w K mg base CX0 "is_row" 2 ["thing"] (sp_is_row K) := by
  obtain ⟨fd, F⟩ := T.def_ 14
  have gm := T.glo (x := "is_row") 28
  have z_all := T.free (x := "all") 81
  have nd := sc_is_row.nd
  refine has_of F gm sc_is_row (fun _ _ _ _ _ _ us hl => match us, hl with | [_], _ => rfl) (fun vs H Q E h => ?_) (fun cdv A outer s H vs Q E hr h => ?_)
  · exact spD_len h (fun ds d ⟨x, e, _⟩ => by rw [e]; rfl)
  · obtain ⟨G, x, v, d, rfl, e, hv, ⟨⟨row, hr1, hr2⟩, rfl⟩, q⟩ := sp_one h
    refine ⟨_, (pss_one (ps_ret (pe_and (pe_h h_is_list (hr.mono (by decide)) rfl (pa_cons (pv 0) pa_nil)) (pe_one (pe_callB (cr_all rfl) rfl z_all (by decide +kernel) (pa_cons (pe_lc (own := [("one", 1)]) (g := gName 1) (tt := tYes) rfl nd (pi_seq (pv 0)) (blkOk_by (own := [("one", 1)]) (N := ["thing", "one"]) (sc := (defScope T47.s_is_row)) (by decide +kernel)) (fun _ _ _ _ _ => (pg_name (i := 1) nd rfl (Or.inl rfl))) (fun _ _ _ _ _ => pts_nil) (fun _ _ _ _ _ => (pe_h h_is_name (hr.mono (by decide)) rfl (pa_cons (pv 1) pa_nil)))) pa_nil)))))), ?_⟩
    have hl : (row.map D.str).length < 50000 := by rw [List.length_map]; have := hr2.2; omega
    refine r_ret ((ev_andV (ev_call (ea_cons (ev_var rfl hv) ea_nil) ⟨x, rfl, rfl⟩) fun _ => ev_all1 (ev_var rfl hv) hr1 hl isNameD (fun _ => rfl) fun di u G1 hm e1 hu => ev_call (ea_cons (ev_var rfl hu) ea_nil) ⟨di, rfl, ?_, rfl⟩).is ?_) H e _ q
    · rw [hr1.isL, Bool.true_and, List.all_map]
      exact congrArg D.bl (List.all_eq_true.mpr fun n hn => hr2.1 n hn)
    · obtain ⟨n, hn, rfl⟩ := List.mem_map.mp hm
      exact name_short (hr2.1 n hn)

theorem sc_is_one_of : FnScope ["known", "thing"] ["known", "thing"] (defScope T47.s_is_one_of) := ⟨rfl, rfl, rfl, by decide +kernel, rfl, by decide +kernel, by decide +kernel⟩
theorem has_is_one_of (T : Tx w K mg) : Has P w K mg base CX0 "is_one_of" 1 ["known", "thing"] (sp_is_one_of K) := by
  obtain ⟨fd, F⟩ := T.def_ 15
  have gm := T.glo (x := "is_one_of") 29
  have z_isinstance := T.free (x := "isinstance") 86
  have z_str := T.free (x := "str") 93
  have nd := sc_is_one_of.nd
  refine has_of F gm sc_is_one_of (fun _ _ _ _ _ _ us hl => match us, hl with | [_, _], _ => rfl) (fun vs H Q E h => ?_) (fun cdv A outer s H vs Q E hr h => ?_)
  · exact spD_len h (fun ds d ⟨_, _, e, _⟩ => by rw [e]; rfl)
  · obtain ⟨G, ds, d, e, hds, ⟨kvs, x, rfl, rfl⟩, q⟩ := h
    cases hds with
    | cons hk hs =>
      cases hs with
      | cons hx hn =>
        cases hn
        refine ⟨_, (pss_one (ps_ret (pe_and (pe_callB call_isi rfl z_isinstance (by decide +kernel) (pa_cons (pv 1) (pa_cons (pe_bltn (v := .ty "str") rfl z_str (by decide +kernel) rfl) pa_nil))) (pe_one (pe_cmp (pc_din (hu_of hr) (pv 1) (pv 0)) rfl))))), ?_⟩
        cases x
        case str x => exact r_ret ((ev_andV (ev_isi (c := "str") (b := true) (ev_var rfl hx) (kit_s _)) fun _ => ev_din (ev_var rfl hx) (ev_var rfl hk)).is (by rw [Bool.true_and])) H e _ q
        all_goals exact r_ret (ev_andV (a := false) (b := false) (ev_isi (c := "str") (b := false) (ev_var rfl hx) (kit_s _)) fun z => by cases z) H e _ q

theorem sc_is_rule : FnScope ["thing"] ["thing"] (defScope T47.s_is_rule) := ⟨rfl, rfl, rfl, by decide +kernel, rfl, by decide +kernel, by decide +kernel⟩
theorem has_is_rule (T : Tx w K mg) (h_is_letter : Has P w K mg base CX0 "is_letter" 2 ["thing"] (sp_is_letter K)) (h_is_list : Has P w K mg base CX0 "is_list" 1 ["thing"] (sp_is_list K)) (h_is_row : Has P w K mg base CX0 "is_row" 2 ["thing"] (sp_is_row K)) : Has P w K mg base CX0 "is_rule" 3 ["thing"] (sp_is_rule K) := by
  obtain ⟨fd, F⟩ := T.def_ 16
  have gm := T.glo (x := "is_rule") 30
  have z_len := T.free (x := "len") 87
  have nd := sc_is_rule.nd
  refine has_of F gm sc_is_rule (fun _ _ _ _ _ _ us hl => match us, hl with | [_], _ => rfl) (fun vs H Q E h => ?_) (fun cdv A outer s H vs Q E hr h => ?_)
  · exact spD_len h (fun ds d ⟨x, e, _⟩ => by rw [e]; rfl)
  · obtain ⟨G, x, v, d, rfl, e, hv, ⟨⟨r, ⟨b, hr1, hr2⟩, h1, h2, h3⟩, rfl⟩, q⟩ := sp_one h
    refine ⟨_, (pss_one (ps_ret (pe_and (pe_h h_is_list (hr.mono (by decide)) rfl (pa_cons (pv 0) pa_nil)) (pe_and (pe_cmpR op_eq (pe_callB call_len rfl z_len (by decide +kernel) (pa_cons (pv 0) pa_nil)) pe_int (nomark _)) (pe_and (pe_h h_is_letter (hr.mono (by decide)) rfl (pa_cons (pe_ix ix_seq (pv 0) pe_int (fun _ _ => rfl)) pa_nil)) (pe_one (pe_h h_is_row (hr.mono (by decide)) rfl (pa_cons (pe_ix ix_seq (pv 0) pe_int (fun _ _ => rfl)) pa_nil)))))))), ?_⟩
    have hx := fun (σ : L2.St) (te : TE) (z : EvD K te σ G x) => hr1.ev z
    refine r_ret ((ev_andV (ev_call (ea_cons (ev_var rfl hv) ea_nil) ⟨x, rfl, rfl⟩) fun _ => ev_andV (ev_eq (hr1.len (ev_var rfl hv)) ev_int rfl rfl rfl) fun _ =>
      ev_andV (ev_call (ea_cons (ev_ix (i := 0) (hx _ _ (ev_var rfl hv)) rfl) ea_nil) ⟨_, rfl, fun y hy => by cases hy; exact h2, rfl⟩) fun _ => ev_call (ea_cons (ev_ix (i := 1) (hx _ _ (ev_var rfl hv)) rfl) ea_nil) ⟨_, rfl, ⟨r.2, hr2, h3⟩, rfl⟩).is ?_) H e _ q
    rw [hr1.isL]
    show D.bl (true && (_ && (isLetter r.1 && true))) = D.bl true
    rw [h1]
    rfl

theorem sc_as_rule : FnScope ["thing"] ["thing"] (defScope T47.s_as_rule) := ⟨rfl, rfl, rfl, by decide +kernel, rfl, by decide +kernel, by decide +kernel⟩
theorem has_as_rule (T : Tx w K mg) : Has P w K mg base CX0 "as_rule" 1 ["thing"] (sp_as_rule K) := by
  obtain ⟨fd, F⟩ := T.def_ 17
  have gm := T.glo (x := "as_rule") 31
  have z_tuple := T.free (x := "tuple") 95
  have nd := sc_as_rule.nd
  refine has_of F gm sc_as_rule (fun _ _ _ _ _ _ us hl => match us, hl with | [_], _ => rfl) (fun vs H Q E h => ?_) (fun cdv A outer s H vs Q E hr h => ?_)
  · exact spD_len h (fun ds d ⟨x, e, _⟩ => by rw [e]; rfl)
  · obtain ⟨G, x, v, d, rfl, e, hv, ⟨r, ⟨b, hr1, hr2⟩, rfl⟩, q⟩ := sp_one h
    refine ⟨_, (pss_one (ps_ret (pe_tup (pa_cons (pe_ix ix_seq (pv 0) pe_int (fun _ _ => rfl)) (pa_cons (pe_callTy call_tuple_of rfl z_tuple (by decide +kernel) (pa_cons (pe_ix ix_seq (pv 0) pe_int (fun _ _ => rfl)) pa_nil)) pa_nil))))), ?_⟩
    have hx := fun (σ : L2.St) (te : TE) (z : EvD K te σ G x) => hr1.ev z
    exact r_ret (ev_tup (ea_cons (ev_ix (i := 0) (hx _ _ (ev_var rfl hv)) rfl) (ea_cons (ev_tuple (Lk.ev hr2 (ev_ix (i := 1) (hx _ _ (ev_var rfl hv)) rfl))) ea_nil)) (by show 2 ≤ 100000; decide)) H e _ q

end
end T47
/-! Talks. -/
namespace T47
open PySem PySem.Spec PyProof.Rows L2 Pk
/-! ### two lists, item by item -/
inductive All2 {α β : Type} (R : α → β → Prop) : List α → List β → Prop
  | nil : All2 R [] []
  | cons {a : α} {b : β} {as : List α} {bs : List β} : R a b → All2 R as bs → All2 R (a :: as) (b :: bs)
section
variable {α β γ : Type} {R S : α → β → Prop} {as : List α} {bs : List β}
theorem All2.length (h : All2 R as bs) : as.length = bs.length := by
  induction h with
  | nil => rfl
  | cons _ _ ih => rw [List.length_cons, List.length_cons, ih]
theorem All2.left (h : All2 R as bs) : ∀ a ∈ as, ∃ b ∈ bs, R a b := by
  induction h with
  | nil => intro a ha; cases ha
  | cons r _ ih =>
    intro a ha
    rcases List.mem_cons.mp ha with e | ha
    · rw [e]; exact ⟨_, by simp, r⟩
    · obtain ⟨b, hb, q⟩ := ih a ha
      exact ⟨b, by simp [hb], q⟩
theorem All2.map_eq {f : α → γ} {g : β → γ} (h : All2 R as bs) (e : ∀ a b, R a b → f a = g b) : as.map f = bs.map g := by
  induction h with
  | nil => rfl
  | cons r _ ih => rw [List.map_cons, List.map_cons, ih, e _ _ r]
theorem All2.mono (h : All2 R as bs) (e : ∀ a b, R a b → S a b) : All2 S as bs := by
  induction h with
  | nil => exact .nil
  | cons r _ ih => exact .cons (e _ _ r) ih
theorem All2.get (h : All2 R as bs) {i : Nat} {a : α} (ha : as[i]? = some a) : ∃ b, bs[i]? = some b ∧ R a b := by
  induction h generalizing i with
  | nil => simp at ha
  | cons r _ ih =>
    cases i with
    | zero => simp at ha; subst ha; exact ⟨_, rfl, r⟩
    | succ i => simp at ha; obtain ⟨b, e, q⟩ := ih ha; exact ⟨b, by simpa using e, q⟩
end
/-! ### mirrors -/
def IsRules (d : D) (rs : List Rule) : Prop := ∃ ds, Lk d ds ∧ All2 IsRule ds rs
def IsTalk (d : D) (t : Talk) : Prop := ∃ b, Lk d [.str t.1, b] ∧ IsRules b t.2
def IsTalks (d : D) (ts : List Talk) : Prop := ∃ ds, Lk d ds ∧ All2 IsTalk ds ts
def talkOk (t : Talk) : Prop := isName t.1 = true ∧ t.2 ≠ [] ∧ (∀ r ∈ t.2, ruleOk r) ∧ t.2.length ≤ 900 ∧ t.2.Nodup
def ruleKey (r : Rule) : NestedKey := .tup [.text r.1, .tup (r.2.map .text)]
theorem text_inj : ∀ {a b : List Str}, a.map NestedKey.text = b.map NestedKey.text → a = b
  | [], [], _ => rfl
  | [], _ :: _, h => by cases h
  | _ :: _, [], h => by cases h
  | x :: a, y :: b, h => by
    obtain ⟨h1, h2⟩ := List.cons.inj h
    rw [text_inj h2, NestedKey.text.inj h1]
theorem ruleKey_inj {r s : Rule} (h : ruleKey r = ruleKey s) : r = s := by
  obtain ⟨a, b⟩ := r
  obtain ⟨c, d⟩ := s
  have h := NestedKey.tup.inj h
  obtain ⟨h1, h2⟩ := List.cons.inj h
  obtain ⟨h2, _⟩ := List.cons.inj h2
  have e1 := NestedKey.text.inj h1
  have e2 := text_inj (NestedKey.tup.inj h2)
  simp only at e1 e2
  rw [e1, e2]
def D.parts : D → List D
  | .lst ds => ds
  | .tup ds => ds
  | _ => []
theorem parts_of {d : D} {ds : List D} (h : Lk d ds) : D.parts d = ds := by cases h <;> rfl
def keptD (d : D) : D := match D.parts d with
  | [a, b] => .tup [a, .tup (D.parts b)]
  | _ => .tup []
theorem keptD_of {d : D} {r : Rule} (h : IsRule d r) : keptD d = keptRule r := by
  obtain ⟨b, h1, h2⟩ := h
  unfold keptD
  rw [parts_of h1]
  simp only
  rw [parts_of h2]
  rfl
theorem nks_str : ∀ xs : List Str, nks (xs.map D.str) = some (xs.map NestedKey.text)
  | [] => rfl
  | x :: xs => by
    rw [List.map_cons, List.map_cons]
    unfold nks
    rw [nks_str xs]
    rfl
theorem nk_rule (r : Rule) : (keptRule r).nk = some (ruleKey r) := by
  unfold keptRule D.nk nks
  simp only [D.nk, nks, nks_str]
  rfl
theorem depthAll_text : ∀ xs : List Str, NestedKey.depthAll (xs.map .text) = 0
  | [] => by simp [NestedKey.depthAll]
  | x :: xs => by simp [NestedKey.depthAll, NestedKey.depth, depthAll_text xs]
theorem ruleKey_depth (r : Rule) : (ruleKey r).depth ≤ 8 := by
  unfold ruleKey
  simp [NestedKey.depth, NestedKey.depthAll, depthAll_text]
def keyD (d : D) : NestedKey := match (keptD d).nk with
  | some k => k
  | none => .none
theorem keyD_of {d : D} {r : Rule} (h : IsRule d r) : keyD d = ruleKey r := by
  unfold keyD
  rw [keptD_of h, nk_rule]
section
variable {P : Program} {w : World} {K : PySem.W.Frag} {mg : Str → Option Value} {base : Heap}
def sp_is_talk (K : PySem.W.Frag) : Sp := spD K fun ds d => ∃ x, ds = [x] ∧ (∃ t, IsTalk x t ∧ talkOk t) ∧ d = .bl true

theorem sc_is_talk : FnScope ["thing", "rule"] ["thing"] (defScope T47.s_is_talk) := ⟨rfl, rfl, rfl, by decide +kernel, rfl, by decide +kernel, by decide +kernel⟩
theorem has_is_talk (T : Tx w K mg) (h_as_rule : Has P w K mg base CX0 "as_rule" 1 ["thing"] (sp_as_rule K)) (h_is_list : Has P w K mg base CX0 "is_list" 1 ["thing"] (sp_is_list K)) (h_is_name : Has P w K mg base CX0 "is_name" 1 ["thing"] (sp_is_name K)) (h_is_rule : Has P w K mg base CX0 "is_rule" 3 ["thing"] (sp_is_rule K)) : Has P w K mg base CX0 "is_talk" 4 ["thing"] (sp_is_talk K) := by
  obtain ⟨fd, F⟩ := T.def_ 18
  have gm := T.glo (x := "is_talk") 32
  have z_all := T.free (x := "all") 81
  have z_len := T.free (x := "len") 87
  have nd := sc_is_talk.nd
  refine has_of F gm sc_is_talk (fun _ _ _ _ _ _ us hl => match us, hl with | [_], _ => rfl) (fun vs H Q E h => ?_) (fun cdv A outer s H vs Q E hr h => ?_)
  · exact spD_len h (fun ds d ⟨x, e, _⟩ => by rw [e]; rfl)
  · obtain ⟨G, x, v, d, rfl, e, hv, ⟨⟨t, ⟨b, hx1, ⟨rds, hb, hrs⟩⟩, h1, h2, h3, h4, h5⟩, rfl⟩, q⟩ := sp_one h
    refine ⟨_, (pss_cons (ps_if (PW.pt (pw_or (pt_not (pt_val (pe_h h_is_list (hr.mono (by decide)) rfl (pa_cons (pv 0) pa_nil)))) (pw_or (pt_cmpR op_ne (pe_callB call_len rfl z_len (by decide +kernel) (pa_cons (pv 0) pa_nil)) pe_int (nomark _)) (pw_or (pt_not (pt_val (pe_h h_is_name (hr.mono (by decide)) rfl (pa_cons (pe_ix ix_seq (pv 0) pe_int (fun _ _ => rfl)) pa_nil)))) (pw_or1 (pt_not (pt_val (pe_h h_is_list (hr.mono (by decide)) rfl (pa_cons (pe_ix ix_seq (pv 0) pe_int (fun _ _ => rfl)) pa_nil))))))))) (pss_one (ps_ret pe_bl)) pss_nil)
        (pss_cons (ps_if (PW.pt (pw_or (pt_cmpR op_eq (pe_callB call_len rfl z_len (by decide +kernel) (pa_cons (pe_ix ix_seq (pv 0) pe_int (fun _ _ => rfl)) pa_nil)) pe_int (nomark _)) (pw_or1 (pt_not (pt_val (pe_callB (cr_all rfl) rfl z_all (by decide +kernel) (pa_cons (pe_lc (own := [("rule", 1)]) (g := gName 1) (tt := tYes) rfl nd (pi_seq (pe_ix ix_seq (pv 0) pe_int (fun _ _ => rfl))) (blkOk_by (own := [("rule", 1)]) (N := ["thing", "rule"]) (sc := (defScope T47.s_is_talk)) (by decide +kernel)) (fun _ _ _ _ _ => (pg_name (i := 1) nd rfl (Or.inl rfl))) (fun _ _ _ _ _ => pts_nil) (fun _ _ _ _ _ => (pe_h h_is_rule (hr.mono (by decide)) rfl (pa_cons (pv 1) pa_nil)))) pa_nil))))))) (pss_one (ps_ret pe_bl)) pss_nil)
        (pss_one (ps_ret (pe_cmpR op_eq (pe_callB call_lenN rfl z_len (by decide +kernel) (pa_cons (pe_dcN (ownl := [("rule", 1)]) (g := gName 1) (tt := tYes) hr.units rfl nd (pi_seq (pe_ix ix_seq (pv 0) pe_int (fun _ _ => rfl))) (blkOk_by (own := [("rule", 1)]) (N := ["thing", "rule"]) (sc := (defScope T47.s_is_talk)) (by decide +kernel)) (fun _ _ _ _ _ => (pg_name (i := 1) nd rfl (Or.inl rfl))) (fun _ _ _ _ _ => pts_nil) (fun _ _ _ _ _ => (pe_h h_as_rule (hr.mono (by decide)) rfl (pa_cons (pv 1) pa_nil))) (fun _ _ _ _ _ => pe_bl)) pa_nil)) (pe_callB call_len rfl z_len (by decide +kernel) (pa_cons (pe_ix ix_seq (pv 0) pe_int (fun _ _ => rfl)) pa_nil)) (nomark _)))))), ?_⟩
    suffices z : EvR K _ _ G (.bl true) from z H e _ q
    have ex := fun (σ : L2.St) (te : TE) (G : Hp) (z : EvD K te σ G x) => hx1.ev z
    have ex0 := fun (σ : L2.St) (te : TE) (G : Hp) (z : EvD K te σ G x) => ev_ix (i := 0) (hx1.ev z) (d := .str t.1) rfl
    have ex1 := fun (σ : L2.St) (te : TE) (G : Hp) (z : EvD K te σ G x) => ev_ix (i := 1) (hx1.ev z) (d := b) rfl
    have hl : rds.length = t.2.length := hrs.length
    have hz : rds.length < 50000 := by omega
    have hrul : ∀ di ∈ rds, ∃ r, IsRule di r ∧ ruleOk r := fun di hm => by
      obtain ⟨r, hr1, hr2⟩ := hrs.left di hm
      exact ⟨r, hr2, h3 r hr1⟩
    have hne : ¬ (rds.length : Int) = 0 := fun z => h2 (List.eq_nil_of_length_eq_zero (by omega))
    refine r_ifq (b := false) ((eb_or (eb_not (eb_B (ev_call (ea_cons (ev_var rfl hv) ea_nil) ⟨x, rfl, rfl⟩))) fun _ => eb_or (eb_test (ev_ne (hx1.len (ev_var rfl hv)) ev_int rfl rfl rfl)) fun _ =>
      eb_or (eb_not (eb_B (ev_call (ea_cons (ex0 _ _ _ (ev_var rfl hv)) ea_nil) ⟨_, rfl, name_short h1, rfl⟩))) fun _ => eb_not (eb_B (ev_call (ea_cons (ex1 _ _ _ (ev_var rfl hv)) ea_nil) ⟨b, rfl, rfl⟩))).is ?_) (fun z => by cases z) fun _ => ?_
    · rw [hx1.isL, hb.isL]
      show (!true || (_ || (!isName t.1 || !true))) = false
      rw [h1]
      rfl
    refine r_ifq (b := false) ((eb_or (a := false) ((eb_test (ev_eq (hb.len (ex1 _ _ _ (ev_var rfl hv))) ev_int rfl rfl rfl)).is ?_) fun _ => eb_not (eb_B (ev_all1 (ex1 _ _ _ (ev_var rfl hv)) hb hz (fun _ => true) (fun _ => rfl) fun di u G1 hm e1 hu => ev_call (ea_cons (ev_var rfl hu) ea_nil) ⟨di, rfl, hrul di hm, rfl⟩))).is ?_) (fun z => by cases z) fun _ => ?_
    · exact decide_eq_false fun z => hne (V.int.inj z)
    · simp
    refine r_ret ((ev_eq (ev_lenN (ex1 _ _ _ (ev_var rfl hv)) hb hz keptD (fun _ => .bl true) keyD (fun _ => rfl) ?_ ?_ ?_ ?_) (hb.len (ex1 _ _ _ (ev_var rfl hv))) rfl rfl rfl).is ?_)
    · rw [hrs.map_eq (f := keyD) (g := ruleKey) fun a b r => keyD_of r]
      exact List.Pairwise.map ruleKey (fun a b ne z => ne (ruleKey_inj z)) h5
    · intro di hm
      obtain ⟨r, hr1, hr2⟩ := hrs.left di hm
      rw [keptD_of hr2, keyD_of hr2]
      exact ⟨nk_rule r, ruleKey_depth r, _, rfl⟩
    · intro di u G1 hm e1 hu
      obtain ⟨r, hr1, hr2⟩ := hrs.left di hm
      rw [keptD_of hr2]
      exact ev_call (ea_cons (ev_var rfl hu) ea_nil) ⟨di, rfl, r, hr2, rfl⟩
    · intro di u G1 hm e1 hu
      exact ev_bl
    · simp

end
end T47
/-! lacking_in, norms_in. -/
namespace T47
open PySem PySem.Spec PyProof.Rows L2 Pk
section
variable {P : Program} {w : World} {K : PySem.W.Frag} {mg : Str → Option Value} {base : Heap}
/-- the kept rules of a book: names in some order, each with its rules; every name of a row is there -/
abbrev Kept := List (Str × List Rule)
def keptD_ (b : Kept) : List (Str × D) := b.map fun p => (p.1, .lst (p.2.map keptRule))
def closed (b : Kept) : Prop := ∀ p ∈ b, ∀ r ∈ p.2, ∀ n ∈ r.2, (lookD (keptD_ b) n).isSome = true
def sized (b : Kept) : Prop := b.length ≤ 60 ∧ ∀ p ∈ b, p.2.length ≤ 900 ∧ ∀ r ∈ p.2, r.2.length ≤ 1000
def sp_lacking_in (K : PySem.W.Frag) : Sp := spD K fun ds d => ∃ x, ds = [x] ∧ (∃ b, x = .dic (keptD_ b) ∧ closed b ∧ sized b) ∧ d = .lst []
theorem dFold_none (k : D → Str) (v : D → D) : ∀ (ds : List D), ds.foldl (dStep (fun _ => false) k v) [] = []
  | [] => rfl
  | d :: ds => by
    rw [List.foldl_cons]
    exact dFold_none k v ds
theorem kept_at {b : Kept} {i : Nat} {n : Str} {d : D} (h : (keptD_ b)[i]? = some (n, d)) : ∃ rs, b[i]? = some (n, rs) ∧ d = .lst (rs.map keptRule) := by
  unfold keptD_ at h
  rw [List.getElem?_map] at h
  obtain ⟨p, hp, e⟩ := Option.map_eq_some_iff.mp h
  cases e
  exact ⟨p.2, hp, rfl⟩
theorem ev_here {i : Nat} {σ : L2.St} {v : V} (h : σ[i]? = some (some v)) : ∀ H : Hp, ∀ Q : VK, Q v H → tVar i σ H Q := fun H Q q => ⟨v, h, q⟩

theorem sc_lacking_in : FnScope ["rules", "found", "some", "letter", "row", "one"] ["rules"] (defScope T47.s_lacking_in) := ⟨rfl, rfl, rfl, by decide +kernel, rfl, by decide +kernel, by decide +kernel⟩
theorem has_lacking_in (T : Tx w K mg) : Has P w K mg base CX0 "lacking_in" 1 ["rules"] (sp_lacking_in K) := by
  obtain ⟨fd, F⟩ := T.def_ 19
  have gm := T.glo (x := "lacking_in") 33
  have z_sorted := T.free (x := "sorted") 92
  have nd := sc_lacking_in.nd
  refine has_of F gm sc_lacking_in (fun _ _ _ _ _ _ us hl => match us, hl with | [_], _ => rfl) (fun vs H Q E h => ?_) (fun cdv A outer s H vs Q E hr h => ?_)
  · exact spD_len h (fun ds d ⟨x, e, _⟩ => by rw [e]; rfl)
  · obtain ⟨G, x, v, d, rfl, e, hv, ⟨⟨b, rfl, hc, hs1, hs2⟩, rfl⟩, q⟩ := sp_one h
    refine ⟨_, (pss_cons (ps_set (i := 1) nd rfl (Or.inl rfl) pe_dnewK)
        (pss_cons (ps_for PassesOwn.never rfl (pi_values (pv 0)) (pg_name (i := 2) nd rfl (Or.inl rfl))
        (pss_one (ps_for PassesOwn.never rfl (pi_seq (pv 2)) (pg_tup rfl (pgs_cons (pg_name (i := 3) nd rfl (Or.inl rfl)) (pgs_cons (pg_name (i := 4) nd rfl (Or.inl rfl)) pgs_nil)))
        (pss_one (ps_expr (pe_bm PySem.F.plainAttrs_dict PySem.F.slot_dict_update PySem.F.type_dict_update mt_updE (pv 1) (pa_cons (pe_frz (pe_dc (own := [("one", 5)]) (g := gName 5) rfl nd (pi_seq (pv 4)) (blkOk_by (own := [("one", 5)]) (N := ["rules", "found", "some", "letter", "row", "one"]) (sc := (defScope T47.s_lacking_in)) (by decide +kernel)) (fun _ _ _ _ _ => (pg_name (i := 5) nd rfl (Or.inl rfl))) (fun _ _ _ _ _ => (pts_one (pt_cmp (pc_dnotin (hu_of hr) (pv 5) (pv 0))))) (fun _ _ _ _ _ => (pv 5)) (fun _ _ _ _ _ => pe_bl))) pa_nil)))))))
        (pss_one (ps_ret (pe_callB (call_sortedD rfl) rfl z_sorted (by decide +kernel) (pa_cons (pv 1) pa_nil)))))), ?_⟩
    refine mu_new e fun a ha => ?_
    have e0 : Same G (upd H a (.dK [])) := same_upd e (same_none e ha)
    refine f_vals (ev_var rfl hv) e0 fun G1 H1 g1 => ?_
    have gb : Gr G H G1 H1 := (Gr.ov e ha).trans g1
    refine ⟨fun i σ' H' => ∃ b2 b3 b4, σ' = [some v, some (.ref a), b2, b3, b4, none] ∧ ∃ G', Gr G H G' H' ∧ Same G1 G' ∧ MuD K G' H' a [], ⟨none, none, none, rfl, G1, gb, Same.refl _, MuD.gr ⟨[], upd_same, same_none e ha, rfl, .nil⟩ g1⟩, fun i σ' H' ⟨_, _, _, _, G', g', s', _⟩ => s'.trans g'.gh, ?_, ?_⟩
    · rintro i n di u σ' H' hdi hu ⟨b2, b3, b4, rfl, G2, g2, s2, m2⟩
      obtain ⟨rs, hb, rfl⟩ := kept_at hdi
      have hm := List.mem_of_getElem? hb
      refine f_seq (ev_var rfl (hu.up s2)) (.lst _) g2.gh fun G3 H3 g3 => ?_
      refine ⟨fun j σ' H' => ∃ b3 b4, σ' = [some v, some (.ref a), some u, b3, b4, none] ∧ ∃ G', Gr G H G' H' ∧ Same G3 G' ∧ MuD K G' H' a [], ⟨b3, b4, rfl, G3, g2.trans g3, Same.refl _, m2.gr g3⟩, fun i σ' H' ⟨_, _, _, G', g', s', _⟩ => s'.trans g'.gh, ?_, ?_⟩
      · rintro j dj uj σ' H' hdj hq ⟨b3, b4, rfl, G4, g4, s4, m4⟩
        rw [List.getElem?_map] at hdj
        obtain ⟨r, hr, rfl⟩ := Option.map_eq_some_iff.mp hdj
        have hrm := List.mem_of_getElem? hr
        refine tg_two uj G4 H' g4.gh (hq.up s4) _ ?_
        rintro σ2 ⟨vl, vr, h1, h2, rfl⟩
        obtain ⟨ws, k1, k2, k3⟩ := m4.ex
        refine Exists.intro (V.ref a) (And.intro rfl (And.intro (Or.inr (Or.inr (Or.inl ⟨rfl, Or.inl ⟨_, k1⟩⟩))) ?_))
        refine (ev_dc1 (j := 5) (ev_var (i := 4) rfl h2) (.tup _) (by rw [List.length_map]; have := (hs2 _ hm).2 _ hrm; omega) (fun _ => false) (fun _ => ("" : Str)) (fun _ => .bl true) (fun _ => rfl) (fun di u2 G5 hdm e5 hu2 => ?_) (fun _ _ _ _ _ _ z => by cases z) (fun _ _ _ _ _ _ z => by cases z)) H' g4.gh _ fun vo G5 H5 g5 hvo => ?_
        · obtain ⟨n, hn, rfl⟩ := List.mem_map.mp hdm
          exact (eb_test (ev_dnotin (ev_var rfl hu2) (ev_var rfl (hv.up (g1.g.trans (s2.trans (g3.g.trans (s4.trans e5)))))))).is (by rw [hc _ hm _ hrm n hn]; rfl)
        rw [dFold_none] at hvo
        cases hvo with
        | @dic o ob ws2 _ hr hk hs =>
          cases ws2 with
          | cons a b => cases hk
          | nil =>
            have k1' := g5.h _ _ k1
            have k2' := g5.apart k1 k2
            exact Exists.intro a (Exists.intro o (Exists.intro ws ⟨rfl, rfl, (ne_of_none hr k2').symm, k1', .inr ⟨_, g5.gh _ _ hr⟩, ⟨_, _, rfl, G5, gr_upd (g4.trans g5) ha k2', s4.trans g5.g, ⟨ws, upd_same, k2', k3.up g5.g⟩⟩⟩))
      · rintro σ' H' ⟨b3, b4, rfl, G4, g4, s4, m4⟩
        exact ⟨_, _, _, rfl, G4, g4, s2.trans (g3.g.trans s4), m4⟩
    · rintro σ' H' ⟨b2, b3, b4, rfl, G2, g2, s2, m2⟩
      obtain ⟨ws, k1, k2, k3⟩ := m2.ex
      have k3l := k3.len
      have hw : ws = [] := List.eq_nil_of_length_eq_zero k3l
      subst hw
      refine Exists.intro (V.ref a) (And.intro rfl ⟨a, [], [], rfl, .inl k1, rfl, by decide, fun ys p hp hs hn => ?_⟩)
      have hy : ys = [] := hp.eq_nil
      subst hy
      exact q _ _ _ (g2.trans (Gr.new g2.gh hn)) (.lst (.inl upd_same) .nil)

end
end T47
/-! Norms: the plain law of norms_in. -/
namespace T47
open PySem PySem.Spec PyProof.Rows L2 Pk
abbrev FN := List (Str × Nat)
def lookN (F : FN) (x : Str) : Option Nat := (F.find? fun p => decide (p.1 = x)).map (·.2)
def putN (F : FN) (k : Str) (v : Nat) : FN := if (F.any fun kv => decide (kv.1 = k)) = true then F.map (fun kv => if kv.1 = k then (kv.1, v) else kv) else F ++ [(k, v)]
def fD (F : FN) : List (Str × D) := F.map fun p => (p.1, .int (p.2 : Nat))
theorem lookN_cons (p : Str × Nat) (F : FN) (x : Str) : lookN (p :: F) x = if p.1 = x then some p.2 else lookN F x := by
  unfold lookN
  rw [List.find?_cons]
  by_cases h : p.1 = x <;> simp [h]
theorem lookD_fD : ∀ (F : FN) (x : Str), lookD (fD F) x = (lookN F x).map fun n => D.int (n : Nat)
  | [], _ => rfl
  | p :: F, x => by
    show lookD ((p.1, D.int (p.2 : Nat)) :: fD F) x = _
    rw [lookD_cons, lookN_cons, lookD_fD F x]
    by_cases h : p.1 = x <;> simp [h]
theorem putD_fD (F : FN) (k : Str) (v : Nat) : putD (fD F) k (.int (v : Nat)) = fD (putN F k v) := by
  have e : ((fD F).any fun kv => decide (kv.1 = k)) = F.any fun kv => decide (kv.1 = k) := by
    unfold fD
    rw [List.any_map]
    rfl
  unfold putD putN
  rw [e]
  split
  · unfold fD
    rw [List.map_map, List.map_map]
    refine List.map_congr_left fun p _ => ?_
    by_cases h : p.1 = k <;> simp [h]
  · unfold fD
    rw [List.map_append]
    rfl
theorem lookN_put (F : FN) (k x : Str) (v : Nat) : lookN (putN F k v) x = if x = k then some v else lookN F x := by
  unfold putN
  split
  · rename_i h
    have : ∀ F : FN, lookN (F.map (fun kv => if kv.1 = k then (kv.1, v) else kv)) x = if x = k then (if (F.any fun kv => decide (kv.1 = k)) = true then some v else none) else lookN F x := by
      intro F
      induction F with
      | nil => simp [lookN]
      | cons p F ih =>
        rw [List.map_cons, lookN_cons, ih, lookN_cons]
        by_cases h1 : p.1 = k
        · by_cases h2 : x = k
          · subst h2; simp [h1]
          · have h3 : ¬ p.1 = x := fun z => h2 (by rw [← z, h1])
            have h4 : ¬ k = x := fun z => h2 z.symm
            simp [h1, h2, h4]
        · by_cases h2 : x = k
          · subst h2
            simp only [if_true, List.any_cons, Bool.or_eq_true, decide_eq_true_eq, h1, false_or, if_false]
          · simp [h1, h2]
    rw [this, if_pos h]
  · rename_i h
    have hn : lookN F k = none := by
      unfold lookN
      rw [List.find?_eq_none.mpr fun p hp => by
        have := h
        simp only [List.any_eq_true, not_exists, not_and] at this
        simpa using this p hp]
      rfl
    have : ∀ F : FN, lookN F k = none → lookN (F ++ [(k, v)]) x = if x = k then some v else lookN F x := by
      intro F
      induction F with
      | nil =>
        intro _
        by_cases h2 : x = k
        · subst h2; simp [lookN]
        · have h3 : ¬ k = x := fun z => h2 z.symm
          simp [lookN, h2, h3]
      | cons p F ih =>
        intro hn
        rw [lookN_cons] at hn
        by_cases h1 : p.1 = k
        · rw [if_pos h1] at hn; cases hn
        · rw [if_neg h1] at hn
          rw [List.cons_append, lookN_cons, ih hn, lookN_cons]
          by_cases h2 : x = k
          · subst h2; simp [h1]
          · simp [h2]
    exact this F hn
def allIn (F : FN) (row : List Str) : Bool := row.all fun o => (lookN F o).isSome
def sumOf (F : FN) (row : List Str) : Nat := (row.map fun o => (lookN F o).getD 0).sum
def better (F : FN) (n : Str) (many : Nat) : Bool := match lookN F n with
  | none => true
  | some v => decide (many < v)
def stepN (n : Str) (s : FN × Bool) (r : Rule) : FN × Bool := if (allIn s.1 r.2 && better s.1 n (1 + sumOf s.1 r.2)) = true then (putN s.1 n (1 + sumOf s.1 r.2), true) else s
def stepsN (s : FN × Bool) (p : Str × List Rule) : FN × Bool := p.2.foldl (stepN p.1) s
def passN (b : Kept) (s : FN × Bool) : FN × Bool := b.foldl stepsN s
theorem stepN_flag {n : Str} {s : FN × Bool} {r : Rule} (h : s.2 = true) : (stepN n s r).2 = true := by
  unfold stepN
  split
  · rfl
  · exact h
theorem stepN_or (n : Str) (s : FN × Bool) (r : Rule) : stepN n s r = s ∨ ((allIn s.1 r.2 && better s.1 n (1 + sumOf s.1 r.2)) = true ∧ stepN n s r = (putN s.1 n (1 + sumOf s.1 r.2), true)) := by
  unfold stepN
  split
  · rename_i h
    exact .inr ⟨h, rfl⟩
  · exact .inl rfl
/-! ### the measure -/
def lackN (b : Kept) (F : FN) : Nat := b.countP fun p => !(lookN F p.1).isSome
def sumN (b : Kept) (F : FN) : Nat := (b.map fun p => (lookN F p.1).getD 0).sum
def LessN (b : Kept) (F F' : FN) : Prop := lackN b F < lackN b F' ∨ (lackN b F = lackN b F' ∧ sumN b F < sumN b F')
theorem LessN.trans {b : Kept} {F F' F'' : FN} (h : LessN b F F') (h' : LessN b F' F'') : LessN b F F'' := by
  unfold LessN at *
  omega
theorem count_le {α : Type} {p q : α → Bool} {l : List α} (h : ∀ x ∈ l, p x = true → q x = true) : l.countP p ≤ l.countP q := List.countP_mono_left h
theorem count_lt {α : Type} {p q : α → Bool} : ∀ {l : List α}, (∀ x ∈ l, p x = true → q x = true) → (∃ x ∈ l, p x = false ∧ q x = true) → l.countP p < l.countP q
  | [], _, ⟨x, hx, _⟩ => by cases hx
  | a :: l, h, ⟨x, hx, h1, h2⟩ => by
    have hl : ∀ x ∈ l, p x = true → q x = true := fun x hx => h x (by simp [hx])
    rw [List.countP_cons, List.countP_cons]
    rcases List.mem_cons.mp hx with e | hx
    · subst e
      have := count_le hl
      rw [h1, h2]
      simp
      omega
    · have := count_lt hl ⟨x, hx, h1, h2⟩
      by_cases ha : p a = true
      · rw [ha, h a (by simp) ha]; simp; omega
      · cases hq : q a <;> simp [ha] <;> omega
theorem sum_le {α : Type} {f g : α → Nat} : ∀ {l : List α}, (∀ x ∈ l, f x ≤ g x) → (l.map f).sum ≤ (l.map g).sum
  | [], _ => Nat.le_refl _
  | a :: l, h => by
    rw [List.map_cons, List.map_cons, List.sum_cons, List.sum_cons]
    exact Nat.add_le_add (h a (by simp)) (sum_le fun x hx => h x (by simp [hx]))
theorem sum_lt {α : Type} {f g : α → Nat} : ∀ {l : List α}, (∀ x ∈ l, f x ≤ g x) → (∃ x ∈ l, f x < g x) → (l.map f).sum < (l.map g).sum
  | [], _, ⟨x, hx, _⟩ => by cases hx
  | a :: l, h, ⟨x, hx, h1⟩ => by
    rw [List.map_cons, List.map_cons, List.sum_cons, List.sum_cons]
    rcases List.mem_cons.mp hx with e | hx
    · subst e
      exact Nat.add_lt_add_of_lt_of_le h1 (sum_le fun x hx => h x (by simp [hx]))
    · exact Nat.add_lt_add_of_le_of_lt (h a (by simp)) (sum_lt (fun x hx => h x (by simp [hx])) ⟨x, hx, h1⟩)
theorem put_less {b : Kept} {F : FN} {n : Str} {v : Nat} (hn : ∃ p ∈ b, p.1 = n) (h : better F n v = true) : LessN b (putN F n v) F := by
  obtain ⟨p, hp, hpn⟩ := hn
  unfold better at h
  cases e : lookN F n with
  | none =>
    refine .inl (count_lt (fun x _ h => ?_) ⟨p, hp, ?_, ?_⟩)
    · rw [lookN_put] at h
      by_cases hx : x.1 = n
      · rw [if_pos hx] at h; cases h
      · rwa [if_neg hx] at h
    · rw [lookN_put, if_pos hpn]; rfl
    · rw [hpn, e]; rfl
  | some u =>
    rw [e] at h
    have hlt : v < u := of_decide_eq_true h
    refine .inr ⟨Nat.le_antisymm (count_le fun x _ h => ?_) (count_le fun x _ h => ?_), sum_lt (fun x _ => ?_) ⟨p, hp, ?_⟩⟩
    · rw [lookN_put] at h
      by_cases hx : x.1 = n
      · rw [if_pos hx] at h; cases h
      · rwa [if_neg hx] at h
    · rw [lookN_put]
      by_cases hx : x.1 = n
      · rw [hx, e] at h; cases h
      · rwa [if_neg hx]
    · rw [lookN_put]
      by_cases hx : x.1 = n
      · rw [if_pos hx, hx, e]; exact Nat.le_of_lt hlt
      · rw [if_neg hx]; exact Nat.le_refl _
    · rw [lookN_put, if_pos hpn, hpn, e]; exact hlt
/-- what a pass does: nothing, or it makes less -/
def Went (b : Kept) (s s' : FN × Bool) : Prop := s' = s ∨ (s'.2 = true ∧ LessN b s'.1 s.1)
theorem Went.trans {b : Kept} {s s' s'' : FN × Bool} (h : Went b s s') (h' : Went b s' s'') : Went b s s'' := by
  rcases h with h | ⟨h1, h2⟩
  · rw [← h]; exact h'
  · rcases h' with h' | ⟨h3, h4⟩
    · rw [h']; exact .inr ⟨h1, h2⟩
    · exact .inr ⟨h3, h4.trans h2⟩
theorem stepN_went {b : Kept} {n : Str} {s : FN × Bool} {r : Rule} (hn : ∃ p ∈ b, p.1 = n) : Went b s (stepN n s r) := by
  rcases stepN_or n s r with h | ⟨h, e⟩
  · exact .inl h
  · rw [e]
    exact .inr ⟨rfl, put_less hn (Bool.and_eq_true_iff.mp h).2⟩
theorem stepsN_went {b : Kept} {p : Str × List Rule} (hp : p ∈ b) : ∀ (rs : List Rule) (s : FN × Bool), Went b s (rs.foldl (stepN p.1) s)
  | [], s => .inl rfl
  | r :: rs, s => by
    rw [List.foldl_cons]
    exact (stepN_went ⟨p, hp, rfl⟩).trans (stepsN_went hp rs _)
theorem passN_went {b : Kept} : ∀ (ps : List (Str × List Rule)), (∀ p ∈ ps, p ∈ b) → ∀ s : FN × Bool, Went b s (ps.foldl stepsN s)
  | [], _, s => .inl rfl
  | p :: ps, h, s => by
    rw [List.foldl_cons]
    exact (stepsN_went (h p (by simp)) p.2 s).trans (passN_went ps (fun q hq => h q (by simp [hq])) _)
/-- from F the passes come to an end after m more -/
inductive Runs (b : Kept) : FN → Nat → Prop
  | stop {F : FN} : (passN b (F, false)).2 = false → Runs b F 0
  | more {F : FN} {m : Nat} : (passN b (F, false)).2 = true → Runs b (passN b (F, false)).1 m → Runs b F (m + 1)
theorem runs_ex (b : Kept) : ∀ F : FN, ∃ m, Runs b F m := by
  have main : ∀ A B : Nat, ∀ F : FN, lackN b F = A → sumN b F = B → ∃ m, Runs b F m := by
    intro A
    induction A using Nat.strongRecOn with
    | ind A ihA =>
      intro B
      induction B using Nat.strongRecOn with
      | ind B ihB =>
        intro F hA hB
        rcases passN_went b (fun _ h => h) (F, false) with h | ⟨h1, h2⟩
        · exact ⟨0, .stop (by show (b.foldl stepsN (F, false)).2 = false; rw [h])⟩
        · rcases h2 with h2 | ⟨h2, h3⟩
          · obtain ⟨m, hm⟩ := ihA _ (by rw [← hA]; exact h2) _ _ rfl rfl
            exact ⟨m + 1, .more h1 hm⟩
          · obtain ⟨m, hm⟩ := ihB _ (by rw [← hB]; exact h3) _ (by rw [← hA]; exact h2) rfl
            exact ⟨m + 1, .more h1 hm⟩
  exact fun F => main _ _ F rfl rfl
/-- where a pass changes nothing -/
def FixN (b : Kept) (F : FN) : Prop := ∀ p ∈ b, ∀ r ∈ p.2, (allIn F r.2 && better F p.1 (1 + sumOf F r.2)) = false
theorem steps_fix {n : Str} : ∀ (rs : List Rule) (F : FN), (rs.foldl (stepN n) (F, false)).2 = false → (rs.foldl (stepN n) (F, false)) = (F, false) ∧ ∀ r ∈ rs, (allIn F r.2 && better F n (1 + sumOf F r.2)) = false
  | [], F, _ => ⟨rfl, fun _ h => nomatch h⟩
  | r :: rs, F, h => by
    rw [List.foldl_cons] at h ⊢
    rcases stepN_or n (F, false) r with e | ⟨h1, e⟩
    · rw [e] at h ⊢
      obtain ⟨a1, a2⟩ := steps_fix rs F h
      refine ⟨a1, fun r' hr => ?_⟩
      rcases List.mem_cons.mp hr with e' | hr
      · subst e'
        cases q : (allIn F r'.2 && better F n (1 + sumOf F r'.2)) with
        | false => rfl
        | true =>
          unfold stepN at e
          rw [if_pos q] at e
          exact absurd (congrArg Prod.snd e) (by simp)
      · exact a2 r' hr
    · have : ∀ (rs : List Rule) (s : FN × Bool), s.2 = true → (rs.foldl (stepN n) s).2 = true := by
        intro rs
        induction rs with
        | nil => intro s h; exact h
        | cons r rs ih => intro s h; rw [List.foldl_cons]; exact ih _ (stepN_flag h)
      rw [this rs _ (by rw [e])] at h
      cases h
theorem pass_fix {ps : List (Str × List Rule)} : ∀ {F : FN}, (ps.foldl stepsN (F, false)).2 = false → (ps.foldl stepsN (F, false)) = (F, false) ∧ ∀ p ∈ ps, ∀ r ∈ p.2, (allIn F r.2 && better F p.1 (1 + sumOf F r.2)) = false := by
  induction ps with
  | nil => intro F _; exact ⟨rfl, fun _ h => nomatch h⟩
  | cons p ps ih =>
    intro F h
    rw [List.foldl_cons] at h ⊢
    cases q : (stepsN (F, false) p).2 with
    | false =>
      obtain ⟨a1, a2⟩ := steps_fix p.2 F q
      have e : stepsN (F, false) p = (F, false) := a1
      rw [e] at h ⊢
      obtain ⟨b1, b2⟩ := ih h
      refine ⟨b1, fun p' hp => ?_⟩
      rcases List.mem_cons.mp hp with e' | hp
      · subst e'; exact a2
      · exact b2 p' hp
    | true =>
      have : ∀ (ps : List (Str × List Rule)) (s : FN × Bool), s.2 = true → (ps.foldl stepsN s).2 = true := by
        intro ps
        induction ps with
        | nil => intro s h; exact h
        | cons p ps ih =>
          intro s h
          rw [List.foldl_cons]
          refine ih _ ?_
          have : ∀ (rs : List Rule) (s : FN × Bool), s.2 = true → (rs.foldl (stepN p.1) s).2 = true := by
            intro rs
            induction rs with
            | nil => intro s h; exact h
            | cons r rs ih => intro s h; rw [List.foldl_cons]; exact ih _ (stepN_flag h)
          exact this p.2 s h
      rw [this ps _ q] at h
      cases h
/-- what some word finishes -/
inductive Ends (b : Kept) : Str → Prop
  | mk {n : Str} {rs : List Rule} {r : Rule} : (n, rs) ∈ b → r ∈ rs → (∀ o ∈ r.2, Ends b o) → Ends b n
theorem fix_ends {b : Kept} {F : FN} (h : FixN b F) {n : Str} (e : Ends b n) : (lookN F n).isSome = true := by
  induction e with
  | @mk n rs r h1 h2 _ ih =>
    have z := h _ h1 r h2
    have ha : allIn F r.2 = true := List.all_eq_true.mpr fun o ho => ih o ho
    rw [ha, Bool.true_and] at z
    unfold better at z
    cases q : lookN F n with
    | none =>
      have z' : (match lookN F n with | none => true | some v => decide (1 + sumOf F r.2 < v)) = false := z
      rw [q] at z'
      cases z'
    | some v => rfl
end T47
/-! norms_in. -/
namespace T47
open PySem PySem.Spec PyProof.Rows L2 Pk
section
variable {P : Program} {w : World} {K : PySem.W.Frag} {mg : Str → Option Value} {base : Heap}
def sp_norms_in (K : PySem.W.Frag) : Sp := spP K fun ds p => ∃ x, ds = [x, .dic []] ∧ ∃ b, x = .dic (keptD_ b) ∧ sized b ∧ p = fun d => ∃ F, d = .dic (fD F) ∧ FixN b F
theorem putN_len (F : FN) (k : Str) (v : Nat) : (putN F k v).length = F.length ∨ ((putN F k v).length = F.length + 1 ∧ lookN F k = none) := by
  unfold putN
  split
  · exact .inl (List.length_map _)
  · rename_i h
    refine .inr ⟨by simp, ?_⟩
    unfold lookN
    rw [List.find?_eq_none.mpr fun p hp => by
      have := h
      simp only [List.any_eq_true, not_exists, not_and] at this
      simpa using this p hp]
    rfl
theorem put_room {b : Kept} {F : FN} {n : Str} {v B : Nat} (hn : ∃ p ∈ b, p.1 = n) (h : F.length + lackN b F ≤ B) : (putN F n v).length + lackN b (putN F n v) ≤ B := by
  obtain ⟨p, hp, hpn⟩ := hn
  have le : lackN b (putN F n v) ≤ lackN b F := count_le fun x _ hx => by
    rw [lookN_put] at hx
    by_cases e : x.1 = n
    · rw [if_pos e] at hx; cases hx
    · rwa [if_neg e] at hx
  rcases putN_len F n v with e | ⟨e, e2⟩
  · omega
  · have lt : lackN b (putN F n v) < lackN b F := count_lt (fun x _ hx => by
      rw [lookN_put] at hx
      by_cases e : x.1 = n
      · rw [if_pos e] at hx; cases hx
      · rwa [if_neg e] at hx) ⟨p, hp, by rw [lookN_put, if_pos hpn]; rfl, by rw [hpn, e2]; rfl⟩
    omega
theorem step_room {b : Kept} {s : FN × Bool} {n : Str} {r : Rule} {B : Nat} (hn : ∃ p ∈ b, p.1 = n) (h : s.1.length + lackN b s.1 ≤ B) : (stepN n s r).1.length + lackN b (stepN n s r).1 ≤ B := by
  rcases stepN_or n s r with e | ⟨_, e⟩
  · rw [e]; exact h
  · rw [e]; exact put_room hn h
def nOf (F : FN) : D → D
  | .str x => .int ((lookN F x).getD 0 : Nat)
  | _ => .non
def hasOf (F : FN) : D → Bool
  | .str x => (lookN F x).isSome
  | _ => false
theorem fold_next {α β : Type} {f : β → α → β} {l : List α} {i : Nat} {x : α} (s : β) (h : l[i]? = some x) : (l.take (i + 1)).foldl f s = f ((l.take i).foldl f s) x := by
  rw [take_next h, List.foldl_append]
  rfl
theorem sum_ints (F : FN) : ∀ row : List Str, (row.map fun o => (((lookN F o).getD 0 : Nat) : Int)).sum = ((sumOf F row : Nat) : Int)
  | [] => rfl
  | o :: row => by
    unfold sumOf
    rw [List.map_cons, List.map_cons, List.sum_cons, List.sum_cons, sum_ints F row]
    unfold sumOf
    omega

theorem sc_norms_in : FnScope ["rules", "known", "found", "is_more", "name", "some", "letter", "row", "many", "one"] ["rules", "known"] (defScope T47.s_norms_in) := ⟨rfl, rfl, rfl, by decide +kernel, rfl, by decide +kernel, by decide +kernel⟩
theorem has_norms_in (T : Tx w K mg) : Has P w K mg base CX0 "norms_in" 1 ["rules", "known"] (sp_norms_in K) := by
  obtain ⟨fd, F⟩ := T.def_ 20
  have gm := T.glo (x := "norms_in") 34
  have z_all := T.free (x := "all") 81
  have z_dict := T.free (x := "dict") 83
  have z_sum := T.free (x := "sum") 94
  have nd := sc_norms_in.nd
  refine has_of F gm sc_norms_in (fun _ _ _ _ _ _ us hl => match us, hl with | [_, _], _ => rfl) (fun vs H Q E h => ?_) (fun cdv A outer s H vs Q E hr h => ?_)
  · exact spP_len h (fun ds p ⟨x, e, _⟩ => by rw [e]; rfl)
  · obtain ⟨G, ds, p, e, hds, ⟨x, rfl, b, rfl, ⟨hs1, hs2⟩, rfl⟩, q⟩ := h
    cases hds with
    | cons hv hds =>
    cases hds with
    | cons hk hds =>
    cases hds
    rename_i v vk
    refine ⟨_, (pss_cons (ps_asg (pe_tup (pa_cons (pe_callTy (call_dictD) rfl z_dict (by decide +kernel) (pa_cons (pv 1) pa_nil)) (pa_cons pe_bl pa_nil))) (pg_tup rfl (pgs_cons (pg_name (i := 2) nd rfl (Or.inr rfl)) (pgs_cons (pg_name (i := 3) nd rfl (Or.inl rfl)) pgs_nil))))
        (pss_cons (ps_while PassesOwn.never (pt_val (pv 3)) (pss_cons (ps_set (i := 3) nd rfl (Or.inl rfl) pe_bl)
        (pss_one (ps_for PassesOwn.never rfl (pi_items (pv 0)) (pg_tup rfl (pgs_cons (pg_name (i := 4) nd rfl (Or.inl rfl)) (pgs_cons (pg_name (i := 5) nd rfl (Or.inl rfl)) pgs_nil)))
        (pss_one (ps_for PassesOwn.never rfl (pi_seq (pv 5)) (pg_tup rfl (pgs_cons (pg_name (i := 6) nd rfl (Or.inl rfl)) (pgs_cons (pg_name (i := 7) nd rfl (Or.inl rfl)) pgs_nil)))
        (pss_one (ps_if (pt_val (pe_callB (cr_all rfl) rfl z_all (by decide +kernel) (pa_cons (pe_lc (own := [("one", 9)]) (g := gName 9) (tt := tYes) rfl nd (pi_seq (pv 7)) (blkOk_by (own := [("one", 9)]) (N := ["rules", "known", "found", "is_more", "name", "some", "letter", "row", "many", "one"]) (sc := (defScope T47.s_norms_in)) (by decide +kernel)) (fun _ _ _ _ _ => (pg_name (i := 9) nd rfl (Or.inl rfl))) (fun _ _ _ _ _ => pts_nil) (fun _ _ _ _ _ => (pe_cmp (pc_din (hu_of hr) (pv 9) (pv 2)) rfl))) pa_nil))) (pss_cons (ps_set (i := 8) nd rfl (Or.inl rfl) (pe_op op_add pe_int (pe_callB (cr_sum rfl) rfl z_sum (by decide +kernel) (pa_cons (pe_lc (own := [("one", 9)]) (g := gName 9) (tt := tYes) rfl nd (pi_seq (pv 7)) (blkOk_by (own := [("one", 9)]) (N := ["rules", "known", "found", "is_more", "name", "some", "letter", "row", "many", "one"]) (sc := (defScope T47.s_norms_in)) (by decide +kernel)) (fun _ _ _ _ _ => (pg_name (i := 9) nd rfl (Or.inl rfl))) (fun _ _ _ _ _ => pts_nil) (fun _ _ _ _ _ => (pe_dget (hu_of hr) (pv 2) (pv 9) (fun _ _ => rfl)))) pa_nil))))
        (pss_one (ps_if (PW.pt (pw_or (pt_cmp (pc_dnotin (hu_of hr) (pv 4) (pv 2))) (pw_or1 (pt_cmpR op_lt (pv 8) (pe_dget (hu_of hr) (pv 2) (pv 4) (fun _ _ => rfl)) (nomark _))))) (pss_one (ps_asg (pe_tup (pa_cons (pv 8) (pa_cons pe_bl pa_nil))) (pg_tup rfl (pgs_cons (pg_sub (pv 2) (pv 4) (set_dk (hu_of hr))) (pgs_cons (pg_name (i := 3) nd rfl (Or.inl rfl)) pgs_nil))))) pss_nil))) pss_nil))))))))
        (pss_one (ps_ret (pe_frz (pv 2)))))), ?_⟩
    cases hk with
    | @dic ak ok wk _ hkr hkk hks =>
    have hw0 : wk = [] := by
      cases wk with
      | nil => rfl
      | cons a b => cases hkk
    subst hw0
    refine Exists.intro (V.ref ak) (And.intro rfl ⟨ak, [], rfl, .inr ⟨_, e _ _ hkr⟩, fun a ha => ⟨by show 2 ≤ sizeLine; decide, fun T hT => ?_⟩⟩)
    have e0 : Gr G H G (upd H a (.dK [])) := Gr.ov e ha
    have ga : G a = none := same_none e ha
    have e1 : Gr G H G (upd (upd H a (.dK [])) T (.tup [.ref a, .bl true])) := e0.trans (Gr.ov e0.gh hT)
    have aT : a ≠ T := ne_of_none upd_same hT
    refine Exists.intro T (Exists.intro _ ⟨rfl, .inl (.inl upd_same), rfl, _, _, rfl, _, _, rfl, rfl, ?_⟩)
    have m1 : MuD K G (upd (upd H a (.dK [])) T (.tup [.ref a, .bl true])) a (fD []) := ⟨[], by rw [upd_ne aT, upd_same], ga, rfl, .nil⟩
    obtain ⟨m0, hm0⟩ := runs_ex b []
    refine Exists.intro (fun m σ' H' => ∃ fl b4 b5 b6 b7 b8 F G', σ' = [some v, some (.ref ak), some (.ref a), some (.bl fl), b4, b5, b6, b7, b8, none] ∧ Gr G H G' H' ∧ MuD K G' H' a (fD F) ∧ F.length + lackN b F ≤ 60 ∧ ((fl = true ∧ ∃ k, m = k + 1 ∧ Runs b F k) ∨ (fl = false ∧ m = 0 ∧ FixN b F)))
      (And.intro ⟨m0 + 1, true, none, none, none, none, none, [], G, rfl, e1, m1, ?_, .inl ⟨rfl, m0, rfl, hm0⟩⟩ ?_)
    · have : lackN b [] ≤ b.length := List.countP_le_length
      simp only [List.length_nil]
      omega
    rintro m σ' H' ⟨fl, b4, b5, b6, b7, b8, F, G', rfl, g', m', hroom, hcase⟩
    refine Exists.intro (V.bl fl) (And.intro rfl (Exists.intro fl (And.intro rfl ?_)))
    rcases hcase with ⟨rfl, k, rfl, hrun⟩ | ⟨rfl, rfl, hfix⟩
    · refine iteT (Exists.intro (fun σ2 H2 => ∃ b4 b5 b6 b7 b8 G2, σ2 = [some v, some (.ref ak), some (.ref a), some (.bl (passN b (F, false)).2), b4, b5, b6, b7, b8, none] ∧ Gr G H G2 H2 ∧ MuD K G2 H2 a (fD (passN b (F, false)).1) ∧ (passN b (F, false)).1.length + lackN b (passN b (F, false)).1 ≤ 60) (And.intro ?_ ?_))
      · rintro σ2 H2 ⟨b4, b5, b6, b7, b8, G2, rfl, g2, m2, r2⟩
        cases hrun with
        | stop h =>
          have hp := pass_fix (ps := b) (F := F) h
          have e2 : passN b (F, false) = (F, false) := hp.1
          rw [e2] at m2 r2 ⊢
          exact ⟨0, Nat.succ_pos _, false, b4, b5, b6, b7, b8, F, G2, rfl, g2, m2, r2, .inr ⟨rfl, rfl, hp.2⟩⟩
        | @more _ k' h hr =>
          rw [h]
          exact ⟨k' + 1, Nat.lt_succ_self _, true, b4, b5, b6, b7, b8, _, G2, rfl, g2, m2, r2, .inl ⟨rfl, k', rfl, hr⟩⟩
      · -- one pass
        refine f_items (ev_var (i := 0) rfl (hv.up g'.g)) g'.gh fun G1 H1 g1 => ?_
        refine ⟨fun i σ2 H2 => ∃ b4 b5 b6 b7 b8 G2, σ2 = [some v, some (.ref ak), some (.ref a), some (.bl ((b.take i).foldl stepsN (F, false)).2), b4, b5, b6, b7, b8, none] ∧ Gr G H G2 H2 ∧ Same G1 G2 ∧ MuD K G2 H2 a (fD ((b.take i).foldl stepsN (F, false)).1) ∧ ((b.take i).foldl stepsN (F, false)).1.length + lackN b ((b.take i).foldl stepsN (F, false)).1 ≤ 60,
          ⟨b4, b5, b6, b7, b8, G1, rfl, g'.trans g1, Same.refl _, m'.gr g1, hroom⟩, fun i σ2 H2 ⟨_, _, _, _, _, G2, _, g2, s2, _⟩ => s2.trans g2.gh, ?_, ?_⟩
        · rintro i n di u T2 σ2 H2 hdi hu ⟨b4, b5, b6, b7, b8, G2, rfl, g2, s2, m2, r2⟩ hT2
          obtain ⟨rs, hb, rfl⟩ := kept_at hdi
          have hm := List.mem_of_getElem? hb
          have eN := fold_next (f := stepsN) (F, false) hb
          generalize hs0 : (b.take i).foldl stepsN (F, false) = s0 at m2 r2 eN ⊢
          have gT : Gr G2 H2 G2 (upd H2 T2 (.tup [.str n, u])) := Gr.ov g2.gh hT2
          refine f_seq (ev_var (i := 5) rfl (hu.up s2)) (.lst _) gT.gh fun G3 H3 g3 => ?_
          have g3' := gT.trans g3
          refine ⟨fun j σ2 H2 => ∃ b6 b7 b8 G4, σ2 = [some v, some (.ref ak), some (.ref a), some (.bl ((rs.take j).foldl (stepN n) s0).2), some (.str n), some u, b6, b7, b8, none] ∧ Gr G H G4 H2 ∧ Same G3 G4 ∧ MuD K G4 H2 a (fD ((rs.take j).foldl (stepN n) s0).1) ∧ ((rs.take j).foldl (stepN n) s0).1.length + lackN b ((rs.take j).foldl (stepN n) s0).1 ≤ 60,
            ⟨b6, b7, b8, G3, rfl, g2.trans g3', Same.refl _, m2.gr g3', r2⟩, fun i σ2 H2 ⟨_, _, _, G4, _, g4, s4, _⟩ => s4.trans g4.gh, ?_, ?_⟩
          · rintro j dj uj σ2 H4 hdj hq ⟨b6, b7, b8, G4, rfl, g4, s4, m4, r4⟩
            rw [List.getElem?_map] at hdj
            obtain ⟨r, hr, rfl⟩ := Option.map_eq_some_iff.mp hdj
            have hrm := List.mem_of_getElem? hr
            have hrl : r.2.length ≤ 1000 := (hs2 _ hm).2 _ hrm
            have eJ := fold_next (f := stepN n) s0 hr
            have rNext := step_room (r := r) ⟨_, hm, rfl⟩ r4
            generalize hsj : (rs.take j).foldl (stepN n) s0 = s at m4 r4 rNext eJ ⊢
            refine tg_two uj G4 H4 g4.gh (hq.up s4) _ ?_
            rintro σ3 ⟨vl, vr, h1, h2, rfl⟩
            obtain ⟨ws, k1, k2, k3⟩ := m4.ex
            have rowL : (r.2.map D.str).length < 50000 := by rw [List.length_map]; omega
            have row_up : Same G4 (upd G4 a (.dK ws)) := same_new k2
            refine mu_eb (b := allIn s.1 r.2) k2 k1 g4.gh ((eb_B (ev_all1 (ev_var rfl (h2.up row_up)) (.tup _) rowL (hasOf s.1) (fun _ => rfl) fun di u G5 hdm e5 hu => ?_)).is ?_) fun G5 H5 g5 k1' k2' => ?_
            · obtain ⟨o, ho, rfl⟩ := List.mem_map.mp hdm
              exact (ev_dinM (fun H _ Q q => ev_here rfl H Q q) (e5 _ _ upd_same) (k3.up (row_up.trans e5)) (ev_var rfl hu)).is (by rw [lookD_fD]; simp [hasOf])
            · rw [List.all_map]
              rfl
            have g45 := g4.trans g5
            cases hall : allIn s.1 r.2 with
            | false =>
              have es : stepN n s r = s := by unfold stepN; rw [hall]; rfl
              rw [es] at eJ
              refine iteF ⟨some vl, some vr, b8, G5, ?_, g45, s4.trans g5.g, ?_, ?_⟩
              · rw [eJ]; rfl
              · rw [eJ]; exact ⟨ws, k1', k2', k3.up g5.g⟩
              · rw [eJ]; exact r4
            | true =>
              refine iteT ?_
              have k3' := k3.up g5.g
              have row_up' : Same G5 (upd G5 a (.dK ws)) := same_new k2'
              refine mu_ev (d := .int ((1 + sumOf s.1 r.2 : Nat) : Int)) k2' k1' g5.gh ((ev_I0 ev_int (ev_sum (bs := r.2.map fun o => (((lookN s.1 o).getD 0 : Nat) : Int)) ((ev_lc1 (ev_var rfl ((h2.up g5.g).up row_up')) (.tup _) rowL (nOf s.1) (fun _ => rfl) fun di u G6 hdm e6 hu => ?_).is ?_)) (.int _)).is ?_) (hides_scal rfl) fun v6 G6 H6 g6 hv6 k1'' k2'' => ?_
              · obtain ⟨o, ho, rfl⟩ := List.mem_map.mp hdm
                have hso := List.all_eq_true.mp hall o ho
                obtain ⟨z, hz⟩ := Option.isSome_iff_exists.mp hso
                refine (ev_dgetM (fun H _ Q q => ev_here rfl H Q q) (e6 _ _ upd_same) (k3'.up (row_up'.trans e6)) (ev_var rfl hu) (d := .int (z : Nat)) (by rw [lookD_fD, hz]; rfl)).is ?_
                show D.int _ = D.int _
                rw [hz]
                rfl
              · rw [List.map_map, List.map_map]
                rfl
              · rw [sum_ints]
                rfl
              cases hv6
              have g46 := g45.trans g6
              have k3'' := k3'.up g6.g
              have up6 : Same G6 (upd G6 a (.dK ws)) := same_new k2''
              refine mu_eb (b := better s.1 n (1 + sumOf s.1 r.2)) k2'' k1'' g6.gh ((eb_or (a := (lookN s.1 n).isNone) (b := better s.1 n (1 + sumOf s.1 r.2)) ((eb_test (ev_dnotinM (kvs := fD s.1) (fun H _ Q q => ev_here rfl H Q q) upd_same (k3''.up up6) (ev_var rfl (.str n)))).is ?_) fun hno => ?_).is ?_) fun G7 H7 g7 k1a k2a => ?_
              · rw [lookD_fD]
                cases lookN s.1 n <;> rfl
              · cases hlk : lookN s.1 n with
                | none => rw [hlk] at hno; cases hno
                | some z =>
                  refine (eb_test (ev_I0 (z := .bl (decide ((1 + sumOf s.1 r.2 : Nat) < z))) (ev_var rfl (.int _)) (ev_dgetM (kvs := fD s.1) (fun H _ Q q => ev_here rfl H Q q) upd_same (k3''.up up6) (ev_var rfl (.str n)) (d := .int (z : Nat)) (by rw [lookD_fD, hlk]; rfl)) ?_)).is ?_
                  · have : decide (((1 + sumOf s.1 r.2 : Nat) : Int) < ((z : Nat) : Int)) = decide ((1 + sumOf s.1 r.2 : Nat) < z) := by
                      rw [decide_eq_decide]; omega
                    rw [← this]
                    exact .bl _
                  · unfold better; rw [hlk]
              · unfold better
                cases lookN s.1 n <;> rfl
              have g47 := g46.trans g7
              have k3a := k3''.up g7.g
              cases hbt : better s.1 n (1 + sumOf s.1 r.2) with
              | false =>
                have es : stepN n s r = s := by unfold stepN; rw [hall, hbt]; rfl
                rw [es] at eJ
                refine iteF ⟨some vl, some vr, some (.int ((1 + sumOf s.1 r.2 : Nat) : Int)), G7, ?_, g47, s4.trans (g5.g.trans (g6.g.trans g7.g)), ?_, ?_⟩
                · rw [eJ]; rfl
                · rw [eJ]; exact ⟨ws, k1a, k2a, k3a⟩
                · rw [eJ]; exact r4
              | true =>
                have es : stepN n s r = (putN s.1 n (1 + sumOf s.1 r.2), true) := by unfold stepN; rw [hall, hbt]; rfl
                rw [es] at rNext eJ
                refine iteT (Exists.intro (V.int ((1 + sumOf s.1 r.2 : Nat) : Int)) (And.intro rfl ⟨by show 2 ≤ sizeLine; decide, fun T3 hT3 => ?_⟩))
                have aT3 : a ≠ T3 := ne_of_none k1a hT3
                have k1b : (upd H7 T3 (.tup [.int ((1 + sumOf s.1 r.2 : Nat) : Int), .bl true])) a = some (.dK ws) := by rw [upd_ne aT3]; exact k1a
                have wl : ws.length ≤ 60 := by
                  rw [k3a.len]
                  unfold fD
                  rw [List.length_map]
                  omega
                refine Exists.intro T3 (Exists.intro _ ⟨rfl, .inl (.inl upd_same), rfl, _, _, rfl, ?_⟩)
                refine Exists.intro (V.ref a) (And.intro rfl (Exists.intro (V.str n) (And.intro rfl ⟨a, _, rfl, DPut.k (k := Sum.inr n) k1b (Nat.lt_of_le_of_lt wl (by decide)), _, _, rfl, rfl, ?_⟩)))
                refine ⟨some vl, some vr, some (.int ((1 + sumOf s.1 r.2 : Nat) : Int)), G7, ?_, gr_upd (g47.trans (Gr.ov g47.gh hT3)) ha k2a, s4.trans (g5.g.trans (g6.g.trans g7.g)), ?_, ?_⟩
                · rw [eJ]; rfl
                · rw [eJ]
                  refine ⟨_, upd_same, k2a, ?_⟩
                  rw [← putD_fD]
                  exact k3a.put (.int _)
                · rw [eJ]; exact rNext
          · rintro σ2 H2 ⟨b6, b7, b8, G4, rfl, g4, s4, m4, r4⟩
            rw [List.length_map, List.take_length] at m4 r4
            refine ⟨some (.str n), some u, b6, b7, b8, G4, ?_, g4, s2.trans (g3.g.trans s4), ?_, ?_⟩
            · rw [List.length_map, List.take_length, eN]; rfl
            · rw [eN]; exact m4
            · rw [eN]; exact r4
        · rintro σ2 H2 ⟨b4, b5, b6, b7, b8, G2, rfl, g2, s2, m2, r2⟩
          have hl : (keptD_ b).length = b.length := List.length_map _
          rw [hl, List.take_length] at m2 r2
          refine ⟨b4, b5, b6, b7, b8, G2, ?_, g2, m2, r2⟩
          rw [hl, List.take_length]
          rfl
    · refine iteF (Exists.intro (V.ref a) (And.intro rfl ?_))
      obtain ⟨ws, k1, k2, k3⟩ := m'.ex
      refine ⟨a, _, rfl, k1, True.intro, fun od => ?_⟩
      obtain ⟨G8, g8, hv8, _⟩ := dq_frz g' ha k2 k3 od
      exact q _ _ G8 _ g8 ⟨F, rfl, hfix⟩ hv8

end
end T47
/-! checked_talks. -/
namespace T47
open PySem PySem.Spec PyProof.Rows L2 Pk
/-! ### the book of some talks -/
def rsS (rs : List Rule) : List Rule := rs.mergeSort fun a b => dLe (keptRule a) (keptRule b)
theorem rsS_perm (rs : List Rule) : (rsS rs).Perm rs := List.mergeSort_perm _ _
def kept0 (ts : List Talk) : Kept := ts.map fun t => (t.1, rsS t.2)
def lookK (b : Kept) (n : Str) : Option (List Rule) := (b.find? fun p => decide (p.1 = n)).map (·.2)
def bookOf (ts : List Talk) : Kept := (srt (ts.map (·.1))).map fun n => (n, (lookK (kept0 ts) n).getD [])
def talksOk (ts : List Talk) : Prop := ts.length ≤ 60 ∧ (∀ t ∈ ts, talkOk t) ∧ (ts.map (·.1)).Nodup ∧ ∀ t ∈ ts, ∀ r ∈ t.2, ∀ n ∈ r.2, n ∈ ts.map (·.1)
theorem lookK_cons (p : Str × List Rule) (b : Kept) (x : Str) : lookK (p :: b) x = if p.1 = x then some p.2 else lookK b x := by
  unfold lookK
  rw [List.find?_cons]
  by_cases h : p.1 = x <;> simp [h]
theorem lookD_kept : ∀ (b : Kept) (n : Str), lookD (keptD_ b) n = (lookK b n).map fun rs => D.lst (rs.map keptRule)
  | [], _ => rfl
  | p :: b, n => by
    show lookD ((p.1, D.lst (p.2.map keptRule)) :: keptD_ b) n = _
    rw [lookD_cons, lookK_cons, lookD_kept b n]
    by_cases h : p.1 = n <;> simp [h]
theorem lookK_isSome {b : Kept} {n : Str} : (lookK b n).isSome = true ↔ n ∈ b.map (·.1) := by
  induction b with
  | nil => simp [lookK]
  | cons p b ih =>
    rw [lookK_cons, List.map_cons, List.mem_cons]
    by_cases h : p.1 = n
    · simp [h]
    · rw [if_neg h, ih]
      have : ¬ n = p.1 := fun z => h z.symm
      simp [this]
theorem lookK_none {b : Kept} {n : Str} (h : n ∉ b.map (·.1)) : lookK b n = none := by
  cases e : lookK b n with
  | none => rfl
  | some x => exact absurd (lookK_isSome.mp (by rw [e]; rfl)) h
theorem lookK_mem : ∀ {b : Kept} {n : Str} {rs : List Rule}, (b.map (·.1)).Nodup → (n, rs) ∈ b → lookK b n = some rs
  | [], _, _, _, h => by cases h
  | p :: b, n, rs, hn, h => by
    rw [lookK_cons]
    have hn := List.nodup_cons.mp hn
    rcases List.mem_cons.mp h with e | h
    · subst e
      rw [if_pos rfl]
    · rw [if_neg fun z => hn.1 (by show p.1 ∈ _; rw [z]; exact List.mem_map.mpr ⟨_, h, rfl⟩)]
      exact lookK_mem hn.2 h
theorem kept0_names (ts : List Talk) : (kept0 ts).map (·.1) = ts.map (·.1) := by
  unfold kept0
  rw [List.map_map]
  rfl
theorem kept0_sized {ts : List Talk} (h : talksOk ts) : sized (kept0 ts) := by
  refine ⟨by unfold kept0; rw [List.length_map]; exact h.1, fun p hp => ?_⟩
  obtain ⟨t, ht, rfl⟩ := List.mem_map.mp hp
  obtain ⟨_, _, k3, k4, _⟩ := h.2.1 t ht
  exact ⟨by rw [(rsS_perm t.2).length_eq]; exact k4, fun r hr => ((k3 r ((rsS_perm t.2).mem_iff.mp hr)).2.2).2⟩
theorem kept0_closed {ts : List Talk} (h : talksOk ts) : closed (kept0 ts) := fun p hp r hr n hn => by
  obtain ⟨t, ht, rfl⟩ := List.mem_map.mp hp
  rw [lookD_kept, Option.isSome_map, lookK_isSome, kept0_names]
  exact h.2.2.2 t ht r ((rsS_perm t.2).mem_iff.mp hr) n hn
theorem alike_strs : ∀ a b : List Str, PySem.W.alikeAll (pys (a.map D.str)) (pys (b.map D.str)) = true
  | [], _ => by simp [pys, PySem.W.alikeAll]
  | _ :: _, [] => by simp [pys, PySem.W.alikeAll]
  | x :: a, y :: b => by
    show PySem.W.alikeAll (.str x :: pys (a.map D.str)) (.str y :: pys (b.map D.str)) = true
    rw [PySem.W.alikeAll, alike_strs a b]
    simp [PySem.W.alike]
theorem alike_rules (r s : Rule) : PySem.W.alike (keptRule r).py (keptRule s).py = true := by
  show PySem.W.alike (.tuple [.str r.1, .tuple (pys (r.2.map D.str))]) (.tuple [.str s.1, .tuple (pys (s.2.map D.str))]) = true
  simp only [PySem.W.alike, PySem.W.alikeAll, alike_strs, Bool.and_true, Bool.and_self]
theorem flats_strs : ∀ a : List Str, flats (a.map D.str) = true
  | [] => rfl
  | x :: a => by
    show (true && flats (a.map D.str)) = true
    rw [flats_strs a]
    rfl
theorem flats_rules : ∀ rs : List Rule, flats (rs.map keptRule) = true
  | [] => rfl
  | r :: rs => by
    show ((true && (flats (r.2.map D.str) && true)) && flats (rs.map keptRule)) = true
    rw [flats_rules rs, flats_strs]
    rfl
theorem depth_strs : ∀ a : List Str, PyData.depthAll (pys (a.map D.str)) = 0
  | [] => by simp [pys, PyData.depthAll]
  | x :: a => by
    show PyData.depthAll (.str x :: pys (a.map D.str)) = 0
    rw [PyData.depthAll, depth_strs a]
    simp [PyData.depth]
theorem depth_rule (r : Rule) : (keptRule r).py.depth ≤ 50 := by
  show (PyData.tuple [.str r.1, .tuple (pys (r.2.map D.str))]).depth ≤ 50
  simp [PyData.depth, PyData.depthAll, depth_strs]
theorem put_new {kvs : List (Str × D)} {k : Str} {v : D} (h : lookD kvs k = none) : putD kvs k v = kvs ++ [(k, v)] := by
  unfold putD
  rw [if_neg]
  intro z
  obtain ⟨p, hp, e⟩ := List.any_eq_true.mp z
  unfold lookD at h
  have h := Option.map_eq_none_iff.mp h
  have := List.find?_eq_none.mp h p hp
  exact this e
theorem dFold_all {f : D → Bool} {k : D → Str} {v : D → D} : ∀ (ds : List D) (acc : List (Str × D)), (∀ d ∈ ds, f d = true) → (acc.map (·.1) ++ ds.map k).Nodup → ds.foldl (dStep f k v) acc = acc ++ ds.map fun d => (k d, v d)
  | [], acc, _, _ => by simp
  | d :: ds, acc, hf, hn => by
    rw [List.foldl_cons]
    have e : dStep f k v acc d = acc ++ [(k d, v d)] := by
      unfold dStep
      rw [if_pos (hf d (by simp))]
      refine put_new ?_
      unfold lookD
      rw [List.find?_eq_none.mpr fun p hp => by
        have := (List.nodup_append.mp hn).2.2 p.1 (List.mem_map.mpr ⟨p, hp, rfl⟩) (k d) (by simp)
        simpa using this]
      rfl
    rw [e, dFold_all ds _ (fun x hx => hf x (by simp [hx])) (by simpa [List.map_append] using hn)]
    simp
section
variable {P : Program} {w : World} {K : PySem.W.Frag} {mg : Str → Option Value} {base : Heap}
def sp_checked_talks (K : PySem.W.Frag) : Sp := spD K fun ds d => ∃ x, ds = [x] ∧ ∃ ts, IsTalks x ts ∧ talksOk ts ∧ d = .dic (keptD_ (bookOf ts))

theorem sc_checked_talks : FnScope ["talks", "found", "index", "thing", "lacking", "name", "rule"] ["talks"] (defScope T47.s_checked_talks) := ⟨rfl, rfl, rfl, by decide +kernel, rfl, by decide +kernel, by decide +kernel⟩
theorem has_checked_talks (T : Tx w K mg) (h_as_rule : Has P w K mg base CX0 "as_rule" 1 ["thing"] (sp_as_rule K)) (h_is_list : Has P w K mg base CX0 "is_list" 1 ["thing"] (sp_is_list K)) (h_is_talk : Has P w K mg base CX0 "is_talk" 4 ["thing"] (sp_is_talk K)) (h_lacking_in : Has P w K mg base CX0 "lacking_in" 1 ["rules"] (sp_lacking_in K)) : Has P w K mg base CX0 "checked_talks" 5 ["talks"] (sp_checked_talks K) := by
  obtain ⟨fd, F⟩ := T.def_ 21
  have gm := T.glo (x := "checked_talks") 35
  have z_enumerate := T.free (x := "enumerate") 84
  have z_sorted := T.free (x := "sorted") 92
  have nd := sc_checked_talks.nd
  refine has_of F gm sc_checked_talks (fun _ _ _ _ _ _ us hl => match us, hl with | [_], _ => rfl) (fun vs H Q E h => ?_) (fun cdv A outer s H vs Q E hr h => ?_)
  · exact spD_len h (fun ds d ⟨x, e, _⟩ => by rw [e]; rfl)
  · obtain ⟨G, x, v, d, rfl, e, hv, ⟨ts, ⟨tds, hx, hts⟩, hok, rfl⟩, q⟩ := sp_one h
    refine ⟨_, (pss_cons (ps_if (pt_not (pt_val (pe_h h_is_list (hr.mono (by decide)) rfl (pa_cons (pv 0) pa_nil)))) (pss_one ps_naught) pss_nil)
        (pss_cons (ps_set (i := 1) nd rfl (Or.inr rfl) pe_dnewK)
        (pss_cons (ps_for PassesOwn.never rfl (pi_enumS rfl z_enumerate (pa_cons (pv 0) pa_nil)) (pg_tup rfl (pgs_cons (pg_name (i := 2) nd rfl (Or.inl rfl)) (pgs_cons (pg_name (i := 3) nd rfl (Or.inl rfl)) pgs_nil)))
        (pss_cons (ps_if (PW.pt (pw_or (pt_not (pt_val (pe_h h_is_talk (hr.mono (by decide)) rfl (pa_cons (pv 3) pa_nil)))) (pw_or1 (pt_cmp (pc_din (hu_of hr) (pe_ix ix_seq (pv 3) pe_int (fun _ _ => rfl)) (pv 1)))))) (pss_one ps_naught) pss_nil)
        (pss_one (ps_dput (hu_of hr) (pv 1) (pe_ix ix_seq (pv 3) pe_int (fun _ _ => rfl)) (pe_callB (cr_srtP hr.units) rfl z_sorted (by decide +kernel) (pa_cons (pe_lc (own := [("rule", 6)]) (g := gName 6) (tt := tYes) rfl nd (pi_seq (pe_ix ix_seq (pv 3) pe_int (fun _ _ => rfl))) (blkOk_by (own := [("rule", 6)]) (N := ["talks", "found", "index", "thing", "lacking", "name", "rule"]) (sc := (defScope T47.s_checked_talks)) (by decide +kernel)) (fun _ _ _ _ _ => (pg_name (i := 6) nd rfl (Or.inl rfl))) (fun _ _ _ _ _ => pts_nil) (fun _ _ _ _ _ => (pe_h h_as_rule (hr.mono (by decide)) rfl (pa_cons (pv 6) pa_nil)))) pa_nil)) rfl))))
        (pss_cons (ps_set (i := 4) nd rfl (Or.inl rfl) (pe_h h_lacking_in (hr.mono (by decide)) rfl (pa_cons (pe_frz (pv 1)) pa_nil)))
        (pss_cons (ps_if (pt_truth (pv 4) (by intro _; rfl)) (pss_one ps_naught) pss_nil)
        (pss_one (ps_ret (pe_frz (pe_dc (own := [("name", 5)]) (g := gName 5) (tt := tYes) rfl nd (pi_seq (pe_callB (call_sortedD rfl) rfl z_sorted (by decide +kernel) (pa_cons (pv 1) pa_nil))) (blkOk_by (own := [("name", 5)]) (N := ["talks", "found", "index", "thing", "lacking", "name", "rule"]) (sc := (defScope T47.s_checked_talks)) (by decide +kernel)) (fun _ _ _ _ _ => (pg_name (i := 5) nd rfl (Or.inl rfl))) (fun _ _ _ _ _ => pts_nil) (fun _ _ _ _ _ => (pv 5)) (fun _ _ _ _ _ => (pe_dget (hu_of hr) (pv 1) (pv 5) (fun _ _ => rfl)))))))))))), ?_⟩
    have hlen : tds.length = ts.length := hts.length
    refine h_ifq (b := false) ((eb_not (eb_B (ev_call (ea_cons (ev_var rfl hv) ea_nil) ⟨x, rfl, rfl⟩))).is (by rw [hx.isL]; rfl)) e (fun z => by cases z) fun _ G1 H1 g1 => ?_
    refine mu_new g1.gh fun a ha => ?_
    have gb : Gr G H G1 (upd H1 a (.dK [])) := g1.trans (Gr.ov g1.gh ha)
    have ga : G1 a = none := same_none g1.gh ha
    -- the walk
    refine f_enum (ev_var rfl (hv.up g1.g)) hx gb.gh fun G2 H2 g2 => ?_
    have gb2 := gb.trans g2
    have toKept : ∀ (i : Nat), (kept0 (ts.take i)).map (·.1) = (ts.take i).map (·.1) := fun i => kept0_names _
    refine ⟨fun i σ' H' => ∃ b2 b3, σ' = [some v, some (.ref a), b2, b3, none, none, none] ∧ ∃ G', Gr G H G' H' ∧ Same G2 G' ∧ MuD K G' H' a (keptD_ (kept0 (ts.take i))),
      ⟨none, none, rfl, G2, gb2, Same.refl _, MuD.gr ⟨[], upd_same, ga, rfl, .nil⟩ g2⟩, fun i σ' H' ⟨_, _, _, G', g', s', _⟩ => s'.trans g'.gh, ?_, ?_⟩
    · rintro i d u T σ' H' hdi hu ⟨b2, b3, rfl, G3, g3, s3, m3⟩ hT
      obtain ⟨t, ht, bt, hx1, ⟨rds, hb, hrs⟩⟩ := hts.get hdi
      have htm := List.mem_of_getElem? ht
      have hto := hok.2.1 t htm
      obtain ⟨h1, h2, h3, h4, h5⟩ := id hto
      have gT : Gr G3 H' G3 (upd H' T (.tup [.int (i : Nat), u])) := Gr.ov g3.gh hT
      obtain ⟨ws, k1, k2, k3⟩ := (m3.gr gT).ex
      have hu3 := hu.up s3
      have up3 : Same G3 (upd G3 a (.dK ws)) := same_new k2
      have hno : lookD (keptD_ (kept0 (ts.take i))) t.1 = none := by
        rw [lookD_kept, lookK_none]
        · rfl
        · rw [toKept]
          intro hmem
          have hnd := hok.2.2.1
          have : ((ts.take (i + 1)).map (·.1)).Nodup := (List.Sublist.map _ (List.take_sublist _ _)).nodup hnd
          rw [take_next ht, List.map_append, List.nodup_append] at this
          exact this.2.2 _ hmem _ (by simp) rfl
      refine mu_ifq (b := false) k2 k1 gT.gh ((eb_or (eb_not (eb_B (ev_call (ea_cons (ev_var rfl (hu3.up up3)) ea_nil) ⟨d, rfl, ⟨t, ⟨bt, hx1, rds, hb, hrs⟩, hto⟩, rfl⟩))) fun _ => eb_test (ev_dinM (kvs := keptD_ (kept0 (ts.take i))) (fun H _ Q q => ev_here rfl H Q q) upd_same (k3.up up3) (ev_ix (i := 0) (hx1.ev (ev_var rfl (hu3.up up3))) (d := .str t.1) rfl))).is ?_) (fun z => by cases z) fun _ G4 H4 g4 k1' k2' => ?_
      · rw [hno]; rfl
      have hu4 := hu3.up g4.g
      have rl : rds.length = t.2.length := hrs.length
      have hk1 : (kept0 (ts.take i)).length ≤ 60 := by
        unfold kept0
        rw [List.length_map, List.length_take]
        have := hok.1
        omega
      refine h_dput (kvs := keptD_ (kept0 (ts.take i))) (n := t.1) (d := .lst ((t.2.map keptRule).mergeSort dLe)) ?_ (fun G5 e5 => ev_ix (i := 0) (hx1.ev (ev_var rfl (hu4.up e5))) (d := .str t.1) rfl) rfl ⟨ws, k1', k2', k3.up g4.g⟩ (by unfold keptD_; rw [List.length_map]; omega) g4.gh fun G5 H5 o g5 k2'' m5 => ?_
      · refine ev_sorted (ds := t.2.map keptRule) ((ev_lc1 (ev_ix (i := 1) (hx1.ev (ev_var rfl hu4)) (d := bt) rfl) hb (by omega) keptD (fun _ => rfl) fun di u5 G5 hdm e5 hu5 => ?_).is ?_) (flats_rules _) ?_ ?_ (by rw [List.length_map]; omega) ?_
        · obtain ⟨r, hr1, hr2⟩ := hrs.left di hdm
          rw [keptD_of hr2]
          exact ev_call (ea_cons (ev_var rfl hu5) ea_nil) ⟨di, rfl, r, hr2, rfl⟩
        · rw [hrs.map_eq (f := keptD) (g := keptRule) fun a b r => keptD_of r]
        · rw [List.map_map]
          exact PySem.W.AllAlike.of fun r s => alike_rules r s
        · rw [List.map_map]
          exact PySem.W.Sortable.tuples fun r => ⟨.str r.1, _, rfl⟩
        · intro d hd
          obtain ⟨r, _, rfl⟩ := List.mem_map.mp hd
          exact depth_rule r
      refine ⟨_, _, rfl, G5, gr_upd (g3.trans (gT.trans (g4.trans g5))) (same_none g1.h ha) k2'', s3.trans (g4.g.trans g5.g), ?_⟩
      rw [put_new hno] at m5
      have e1 : keptD_ (kept0 (ts.take (i + 1))) = keptD_ (kept0 (ts.take i)) ++ [(t.1, .lst ((t.2.map keptRule).mergeSort dLe))] := by
        unfold keptD_ kept0
        rw [take_next ht, List.map_append, List.map_append]
        congr 1
        show [(t.1, D.lst ((rsS t.2).map keptRule))] = _
        unfold rsS
        rw [List.map_mergeSort (r := fun a b => dLe (keptRule a) (keptRule b)) (s := dLe) (f := keptRule) (fun a _ b _ => rfl)]
      rw [e1]
      exact m5
    · rintro σ' H' ⟨b2, b3, rfl, G3, g3, s3, m3⟩
      rw [hlen, List.take_length] at m3
      obtain ⟨ws, k1, k2, k3⟩ := m3.ex
      have ha0 := same_none g1.h ha
      have sz := kept0_sized hok
      -- found, from here on, stays
      refine Exists.intro (V.ref a) (And.intro rfl ⟨a, _, rfl, k1, True.intro, fun od => ?_⟩)
      obtain ⟨G4, g4, hv4, s4⟩ := dq_frz g3 ha0 k2 k3 od
      refine ⟨G4, [.dic (keptD_ (kept0 ts))], .lst [], g4.gh, .cons hv4 .nil, ⟨_, rfl, ⟨_, rfl, kept0_closed hok, sz⟩, rfl⟩, fun vl G5 H5 g5 hvl => ?_⟩
      have g05 := g4.trans g5
      cases hvl with
      | @lst al xl _ hrl hql =>
      cases hql
      refine Exists.intro (V.ref al) (And.intro rfl ⟨false, .inl ⟨[], seqL (Rd.up g5.gh hrl), rfl⟩, iteF ?_⟩)
      have hv5 := hv4.up g5.g
      have names : ((keptD_ (kept0 ts)).map (·.1)) = ts.map (·.1) := by
        rw [← kept0_names ts]
        unfold keptD_
        rw [List.map_map]
        rfl
      refine h_ret (d := .dic (keptD_ (bookOf ts))) ((ev_dc1 (j := 5) (ev_sortedD (ev_var (i := 1) rfl hv5) ?_) (.lst _) ?_ (fun _ => true) (fun d => match d with | .str x => x | _ => ("" : Str)) (fun d => match d with | .str x => .lst (((lookK (kept0 ts) x).getD []).map keptRule) | _ => .non) (fun _ => rfl) (fun _ _ _ _ _ _ => eb_yes) (fun di u G6 hdm e6 hu => ?_) (fun di u G6 hdm e6 hu => ?_)).is ?_) g5.gh fun vr G6 H6 g6 hvr => q _ _ _ (g05.trans g6) hvr
      · unfold keptD_
        rw [List.length_map]
        have := sz.1
        omega
      · rw [List.length_map, srt_len, List.length_map]
        unfold keptD_
        rw [List.length_map]
        have := sz.1
        omega
      · obtain ⟨n, hn, rfl⟩ := List.mem_map.mp hdm
        exact fun _ => ev_var rfl hu
      · obtain ⟨n, hn, rfl⟩ := List.mem_map.mp hdm
        intro _
        have hn' : n ∈ (kept0 ts).map (·.1) := by
          rw [kept0_names, ← names]
          exact (srt_perm _).mem_iff.mp hn
        obtain ⟨rs, hrs⟩ := Option.isSome_iff_exists.mp (lookK_isSome.mpr hn')
        refine (ev_dget (ev_var rfl (hv5.up e6)) (ev_var rfl hu) (d := .lst (rs.map keptRule)) (by rw [lookD_kept, hrs]; rfl)).is ?_
        simp only [hrs, Option.getD_some]
      · congr 1
        rw [dFold_all _ [] (fun _ _ => rfl)]
        · rw [names, List.nil_append, List.map_map]
          unfold keptD_ bookOf
          rw [List.map_map]
          rfl
        · rw [names, List.map_map, List.map_nil, List.nil_append]
          have : (srt (ts.map (·.1))).Nodup := (srt_perm _).nodup_iff.mpr hok.2.2.1
          simpa [Function.comp_def] using this

end
end T47
/-! Book. -/
namespace T47
open PySem PySem.Spec PyProof.Rows L2 Pk
abbrev CB (K : PySem.W.Frag) : Addr := He.ga K "Book"
structure IsBook (K : PySem.W.Frag) (G : Hp) (v : V) (b : Kept) : Prop where
  ex : ∃ x dx vr vn, v = .ref x ∧ G x = some (.ins (CB K) dx [("own_rules", vr), ("own_norms", vn), ("own_rounds", .non)]) ∧ Dq K G vr (.dic (keptD_ b))
theorem IsBook.up {K : PySem.W.Frag} {G G1 : Hp} {v : V} {b : Kept} (h : IsBook K G v b) (e : Same G G1) : IsBook K G1 v b := by
  obtain ⟨x, dx, vr, vn, h1, h2, h3⟩ := h.ex
  exact ⟨x, dx, vr, vn, h1, e _ _ h2, h3.up e⟩
def allEnd (b : Kept) : Prop := ∀ p ∈ b, Ends b p.1
theorem book_names (ts : List Talk) : (bookOf ts).map (·.1) = srt (ts.map (·.1)) := by
  unfold bookOf
  rw [List.map_map]
  simp [Function.comp_def]
theorem kept0_look {ts : List Talk} {n : Str} (h : n ∈ ts.map (·.1)) : ∃ t ∈ ts, t.1 = n ∧ lookK (kept0 ts) n = some (rsS t.2) := by
  induction ts with
  | nil => cases h
  | cons t ts ih =>
    unfold kept0
    rw [List.map_cons, lookK_cons]
    by_cases e : t.1 = n
    · exact ⟨t, by simp, e, by rw [if_pos e]⟩
    · rw [if_neg e]
      rcases List.mem_cons.mp h with z | h
      · exact absurd z.symm e
      · obtain ⟨t', h1, h2, h3⟩ := ih h
        exact ⟨t', by simp [h1], h2, h3⟩
theorem book_at {ts : List Talk} {p : Str × List Rule} (h : p ∈ bookOf ts) : ∃ t ∈ ts, t.1 = p.1 ∧ p.2 = rsS t.2 := by
  unfold bookOf at h
  obtain ⟨n, hn, rfl⟩ := List.mem_map.mp h
  obtain ⟨t, h1, h2, h3⟩ := kept0_look ((srt_perm _).mem_iff.mp hn)
  exact ⟨t, h1, h2, by rw [h3]; rfl⟩
theorem book_sized {ts : List Talk} (h : talksOk ts) : sized (bookOf ts) := by
  refine ⟨by unfold bookOf; rw [List.length_map, srt_len, List.length_map]; exact h.1, fun p hp => ?_⟩
  obtain ⟨t, ht, _, e⟩ := book_at hp
  obtain ⟨_, _, k3, k4, _⟩ := h.2.1 t ht
  rw [e]
  exact ⟨by rw [(rsS_perm t.2).length_eq]; exact k4, fun r hr => ((k3 r ((rsS_perm t.2).mem_iff.mp hr)).2.2).2⟩
theorem book_nodup {ts : List Talk} (h : talksOk ts) : ((bookOf ts).map (·.1)).Nodup := by
  rw [book_names]
  exact (srt_perm _).nodup_iff.mpr h.2.2.1
theorem keptD_names (b : Kept) : (keptD_ b).map (fun p => D.str p.1) = (b.map (·.1)).map D.str := by
  unfold keptD_
  rw [List.map_map, List.map_map]
  rfl
section
variable {P : Program} {w : World} {K : PySem.W.Frag} {mg : Str → Option Value} {base : Heap}
/-- self a new instance (H0 the heap before it), then the talks -/
def sp_Book_init (K : PySem.W.Frag) : Sp := fun vs H Q _ => ∃ G H0 x dx vt d ts, vs = [.ref x, vt] ∧ Same G H0 ∧ H0 x = none ∧ H0 dx = none ∧ dx ≠ x ∧ H = upd (upd H0 dx (.own x)) x (.ins (CB K) dx []) ∧ Dq K G vt d ∧ IsTalks d ts ∧ talksOk ts ∧ allEnd (bookOf ts) ∧
  ∀ G' H' vr vn, Gr G H0 G' H' → G' x = none → H' x = some (.ins (CB K) dx [("own_rules", vr), ("own_norms", vn), ("own_rounds", .non)]) → Dq K G' vr (.dic (keptD_ (bookOf ts))) → Q .non H'

theorem sc_Book_init : FnScope ["self", "talks", "norms", "name"] ["self", "talks"] (defScope T47.s_Book_init) := ⟨rfl, rfl, rfl, by decide +kernel, rfl, by decide +kernel, by decide +kernel⟩
theorem mak_Book (T : Tx w K mg) (h_checked_talks : Has P w K mg base CX0 "checked_talks" 5 ["talks"] (sp_checked_talks K)) (h_norms_in : Has P w K mg base CX0 "norms_in" 1 ["rules", "known"] (sp_norms_in K)) : C8.Mak P w K mg base 6 "Book" (He.ga K "Book") (sp_Book_init K) [] := by
  obtain ⟨fd, F⟩ := T.def_ 22
  have nd := sc_Book_init.nd
  have gm := T.glo (x := "Book") 36
  refine ⟨_, fd, _, [], He.mkr_ok (x := "Book") (T.fact 105), fn_of F sc_Book_init (fun vs H Q E h => ?_) (fun cdv A outer s H vs Q E hr h => ?_), gm, F.bindsN (fun _ _ _ _ _ _ us hl => match us, hl with | [_, _], _ => rfl), .nil⟩
  · obtain ⟨_, _, _, _, _, _, _, rfl, _⟩ := h; rfl
  · obtain ⟨G, H0, x, dx, vt, d, ts, rfl, e, hx0, hdx0, hne, rfl, hvt, hts, hok, hend, q⟩ := h
    refine ⟨_, (pss_cons (ps_fld (pv 0) (pe_h h_checked_talks (hr.mono (by decide)) rfl (pa_cons (pv 1) pa_nil)) rfl)
        (pss_cons (ps_set (i := 2) nd rfl (Or.inr rfl) (pe_h h_norms_in (hr.mono (by decide)) rfl (pa_cons (pe_fld (pv 0) rfl) (pa_cons (pe_frz pe_dnewK) pa_nil))))
        (pss_cons (ps_for PassesOwn.never rfl (pi_keys (pe_fld (pv 0) rfl)) (pg_name (i := 3) nd rfl (Or.inl rfl))
        (pss_one (ps_if (pt_cmp (pc_dnotin (hu_of hr) (pv 3) (pv 2))) (pss_one ps_naught) pss_nil)))
        (pss_cons (ps_fld (pv 0) (pe_frz (pe_dc (own := [("name", 3)]) (g := gName 3) (tt := tYes) rfl nd (pi_keys (pe_fld (pv 0) rfl)) (blkOk_by (own := [("name", 3)]) (N := ["self", "talks", "norms", "name"]) (sc := (defScope T47.s_Book_init)) (by decide +kernel)) (fun _ _ _ _ _ => (pg_name (i := 3) nd rfl (Or.inl rfl))) (fun _ _ _ _ _ => pts_nil) (fun _ _ _ _ _ => (pv 3)) (fun _ _ _ _ _ => (pe_dget (hu_of hr) (pv 2) (pv 3) (fun _ _ => rfl))))) rfl)
        (pss_one (ps_fld (pv 0) pe_non rfl)))))), ?_⟩
    have cB : Cls K (CB K) := He.cls_ok (T.fact 99)
    have na1 : NoAttr K (CB K) "own_rules" := He.noat_ok (T.fact 100)
    have na2 : NoAttr K (CB K) "own_norms" := He.noat_ok (T.fact 101)
    have na3 : NoAttr K (CB K) "own_rounds" := He.noat_ok (T.fact 102)
    have e0 : Gr G H0 G (upd H0 dx (.own x)) := Gr.ov e hdx0
    have hx1 : (upd H0 dx (.own x)) x = none := by rw [upd_ne hne.symm]; exact hx0
    have e1 : Gr G H0 G (upd (upd H0 dx (.own x)) x (.ins (CB K) dx [])) := e0.trans (Gr.ov e0.gh hx1)
    have gx : G x = none := same_none e hx0
    -- own_rules
    refine ev_call (K := K) (ds := [d]) (d := .dic (keptD_ (bookOf ts))) (ea_cons (ev_var rfl hvt) ea_nil) ⟨d, rfl, ts, hts, hok, rfl⟩ _ e1.gh _ fun vr G1 H1 g1 hvr => ?_
    refine Exists.intro (V.ref x) (And.intro rfl ⟨x, CB K, dx, [], rfl, g1.h _ _ upd_same, cB, na1, by decide, ?_⟩)
    have k1 := g1.apart upd_same gx
    have b1 : Gr G H0 G1 (upd H1 x (.ins (CB K) dx [("own_rules", vr)])) := gr_upd (e1.trans g1) hx0 k1
    have hcl := book_sized hok
    -- norms
    have u1 : Same G1 (upd G1 x (.ins (CB K) dx [("own_rules", vr)])) := same_new k1
    have fld : ∀ (σ : L2.St) (G3 : Hp), σ[0]? = some (some (V.ref x)) → Same (upd G1 x (.ins (CB K) dx [("own_rules", vr)])) G3 → EvD K (tFld K (tVar 0) "own_rules") σ G3 (.dic (keptD_ (bookOf ts))) := fun σ G3 h0 e3 => ev_fld (fun H _ Q q => ev_here h0 H Q q) (e3 _ _ upd_same) cB na1 (by rfl) (hvr.up (u1.trans e3))
    refine (ev_callP (p := fun d => ∃ F, d = .dic (fD F) ∧ FixN (bookOf ts) F) (ea_cons (fld _ _ rfl (Same.refl _)) (ea_cons ev_frznew ea_nil)) ⟨_, rfl, _, rfl, hcl, rfl⟩) _ (same_mut b1.gh upd_same) _ fun vn dn G3 H3 g3 ⟨F, hF, hfix⟩ hvn => ?_
    subst hF
    have s3 := g3.g
    -- every name has its norm
    refine f_keys (fld _ _ rfl s3) g3.gh fun G4 H4 g4 => ?_
    have g34 := g3.trans g4
    refine ⟨fun i σ' H' => ∃ b3, σ' = [some (.ref x), some vt, some vn, b3] ∧ ∃ G', Gr (upd G1 x (.ins (CB K) dx [("own_rules", vr)])) (upd H1 x (.ins (CB K) dx [("own_rules", vr)])) G' H' ∧ Same G4 G', ⟨none, rfl, G4, g34, Same.refl _⟩, fun i σ' H' ⟨_, _, G', g', s'⟩ => s'.trans g'.gh, ?_, ?_⟩
    · rintro i n di σ' H' hdi ⟨b3, rfl, G5, g5, s5⟩
      obtain ⟨rs, hb, rfl⟩ := kept_at hdi
      have hm := List.mem_of_getElem? hb
      refine (eb_test (ev_dnotin (ev_var (i := 3) rfl (.str n)) (ev_var (i := 2) rfl (hvn.up (g4.g.trans s5))))) H' g5.gh _ fun G6 H6 g6 => ?_
      have hsome := fix_ends hfix (hend _ hm)
      rw [lookD_fD, Option.isSome_map, hsome]
      exact iteF ⟨_, rfl, G6, g5.trans g6, s5.trans g6.g⟩
    rintro σ' H' ⟨b3, rfl, G5, g5, s5⟩
    have n5 := hvn.up (g4.g.trans s5)
    have len60 := hcl.1
    dsimp only
    refine h_fld (d := .dic (((keptD_ (bookOf ts)).map fun p => D.str p.1).foldl (dStep (fun _ => true) (fun d => match d with | .str x => x | _ => ("" : Str)) (nOf F)) [])) ?_ g5.gh fun v6 G6 H6 g6 hv6 => ?_
    · refine ev_dcS (j := 3) (src_keys (fld _ _ rfl (g34.g.trans s5))) (by rw [List.length_map]; unfold keptD_; rw [List.length_map]; omega) (fun _ => true) (fun d => match d with | .str x => x | _ => ("" : Str)) (nOf F) (fun _ => rfl) (fun _ _ _ _ _ _ => eb_yes) (fun di u G6 hdm e6 hu => ?_) (fun di u G6 hdm e6 hu => ?_)
      · rw [keptD_names] at hdm
        obtain ⟨n, hn, rfl⟩ := List.mem_map.mp hdm
        exact fun _ => ev_var rfl hu
      · rw [keptD_names] at hdm
        obtain ⟨n, hn, rfl⟩ := List.mem_map.mp hdm
        obtain ⟨p, hp, rfl⟩ := List.mem_map.mp hn
        have hsome := fix_ends hfix (hend _ hp)
        obtain ⟨z, hz⟩ := Option.isSome_iff_exists.mp hsome
        intro _
        refine (ev_dget (ev_var rfl (n5.up e6)) (ev_var rfl hu) (d := .int (z : Nat)) (by rw [lookD_fD, hz]; rfl)).is ?_
        show D.int _ = D.int _
        rw [hz]
        rfl
    have g56 := g5.trans g6
    obtain ⟨c6, x6⟩ := hide_gr k1 upd_same g56
    have x6' := g56.gh _ _ x6
    have b6 := b1.trans c6
    refine Exists.intro (V.ref x) (And.intro rfl ⟨x, CB K, dx, _, rfl, x6', cB, na2, (by show 1 < 1000; decide), ?_⟩)
    have b7 : Gr G H0 (cutH G6 x) (upd H6 x (.ins (CB K) dx [("own_rules", vr), ("own_norms", v6)])) := gr_upd b6 hx0 cutH_same
    refine Exists.intro (V.ref x) (And.intro rfl ⟨x, CB K, dx, _, rfl, upd_same, cB, na3, (by show 2 < 1000; decide), ?_⟩)
    refine q (cutH G6 x) _ vr v6 (gr_upd b7 hx0 cutH_same) cutH_same upd_same (hvr.up c6.g)

end
end T47
/-! What is refused: books, rows, words. -/
namespace T47
open PySem PySem.Spec PyProof.Rows L2 Pk
section
variable {P : Program} {w : World} {K : PySem.W.Frag} {mg : Str → Option Value} {base : Heap}
theorem exc_fact (T : Tx w K mg) {p : Str × Str} (h : p ∈ excs) : excB K p = true := by
  have z := (Bool.and_eq_true_iff.mp (Bool.and_eq_true_iff.mp T.more).1).1
  exact List.all_eq_true.mp z p h
theorem oex_of (T : Tx w K mg) {x f : Str} (hp : (x, f) ∈ excs) : OexC K (He.ga K x) ∧ XfC K (He.ga K x) ∧ PySem.W.findIn K (.ref (He.ga K x)) f = some none ∧ PySem.W.findIn K (.ref (He.ga K x)) "__init__" = some (some (.ref (He.ma K (He.ga K x) "__init__"))) ∧ PySem.W.typeIn K (.ref (He.ma K (He.ga K x) "__init__")) = some (.type "function") := by
  have z := exc_fact T hp
  unfold excB at z
  obtain ⟨z1, z⟩ := Bool.and_eq_true_iff.mp z
  obtain ⟨z2, z⟩ := Bool.and_eq_true_iff.mp z
  obtain ⟨z3, z⟩ := Bool.and_eq_true_iff.mp z
  obtain ⟨z4, z⟩ := Bool.and_eq_true_iff.mp z
  obtain ⟨z5, z⟩ := Bool.and_eq_true_iff.mp z
  obtain ⟨z6, z⟩ := Bool.and_eq_true_iff.mp z
  obtain ⟨z7, z⟩ := Bool.and_eq_true_iff.mp z
  obtain ⟨z8, z9⟩ := Bool.and_eq_true_iff.mp z
  refine ⟨⟨?_, of_decide_eq_true z2, of_decide_eq_true z3, of_decide_eq_true z4, z5⟩, xfB_ok z6, of_decide_eq_true z7, of_decide_eq_true z8, of_decide_eq_true z9⟩
  unfold oexB at z1
  split at z1
  · rename_i dd cd sl ho
    split at z1
    · rename_i C' bm k0 k1 k2 k3 n k5 hm hs
      simp only [Bool.and_eq_true, beq_iff_eq, Bool.not_eq_true'] at z1
      obtain ⟨⟨⟨⟨rfl, hn⟩, hdel⟩, ht⟩, hd⟩ := z1
      subst hn
      obtain ⟨nm, bs, mro, ns, qn, hdc, sn, sub, ab, col, del⟩ := cd
      dsimp only at hm hdel hd
      subst hm hdel hd
      have hsl : sl = #[k0, k1, k2, k3, some (.builtin "ValueError.__new__"), k5] := by
        obtain ⟨l⟩ := sl
        simp only at hs
        rw [hs]
      subst hsl
      exact ⟨nm, qn, ns, bs, bm, sn, sub, ab, col, dd, k0, k1, k2, k3, k5, ho, ht⟩
    · cases z1
  · cases z1
theorem exc_of (T : Tx w K mg) {x f p : Str} {fd : FuncData} (hp : (x, f) ∈ excs) (hg : mg x = some (.ref (He.ga K x))) (F : FnOk P w K mg base CX0 1 (He.ma K (He.ga K x) "__init__") fd ["self", p] (sp_exc K x f)) (hb : L2.Binds K fd ["self", p] []) : ExcOk P w K mg base x f := by
  obtain ⟨z1, _, _, z2, z3⟩ := oex_of T hp
  exact ⟨_, fd, p, z1, z2, z3, F, hb, hg⟩

theorem sc_BadBook_init : FnScope ["self", "thing"] ["self", "thing"] (defScope T47.s_BadBook_init) := ⟨rfl, rfl, rfl, by decide +kernel, rfl, by decide +kernel, by decide +kernel⟩
theorem exc_BadBook (T : Tx w K mg) : ExcOk P w K mg base "BadBook" "thing" := by
  obtain ⟨fd, F⟩ := T.def_ 0
  have nd := sc_BadBook_init.nd
  refine exc_of T (by decide) (T.glo (x := "BadBook") 2) (fn_of F sc_BadBook_init (fun vs H Q E h => ?_) (fun cdv A outer s H vs Q E hr h => ?_)) (F.bindsN (fun _ _ _ _ _ _ us hl => match us, hl with | [_, _], _ => rfl))
  · obtain ⟨_, _, rfl, _⟩ := h
    rfl
  · obtain ⟨a, v, rfl, ha, q⟩ := h
    refine ⟨_, pss_one (ps_ost (pv 0) (pv 1)), ?_⟩
    obtain ⟨z1, _, z2, _, _⟩ := oex_of T (x := "BadBook") (f := "thing") (by decide)
    refine Exists.intro v (And.intro rfl (Exists.intro (V.ref a) (And.intro rfl ⟨a, _, rfl, z1, z2, .inl ⟨ha, fun dx h1 h2 => q dx h1 h2⟩⟩)))

theorem sc_BadRow_init : FnScope ["self", "index"] ["self", "index"] (defScope T47.s_BadRow_init) := ⟨rfl, rfl, rfl, by decide +kernel, rfl, by decide +kernel, by decide +kernel⟩
theorem exc_BadRow (T : Tx w K mg) : ExcOk P w K mg base "BadRow" "index" := by
  obtain ⟨fd, F⟩ := T.def_ 3
  have nd := sc_BadRow_init.nd
  refine exc_of T (by decide) (T.glo (x := "BadRow") 8) (fn_of F sc_BadRow_init (fun vs H Q E h => ?_) (fun cdv A outer s H vs Q E hr h => ?_)) (F.bindsN (fun _ _ _ _ _ _ us hl => match us, hl with | [_, _], _ => rfl))
  · obtain ⟨_, _, rfl, _⟩ := h
    rfl
  · obtain ⟨a, v, rfl, ha, q⟩ := h
    refine ⟨_, pss_one (ps_ost (pv 0) (pv 1)), ?_⟩
    obtain ⟨z1, _, z2, _, _⟩ := oex_of T (x := "BadRow") (f := "index") (by decide)
    refine Exists.intro v (And.intro rfl (Exists.intro (V.ref a) (And.intro rfl ⟨a, _, rfl, z1, z2, .inl ⟨ha, fun dx h1 h2 => q dx h1 h2⟩⟩)))

theorem sc_BadWord_init : FnScope ["self", "index"] ["self", "index"] (defScope T47.s_BadWord_init) := ⟨rfl, rfl, rfl, by decide +kernel, rfl, by decide +kernel, by decide +kernel⟩
theorem exc_BadWord (T : Tx w K mg) : ExcOk P w K mg base "BadWord" "index" := by
  obtain ⟨fd, F⟩ := T.def_ 5
  have nd := sc_BadWord_init.nd
  refine exc_of T (by decide) (T.glo (x := "BadWord") 12) (fn_of F sc_BadWord_init (fun vs H Q E h => ?_) (fun cdv A outer s H vs Q E hr h => ?_)) (F.bindsN (fun _ _ _ _ _ _ us hl => match us, hl with | [_, _], _ => rfl))
  · obtain ⟨_, _, rfl, _⟩ := h
    rfl
  · obtain ⟨a, v, rfl, ha, q⟩ := h
    refine ⟨_, pss_one (ps_ost (pv 0) (pv 1)), ?_⟩
    obtain ⟨z1, _, z2, _, _⟩ := oex_of T (x := "BadWord") (f := "index") (by decide)
    refine Exists.intro v (And.intro rfl (Exists.intro (V.ref a) (And.intro rfl ⟨a, _, rfl, z1, z2, .inl ⟨ha, fun dx h1 h2 => q dx h1 h2⟩⟩)))

theorem sc_NotSimple_init : FnScope ["self", "name"] ["self", "name"] (defScope T47.s_NotSimple_init) := ⟨rfl, rfl, rfl, by decide +kernel, rfl, by decide +kernel, by decide +kernel⟩
theorem exc_NotSimple (T : Tx w K mg) : ExcOk P w K mg base "NotSimple" "name" := by
  obtain ⟨fd, F⟩ := T.def_ 9
  have nd := sc_NotSimple_init.nd
  refine exc_of T (by decide) (T.glo (x := "NotSimple") 20) (fn_of F sc_NotSimple_init (fun vs H Q E h => ?_) (fun cdv A outer s H vs Q E hr h => ?_)) (F.bindsN (fun _ _ _ _ _ _ us hl => match us, hl with | [_, _], _ => rfl))
  · obtain ⟨_, _, rfl, _⟩ := h
    rfl
  · obtain ⟨a, v, rfl, ha, q⟩ := h
    refine ⟨_, pss_one (ps_ost (pv 0) (pv 1)), ?_⟩
    obtain ⟨z1, _, z2, _, _⟩ := oex_of T (x := "NotSimple") (f := "name") (by decide)
    refine Exists.intro v (And.intro rfl (Exists.intro (V.ref a) (And.intro rfl ⟨a, _, rfl, z1, z2, .inl ⟨ha, fun dx h1 h2 => q dx h1 h2⟩⟩)))

end
end T47
/-! checked_book, checked_row, checked_word, checked_simple, checked_along. -/
namespace T47
open PySem PySem.Spec PyProof.Rows L2 Pk
section
variable {P : Program} {w : World} {K : PySem.W.Frag} {mg : Str → Option Value} {base : Heap}
/-! ### isinstance of Book -/
structure InsOk (K : PySem.W.Frag) : Prop where
  a1 : PySem.W.findIn K (.ref (CB K)) "__class__" = some (some (.builtin "object.__class__"))
  a2 : PySem.W.specialIn K (.builtin "object.__class__") "__get__" = some (some (.builtin "getset_descriptor.__get__"))
  a3 : PySem.W.takesIn K (.builtin "object.__class__") = some true
  a4 : PySem.W.mroIn K (CB K) (.type "object") = some true
  a5 : PySem.W.kitOne K (.ref (CB K)) (.ref (CB K)) = some true
  a6 : ∀ n ∈ ["int", "str", "list", "tuple", "dict", "NoneType", "bool"], PySem.W.kitOne K (.type n) (.ref (CB K)) = some false
theorem ins_of (T : Tx w K mg) : InsOk K := by
  have z := (Bool.and_eq_true_iff.mp (Bool.and_eq_true_iff.mp T.more).2).1
  unfold insB at z
  obtain ⟨z1, z⟩ := Bool.and_eq_true_iff.mp z
  obtain ⟨z2, z⟩ := Bool.and_eq_true_iff.mp z
  obtain ⟨z3, z⟩ := Bool.and_eq_true_iff.mp z
  obtain ⟨z4, z⟩ := Bool.and_eq_true_iff.mp z
  obtain ⟨z5, z6⟩ := Bool.and_eq_true_iff.mp z
  exact ⟨of_decide_eq_true z1, of_decide_eq_true z2, of_decide_eq_true z3, of_decide_eq_true z4, of_decide_eq_true z5, fun n hn => of_decide_eq_true (List.all_eq_true.mp z6 n hn)⟩
theorem ev_isiC {σ : L2.St} {G : Hp} {te : TE} {v : V} {t : Value} {C : Addr} {b : Bool} (h : EvV te σ G v) (hty : ∀ H, Same G H → TyX K H v t) (hk : PySem.W.kitOne K t (.ref C) = some b) : EvD K (tCB (rIsi K) (tCons te (tCons (tC (.ref C)) tNil))) σ G (.bl b) := fun H e Q q =>
  h H e _ fun G1 H1 g1 => ⟨v, .ref C, _, _, b, rfl, .own C, hty H1 (g1.g.trans g1.gh), hk, q _ G1 H1 g1 (.bl b)⟩
theorem ev_isBook {σ : L2.St} {G : Hp} {te : TE} {v : V} {b : Kept} (T : Tx w K mg) (h : EvV te σ G v) (hb : IsBook K G v b) : EvD K (tCB (rIsi K) (tCons te (tCons (tC (.ref (CB K))) tNil))) σ G (.bl true) := by
  obtain ⟨x, dx, vr, vn, rfl, h2, h3⟩ := hb.ex
  have z := ins_of T
  exact ev_isiC h (fun H e => .base (.ins (e _ _ h2) (He.cls_ok (T.fact 99)) z.a1 z.a2 z.a3 z.a4)) z.a5
theorem ev_notBook {σ : L2.St} {G : Hp} {te : TE} {v : V} {d : D} (T : Tx w K mg) (h : EvV te σ G v) (hd : Dq K G v d) : EvD K (tCB (rIsi K) (tCons te (tCons (tC (.ref (CB K))) tNil))) σ G (.bl false) :=
  ev_isiC h (fun H e => ty_of (hd.up e)) ((ins_of T).a6 _ (by cases d <;> simp [D.ty]))
/-! ### what is odd -/
def Bad1 (K : PySem.W.Frag) (G : Hp) (vb : V) (C fd : Str) (pv : V → Prop) : Prop := (∃ d, Dq K G vb d) ∧ C = "BadBook" ∧ fd = "thing" ∧ pv = fun u => u = vb
def oneOf (b : Kept) : D → Bool
  | .str y => (lookK b y).isSome
  | _ => false
/-- the walk stops at i -/
def OddAt (ok : D → Bool) (d : D) (i : Nat) : Prop := (isL d = false ∧ i = 0) ∨ ∃ ds x, Lk d ds ∧ ds[i]? = some x ∧ ok x = false ∧ ∀ j y, j < i → ds[j]? = some y → ok y = true
def Bad2 (b : Kept) (d : D) (C fd : Str) (pv : V → Prop) : Prop := ∃ i : Nat, OddAt (oneOf b) d i ∧ C = "BadRow" ∧ fd = "index" ∧ pv = fun u => u = .int (i : Nat)
def Bad3 (d : D) (C fd : Str) (pv : V → Prop) : Prop := (∀ ds, Lk d ds → ∀ x ∈ ds, short x) ∧ ∃ i : Nat, OddAt isLetterD d i ∧ C = "BadWord" ∧ fd = "index" ∧ pv = fun u => u = .int (i : Nat)
def sp_checked_book (K : PySem.W.Frag) : Sp := spOr (fun vs H Q _ => ∃ G vb b, vs = [vb] ∧ Same G H ∧ IsBook K G vb b ∧ ∀ G' H', Gr G H G' H' → Q vb H') (spX K fun G vb ds C fd pv => ds = [] ∧ Bad1 K G vb C fd pv)
def goodRow (b : Kept) (d : D) (row : List Str) : Prop := IsRow d row ∧ row.length ≤ 40000 ∧ ∀ n ∈ row, n ∈ b.map (·.1)
def goodWord (d : D) (word : List Str) : Prop := IsRow d word ∧ word.length ≤ 40000 ∧ ∀ x ∈ word, isLetter x = true ∧ x.length ≤ 1000
def sp_checked_row (K : PySem.W.Frag) : Sp := spOr (spV K fun G vb ds d => ∃ b x row, IsBook K G vb b ∧ ds = [x] ∧ goodRow b x row ∧ d = .lst (row.map D.str)) (spX K fun G vb ds C fd pv => ∃ b x, IsBook K G vb b ∧ ds = [x] ∧ (∀ ds, Lk x ds → ds.length ≤ 40000) ∧ Bad2 b x C fd pv)
def sp_checked_word (K : PySem.W.Frag) : Sp := spOr (spV K fun G vb ds d => ∃ x word, Dq K G vb x ∧ ds = [] ∧ goodWord x word ∧ d = .lst (word.map D.str)) (spX K fun G vb ds C fd pv => ∃ x, Dq K G vb x ∧ ds = [] ∧ (∀ ds, Lk x ds → ds.length ≤ 40000) ∧ Bad3 x C fd pv)
theorem odd_at {ok : D → Bool} {d x : D} {ds : List D} {i j : Nat} (h : OddAt ok d i) (hk : Lk d ds) (hx : ds[j]? = some x) (hj : j ≤ i) : (j = i ∧ ok x = false) ∨ (j < i ∧ ok x = true) := by
  rcases h with ⟨h1, _⟩ | ⟨es, y, k1, k2, k3, k4⟩
  · rw [hk.isL] at h1; cases h1
  · have e : es = ds := by
      cases k1 <;> cases hk <;> rfl
    subst e
    by_cases e : j = i
    · subst e
      rw [k2] at hx
      cases hx
      exact .inl ⟨rfl, k3⟩
    · have hlt : j < i := by omega
      exact .inr ⟨hlt, k4 j x hlt hx⟩
theorem odd_lt {ok : D → Bool} {d : D} {ds : List D} {i : Nat} (h : OddAt ok d i) (hk : Lk d ds) : i < ds.length := by
  rcases h with ⟨h1, _⟩ | ⟨es, y, k1, k2, k3, k4⟩
  · rw [hk.isL] at h1; cases h1
  · have e : es = ds := by
      cases k1 <;> cases hk <;> rfl
    subst e
    exact (List.getElem?_eq_some_iff.mp k2).1

theorem sc_checked_book : FnScope ["book"] ["book"] (defScope T47.s_checked_book) := ⟨rfl, rfl, rfl, by decide +kernel, rfl, by decide +kernel, by decide +kernel⟩
theorem has_checked_book (T : Tx w K mg) (x_BadBook : ExcOk P w K mg base "BadBook" "thing") : Has P w K mg base (L2.CX P w) "checked_book" 4 ["book"] (sp_checked_book K) := by
  obtain ⟨fd, F⟩ := T.def_ 26
  have gm := T.glo (x := "checked_book") 38
  have z_isinstance := T.free (x := "isinstance") 86
  have m_Book := T.glo (x := "Book") 36
  have nd := sc_checked_book.nd
  refine has_ofX F gm sc_checked_book (fun _ _ _ _ _ _ us hl => match us, hl with | [_], _ => rfl) (fun vs H Q E h => ?_) (fun cdv A outer s H vs Q E hr h => ?_)
  · rcases h with ⟨_, _, _, rfl, _⟩ | h
    · rfl
    · exact spX_len h fun _ _ _ _ _ _ ⟨e, _⟩ => by rw [e]; rfl
  · refine ⟨_, (pss_cons (ps_if (pt_not (pt_val (pe_callB call_isi rfl z_isinstance (by decide +kernel) (pa_cons (pv 0) (pa_cons (pe_glob (v := .ref (He.ga K "Book")) rfl m_Book rfl) pa_nil))))) (pss_one (ps_raise rfl (takes_of rfl rfl rfl rfl) (pmk_e (k := 0) x_BadBook (hr.mono (by decide)) rfl (pa_cons (pv 0) pa_nil)))) pss_nil)
        (pss_one (ps_ret (pv 0)))), ?_⟩
    rcases h with ⟨G, vb, b, rfl, e, hb, q⟩ | ⟨G, vb, vs', ds, C, fd', pv, rfl, e, hds, ⟨rfl, ⟨d, hd⟩, rfl, rfl, rfl⟩, x⟩
    · refine h_ifq (b := false) (eb_not (eb_B (ev_isBook T (evv_var rfl) hb))) e (fun z => by cases z) fun _ G1 H1 g1 => ?_
      exact Exists.intro vb (And.intro rfl (q G1 H1 g1))
    · cases hds
      refine h_ifq (b := true) (eb_not (eb_B (ev_notBook T (evv_var rfl) hd))) e (fun _ G1 H1 g1 => ?_) (fun z => by cases z)
      refine Exists.intro vb (And.intro rfl (mko_end fun dd hdd => ?_))
      exact x dd _ vb (g1.h.trans (same_new hdd)) upd_same rfl

theorem ev_rules {σ : L2.St} {G : Hp} {te : TE} {v : V} {b : Kept} (T : Tx w K mg) (h : EvV te σ G v) (hb : IsBook K G v b) : EvD K (tFld K te "own_rules") σ G (.dic (keptD_ b)) := by
  obtain ⟨x, dx, vr, vn, rfl, h2, h3⟩ := hb.ex
  exact ev_fldV h h2 (He.cls_ok (T.fact 99)) (He.noat_ok (T.fact 100)) rfl h3
theorem lookD_oneOf (b : Kept) (d : D) : (match d with | .str y => (lookD (keptD_ b) y).isSome | _ => false) = oneOf b d := by
  cases d <;> simp [oneOf, lookD_kept]

theorem sc_checked_row : FnScope ["book", "row", "index", "thing"] ["book", "row"] (defScope T47.s_checked_row) := ⟨rfl, rfl, rfl, by decide +kernel, rfl, by decide +kernel, by decide +kernel⟩
theorem has_checked_row (T : Tx w K mg) (h_is_list : Has P w K mg base CX0 "is_list" 1 ["thing"] (sp_is_list K)) (h_is_one_of : Has P w K mg base CX0 "is_one_of" 1 ["known", "thing"] (sp_is_one_of K)) (x_BadRow : ExcOk P w K mg base "BadRow" "index") : Has P w K mg base (L2.CX P w) "checked_row" 4 ["book", "row"] (sp_checked_row K) := by
  obtain ⟨fd, F⟩ := T.def_ 27
  have gm := T.glo (x := "checked_row") 39
  have z_enumerate := T.free (x := "enumerate") 84
  have z_list := T.free (x := "list") 88
  have nd := sc_checked_row.nd
  refine has_ofX F gm sc_checked_row (fun _ _ _ _ _ _ us hl => match us, hl with | [_, _], _ => rfl) (fun vs H Q E h => ?_) (fun cdv A outer s H vs Q E hr h => ?_)
  · rcases h with h | h
    · exact spV_len h fun _ _ _ _ ⟨_, _, _, _, e, _⟩ => by rw [e]; rfl
    · exact spX_len h fun _ _ _ _ _ _ ⟨_, _, _, e, _⟩ => by rw [e]; rfl
  · refine ⟨_, (pss_cons (ps_if (pt_not (pt_val (pe_h h_is_list (hr.mono (by decide)) rfl (pa_cons (pv 1) pa_nil)))) (pss_one (ps_raise rfl (takes_of rfl rfl rfl rfl) (pmk_e (k := 0) x_BadRow (hr.mono (by decide)) rfl (pa_cons pe_int pa_nil)))) pss_nil)
        (pss_cons (ps_for (passes_of rfl) rfl (pi_enumS rfl z_enumerate (pa_cons (pv 1) pa_nil)) (pg_tup rfl (pgs_cons (pg_name (i := 2) nd rfl (Or.inl rfl)) (pgs_cons (pg_name (i := 3) nd rfl (Or.inl rfl)) pgs_nil)))
        (pss_one (ps_if (pt_not (pt_val (pe_h h_is_one_of (hr.mono (by decide)) rfl (pa_cons (pe_fld (pv 0) rfl) (pa_cons (pv 3) pa_nil))))) (pss_one (ps_raise rfl (takes_of rfl rfl rfl rfl) (pmk_e (k := 0) x_BadRow (hr.mono (by decide)) rfl (pa_cons (pv 2) pa_nil)))) pss_nil)))
        (pss_one (ps_ret (pe_callTy call_list_of rfl z_list (by decide +kernel) (pa_cons (pv 1) pa_nil)))))), ?_⟩
    have isOne : ∀ (σ : L2.St) (G1 : Hp) (b : Kept) (vb u : V) (d : D), IsBook K G1 vb b → Dq K G1 u d → σ[0]? = some (some vb) → σ[3]? = some (some u) → EvD K (tCall (sp_is_one_of K) [] E0 (tCons (tFld K (tVar 0) "own_rules") (tCons (tVar 3) tNil))) σ G1 (.bl (oneOf b d)) := fun σ G1 b vb u d hb hu h0 h3 =>
      (ev_call (ea_cons (ev_rules T (evv_var h0) hb) (ea_cons (ev_var h3 hu) ea_nil)) ⟨_, d, rfl, rfl⟩).is (congrArg D.bl (lookD_oneOf b d))
    rcases h with ⟨G, vb, vs', ds, d, rfl, e, hds, ⟨b, x, row, hb, rfl, ⟨hk, hl, hr⟩, rfl⟩, q⟩ | ⟨G, vb, vs', ds, C, fd', pv, rfl, e, hds, ⟨b, x, hb, rfl, hlen, ⟨i, ho, rfl, rfl, rfl⟩⟩, xr⟩
    · cases hds with
      | cons hx hn =>
      cases hn
      rename_i vx
      refine h_ifq (b := false) ((eb_not (eb_B (ev_call (ea_cons (ev_var rfl hx) ea_nil) ⟨x, rfl, rfl⟩))).is (by rw [hk.isL]; rfl)) e (fun z => by cases z) fun _ G1 H1 g1 => ?_
      refine f_enum (ev_var rfl (hx.up g1.g)) hk g1.gh fun G2 H2 g2 => ?_
      refine ⟨fun i σ' H' => ∃ b2 b3, σ' = [some vb, some vx, b2, b3] ∧ ∃ G', Gr G H G' H' ∧ Same G2 G', ⟨none, none, rfl, G2, g1.trans g2, Same.refl _⟩, fun i σ' H' ⟨_, _, _, G', g', s'⟩ => s'.trans g'.gh, ?_, ?_⟩
      · rintro j dj u Tt σ' H' hdj hu ⟨b2, b3, rfl, G3, g3, s3⟩ hT
        rw [List.getElem?_map] at hdj
        obtain ⟨n, hn, rfl⟩ := Option.map_eq_some_iff.mp hdj
        have gT : Gr G3 H' G3 (upd H' Tt (.tup [.int (j : Nat), u])) := Gr.ov g3.gh hT
        have hmem := hr n (List.mem_of_getElem? hn)
        refine (eb_not (eb_B (isOne _ G3 b vb u (.str n) (hb.up (g3.g)) (hu.up s3) rfl rfl))) _ gT.gh _ fun G4 H4 g4 => ?_
        have h1 : oneOf b (.str n) = true := lookK_isSome.mpr hmem
        rw [h1]
        exact iteF ⟨_, _, rfl, G4, g3.trans (gT.trans g4), s3.trans g4.g⟩
      · rintro σ' H' ⟨b2, b3, rfl, G3, g3, s3⟩
        exact h_ret (ev_list (hk.ev (ev_var rfl (hx.up g3.g)))) g3.gh fun v G4 H4 g4 hv => q v G4 H4 (g3.trans g4) hv
    · cases hds with
      | cons hx hn =>
      cases hn
      rename_i vx
      cases hL : isL x with
      | false =>
        refine h_ifq (b := true) ((eb_not (eb_B (ev_call (ea_cons (ev_var rfl hx) ea_nil) ⟨x, rfl, rfl⟩))).is (by rw [hL]; rfl)) e (fun _ G1 H1 g1 => ?_) (fun z => by cases z)
        have hi : i = 0 := by
          rcases ho with ⟨_, h⟩ | ⟨es, y, k1, _⟩
          · exact h
          · rw [k1.isL] at hL; cases hL
        subst hi
        exact mko_end fun dd hdd => xr dd _ (.int 0) (g1.h.trans (same_new hdd)) upd_same rfl
      | true =>
        obtain ⟨es, hk⟩ : ∃ es, Lk x es := by
          cases x <;> first | exact ⟨_, .lst _⟩ | exact ⟨_, .tup _⟩ | cases hL
        refine h_ifq (b := false) ((eb_not (eb_B (ev_call (ea_cons (ev_var rfl hx) ea_nil) ⟨x, rfl, rfl⟩))).is (by rw [hL]; rfl)) e (fun z => by cases z) fun _ G1 H1 g1 => ?_
        refine f_enum (ev_var rfl (hx.up g1.g)) hk g1.gh fun G2 H2 g2 => ?_
        refine ⟨fun j σ' H' => j ≤ i ∧ ∃ b2 b3, σ' = [some vb, some vx, b2, b3] ∧ ∃ G', Gr G H G' H' ∧ Same G2 G', ⟨Nat.zero_le _, none, none, rfl, G2, g1.trans g2, Same.refl _⟩, fun i σ' H' ⟨_, _, _, _, G', g', s'⟩ => s'.trans g'.gh, ?_, ?_⟩
        · rintro j dj u Tt σ' H' hdj hu ⟨hji, b2, b3, rfl, G3, g3, s3⟩ hT
          have gT : Gr G3 H' G3 (upd H' Tt (.tup [.int (j : Nat), u])) := Gr.ov g3.gh hT
          refine (eb_not (eb_B (isOne _ G3 b vb u dj (hb.up (g3.g)) (hu.up s3) rfl rfl))) _ gT.gh _ fun G4 H4 g4 => ?_
          rcases odd_at ho hk hdj hji with ⟨rfl, h1⟩ | ⟨hlt, h1⟩
          · rw [h1]
            refine iteT (Exists.intro (V.int (j : Nat)) (And.intro rfl (mko_end fun dd hdd => ?_)))
            exact xr dd _ _ ((g3.trans (gT.trans g4)).h.trans (same_new hdd)) upd_same rfl
          · rw [h1]
            exact iteF ⟨hlt, _, _, rfl, G4, g3.trans (gT.trans g4), s3.trans g4.g⟩
        · rintro σ' H' ⟨hle, _⟩
          exact absurd (odd_lt ho hk) (by omega)

theorem sc_checked_word : FnScope ["word", "index", "thing"] ["word"] (defScope T47.s_checked_word) := ⟨rfl, rfl, rfl, by decide +kernel, rfl, by decide +kernel, by decide +kernel⟩
theorem has_checked_word (T : Tx w K mg) (h_is_letter : Has P w K mg base CX0 "is_letter" 2 ["thing"] (sp_is_letter K)) (h_is_list : Has P w K mg base CX0 "is_list" 1 ["thing"] (sp_is_list K)) (x_BadWord : ExcOk P w K mg base "BadWord" "index") : Has P w K mg base (L2.CX P w) "checked_word" 4 ["word"] (sp_checked_word K) := by
  obtain ⟨fd, F⟩ := T.def_ 28
  have gm := T.glo (x := "checked_word") 40
  have z_enumerate := T.free (x := "enumerate") 84
  have z_list := T.free (x := "list") 88
  have nd := sc_checked_word.nd
  refine has_ofX F gm sc_checked_word (fun _ _ _ _ _ _ us hl => match us, hl with | [_], _ => rfl) (fun vs H Q E h => ?_) (fun cdv A outer s H vs Q E hr h => ?_)
  · rcases h with h | h
    · exact spV_len h fun _ _ _ _ ⟨_, _, _, e, _⟩ => by rw [e]; rfl
    · exact spX_len h fun _ _ _ _ _ _ ⟨_, _, e, _⟩ => by rw [e]; rfl
  · refine ⟨_, (pss_cons (ps_if (pt_not (pt_val (pe_h h_is_list (hr.mono (by decide)) rfl (pa_cons (pv 0) pa_nil)))) (pss_one (ps_raise rfl (takes_of rfl rfl rfl rfl) (pmk_e (k := 0) x_BadWord (hr.mono (by decide)) rfl (pa_cons pe_int pa_nil)))) pss_nil)
        (pss_cons (ps_for (passes_of rfl) rfl (pi_enumS rfl z_enumerate (pa_cons (pv 0) pa_nil)) (pg_tup rfl (pgs_cons (pg_name (i := 1) nd rfl (Or.inl rfl)) (pgs_cons (pg_name (i := 2) nd rfl (Or.inl rfl)) pgs_nil)))
        (pss_one (ps_if (pt_not (pt_val (pe_h h_is_letter (hr.mono (by decide)) rfl (pa_cons (pv 2) pa_nil)))) (pss_one (ps_raise rfl (takes_of rfl rfl rfl rfl) (pmk_e (k := 0) x_BadWord (hr.mono (by decide)) rfl (pa_cons (pv 1) pa_nil)))) pss_nil)))
        (pss_one (ps_ret (pe_callTy call_list_of rfl z_list (by decide +kernel) (pa_cons (pv 0) pa_nil)))))), ?_⟩
    rcases h with ⟨G, vx, vs', ds, d, rfl, e, hds, ⟨x, row, hx, rfl, ⟨hk, hl, hr⟩, rfl⟩, q⟩ | ⟨G, vx, vs', ds, C, fd', pv, rfl, e, hds, ⟨x, hx, rfl, hlen, hsh, ⟨i, ho, rfl, rfl, rfl⟩⟩, xr⟩
    · cases hds
      refine h_ifq (b := false) ((eb_not (eb_B (ev_call (ea_cons (ev_var rfl hx) ea_nil) ⟨x, rfl, rfl⟩))).is (by rw [hk.isL]; rfl)) e (fun z => by cases z) fun _ G1 H1 g1 => ?_
      refine f_enum (ev_var rfl (hx.up g1.g)) hk g1.gh fun G2 H2 g2 => ?_
      refine ⟨fun i σ' H' => ∃ b2 b3, σ' = [some vx, b2, b3] ∧ ∃ G', Gr G H G' H' ∧ Same G2 G', ⟨none, none, rfl, G2, g1.trans g2, Same.refl _⟩, fun i σ' H' ⟨_, _, _, G', g', s'⟩ => s'.trans g'.gh, ?_, ?_⟩
      · rintro j dj u Tt σ' H' hdj hu ⟨b2, b3, rfl, G3, g3, s3⟩ hT
        rw [List.getElem?_map] at hdj
        obtain ⟨n, hn, rfl⟩ := Option.map_eq_some_iff.mp hdj
        have gT : Gr G3 H' G3 (upd H' Tt (.tup [.int (j : Nat), u])) := Gr.ov g3.gh hT
        obtain ⟨h1, h2⟩ := hr n (List.mem_of_getElem? hn)
        refine (eb_not (eb_B (ev_call (ea_cons (ev_var rfl (hu.up s3)) ea_nil) ⟨.str n, rfl, fun y hy => by cases hy; exact h2, rfl⟩))) _ gT.gh _ fun G4 H4 g4 => ?_
        show if (!(isLetter n)) = true then _ else _
        rw [h1]
        exact iteF ⟨_, _, rfl, G4, g3.trans (gT.trans g4), s3.trans g4.g⟩
      · rintro σ' H' ⟨b2, b3, rfl, G3, g3, s3⟩
        exact h_ret (ev_list (hk.ev (ev_var rfl (hx.up g3.g)))) g3.gh fun v G4 H4 g4 hv => q v G4 H4 (g3.trans g4) hv
    · cases hds
      cases hL : isL x with
      | false =>
        refine h_ifq (b := true) ((eb_not (eb_B (ev_call (ea_cons (ev_var rfl hx) ea_nil) ⟨x, rfl, rfl⟩))).is (by rw [hL]; rfl)) e (fun _ G1 H1 g1 => ?_) (fun z => by cases z)
        have hi : i = 0 := by
          rcases ho with ⟨_, h⟩ | ⟨es, y, k1, _⟩
          · exact h
          · rw [k1.isL] at hL; cases hL
        subst hi
        exact mko_end fun dd hdd => xr dd _ (.int 0) (g1.h.trans (same_new hdd)) upd_same rfl
      | true =>
        obtain ⟨es, hk⟩ : ∃ es, Lk x es := by
          cases x <;> first | exact ⟨_, .lst _⟩ | exact ⟨_, .tup _⟩ | cases hL
        refine h_ifq (b := false) ((eb_not (eb_B (ev_call (ea_cons (ev_var rfl hx) ea_nil) ⟨x, rfl, rfl⟩))).is (by rw [hL]; rfl)) e (fun z => by cases z) fun _ G1 H1 g1 => ?_
        refine f_enum (ev_var rfl (hx.up g1.g)) hk g1.gh fun G2 H2 g2 => ?_
        refine ⟨fun j σ' H' => j ≤ i ∧ ∃ b2 b3, σ' = [some vx, b2, b3] ∧ ∃ G', Gr G H G' H' ∧ Same G2 G', ⟨Nat.zero_le _, none, none, rfl, G2, g1.trans g2, Same.refl _⟩, fun i σ' H' ⟨_, _, _, _, G', g', s'⟩ => s'.trans g'.gh, ?_, ?_⟩
        · rintro j dj u Tt σ' H' hdj hu ⟨hji, b2, b3, rfl, G3, g3, s3⟩ hT
          have gT : Gr G3 H' G3 (upd H' Tt (.tup [.int (j : Nat), u])) := Gr.ov g3.gh hT
          refine (eb_not (eb_B (ev_call (ea_cons (ev_var rfl (hu.up s3)) ea_nil) ⟨dj, rfl, hsh es hk dj (List.mem_of_getElem? hdj), rfl⟩))) _ gT.gh _ fun G4 H4 g4 => ?_
          rcases odd_at ho hk hdj hji with ⟨rfl, h1⟩ | ⟨hlt, h1⟩
          · rw [h1]
            refine iteT (Exists.intro (V.int (j : Nat)) (And.intro rfl (mko_end fun dd hdd => ?_)))
            exact xr dd _ _ ((g3.trans (gT.trans g4)).h.trans (same_new hdd)) upd_same rfl
          · rw [h1]
            exact iteF ⟨hlt, _, _, rfl, G4, g3.trans (gT.trans g4), s3.trans g4.g⟩
        · rintro σ' H' ⟨hle, _⟩
          exact absurd (odd_lt ho hk) (by omega)

end
end T47
/-! checked_simple, checked_along. -/
namespace T47
open PySem PySem.Spec PyProof.Rows L2 Pk
theorem ev_lenDic {K : PySem.W.Frag} {σ : L2.St} {G : Hp} {te : TE} {kvs : List (Str × D)} (h : EvD K te σ G (.dic kvs)) : EvD K (tCB (fun xs H Q => ∃ (a : Addr) (kvs : List (Key × V)), xs = [.ref a] ∧ Rd H a (.dK kvs) ∧ Q (.int kvs.length) H) (tCons te tNil)) σ G (.int kvs.length) := fun H e Q q => h H e _ fun v G1 H1 g1 hv => by
  cases hv with
  | @dic a o ws _ hr hk hs =>
    refine ⟨a, ws, rfl, .inr ⟨o, g1.gh _ _ hr⟩, ?_⟩
    rw [dk_len hk]
    exact q _ G1 H1 g1 (.int _)
theorem call_lenDF {X : Cx} : CallR X (.builtin "len") (fun xs H Q => ∃ (a : Addr) (kvs : List (Key × V)), xs = [.ref a] ∧ Rd H a (.dK kvs) ∧ Q (.int kvs.length) H) := by
  intro pns sh τ H xs us Q IV r h
  obtain ⟨a, kvs, rfl, ha, q⟩ := h
  obtain ⟨u, rfl, ru⟩ := vals1 r
  cases ru
  exact d_len IV ha fun t s' J => ⟨.int kvs.length, H, J, ⟨t, rfl⟩, q⟩
theorem dFold_short {k : D → Str} {v : D → D} : ∀ (ds : List D) (acc : List (Str × D)), (acc.map (·.1)).Nodup → ¬ (acc.map (·.1) ++ ds.map k).Nodup → (ds.foldl (dStep (fun _ => true) k v) acc).length < acc.length + ds.length
  | [], acc, h1, h2 => absurd (by simpa using h1) h2
  | d :: ds, acc, h1, h2 => by
    rw [List.foldl_cons]
    have e : dStep (fun _ => true) k v acc d = putD acc (k d) (v d) := by unfold dStep; rw [if_pos rfl]
    rw [e]
    by_cases hm : (acc.any fun kv => decide (kv.1 = k d)) = true
    · have hl : (putD acc (k d) (v d)).length = acc.length := by unfold putD; rw [if_pos hm, List.length_map]
      have := dFold_len (fun _ => true) k v ds (putD acc (k d) (v d))
      rw [List.length_cons]
      omega
    · have hp : putD acc (k d) (v d) = acc ++ [(k d, v d)] := by unfold putD; rw [if_neg hm]
      rw [hp]
      have hno : k d ∉ acc.map (·.1) := by
        intro z
        obtain ⟨p, hp, e⟩ := List.mem_map.mp z
        exact hm (List.any_eq_true.mpr ⟨p, hp, by simpa using e⟩)
      have := dFold_short (k := k) (v := v) ds (acc ++ [(k d, v d)]) (by
        rw [List.map_append]
        exact List.nodup_append.mpr ⟨h1, by simp, fun a ha b hb => by
          simp only [List.map_cons, List.map_nil, List.mem_singleton] at hb
          rintro rfl
          exact hno (hb ▸ ha)⟩) (by simpa [List.map_append] using h2)
      rw [List.length_append] at this
      rw [List.length_cons]
      simp only [List.length_cons, List.length_nil] at this
      omega
def simpleR (rs : List Rule) : Bool := decide (rs.map (·.1)).Nodup
def simpleB (b : Kept) : Prop := ∀ p ∈ b, simpleR p.2 = true
def letD : D → Str
  | .tup (.str x :: _) => x
  | _ => ("" : Str)
def rulesOf (b : Kept) (n : Str) : List Rule := (lookK b n).getD []
/-- the first name, in their order, of which some letter stands twice -/
def BadS (b : Kept) (C fd : Str) (pv : V → Prop) : Prop := ∃ (i : Nat) (n : Str), (srt (b.map (·.1)))[i]? = some n ∧ simpleR (rulesOf b n) = false ∧ (∀ j m, j < i → (srt (b.map (·.1)))[j]? = some m → simpleR (rulesOf b m) = true) ∧ C = "NotSimple" ∧ fd = "name" ∧ pv = fun u => u = .str n
section
variable {P : Program} {w : World} {K : PySem.W.Frag} {mg : Str → Option Value} {base : Heap}
def sp_checked_simple (K : PySem.W.Frag) : Sp := spOr (fun vs H Q _ => ∃ G vb b, vs = [vb] ∧ Same G H ∧ IsBook K G vb b ∧ sized b ∧ simpleB b ∧ ∀ G' H', Gr G H G' H' → Q vb H') (spX K fun G vb ds C fd pv => ds = [] ∧ (Bad1 K G vb C fd pv ∨ ∃ b, IsBook K G vb b ∧ sized b ∧ BadS b C fd pv))
theorem ev_simple {K : PySem.W.Frag} {σ : L2.St} {G : Hp} {b : Kept} {n : Str} {vr : V} (hs : sized b) (hn : n ∈ b.map (·.1)) (hv : Dq K G vr (.dic (keptD_ b))) (h1 : σ[1]? = some (some vr)) (h2 : σ[2]? = some (some (.str n))) (hl : ∀ u v, wipe (((wipe σ [3, 4]).set 3 (some u)).set 4 (some v)) [3, 4] = wipe σ [3, 4])
    (hw1 : ∀ u v, (((wipe σ [3, 4]).set 3 (some u)).set 4 (some v))[3]? = some (some u)) : EvB (tTest (tOp (rI0 fun i j => .bl (decide (i < j))) (tCB (fun xs H Q => ∃ (a : Addr) (kvs : List (Key × V)), xs = [.ref a] ∧ Rd H a (.dK kvs) ∧ Q (.int kvs.length) H) (tCons (tFrz (tDc (iSeq K (tDGet (tVar 1) (tVar 2))) (gTup K 2 (gCons (gName 3) (gCons (gName 4) gNil))) tYes (tVar 3) (tC (.bl true)) [3, 4])) tNil))
      (tCB (fun xs H Q => ∃ x n, xs = [x] ∧ LenV K x H n ∧ Q (.int n) H) (tCons (tDGet (tVar 1) (tVar 2)) tNil)))) σ G (!simpleR (rulesOf b n)) := by
  obtain ⟨rs, hrs⟩ := Option.isSome_iff_exists.mp (lookK_isSome.mpr hn)
  have hro : rulesOf b n = rs := by unfold rulesOf; rw [hrs]; rfl
  have hget : EvD K (tDGet (tVar 1) (tVar 2)) σ G (.lst (rs.map keptRule)) := ev_dget (ev_var h1 hv) (ev_var h2 (.str n)) (by rw [lookD_kept, hrs]; rfl)
  have hm : ∃ p ∈ b, p.2 = rs := by
    unfold lookK at hrs
    obtain ⟨p, hp, e⟩ := Option.map_eq_some_iff.mp hrs
    exact ⟨p, List.mem_of_find?_eq_some hp, e⟩
  obtain ⟨p, hp, rfl⟩ := hm
  have hlen := (hs.2 p hp).1
  have hd := ev_dc (K := K) hget (.lst _) (by rw [List.length_map]; omega) (fun _ => true) letD (fun _ => .bl true) (fun di σ2 G2 => ∃ v w l r, di = .tup [.str l, r] ∧ Dq K G2 v (.str l) ∧ σ2 = ((wipe σ [3, 4]).set 3 (some v)).set 4 (some w)) (vs := [3, 4]) (g := gTup K 2 (gCons (gName 3) (gCons (gName 4) gNil))) (tt := tYes) (tk := tVar 3) (tv := tC (.bl true))
    (fun di hdi => by
      obtain ⟨r, _, rfl⟩ := List.mem_map.mp hdi
      exact fun x G1 H1 e1 hx Q q => tg_two x G1 H1 e1 hx Q fun σ2 ⟨v, w, k1, k2, k3⟩ => q σ2 ⟨v, w, r.1, _, rfl, k1, k3⟩)
    (fun di σ2 G1 _ ⟨v, w, l, r, _, _, e⟩ => by rw [e]; exact hl v w) (fun _ _ _ _ _ _ => eb_yes) (fun di σ2 G1 _ _ ⟨v, w, l, r, e1, e2, e3⟩ _ => by rw [e1, e3]; exact ev_var (hw1 v w) e2) (fun _ _ _ _ _ _ _ => ev_bl)
  refine (eb_test (ev_I0 (z := .bl (!simpleR (rulesOf b n))) (ev_lenDic hd) ((Lk.lst (p.2.map keptRule)).len hget) ?_))
  rw [hro]
  have hk : (p.2.map keptRule).map letD = p.2.map (·.1) := by rw [List.map_map]; rfl
  have : decide ((((p.2.map keptRule).foldl (dStep (fun _ => true) letD fun _ => .bl true) []).length : Int) < ((p.2.map keptRule).length : Int)) = !simpleR p.2 := by
    unfold simpleR
    by_cases hnd : (p.2.map (·.1)).Nodup
    · rw [dFold_all _ [] (fun _ _ => rfl) (by rw [List.map_nil, List.nil_append, hk]; exact hnd)]
      simp [hnd]
    · have := dFold_short (k := letD) (v := fun _ => .bl true) (p.2.map keptRule) [] (by simp) (by rw [List.map_nil, List.nil_append, hk]; exact hnd)
      simp only [List.length_nil, Nat.zero_add] at this
      rw [List.length_map] at this
      simp [hnd]
      exact this
  rw [← this]
  exact .bl _

theorem sc_checked_simple : FnScope ["book", "rules", "name", "letter", "row"] ["book"] (defScope T47.s_checked_simple) := ⟨rfl, rfl, rfl, by decide +kernel, rfl, by decide +kernel, by decide +kernel⟩
theorem has_checked_simple (T : Tx w K mg) (h_checked_book : Has P w K mg base (L2.CX P w) "checked_book" 4 ["book"] (sp_checked_book K)) (x_NotSimple : ExcOk P w K mg base "NotSimple" "name") : Has P w K mg base (L2.CX P w) "checked_simple" 5 ["book"] (sp_checked_simple K) := by
  obtain ⟨fd, F⟩ := T.def_ 29
  have gm := T.glo (x := "checked_simple") 41
  have z_len := T.free (x := "len") 87
  have z_sorted := T.free (x := "sorted") 92
  have nd := sc_checked_simple.nd
  refine has_ofX F gm sc_checked_simple (fun _ _ _ _ _ _ us hl => match us, hl with | [_], _ => rfl) (fun vs H Q E h => ?_) (fun cdv A outer s H vs Q E hr h => ?_)
  · rcases h with ⟨_, _, _, rfl, _⟩ | h
    · rfl
    · exact spX_len h fun _ _ _ _ _ _ ⟨e, _⟩ => by rw [e]; rfl
  · refine ⟨_, (pss_cons (ps_set (i := 1) nd rfl (Or.inl rfl) (pe_fld (pe_hX (E := E) h_checked_book (hr.mono (by decide)) rfl (takes_of rfl rfl rfl rfl) (fun _ _ _ _ z => z) (pa_cons (pv 0) pa_nil)) rfl))
        (pss_cons (ps_for (passes_of rfl) rfl (pi_seq (pe_callB (call_sortedD rfl) rfl z_sorted (by decide +kernel) (pa_cons (pv 1) pa_nil))) (pg_name (i := 2) nd rfl (Or.inl rfl))
        (pss_one (ps_if (pt_cmpR op_lt (pe_callB call_lenDF rfl z_len (by decide +kernel) (pa_cons (pe_frz (pe_dc (own := [("letter", 3), ("row", 4)]) (g := gTup K 2 (gCons (gName 3) (gCons (gName 4) gNil))) (tt := tYes) rfl nd (pi_seq (pe_dget (hu_of hr) (pv 1) (pv 2) (fun _ _ => rfl))) (blkOk_by (own := [("letter", 3), ("row", 4)]) (N := ["book", "rules", "name", "letter", "row"]) (sc := (defScope T47.s_checked_simple)) (by decide +kernel)) (fun _ _ _ _ _ => (pg_tup rfl (pgs_cons (pg_name (i := 3) nd rfl (Or.inl rfl)) (pgs_cons (pg_name (i := 4) nd rfl (Or.inl rfl)) pgs_nil)))) (fun _ _ _ _ _ => pts_nil) (fun _ _ _ _ _ => (pv 3)) (fun _ _ _ _ _ => pe_bl))) pa_nil)) (pe_callB call_len rfl z_len (by decide +kernel) (pa_cons (pe_dget (hu_of hr) (pv 1) (pv 2) (fun _ _ => rfl)) pa_nil)) (nomark _)) (pss_one (ps_raise rfl (takes_of rfl rfl rfl rfl) (pmk_e (k := 0) x_NotSimple (hr.mono (by decide)) rfl (pa_cons (pv 2) pa_nil)))) pss_nil)))
        (pss_one (ps_ret (pv 0))))), ?_⟩
    have cbook : ∀ (σ : L2.St) (G : Hp) (vb : V) (b : Kept), IsBook K G vb b → σ[0]? = some (some vb) → EvV (tCall (sp_checked_book K) [] E (tCons (tVar 0) tNil)) σ G vb := fun σ G vb b hb h0 H e Q q => ⟨vb, h0, .inl ⟨G, vb, b, rfl, e, hb, q⟩⟩
    rcases h with ⟨G, vb, b, rfl, e, hb, hsz, hsi, q⟩ | ⟨G, vb, vs', ds, C, fd', pv, rfl, e, hds, ⟨rfl, hbad⟩, x⟩
    · refine h_set (ev_rules T (cbook _ G vb b hb rfl) hb) e fun vr G1 H1 g1 hvr => ?_
      have hnm : ((keptD_ b).map (·.1)) = b.map (·.1) := by unfold keptD_; rw [List.map_map]; rfl
      refine f_seq (ev_sortedD (ev_var (i := 1) rfl hvr) (by unfold keptD_; rw [List.length_map]; have := hsz.1; omega)) (.lst _) g1.gh fun G2 H2 g2 => ?_
      refine ⟨fun j σ' H' => ∃ b2, σ' = [some vb, some vr, b2, none, none] ∧ ∃ G', Gr G H G' H' ∧ Same G2 G', ⟨none, rfl, G2, g1.trans g2, Same.refl _⟩, fun i σ' H' ⟨_, _, G', g', s'⟩ => s'.trans g'.gh, ?_, ?_⟩
      · rintro j dj u σ' H' hdj hu ⟨b2, rfl, G3, g3, s3⟩
        rw [List.getElem?_map] at hdj
        obtain ⟨n, hn, rfl⟩ := Option.map_eq_some_iff.mp hdj
        have hmem : n ∈ b.map (·.1) := by rw [← hnm]; exact (srt_perm _).mem_iff.mp (List.mem_of_getElem? hn)
        cases hu
        refine ev_simple hsz hmem (hvr.up (g2.g.trans s3)) rfl rfl (fun _ _ => rfl) (fun _ _ => rfl) H' g3.gh _ fun G4 H4 g4 => ?_
        have hs1 : simpleR (rulesOf b n) = true := by
          obtain ⟨rs, hrs⟩ := Option.isSome_iff_exists.mp (lookK_isSome.mpr hmem)
          have hro : rulesOf b n = rs := by unfold rulesOf; rw [hrs]; rfl
          rw [hro]
          unfold lookK at hrs
          obtain ⟨p, hp, e⟩ := Option.map_eq_some_iff.mp hrs
          rw [← e]
          exact hsi p (List.mem_of_find?_eq_some hp)
        rw [hs1]
        exact iteF ⟨_, rfl, G4, g3.trans g4, s3.trans g4.g⟩
      · rintro σ' H' ⟨b2, rfl, G3, g3, s3⟩
        exact Exists.intro vb (And.intro rfl (q G3 H' g3))
    · cases hds
      rcases hbad with ⟨⟨d, hd⟩, rfl, rfl, rfl⟩ | ⟨b, hb, hsz, i, n, h1, h2, h3, rfl, rfl, rfl⟩
      · exact Exists.intro vb (And.intro rfl (.inr ⟨G, vb, [], [], _, _, _, rfl, e, .nil, ⟨rfl, ⟨d, hd⟩, rfl, rfl, rfl⟩, x⟩))
      · refine h_set (ev_rules T (cbook _ G vb b hb rfl) hb) e fun vr G1 H1 g1 hvr => ?_
        have hnm : ((keptD_ b).map (·.1)) = b.map (·.1) := by unfold keptD_; rw [List.map_map]; rfl
        refine f_seq (ev_sortedD (ev_var (i := 1) rfl hvr) (by unfold keptD_; rw [List.length_map]; have := hsz.1; omega)) (.lst _) g1.gh fun G2 H2 g2 => ?_
        refine ⟨fun j σ' H' => j ≤ i ∧ ∃ b2, σ' = [some vb, some vr, b2, none, none] ∧ ∃ G', Gr G H G' H' ∧ Same G2 G', ⟨Nat.zero_le _, none, rfl, G2, g1.trans g2, Same.refl _⟩, fun i σ' H' ⟨_, _, _, G', g', s'⟩ => s'.trans g'.gh, ?_, ?_⟩
        · rintro j dj u σ' H' hdj hu ⟨hji, b2, rfl, G3, g3, s3⟩
          rw [List.getElem?_map] at hdj
          obtain ⟨m, hm, rfl⟩ := Option.map_eq_some_iff.mp hdj
          have hmem : m ∈ b.map (·.1) := by rw [← hnm]; exact (srt_perm _).mem_iff.mp (List.mem_of_getElem? hm)
          cases hu
          refine ev_simple hsz hmem (hvr.up (g2.g.trans s3)) rfl rfl (fun _ _ => rfl) (fun _ _ => rfl) H' g3.gh _ fun G4 H4 g4 => ?_
          rw [hnm] at hm
          by_cases hj : j = i
          · subst hj
            rw [h1] at hm
            cases hm
            rw [h2]
            refine iteT (Exists.intro (V.str n) (And.intro rfl (mko_end fun dd hdd => ?_)))
            exact x dd _ _ ((g3.trans g4).h.trans (same_new hdd)) upd_same rfl
          · have hlt : j < i := by omega
            rw [h3 j m hlt hm]
            exact iteF ⟨hlt, _, rfl, G4, g3.trans g4, s3.trans g4.g⟩
        · rintro σ' H' ⟨hle, _⟩
          have := (List.getElem?_eq_some_iff.mp h1).1
          rw [List.length_map, hnm] at hle
          omega

end
end T47
/-! checked_along; the walk of a word. -/
namespace T47
open PySem PySem.Spec PyProof.Rows L2 Pk
section
variable {P : Program} {w : World} {K : PySem.W.Frag} {mg : Str → Option Value} {base : Heap}
/-- what is refused of a book, a row and a word -/
def BadAll (K : PySem.W.Frag) (G : Hp) (vb : V) (ds : List D) (C fd : Str) (pv : V → Prop) : Prop := ∃ x y, ds = [x, y] ∧ (Bad1 K G vb C fd pv ∨ (∃ b, IsBook K G vb b ∧ sized b ∧ BadS b C fd pv) ∨
  (∃ b, IsBook K G vb b ∧ sized b ∧ simpleB b ∧ (∀ ds, Lk x ds → ds.length ≤ 40000) ∧ Bad2 b x C fd pv) ∨ (∃ b row, IsBook K G vb b ∧ sized b ∧ simpleB b ∧ goodRow b x row ∧ (∀ ds, Lk y ds → ds.length ≤ 40000) ∧ Bad3 y C fd pv))
structure Good (K : PySem.W.Frag) (G : Hp) (vb : V) (b : Kept) (x y : D) (row word : List Str) : Prop where
  bk : IsBook K G vb b
  sz : sized b
  si : simpleB b
  rw : goodRow b x row
  wd : goodWord y word
theorem Good.up {G G1 : Hp} {vb : V} {b : Kept} {x y : D} {row word : List Str} (h : Good K G vb b x y row word) (e : Same G G1) : Good K G1 vb b x y row word := ⟨h.bk.up e, h.sz, h.si, h.rw, h.wd⟩
def sp_checked_along (K : PySem.W.Frag) : Sp := spOr (spV K fun G vb ds d => ∃ b x y row word, ds = [x, y] ∧ Good K G vb b x y row word ∧ d = .tup [.lst (row.map D.str), .lst (word.map D.str)]) (spX K fun G vb ds C fd pv => BadAll K G vb ds C fd pv)
theorem Bad1.up {G G1 : Hp} {vb : V} {C fd : Str} {pv : V → Prop} (h : Bad1 K G vb C fd pv) (e : Same G G1) : Bad1 K G1 vb C fd pv := by
  obtain ⟨⟨d, hd⟩, r⟩ := h
  exact ⟨⟨d, hd.up e⟩, r⟩
theorem BadAll.up {G G1 : Hp} {vb : V} {ds : List D} {C fd : Str} {pv : V → Prop} (h : BadAll K G vb ds C fd pv) (e : Same G G1) : BadAll K G1 vb ds C fd pv := by
  obtain ⟨x, y, hd, h⟩ := h
  refine ⟨x, y, hd, ?_⟩
  rcases h with h | ⟨b, h1, h2⟩ | ⟨b, h1, h2⟩ | ⟨b, row, h1, h2⟩
  · exact .inl (h.up e)
  · exact .inr (.inl ⟨b, h1.up e, h2⟩)
  · exact .inr (.inr (.inl ⟨b, h1.up e, h2⟩))
  · exact .inr (.inr (.inr ⟨b, row, h1.up e, h2⟩))

theorem sc_checked_along : FnScope ["book", "row", "word", "known"] ["book", "row", "word"] (defScope T47.s_checked_along) := ⟨rfl, rfl, rfl, by decide +kernel, rfl, by decide +kernel, by decide +kernel⟩
theorem has_checked_along (T : Tx w K mg) (h_checked_row : Has P w K mg base (L2.CX P w) "checked_row" (4) ["book", "row"] (sp_checked_row K)) (h_checked_simple : Has P w K mg base (L2.CX P w) "checked_simple" (5) ["book"] (sp_checked_simple K)) (h_checked_word : Has P w K mg base (L2.CX P w) "checked_word" (4) ["word"] (sp_checked_word K)) : Has P w K mg base (L2.CX P w) "checked_along" (6) ["book", "row", "word"] (sp_checked_along K) := by
  obtain ⟨fd, F⟩ := T.def_ 30
  have gm := T.glo (x := "checked_along") 42
  have nd := sc_checked_along.nd
  refine has_ofX F gm sc_checked_along (fun _ _ _ _ _ _ us hl => match us, hl with | [_, _, _], _ => rfl) (fun vs H Q E h => ?_) (fun cdv A outer s H vs Q E hr h => ?_)
  · rcases h with h | h
    · exact spV_len h fun _ _ _ _ ⟨_, _, _, _, _, e, _⟩ => by rw [e]; rfl
    · exact spX_len h fun _ _ _ _ _ _ ⟨_, _, e, _⟩ => by rw [e]; rfl
  · refine ⟨_, (pss_cons (ps_set (i := 3) nd rfl (Or.inl rfl) (pe_hX (E := E) h_checked_row (hr.mono (by omega)) rfl (takes_of rfl rfl rfl rfl) (fun _ _ _ _ z => z) (pa_cons (pe_hX (E := E) h_checked_simple (hr.mono (by omega)) rfl (takes_of rfl rfl rfl rfl) (fun _ _ _ _ z => z) (pa_cons (pv 0) pa_nil)) (pa_cons (pv 1) pa_nil))))
        (pss_one (ps_ret (pe_tup (pa_cons (pv 3) (pa_cons (pe_hX (E := E) h_checked_word (hr.mono (by omega)) rfl (takes_of rfl rfl rfl rfl) (fun _ _ _ _ z => z) (pa_cons (pv 2) pa_nil)) pa_nil)))))), ?_⟩
    have chSimple : ∀ (σ : L2.St) (G : Hp) (vb : V) (b : Kept), IsBook K G vb b → sized b → simpleB b → σ[0]? = some (some vb) → EvV (tCall (sp_checked_simple K) [] E (tCons (tVar 0) tNil)) σ G vb := fun σ G vb b hb hs hsi h0 H e Q q => ⟨vb, h0, .inl ⟨G, vb, b, rfl, e, hb, hs, hsi, q⟩⟩
    rcases h with ⟨G, vb, vs', ds, d, rfl, e, hds, ⟨b, x, y, row, word, rfl, hg, rfl⟩, q⟩ | ⟨G, vb, vs', ds, C, fd', pv, rfl, e, hds, ⟨x, y, rfl, hbad⟩, xr⟩
    · cases hds with
      | cons hx hds =>
      cases hds with
      | cons hy hn =>
      cases hn
      refine h_set (d := .lst (row.map D.str)) (ev_callO (eav_cons (chSimple _ G vb b hg.bk hg.sz hg.si rfl) (ea_cons (ev_var rfl hx) ea_nil)) fun G1 e1 => ⟨b, x, row, hg.bk.up e1, rfl, hg.rw, rfl⟩) e fun v1 G1 H1 g1 hv1 => ?_
      refine h_ret (ev_tup (ea_cons (ev_var rfl hv1) (ea_cons (d := .lst (word.map D.str)) ?_ ea_nil)) (by show 2 ≤ 100000; decide)) g1.gh fun v G2 H2 g2 hv => q v G2 H2 (g1.trans g2) hv
      exact fun H e Q q => Exists.intro _ (And.intro rfl (.inl ⟨G1, _, [], [], _, rfl, e, .nil, ⟨y, word, hy.up g1.g, rfl, hg.wd, rfl⟩, fun v G' H' g hv => q v G' H' g hv⟩))
    · cases hds with
      | cons hx hds =>
      cases hds with
      | cons hy hn =>
      cases hn
      rcases hbad with hbad | ⟨b, hb, hsz, hbad⟩ | ⟨b, hb, hsz, hsi, hl, hbad⟩ | ⟨b, row, hb, hsz, hsi, hrow, hl, hbad⟩
      · exact Exists.intro vb (And.intro rfl (.inr ⟨G, vb, [], [], C, fd', pv, rfl, e, .nil, ⟨rfl, .inl hbad⟩, xr⟩))
      · exact Exists.intro vb (And.intro rfl (.inr ⟨G, vb, [], [], C, fd', pv, rfl, e, .nil, ⟨rfl, .inr ⟨b, hb, hsz, hbad⟩⟩, xr⟩))
      · exact x_callO (eav_cons (chSimple _ G vb b hb hsz hsi rfl) (ea_cons (ev_var rfl hx) ea_nil)) (fun G1 e1 => ⟨b, x, hb.up e1, rfl, hl, hbad⟩) e xr
      · refine h_set (d := .lst (row.map D.str)) (ev_callO (eav_cons (chSimple _ G vb b hb hsz hsi rfl) (ea_cons (ev_var rfl hx) ea_nil)) fun G1 e1 => ⟨b, x, row, hb.up e1, rfl, hrow, rfl⟩) e fun v1 G1 H1 g1 hv1 => ?_
        exact Exists.intro v1 (And.intro rfl (Exists.intro _ (And.intro rfl (.inr ⟨G1, _, [], [], C, fd', pv, rfl, g1.gh, .nil, ⟨y, hy.up g1.g, rfl, hl, hbad⟩, xr.go g1.h⟩))))

/-! ### the walk -/
/-- what is left after one letter -/
def nextR (b : Kept) (row : List Str) (x : Str) : Option (List Str) := match row with
  | [] => none
  | n :: rest => ((rulesOf b n).find? fun r => decide (r.1 = x)).map fun r => r.2 ++ rest
def along (b : Kept) : List Str → List Str → List (List Str)
  | row, [] => [row]
  | row, x :: word => match nextR b row x with
    | none => [row]
    | some r => row :: along b r word
def leftIn (b : Kept) (row word : List Str) : Option (List Str) := if word.length < (along b row word).length then (along b row word).getLast? else none
def faultIn (b : Kept) (row word : List Str) : Option Nat := if (along b row word).length ≤ word.length then some ((along b row word).length - 1) else match (along b row word).getLast? with
  | some [] => none
  | _ => some word.length
def optRow : Option (List Str) → D
  | none => .non
  | some r => .lst (r.map D.str)
def optNat : Option Nat → D
  | none => .non
  | some n => .int (n : Nat)
/-- new things -/
def newOf (H G : Hp) : Hp := fun b => match H b with
  | none => match G b with
    | some (.frz _ _) => none
    | o => o
  | some _ => none
theorem new_sub {H G : Hp} : Same (newOf H G) G := fun b o h => by
  unfold newOf at h
  split at h
  · split at h
    · cases h
    · exact h
  · cases h
theorem new_was {H G : Hp} {a : Addr} {o : HO} (h : newOf H G a = some o) : H a = none := by
  unfold newOf at h
  cases e : H a with
  | none => rfl
  | some u => rw [e] at h; cases h
theorem new_plain {H G : Hp} {a : Addr} {od : Obj} {u : HO} : newOf H G a ≠ some (.frz od u) := fun h => by
  unfold newOf at h
  split at h
  · split at h
    · cases h
    · rename_i n; exact n _ _ h
  · cases h
theorem new_at {H G : Hp} {a : Addr} {o : HO} (h : H a = none) (hG : G a = some o) (n : ∀ od u, o ≠ .frz od u := by intro _ _ z; cases z) : newOf H G a = some o := by
  unfold newOf
  rw [h]
  simp only [hG]
  split
  · rename_i e; exact absurd (Option.some.inj e) (n _ _)
  · rfl
theorem new_mono {H H1 G G1 : Hp} (e : Same H H1) (g : Same G G1) : Same (newOf H1 G) (newOf H G1) := fun b o h =>
  new_at (same_none e (new_was h)) (g _ _ (new_sub _ _ h)) fun od u z => by rw [z] at h; exact new_plain h

end
end T47
/-! Results that are new things. -/
namespace Pk
open PySem PySem.Spec PyProof.Rows L2 T47
section
variable {K : PySem.W.Frag} {σ : L2.St} {G G1 H : Hp} {te tb ta : TE} {as : TA} {d : D} {ds : List D} {vb : V} {tt : TT} {b : Bool} {D0 : L2.Ends}
def EvN (K : PySem.W.Frag) (te : TE) (σ : L2.St) (G : Hp) (d : D) : Prop := ∀ H, Same G H → ∀ Q : VK, (∀ v G' H', Gr G H G' H' → Dq K (newOf H G') v d → Q v H') → te σ H Q
theorem EvN.toD (h : EvN K te σ G d) : EvD K te σ G d := fun H e Q q => h H e Q fun v G' H' g hv => q v G' H' g (hv.up new_sub)
theorem EvN.is {d' : D} (h : EvN K te σ G d) (e : d = d') : EvN K te σ G d' := e ▸ h
theorem new_up {H H1 G1 : Hp} {v : V} (e : Same H H1) (h : Dq K (newOf H1 G1) v d) : Dq K (newOf H G1) v d := h.up (new_mono e (Same.refl _))
theorem EvN.up (h : EvN K te σ G d) (e : Same G G1) : EvN K te σ G1 d := fun H e1 Q q => h H (e.trans e1) Q fun v G' H' g hv => by
  obtain ⟨g1, g2⟩ := g.up e e1
  exact q v _ H' g1 (hv.up (new_mono (Same.refl _) g2))
theorem new_lst {H G1 : Hp} {p : Addr} {xs : List Str} (hH : H p = none) : Dq K (newOf H (upd G1 p (.lst (xs.map V.str)))) (.ref p) (.lst (xs.map D.str)) := .lst (.inl (new_at hH upd_same)) (dqs_of_str _)
theorem evn_lst {xs : List Str} (h : EvA K as σ G (xs.map D.str)) (hl : xs.length ≤ 100000) : EvN K (tLst as) σ G (.lst (xs.map D.str)) := fun H e Q q =>
  h H e _ fun vs G1 H1 g1 hvs => by
    have := dqs_str hvs
    subst this
    exact ⟨by rw [List.length_map]; exact Nat.le_trans hl (by decide), fun p hp => q _ _ _ (g1.trans (Gr.new g1.gh hp)) (new_lst (same_none g1.h hp))⟩
theorem evn_list {xs : List Str} (h : EvD K te σ G (.lst (xs.map D.str)) ∨ EvD K te σ G (.tup (xs.map D.str))) : EvN K (tCB (fun xs H Q => ∃ p ys, xs = [.ref p] ∧ (SqL K H p ys ∨ SqT K H p ys) ∧ ∀ l, H l = none → Q (.ref l) (upd H l (.lst ys))) (tCons te tNil)) σ G (.lst (xs.map D.str)) := fun H e Q q => by
  rcases h with h | h
  · refine h H e _ fun v G1 H1 g1 hv => ?_
    cases hv with
    | @lst a vs _ hr hs =>
      have := dqs_str hs
      subst this
      exact ⟨a, _, rfl, .inl (seqL (Rd.up g1.gh hr)), fun p hp => q _ _ _ (g1.trans (Gr.new g1.gh hp)) (new_lst (same_none g1.h hp))⟩
  · refine h H e _ fun v G1 H1 g1 hv => ?_
    cases hv with
    | @tup a vs _ hr hs =>
      have := dqs_str hs
      subst this
      exact ⟨a, _, rfl, .inr (seqT (Rd.up g1.gh hr)), fun p hp => q _ _ _ (g1.trans (Gr.new g1.gh hp)) (new_lst (same_none g1.h hp))⟩
theorem evn_sorted {xs : List Str} (h : EvD K te σ G (.lst (xs.map D.str))) (hl : xs.length < 64) : EvN K (tCB (rSortedS K) (tCons te tNil)) σ G (.lst ((srt xs).map D.str)) := fun H e Q q => h H e _ fun v G1 H1 g1 hv => by
  cases hv with
  | @lst a vs _ hr hs =>
    have := dqs_str hs
    subst this
    refine ⟨a, xs, rfl, seqL (Rd.up g1.gh hr), hl, fun ys p h1 h2 hp => ?_⟩
    rw [srt_of h1 (sortedS_le h2)]
    exact q _ _ _ (g1.trans (Gr.new g1.gh hp)) (new_lst (same_none g1.h hp))
theorem dq_scal {w : V} {N : Hp} (e : d.scal = some w) : Dq K N w d := by
  cases d <;> first | (cases e; first | exact .non | exact .bl _ | exact .int _ | exact .str _) | cases e
theorem evn_scal {w : V} (h : EvD K te σ G d) (e : d.scal = some w) : EvN K te σ G d := fun H e1 Q q => h H e1 Q fun v G' H' g hv => by
  have := scal_eq hv e
  subst this
  exact q _ G' H' g (dq_scal e)
theorem evn_if (h : EvB tt σ G b) (h1 : b = true → EvN K ta σ G d) (h2 : b = false → EvN K tb σ G d) : EvN K (tIf tt ta tb) σ G d := fun H e Q q => h H e _ fun G1 H1 g1 => by
  cases b with
  | true => exact iteT (((h1 rfl).up g1.g) H1 g1.gh _ fun v G2 H2 g2 hv => q v G2 H2 (g1.trans g2) (new_up g1.h hv))
  | false => exact iteF (((h2 rfl).up g1.g) H1 g1.gh _ fun v G2 H2 g2 hv => q v G2 H2 (g1.trans g2) (new_up g1.h hv))
/-- a def that tells new things of a value and data -/
def spN (K : PySem.W.Frag) (f : Hp → V → List D → D → Prop) : Sp := fun vs H Q _ => ∃ G vb vs' ds d, vs = vb :: vs' ∧ Same G H ∧ Dqs K G vs' ds ∧ f G vb ds d ∧ ∀ v G' H', Gr G H G' H' → Dq K (newOf H G') v d → Q v H'
theorem spN_len {n : Nat} {f : Hp → V → List D → D → Prop} {vs : List V} {H : Hp} {Q : VK} {E : XK} (h : spN K f vs H Q E) (hn : ∀ G vb ds d, f G vb ds d → ds.length + 1 = n) : vs.length = n := by
  obtain ⟨G, vb, vs', ds, d, rfl, _, hds, hf, _⟩ := h
  rw [List.length_cons, hds.length]
  exact hn _ _ _ _ hf
theorem evn_call {f : Hp → V → List D → D → Prop} {E : XK} (h : EvAV K as σ G vb ds) (hf : ∀ G1, Same G G1 → f G1 vb ds d) : EvN K (tCall (spN K f) [] E as) σ G d := fun H e Q q =>
  h H e _ fun vs G1 H1 g1 hvs => ⟨G1, vb, vs, ds, d, by rw [List.append_nil], g1.gh, hvs, hf G1 g1.g, fun v G' H' g hv => q v G' H' (g1.trans g) (new_up g1.h hv)⟩
theorem evn_callO {f : Hp → V → List D → D → Prop} {s2 : Sp} {E : XK} (h : EvAV K as σ G vb ds) (hf : ∀ G1, Same G G1 → f G1 vb ds d) : EvN K (tCall (spOr (spN K f) s2) [] E as) σ G d := fun H e Q q =>
  h H e _ fun vs G1 H1 g1 hvs => .inl ⟨G1, vb, vs, ds, d, by rw [List.append_nil], g1.gh, hvs, hf G1 g1.g, fun v G' H' g hv => q v G' H' (g1.trans g) (new_up g1.h hv)⟩
theorem hn_ret (h : EvN K te σ G d) (e : Same G H) (k : ∀ v G1 H1, Gr G H G1 H1 → Dq K (newOf H G1) v d → D0.rt v H1) : tRet te D0 σ H := h H e _ k
/-- x = [e], a list that may change -/
theorem hn_lst1 {i : Nat} {u : TS} (h : EvN K te σ G d) (e : Same G H) (k : ∀ v G1 H1 a, Gr G H G1 H1 → Dq K (newOf H G1) v d → H1 a = none → u D0 (σ.set i (some (.ref a))) (upd H1 a (.lst [v]))) : tSeq (tAsg (tLst (tCons te tNil)) (gName i)) u D0 σ H :=
  h H e _ fun v G1 H1 g1 hv => ⟨by show 1 ≤ sizeLine; decide, fun a ha => k v G1 H1 a g1 hv ha⟩
theorem hn_set {i : Nat} {u : TS} (h : EvN K te σ G d) (e : Same G H) (k : ∀ v G1 H1, Gr G H G1 H1 → Dq K (newOf H G1) v d → u D0 (σ.set i (some v)) H1) : tSeq (tAsg te (gName i)) u D0 σ H := h H e _ k
end
end Pk
/-! The law's stream. -/
namespace Pk
open PySem PySem.Spec PyProof.Rows L2 T47
structure Sm where
  s : Addr
  c : Addr
abbrev Lmax : Nat := 100000000000000
structure Strm (S : Sm) (L : Nat) (H : Hp) : Prop where
  ex : S.s ≠ S.c ∧ ∃ (cells : List Int) (n r : Int) (t : Nat), H S.s = some (.lst [.ref S.c, .int n, .int (t : Nat), .int r]) ∧ H S.c = some (.lst (cells.map V.int)) ∧ cells.length ≤ 63 ∧ 0 ≤ n ∧ t ≤ L ∧ 0 ≤ r ∧ r < 2147483647
structure Wl (S : Sm) (G : Hp) (L : Nat) (H : Hp) : Prop where
  g : Same G H
  gs : G S.s = none
  gc : G S.c = none
  st : Strm S L H
structure Gs (S : Sm) (L L' : Nat) (G H G' H' : Hp) : Prop where
  g : Same G G'
  w : Wl S G' L' H'
  h : ∀ b o, b ≠ S.s → b ≠ S.c → H b = some o → H' b = some o
  nw : ∀ b o, G' b = some o → G b = some o ∨ H b = none
  kp : ∀ b o, H b = some o → ∃ o', H' b = some o'
theorem Strm.same {S : Sm} {L : Nat} {H H' : Hp} (h : Strm S L H) (e : Same H H') : Strm S L H' := by
  obtain ⟨h0, cells, n, r, t, h1, h2, h3⟩ := h.ex
  exact ⟨h0, cells, n, r, t, e _ _ h1, e _ _ h2, h3⟩
theorem Wl.ss {S : Sm} {G : Hp} {L : Nat} {H : Hp} (w : Wl S G L H) : ∃ o, H S.s = some o := by
  obtain ⟨_, cells, n, r, t, h1, _⟩ := w.st.ex
  exact ⟨_, h1⟩
theorem Wl.cc {S : Sm} {G : Hp} {L : Nat} {H : Hp} (w : Wl S G L H) : ∃ o, H S.c = some o := by
  obtain ⟨_, cells, n, r, t, _, h2, _⟩ := w.st.ex
  exact ⟨_, h2⟩
theorem Gs.of {S : Sm} {G : Hp} {L : Nat} {H G' H' : Hp} (w : Wl S G L H) (g : Gr G H G' H') : Gs S L L G H G' H' := by
  obtain ⟨_, h1⟩ := w.ss
  obtain ⟨_, h2⟩ := w.cc
  exact ⟨g.g, ⟨g.gh, g.apart h1 w.gs, g.apart h2 w.gc, w.st.same g.h⟩, fun b o _ _ e => g.h b o e, g.nw, fun b o e => ⟨o, g.h b o e⟩⟩
theorem Gs.refl {S : Sm} {G : Hp} {L : Nat} {H : Hp} (w : Wl S G L H) : Gs S L L G H G H := Gs.of w (Gr.refl w.g)
theorem Gs.trans {S : Sm} {L L1 L2 : Nat} {G H G1 H1 G2 H2 : Hp} (a : Gs S L L1 G H G1 H1) (b : Gs S L1 L2 G1 H1 G2 H2) : Gs S L L2 G H G2 H2 := by
  refine ⟨a.g.trans b.g, b.w, fun x o h1 h2 e => b.h x o h1 h2 (a.h x o h1 h2 e), fun x o h => ?_, fun x o e => ?_⟩
  · rcases b.nw x o h with h | h
    · exact a.nw x o h
    · cases e : H x with
      | none => exact .inr rfl
      | some u =>
        obtain ⟨o', e'⟩ := a.kp x u e
        rw [h] at e'
        cases e'
  · obtain ⟨o', e'⟩ := a.kp x o e
    exact b.kp x o' e'
theorem Strm.more {S : Sm} {L L' : Nat} {H : Hp} (h : Strm S L H) (e : L ≤ L') : Strm S L' H := by
  obtain ⟨h0, cells, n, r, t, h1, h2, h3, h4, h5, h6⟩ := h.ex
  exact ⟨h0, cells, n, r, t, h1, h2, h3, h4, by omega, h6⟩
theorem Wl.more {S : Sm} {G : Hp} {L L' : Nat} {H : Hp} (w : Wl S G L H) (e : L ≤ L') : Wl S G L' H := ⟨w.g, w.gs, w.gc, w.st.more e⟩
theorem Gs.more {S : Sm} {L L1 L2 : Nat} {G H G1 H1 : Hp} (a : Gs S L L1 G H G1 H1) (e : L1 ≤ L2) : Gs S L L2 G H G1 H1 := ⟨a.g, a.w.more e, a.h, a.nw, a.kp⟩
/-- a thing that may change, apart from the stream, stays as it is -/
theorem Gs.apart {S : Sm} {L L1 : Nat} {G H G1 H1 : Hp} (a : Gs S L L1 G H G1 H1) {p : Addr} {o : HO} (h : H p = some o) (hg : G p = none) : G1 p = none := by
  cases e : G1 p with
  | none => rfl
  | some u =>
    rcases a.nw p u e with q | q
    · rw [hg] at q; cases q
    · rw [h] at q; cases q
section
variable {K : PySem.W.Frag} {S : Sm} {σ : L2.St} {G G1 H : Hp} {te ta tb : TE} {as : TA} {tt : TT} {d : D} {ds : List D} {p p' : D → Prop} {n m L : Nat} {D0 : L2.Ends} {u : TS} {v0 : V}
def EvS (K : PySem.W.Frag) (S : Sm) (te : TE) (σ : L2.St) (G : Hp) (n : Nat) (p : D → Prop) : Prop := ∀ L H, Wl S G L H → L + n ≤ Lmax → ∀ Q : VK, (∀ v d G' H', Gs S L (L + n) G H G' H' → p d → Dq K G' v d → Q v H') → te σ H Q
def EvBS (S : Sm) (tt : TT) (σ : L2.St) (G : Hp) (n : Nat) (p : Bool → Prop) : Prop := ∀ L H, Wl S G L H → L + n ≤ Lmax → ∀ Q : Bool → Hp → Prop, (∀ b G' H', Gs S L (L + n) G H G' H' → p b → Q b H') → tt σ H Q
def EvAS (K : PySem.W.Frag) (S : Sm) (ta : TA) (σ : L2.St) (G : Hp) (n : Nat) (p : List D → Prop) : Prop := ∀ L H, Wl S G L H → L + n ≤ Lmax → ∀ Q : List V → Hp → Prop, (∀ vs ds G' H', Gs S L (L + n) G H G' H' → p ds → Dqs K G' vs ds → Q vs H') → ta σ H Q
theorem EvD.toS (h : EvD K te σ G d) (hp : p d) : EvS K S te σ G 0 p := fun L H w _ Q q => h H w.g Q fun v G' H' g hv => q v d G' H' (Gs.of w g) hp hv
theorem EvP.toS (h : EvP K te σ G p) : EvS K S te σ G 0 p := fun L H w _ Q q => h H w.g Q fun v d G' H' g hp hv => q v d G' H' (Gs.of w g) hp hv
theorem EvB.toS {b : Bool} {pb : Bool → Prop} (h : EvB tt σ G b) (hp : pb b) : EvBS S tt σ G 0 pb := fun L H w _ Q q => h H w.g Q fun G' H' g => q b G' H' (Gs.of w g) hp
theorem EvS.imp (h : EvS K S te σ G n p) (hp : ∀ d, p d → p' d) : EvS K S te σ G n p' := fun L H w hl Q q => h L H w hl Q fun v d G' H' g hd hv => q v d G' H' g (hp d hd) hv
theorem eas_nil : EvAS K S tNil σ G 0 (fun ds => ds = []) := fun L H w _ Q q => q [] [] G H (Gs.refl w) rfl .nil
theorem EvA.toS {pl : List D → Prop} (h : EvA K as σ G ds) (hp : pl ds) : EvAS K S as σ G 0 pl := fun L H w _ Q q => h H w.g Q fun vs G' H' g hv => q vs ds G' H' (Gs.of w g) hp hv
/-- the first of two, then the rest, which may lean on it -/
theorem eas_cons {pl pr : List D → Prop} (h : EvS K S te σ G n p) (hr : ∀ d G1, Same G G1 → p d → EvAS K S as σ G1 m pr) (hp : ∀ d ds, p d → pr ds → pl (d :: ds)) : EvAS K S (tCons te as) σ G (n + m) pl := fun L H w hl Q q =>
  h L H w (by omega) _ fun v d G1 H1 g1 hd hv => hr d G1 g1.g hd (L + n) H1 g1.w (by omega) _ fun vs ds G2 H2 g2 hds hvs => q (v :: vs) (d :: ds) G2 H2 (by have := g1.trans g2; rwa [Nat.add_assoc] at this) (hp d ds hd hds) (.cons (hv.up g2.g) hvs)
/-- a def of the stream and data -/
def spS (K : PySem.W.Frag) (n : Nat) (f : List D → (D → Prop) → Prop) : Sp := fun vs H Q _ => ∃ S G L vs' ds p, vs = .ref S.s :: vs' ∧ Wl S G L H ∧ L + n ≤ Lmax ∧ Dqs K G vs' ds ∧ f ds p ∧ ∀ v d G' H', Gs S L (L + n) G H G' H' → p d → Dq K G' v d → Q v H'
theorem spS_len {k n : Nat} {f : List D → (D → Prop) → Prop} {vs : List V} {H : Hp} {Q : VK} {E : XK} (h : spS K n f vs H Q E) (hn : ∀ ds p, f ds p → ds.length + 1 = k) : vs.length = k := by
  obtain ⟨S, G, L, vs', ds, p, rfl, _, _, hds, hf, _⟩ := h
  rw [List.length_cons, hds.length]
  exact hn _ _ hf
theorem evs_call {f : List D → (D → Prop) → Prop} {pl : List D → Prop} {i : Nat} {E : XK} (h0 : σ[i]? = some (some (.ref S.s))) (h : EvAS K S as σ G n pl) (hf : ∀ ds, pl ds → f ds p) : EvS K S (tCall (spS K m f) [] E (tCons (tVar i) as)) σ G (n + m) p := fun L H w hl Q q =>
  ⟨_, h0, h L H w (by omega) _ fun vs ds G1 H1 g1 hds hvs => ⟨S, G1, L + n, vs, ds, p, by rw [List.append_nil], g1.w, by omega, hvs, hf ds hds, fun v d G2 H2 g2 hd hv => q v d G2 H2 (by have := g1.trans g2; rwa [Nat.add_assoc] at this) hd hv⟩⟩
theorem hs_set {i : Nat} (h : EvS K S te σ G n p) (w : Wl S G L H) (hl : L + n ≤ Lmax) (k : ∀ v d G1 H1, Gs S L (L + n) G H G1 H1 → p d → Dq K G1 v d → u D0 (σ.set i (some v)) H1) : tSeq (tAsg te (gName i)) u D0 σ H := h L H w hl _ k
theorem hs_ret (h : EvS K S te σ G n p) (w : Wl S G L H) (hl : L + n ≤ Lmax) (k : ∀ v d G1 H1, Gs S L (L + n) G H G1 H1 → p d → Dq K G1 v d → D0.rt v H1) : tRet te D0 σ H := h L H w hl _ k
theorem evs_if {n1 : Nat} {pb : Bool → Prop} (h : EvBS S tt σ G n pb) (h1 : ∀ G1, Same G G1 → pb true → EvS K S ta σ G1 n1 p) (h2 : ∀ G1, Same G G1 → pb false → EvS K S tb σ G1 n1 p) : EvS K S (tIf tt ta tb) σ G (n + n1) p := fun L H w hl Q q => h L H w (by omega) _ fun b G1 H1 g1 hb => by
  cases b with
  | true => exact iteT (h1 G1 g1.g hb (L + n) H1 g1.w (by omega) Q fun v d G2 H2 g2 hd hv => q v d G2 H2 (by have := g1.trans g2; rwa [Nat.add_assoc] at this) hd hv)
  | false => exact iteF (h2 G1 g1.g hb (L + n) H1 g1.w (by omega) Q fun v d G2 H2 g2 hd hv => q v d G2 H2 (by have := g1.trans g2; rwa [Nat.add_assoc] at this) hd hv)
theorem yesT {A B : Hp → Prop} (h : A H) : tYes σ H fun b H3 => if b = true then A H3 else B H3 := by
  show if true = true then A H else B H
  rw [if_pos rfl]
  exact h
theorem h_while {c : TT} {tb rest : TS} (Out : L2.St → Hp → Prop) (W : Nat → L2.St → Hp → Prop) (start : ∃ m, W m σ H) (tail : ∀ σ' H', Out σ' H' → rest D0 σ' H')
    (turn : (∀ σ' H', Out σ' H' → rest D0 σ' H') → ∀ m σ H, W m σ H → c σ H fun b H1 => if b = true then ∃ N : L2.St → Hp → Prop, (∀ σ' H', N σ' H' → ∃ m', m' < m ∧ W m' σ' H') ∧ tb { D0 with nx := N, ct := N, bk := rest D0 } σ H1 else rest D0 σ H1) :
    tSeq (tWhile c tb) rest D0 σ H := ⟨W, start, turn tail⟩
/-- x = list(e), a list that may change -/
theorem h_listM {i : Nat} {x : D} (h : EvD K te σ G x) (hk : Lk x ds) (e : Same G H) (k : ∀ G1 H1 l ys, Gr G H G1 H1 → Dqs K G1 ys ds → H1 l = none → u D0 (σ.set i (some (.ref l))) (upd H1 l (.lst ys))) :
    tSeq (tAsg (tCB (fun xs H Q => ∃ p ys, xs = [.ref p] ∧ (SqL K H p ys ∨ SqT K H p ys) ∧ ∀ l, H l = none → Q (.ref l) (upd H l (.lst ys))) (tCons te tNil)) (gName i)) u D0 σ H := h H e _ fun v G1 H1 g1 hv => by
  cases hk with
  | lst ds =>
    cases hv with
    | @lst a xs _ hr hs => exact ⟨a, xs, rfl, .inl (seqL (Rd.up g1.gh hr)), fun l hl => k G1 H1 l xs g1 hs hl⟩
  | tup ds =>
    cases hv with
    | @tup a xs _ hr hs => exact ⟨a, xs, rfl, .inr (seqT (Rd.up g1.gh hr)), fun l hl => k G1 H1 l xs g1 hs hl⟩
theorem Dqs.erase {ds : List D} {vs : List V} {G : Hp} (h : Dqs K G vs ds) (i : Nat) : Dqs K G (vs.eraseIdx i) (ds.eraseIdx i) := by
  induction ds generalizing vs i with
  | nil => cases h; exact .nil
  | cons d ds ih =>
    cases h with
    | cons a b =>
      cases i with
      | zero => exact b
      | succ i => exact .cons a (ih b i)
theorem perm_erase {α : Type} : ∀ {xs : List α} {i : Nat} {x : α}, xs[i]? = some x → (x :: xs.eraseIdx i).Perm xs
  | [], _, _, h => by simp at h
  | y :: xs, 0, x, h => by simp at h; subst h; exact .refl _
  | y :: xs, i + 1, x, h => by
    have := perm_erase (xs := xs) (i := i) (x := x) (by simpa using h)
    exact (List.Perm.swap _ _ _).trans (this.cons y)
end
end Pk
/-! Comprehensions that draw. -/
namespace Pk
open PySem PySem.Spec PyProof.Rows L2 T47
section
variable {K : PySem.W.Frag} {S : Sm} {σ : L2.St} {G G1 H : Hp} {te ta tb tl : TE} {as : TA} {tt : TT} {d : D} {ds : List D} {p p' : D → Prop} {n m L : Nat} {D0 : L2.Ends} {u : TS} {v0 : V} {wi : TI}
theorem gs_upd {L L' : Nat} {G H G1 H1 : Hp} {q : Addr} {o : HO} (w : Wl S G L H) (g : Gs S L L' G H G1 H1) (h0 : H q = none) (h1 : G1 q = none) : Gs S L L' G H G1 (upd H1 q o) := by
  obtain ⟨o1, e1⟩ := w.ss
  obtain ⟨o2, e2⟩ := w.cc
  have n1 : q ≠ S.s := fun z => by rw [z, e1] at h0; cases h0
  have n2 : q ≠ S.c := fun z => by rw [z, e2] at h0; cases h0
  refine ⟨g.g, ⟨same_upd g.w.g h1, g.w.gs, g.w.gc, ?_⟩, fun b u z1 z2 e => by rw [upd_ne (ne_of_none e h0)]; exact g.h b u z1 z2 e, g.nw, fun b u e => by rw [upd_ne (ne_of_none e h0)]; exact g.kp b u e⟩
  obtain ⟨z0, cells, nn, r, t, z1, z2, z3⟩ := g.w.st.ex
  exact ⟨z0, cells, nn, r, t, by rw [upd_ne n1.symm]; exact z1, by rw [upd_ne n2.symm]; exact z2, z3⟩
theorem gs_new {L L' : Nat} {G H G1 H1 : Hp} {q : Addr} {o : HO} (w : Wl S G L H) (g : Gs S L L' G H G1 H1) (h0 : H1 q = none) : Gs S L L' G H G1 (upd H1 q o) := by
  have hq : H q = none := by
    cases e : H q with
    | none => rfl
    | some u =>
      obtain ⟨o', e'⟩ := g.kp q u e
      rw [h0] at e'
      cases e'
  exact gs_upd w g hq (same_none g.w.g h0)
/-- what may change comes to stay -/
theorem gs_keep {L L' : Nat} {G H G1 H1 : Hp} {q : Addr} {o : HO} (w : Wl S G L H) (g : Gs S L L' G H G1 H1) (h0 : H q = none) (h1 : G1 q = none) (h2 : H1 q = some o) : Gs S L L' G H (upd G1 q o) H1 := by
  obtain ⟨o1, e1⟩ := w.ss
  obtain ⟨o2, e2⟩ := w.cc
  have n1 : q ≠ S.s := fun z => by rw [z, e1] at h0; cases h0
  have n2 : q ≠ S.c := fun z => by rw [z, e2] at h0; cases h0
  refine ⟨g.g.trans (same_new h1), ⟨same_mut g.w.g h2, by rw [upd_ne n1.symm]; exact g.w.gs, by rw [upd_ne n2.symm]; exact g.w.gc, g.w.st⟩, g.h, fun b u e => ?_, g.kp⟩
  by_cases hb : b = q
  · rw [hb]; exact .inr h0
  · rw [upd_ne hb] at e
    exact g.nw b u e
def SrcS (K : PySem.W.Frag) (S : Sm) (wi : TI) (σ : L2.St) (G : Hp) (n : Nat) (ps : List D → Prop) : Prop := ∀ L H, Wl S G L H → L + n ≤ Lmax → ∀ R : It → Hp → Prop, (∀ ds G1 H1 J, Gs S L (L + n) G H G1 H1 → ps ds → (∀ i H', i < ds.length → Same G1 H' → J.go i H') → (∀ H', Same G1 H' → J.stop ds.length H') →
  (∀ i H' x H'', i < ds.length → Same G1 H' → J.yld i H' x H'' → H'' = H' ∧ ∃ di, ds[i]? = some di ∧ Dq K G1 x di) → R J H1) → wi σ H R
theorem srcs_of {ps : List D → Prop} (h : Src K wi σ G ds) (hp : ps ds) : SrcS K S wi σ G 0 ps := fun L H w _ R q => h H w.g R fun G1 H1 J g1 a b c => q ds G1 H1 J (Gs.of w g1) hp a b c
theorem srcs_seq {ps : List D → Prop} (h : EvS K S tl σ G n p) (hp : ∀ d, p d → ∃ ds, Lk d ds ∧ ps ds) : SrcS K S (iSeq K tl) σ G n ps := fun L H w hl R q => h L H w hl _ fun v d G1 H1 g1 hd hv => by
  obtain ⟨ds, hk, hps⟩ := hp d hd
  cases hk with
  | lst ds =>
    cases hv with
    | @lst a xs _ hr hs =>
      exact .inl ⟨a, rfl, ⟨xs, seqL (Rd.up g1.w.g hr)⟩, q ds G1 H1 _ g1 hps (fun i H' hlt e' => ⟨xs, xs[i]'(by rw [hs.length]; exact hlt), seqL (Rd.up e' hr), by simp [hs.length, hlt]⟩) (fun H' e' => ⟨xs, seqL (Rd.up e' hr), Nat.le_of_eq hs.length⟩)
        fun i H' x H'' hlt e' y => ⟨y.1, hs.at (y.2 xs (seqL (Rd.up e' hr)))⟩⟩
  | tup ds =>
    cases hv with
    | @tup a xs _ hr hs =>
      exact .inr (.inl ⟨a, rfl, ⟨xs, seqT (Rd.up g1.w.g hr)⟩, q ds G1 H1 _ g1 hps (fun i H' hlt e' => ⟨xs, xs[i]'(by rw [hs.length]; exact hlt), seqT (Rd.up e' hr), by simp [hs.length, hlt]⟩) (fun H' e' => ⟨xs, seqT (Rd.up e' hr), Nat.le_of_eq hs.length⟩)
        fun i H' x H'' hlt e' y => ⟨y.1, hs.at (y.2 xs (seqT (Rd.up e' hr)))⟩⟩)
def intsD (k : Nat) : List D := (List.range k).map fun i => D.int (i : Nat)
theorem srcs_range {ps : List D → Prop} (h : EvS K S te σ G n p) (hp : ∀ d, p d → ∃ k : Nat, d = .int (k : Nat) ∧ k ≤ 100000 ∧ ps (intsD k)) : SrcS K S (iRng1 (tCons te tNil)) σ G n ps := fun L H w hl R q => h L H w hl _ fun v d G1 H1 g1 hd hv => by
  obtain ⟨k, rfl, hk, hps⟩ := hp d hd
  cases hv
  refine ⟨(k : Nat), rfl, by omega, by omega, q (intsD k) G1 H1 _ g1 hps (fun i H' hlt _ => ?_) (fun H' _ => ?_) fun i H' x H'' hlt _ y => ⟨y.1, .int (i : Nat), ?_, ?_⟩⟩
  · unfold intsD at hlt
    simp only [List.length_map, List.length_range] at hlt
    show i < ((k : Nat) : Int).toNat
    omega
  · show ((k : Nat) : Int).toNat ≤ (intsD k).length
    unfold intsD
    simp
  · unfold intsD at hlt ⊢
    simp only [List.length_map, List.length_range] at hlt
    simp [hlt]
  · rw [y.2, Int.zero_add]
    exact .int _
/-- the list so far, at Dl -/
def LcS (K : PySem.W.Frag) (S : Sm) (L0 m : Nat) (G0 H0 : Hp) (Dl : Addr) (R : D → D → Prop) (ds : List D) (i : Nat) (H : Hp) : Prop := ∃ G acc ys, Gs S L0 (L0 + i * m) G0 H0 G H ∧ G Dl = none ∧ H Dl = some (.lst acc) ∧ Dqs K G acc ys ∧ All2 R (ds.take i) ys
theorem all2_snoc {α β : Type} {R : α → β → Prop} {as : List α} {bs : List β} {a : α} {b : β} (h : All2 R as bs) (r : R a b) : All2 R (as ++ [a]) (bs ++ [b]) := by
  induction h with
  | nil => exact .cons r .nil
  | cons q _ ih => exact .cons q ih
theorem evs_lc {j B : Nat} {ps : List D → Prop} (h : SrcS K S wi σ G n ps) (hB : ∀ ds, ps ds → ds.length ≤ B) (hB2 : B < 50000) (hw : ∀ u, wipe ((wipe σ [j]).set j (some u)) [j] = wipe σ [j]) (R : D → D → Prop)
    (he : ∀ ds di u G1, ps ds → di ∈ ds → Same G G1 → Dq K G1 u di → EvS K S te ((wipe σ [j]).set j (some u)) G1 m (R di)) : EvS K S (tLc wi (gName j) tYes te [j]) σ G (n + B * m) (fun d => ∃ ds ys, ps ds ∧ d = .lst ys ∧ All2 R ds ys) := fun L H w hl Q q =>
  h L H w (by omega) _ fun ds G1 H1 J g1 hps hgo hst hy Dl hD => by
    have hlen := hB ds hps
    have hD0 : H Dl = none := by
      cases e : H Dl with
      | none => rfl
      | some o =>
        obtain ⟨o', e'⟩ := g1.kp Dl o e
        rw [hD] at e'
        cases e'
    have sm : ∀ i (H' : Hp), LcS K S (L + n) m G1 H1 Dl R ds i H' → Same G1 H' := fun i H' ⟨G2, acc, ys, g2, _⟩ => g2.g.trans g2.w.g
    have w1 := g1.w
    refine lc_gen (n := ds.length) (fun i x => ∃ di, ds[i]? = some di ∧ Dq K G1 x di) (fun i H' => LcS K S (L + n) m G1 H1 Dl R ds i H') ⟨G1, [], [], by rw [Nat.zero_mul, Nat.add_zero]; exact gs_new w1 (Gs.refl w1) hD, same_none w1.g hD, upd_same, .nil, .nil⟩
      (fun i H' hlt p => hgo i H' hlt (sm i H' p)) (fun H' p => hst H' (sm _ H' p)) (fun i H' x H'' hlt p y => hy i H' x H'' hlt (sm i H' p) y) (fun i x H' hlt ⟨di, hdi, hq⟩ pv => ?_) (fun H' pv => ?_)
    · obtain ⟨G2, acc, ys, g2, k1, k2, k3, k4⟩ := pv
      have hm := List.mem_of_getElem? hdi
      have hmul : i * m + m ≤ B * m := by
        have : (i + 1) * m ≤ B * m := Nat.mul_le_mul_right m (by omega)
        rw [Nat.add_mul, Nat.one_mul] at this
        exact this
      refine ⟨hw x, iteT (B := LcS K S (L + n) m G1 H1 Dl R ds (i + 1) H') (he ds di x G2 hps hm (g1.g.trans g2.g) (hq.up g2.g) (L + n + i * m) H' g2.w (by omega) _ fun y dy G3 H3 g3 hy' hvy => ?_)⟩
      obtain ⟨o1, e1⟩ := w1.ss
      obtain ⟨o2, e2⟩ := w1.cc
      have n1 : Dl ≠ S.s := fun z => by rw [z, e1] at hD; cases hD
      have n2 : Dl ≠ S.c := fun z => by rw [z, e2] at hD; cases hD
      have k2' := g3.h _ _ n1 n2 k2
      have k1' := g3.apart k2 k1
      refine ⟨acc, k2', ?_, G3, acc ++ [y], ys ++ [dy], ?_, k1', upd_same, (k3.up g3.g).snoc hvy, ?_⟩
      · have := k4.length
        rw [k3.length, ← this, List.length_take]
        exact Nat.lt_of_le_of_lt (by omega : min i ds.length ≤ 50000) (show 50000 < sizeLine by decide)
      · have := g2.trans g3
        rw [Nat.add_mul, Nat.one_mul, ← Nat.add_assoc]
        exact gs_upd w1 this hD k1'
      · rw [take_next hdi]
        exact all2_snoc k4 hy'
    · obtain ⟨G2, acc, ys, g2, k1, k2, k3, k4⟩ := pv
      rw [List.take_length] at k4
      have hmul : ds.length * m ≤ B * m := Nat.mul_le_mul_right m hlen
      have g3 := (gs_keep w1 g2 hD k1 k2).more (show L + n + ds.length * m ≤ L + (n + B * m) by omega)
      exact q (.ref Dl) (.lst ys) _ H' (g1.trans g3) ⟨ds, ys, hps, rfl, k4⟩ (.lst (.inl upd_same) (k3.up (same_new k1)))
end
end Pk
namespace Pk
open PySem PySem.Spec PyProof.Rows L2
/-! ### rules whose reading names the written part by itself, for use within a block -/
section
variable {X : Cx} {K : PySem.W.Frag} {o e tg l : Expr} {es : List Expr} {to tl : TE} {t : TA} {name : Str} {apos cpos pos : Pos} {T id : String} {r : V → List V → Hp → VK → Prop}
theorem pe_bmK (hK : X.K = K) (pa : PlainAttrs T) (slot : Slot T name id) (hty : typeOf (.builtin id) = pure (.type "method_descriptor")) (hm : MtR X id r) (ho : PE X o to) (ha : PA X (e :: es) t)
    (hbase : attributeBase o name X.env (eval o X.env) = eval o X.env := by rfl)
    (hfew : ((backTo cpos (starEach (e :: es) X.env)).all (fun x => !x.1) && (backToKw cpos (keywordEach [] X.env)).all (fun x => x.1.isSome) && decide ((e :: es).length + ([] : List Keyword).length + (if ([] : List Keyword).isEmpty then 0 else 1) < 30)) = true := by rfl)
    (hline : (apos.endLine == cpos.line) = true := by rfl) (hs : starEach (e :: es) X.env = (false, eval e X.env) :: starEach es X.env := by rfl) (hplain : (backTo cpos (starEach es X.env)).any (·.1) = false := by rfl) :
    PE X (.Call (.Attribute o name apos) (e :: es) [] cpos) (tBM K T r to t) := hK ▸ pe_bm pa slot hty hm ho ha hbase hfew hline hs hplain
theorem pi_seqK (hK : X.K = K) (hl : PE X l tl) : PI X tg l (iSeq K tl) := hK ▸ pi_seq hl
theorem ix_seqK (hK : X.K = K) : IxR X (rIx K) := hK ▸ ix_seq
theorem call_lenK (hK : X.K = K) : CallR X (.builtin "len") (fun xs H Q => ∃ x n, xs = [x] ∧ LenV K x H n ∧ Q (.int n) H) := hK ▸ call_len
theorem cr_allK (hK : X.K = K) (hc : X.calm = true) : CallR X (.builtin "all") (rAll K) := hK ▸ cr_all hc
theorem cr_sumK (hK : X.K = K) (hc : X.calm = true) : CallR X (.builtin "sum") (rSum K) := hK ▸ cr_sum hc
end
end Pk
/-! left_behind, rows_along. -/
namespace T47
open PySem PySem.Spec PyProof.Rows L2 Pk
section
variable {P : Program} {w : World} {K : PySem.W.Frag} {mg : Str → Option Value} {base : Heap}
def few (b : Kept) : Prop := ∀ p ∈ b, ∀ r ∈ p.2, r.2.length ≤ 4
def rowIn (b : Kept) (row : List Str) : Prop := ∀ n ∈ row, n ∈ b.map (·.1)
def closedB (b : Kept) : Prop := ∀ p ∈ b, ∀ r ∈ p.2, ∀ n ∈ r.2, n ∈ b.map (·.1)
def sp_left_behind (K : PySem.W.Frag) : Sp := spN K fun G vb ds d => ∃ b row x, IsBook K G vb b ∧ sized b ∧ few b ∧ rowIn b row ∧ row.length ≤ 90000 ∧ ds = [.lst (row.map D.str), .str x] ∧ d = optRow (nextR b row x)
theorem rulesOf_mem {b : Kept} {n : Str} (h : n ∈ b.map (·.1)) : lookK b n = some (rulesOf b n) ∧ (n, rulesOf b n) ∈ b := by
  obtain ⟨rs, hrs⟩ := Option.isSome_iff_exists.mp (lookK_isSome.mpr h)
  have hro : rulesOf b n = rs := by unfold rulesOf; rw [hrs]; rfl
  rw [hro]
  refine ⟨hrs, ?_⟩
  unfold lookK at hrs
  obtain ⟨p, hp, e⟩ := Option.map_eq_some_iff.mp hrs
  have h2 := List.find?_some hp
  have h3 : p.1 = n := by simpa using h2
  have := List.mem_of_find?_eq_some hp
  rw [← e, ← h3]
  exact this
theorem ev_ofName {σ : L2.St} {G : Hp} {te ty : TE} {v : V} {b : Kept} {n : Str} (T : Tx w K mg) (h : EvV te σ G v) (hb : IsBook K G v b) (hy : EvD K ty σ G (.str n)) (hn : n ∈ b.map (·.1)) : EvD K (tDGet (tFld K te "own_rules") ty) σ G (.lst ((rulesOf b n).map keptRule)) :=
  ev_dget (ev_rules T h hb) hy (by rw [lookD_kept, (rulesOf_mem hn).1]; rfl)
theorem cut_tail {α : Type} (x : α) (xs : List α) : Pk.cutD (x :: xs) (some 1) none = xs := by
  unfold Pk.cutD
  simp [HT.sIx]

theorem sc_left_behind : FnScope ["book", "row", "letter", "sign", "part"] ["book", "row", "letter"] (defScope T47.s_left_behind) := ⟨rfl, rfl, rfl, by decide +kernel, rfl, by decide +kernel, by decide +kernel⟩
theorem has_left_behind (T : Tx w K mg) : Has P w K mg base CX0 "left_behind" 1 ["book", "row", "letter"] (sp_left_behind K) := by
  obtain ⟨fd, F⟩ := T.def_ 31
  have gm := T.glo (x := "left_behind") 43
  have z_len := T.free (x := "len") 87
  have nd := sc_left_behind.nd
  refine has_of F gm sc_left_behind (fun _ _ _ _ _ _ us hl => match us, hl with | [_, _, _], _ => rfl) (fun vs H Q E h => ?_) (fun cdv A outer s H vs Q E hr h => ?_)
  · exact spN_len h fun _ _ _ _ ⟨_, _, _, _, _, _, _, _, e, _⟩ => by rw [e]; rfl
  · refine ⟨_, (pss_cons (ps_if (pt_cmpR op_eq (pe_callB call_len rfl z_len (by decide +kernel) (pa_cons (pv 1) pa_nil)) pe_int (nomark _)) (pss_one (ps_ret pe_non)) pss_nil)
        (pss_cons (ps_for PassesOwn.never rfl (pi_seq (pe_dget (hu_of hr) (pe_fld (pv 0) rfl) (pe_ix ix_seq (pv 1) pe_int (fun _ _ => rfl)) (fun _ _ => rfl))) (pg_tup rfl (pgs_cons (pg_name (i := 3) nd rfl (Or.inl rfl)) (pgs_cons (pg_name (i := 4) nd rfl (Or.inl rfl)) pgs_nil)))
        (pss_one (ps_if (pt_cmpR op_eq (pv 3) (pv 2) (nomark _)) (pss_one (ps_ret (pe_lst (StX.pa_star (pv 4) (StX.pa_star (pe_slice sl_list (pv 1) (po_some pe_int) po_none) pa_nil))))) pss_nil)))
        (pss_one (ps_ret pe_non)))), ?_⟩
    obtain ⟨G, vb, vs', ds, d, rfl, e, hds, ⟨b, row, x, hb, hsz, hfew, hrow, hl, rfl, rfl⟩, q⟩ := h
    cases hds with
    | cons hr hds =>
    cases hds with
    | cons hx hn =>
    cases hn
    cases hx
    rename_i vr
    cases row with
    | nil =>
      refine h_ifq (b := true) (eb_test (ev_eq (ev_len (ds := []) (z := 0) (ev_var rfl hr) (.inr (.inl ⟨rfl, rfl⟩))) ev_int rfl rfl rfl)) e (fun _ G1 H1 g1 => ?_) (fun z => by cases z)
      exact hn_ret (evn_scal ev_non rfl) g1.gh fun v G2 H2 g2 hv => q v G2 H2 (g1.trans g2) (new_up g1.h hv)
    | cons n rest =>
      have hn := hrow n (by simp)
      obtain ⟨k1, k2⟩ := rulesOf_mem hn
      refine h_ifq (b := false) ((eb_test (ev_eq (ev_len (ds := (n :: rest).map D.str) (ev_var rfl hr) (.inr (.inl ⟨rfl, rfl⟩))) ev_int rfl rfl rfl)).is ?_) e (fun z => by cases z) fun _ G1 H1 g1 => ?_
      · refine decide_eq_false fun z => ?_
        have := V.int.inj z
        rw [List.length_map, List.length_cons] at this
        omega
      refine f_seq (ev_ofName T (evv_var rfl) (hb.up g1.g) (ev_ix (i := 0) (.inl (ev_var rfl (hr.up g1.g))) rfl) hn) (.lst _) g1.gh fun G2 H2 g2 => ?_
      refine ⟨fun j σ' H' => (∀ i r, i < j → (rulesOf b n)[i]? = some r → r.1 ≠ x) ∧ ∃ b3 b4, σ' = [some vb, some vr, some (.str x), b3, b4] ∧ ∃ G', Gr G H G' H' ∧ Same G2 G', ⟨fun _ _ h => absurd h (Nat.not_lt_zero _), none, none, rfl, G2, g1.trans g2, Same.refl _⟩, fun i σ' H' ⟨_, _, _, _, G', g', s'⟩ => s'.trans g'.gh, ?_, ?_⟩
      · rintro j dj uj σ' H' hdj hq ⟨hno, b3, b4, rfl, G4, g4, s4⟩
        rw [List.getElem?_map] at hdj
        obtain ⟨r, hrr, rfl⟩ := Option.map_eq_some_iff.mp hdj
        refine tg_two uj G4 H' g4.gh (hq.up s4) _ ?_
        rintro σ2 ⟨vl, vp, h1, h2, rfl⟩
        cases h1
        refine (eb_test (K := K) (ev_eq (ev_var rfl (.str r.1)) (ev_var rfl (.str x)) rfl rfl rfl)) H' g4.gh _ fun G5 H5 g5 => ?_
        have g45 := g4.trans g5
        by_cases hc : r.1 = x
        · rw [show decide (V.str r.1 = V.str x) = true by rw [hc]; simp]
          have hfound : nextR b (n :: rest) x = some (r.2 ++ rest) := by
            unfold nextR
            have : (rulesOf b n).find? (fun r => decide (r.1 = x)) = some r := by
              rw [List.find?_eq_some_iff_getElem]
              have hj := (List.getElem?_eq_some_iff.mp hrr)
              refine ⟨by simpa using hc, j, hj.1, hj.2, fun i hi => ?_⟩
              have := hno i _ hi (List.getElem?_eq_getElem (by have := hj.1; omega))
              simpa using this
            show Option.map _ (List.find? _ _) = _
            rw [this]
            rfl
          rw [hfound] at q
          have hr4 := hfew _ k2 r (List.mem_of_getElem? hrr)
          refine iteT (hn_ret (d := .lst ((r.2 ++ rest).map D.str)) (evn_lst ?_ ?_) g5.gh fun v G6 H6 g6 hv => q v G6 H6 (g45.trans g6) (new_up g45.h hv))
          · rw [List.map_append]
            refine ea_star (.inr (ev_var rfl (h2.up g5.g))) ((List.append_nil (rest.map D.str)) ▸ ea_star (.inl ((ev_slL (lo := some 1) (hi := none) (ev_var rfl (hr.up g45.g)) (fun _ _ => po_int) (fun _ _ => po_no)).is (by rw [List.map_cons, cut_tail]))) ea_nil)
          · rw [List.length_append]
            rw [List.length_cons] at hl
            omega
        · rw [show decide (V.str r.1 = V.str x) = false from decide_eq_false fun z => hc (V.str.inj z)]
          refine iteF ⟨fun i r' hi hr' => ?_, _, _, rfl, G5, g45, s4.trans g5.g⟩
          by_cases hij : i < j
          · exact hno i r' hij hr'
          · have : i = j := by omega
            subst this
            rw [hrr] at hr'
            cases hr'
            exact hc
      · rintro σ' H' ⟨hno, b3, b4, rfl, G4, g4, s4⟩
        have hnone : nextR b (n :: rest) x = none := by
          unfold nextR
          have : (rulesOf b n).find? (fun r => decide (r.1 = x)) = none := by
            rw [List.find?_eq_none]
            intro r hr
            obtain ⟨i, hi, e⟩ := List.getElem_of_mem hr
            have := hno i r (by rw [List.length_map]; exact hi) (by rw [List.getElem?_eq_getElem hi, e])
            simpa using this
          show Option.map _ (List.find? _ _) = _
          rw [this]
          rfl
        rw [hnone] at q
        dsimp only
        exact hn_ret (evn_scal ev_non rfl) g4.gh fun v G5 H5 g5 hv => q v G5 H5 (g4.trans g5) (new_up g4.h hv)

end
end T47
/-! rows_along, left_in, fault_in, letters_of. -/
namespace T47
open PySem PySem.Spec PyProof.Rows L2 Pk
section
variable {P : Program} {w : World} {K : PySem.W.Frag} {mg : Str → Option Value} {base : Heap}
def rowD (r : List Str) : D := .lst (r.map D.str)
theorem atI_snoc {α : Type} (us : List α) (v : α) : atI (us ++ [v]) (-1) = some v := by
  unfold atI ixN
  rw [if_neg (by decide), if_pos (by rw [List.length_append, List.length_cons]; omega)]
  have : ((-1 : Int) + ((us ++ [v]).length : Int)).toNat = us.length := by
    rw [List.length_append, List.length_cons, List.length_nil]
    omega
  show (us ++ [v])[((-1 : Int) + ((us ++ [v]).length : Int)).toNat]? = some v
  rw [this]
  simp
theorem dqs_snoc {N : Hp} {vs : List V} {ds : List D} {d : D} (h : Dqs K N vs (ds ++ [d])) : ∃ us v, vs = us ++ [v] ∧ Dqs K N us ds ∧ Dq K N v d := by
  induction ds generalizing vs with
  | nil =>
    cases h with
    | cons a b =>
      cases b
      exact ⟨[], _, rfl, .nil, a⟩
  | cons d0 ds ih =>
    cases h with
    | cons a b =>
      obtain ⟨us, v, rfl, h1, h2⟩ := ih b
      exact ⟨_ :: us, v, rfl, .cons a h1, h2⟩
structure Sound (b : Kept) : Prop where
  sz : sized b
  nm : ∀ n ∈ b.map (·.1), isName n = true
  lt : ∀ p ∈ b, p.2.length ≤ 60
  few : few b
  cl : closedB b
theorem next_rowIn {b : Kept} (h : Sound b) {row r : List Str} {x : Str} (hr : rowIn b row) (e : nextR b row x = some r) : rowIn b r ∧ r.length ≤ row.length + 4 := by
  cases row with
  | nil => cases e
  | cons n rest =>
    have e : Option.map (fun r : Rule => r.2 ++ rest) (List.find? (fun r => decide (r.1 = x)) (rulesOf b n)) = some r := e
    obtain ⟨q, hq, rfl⟩ := Option.map_eq_some_iff.mp e
    have hm := List.mem_of_find?_eq_some hq
    have hb := (rulesOf_mem (hr n (by simp))).2
    refine ⟨fun m hm2 => ?_, ?_⟩
    · rcases List.mem_append.mp hm2 with h1 | h1
      · exact h.cl _ hb q hm m h1
      · exact hr m (by simp [h1])
    · rw [List.length_append, List.length_cons]
      have := h.few _ hb q hm
      omega
theorem along_len (b : Kept) : ∀ (word row : List Str), (along b row word).length ≤ word.length + 1
  | [], row => by unfold along; simp
  | x :: word, row => by
    unfold along
    split
    · simp
    · rw [List.length_cons, List.length_cons]
      have := along_len b word ‹_›
      omega
theorem along_ne (b : Kept) : ∀ (word row : List Str), along b row word ≠ []
  | [], row => by unfold along; simp
  | x :: word, row => by
    unfold along
    split <;> simp
def sp_rows_along (K : PySem.W.Frag) : Sp := spN K fun G vb ds d => ∃ b x row word, IsBook K G vb b ∧ Sound b ∧ rowIn b row ∧ row.length ≤ 1000 ∧ word.length ≤ 9000 ∧ IsRow x row ∧ ds = [x, .lst (word.map D.str)] ∧ d = .lst ((along b row word).map rowD)

theorem sc_rows_along : FnScope ["book", "row", "word", "found", "letter", "later"] ["book", "row", "word"] (defScope T47.s_rows_along) := ⟨rfl, rfl, rfl, by decide +kernel, rfl, by decide +kernel, by decide +kernel⟩
theorem has_rows_along (T : Tx w K mg) (h_left_behind : Has P w K mg base CX0 "left_behind" 1 ["book", "row", "letter"] (sp_left_behind K)) : Has P w K mg base CX0 "rows_along" 2 ["book", "row", "word"] (sp_rows_along K) := by
  obtain ⟨fd, F⟩ := T.def_ 32
  have gm := T.glo (x := "rows_along") 44
  have z_list := T.free (x := "list") 88
  have nd := sc_rows_along.nd
  refine has_of F gm sc_rows_along (fun _ _ _ _ _ _ us hl => match us, hl with | [_, _, _], _ => rfl) (fun vs H Q E h => ?_) (fun cdv A outer s H vs Q E hr h => ?_)
  · exact spN_len h fun _ _ _ _ ⟨_, _, _, _, _, _, _, _, _, _, e, _⟩ => by rw [e]; rfl
  · refine ⟨_, (pss_cons (ps_set (i := 3) nd rfl (Or.inl rfl) (pe_lst (pa_cons (pe_callTy call_list_of rfl z_list (by decide +kernel) (pa_cons (pv 1) pa_nil)) pa_nil)))
        (pss_cons (ps_for PassesOwn.never rfl (pi_seq (pv 2)) (pg_name (i := 4) nd rfl (Or.inl rfl))
        (pss_cons (ps_set (i := 5) nd rfl (Or.inl rfl) (pe_h h_left_behind (hr.mono (by decide)) rfl (pa_cons (pv 0) (pa_cons (pe_ix ix_seq (pv 3) (pe_un un_neg pe_int) (fun _ _ => rfl)) (pa_cons (pv 4) pa_nil)))))
        (pss_cons (ps_if (pt_cmpR op_isN (pv 5) pe_non (nomark _)) (pss_one (ps_ret (pv 3))) pss_nil)
        (pss_one (ps_expr (pe_bm PySem.F.plainAttrs_list PySem.F.slot_list_append PySem.F.type_list_append mt_append (pv 3) (pa_cons (pv 5) pa_nil)))))))
        (pss_one (ps_ret (pv 3))))), ?_⟩
    obtain ⟨G, vb, vs', ds, d, rfl, e, hds, ⟨b, x0, row, word, hb, hS, hrow, hl1, hl2, hx0, rfl, rfl⟩, q⟩ := h
    cases hds with
    | cons hr hds =>
    cases hds with
    | cons hw hn =>
    cases hn
    rename_i vr vw
    refine hn_lst1 (d := rowD row) (evn_list (Lk.ev hx0 (ev_var (i := 1) rfl hr))) e fun v1 G1 H1 a g1 hv1 ha => ?_
    have gb : Gr G H G1 (upd H1 a (.lst [v1])) := g1.trans (Gr.ov g1.gh ha)
    have ga : G1 a = none := same_none g1.gh ha
    have ha0 : H a = none := same_none g1.h ha
    refine f_seq (x := .lst (word.map D.str)) (ev_var (i := 2) rfl (hw.up g1.g)) (.lst _) gb.gh fun G2 H2 g2 => ?_
    have gb2 := gb.trans g2
    have wl : (word.map D.str).length = word.length := List.length_map _
    refine ⟨fun i σ' H' => ∃ b4 b5, σ' = [some vb, some vr, some vw, some (.ref a), b4, b5] ∧ ∃ G' vs R last, Gr G H G' H' ∧ Same G2 G' ∧ H' a = some (.lst vs) ∧ G' a = none ∧ Dqs K (newOf H G') vs ((R ++ [last]).map rowD) ∧ R.length = i ∧ along b row word = R ++ along b last (word.drop i) ∧ rowIn b last ∧ last.length ≤ 1000 + 4 * i,
      ⟨none, none, rfl, G2, [v1], [], row, gb2, Same.refl _, g2.h _ _ upd_same, g2.apart upd_same ga, .cons (hv1.up (new_mono (Same.refl _) g2.g)) .nil, rfl, rfl, hrow, by omega⟩, fun i σ' H' ⟨_, _, _, G', _, _, _, g', s', _⟩ => s'.trans g'.gh, ?_, ?_⟩
    · rintro j dj uj σ' H' hdj hq ⟨b4, b5, rfl, G3, vs, R, last, g3, s3, k1, k2, k3, k4, k5, k6, k7⟩
      rw [List.getElem?_map] at hdj
      obtain ⟨x, hx, rfl⟩ := Option.map_eq_some_iff.mp hdj
      have hj : j < word.length := (List.getElem?_eq_some_iff.mp hx).1
      cases hq
      rw [List.map_append] at k3
      obtain ⟨us, vl, rfl, h1, h2⟩ := dqs_snoc k3
      have hdrop : word.drop j = x :: word.drop (j + 1) := by
        rw [List.drop_eq_getElem_cons hj]
        congr 1
        exact (List.getElem?_eq_some_iff.mp hx).2
      rw [hdrop] at k5
      -- later
      refine Exists.intro vb (And.intro rfl (Exists.intro (V.ref a) (And.intro rfl ⟨1, rfl, rIx_L ⟨a, us ++ [vl], -1, vl, rfl, rfl, seqL (.inl k1), atI_snoc us vl, Exists.intro (V.str x) (And.intro rfl ?_)⟩⟩)))
      refine ⟨G3, vb, [vl, .str x], [rowD last, .str x], _, rfl, g3.gh, .cons (h2.up new_sub) (.cons (.str x) .nil), ⟨b, last, x, hb.up g3.g, hS.sz, hS.few, k6, by omega, rfl, rfl⟩, fun v5 G4 H4 g4 hv5 => ?_⟩
      have g34 := g3.trans g4
      have k1' := g4.h _ _ k1
      have k2' := g4.apart k1 k2
      have hv5' : Dq K (newOf H G4) v5 (optRow (nextR b last x)) := new_up g3.h hv5
      have old : Dqs K (newOf H G4) (us ++ [vl]) ((R ++ [last]).map rowD) := by
        rw [List.map_append]
        exact k3.up (new_mono (Same.refl _) g4.g)
      cases hnx : nextR b last x with
      | none =>
        rw [hnx] at hv5'
        cases hv5'
        have hal : along b row word = R ++ [last] := by
          rw [k5]
          unfold along
          rw [hnx]
        rw [hal] at q
        refine Exists.intro V.non (And.intro rfl ⟨rfl, true, rfl, iteT (Exists.intro (V.ref a) (And.intro rfl ?_))⟩)
        have hsub : Same (newOf H G4) (newOf H (upd G4 a (.lst (us ++ [vl])))) := new_mono (Same.refl _) (same_new k2')
        refine q _ (upd G4 a (.lst (us ++ [vl]))) H4 ⟨g34.g.trans (same_new k2'), g34.h, same_mut g34.gh k1', fun bb o hb => ?_⟩ (.lst (.inl (new_at ha0 upd_same)) (old.up hsub))
        by_cases hba : bb = a
        · rw [hba]; exact .inr ha0
        · rw [upd_ne hba] at hb
          exact g34.nw bb o hb
      | some r =>
        rw [hnx] at hv5'
        obtain ⟨n1, n2⟩ := next_rowIn hS k6 hnx
        have hv5'' : Dq K (newOf H G4) v5 (rowD r) := hv5'
        cases hv5'' with
        | @lst a5 x5 _ hr5 hs5 =>
        refine Exists.intro (V.ref a5) (And.intro rfl ⟨rfl, false, rfl, iteF ?_⟩)
        refine Exists.intro (V.ref a) (And.intro rfl (And.intro (Or.inl ⟨rfl, _, seqL (.inl k1')⟩) (Exists.intro (V.ref a5) (And.intro rfl ⟨a, us ++ [vl], V.ref a5, rfl, rfl, k1', ?_, ?_⟩))))
        · have hlen := old.length
          rw [hlen, List.length_map, List.length_append, List.length_cons, List.length_nil, k4]
          exact Nat.lt_of_le_of_lt (by omega : j + (0 + 1) ≤ 10000) (by decide)
        · refine ⟨_, _, rfl, G4, _, R ++ [last], r, gr_upd g34 ha0 k2', s3.trans g4.g, upd_same, k2', ?_, by rw [List.length_append, k4]; rfl, ?_, n1, by omega⟩
          · rw [List.map_append]
            exact old.append (.cons (.lst hr5 hs5) .nil)
          · rw [k5]
            conv => lhs; unfold along
            rw [hnx, List.append_assoc]
            rfl
    · rintro σ' H' ⟨b4, b5, rfl, G3, vs, R, last, g3, s3, k1, k2, k3, k4, k5, k6, k7⟩
      rw [wl, List.drop_length] at k5
      have hal : along b row word = R ++ [last] := by rw [k5]; unfold along; rfl
      rw [hal] at q
      refine Exists.intro (V.ref a) (And.intro rfl ?_)
      have hsub : Same (newOf H G3) (newOf H (upd G3 a (.lst vs))) := new_mono (Same.refl _) (same_new k2)
      refine q _ (upd G3 a (.lst vs)) H' ⟨g3.g.trans (same_new k2), g3.h, same_mut g3.gh k1, fun bb o hb => ?_⟩ (.lst (.inl (new_at ha0 upd_same)) (k3.up hsub))
      by_cases hba : bb = a
      · rw [hba]; exact .inr ha0
      · rw [upd_ne hba] at hb
        exact g3.nw bb o hb

end
end T47
/-! left_in, fault_in, letters_of. -/
namespace T47
open PySem PySem.Spec PyProof.Rows L2 Pk
section
variable {P : Program} {w : World} {K : PySem.W.Frag} {mg : Str → Option Value} {base : Heap}
theorem strOk_name {x : Str} (h : isName x = true) : PyData.strOk x = true := by
  unfold isName at h
  have h2 := (Bool.and_eq_true_iff.mp h).2
  unfold PyData.strOk
  rw [← Array.all_toList]
  refine List.all_eq_true.mpr fun c hc => ?_
  have h3 := of_decide_eq_true (List.all_eq_true.mp h2 c hc)
  have : ∀ d ∈ (small ++ figs).cps.toList, decide (d < 0x110000) = true := by decide +kernel
  exact this c h3
theorem shaped_strs {xs : List Str} (h : ∀ x ∈ xs, PyData.strOk x = true) : SeqAt.shaped (rowD xs).py = true := by
  have e : ∀ xs : List Str, (∀ x ∈ xs, PyData.strOk x = true) → PyData.canLayAll0 (pys (xs.map D.str)) = true := by
    intro xs
    induction xs with
    | nil => intro _; rfl
    | cons x xs ih =>
      intro h
      show (PyData.strOk x && PyData.canLayAll0 (pys (xs.map D.str))) = true
      rw [h x (by simp), ih fun y hy => h y (by simp [hy])]
      rfl
  have hd : (rowD xs).py.depth ≤ 64 := by
    show (PyData.list (pys (xs.map D.str))).depth ≤ 64
    simp [PyData.depth, depth_strs]
  unfold SeqAt.shaped
  have e1 : (rowD xs).py.canLay0 = true := e xs h
  rw [e1]
  simpa using hd
theorem ev_isEmpty {σ : L2.St} {G : Hp} {te tb : TE} {xs : List Str} (h : EvD K te σ G (rowD xs)) (h2 : EvD K tb σ G (.lst [])) (hs : ∀ x ∈ xs, PyData.strOk x = true) : EvD K (tOp (rEqD K) te tb) σ G (.bl xs.isEmpty) := by
  refine ev_eqD h h2 (flats_strs xs) rfl (shaped_strs hs) (by decide +kernel) ?_
  cases xs <;> rfl
theorem rows_in {b : Kept} (h : Sound b) : ∀ (word row : List Str), rowIn b row → ∀ r ∈ along b row word, rowIn b r
  | [], row, hr, r, hm => by unfold along at hm; rw [List.mem_singleton.mp hm]; exact hr
  | x :: word, row, hr, r, hm => by
    unfold along at hm
    split at hm
    · rw [List.mem_singleton.mp hm]; exact hr
    · rename_i r' e
      rcases List.mem_cons.mp hm with z | hm
      · rw [z]; exact hr
      · exact rows_in h word r' (next_rowIn h hr e).1 r hm
def Args3 (K : PySem.W.Frag) (G : Hp) (vb : V) (ds : List D) (b : Kept) (row word : List Str) : Prop := IsBook K G vb b ∧ Sound b ∧ rowIn b row ∧ row.length ≤ 1000 ∧ word.length ≤ 9000 ∧ ds = [.lst (row.map D.str), .lst (word.map D.str)]
def sp_left_in (K : PySem.W.Frag) : Sp := spN K fun G vb ds d => ∃ b row word, Args3 K G vb ds b row word ∧ d = optRow (leftIn b row word)
def sp_fault_in (K : PySem.W.Frag) : Sp := spV K fun G vb ds d => ∃ b row word, Args3 K G vb ds b row word ∧ d = optNat (faultIn b row word)
def lettersOf (b : Kept) : List Str → List Str
  | [] => []
  | n :: _ => srt ((rulesOf b n).map (·.1))
def sp_letters_of (K : PySem.W.Frag) : Sp := spN K fun G vb ds d => ∃ b row, IsBook K G vb b ∧ Sound b ∧ rowIn b row ∧ ds = [.lst (row.map D.str)] ∧ d = .lst ((lettersOf b row).map D.str)
theorem ev_rows {σ : L2.St} {G : Hp} {vb : V} {b : Kept} {row word : List Str} {E : XK} {vr vw : V} (hb : IsBook K G vb b) (hS : Sound b) (h1 : rowIn b row) (h2 : row.length ≤ 1000) (h3 : word.length ≤ 9000) (h0 : σ[0]? = some (some vb)) (hr : σ[1]? = some (some vr)) (hw : σ[2]? = some (some vw)) (qr : Dq K G vr (.lst (row.map D.str))) (qw : Dq K G vw (.lst (word.map D.str))) :
    EvN K (tCall (sp_rows_along K) [] E (tCons (tVar 0) (tCons (tVar 1) (tCons (tVar 2) tNil)))) σ G (.lst ((along b row word).map rowD)) :=
  evn_call (eav_cons (evv_var h0) (ea_cons (ev_var hr qr) (ea_cons (ev_var hw qw) ea_nil))) fun G1 e1 => ⟨b, _, row, word, hb.up e1, hS, h1, h2, h3, .lst _, rfl, rfl⟩
theorem last_split {α : Type} {xs : List α} (h : xs ≠ []) : ∃ ys y, xs = ys ++ [y] ∧ xs.getLast? = some y := by
  refine ⟨xs.dropLast, xs.getLast h, (List.dropLast_concat_getLast h).symm, List.getLast?_eq_some_getLast h⟩

theorem sc_left_in : FnScope ["book", "row", "word", "rows"] ["book", "row", "word"] (defScope T47.s_left_in) := ⟨rfl, rfl, rfl, by decide +kernel, rfl, by decide +kernel, by decide +kernel⟩
theorem has_left_in (T : Tx w K mg) (h_rows_along : Has P w K mg base CX0 "rows_along" 2 ["book", "row", "word"] (sp_rows_along K)) : Has P w K mg base CX0 "left_in" 3 ["book", "row", "word"] (sp_left_in K) := by
  obtain ⟨fd, F⟩ := T.def_ 33
  have gm := T.glo (x := "left_in") 45
  have z_len := T.free (x := "len") 87
  have nd := sc_left_in.nd
  refine has_of F gm sc_left_in (fun _ _ _ _ _ _ us hl => match us, hl with | [_, _, _], _ => rfl) (fun vs H Q E h => ?_) (fun cdv A outer s H vs Q E hr h => ?_)
  · exact spN_len h fun _ _ _ _ ⟨_, _, _, ⟨_, _, _, _, _, e⟩, _⟩ => by rw [e]; rfl
  · refine ⟨_, (pss_cons (ps_set (i := 3) nd rfl (Or.inl rfl) (pe_h h_rows_along (hr.mono (by decide)) rfl (pa_cons (pv 0) (pa_cons (pv 1) (pa_cons (pv 2) pa_nil)))))
        (pss_one (ps_ret (pe_ifExp (pt_cmpR op_gt (pe_callB call_len rfl z_len (by decide +kernel) (pa_cons (pv 3) pa_nil)) (pe_callB call_len rfl z_len (by decide +kernel) (pa_cons (pv 2) pa_nil)) (nomark _)) (pe_ix ix_seq (pv 3) (pe_un un_neg pe_int) (fun _ _ => rfl)) pe_non)))), ?_⟩
    obtain ⟨G, vb, vs', ds, d, rfl, e, hds, ⟨b, row, word, ⟨hb, hS, hrow, hl1, hl2, rfl⟩, rfl⟩, q⟩ := h
    cases hds with
    | cons hr hds =>
    cases hds with
    | cons hw hn =>
    cases hn
    rename_i vr vw
    refine hn_set (ev_rows hb hS hrow hl1 hl2 rfl rfl rfl hr hw) e fun v1 G1 H1 g1 hv1 => ?_
    obtain ⟨ys, last, hal, hlast⟩ := last_split (along_ne b word row)
    have hlen := along_len b word row
    cases hv1 with
    | @lst a xs _ hrd hq =>
    have hxl : xs.length = (along b row word).length := by rw [hq.length, List.length_map]
    have hq' : Dqs K (newOf H G1) xs (ys.map rowD ++ [rowD last]) := by
      rw [hal, List.map_append] at hq
      exact hq
    obtain ⟨us, vl, rfl, q1, q2⟩ := dqs_snoc hq'
    have hrG : Rd G1 a (.lst (us ++ [vl])) := Rd.up new_sub hrd
    have hvG : Dq K G1 (.ref a) (.lst ((along b row word).map rowD)) := .lst hrG (hq.up new_sub)
    have evRows : ∀ (σ : L2.St) (G2 : Hp), Same G1 G2 → σ[3]? = some (some (.ref a)) → EvD K (tVar 3) σ G2 (.lst ((along b row word).map rowD)) := fun σ G2 e2 h3 => ev_var h3 (hvG.up e2)
    have lenRows := fun (σ : L2.St) (G2 : Hp) (e2 : Same G1 G2) (h3 : σ[3]? = some (some (.ref a))) => ev_len (ds := (along b row word).map rowD) (evRows σ G2 e2 h3) (.inr (.inl ⟨rfl, rfl⟩))
    have lenWord := fun (σ : L2.St) (G2 : Hp) (e2 : Same G1 G2) (h2 : σ[2]? = some (some vw)) => ev_len (ds := word.map D.str) (ev_var h2 (hw.up (g1.g.trans e2))) (.inr (.inl ⟨rfl, rfl⟩))
    
    unfold leftIn at q
    refine (eb_test (ev_I0 (z := .bl (decide (word.length < (along b row word).length))) (lenRows _ _ (Same.refl _) rfl) (lenWord _ _ (Same.refl _) rfl) ?_)) H1 g1.gh _ fun G2 H2 g2 => ?_
    · have : decide (((word.map D.str).length : Int) < (((along b row word).map rowD).length : Int)) = decide (word.length < (along b row word).length) := by
        rw [List.length_map, List.length_map, decide_eq_decide]
        omega
      rw [← this]
      exact .bl _
    have g12 := g1.trans g2
    by_cases hc : word.length < (along b row word).length
    · rw [show decide (word.length < (along b row word).length) = true from decide_eq_true hc]
      rw [if_pos hc, hlast] at q
      refine iteT (Exists.intro (V.ref a) (And.intro rfl ⟨1, rfl, rIx_L ⟨a, us ++ [vl], -1, vl, rfl, rfl, seqL (Rd.up (g2.g.trans g2.gh) hrG), atI_snoc us vl, ?_⟩⟩))
      exact q vl G2 H2 g12 (q2.up (new_mono (Same.refl _) g2.g))
    · rw [show decide (word.length < (along b row word).length) = false from decide_eq_false hc]
      rw [if_neg hc] at q
      exact iteF (q V.non G2 H2 g12 .non)

theorem sc_fault_in : FnScope ["book", "row", "word", "rows"] ["book", "row", "word"] (defScope T47.s_fault_in) := ⟨rfl, rfl, rfl, by decide +kernel, rfl, by decide +kernel, by decide +kernel⟩
theorem has_fault_in (T : Tx w K mg) (h_rows_along : Has P w K mg base CX0 "rows_along" 2 ["book", "row", "word"] (sp_rows_along K)) : Has P w K mg base CX0 "fault_in" 3 ["book", "row", "word"] (sp_fault_in K) := by
  obtain ⟨fd, F⟩ := T.def_ 34
  have gm := T.glo (x := "fault_in") 46
  have z_len := T.free (x := "len") 87
  have nd := sc_fault_in.nd
  refine has_of F gm sc_fault_in (fun _ _ _ _ _ _ us hl => match us, hl with | [_, _, _], _ => rfl) (fun vs H Q E h => ?_) (fun cdv A outer s H vs Q E hr h => ?_)
  · exact spV_len h fun _ _ _ _ ⟨_, _, _, ⟨_, _, _, _, _, e⟩, _⟩ => by rw [e]; rfl
  · refine ⟨_, (pss_cons (ps_set (i := 3) nd rfl (Or.inl rfl) (pe_h h_rows_along (hr.mono (by decide)) rfl (pa_cons (pv 0) (pa_cons (pv 1) (pa_cons (pv 2) pa_nil)))))
        (pss_cons (ps_if (pt_cmpR op_le (pe_callB call_len rfl z_len (by decide +kernel) (pa_cons (pv 3) pa_nil)) (pe_callB call_len rfl z_len (by decide +kernel) (pa_cons (pv 2) pa_nil)) (nomark _)) (pss_one (ps_ret (pe_op op_sub (pe_callB call_len rfl z_len (by decide +kernel) (pa_cons (pv 3) pa_nil)) pe_int))) pss_nil)
        (pss_one (ps_ret (pe_ifExp (pt_cmpR (op_eqD hr.units) (pe_ix ix_seq (pv 3) (pe_un un_neg pe_int) (fun _ _ => rfl)) (pe_lst pa_nil) (nomark _)) pe_non (pe_callB call_len rfl z_len (by decide +kernel) (pa_cons (pv 2) pa_nil))))))), ?_⟩
    obtain ⟨G, vb, vs', ds, d, rfl, e, hds, ⟨b, row, word, ⟨hb, hS, hrow, hl1, hl2, rfl⟩, rfl⟩, q⟩ := h
    cases hds with
    | cons hr hds =>
    cases hds with
    | cons hw hn =>
    cases hn
    rename_i vr vw
    refine hn_set (ev_rows hb hS hrow hl1 hl2 rfl rfl rfl hr hw) e fun v1 G1 H1 g1 hv1 => ?_
    obtain ⟨ys, last, hal, hlast⟩ := last_split (along_ne b word row)
    have hlen := along_len b word row
    cases hv1 with
    | @lst a xs _ hrd hq =>
    have hxl : xs.length = (along b row word).length := by rw [hq.length, List.length_map]
    have hq' : Dqs K (newOf H G1) xs (ys.map rowD ++ [rowD last]) := by
      rw [hal, List.map_append] at hq
      exact hq
    obtain ⟨us, vl, rfl, q1, q2⟩ := dqs_snoc hq'
    have hrG : Rd G1 a (.lst (us ++ [vl])) := Rd.up new_sub hrd
    have hvG : Dq K G1 (.ref a) (.lst ((along b row word).map rowD)) := .lst hrG (hq.up new_sub)
    have evRows : ∀ (σ : L2.St) (G2 : Hp), Same G1 G2 → σ[3]? = some (some (.ref a)) → EvD K (tVar 3) σ G2 (.lst ((along b row word).map rowD)) := fun σ G2 e2 h3 => ev_var h3 (hvG.up e2)
    have lenRows := fun (σ : L2.St) (G2 : Hp) (e2 : Same G1 G2) (h3 : σ[3]? = some (some (.ref a))) => ev_len (ds := (along b row word).map rowD) (evRows σ G2 e2 h3) (.inr (.inl ⟨rfl, rfl⟩))
    have lenWord := fun (σ : L2.St) (G2 : Hp) (e2 : Same G1 G2) (h2 : σ[2]? = some (some vw)) => ev_len (ds := word.map D.str) (ev_var h2 (hw.up (g1.g.trans e2))) (.inr (.inl ⟨rfl, rfl⟩))
    
    unfold faultIn at q
    refine h_ifq (b := decide ((along b row word).length ≤ word.length)) ((eb_test (ev_I0 (z := .bl (decide ((along b row word).length ≤ word.length))) (lenRows _ _ (Same.refl _) rfl) (lenWord _ _ (Same.refl _) rfl) ?_))) g1.gh (fun hc G2 H2 g2 => ?_) fun hc G2 H2 g2 => ?_
    · have : decide ((((along b row word).map rowD).length : Int) ≤ ((word.map D.str).length : Int)) = decide ((along b row word).length ≤ word.length) := by
        rw [List.length_map, List.length_map, decide_eq_decide]
        omega
      rw [← this]
      exact .bl _
    · rw [if_pos (of_decide_eq_true hc)] at q
      have hpos : 0 < (along b row word).length := List.length_pos_iff.mpr (along_ne b word row)
      refine h_ret (d := .int (((along b row word).length - 1 : Nat) : Int)) ((ev_I0 (lenRows _ _ g2.g rfl) ev_int (.int _)).is ?_) g2.gh fun v G3 H3 g3 hv => q v G3 H3 (g1.trans (g2.trans g3)) hv
      rw [List.length_map]
      congr 1
      omega
    · rw [if_neg (of_decide_eq_false hc), hlast] at q
      have hin : rowIn b last := rows_in hS word row hrow last (by rw [hal]; simp)
      refine h_ret (d := optNat (match some last with | some [] => none | _ => some word.length)) (ev_if (b := last.isEmpty) (eb_test (ev_isEmpty (xs := last) (fun H e Q q => Exists.intro (V.ref a) (And.intro rfl ⟨1, rfl, rIx_L ⟨a, us ++ [vl], -1, vl, rfl, rfl, seqL (Rd.up (g2.g.trans e) hrG), atI_snoc us vl, q vl _ H (Gr.refl e) ((q2.up new_sub).up g2.g)⟩⟩)) (ev_lst ea_nil (by decide)) fun x hx => strOk_name (hS.nm x (hin x hx)))) (fun hz => ?_) (fun hz => ?_)) g2.gh fun v G3 H3 g3 hv => q v G3 H3 (g1.trans (g2.trans g3)) hv
      · have : last = [] := List.isEmpty_iff.mp hz
        subst this
        exact ev_non
      · cases last with
        | nil => cases hz
        | cons n rest => exact (lenWord _ _ g2.g rfl).is (by rw [List.length_map]; rfl)

theorem sc_letters_of : FnScope ["book", "row", "letter", "part"] ["book", "row"] (defScope T47.s_letters_of) := ⟨rfl, rfl, rfl, by decide +kernel, rfl, by decide +kernel, by decide +kernel⟩
theorem has_letters_of (T : Tx w K mg) : Has P w K mg base CX0 "letters_of" 3 ["book", "row"] (sp_letters_of K) := by
  obtain ⟨fd, F⟩ := T.def_ 35
  have gm := T.glo (x := "letters_of") 47
  have z_len := T.free (x := "len") 87
  have z_sorted := T.free (x := "sorted") 92
  have nd := sc_letters_of.nd
  refine has_of F gm sc_letters_of (fun _ _ _ _ _ _ us hl => match us, hl with | [_, _], _ => rfl) (fun vs H Q E h => ?_) (fun cdv A outer s H vs Q E hr h => ?_)
  · exact spN_len h fun _ _ _ _ ⟨_, _, _, _, _, e, _⟩ => by rw [e]; rfl
  · refine ⟨_, (pss_one (ps_ret (pe_ifExp (pt_cmpR op_gt (pe_callB call_len rfl z_len (by decide +kernel) (pa_cons (pv 1) pa_nil)) pe_int (nomark _)) (pe_callB cr_sortedS rfl z_sorted (by decide +kernel) (pa_cons (pe_lc (own := [("letter", 2), ("part", 3)]) (g := gTup K 2 (gCons (gName 2) (gCons (gName 3) gNil))) (tt := tYes) rfl nd (pi_seq (pe_dget (hu_of hr) (pe_fld (pv 0) rfl) (pe_ix ix_seq (pv 1) pe_int (fun _ _ => rfl)) (fun _ _ => rfl))) (blkOk_by (own := [("letter", 2), ("part", 3)]) (N := ["book", "row", "letter", "part"]) (sc := (defScope T47.s_letters_of)) (by decide +kernel)) (fun _ _ _ _ _ => (pg_tup rfl (pgs_cons (pg_name (i := 2) nd rfl (Or.inl rfl)) (pgs_cons (pg_name (i := 3) nd rfl (Or.inl rfl)) pgs_nil)))) (fun _ _ _ _ _ => pts_nil) (fun _ _ _ _ _ => (pv 2))) pa_nil)) (pe_lst pa_nil)))), ?_⟩
    obtain ⟨G, vb, vs', ds, d, rfl, e, hds, ⟨b, row, hb, hS, hrow, rfl, rfl⟩, q⟩ := h
    cases hds with
    | cons hr hn =>
    cases hn
    rename_i vr
    cases row with
    | nil =>
      refine hn_ret (evn_if (b := false) ((eb_test (ev_I0 (ev_len (ds := []) (z := 0) (ev_var (i := 1) rfl hr) (.inr (.inl ⟨rfl, rfl⟩))) ev_int (.bl _)))) (fun z => by cases z) fun _ => evn_lst (xs := []) ea_nil (by decide)) e fun v G1 H1 g1 hv => q v G1 H1 g1 hv
    | cons n rest =>
      have hn := hrow n (by simp)
      obtain ⟨k1, k2⟩ := rulesOf_mem hn
      have hl := hS.lt _ k2
      refine hn_ret (evn_if (b := true) ((eb_test (ev_I0 (ev_len (ds := (n :: rest).map D.str) (ev_var (i := 1) rfl hr) (.inr (.inl ⟨rfl, rfl⟩))) ev_int (.bl _))).is ?_) (fun _ => evn_sorted (xs := (rulesOf b n).map (·.1)) ?_ (by rw [List.length_map]; exact Nat.lt_of_le_of_lt hl (by decide))) fun z => by cases z) e fun v G1 H1 g1 hv => q v G1 H1 g1 hv
      · refine decide_eq_true ?_
        rw [List.length_map, List.length_cons]
        omega
      · refine (ev_lc (K := K) (vs := [2, 3]) (g := gTup K 2 (gCons (gName 2) (gCons (gName 3) gNil))) (ev_ofName T (evv_var (i := 0) rfl) hb (ev_ix (i := 0) (.inl (ev_var (i := 1) rfl hr)) rfl) hn) rfl (by rw [List.length_map]; exact Nat.lt_of_le_of_lt hl (by decide)) (fun _ => true) (fun d => .str (letD d)) (fun di σ2 G2 => ∃ v w l r, di = .tup [.str l, r] ∧ Dq K G2 v (.str l) ∧ σ2 = ((wipe [some vb, some vr, none, none] [2, 3]).set 2 (some v)).set 3 (some w)) (fun di hdi => ?_) (fun di σ2 G1 _ ⟨v, w, l, r, _, _, e⟩ => by rw [e]; rfl) (fun _ _ _ _ _ _ => eb_yes) (fun di σ2 G1 _ _ ⟨v, w, l, r, e1, e2, e3⟩ _ => by rw [e1, e3]; exact ev_var rfl e2)).is ?_
        · obtain ⟨r, _, rfl⟩ := List.mem_map.mp hdi
          exact fun x G1 H1 e1 hx Q q => tg_two x G1 H1 e1 hx Q fun σ2 ⟨v, w, k1, k2, k3⟩ => q σ2 ⟨v, w, r.1, _, rfl, k1, k3⟩
        · rw [List.filter_eq_self.mpr (fun _ _ => rfl), List.map_map, List.map_map]
          rfl

end
end T47
/-! Slices of what was drawn; list(d). -/
namespace Pk
open PySem PySem.Spec PyProof.Rows L2 T47
section
variable {K : PySem.W.Frag} {S : Sm} {σ : L2.St} {G G1 H : Hp} {te ta tb tl : TE} {d : D} {ds : List D} {p p' : D → Prop} {n m : Nat} {kvs : List (Str × D)}
theorem ev_listDic (h : EvD K te σ G (.dic kvs)) : EvD K (tCB (fun xs H Q => ∃ (a : Addr) (kvs : List (Key × V)), xs = [.ref a] ∧ Rd H a (.dK kvs) ∧ ∀ p, H p = none → Q (.ref p) (upd H p (.lst (kvs.map fun kv => kV kv.1)))) (tCons te tNil)) σ G (.lst ((kvs.map (·.1)).map D.str)) := fun H e Q q => h H e _ fun v G1 H1 g1 hv => by
  cases hv with
  | @dic a o ws _ hr hk hs =>
    refine ⟨a, ws, rfl, .inr ⟨o, g1.gh _ _ hr⟩, fun p hp => ?_⟩
    have e : (ws.map fun kv => kV kv.1) = (kvs.map (·.1)).map V.str := by
      have := congrArg (List.map kV) hk
      rw [List.map_map, List.map_map] at this
      rw [List.map_map]
      exact this
    rw [e]
    exact q _ _ _ (g1.trans (Gr.new g1.gh hp)) (.lst (.inl upd_same) (dqs_of_str _))
theorem cut_take {α : Type} (xs : List α) (k : Nat) : Pk.cutD xs none (some (k : Int)) = xs.take k := by
  unfold Pk.cutD HT.sIx
  simp only [List.drop_zero]
  by_cases h : (k : Int) < 0
  · omega
  · simp only [h, if_false]
    by_cases h2 : k ≤ xs.length
    · congr 1
      omega
    · rw [List.take_of_length_le (by omega), List.take_of_length_le (by omega)]
/-- xs[:k] -/
theorem evs_take {pl : List D → Prop} {pk : Nat → Prop} (h : EvS K S ta σ G n (fun d => ∃ ds, d = .lst ds ∧ pl ds)) (h2 : ∀ G1, Same G G1 → EvS K S tb σ G1 m (fun d => ∃ k : Nat, d = .int (k : Nat) ∧ pk k)) : EvS K S (tSl (rSlL K) ta tNoPart (tPart tb)) σ G (n + m) (fun d => ∃ ds k, pl ds ∧ pk k ∧ d = .lst (ds.take k)) := fun L H w hl Q q =>
  h L H w (by omega) _ fun v d G1 H1 g1 ⟨ds, hd, hpl⟩ hv => by
    subst hd
    refine h2 G1 g1.g (L + n) H1 g1.w (by omega) _ fun v2 d2 G2 H2 g2 ⟨k, hd2, hk⟩ hv2 => ?_
    subst hd2
    cases hv2
    refine ⟨_, rfl, ?_⟩
    have hv' := hv.up g2.g
    cases hv' with
    | @lst a xs _ hr hs =>
      have g12 := g1.trans g2
      rw [Nat.add_assoc] at g12
      refine ⟨a, xs, rfl, seqL (Rd.up g2.w.g hr), fun p hp => ?_⟩
      have g3 := gs_new w g12 (o := .lst (cutV xs none (some (k : Int)))) hp
      have hp0 : H p = none := by
        cases e : H p with
        | none => rfl
        | some u =>
          obtain ⟨o', e'⟩ := g12.kp p u e
          rw [hp] at e'
          cases e'
      refine q (.ref p) (.lst (ds.take k)) _ _ (gs_keep w g3 hp0 (same_none g2.w.g hp) upd_same) ⟨ds, k, hpl, hk, rfl⟩ (.lst (.inl upd_same) ?_)
      have := hs.cut none (some (k : Int))
      rw [cut_take] at this
      exact this.up (same_new (same_none g2.w.g hp))
/-- xs != [], texts -/
theorem ev_notEmpty {xs : List Str} (h : EvD K te σ G (rowD xs)) (h2 : EvD K tb σ G (.lst [])) (hs : ∀ x ∈ xs, PyData.strOk x = true) : EvD K (tOp (rNeD K) te tb) σ G (.bl (!xs.isEmpty)) := by
  refine ev_neD h h2 (flats_strs xs) rfl (shaped_strs hs) (by decide +kernel) ?_
  cases xs <;> rfl
end
end Pk
/-! left_by, next_letters, letter_fault, is_finished. -/
namespace T47
open PySem PySem.Spec PyProof.Rows L2 Pk
section
variable {P : Program} {w : World} {K : PySem.W.Frag} {mg : Str → Option Value} {base : Heap}
def Asked (K : PySem.W.Frag) (G : Hp) (vb : V) (ds : List D) (b : Kept) (row word : List Str) : Prop := ∃ x y, ds = [x, y] ∧ Good K G vb b x y row word ∧ Sound b ∧ row.length ≤ 1000 ∧ word.length ≤ 9000
theorem Asked.up {G G1 : Hp} {vb : V} {ds : List D} {b : Kept} {row word : List Str} (h : Asked K G vb ds b row word) (e : Same G G1) : Asked K G1 vb ds b row word := by
  obtain ⟨x, y, h1, h2, h3⟩ := h
  exact ⟨x, y, h1, h2.up e, h3⟩
def sp_left_by (K : PySem.W.Frag) : Sp := spOr (spN K fun G vb ds d => ∃ b row word, Asked K G vb ds b row word ∧ d = optRow (leftIn b row word)) (spX K fun G vb ds C fd pv => BadAll K G vb ds C fd pv)
def sp_next_letters (K : PySem.W.Frag) : Sp := spOr (spN K fun G vb ds d => ∃ b row word, Asked K G vb ds b row word ∧ d = optRow ((leftIn b row word).map (lettersOf b))) (spX K fun G vb ds C fd pv => BadAll K G vb ds C fd pv)
def sp_letter_fault (K : PySem.W.Frag) : Sp := spOr (spV K fun G vb ds d => ∃ b row word, Asked K G vb ds b row word ∧ d = optNat (faultIn b row word)) (spX K fun G vb ds C fd pv => BadAll K G vb ds C fd pv)
def sp_is_finished (K : PySem.W.Frag) : Sp := spOr (spV K fun G vb ds d => ∃ b row word, Asked K G vb ds b row word ∧ d = .bl (faultIn b row word).isNone) (spX K fun G vb ds C fd pv => BadAll K G vb ds C fd pv)
theorem left_in_rows {b : Kept} (h : Sound b) {row word r : List Str} (hr : rowIn b row) (e : leftIn b row word = some r) : rowIn b r := by
  unfold leftIn at e
  split at e
  · exact rows_in h word row hr r (List.mem_of_getLast? e)
  · cases e
theorem ev_along {σ : L2.St} {G : Hp} {vb : V} {x y : D} {b : Kept} {row word : List Str} {E : XK} {vx vy : V} (hg : Good K G vb b x y row word) (h0 : σ[0]? = some (some vb)) (h1 : σ[1]? = some (some vx)) (h2 : σ[2]? = some (some vy)) (qx : Dq K G vx x) (qy : Dq K G vy y) :
    EvD K (tCall (sp_checked_along K) [] E (tCons (tVar 0) (tCons (tVar 1) (tCons (tVar 2) tNil)))) σ G (.tup [.lst (row.map D.str), .lst (word.map D.str)]) :=
  ev_callO (eav_cons (evv_var h0) (ea_cons (ev_var h1 qx) (ea_cons (ev_var h2 qy) ea_nil))) fun G1 e1 => ⟨b, x, y, row, word, rfl, hg.up e1, rfl⟩
theorem x_along {σ : L2.St} {G H : Hp} {vb : V} {ds : List D} {E : XK} {vx vy : V} {C fd : Str} {pv : V → Prop} {Q : VK} (hbad : BadAll K G vb ds C fd pv) (h0 : σ[0]? = some (some vb)) (h1 : σ[1]? = some (some vx)) (h2 : σ[2]? = some (some vy)) (hds : Dqs K G [vx, vy] ds) (e : Same G H) (x : Xr K H E C fd pv) :
    tCall (sp_checked_along K) [] E (tCons (tVar 0) (tCons (tVar 1) (tCons (tVar 2) tNil))) σ H Q := by
  cases hds with
  | cons a c =>
  cases c with
  | cons c d =>
  cases d
  exact x_callO (eav_cons (evv_var h0) (ea_cons (ev_var h1 a) (ea_cons (ev_var h2 c) ea_nil))) (fun G1 e1 => hbad.up e1) e x

theorem sc_left_by : FnScope ["book", "row", "word", "known", "letters"] ["book", "row", "word"] (defScope T47.s_left_by) := ⟨rfl, rfl, rfl, by decide +kernel, rfl, by decide +kernel, by decide +kernel⟩
theorem has_left_by (T : Tx w K mg) (h_checked_along : Has P w K mg base (L2.CX P w) "checked_along" 6 ["book", "row", "word"] (sp_checked_along K)) (h_left_in : Has P w K mg base CX0 "left_in" 3 ["book", "row", "word"] (sp_left_in K)) : Has P w K mg base (L2.CX P w) "left_by" 7 ["book", "row", "word"] (sp_left_by K) := by
  obtain ⟨fd, F⟩ := T.def_ 36
  have gm := T.glo (x := "left_by") 48
  have nd := sc_left_by.nd
  refine has_ofX F gm sc_left_by (fun _ _ _ _ _ _ us hl => match us, hl with | [_, _, _], _ => rfl) (fun vs H Q E h => ?_) (fun cdv A outer s H vs Q E hr h => ?_)
  · rcases h with h | h
    · exact spN_len h fun _ _ _ _ ⟨_, _, _, ⟨_, _, e, _⟩, _⟩ => by rw [e]; rfl
    · exact spX_len h fun _ _ _ _ _ _ ⟨_, _, e, _⟩ => by rw [e]; rfl
  · refine ⟨_, (pss_cons (ps_asg (pe_hX (E := E) h_checked_along (hr.mono (by decide)) rfl (takes_of rfl rfl rfl rfl) (fun _ _ _ _ z => z) (pa_cons (pv 0) (pa_cons (pv 1) (pa_cons (pv 2) pa_nil)))) (pg_tup rfl (pgs_cons (pg_name (i := 3) nd rfl (Or.inl rfl)) (pgs_cons (pg_name (i := 4) nd rfl (Or.inl rfl)) pgs_nil))))
        (pss_one (ps_ret (pe_h h_left_in (hr.mono (by decide)) rfl (pa_cons (pv 0) (pa_cons (pv 3) (pa_cons (pv 4) pa_nil))))))), ?_⟩
    rcases h with ⟨G, vb, vs', ds, d, rfl, e, hds, ⟨b, row, word, ⟨x, y, rfl, hg, hS, hl1, hl2⟩, rfl⟩, q⟩ | ⟨G, vb, vs', ds, C, fd', pv, rfl, e, hds, hbad, xr⟩
    · cases hds with
      | cons hx hds =>
      cases hds with
      | cons hy hn =>
      cases hn
      rename_i vx vy
      have hrow : rowIn b row := hg.rw.2.2
      refine ev_along hg rfl rfl rfl hx hy H e _ fun v1 G1 H1 g1 hv1 => ?_
      refine tg_two v1 G1 H1 g1.gh hv1 _ ?_
      rintro σ2 ⟨vr, vw, h1, h2, rfl⟩
      exact hn_ret (evn_call (eav_cons (evv_var rfl) (ea_cons (ev_var rfl h1) (ea_cons (ev_var rfl h2) ea_nil))) fun G2 e2 => ⟨b, row, word, ⟨(hg.bk.up g1.g).up e2, hS, hrow, hl1, hl2, rfl⟩, rfl⟩) g1.gh fun v G2 H2 g2 hv => q v G2 H2 (g1.trans g2) (new_up g1.h hv)
    · obtain ⟨x, y, rfl, hb0⟩ := id hbad
      cases hds with
      | cons hx hds =>
      cases hds with
      | cons hy hn =>
      cases hn
      exact x_along hbad rfl rfl rfl (.cons hx (.cons hy .nil)) e xr

theorem sc_letter_fault : FnScope ["book", "row", "word", "known", "letters"] ["book", "row", "word"] (defScope T47.s_letter_fault) := ⟨rfl, rfl, rfl, by decide +kernel, rfl, by decide +kernel, by decide +kernel⟩
theorem has_letter_fault (T : Tx w K mg) (h_checked_along : Has P w K mg base (L2.CX P w) "checked_along" 6 ["book", "row", "word"] (sp_checked_along K)) (h_fault_in : Has P w K mg base CX0 "fault_in" 3 ["book", "row", "word"] (sp_fault_in K)) : Has P w K mg base (L2.CX P w) "letter_fault" 7 ["book", "row", "word"] (sp_letter_fault K) := by
  obtain ⟨fd, F⟩ := T.def_ 38
  have gm := T.glo (x := "letter_fault") 50
  have nd := sc_letter_fault.nd
  refine has_ofX F gm sc_letter_fault (fun _ _ _ _ _ _ us hl => match us, hl with | [_, _, _], _ => rfl) (fun vs H Q E h => ?_) (fun cdv A outer s H vs Q E hr h => ?_)
  · rcases h with h | h
    · exact spV_len h fun _ _ _ _ ⟨_, _, _, ⟨_, _, e, _⟩, _⟩ => by rw [e]; rfl
    · exact spX_len h fun _ _ _ _ _ _ ⟨_, _, e, _⟩ => by rw [e]; rfl
  · refine ⟨_, (pss_cons (ps_asg (pe_hX (E := E) h_checked_along (hr.mono (by decide)) rfl (takes_of rfl rfl rfl rfl) (fun _ _ _ _ z => z) (pa_cons (pv 0) (pa_cons (pv 1) (pa_cons (pv 2) pa_nil)))) (pg_tup rfl (pgs_cons (pg_name (i := 3) nd rfl (Or.inl rfl)) (pgs_cons (pg_name (i := 4) nd rfl (Or.inl rfl)) pgs_nil))))
        (pss_one (ps_ret (pe_h h_fault_in (hr.mono (by decide)) rfl (pa_cons (pv 0) (pa_cons (pv 3) (pa_cons (pv 4) pa_nil))))))), ?_⟩
    rcases h with ⟨G, vb, vs', ds, d, rfl, e, hds, ⟨b, row, word, ⟨x, y, rfl, hg, hS, hl1, hl2⟩, rfl⟩, q⟩ | ⟨G, vb, vs', ds, C, fd', pv, rfl, e, hds, hbad, xr⟩
    · cases hds with
      | cons hx hds =>
      cases hds with
      | cons hy hn =>
      cases hn
      rename_i vx vy
      have hrow : rowIn b row := hg.rw.2.2
      refine ev_along hg rfl rfl rfl hx hy H e _ fun v1 G1 H1 g1 hv1 => ?_
      refine tg_two v1 G1 H1 g1.gh hv1 _ ?_
      rintro σ2 ⟨vr, vw, h1, h2, rfl⟩
      exact h_ret (ev_callV (eav_cons (evv_var rfl) (ea_cons (ev_var rfl h1) (ea_cons (ev_var rfl h2) ea_nil))) fun G2 e2 => ⟨b, row, word, ⟨(hg.bk.up g1.g).up e2, hS, hrow, hl1, hl2, rfl⟩, rfl⟩) g1.gh fun v G2 H2 g2 hv => q v G2 H2 (g1.trans g2) hv
    · obtain ⟨x, y, rfl, hb0⟩ := id hbad
      cases hds with
      | cons hx hds =>
      cases hds with
      | cons hy hn =>
      cases hn
      exact x_along hbad rfl rfl rfl (.cons hx (.cons hy .nil)) e xr

theorem sc_next_letters : FnScope ["book", "row", "word", "left"] ["book", "row", "word"] (defScope T47.s_next_letters) := ⟨rfl, rfl, rfl, by decide +kernel, rfl, by decide +kernel, by decide +kernel⟩
theorem has_next_letters (T : Tx w K mg) (h_left_by : Has P w K mg base (L2.CX P w) "left_by" 7 ["book", "row", "word"] (sp_left_by K)) (h_letters_of : Has P w K mg base CX0 "letters_of" 3 ["book", "row"] (sp_letters_of K)) : Has P w K mg base (L2.CX P w) "next_letters" 8 ["book", "row", "word"] (sp_next_letters K) := by
  obtain ⟨fd, F⟩ := T.def_ 37
  have gm := T.glo (x := "next_letters") 49
  have nd := sc_next_letters.nd
  refine has_ofX F gm sc_next_letters (fun _ _ _ _ _ _ us hl => match us, hl with | [_, _, _], _ => rfl) (fun vs H Q E h => ?_) (fun cdv A outer s H vs Q E hr h => ?_)
  · rcases h with h | h
    · exact spN_len h fun _ _ _ _ ⟨_, _, _, ⟨_, _, e, _⟩, _⟩ => by rw [e]; rfl
    · exact spX_len h fun _ _ _ _ _ _ ⟨_, _, e, _⟩ => by rw [e]; rfl
  · refine ⟨_, (pss_cons (ps_set (i := 3) nd rfl (Or.inl rfl) (pe_hX (E := E) h_left_by (hr.mono (by decide)) rfl (takes_of rfl rfl rfl rfl) (fun _ _ _ _ z => z) (pa_cons (pv 0) (pa_cons (pv 1) (pa_cons (pv 2) pa_nil)))))
        (pss_one (ps_ret (pe_ifExp (pt_cmpR op_isN (pv 3) pe_non (nomark _)) pe_non (pe_h h_letters_of (hr.mono (by decide)) rfl (pa_cons (pv 0) (pa_cons (pv 3) pa_nil))))))), ?_⟩
    rcases h with ⟨G, vb, vs', ds, d, rfl, e, hds, ⟨b, row, word, ⟨x, y, rfl, hg, hS, hl1, hl2⟩, rfl⟩, q⟩ | ⟨G, vb, vs', ds, C, fd', pv, rfl, e, hds, hbad, xr⟩
    · cases hds with
      | cons hx hds =>
      cases hds with
      | cons hy hn =>
      cases hn
      rename_i vx vy
      have hrow : rowIn b row := hg.rw.2.2
      refine hn_set (evn_callO (eav_cons (evv_var rfl) (ea_cons (ev_var rfl hx) (ea_cons (ev_var rfl hy) ea_nil))) fun G1 e1 => ⟨b, row, word, ⟨x, y, rfl, hg.up e1, hS, hl1, hl2⟩, rfl⟩) e fun v1 G1 H1 g1 hv1 => ?_
      cases hle : leftIn b row word with
      | none =>
        rw [hle] at hv1 q
        refine hn_ret (d := .non) (evn_if (b := true) (eb_test (ev_isN (d := .non) (ev_var rfl (hv1.up new_sub)) rfl)) (fun _ => evn_scal ev_non rfl) fun z => by cases z) g1.gh fun v G2 H2 g2 hv => q v G2 H2 (g1.trans g2) (new_up g1.h hv)
      | some r =>
        rw [hle] at hv1 q
        refine hn_ret (d := .lst ((lettersOf b r).map D.str)) (evn_if (b := false) (eb_test (ev_isN (d := .lst (r.map D.str)) (ev_var rfl (hv1.up new_sub)) rfl)) (fun z => by cases z) fun _ => evn_call (eav_cons (evv_var rfl) (ea_cons (d := .lst (r.map D.str)) (ev_var rfl (hv1.up new_sub)) ea_nil)) fun G2 e2 => ⟨b, r, (hg.bk.up g1.g).up e2, hS, left_in_rows hS hrow hle, rfl, rfl⟩) g1.gh fun v G2 H2 g2 hv => q v G2 H2 (g1.trans g2) (new_up g1.h hv)
    · obtain ⟨x, y, rfl, hb0⟩ := id hbad
      cases hds with
      | cons hx hds =>
      cases hds with
      | cons hy hn =>
      cases hn
      exact x_callO (eav_cons (evv_var rfl) (ea_cons (ev_var rfl hx) (ea_cons (ev_var rfl hy) ea_nil))) (fun G1 e1 => hbad.up e1) e xr

theorem sc_is_finished : FnScope ["book", "row", "word"] ["book", "row", "word"] (defScope T47.s_is_finished) := ⟨rfl, rfl, rfl, by decide +kernel, rfl, by decide +kernel, by decide +kernel⟩
theorem has_is_finished (T : Tx w K mg) (h_letter_fault : Has P w K mg base (L2.CX P w) "letter_fault" 7 ["book", "row", "word"] (sp_letter_fault K)) : Has P w K mg base (L2.CX P w) "is_finished" 8 ["book", "row", "word"] (sp_is_finished K) := by
  obtain ⟨fd, F⟩ := T.def_ 39
  have gm := T.glo (x := "is_finished") 51
  have nd := sc_is_finished.nd
  refine has_ofX F gm sc_is_finished (fun _ _ _ _ _ _ us hl => match us, hl with | [_, _, _], _ => rfl) (fun vs H Q E h => ?_) (fun cdv A outer s H vs Q E hr h => ?_)
  · rcases h with h | h
    · exact spV_len h fun _ _ _ _ ⟨_, _, _, ⟨_, _, e, _⟩, _⟩ => by rw [e]; rfl
    · exact spX_len h fun _ _ _ _ _ _ ⟨_, _, e, _⟩ => by rw [e]; rfl
  · refine ⟨_, (pss_one (ps_ret (pe_cmpR op_isN (pe_hX (E := E) h_letter_fault (hr.mono (by decide)) rfl (takes_of rfl rfl rfl rfl) (fun _ _ _ _ z => z) (pa_cons (pv 0) (pa_cons (pv 1) (pa_cons (pv 2) pa_nil)))) pe_non (nomark _)))), ?_⟩
    rcases h with ⟨G, vb, vs', ds, d, rfl, e, hds, ⟨b, row, word, ⟨x, y, rfl, hg, hS, hl1, hl2⟩, rfl⟩, q⟩ | ⟨G, vb, vs', ds, C, fd', pv, rfl, e, hds, hbad, xr⟩
    · cases hds with
      | cons hx hds =>
      cases hds with
      | cons hy hn =>
      cases hn
      rename_i vx vy
      have hrow : rowIn b row := hg.rw.2.2
      obtain ⟨fo, hfo'⟩ : ∃ fo, fo = faultIn b row word := ⟨_, rfl⟩
      have hfo : optNat fo = optNat (faultIn b row word) := by rw [hfo']
      rw [← hfo'] at q
      refine h_ret (ev_isN (d := optNat fo) (ev_callO (eav_cons (evv_var rfl) (ea_cons (ev_var rfl hx) (ea_cons (ev_var rfl hy) ea_nil))) fun G1 e1 => ⟨b, row, word, ⟨x, y, rfl, hg.up e1, hS, hl1, hl2⟩, hfo⟩) ?_) e fun v G1 H1 g1 hv => q v G1 H1 g1 hv
      cases fo <;> rfl
    · obtain ⟨x, y, rfl, hb0⟩ := id hbad
      cases hds with
      | cons hx hds =>
      cases hds with
      | cons hy hn =>
      cases hn
      exact x_callO (eav_cons (evv_var rfl) (ea_cons (ev_var rfl hx) (ea_cons (ev_var rfl hy) ea_nil))) (fun G1 e1 => hbad.up e1) e xr

end
end T47
/-! _law_draw. -/
namespace T47
open PySem PySem.Spec PyProof.Rows L2 Pk
section
variable {P : Program} {w : World} {K : PySem.W.Frag} {mg : Str → Option Value} {base : Heap}
structure Dr (S : Sm) (H0 H : Hp) (cells : List Int) (n : Int) (t : Nat) (r : Int) : Prop where
  ne : S.s ≠ S.c
  k : ∀ b o, b ≠ S.s → b ≠ S.c → H0 b = some o → H b = some o
  hs : H S.s = some (.lst [.ref S.c, .int n, .int (t : Nat), .int r])
  hc : H S.c = some (.lst (cells.map V.int))
theorem Dr.ups {S : Sm} {H0 H : Hp} {cells : List Int} {n r n' r' : Int} {t t' : Nat} (d : Dr S H0 H cells n t r) : Dr S H0 (upd H S.s (.lst [.ref S.c, .int n', .int (t' : Nat), .int r'])) cells n' t' r' :=
  ⟨d.ne, fun b o h1 h2 e => by rw [upd_ne h1]; exact d.k b o h1 h2 e, upd_same, by rw [upd_ne d.ne.symm]; exact d.hc⟩
theorem Dr.upc {S : Sm} {H0 H : Hp} {cells cells' : List Int} {n r : Int} {t : Nat} (d : Dr S H0 H cells n t r) : Dr S H0 (upd H S.c (.lst (cells'.map V.int))) cells' n t r :=
  ⟨d.ne, fun b o h1 h2 e => by rw [upd_ne h2]; exact d.k b o h1 h2 e, by rw [upd_ne d.ne]; exact d.hs, upd_same⟩
theorem Dr.new {S : Sm} {H0 H : Hp} {cells : List Int} {n r : Int} {t : Nat} {p : Addr} {o : HO} (d : Dr S H0 H cells n t r) (hp : H p = none) : Dr S H0 (upd H p o) cells n t r :=
  ⟨d.ne, fun b u h1 h2 e => same_new hp _ _ (d.k b u h1 h2 e), same_new hp _ _ d.hs, same_new hp _ _ d.hc⟩
theorem Dr.fin {S : Sm} {G H0 H : Hp} {cells : List Int} {n r : Int} {t L L' : Nat} (d : Dr S H0 H cells n t r) (w : Wl S G L H0) (h1 : cells.length ≤ 63) (h2 : 0 ≤ n) (h3 : t ≤ L') (h4 : 0 ≤ r ∧ r < 2147483647) : Gs S L L' G H0 G H := by
  refine ⟨Same.refl _, ⟨fun b o e => d.k b o (fun z => by rw [z, w.gs] at e; cases e) (fun z => by rw [z, w.gc] at e; cases e) (w.g b o e), w.gs, w.gc, ⟨d.ne, cells, n, r, t, d.hs, d.hc, h1, h2, h3, h4.1, h4.2⟩⟩, d.k, fun b o e => .inl e, fun b o e => ?_⟩
  by_cases hb : b = S.s
  · rw [hb]; exact ⟨_, d.hs⟩
  · by_cases hb2 : b = S.c
    · rw [hb2]; exact ⟨_, d.hc⟩
    · exact ⟨o, d.k b o hb hb2 e⟩
theorem ix_at {σ : L2.St} {H : Hp} {Q : VK} {i k : Nat} {a : Addr} {xs : List V} {v : V} (h0 : σ[i]? = some (some (.ref a))) (hs : H a = some (.lst xs)) (hk : xs[k]? = some v) (q : Q v H) : tOp (rIx K) (tVar i) (tC (.int (k : Nat))) σ H Q :=
  ⟨_, h0, rIx_L ⟨a, xs, k, v, rfl, rfl, seqL (.inl hs), atI_nat hk, q⟩⟩
theorem dp_ints {H : Hp} : ∀ ns : List Int, DpAll K H (ns.map V.int) (ns.map PyData.int)
  | [] => .nil
  | n :: ns => .cons (.int n) (dp_ints ns)
theorem lay_ints : ∀ ns : List Int, PyData.canLayAll0 (ns.map PyData.int) = true
  | [] => rfl
  | n :: ns => by
    show (true && PyData.canLayAll0 (ns.map PyData.int)) = true
    rw [lay_ints ns]
    rfl
theorem shaped_ints (ns : List Int) : SeqAt.shaped (.list (ns.map PyData.int)) = true := by
  unfold SeqAt.shaped
  have h1 : (PyData.list (ns.map PyData.int)).canLay0 = true := lay_ints ns
  rw [h1]
  have : (PyData.list (ns.map PyData.int)).depth ≤ 64 := by
    simp [PyData.depth, PySem.W.depth_ints]
  simpa using this
theorem int_lit (i : Int) (h : 0 ≤ i) : ∃ k : Nat, i = (k : Nat) := ⟨i.toNat, by omega⟩
def sp_draw (K : PySem.W.Frag) : Sp := spS K 1 fun ds p => ∃ many : Nat, ds = [.int (many : Nat)] ∧ 0 < many ∧ many < 1000000000 ∧ p = fun d => ∃ i : Nat, d = .int (i : Nat) ∧ i < many
abbrev sp_w_draw (K : PySem.W.Frag) : Sp := sp_draw K
theorem mod_lt {i : Int} {m : Nat} (h : 0 < m) : ∃ k : Nat, Int.fmod i (m : Int) = (k : Nat) ∧ k < m := by
  have h1 : Int.fmod i (m : Int) = i % (m : Int) := Int.fmod_eq_emod_of_nonneg i (by omega)
  have h2 : 0 ≤ i % (m : Int) := Int.emod_nonneg i (by omega)
  have h3 : i % (m : Int) < m := Int.emod_lt_of_pos i (by omega)
  exact ⟨(i % (m : Int)).toNat, by rw [h1]; omega, by omega⟩

theorem sc_w_draw : FnScope ["_law_stream", "_law_many", "_law_cell", "_law_digit", "_law_mixed_here"] ["_law_stream", "_law_many"] (defScope T47.s_w_draw) := ⟨rfl, rfl, rfl, by decide +kernel, rfl, by decide +kernel, by decide +kernel⟩
theorem has_w_draw (T : Tx w K mg) : Has P w K mg base CX0 "_law_draw" 1 ["_law_stream", "_law_many"] (sp_w_draw K) := by
  obtain ⟨fd, F⟩ := T.def_ 59
  have gm := T.glo (x := "_law_draw") 71
  have z_int := T.free (x := "int") 85
  have nd := sc_w_draw.nd
  refine has_of F gm sc_w_draw (fun _ _ _ _ _ _ us hl => match us, hl with | [_, _], _ => rfl) (fun vs H Q E h => ?_) (fun cdv A outer s H vs Q E hr h => ?_)
  · exact spS_len h fun _ _ ⟨_, e, _⟩ => by rw [e]; rfl
  · refine ⟨_, (pss_cons (ps_asg (pe_op op_add (pe_ix ix_seq (pv 0) pe_int (fun _ _ => rfl)) pe_int) (pg_sub (pv 0) pe_int set_list))
        (pss_cons (ps_while PassesOwn.never (PW.pt (pw_and (pt_cmpR op_eq (pe_ix ix_seq (pv 0) pe_int (fun _ _ => rfl)) pe_int (nomark _)) (pw_and1 (pt_cmpR (op_neD hr.units) (pe_ix ix_seq (pv 0) pe_int (fun _ _ => rfl)) (pe_lst pa_nil) rfl)))) (pss_cons (ps_set (i := 2) nd rfl (Or.inl rfl) (pe_bm PySem.F.plainAttrs_list PySem.F.slot_list_pop PySem.F.type_list_pop mt_popAt (pe_ix ix_seq (pv 0) pe_int (fun _ _ => rfl)) (pa_cons pe_int pa_nil)))
        (pss_cons (ps_asg (pe_op op_modN (pe_callTy call_int1 rfl z_int (by decide +kernel) (pa_cons (pe_op op_add (pe_op op_add (pe_op op_mul (pe_ix ix_seq (pv 0) pe_int (fun _ _ => rfl)) pe_int) (pv 2)) pe_int) pa_nil)) pe_int) (pg_sub (pv 0) pe_int set_list))
        (pss_one (ps_asg (pe_ifExp (pt_cmpR op_ge (pv 2) (pe_op op_pow pe_int pe_int) (nomark _)) (pv 2) pe_int) (pg_sub (pv 0) pe_int set_list))))))
        (pss_cons (ps_if (pt_cmpR op_gt (pe_ix ix_seq (pv 0) pe_int (fun _ _ => rfl)) pe_int (nomark _)) (pss_cons (ps_set (i := 3) nd rfl (Or.inl rfl) (pe_op op_modN (pe_callTy call_int1 rfl z_int (by decide +kernel) (pa_cons (pe_ix ix_seq (pv 0) pe_int (fun _ _ => rfl)) pa_nil)) (pv 1)))
        (pss_cons (ps_asg (pe_op op_fdivN (pe_ix ix_seq (pv 0) pe_int (fun _ _ => rfl)) (pv 1)) (pg_sub (pv 0) pe_int set_list))
        (pss_one (ps_ret (pv 3))))) pss_nil)
        (pss_cons (ps_set (i := 4) nd rfl (Or.inl rfl) (pe_op op_modN (pe_callTy call_int1 rfl z_int (by decide +kernel) (pa_cons (pe_op op_pow (pe_op op_add (pe_op op_add (pe_ix ix_seq (pv 0) pe_int (fun _ _ => rfl)) (pe_op op_mul pe_int (pe_ix ix_seq (pv 0) pe_int (fun _ _ => rfl)))) pe_int) pe_int) pa_nil)) pe_int))
        (pss_one (ps_ret (pe_op op_modN (pe_op op_modN (pe_callTy call_int1 rfl z_int (by decide +kernel) (pa_cons (pe_op op_pow (pe_op op_add (pe_op op_add (pe_op op_mul (pv 4) pe_int) (pe_op op_mul pe_int (pe_ix ix_seq (pv 0) pe_int (fun _ _ => rfl)))) pe_int) pe_int) pa_nil)) pe_int) (pv 1)))))))), ?_⟩
    obtain ⟨S, G, L, vs', ds, p, rfl, hw, hL, hds, ⟨many, rfl, hm1, hm2, rfl⟩, q⟩ := h
    cases hds with
    | cons hx hn =>
    cases hn
    cases hx
    obtain ⟨hne, cells, n, r, t, hs, hc, k1, k2, k3, k4, k5⟩ := hw.st.ex
    have d0 : Dr S H H cells n t r := ⟨hne, fun b o _ _ e => e, hs, hc⟩
    have tl : ((t + 1 : Nat) : Int) = (t : Int) + 1 := by omega
    -- stream[2] = stream[2] + 1
    refine ix_at (k := 2) rfl hs rfl ⟨_, _, rfl, rfl, Exists.intro (V.ref S.s) (And.intro rfl ⟨S.s, _, 2, 2, rfl, rfl, hs, rfl, ?_⟩)⟩
    have d1 : Dr S H (upd H S.s (.lst [.ref S.c, .int n, .int ((t + 1 : Nat) : Int), .int r])) cells n (t + 1) r := d0.ups
    have e1 : (([V.ref S.c, V.int n, V.int (t : Nat), V.int r] : List V).set 2 (V.int ((t : Int) + 1))) = [.ref S.c, .int n, .int ((t + 1 : Nat) : Int), .int r] := by rw [tl]; rfl
    rw [e1]
    generalize (upd H S.s (.lst [.ref S.c, .int n, .int ((t + 1 : Nat) : Int), .int r])) = H1 at d1 ⊢
    -- the cells that are spent
    refine h_while (fun σ' H' => ∃ b2 cells n r, σ' = [some (.ref S.s), some (.int (many : Nat)), b2, none, none] ∧ Dr S H H' cells n (t + 1) r ∧ cells.length ≤ 63 ∧ 0 ≤ n ∧ 0 ≤ r ∧ r < 2147483647)
      (fun m σ' H' => ∃ b2 cells n r, σ' = [some (.ref S.s), some (.int (many : Nat)), b2, none, none] ∧ Dr S H H' cells n (t + 1) r ∧ m = cells.length ∧ cells.length ≤ 63 ∧ 0 ≤ n ∧ 0 ≤ r ∧ r < 2147483647) ⟨cells.length, none, cells, n, r, rfl, d1, rfl, k1, k2, k4, k5⟩ ?_ ?_
    · -- after the loop
      rintro σ' H' ⟨b2, cells, n, r, rfl, d2, c1, c2, c3, c4⟩
      have ht : t + 1 ≤ L + 1 := by omega
      have hm0 : (many : Int) ≠ 0 := by omega
      refine ix_at (k := 1) rfl d2.hs rfl ⟨n, 0, rfl, rfl, _, rfl, ?_⟩
      by_cases hn0 : 0 < n
      · rw [show decide (0 < n) = true from decide_eq_true hn0]
        obtain ⟨i, hi, him⟩ := mod_lt (i := n) hm1
        refine iteT (ix_at (k := 1) rfl d2.hs rfl (.inl ⟨n, rfl, Exists.intro (V.int (many : Nat)) (And.intro rfl ⟨n, (many : Nat), rfl, rfl, hm0, ?_⟩)⟩))
        refine ix_at (k := 1) rfl d2.hs rfl (Exists.intro (V.int (many : Nat)) (And.intro rfl ⟨n, (many : Nat), rfl, rfl, ⟨hm0, by omega⟩, ?_⟩))
        refine Exists.intro (V.ref S.s) (And.intro rfl ⟨S.s, _, 1, 1, rfl, rfl, d2.hs, rfl, ?_⟩)
        have d3 : Dr S H (upd H' S.s (.lst [.ref S.c, .int (n.fdiv (many : Nat)), .int ((t + 1 : Nat) : Int), .int r])) cells (n.fdiv (many : Nat)) (t + 1) r := d2.ups
        have hdiv : 0 ≤ n.fdiv ((many : Nat) : Int) := by
          rw [Int.fdiv_eq_ediv_of_nonneg _ (by omega)]
          exact Int.ediv_nonneg c2 (by omega)
        refine Exists.intro (V.int (Int.fmod n (many : Nat))) (And.intro rfl ?_)
        exact q _ _ G _ (d3.fin hw c1 hdiv ht ⟨c3, c4⟩) ⟨i, rfl, him⟩ (by rw [hi]; exact .int _)
      · rw [show decide (0 < n) = false from decide_eq_false hn0]
        have hT : (t : Int) ≤ 100000000000000 := by have : L + 1 ≤ 100000000000000 := hL; omega
        have b1 : (r + 7919 * ((t + 1 : Nat) : Int) + 104729).natAbs < 2 ^ 64 := by omega
        refine iteF (ix_at (k := 3) rfl d2.hs rfl ?_)
        refine ix_at (k := 2) rfl d2.hs rfl ⟨7919, ((t + 1 : Nat) : Int), rfl, rfl, .inl ⟨by decide, by decide⟩, ?_⟩
        refine ⟨r, _, rfl, rfl, _, 104729, rfl, rfl, _, 5, rfl, rfl, ⟨by decide, by decide, b1⟩, .inl ⟨_, rfl, _, 2147483629, rfl, rfl, (show (2147483629 : Int) ≠ 0 by decide), ?_⟩⟩
        obtain ⟨m5, hm5, hm5l⟩ := mod_lt (i := (r + 7919 * ((t + 1 : Nat) : Int) + 104729) ^ (5 : Int).toNat) (m := 2147483629) (by decide)
        have hm5' : Int.fmod ((r + 7919 * ((t + 1 : Nat) : Int) + 104729) ^ (5 : Int).toNat) 2147483629 = (m5 : Nat) := hm5
        show gName 4 (V.int (Int.fmod ((r + 7919 * ((t + 1 : Nat) : Int) + 104729) ^ (5 : Int).toNat) 2147483629)) _ _ _
        rw [hm5']
        have b2 : ((m5 : Int) * 48271 + 30011 * ((t + 1 : Nat) : Int) + 29).natAbs < 2 ^ 64 := by omega
        refine Exists.intro (V.int (m5 : Nat)) (And.intro rfl ⟨(m5 : Nat), 48271, rfl, rfl, .inr ⟨by decide, by decide⟩, ?_⟩)
        refine ix_at (k := 2) rfl d2.hs rfl ⟨30011, ((t + 1 : Nat) : Int), rfl, rfl, .inl ⟨by decide, by decide⟩, ?_⟩
        refine ⟨_, _, rfl, rfl, _, 29, rfl, rfl, _, 3, rfl, rfl, ⟨by decide, by decide, b2⟩, .inl ⟨_, rfl, _, 1000000007, rfl, rfl, (show (1000000007 : Int) ≠ 0 by decide), ?_⟩⟩
        refine Exists.intro (V.int (many : Nat)) (And.intro rfl ⟨_, (many : Nat), rfl, rfl, hm0, ?_⟩)
        obtain ⟨i, hi, him⟩ := mod_lt (i := Int.fmod (((m5 : Int) * 48271 + 30011 * ((t + 1 : Nat) : Int) + 29) ^ (3 : Int).toNat) 1000000007) hm1
        exact q _ _ G _ (d2.fin hw c1 c2 ht ⟨c3, c4⟩) ⟨i, rfl, him⟩ (by show Dq K G (V.int (Int.fmod (Int.fmod (((m5 : Int) * 48271 + 30011 * ((t + 1 : Nat) : Int) + 29) ^ (3 : Int).toNat) 1000000007) (many : Int))) _; rw [hi]; exact .int _)
    · intro tail
      rintro m σ' H' ⟨b2, cells, n, r, rfl, d2, rfl, c1, c2, c3, c4⟩
      refine ix_at (k := 1) rfl d2.hs rfl ⟨rfl, _, rfl, ?_⟩
      by_cases hn0 : n = 0
      · subst hn0
        rw [show decide (V.int 0 = V.int 0) = true from by simp]
        refine iteT (ix_at (k := 0) rfl d2.hs rfl ⟨by show 0 ≤ sizeLine; decide, fun pl hpl => ?_⟩)
        have d3 := d2.new (o := .lst []) hpl
        refine ⟨.list (cells.map PyData.int), .list [], .lst (seqL (.inl d3.hc)) (dp_ints cells), .lst (seqL (.inl upd_same)) .nil, shaped_ints cells, by decide +kernel, _, rfl, ?_⟩
        cases cells with
        | nil => exact iteF (tail _ _ ⟨b2, [], 0, r, rfl, d3, c1, c2, c3, c4⟩)
        | cons c cells =>
          refine iteT (Exists.intro (fun σ' H' => ∃ b2 n r, σ' = [some (.ref S.s), some (.int (many : Nat)), b2, none, none] ∧ Dr S H H' cells n (t + 1) r ∧ 0 ≤ n ∧ 0 ≤ r ∧ r < 2147483647) (And.intro ?_ ?_))
          · rintro σ'' H'' ⟨b2, n, r, rfl, d4, e2, e3, e4⟩
            exact ⟨cells.length, Nat.lt_succ_self _, b2, cells, n, r, rfl, d4, rfl, by rw [List.length_cons] at c1; omega, e2, e3, e4⟩
          · refine ix_at (k := 0) rfl d3.hs rfl (And.intro (Or.inl ⟨rfl, _, seqL (.inl d3.hc)⟩) ⟨S.c, (c :: cells).map V.int, 0, 0, .int c, rfl, rfl, d3.hc, by decide, by decide, ?_, rfl, ?_⟩)
            · simp [seqIndex?]
            · have d4 : Dr S H (upd (upd H' pl (.lst [])) S.c (.lst (cells.map V.int))) cells 0 (t + 1) r := d3.upc
              obtain ⟨i, hi, him⟩ := mod_lt (i := r * 8191 + c + 3) (m := 2147483647) (by decide)
              refine ix_at (k := 3) rfl d4.hs rfl ⟨r, 8191, rfl, rfl, .inr ⟨by decide, by decide⟩, Exists.intro (V.int c) (And.intro rfl ⟨_, _, rfl, rfl, _, _, rfl, rfl, .inl ⟨_, rfl, _, 2147483647, rfl, rfl, (show (2147483647 : Int) ≠ 0 by decide), ?_⟩⟩)⟩
              refine Exists.intro (V.ref S.s) (And.intro rfl ⟨S.s, _, 3, 3, rfl, rfl, d4.hs, rfl, ?_⟩)
              have d5 : Dr S H (upd (upd (upd H' pl (.lst [])) S.c (.lst (cells.map V.int))) S.s (.lst [.ref S.c, .int 0, .int ((t + 1 : Nat) : Int), .int (Int.fmod (r * 8191 + c + 3) 2147483647)])) cells 0 (t + 1) (Int.fmod (r * 8191 + c + 3) 2147483647) := d4.ups
              have hr2 : 0 ≤ Int.fmod (r * 8191 + c + 3) 2147483647 ∧ Int.fmod (r * 8191 + c + 3) 2147483647 < 2147483647 := by
                have : Int.fmod (r * 8191 + c + 3) 2147483647 = (i : Nat) := hi
                rw [this]
                omega
              refine Exists.intro (V.int c) (And.intro rfl ⟨10, 18, rfl, rfl, ⟨by decide, by decide, by decide⟩, c, _, rfl, rfl, _, rfl, ?_⟩)
              by_cases hc : (10 : Int) ^ (18 : Int).toNat ≤ c
              · rw [show decide ((10 : Int) ^ (18 : Int).toNat ≤ c) = true from decide_eq_true hc]
                refine iteT (Exists.intro (V.int c) (And.intro rfl (Exists.intro (V.ref S.s) (And.intro rfl ⟨S.s, _, 1, 1, rfl, rfl, d5.hs, rfl, ?_⟩))))
                exact ⟨_, c, _, rfl, d5.ups, Int.le_trans (by decide) hc, hr2⟩
              · rw [show decide ((10 : Int) ^ (18 : Int).toNat ≤ c) = false from decide_eq_false hc]
                refine iteF (Exists.intro (V.ref S.s) (And.intro rfl ⟨S.s, _, 1, 1, rfl, rfl, d5.hs, rfl, ?_⟩))
                exact ⟨_, 0, _, rfl, d5.ups, Int.le_refl _, hr2⟩
      · rw [show decide (V.int n = V.int 0) = false from decide_eq_false fun z => hn0 (V.int.inj z)]
        exact iteF (iteF (tail _ _ ⟨b2, cells, n, r, rfl, d2, c1, c2, c3, c4⟩))

end
end T47
/-! pick, mixed, names, letters, rows. -/
namespace T47
open PySem PySem.Spec PyProof.Rows L2 Pk
section
variable {P : Program} {w : World} {K : PySem.W.Frag} {mg : Str → Option Value} {base : Heap}
def sp_w_pick (K : PySem.W.Frag) : Sp := spS K 1 fun ds p => ∃ x es, ds = [x] ∧ Lk x es ∧ es ≠ [] ∧ es.length < 1000000 ∧ p = fun d => d ∈ es
def sp_w_mixed (K : PySem.W.Frag) : Sp := spS K 64 fun ds p => ∃ x es, ds = [x] ∧ Lk x es ∧ es.length ≤ 64 ∧ p = fun d => ∃ ys, d = .lst ys ∧ ys.Perm es
theorem evs_draw {σ : L2.St} {S : Sm} {G : Hp} {te : TE} {i n : Nat} {E : XK} (h0 : σ[i]? = some (some (.ref S.s))) {N : Nat} (h : EvS K S te σ G n (fun d => ∃ m : Nat, d = .int (m : Nat) ∧ 0 < m ∧ m ≤ N)) (hN : N < 1000000000) : EvS K S (tCall (sp_draw K) [] E (tCons (tVar i) (tCons te tNil))) σ G (n + 1) (fun d => ∃ k : Nat, d = .int (k : Nat) ∧ k < N) := fun L H w hl Q q =>
  ⟨_, h0, h L H w (by omega) _ fun v d G1 H1 g1 ⟨m, hd, hm, hmN⟩ hv => by
    subst hd
    exact ⟨S, G1, L + n, [v], [.int (m : Nat)], _, rfl, g1.w, by omega, .cons hv .nil, ⟨m, rfl, hm, by omega, rfl⟩, fun v2 d2 G2 H2 g2 ⟨k, hk, hkm⟩ hv2 => q v2 d2 G2 H2 (by have := g1.trans g2; rwa [Nat.add_assoc] at this) ⟨k, hk, by omega⟩ hv2⟩⟩
theorem ix_any {G H : Hp} {Q : VK} {vx : V} {x : D} {es : List D} {i : Nat} {d : D} (hx : Dq K G vx x) (hk : Lk x es) (e : Same G H) (hi : es[i]? = some d) (q : ∀ v, Dq K G v d → Q v H) : rIx K vx (.int (i : Nat)) H Q := by
  cases hk with
  | lst es =>
    cases hx with
    | @lst a xs _ hr hs =>
      obtain ⟨w, hw, hq⟩ := hs.get hi
      exact rIx_L ⟨a, xs, i, w, rfl, rfl, seqL (Rd.up e hr), atI_nat hw, q w hq⟩
  | tup es =>
    cases hx with
    | @tup a xs _ hr hs =>
      obtain ⟨w, hw, hq⟩ := hs.get hi
      exact rIx_T ⟨a, xs, i, w, rfl, rfl, seqT (Rd.up e hr), atI_nat hw, q w hq⟩

theorem sc_w_pick : FnScope ["_law_stream", "_law_some"] ["_law_stream", "_law_some"] (defScope T47.s_w_pick) := ⟨rfl, rfl, rfl, by decide +kernel, rfl, by decide +kernel, by decide +kernel⟩
theorem has_w_pick (T : Tx w K mg) (h_w_draw : Has P w K mg base CX0 "_law_draw" 1 ["_law_stream", "_law_many"] (sp_w_draw K)) : Has P w K mg base CX0 "_law_pick" 2 ["_law_stream", "_law_some"] (sp_w_pick K) := by
  obtain ⟨fd, F⟩ := T.def_ 60
  have gm := T.glo (x := "_law_pick") 72
  have z_len := T.free (x := "len") 87
  have nd := sc_w_pick.nd
  refine has_of F gm sc_w_pick (fun _ _ _ _ _ _ us hl => match us, hl with | [_, _], _ => rfl) (fun vs H Q E h => ?_) (fun cdv A outer s H vs Q E hr h => ?_)
  · exact spS_len h fun _ _ ⟨_, _, e, _⟩ => by rw [e]; rfl
  · refine ⟨_, (pss_one (ps_ret (pe_ix ix_seq (pv 1) (pe_h h_w_draw (hr.mono (by decide)) rfl (pa_cons (pv 0) (pa_cons (pe_callB call_len rfl z_len (by decide +kernel) (pa_cons (pv 1) pa_nil)) pa_nil))) (fun _ _ => rfl)))), ?_⟩
    obtain ⟨S, G, L, vs', ds, p, rfl, hw, hL, hds, ⟨x, es, rfl, hk, hne, hlt, rfl⟩, q⟩ := h
    cases hds with
    | cons hx hn =>
    cases hn
    rename_i vx
    have hpos : 0 < es.length := List.length_pos_iff.mpr hne
    refine Exists.intro vx (And.intro rfl ?_)
    refine evs_draw (n := 0) (N := es.length) (i := 0) (σ := [some (.ref S.s), some vx]) rfl ((hk.len (ev_var (i := 1) rfl hx)).toS ⟨es.length, rfl, hpos, Nat.le_refl _⟩) (by omega) L H hw (by omega) _ fun v1 d1 G1 H1 g1 ⟨i, hd, hi⟩ hv1 => ?_
    subst hd
    cases hv1
    exact ix_any (hx.up g1.g) hk g1.w.g (List.getElem?_eq_getElem hi) fun v hv => q v _ G1 H1 g1 (List.getElem_mem hi) hv

theorem sc_w_mixed : FnScope ["_law_stream", "_law_some", "_law_left", "_law_k"] ["_law_stream", "_law_some"] (defScope T47.s_w_mixed) := ⟨rfl, rfl, rfl, by decide +kernel, rfl, by decide +kernel, by decide +kernel⟩
theorem has_w_mixed (T : Tx w K mg) (h_w_draw : Has P w K mg base CX0 "_law_draw" 1 ["_law_stream", "_law_many"] (sp_w_draw K)) : Has P w K mg base CX0 "_law_mixed" 2 ["_law_stream", "_law_some"] (sp_w_mixed K) := by
  obtain ⟨fd, F⟩ := T.def_ 61
  have gm := T.glo (x := "_law_mixed") 73
  have z_len := T.free (x := "len") 87
  have z_list := T.free (x := "list") 88
  have z_range := T.free (x := "range") 90
  have nd := sc_w_mixed.nd
  refine has_of F gm sc_w_mixed (fun _ _ _ _ _ _ us hl => match us, hl with | [_, _], _ => rfl) (fun vs H Q E h => ?_) (fun cdv A outer s H vs Q E hr h => ?_)
  · exact spS_len h fun _ _ ⟨_, _, e, _⟩ => by rw [e]; rfl
  · refine ⟨_, (pss_cons (ps_set (i := 2) nd rfl (Or.inr rfl) (pe_callTy call_list_of rfl z_list (by decide +kernel) (pa_cons (pv 1) pa_nil)))
        (pss_one (ps_ret (pe_lc (own := [("_law_k", 3)]) (g := gName 3) (tt := tYes) rfl nd (pi_range1 rfl z_range (pa_cons (pe_callB call_len rfl z_len (by decide +kernel) (pa_cons (pv 2) pa_nil)) pa_nil)) (blkOk_by (own := [("_law_k", 3)]) (N := ["_law_stream", "_law_some", "_law_left", "_law_k"]) (sc := (defScope T47.s_w_mixed)) (by decide +kernel)) (fun _ _ _ _ _ => (pg_name (i := 3) nd rfl (Or.inl rfl))) (fun _ _ _ _ _ => pts_nil) (fun _ _ _ _ _ => (pe_bmK (K := K) rfl PySem.F.plainAttrs_list PySem.F.slot_list_pop PySem.F.type_list_pop mt_popAt (pv 2) (pa_cons (pe_h h_w_draw (by exact hr.mono (by decide)) (by rfl) (pa_cons (pv 0) (pa_cons (pe_callB (call_lenK (K := K) rfl) (by rfl) z_len (by decide +kernel) (pa_cons (pv 2) pa_nil)) pa_nil))) pa_nil))))))), ?_⟩
    obtain ⟨S, G, L, vs', ds, p, rfl, hw, hL, hds, ⟨x, es, rfl, hk, hlt, rfl⟩, q⟩ := h
    cases hds with
    | cons hx hn =>
    cases hn
    rename_i vx
    refine h_listM (ev_var (i := 1) rfl hx) hk hw.g fun G1 H1 a ys g1 hys ha => ?_
    have gs1 := Gs.of hw g1
    have gsa : Gs S L L G H G1 (upd H1 a (.lst ys)) := gs_new hw gs1 ha
    have a0 : H a = none := same_none g1.h ha
    have a1 : G1 a = none := same_none g1.gh ha
    have hlen : ys.length = es.length := hys.length
    refine Exists.intro (V.ref a) (And.intro rfl ⟨.ref a, ys.length, rfl, .inl ⟨ys, seqL (.inl upd_same), rfl⟩, ((ys.length : Nat) : Int), rfl, by omega, by omega, fun Dl hD => ?_⟩)
    have hDa : Dl ≠ a := fun z => by rw [z, upd_same] at hD; cases hD
    have hD0 : H Dl = none := by
      cases e : H Dl with
      | none => rfl
      | some o =>
        obtain ⟨o', e'⟩ := gsa.kp Dl o e
        rw [hD] at e'
        cases e'
    obtain ⟨o1, es1⟩ := hw.ss
    obtain ⟨o2, es2⟩ := hw.cc
    have n1 : Dl ≠ S.s := fun z => by rw [z, es1] at hD0; cases hD0
    have n2 : Dl ≠ S.c := fun z => by rw [z, es2] at hD0; cases hD0
    have m1 : a ≠ S.s := fun z => by rw [z, es1] at a0; cases a0
    have m2 : a ≠ S.c := fun z => by rw [z, es2] at a0; cases a0
    refine lc_range (lo := 0) (n := ys.length) (fun i H' => ∃ G' acc outs restv rest, Gs S L (L + i) G H G' H' ∧ G' Dl = none ∧ H' Dl = some (.lst acc) ∧ Dqs K G' acc outs ∧ G' a = none ∧ H' a = some (.lst restv) ∧ Dqs K G' restv rest ∧ (outs ++ rest).Perm es ∧ rest.length + i = es.length) ⟨G1, [], [], ys, es, gs_new hw gsa hD, same_none gsa.w.g hD, upd_same, .nil, a1, by rw [upd_ne hDa.symm, upd_same], hys, .refl _, by omega⟩ (fun i H' hlt pv => ?_) (fun H' pv => ?_)
    · obtain ⟨G', acc, outs, restv, rest, k1, k2, k3, k4, k5, k6, k7, k8, k9⟩ := pv
      have hrl : restv.length = rest.length := k7.length
      refine ⟨rfl, yesT ?_⟩
      refine Exists.intro (V.ref a) (And.intro rfl (And.intro (Or.inl ⟨rfl, restv, seqL (.inl k6)⟩) ?_))
      refine Exists.intro (V.ref S.s) (And.intro rfl (Exists.intro (V.ref a) (And.intro rfl ⟨.ref a, restv.length, rfl, .inl ⟨restv, seqL (.inl k6), rfl⟩, ?_⟩)))
      refine ⟨S, G', L + i, [.int (restv.length : Nat)], [.int (restv.length : Nat)], _, rfl, k1.w, by omega, .cons (.int _) .nil, ⟨restv.length, rfl, by omega, by omega, rfl⟩, fun v d G2 H2 g2 ⟨x2, hd, hx2⟩ hv => ?_⟩
      subst hd
      cases hv
      have k6' := g2.h _ _ m1 m2 k6
      have k5' := g2.apart k6 k5
      have k3' := g2.h _ _ n1 n2 k3
      have k2' := g2.apart k3 k2
      have hxr : x2 < rest.length := by omega
      obtain ⟨vv, hvv, qv⟩ := k7.get (List.getElem?_eq_getElem hxr)
      refine ⟨a, restv, (x2 : Nat), x2, vv, rfl, rfl, k6', by omega, by omega, ?_, hvv, acc, ?_, ?_, ?_⟩
      · unfold seqIndex?
        have : ¬ ((x2 : Nat) : Int) < 0 := by omega
        simp only [this, if_false]
        rw [if_pos (by simp; omega)]
        simp
      · rw [upd_ne hDa]; exact k3'
      · have hal := k4.length
        have hp := k8.length_eq
        rw [List.length_append] at hp
        rw [hal]
        exact Nat.lt_of_le_of_lt (by omega : outs.length ≤ 64) (by decide)
      · have gg := k1.trans g2
        have g3 : Gs S L (L + i + 1) G H G2 (upd H2 a (.lst (restv.eraseIdx x2))) := gs_upd hw gg a0 k5'
        have g4 : Gs S L (L + i + 1) G H G2 (upd (upd H2 a (.lst (restv.eraseIdx x2))) Dl (.lst (acc ++ [vv]))) := gs_upd hw g3 hD0 k2'
        refine ⟨G2, acc ++ [vv], outs ++ [rest[x2]], restv.eraseIdx x2, rest.eraseIdx x2, g4, k2', upd_same, (k4.up g2.g).snoc (qv.up g2.g), k5', by rw [upd_ne hDa.symm, upd_same], (k7.up g2.g).erase x2, ?_, ?_⟩
        · have := perm_erase (List.getElem?_eq_getElem hxr)
          rw [List.append_assoc]
          exact (List.Perm.append_left outs this).trans k8
        · rw [List.length_eraseIdx, if_pos hxr]
          omega
    · obtain ⟨G', acc, outs, restv, rest, k1, k2, k3, k4, k5, k6, k7, k8, k9⟩ := pv
      have hr0 : rest = [] := List.eq_nil_of_length_eq_zero (by omega)
      subst hr0
      rw [List.append_nil] at k8
      have g3 := (gs_keep hw k1 hD0 k2 k3).more (show L + ys.length ≤ L + 64 by omega)
      exact q (.ref Dl) (.lst outs) _ H' g3 ⟨outs, rfl, k8⟩ (.lst (.inl upd_same) (k4.up (same_new k2)))

end
end T47
/-! names, letters, rows that are drawn. -/
namespace T47
open PySem PySem.Spec PyProof.Rows L2 Pk
def namesL : List Str := ["r", "s", "t", "u", "v", "w", "x", "y", "z", "rs", "talks8bc", "b"]
def lettersL : List Str := ["a", "b", "!a", "?a", "eightsgn", "ab"]
section
variable {P : Program} {w : World} {K : PySem.W.Frag} {mg : Str → Option Value} {base : Heap}
def sp_w_d_names (K : PySem.W.Frag) : Sp := spS K 64 fun ds p => ∃ many : Nat, ds = [.int (many : Nat)] ∧ p = fun d => ∃ ns : List Str, d = rowD ns ∧ ns.Nodup ∧ (∀ n ∈ ns, n ∈ namesL) ∧ ns.length = min many 12
def sp_w_g_letters (K : PySem.W.Frag) : Sp := spS K 65 fun ds p => ∃ most : Nat, ds = [.int (most : Nat)] ∧ 0 < most ∧ most < 1000 ∧ p = fun d => ∃ ns : List Str, d = rowD ns ∧ ns.Nodup ∧ (∀ n ∈ ns, n ∈ lettersL) ∧ 1 ≤ ns.length
theorem perm_strs {ys : List D} {xs : List Str} (h : ys.Perm (xs.map D.str)) : ∃ zs : List Str, ys = zs.map D.str ∧ zs.Perm xs := by
  let f : D → Str := fun d => match d with | .str x => x | _ => ("" : Str)
  refine ⟨ys.map f, ?_, ?_⟩
  · rw [List.map_map]
    have : ∀ d ∈ ys, (D.str ∘ f) d = d := fun d hd => by
      obtain ⟨x, _, rfl⟩ := List.mem_map.mp (h.mem_iff.mp hd)
      rfl
    conv => lhs; rw [← List.map_id ys]
    exact List.map_congr_left fun d hd => (this d hd).symm
  · have := h.map f
    rw [List.map_map] at this
    have e : xs.map (f ∘ D.str) = xs := by
      conv => rhs; rw [← List.map_id xs]
      exact List.map_congr_left fun x _ => rfl
    rwa [e] at this
theorem evs_mixed {σ : L2.St} {S : Sm} {G : Hp} {te : TE} {i : Nat} {E : XK} {xs : List Str} (h0 : σ[i]? = some (some (.ref S.s))) (h : EvD K te σ G (.lst (xs.map D.str))) (hl : xs.length ≤ 64) : EvS K S (tCall (sp_w_mixed K) [] E (tCons (tVar i) (tCons te tNil))) σ G (0 + 64) (fun d => ∃ ds, d = .lst ds ∧ ∃ zs : List Str, ds = zs.map D.str ∧ zs.Perm xs) := by
  refine (evs_call (n := 0) (m := 64) (p := fun d => ∃ ys, d = .lst ys ∧ ys.Perm (xs.map D.str)) h0 ((ea_cons h ea_nil).toS (pl := fun ds => ds = [.lst (xs.map D.str)]) rfl) fun ds hds => ⟨_, _, hds, .lst _, by rw [List.length_map]; exact hl, rfl⟩).imp ?_
  rintro d ⟨ys, rfl, hp⟩
  obtain ⟨zs, rfl, hz⟩ := perm_strs hp
  exact ⟨_, rfl, zs, rfl, hz⟩
theorem dq_int {G : Hp} {i j : Int} (h : i = j) : Dq K G (.int i) (.int j) := h ▸ .int i
theorem perm_take_ok {ns zs : List Str} (hz : zs.Perm ns) (hn : ns.Nodup) (k : Nat) : (zs.take k).Nodup ∧ (∀ n ∈ zs.take k, n ∈ ns) ∧ (zs.take k).length = min k ns.length := by
  refine ⟨(List.take_sublist _ _).nodup (hz.nodup_iff.mpr hn), fun n h => hz.mem_iff.mp (List.mem_of_mem_take h), ?_⟩
  rw [List.length_take, hz.length_eq]

theorem sc_w_d_names : FnScope ["_law_stream", "_law_many"] ["_law_stream", "_law_many"] (defScope T47.s_w_d_names) := ⟨rfl, rfl, rfl, by decide +kernel, rfl, by decide +kernel, by decide +kernel⟩
theorem has_w_d_names (T : Tx w K mg) (h_w_mixed : Has P w K mg base CX0 "_law_mixed" 2 ["_law_stream", "_law_some"] (sp_w_mixed K)) : Has P w K mg base CX0 "_law_d_names" 3 ["_law_stream", "_law_many"] (sp_w_d_names K) := by
  obtain ⟨fd, F⟩ := T.def_ 40
  have gm := T.glo (x := "_law_d_names") 52
  have nd := sc_w_d_names.nd
  refine has_of F gm sc_w_d_names (fun _ _ _ _ _ _ us hl => match us, hl with | [_, _], _ => rfl) (fun vs H Q E h => ?_) (fun cdv A outer s H vs Q E hr h => ?_)
  · exact spS_len h fun _ _ ⟨_, e, _⟩ => by rw [e]; rfl
  · refine ⟨_, (pss_one (ps_ret (pe_slice sl_list (pe_h h_w_mixed (hr.mono (by decide)) rfl (pa_cons (pv 0) (pa_cons (pe_lst (pa_cons pe_str (pa_cons pe_str (pa_cons pe_str (pa_cons pe_str (pa_cons pe_str (pa_cons pe_str (pa_cons pe_str (pa_cons pe_str (pa_cons pe_str (pa_cons pe_str (pa_cons pe_str (pa_cons pe_str pa_nil))))))))))))) pa_nil))) po_none (po_some (pv 1))))), ?_⟩
    obtain ⟨S, G, L, vs', ds, p, rfl, hw, hL, hds, ⟨many, rfl, rfl⟩, q⟩ := h
    cases hds with
    | cons hx hn =>
    cases hn
    
    cases hx
    refine hs_ret (evs_take (n := 0 + 64) (m := 0) (evs_mixed rfl (ev_lst (ds := namesL.map D.str) (ea_cons ev_str (ea_cons ev_str (ea_cons ev_str (ea_cons ev_str (ea_cons ev_str (ea_cons ev_str (ea_cons ev_str (ea_cons ev_str (ea_cons ev_str (ea_cons ev_str (ea_cons ev_str (ea_cons ev_str ea_nil)))))))))))) (by decide)) (by decide)) fun G1 e1 => (ev_var (i := 1) rfl (.int (many : Nat))).toS ⟨many, rfl, (rfl : many = many)⟩) hw (by omega) fun v d G1 H1 g1 ⟨ds, k, ⟨zs, hds, hz⟩, hk, hd⟩ hv => ?_
    subst hds hk hd
    obtain ⟨k1, k2, k3⟩ := perm_take_ok hz (by decide) many
    exact q v _ G1 H1 (g1.more (by omega)) ⟨zs.take many, by rw [← List.map_take]; rfl, k1, k2, k3⟩ hv

theorem sc_w_g_letters : FnScope ["_law_stream", "_law_most"] ["_law_stream", "_law_most"] (defScope T47.s_w_g_letters) := ⟨rfl, rfl, rfl, by decide +kernel, rfl, by decide +kernel, by decide +kernel⟩
theorem has_w_g_letters (T : Tx w K mg) (h_w_draw : Has P w K mg base CX0 "_law_draw" 1 ["_law_stream", "_law_many"] (sp_w_draw K)) (h_w_mixed : Has P w K mg base CX0 "_law_mixed" 2 ["_law_stream", "_law_some"] (sp_w_mixed K)) : Has P w K mg base CX0 "_law_g_letters" 3 ["_law_stream", "_law_most"] (sp_w_g_letters K) := by
  obtain ⟨fd, F⟩ := T.def_ 47
  have gm := T.glo (x := "_law_g_letters") 59
  have nd := sc_w_g_letters.nd
  refine has_of F gm sc_w_g_letters (fun _ _ _ _ _ _ us hl => match us, hl with | [_, _], _ => rfl) (fun vs H Q E h => ?_) (fun cdv A outer s H vs Q E hr h => ?_)
  · exact spS_len h fun _ _ ⟨_, e, _⟩ => by rw [e]; rfl
  · refine ⟨_, (pss_one (ps_ret (pe_slice sl_list (pe_h h_w_mixed (hr.mono (by decide)) rfl (pa_cons (pv 0) (pa_cons (pe_lst (pa_cons pe_str (pa_cons pe_str (pa_cons pe_str (pa_cons pe_str (pa_cons pe_str (pa_cons pe_str pa_nil))))))) pa_nil))) po_none (po_some (pe_op op_add pe_int (pe_h h_w_draw (hr.mono (by decide)) rfl (pa_cons (pv 0) (pa_cons (pv 1) pa_nil)))))))), ?_⟩
    obtain ⟨S, G, L, vs', ds, p, rfl, hw, hL, hds, ⟨most, rfl, hm1, hm2, rfl⟩, q⟩ := h
    cases hds with
    | cons hx hn =>
    cases hn
    
    cases hx
    refine hs_ret (evs_take (n := 0 + 64) (m := 0 + 1) (pk := fun k => 1 ≤ k) (evs_mixed rfl (ev_lst (ds := lettersL.map D.str) (ea_cons ev_str (ea_cons ev_str (ea_cons ev_str (ea_cons ev_str (ea_cons ev_str (ea_cons ev_str ea_nil)))))) (by decide)) (by decide)) fun G1 e1 L H w hl Q qq => ?_) hw (by omega) fun v d G1 H1 g1 ⟨ds, k, ⟨zs, hds, hz⟩, hk, hd⟩ hv => ?_
    · exact evs_draw (n := 0) (N := most) rfl ((ev_var (i := 1) rfl (.int (most : Nat))).toS ⟨most, rfl, hm1, Nat.le_refl _⟩) (by omega) L H w hl _ fun v d G2 H2 g2 ⟨i, hd, hi⟩ hv => by
        subst hd
        cases hv
        exact ⟨1, (i : Nat), rfl, rfl, qq _ (.int ((1 + i : Nat) : Int)) G2 H2 g2 ⟨1 + i, rfl, by omega⟩ (dq_int (by omega))⟩
    subst hds hd
    obtain ⟨k1, k2, k3⟩ := perm_take_ok hz (by decide) k
    exact q v _ G1 H1 (g1.more (by omega)) ⟨zs.take k, by rw [← List.map_take]; rfl, k1, k2, by rw [k3]; have : lettersL.length = 6 := rfl; omega⟩ hv

end
end T47
/-! rows that are drawn; a row's norm; lists or tuples as drawn. -/
namespace T47
open PySem PySem.Spec PyProof.Rows L2 Pk
def lawRule (r : Rule) : D := .tup [.str r.1, rowD r.2]
def lawD (b : Kept) : List (Str × D) := b.map fun p => (p.1, .lst (p.2.map lawRule))
theorem lawD_names (b : Kept) : (lawD b).map (·.1) = b.map (·.1) := by
  unfold lawD
  rw [List.map_map]
  rfl
theorem lookD_law : ∀ (b : Kept) (n : Str), lookD (lawD b) n = (lookK b n).map fun rs => D.lst (rs.map lawRule)
  | [], _ => rfl
  | p :: b, n => by
    show lookD ((p.1, D.lst (p.2.map lawRule)) :: lawD b) n = _
    rw [lookD_cons, lookK_cons, lookD_law b n]
    by_cases h : p.1 = n <;> simp [h]
section
variable {P : Program} {w : World} {K : PySem.W.Frag} {mg : Str → Option Value} {base : Heap}
def namesOk (b : Kept) : Prop := b.length ≤ 60 ∧ ∀ n ∈ b.map (·.1), isName n = true
def sp_w_d_row (K : PySem.W.Frag) : Sp := spS K 100 fun ds p => ∃ (b : Kept) (most : Nat), ds = [.dic (lawD b), .int (most : Nat)] ∧ namesOk b ∧ most ≤ 50 ∧ p = fun d => ∃ row : List Str, d = rowD row ∧ rowIn b row ∧ row.length ≤ most
theorem all2_in {α β : Type} {R : α → β → Prop} {as : List α} {bs : List β} (h : All2 R as bs) : ∀ b ∈ bs, ∃ a ∈ as, R a b := by
  induction h with
  | nil => intro b hb; cases hb
  | cons r _ ih =>
    intro x hx
    rcases List.mem_cons.mp hx with e | hx
    · rw [e]; exact ⟨_, by simp, r⟩
    · obtain ⟨a, ha, q⟩ := ih x hx
      exact ⟨a, by simp [ha], q⟩
theorem strs_of {ys : List D} {q : Str → Prop} (h : ∀ y ∈ ys, ∃ x, y = .str x ∧ q x) : ∃ xs : List Str, ys = xs.map D.str ∧ ∀ x ∈ xs, q x := by
  induction ys with
  | nil => exact ⟨[], rfl, fun _ h => nomatch h⟩
  | cons y ys ih =>
    obtain ⟨x, rfl, hx⟩ := h y (by simp)
    obtain ⟨xs, rfl, hxs⟩ := ih fun z hz => h z (by simp [hz])
    exact ⟨x :: xs, rfl, fun z hz => by
      rcases List.mem_cons.mp hz with e | hz
      · rw [e]; exact hx
      · exact hxs z hz⟩

theorem sc_w_d_row : FnScope ["_law_stream", "_law_rules", "_law_most", "_law_names", "_law_k"] ["_law_stream", "_law_rules", "_law_most"] (defScope T47.s_w_d_row) := ⟨rfl, rfl, rfl, by decide +kernel, rfl, by decide +kernel, by decide +kernel⟩
theorem has_w_d_row (T : Tx w K mg) (h_w_draw : Has P w K mg base CX0 "_law_draw" (1) ["_law_stream", "_law_many"] (sp_w_draw K)) (h_w_pick : Has P w K mg base CX0 "_law_pick" (2) ["_law_stream", "_law_some"] (sp_w_pick K)) : Has P w K mg base CX0 "_law_d_row" (4) ["_law_stream", "_law_rules", "_law_most"] (sp_w_d_row K) := by
  obtain ⟨fd, F⟩ := T.def_ 42
  have gm := T.glo (x := "_law_d_row") 54
  have z_list := T.free (x := "list") 88
  have z_range := T.free (x := "range") 90
  have nd := sc_w_d_row.nd
  refine has_of F gm sc_w_d_row (fun _ _ _ _ _ _ us hl => match us, hl with | [_, _, _], _ => rfl) (fun vs H Q E h => ?_) (fun cdv A outer s H vs Q E hr h => ?_)
  · exact spS_len h fun _ _ ⟨_, _, e, _⟩ => by rw [e]; rfl
  · refine ⟨_, (pss_cons (ps_set (i := 3) nd rfl (Or.inr rfl) (pe_callTy (call_listD rfl) rfl z_list (by decide +kernel) (pa_cons (pv 1) pa_nil)))
        (pss_one (ps_ret (pe_lc (own := [("_law_k", 4)]) (g := gName 4) (tt := tYes) rfl nd (pi_range1 rfl z_range (pa_cons (pe_ifExp (pt_cmpR (op_neD hr.units) (pv 3) (pe_lst pa_nil) rfl) (pe_h h_w_draw (hr.mono (by omega)) rfl (pa_cons (pv 0) (pa_cons (pe_op op_add (pv 2) pe_int) pa_nil))) pe_int) pa_nil)) (blkOk_by (own := [("_law_k", 4)]) (N := ["_law_stream", "_law_rules", "_law_most", "_law_names", "_law_k"]) (sc := (defScope T47.s_w_d_row)) (by decide +kernel)) (fun _ _ _ _ _ => (pg_name (i := 4) nd rfl (Or.inl rfl))) (fun _ _ _ _ _ => pts_nil) (fun _ _ _ _ _ => (pe_h h_w_pick (hr.mono (by omega)) rfl (pa_cons (pv 0) (pa_cons (pv 3) pa_nil)))))))), ?_⟩
    obtain ⟨S, G, L, vs', ds, p, rfl, hw, hL, hds, ⟨b, most, rfl, hb, hm, rfl⟩, q⟩ := h
    cases hds with
    | cons hx hds =>
    cases hds with
    | cons hy hn =>
    cases hn
    cases hy
    rename_i vx
    have hlen : (b.map (·.1)).length ≤ 60 := by rw [List.length_map]; exact hb.1
    refine h_set (d := rowD (b.map (·.1))) ((ev_listDic (ev_var (i := 1) rfl hx)).is (by rw [lawD_names]; rfl)) hw.g fun v1 G1 H1 g1 hv1 => ?_
    have gs1 := Gs.of hw g1
    refine hs_ret (K := K) (evs_lc (K := K) (j := 4) (B := 51) (n := 1) (m := 1) (ps := fun ds => (b.map (·.1) = [] → ds.length = 0) ∧ ds.length ≤ most) (srcs_range (p := fun d => ∃ k : Nat, d = .int (k : Nat) ∧ (b.map (·.1) = [] → k = 0) ∧ k ≤ most) ?_ ?_) (fun ds h => by omega) (by decide) (fun _ => rfl) (fun _ d => ∃ x, d = .str x ∧ x ∈ b.map (·.1)) ?_) gs1.w (by omega) fun v d G2 H2 g2 ⟨ds, ys, ⟨hps, hps2⟩, hd, h2⟩ hv => ?_
    · by_cases hne : b.map (·.1) = []
      · refine evs_if (n := 0) (n1 := 1) (pb := fun x => x = false) ((eb_test (ev_notEmpty (xs := b.map (·.1)) (ev_var (i := 3) rfl hv1) (ev_lst ea_nil (by decide)) fun x hx => strOk_name (hb.2 x hx))).toS (by rw [hne]; rfl)) (fun _ _ z => by cases z) fun G2 e2 _ => ?_
        intro L H w hl Q qq
        exact ev_int H w.g Q fun v G' H' g hv => qq v _ G' H' ((Gs.of w g).more (by omega)) ⟨0, rfl, fun _ => rfl, Nat.zero_le _⟩ hv
      · refine evs_if (n := 0) (n1 := 1) (pb := fun x => x = true) ((eb_test (ev_notEmpty (xs := b.map (·.1)) (ev_var (i := 3) rfl hv1) (ev_lst ea_nil (by decide)) fun x hx => strOk_name (hb.2 x hx))).toS ?_) (fun G2 e2 _ => ?_) (fun _ _ z => by cases z)
        · cases hc : b.map (·.1) with
          | nil => exact absurd hc hne
          | cons _ _ => rfl
        · refine (evs_draw (n := 0) (N := most + 1) rfl ((ev_I0 (z := .int ((most + 1 : Nat) : Int)) (ev_var (i := 2) rfl (.int (most : Nat))) ev_int (dq_int (by omega))).toS ⟨most + 1, rfl, by omega, Nat.le_refl _⟩) (by omega)).imp ?_
          rintro d ⟨k, rfl, hk⟩
          exact ⟨k, rfl, fun z => absurd z hne, by omega⟩
    · rintro d ⟨k, rfl, h1, h2⟩
      refine ⟨k, rfl, by omega, fun z => ?_, ?_⟩
      · rw [h1 z]; rfl
      · unfold intsD; rw [List.length_map, List.length_range]; exact h2
    · intro ds di u G2 hps hdm e2 hu
      have hne : b.map (·.1) ≠ [] := fun z => by
        have := hps.1 z
        rw [List.eq_nil_of_length_eq_zero this] at hdm
        cases hdm
      refine (evs_call (n := 0) (m := 1) (p := fun d => d ∈ (b.map (·.1)).map D.str) rfl ((ea_cons (ev_var (i := 3) rfl (hv1.up e2)) ea_nil).toS (pl := fun ds => ds = [rowD (b.map (·.1))]) rfl) fun ds hds => ⟨_, _, hds, .lst _, fun z => hne (List.map_eq_nil_iff.mp z), by rw [List.length_map]; omega, rfl⟩).imp ?_
      intro d hd
      obtain ⟨x, hx, rfl⟩ := List.mem_map.mp hd
      exact ⟨x, rfl, hx⟩
    subst hd
    obtain ⟨xs, rfl, hxs⟩ := strs_of fun y hy => (by obtain ⟨_, _, h⟩ := all2_in h2 y hy; exact h)
    have hl2 := h2.length
    rw [List.length_map] at hl2
    exact q v _ G2 H2 ((gs1.trans g2).more (by omega)) ⟨xs, rfl, hxs, by omega⟩ hv

def sp_w_d_norm (K : PySem.W.Frag) : Sp := spD K fun ds d => ∃ x F row, ds = [.dic (fD F), x] ∧ IsRow x row ∧ row.length ≤ 40000 ∧ allIn F row = true ∧ d = .int (sumOf F row : Nat)

theorem sc_w_d_norm : FnScope ["_law_norms", "_law_row", "_law_one"] ["_law_norms", "_law_row"] (defScope T47.s_w_d_norm) := ⟨rfl, rfl, rfl, by decide +kernel, rfl, by decide +kernel, by decide +kernel⟩
theorem has_w_d_norm (T : Tx w K mg) : Has P w K mg base CX0 "_law_d_norm" (1) ["_law_norms", "_law_row"] (sp_w_d_norm K) := by
  obtain ⟨fd, F⟩ := T.def_ 44
  have gm := T.glo (x := "_law_d_norm") 56
  have z_sum := T.free (x := "sum") 94
  have nd := sc_w_d_norm.nd
  refine has_of F gm sc_w_d_norm (fun _ _ _ _ _ _ us hl => match us, hl with | [_, _], _ => rfl) (fun vs H Q E h => ?_) (fun cdv A outer s H vs Q E hr h => ?_)
  · exact spD_len h (fun ds d ⟨_, _, _, e, _⟩ => by rw [e]; rfl)
  · refine ⟨_, (pss_one (ps_ret (pe_callB (cr_sum rfl) rfl z_sum (by decide +kernel) (pa_cons (pe_lc (own := [("_law_one", 2)]) (g := gName 2) (tt := tYes) rfl nd (pi_seq (pv 1)) (blkOk_by (own := [("_law_one", 2)]) (N := ["_law_norms", "_law_row", "_law_one"]) (sc := (defScope T47.s_w_d_norm)) (by decide +kernel)) (fun _ _ _ _ _ => (pg_name (i := 2) nd rfl (Or.inl rfl))) (fun _ _ _ _ _ => pts_nil) (fun _ _ _ _ _ => (pe_dget (hu_of hr) (pv 0) (pv 2) (fun _ _ => rfl)))) pa_nil)))), ?_⟩
    obtain ⟨G, ds, d, e, hds, ⟨x, F, row, rfl, hrow, hl, hall, rfl⟩, q⟩ := h
    cases hds with
    | cons hF hds =>
    cases hds with
    | cons hx hn =>
    cases hn
    refine h_ret ((ev_sum (bs := row.map fun o => (((lookN F o).getD 0 : Nat) : Int)) ((ev_lc1 (j := 2) (ev_var (i := 1) rfl hx) hrow (by rw [List.length_map]; omega) (nOf F) (fun _ => rfl) fun di u G6 hdm e6 hu => ?_).is ?_)).is ?_) e fun v G1 H1 g1 hv => q v G1 H1 g1 hv
    · obtain ⟨o, ho, rfl⟩ := List.mem_map.mp hdm
      obtain ⟨z, hz⟩ := Option.isSome_iff_exists.mp (List.all_eq_true.mp hall o ho)
      refine (ev_dget (ev_var rfl (hF.up e6)) (ev_var rfl hu) (d := .int (z : Nat)) (by rw [lookD_fD, hz]; rfl)).is ?_
      show D.int _ = D.int _
      rw [hz]
      rfl
    · rw [List.map_map, List.map_map]
      rfl
    · rw [sum_ints]

end
end T47
/-! lists or tuples, as drawn. -/
namespace T47
open PySem PySem.Spec PyProof.Rows L2 Pk
/-- the same up to list or tuple -/
inductive Alike : D → D → Prop
  | same {d : D} : isL d = false → Alike d d
  | seq {x y : D} {xs ys : List D} : Lk x xs → Lk y ys → All2 Alike xs ys → Alike x y
/-- lists of 1000 at most, k deep at most -/
inductive Deep : Nat → D → Prop
  | flat {k : Nat} {d : D} : isL d = false → Deep k d
  | seq {k : Nat} {x : D} {xs : List D} : Lk x xs → xs.length ≤ 1000 → (∀ d ∈ xs, Deep k d) → Deep (k + 1) x
def cost : Nat → Nat
  | 0 => 0
  | k + 1 => 1000 * cost k + 1
section
variable {P : Program} {w : World} {K : PySem.W.Frag} {mg : Str → Option Value} {base : Heap}
def sp_loose (K : PySem.W.Frag) (k : Nat) : Sp := spS K (cost k) fun ds p => ∃ x, ds = [x] ∧ Deep k x ∧ p = fun d => Alike x d

theorem sc_w_loose : FnScope ["_law_stream", "_law_thing", "_law_found", "_law_part"] ["_law_stream", "_law_thing"] (defScope T47.s_w_loose) := ⟨rfl, rfl, rfl, by decide +kernel, rfl, by decide +kernel, by decide +kernel⟩
theorem has_w_loose_step (T : Tx w K mg) (k : Nat) (h_w_draw : Has P w K mg base CX0 "_law_draw" (1) ["_law_stream", "_law_many"] (sp_w_draw K)) (h_w_loose : Has P w K mg base CX0 "_law_loose" (k + 2) ["_law_stream", "_law_thing"] (sp_loose K k)) : Has P w K mg base CX0 "_law_loose" (k + 3) ["_law_stream", "_law_thing"] (sp_loose K (k + 1)) := by
  obtain ⟨fd, F⟩ := T.def_ 63
  have gm := T.glo (x := "_law_loose") 75
  have z_isinstance := T.free (x := "isinstance") 86
  have z_list := T.free (x := "list") 88
  have z_tuple := T.free (x := "tuple") 95
  have nd := sc_w_loose.nd
  refine has_of F gm sc_w_loose (fun _ _ _ _ _ _ us hl => match us, hl with | [_, _], _ => rfl) (fun vs H Q E h => ?_) (fun cdv A outer s H vs Q E hr h => ?_)
  · exact spS_len h fun _ _ ⟨_, e, _⟩ => by rw [e]; rfl
  · refine ⟨_, (pss_cons (ps_if (pt_not (pt_val (pe_callB call_isiT rfl z_isinstance (by decide +kernel) (pa_cons (pv 1) (pa_cons (pe_tup (pa_cons (pe_bltn (v := .ty "list") rfl z_list (by decide +kernel) rfl) (pa_cons (pe_bltn (v := .ty "tuple") rfl z_tuple (by decide +kernel) rfl) pa_nil))) pa_nil))))) (pss_one (ps_ret (pv 1))) pss_nil)
        (pss_cons (ps_setLc (i := 2) (own := [("_law_part", 3)]) (g := gName 3) (tt := tYes) rfl nd rfl rfl (sw_true rfl rfl rfl (by decide +kernel)) (pi_seq (pv 1)) (blkOk_by (own := [("_law_part", 3)]) (N := ["_law_stream", "_law_thing", "_law_found", "_law_part"]) (sc := (defScope T47.s_w_loose)) (by decide +kernel)) (fun _ _ _ _ _ => (pg_name (i := 3) nd rfl (Or.inl rfl))) (fun _ _ _ _ _ => pts_nil) (fun _ _ _ _ _ => (pe_h h_w_loose (hr.mono (by omega)) rfl (pa_cons (pv 0) (pa_cons (pv 3) pa_nil)))))
        (pss_one (ps_ret (pe_ifExp (pt_cmpR op_eq (pe_h h_w_draw (hr.mono (by omega)) rfl (pa_cons (pv 0) (pa_cons pe_int pa_nil))) pe_int (nomark _)) (pv 2) (pe_callTy call_tuple_of rfl z_tuple (by decide +kernel) (pa_cons (pv 2) pa_nil))))))), ?_⟩
    obtain ⟨S, G, L, vs', ds, p, rfl, hw, hL, hds, ⟨x, rfl, hd, rfl⟩, q⟩ := h
    cases hds with
    | cons hx hn =>
    cases hn
    rename_i vx
    cases hd with
    | flat hl =>
      refine h_ifq (b := true) (eb_not (b := false) (eb_B ((ev_isiT (b := isL x) ["list", "tuple"] (by decide) (ev_var (i := 1) rfl hx) (kit_l x)).is (by rw [hl])))) hw.g (fun _ G1 H1 g1 => ?_) (fun z => by cases z)
      exact Exists.intro vx (And.intro rfl (q vx x G1 H1 ((Gs.of hw g1).more (by omega)) (.same hl) (hx.up g1.g)))
    | @seq _ _ xs hk hlen hdeep =>
      refine h_ifq (b := false) (eb_not (b := true) (eb_B ((ev_isiT (b := isL x) ["list", "tuple"] (by decide) (ev_var (i := 1) rfl hx) (kit_l x)).is (by rw [hk.isL])))) hw.g (fun z => by cases z) fun _ G1 H1 g1 => ?_
      have gs1 := Gs.of hw g1
      have hc : cost (k + 1) = 1000 * cost k + 1 := rfl
      refine hs_set (K := K) (evs_lc (K := K) (j := 3) (B := 1000) (n := 0) (m := cost k) (ps := fun ds => ds = xs) (srcs_of (src_seq (ev_var (i := 1) rfl (hx.up g1.g)) hk) rfl) (fun ds h => by rw [h]; exact hlen) (by decide) (fun _ => rfl) Alike fun ds di u G2 hps hdm e2 hu => ?_) gs1.w (by omega) fun v d G2 H2 g2 ⟨ds, ys, hps, hd2, h2⟩ hv => ?_
      · subst hps
        have := evs_call (K := K) (S := S) (n := 0) (m := cost k) (f := fun ds p => ∃ x, ds = [x] ∧ Deep k x ∧ p = fun d => Alike x d) (p := fun d => Alike di d) (i := 0) (E := E0) (σ := (wipe [some (.ref S.s), some vx, none, none] [3]).set 3 (some u)) (pl := fun ds => ds = [di]) rfl ((ea_cons (ev_var (i := 3) rfl hu) ea_nil).toS rfl) fun ds hds => ⟨di, hds, hdeep di hdm, rfl⟩
        rw [Nat.zero_add] at this
        exact this
      · subst hps hd2
        refine hs_ret (K := K) (evs_if (n := 1) (n1 := 0) (pb := fun _ => True) (p := fun d => ∃ zs, Lk d zs ∧ zs = ys) ?_ (fun G3 e3 _ => (ev_var (i := 2) rfl (hv.up e3)).toS ⟨ys, .lst _, rfl⟩) fun G3 e3 _ => (ev_tuple (.inl (ev_var (i := 2) rfl (hv.up e3)))).toS ⟨ys, .tup _, rfl⟩) g2.w (by omega) fun v3 d3 G3 H3 g3 ⟨zs, hz, hzy⟩ hv3 => ?_
        · intro L3 H3 w3 hl3 Q3 q3
          refine evs_draw (n := 0) (N := 3) (i := 0) rfl (ev_int.toS ⟨3, rfl, by decide, by decide⟩) (by decide) L3 H3 w3 hl3 _ fun v4 d4 G4 H4 g4 ⟨i, hd4, hi⟩ hv4 => ?_
          subst hd4
          cases hv4
          exact ⟨rfl, _, rfl, q3 _ G4 H4 g4 True.intro⟩
        · subst hzy
          exact q v3 d3 G3 H3 ((gs1.trans (g2.trans g3)).more (by omega)) (.seq hk hz h2) hv3

theorem has_w_loose_zero (T : Tx w K mg) : Has P w K mg base CX0 "_law_loose" (2) ["_law_stream", "_law_thing"] (sp_loose K 0) := by
  obtain ⟨fd, F⟩ := T.def_ 63
  have gm := T.glo (x := "_law_loose") 75
  have z_isinstance := T.free (x := "isinstance") 86
  have z_list := T.free (x := "list") 88
  have z_tuple := T.free (x := "tuple") 95
  have nd := sc_w_loose.nd
  refine has_of F gm sc_w_loose (fun _ _ _ _ _ _ us hl => match us, hl with | [_, _], _ => rfl) (fun vs H Q E h => ?_) (fun cdv A outer s H vs Q E hr h => ?_)
  · exact spS_len h fun _ _ ⟨_, e, _⟩ => by rw [e]; rfl
  · refine ⟨_, (pss_cons (ps_if (pt_not (pt_val (pe_callB call_isiT rfl z_isinstance (by decide +kernel) (pa_cons (pv 1) (pa_cons (pe_tup (pa_cons (pe_bltn (v := .ty "list") rfl z_list (by decide +kernel) rfl) (pa_cons (pe_bltn (v := .ty "tuple") rfl z_tuple (by decide +kernel) rfl) pa_nil))) pa_nil))))) (pss_one (ps_ret (pv 1))) pss_nil)
        (pss_cons ps_naught
        (pss_one ps_naught))), ?_⟩
    obtain ⟨S, G, L, vs', ds, p, rfl, hw, hL, hds, ⟨x, rfl, hd, rfl⟩, q⟩ := h
    cases hds with
    | cons hx hn =>
    cases hn
    rename_i vx
    cases hd with
    | flat hl =>
      refine h_ifq (b := true) (eb_not (b := false) (eb_B ((ev_isiT (b := isL x) ["list", "tuple"] (by decide) (ev_var (i := 1) rfl hx) (kit_l x)).is (by rw [hl])))) hw.g (fun _ G1 H1 g1 => ?_) (fun z => by cases z)
      exact Exists.intro vx (And.intro rfl (q vx x G1 H1 ((Gs.of hw g1).more (by omega)) (.same hl) (hx.up g1.g)))

theorem has_w_loose (T : Tx w K mg) (h_w_draw : Has P w K mg base CX0 "_law_draw" 1 ["_law_stream", "_law_many"] (sp_w_draw K)) : ∀ k, Has P w K mg base CX0 "_law_loose" (k + 2) ["_law_stream", "_law_thing"] (sp_loose K k)
  | 0 => has_w_loose_zero T
  | k + 1 => has_w_loose_step T k h_w_draw (has_w_loose T h_w_draw k)

end
end T47
/-! the law's own walk of a word. -/
namespace T47
open PySem PySem.Spec PyProof.Rows L2 Pk
section
variable {P : Program} {w : World} {K : PySem.W.Frag} {mg : Str → Option Value} {base : Heap}
/-- a + b, two lists -/
def rCatR : R2 := fun x y H Q => ∃ a b xs ys, x = .ref a ∧ y = .ref b ∧ Rd H a (.lst xs) ∧ Rd H b (.lst ys) ∧ xs.length + ys.length ≤ sizeLine ∧ ∀ p, H p = none → Q (.ref p) (upd H p (.lst (xs ++ ys)))
theorem op_catR {X : Cx} : OpR X (binaryOp .Add) rCatR := by
  intro pns sh τ H x y v u Q IV rx ry h
  obtain ⟨a, b, xs, ys, rfl, rfl, h1, h2, hz, q⟩ := h
  cases rx
  cases ry
  obtain ⟨z1, it1, n1, r1, e1⟩ := Rd.ok h1 IV.hok
  obtain ⟨z2, it2, n2, r2, e2⟩ := Rd.ok h2 IV.hok
  have l1 := r1.length
  have l2 := r2.length
  refine PySem.P.add_list e1 e2 ?_ (by rw [List.size_toArray, List.size_toArray]; omega)
  rw [show it1.toArray ++ it2.toArray = (it1 ++ it2).toArray by simp]
  exact ⟨.ref _, _, IV.lnew (t' := sh.toks) (r1.append r2) (by rw [List.length_append]; omega), rfl, q _ IV.fresh⟩
theorem ev_cat {σ : L2.St} {G : Hp} {ta tb : TE} {xs ys : List D} (ha : EvD K ta σ G (.lst xs)) (hb : EvD K tb σ G (.lst ys)) (hl : xs.length + ys.length ≤ 100000) : EvD K (tOp rCatR ta tb) σ G (.lst (xs ++ ys)) := fun H e Q q =>
  ha H e _ fun v G1 H1 g1 hv => (hb.up g1.g) H1 g1.gh _ fun u G2 H2 g2 hu => by
    have hv' := hv.up g2.g
    cases hv' with
    | @lst a vs _ hr hs =>
      cases hu with
      | @lst b us _ hr2 hs2 =>
        refine ⟨a, b, vs, us, rfl, rfl, Rd.up g2.gh hr, Rd.up g2.gh hr2, ?_, fun p hp => q _ _ _ ((g1.trans g2).trans (Gr.new g2.gh hp)) (.lst (.inl upd_same) ((hs.append hs2).up (same_new (same_none g2.gh hp))))⟩
        rw [hs.length, hs2.length]
        exact Nat.le_trans hl (by decide)
/-! ### the law's walk -/
def lawRows (G : Hp) (vr : V) (b : Kept) : Prop := True
def sp_w_g_rows (K : PySem.W.Frag) : Sp := spD K fun ds d => ∃ b x row word, ds = [.dic (lawD b), x, .lst (word.map D.str)] ∧ IsRow x row ∧ Sound b ∧ rowIn b row ∧ row.length ≤ 1000 ∧ word.length ≤ 9000 ∧ d = .lst ((along b row word).map rowD)
theorem shaped_rows {rs : List (List Str)} (h : ∀ r ∈ rs, ∀ x ∈ r, PyData.strOk x = true) : SeqAt.shaped (D.lst (rs.map rowD)).py = true ∧ flats (rs.map rowD) = true := by
  have e : ∀ rs : List (List Str), (∀ r ∈ rs, ∀ x ∈ r, PyData.strOk x = true) → PyData.canLayAll0 (pys (rs.map rowD)) = true ∧ PyData.depthAll (pys (rs.map rowD)) ≤ 5 ∧ flats (rs.map rowD) = true := by
    intro rs
    induction rs with
    | nil => intro _; exact ⟨rfl, by simp [pys, PyData.depthAll], rfl⟩
    | cons r rs ih =>
      intro h
      obtain ⟨i1, i2, i3⟩ := ih fun y hy => h y (by simp [hy])
      have hr := shaped_strs (h r (by simp))
      unfold SeqAt.shaped at hr
      have hr1 := (Bool.and_eq_true_iff.mp hr).1
      refine ⟨?_, ?_, ?_⟩
      · show ((rowD r).py.canLay0 && PyData.canLayAll0 (pys (rs.map rowD))) = true
        rw [hr1, i1]
        rfl
      · show PyData.depthAll ((rowD r).py :: pys (rs.map rowD)) ≤ 5
        have : (rowD r).py.depth ≤ 5 := by
          show (PyData.list (pys (r.map D.str))).depth ≤ 5
          simp [PyData.depth, depth_strs]
        simp only [PyData.depthAll]
        omega
      · show (flats (r.map D.str) && flats (rs.map rowD)) = true
        rw [flats_strs, i3]
        rfl
  obtain ⟨e1, e2, e3⟩ := e rs h
  refine ⟨?_, e3⟩
  unfold SeqAt.shaped
  have z1 : (D.lst (rs.map rowD)).py.canLay0 = true := e1
  rw [z1]
  have z2 : (D.lst (rs.map rowD)).py.depth ≤ 64 := by
    show (PyData.list (pys (rs.map rowD))).depth ≤ 64
    simp only [PyData.depth]
    omega
  simpa using z2
theorem ev_noRows {σ : L2.St} {G : Hp} {te tb : TE} {rs : List (List Str)} (h : EvD K te σ G (.lst (rs.map rowD))) (h2 : EvD K tb σ G (.lst [])) (hs : ∀ r ∈ rs, ∀ x ∈ r, PyData.strOk x = true) : EvD K (tOp (rEqD K) te tb) σ G (.bl rs.isEmpty) := by
  obtain ⟨k1, k2⟩ := shaped_rows hs
  refine ev_eqD h h2 k2 rfl k1 (by decide +kernel) ?_
  cases rs <;> rfl

end
end T47
/-! _law_g_rows, _law_g_fault. -/
namespace T47
open PySem PySem.Spec PyProof.Rows L2 Pk
section
variable {P : Program} {w : World} {K : PySem.W.Frag} {mg : Str → Option Value} {base : Heap}
def someL (b : Kept) (last : List Str) (x : Str) : List (List Str) := match last with
  | [] => []
  | n :: _ => ((rulesOf b n).filter fun r => decide (r.1 = x)).map (·.2)
theorem next_some (b : Kept) (last : List Str) (x : Str) : nextR b last x = match someL b last x with
  | [] => none
  | p :: _ => some (p ++ last.tail) := by
  cases last with
  | nil => rfl
  | cons n rest =>
    show Option.map (fun r : Rule => r.2 ++ rest) (List.find? (fun r => decide (r.1 = x)) (rulesOf b n)) = match ((rulesOf b n).filter fun r => decide (r.1 = x)).map (·.2) with
      | [] => none
      | p :: _ => some (p ++ rest)
    rw [← List.head?_filter]
    cases (rulesOf b n).filter fun r => decide (r.1 = x) <;> rfl
def partD : D → D
  | .tup (_ :: p :: _) => p
  | _ => .non
def letIs (x : Str) (d : D) : Bool := decide (letD d = x)
theorem evn_cat {σ : L2.St} {G : Hp} {ta tb : TE} {xs ys : List Str} (ha : EvD K ta σ G (rowD xs)) (hb : EvD K tb σ G (rowD ys)) (hl : xs.length + ys.length ≤ 100000) : EvN K (tOp rCatR ta tb) σ G (rowD (xs ++ ys)) := fun H e Q q =>
  ha H e _ fun v G1 H1 g1 hv => (hb.up g1.g) H1 g1.gh _ fun u G2 H2 g2 hu => by
    have hv' := hv.up g2.g
    have hv2 : Dq K G2 v (.lst (xs.map D.str)) := hv'
    have hu2 : Dq K G2 u (.lst (ys.map D.str)) := hu
    cases hv2 with
    | @lst a vs _ hr hs =>
      cases hu2 with
      | @lst b us _ hr2 hs2 =>
        have e1 := dqs_str hs
        have e2 := dqs_str hs2
        subst e1 e2
        refine ⟨a, b, _, _, rfl, rfl, Rd.up g2.gh hr, Rd.up g2.gh hr2, by rw [List.length_map, List.length_map]; exact Nat.le_trans hl (by decide), fun p hp => ?_⟩
        have g12 := g1.trans g2
        refine q _ _ _ (g12.trans (Gr.new g2.gh hp)) ?_
        rw [← List.map_append]
        exact new_lst (same_none g12.h hp)
/-- found[-1], found a list that may change, in what is read for a while -/
theorem ev_last {σ : L2.St} {G : Hp} {a : Addr} {us : List V} {vl : V} {i : Nat} {d : D} (h0 : σ[i]? = some (some (.ref a))) (hG : G a = some (.lst (us ++ [vl]))) (hv : Dq K G vl d) : EvD K (tOp (rIx K) (tVar i) (tUn (rU fun i => .int (-i)) (tC (.int 1)))) σ G d := fun H e Q q =>
  Exists.intro (V.ref a) (And.intro h0 ⟨1, rfl, rIx_L ⟨a, us ++ [vl], -1, vl, rfl, rfl, seqL (.inl (e _ _ hG)), atI_snoc us vl, q vl G H (Gr.refl e) hv⟩⟩)
theorem ev_lawName {σ : L2.St} {G : Hp} {td ty : TE} {b : Kept} {n : Str} (h : EvD K td σ G (.dic (lawD b))) (hy : EvD K ty σ G (.str n)) (hn : n ∈ b.map (·.1)) : EvD K (tDGet td ty) σ G (.lst ((rulesOf b n).map lawRule)) :=
  ev_dget h hy (by rw [lookD_law, (rulesOf_mem hn).1]; rfl)
theorem parts_ok {b : Kept} (h : Sound b) {last : List Str} (hr : rowIn b last) {x : Str} : ∀ p ∈ someL b last x, rowIn b p ∧ p.length ≤ 4 := by
  intro p hp
  cases last with
  | nil => cases hp
  | cons n rest =>
    obtain ⟨r, hr1, rfl⟩ := List.mem_map.mp hp
    have hm := (List.mem_filter.mp hr1).1
    have hb := (rulesOf_mem (hr n (by simp))).2
    exact ⟨fun m hm2 => h.cl _ hb r hm m hm2, h.few _ hb r hm⟩

theorem sc_w_g_rows : FnScope ["_law_rules", "_law_row", "_law_word", "_law_found", "_law_letter", "_law_some", "_law_sign", "_law_part"] ["_law_rules", "_law_row", "_law_word"] (defScope T47.s_w_g_rows) := ⟨rfl, rfl, rfl, by decide +kernel, rfl, by decide +kernel, by decide +kernel⟩
theorem has_w_g_rows (T : Tx w K mg) : Has P w K mg base CX0 "_law_g_rows" (1) ["_law_rules", "_law_row", "_law_word"] (sp_w_g_rows K) := by
  obtain ⟨fd, F⟩ := T.def_ 48
  have gm := T.glo (x := "_law_g_rows") 60
  have z_list := T.free (x := "list") 88
  have nd := sc_w_g_rows.nd
  refine has_of F gm sc_w_g_rows (fun _ _ _ _ _ _ us hl => match us, hl with | [_, _, _], _ => rfl) (fun vs H Q E h => ?_) (fun cdv A outer s H vs Q E hr h => ?_)
  · exact spD_len h (fun ds d ⟨_, _, _, _, e, _⟩ => by rw [e]; rfl)
  · refine ⟨_, (pss_cons (ps_set (i := 3) nd rfl (Or.inl rfl) (pe_lst (pa_cons (pe_callTy call_list_of rfl z_list (by decide +kernel) (pa_cons (pv 1) pa_nil)) pa_nil)))
        (pss_cons (ps_for PassesOwn.never rfl (pi_seq (pv 2)) (pg_name (i := 4) nd rfl (Or.inr rfl))
        (pss_cons (ps_set (i := 5) nd rfl (Or.inl rfl) (pe_ifExp (pt_cmpR (op_neD hr.units) (pe_ix ix_seq (pv 3) (pe_un un_neg pe_int) (fun _ _ => rfl)) (pe_lst pa_nil) rfl) (pe_lc (own := [("_law_sign", 6), ("_law_part", 7)]) (g := gTup K 2 (gCons (gName 6) (gCons (gName 7) gNil))) rfl nd (pi_seq (pe_dget (hu_of hr) (pv 0) (pe_ix ix_seq (pe_ix ix_seq (pv 3) (pe_un un_neg pe_int) (fun _ _ => rfl)) pe_int (fun _ _ => rfl)) (fun _ _ => rfl))) (blkOk_by (own := [("_law_sign", 6), ("_law_part", 7)]) (N := ["_law_rules", "_law_row", "_law_word", "_law_found", "_law_letter", "_law_some", "_law_sign", "_law_part"]) (sc := (defScope T47.s_w_g_rows)) (by decide +kernel)) (fun _ _ _ _ _ => (pg_tup rfl (pgs_cons (pg_name (i := 6) nd rfl (Or.inl rfl)) (pgs_cons (pg_name (i := 7) nd rfl (Or.inl rfl)) pgs_nil)))) (fun _ _ _ _ _ => (pts_one (pt_cmpR op_eq (pv 6) (pv 4) (nomark _)))) (fun _ _ _ _ _ => (pv 7))) (pe_lst pa_nil)))
        (pss_cons (ps_if (pt_cmpR (op_eqD hr.units) (pv 5) (pe_lst pa_nil) rfl) (pss_one (ps_ret (pv 3))) pss_nil)
        (pss_one (ps_expr (pe_bm PySem.F.plainAttrs_list PySem.F.slot_list_append PySem.F.type_list_append mt_append (pv 3) (pa_cons (pe_op op_catR (pe_callTy call_list_of (by rfl) z_list (by decide +kernel) (pa_cons (pe_ix ix_seq (pv 5) pe_int (fun _ _ => rfl)) pa_nil)) (pe_slice sl_list (pe_ix ix_seq (pv 3) (pe_un un_neg pe_int) (fun _ _ => rfl)) (po_some pe_int) po_none)) pa_nil)))))))
        (pss_one (ps_ret (pv 3))))), ?_⟩
    obtain ⟨G, ds, d, e, hds, ⟨b, x0, row, word, rfl, hx0, hS, hrow, hl1, hl2, rfl⟩, q⟩ := h
    cases hds with
    | cons hR hds =>
    cases hds with
    | cons hr hds =>
    cases hds with
    | cons hw hn =>
    cases hn
    rename_i vR vr vw
    refine hn_lst1 (d := rowD row) (evn_list (Lk.ev hx0 (ev_var (i := 1) rfl hr))) e fun v1 G1 H1 a g1 hv1 ha => ?_
    have gb : Gr G H G1 (upd H1 a (.lst [v1])) := g1.trans (Gr.ov g1.gh ha)
    have ga : G1 a = none := same_none g1.gh ha
    have ha0 : H a = none := same_none g1.h ha
    refine f_seq (x := .lst (word.map D.str)) (ev_var (i := 2) rfl (hw.up g1.g)) (.lst _) gb.gh fun G2 H2 g2 => ?_
    have gb2 := gb.trans g2
    have wl : (word.map D.str).length = word.length := List.length_map _
    refine ⟨fun i σ' H' => ∃ b4 b5, σ' = [some vR, some vr, some vw, some (.ref a), b4, b5, none, none] ∧ ∃ G' vs R last, Gr G H G' H' ∧ Same G2 G' ∧ H' a = some (.lst vs) ∧ G' a = none ∧ Dqs K G' vs ((R ++ [last]).map rowD) ∧ R.length = i ∧ along b row word = R ++ along b last (word.drop i) ∧ rowIn b last ∧ last.length ≤ 1000 + 4 * i,
      ⟨none, none, rfl, G2, [v1], [], row, gb2, Same.refl _, g2.h _ _ upd_same, g2.apart upd_same ga, .cons ((hv1.up new_sub).up g2.g) .nil, rfl, rfl, hrow, by omega⟩, fun i σ' H' ⟨_, _, _, G', _, _, _, g', s', _⟩ => s'.trans g'.gh, ?_, ?_⟩
    · rintro j dj uj σ' H' hdj hq ⟨b4, b5, rfl, G3, vs, R, last, g3, s3, k1, k2, k3, k4, k5, k6, k7⟩
      rw [List.getElem?_map] at hdj
      obtain ⟨x, hx, rfl⟩ := Option.map_eq_some_iff.mp hdj
      have hj : j < word.length := (List.getElem?_eq_some_iff.mp hx).1
      cases hq
      rw [List.map_append] at k3
      obtain ⟨us, vl, rfl, h1, h2⟩ := dqs_snoc k3
      have hdrop : word.drop j = x :: word.drop (j + 1) := by
        rw [List.drop_eq_getElem_cons hj]
        congr 1
        exact (List.getElem?_eq_some_iff.mp hx).2
      rw [hdrop] at k5
      have up3 : Same G3 (upd G3 a (.lst (us ++ [vl]))) := same_new k2
      have sm3 : Same (upd G3 a (.lst (us ++ [vl]))) H' := same_mut g3.gh k1
      have hvl := h2.up up3
      have hRg := hR.up (g3.g.trans up3)
      have lastE : ∀ (σ : L2.St) (G4 : Hp), Same (upd G3 a (.lst (us ++ [vl]))) G4 → σ[3]? = some (some (.ref a)) → EvD K (tOp (rIx K) (tVar 3) (tUn (rU fun i => .int (-i)) (tC (.int 1)))) σ G4 (rowD last) := fun σ G4 e4 h3 => ev_last h3 (e4 _ _ upd_same) (hvl.up e4)
      have okStr : ∀ y ∈ last, PyData.strOk y = true := fun y hy => strOk_name (hS.nm y (k6 y hy))
      have hpo := parts_ok hS k6 (x := x)
      refine h_set (K := K) (d := .lst ((someL b last x).map rowD)) (ev_if (K := K) (b := !last.isEmpty) (eb_test (ev_notEmpty (lastE _ _ (Same.refl _) rfl) (ev_lst ea_nil (by decide)) okStr)) (fun hz => ?_) (fun hz => ?_)) sm3 fun v5 G4 H4 g4 hv5 => ?_
      · cases last with
        | nil => cases hz
        | cons n rest =>
          have hn := k6 n (by simp)
          have hrl : (rulesOf b n).length ≤ 60 := hS.lt _ (rulesOf_mem hn).2
          refine (ev_lc (K := K) (vs := [6, 7]) (g := gTup K 2 (gCons (gName 6) (gCons (gName 7) gNil))) (ev_lawName (ev_var (i := 0) rfl hRg) (ev_ix (i := 0) (.inl (lastE _ _ (Same.refl _) rfl)) rfl) hn) rfl (by rw [List.length_map]; omega) (letIs x) partD (fun di σ2 G2 => ∃ v w r, di = lawRule r ∧ Dq K G2 v (.str r.1) ∧ Dq K G2 w (rowD r.2) ∧ σ2 = ((wipe [some vR, some vr, some vw, some (.ref a), some (.str x), b5, none, none] [6, 7]).set 6 (some v)).set 7 (some w)) (fun di hdi => ?_) (fun di σ2 G1 _ ⟨v, w, r, _, _, _, e⟩ => by rw [e]; rfl) (fun di σ2 G1 _ _ ⟨v, w, r, e1, e2, _, e3⟩ => ?_) (fun di σ2 G1 _ _ ⟨v, w, r, e1, e2, e4, e3⟩ _ => by rw [e1, e3]; exact ev_var rfl e4)).is ?_
          · obtain ⟨r, _, rfl⟩ := List.mem_map.mp hdi
            exact fun x G1 H1 e1 hx Q q => tg_two x G1 H1 e1 hx Q fun σ2 ⟨v, w, k1, k2, k3⟩ => q σ2 ⟨v, w, r, rfl, k1, k2, k3⟩
          · cases e2
            rw [e1, e3]
            exact (eb_test (K := K) (ev_eq (ev_var rfl (.str r.1)) (ev_var rfl (.str x)) rfl rfl rfl)).is (by
              show decide (V.str r.1 = V.str x) = decide (r.1 = x)
              rw [decide_eq_decide]
              exact ⟨fun z => V.str.inj z, fun z => by rw [z]⟩)
          · congr 1
            show ((List.map lawRule (rulesOf b n)).filter (letIs x)).map partD = (((rulesOf b n).filter fun r => decide (r.1 = x)).map (·.2)).map rowD
            rw [List.filter_map, List.map_map, List.map_map]
            rfl
      · have : last = [] := by cases last <;> first | rfl | cases hz
        subst this
        exact ev_lst (ds := []) ea_nil (by decide)
      have g34 := g3.trans (hide_gr k2 k1 g4).1
      have a4 : G4 a = some (.lst (us ++ [vl])) := g4.g _ _ upd_same
      refine h_ifq (b := (someL b last x).isEmpty) (eb_test (K := K) (ev_noRows (ev_var (i := 5) rfl hv5) (ev_lst ea_nil (by decide)) fun r hr y hy => strOk_name (hS.nm y ((hpo r hr).1 y hy)))) g4.gh (fun hc G5 H5 g5 => ?_) fun hc G5 H5 g5 => ?_
      · have hnx : nextR b last x = none := by
          rw [next_some, List.isEmpty_iff.mp hc]
        have hal : along b row word = R ++ [last] := by
          rw [k5]
          unfold along
          rw [hnx]
        rw [hal] at q
        have g45 := g4.trans g5
        refine Exists.intro (V.ref a) (And.intro rfl (q _ G5 H5 ⟨(g3.g.trans up3).trans g45.g, g3.h.trans g45.h, g45.gh, fun bb o hb => ?_⟩ (.lst (.inl (g45.g _ _ upd_same)) ?_)))
        · rcases g45.nw bb o hb with h | h
          · by_cases hba : bb = a
            · rw [hba]; exact .inr ha0
            · rw [upd_ne hba] at h
              exact g3.nw bb o h
          · exact .inr (same_none g3.h h)
        · rw [List.map_append]
          exact (k3.up up3).up g45.g
      · cases hsm : someL b last x with
        | nil => rw [hsm] at hc; cases hc
        | cons p0 more =>
          have hnx : nextR b last x = some (p0 ++ last.tail) := by rw [next_some, hsm]
          obtain ⟨n1, n2⟩ := next_rowIn hS k6 hnx
          rw [hsm] at hv5
          have g45 := g4.trans g5
          have hp4 := (hpo p0 (by rw [hsm]; simp)).2
          refine Exists.intro (V.ref a) (And.intro rfl (And.intro (Or.inl ⟨rfl, _, seqL (.inl (g45.gh _ _ (g45.g _ _ upd_same)))⟩) ?_))
          refine (show EvN K _ _ G5 (rowD (p0 ++ last.tail)) from evn_cat (σ := [some vR, some vr, some vw, some (.ref a), some (.str x), some v5, none, none]) (ev_list (.inl (ev_ix (i := 0) (.inl (ev_var (i := 5) rfl (hv5.up g5.g))) rfl))) ((ev_slL (lo := some 1) (hi := none) (lastE _ _ g45.g rfl) (fun _ _ => po_int) (fun _ _ => po_no)).is ?_) ?_) H5 g5.gh _ fun v6 G6 H6 g6 hv6 => ?_
          · cases last with
            | nil => cases hsm
            | cons n rest => rw [List.map_cons, cut_tail]; rfl
          · rw [List.length_tail]
            omega
          have g46 := g45.trans g6
          have c6 := hide_gr k2 k1 g46
          have gg := g3.trans c6.1
          have a6 := g46.h _ _ k1
          have hsub : Same (newOf H5 G6) (cutH G6 a) := fun bb o hb => by
            have hba : bb ≠ a := fun z => by
              have hw := new_was hb
              rw [z, g45.gh _ _ (g45.g _ _ upd_same)] at hw
              cases hw
            rw [cutH_ne hba]
            exact new_sub bb o hb
          refine ⟨a, _, v6, rfl, rfl, a6, ?_, ?_⟩
          · have := k3.length
            rw [this, List.length_append, List.length_map, List.length_map, k4]
            simp only [List.length_cons, List.length_nil]
            exact Nat.lt_of_le_of_lt (by omega : j + (0 + 1) ≤ 10000) (by decide)
          · refine ⟨_, _, rfl, cutH G6 a, _, R ++ [last], p0 ++ last.tail, gr_upd gg ha0 cutH_same, s3.trans c6.1.g, upd_same, cutH_same, ?_, by rw [List.length_append, k4]; rfl, ?_, n1, by omega⟩
            · rw [List.map_append, List.map_append]
              exact (k3.up c6.1.g).append (.cons (hv6.up hsub) .nil)
            · rw [k5]
              conv => lhs; unfold along
              rw [hnx, List.append_assoc]
              rfl
    · rintro σ' H' ⟨b4, b5, rfl, G3, vs, R, last, g3, s3, k1, k2, k3, k4, k5, k6, k7⟩
      rw [wl, List.drop_length] at k5
      have hal : along b row word = R ++ [last] := by rw [k5]; unfold along; rfl
      rw [hal] at q
      refine Exists.intro (V.ref a) (And.intro rfl ?_)
      refine q _ (upd G3 a (.lst vs)) H' ⟨g3.g.trans (same_new k2), g3.h, same_mut g3.gh k1, fun bb o hb => ?_⟩ (.lst (.inl upd_same) (k3.up (same_new k2)))
      by_cases hba : bb = a
      · rw [hba]; exact .inr ha0
      · rw [upd_ne hba] at hb
        exact g3.nw bb o hb

end
end T47
/-! _law_g_fault, _law_g_rest. -/
namespace T47
open PySem PySem.Spec PyProof.Rows L2 Pk
section
variable {P : Program} {w : World} {K : PySem.W.Frag} {mg : Str → Option Value} {base : Heap}
theorem ev_ixLast {σ : L2.St} {G : Hp} {ta : TE} {ds : List D} {d : D} (h : EvD K ta σ G (.lst ds)) (hl : ds.getLast? = some d) : EvD K (tOp (rIx K) ta (tUn (rU fun i => .int (-i)) (tC (.int 1)))) σ G d := fun H e Q q => h H e _ fun v G1 H1 g1 hv => by
  have hne : ds ≠ [] := fun z => by rw [z] at hl; cases hl
  obtain ⟨ys, y, e1, e2⟩ := last_split hne
  rw [e2] at hl
  cases hl
  rw [e1] at hv
  cases hv with
  | @lst a xs _ hr hs =>
    obtain ⟨us, vl, rfl, _, q2⟩ := dqs_snoc hs
    exact ⟨1, rfl, rIx_L ⟨a, us ++ [vl], -1, vl, rfl, rfl, seqL (Rd.up g1.gh hr), atI_snoc us vl, q vl G1 H1 g1 q2⟩⟩
def sp_w_g_fault (K : PySem.W.Frag) : Sp := spD K fun ds d => ∃ b x row word, ds = [.dic (lawD b), x, .lst (word.map D.str)] ∧ IsRow x row ∧ Sound b ∧ rowIn b row ∧ row.length ≤ 1000 ∧ word.length ≤ 9000 ∧ d = optNat (faultIn b row word)

theorem sc_w_g_fault : FnScope ["_law_rules", "_law_row", "_law_word", "_law_rows"] ["_law_rules", "_law_row", "_law_word"] (defScope T47.s_w_g_fault) := ⟨rfl, rfl, rfl, by decide +kernel, rfl, by decide +kernel, by decide +kernel⟩
theorem has_w_g_fault (T : Tx w K mg) (h_w_g_rows : Has P w K mg base CX0 "_law_g_rows" (1) ["_law_rules", "_law_row", "_law_word"] (sp_w_g_rows K)) : Has P w K mg base CX0 "_law_g_fault" (2) ["_law_rules", "_law_row", "_law_word"] (sp_w_g_fault K) := by
  obtain ⟨fd, F⟩ := T.def_ 49
  have gm := T.glo (x := "_law_g_fault") 61
  have z_len := T.free (x := "len") 87
  have nd := sc_w_g_fault.nd
  refine has_of F gm sc_w_g_fault (fun _ _ _ _ _ _ us hl => match us, hl with | [_, _, _], _ => rfl) (fun vs H Q E h => ?_) (fun cdv A outer s H vs Q E hr h => ?_)
  · exact spD_len h (fun ds d ⟨_, _, _, _, e, _⟩ => by rw [e]; rfl)
  · refine ⟨_, (pss_cons (ps_set (i := 3) nd rfl (Or.inl rfl) (pe_h h_w_g_rows (hr.mono (by omega)) rfl (pa_cons (pv 0) (pa_cons (pv 1) (pa_cons (pv 2) pa_nil)))))
        (pss_cons (ps_if (pt_cmpR op_le (pe_callB call_len rfl z_len (by decide +kernel) (pa_cons (pv 3) pa_nil)) (pe_callB call_len rfl z_len (by decide +kernel) (pa_cons (pv 2) pa_nil)) (nomark _)) (pss_one (ps_ret (pe_op op_sub (pe_callB call_len rfl z_len (by decide +kernel) (pa_cons (pv 3) pa_nil)) pe_int))) pss_nil)
        (pss_one (ps_ret (pe_ifExp (pt_cmpR (op_eqD hr.units) (pe_ix ix_seq (pv 3) (pe_un un_neg pe_int) (fun _ _ => rfl)) (pe_lst pa_nil) rfl) pe_non (pe_callB call_len rfl z_len (by decide +kernel) (pa_cons (pv 2) pa_nil))))))), ?_⟩
    obtain ⟨G, ds, d, e, hds, ⟨b, x0, row, word, rfl, hx0, hS, hrow, hl1, hl2, rfl⟩, q⟩ := h
    cases hds with
    | cons hR hds =>
    cases hds with
    | cons hr hds =>
    cases hds with
    | cons hw hn =>
    cases hn
    rename_i vR vr vw
    obtain ⟨ys, last, hal, hlast⟩ := last_split (along_ne b word row)
    have hlen := along_len b word row
    refine h_set (K := K) (d := .lst ((along b row word).map rowD)) (ev_call (ea_cons (ev_var rfl hR) (ea_cons (ev_var rfl hr) (ea_cons (ev_var rfl hw) ea_nil))) ⟨b, x0, row, word, rfl, hx0, hS, hrow, hl1, hl2, rfl⟩) e fun v1 G1 H1 g1 hv1 => ?_
    have hw1 := hw.up g1.g
    have lenRows := fun (σ : L2.St) (G2 : Hp) (e2 : Same G1 G2) (h3 : σ[3]? = some (some v1)) => ev_len (ds := (along b row word).map rowD) (ev_var h3 (hv1.up e2)) (.inr (.inl ⟨rfl, rfl⟩))
    have lenWord := fun (σ : L2.St) (G2 : Hp) (e2 : Same G1 G2) (h2 : σ[2]? = some (some vw)) => ev_len (ds := word.map D.str) (ev_var h2 (hw1.up e2)) (.inr (.inl ⟨rfl, rfl⟩))
    unfold faultIn at q
    refine h_ifq (b := decide ((along b row word).length ≤ word.length)) ((eb_test (ev_I0 (z := .bl (decide ((along b row word).length ≤ word.length))) (lenRows _ _ (Same.refl _) rfl) (lenWord _ _ (Same.refl _) rfl) ?_))) g1.gh (fun hc G2 H2 g2 => ?_) fun hc G2 H2 g2 => ?_
    · have : decide ((((along b row word).map rowD).length : Int) ≤ ((word.map D.str).length : Int)) = decide ((along b row word).length ≤ word.length) := by
        rw [List.length_map, List.length_map, decide_eq_decide]
        omega
      rw [← this]
      exact .bl _
    · rw [if_pos (of_decide_eq_true hc)] at q
      have hpos : 0 < (along b row word).length := List.length_pos_iff.mpr (along_ne b word row)
      refine h_ret (d := .int (((along b row word).length - 1 : Nat) : Int)) ((ev_I0 (lenRows _ _ g2.g rfl) ev_int (.int _)).is ?_) g2.gh fun v G3 H3 g3 hv => q v G3 H3 (g1.trans (g2.trans g3)) hv
      rw [List.length_map]
      congr 1
      omega
    · rw [if_neg (of_decide_eq_false hc), hlast] at q
      have hin : rowIn b last := rows_in hS word row hrow last (by rw [hal]; simp)
      refine h_ret (K := K) (d := optNat (match some last with | some [] => none | _ => some word.length)) (ev_if (K := K) (b := last.isEmpty) (eb_test (ev_isEmpty (xs := last) (ev_ixLast (ds := (along b row word).map rowD) (ev_var rfl (hv1.up g2.g)) (by rw [List.getLast?_map, hlast]; rfl)) (ev_lst ea_nil (by decide)) fun x hx => strOk_name (hS.nm x (hin x hx)))) (fun hz => ?_) (fun hz => ?_)) g2.gh fun v G3 H3 g3 hv => q v G3 H3 (g1.trans (g2.trans g3)) hv
      · have : last = [] := List.isEmpty_iff.mp hz
        subst this
        exact ev_non
      · cases last with
        | nil => cases hz
        | cons n rest => exact (lenWord _ _ g2.g rfl).is (by rw [List.length_map]; rfl)

/-! ### norms that fit -/
/-- every name's norm is the least of its rules', and reached -/
structure NormOk (b : Kept) (F : FN) : Prop where
  at_ : ∀ p ∈ b, ∃ v, lookN F p.1 = some v ∧ (∃ r ∈ p.2, v = 1 + sumOf F r.2) ∧ v ≤ 9
theorem norm_of {b : Kept} {F : FN} (h : NormOk b F) {n : Str} (hn : n ∈ b.map (·.1)) : ∃ v, lookN F n = some v ∧ (∃ r ∈ rulesOf b n, v = 1 + sumOf F r.2) ∧ v ≤ 9 := h.at_ _ (rulesOf_mem hn).2
theorem norm_all {b : Kept} {F : FN} (h : NormOk b F) {row : List Str} (hr : rowIn b row) : allIn F row = true := List.all_eq_true.mpr fun o ho => by
  obtain ⟨v, e, _⟩ := norm_of h (hr o ho)
  rw [e]
  rfl
theorem sumOf_cons (F : FN) (n : Str) (row : List Str) : sumOf F (n :: row) = (lookN F n).getD 0 + sumOf F row := by
  unfold sumOf
  rw [List.map_cons, List.sum_cons]
theorem sumOf_app (F : FN) : ∀ a b : List Str, sumOf F (a ++ b) = sumOf F a + sumOf F b
  | [], b => by simp [sumOf]
  | n :: a, b => by
    rw [List.cons_append, sumOf_cons, sumOf_cons, sumOf_app F a b]
    omega
theorem sumOf_le {b : Kept} {F : FN} (h : NormOk b F) : ∀ {row : List Str}, rowIn b row → sumOf F row ≤ 9 * row.length
  | [], _ => by simp [sumOf]
  | n :: row, hr => by
    obtain ⟨v, e, _, hv⟩ := norm_of h (hr n (by simp))
    have := sumOf_le h (row := row) fun m hm => hr m (by simp [hm])
    rw [sumOf_cons, e, List.length_cons]
    simp only [Option.getD_some]
    omega
def goodLetters (b : Kept) (ws : List Str) : Prop := ∀ x ∈ ws, ∃ p ∈ b, ∃ r ∈ p.2, r.1 = x
def sp_w_g_rest (K : PySem.W.Frag) : Sp := spP K fun ds p => ∃ b F x row, ds = [.dic (lawD b), .dic (fD F), x] ∧ IsRow x row ∧ Sound b ∧ NormOk b F ∧ rowIn b row ∧ row.length ≤ 900 ∧ p = fun d => ∃ ws : List Str, d = rowD ws ∧ goodLetters b ws ∧ ws.length ≤ 9 * row.length

end
end T47
/-! _law_g_rest. -/
namespace T47
open PySem PySem.Spec PyProof.Rows L2 Pk
section
variable {P : Program} {w : World} {K : PySem.W.Frag} {mg : Str → Option Value} {base : Heap}
def strOf : D → Str
  | .str x => x
  | _ => ("" : Str)
def lowB (F : FN) (v : Nat) (d : D) : Bool := decide (sumOf F ((D.parts (partD d)).map strOf) + 1 = v)
theorem lowB_rule (F : FN) (v : Nat) (r : Rule) : lowB F v (lawRule r) = decide (sumOf F r.2 + 1 = v) := by
  unfold lowB
  have : (D.parts (partD (lawRule r))).map strOf = r.2 := by
    show (r.2.map D.str).map strOf = r.2
    rw [List.map_map]
    exact List.map_id r.2
  rw [this]
theorem h_setL {σ : L2.St} {G H : Hp} {te : TE} {d : D} {i : Nat} {D0 : L2.Ends} (h : EvD K te σ G d) (e : Same G H) (k : ∀ v G1 H1, Gr G H G1 H1 → Dq K G1 v d → D0.nx (σ.set i (some v)) H1) : tAsg te (gName i) D0 σ H := h H e _ k

theorem sc_w_g_rest : FnScope ["_law_rules", "_law_norms", "_law_row", "_law_found", "_law_left", "_law_turn", "_law_low", "_law_pair"] ["_law_rules", "_law_norms", "_law_row"] (defScope T47.s_w_g_rest) := ⟨rfl, rfl, rfl, by decide +kernel, rfl, by decide +kernel, by decide +kernel⟩
theorem has_w_g_rest (T : Tx w K mg) (h_w_d_norm : Has P w K mg base CX0 "_law_d_norm" (1) ["_law_norms", "_law_row"] (sp_w_d_norm K)) : Has P w K mg base CX0 "_law_g_rest" (2) ["_law_rules", "_law_norms", "_law_row"] (sp_w_g_rest K) := by
  obtain ⟨fd, F⟩ := T.def_ 50
  have gm := T.glo (x := "_law_g_rest") 62
  have z_list := T.free (x := "list") 88
  have z_range := T.free (x := "range") 90
  have nd := sc_w_g_rest.nd
  refine has_of F gm sc_w_g_rest (fun _ _ _ _ _ _ us hl => match us, hl with | [_, _, _], _ => rfl) (fun vs H Q E h => ?_) (fun cdv A outer s H vs Q E hr h => ?_)
  · exact spP_len h (fun ds p ⟨_, _, _, _, e, _⟩ => by rw [e]; rfl)
  · refine ⟨_, (pss_cons (ps_asg (pe_tup (pa_cons (pe_lst pa_nil) (pa_cons (pe_callTy call_list_of rfl z_list (by decide +kernel) (pa_cons (pv 2) pa_nil)) pa_nil))) (pg_tup rfl (pgs_cons (pg_name (i := 3) nd rfl (Or.inl rfl)) (pgs_cons (pg_name (i := 4) nd rfl (Or.inr rfl)) pgs_nil))))
        (pss_cons (ps_for PassesOwn.never rfl (pi_range1 rfl z_range (pa_cons (pe_h h_w_d_norm (hr.mono (by omega)) rfl (pa_cons (pv 1) (pa_cons (pv 2) pa_nil))) pa_nil)) (pg_name (i := 5) nd rfl (Or.inl rfl))
        (pss_cons (ps_setLc (i := 6) (own := [("_law_pair", 7)]) (g := gName 7) rfl nd rfl rfl (sw_true rfl rfl rfl (by decide +kernel)) (pi_seq (pe_dget (hu_of hr) (pv 0) (pe_ix ix_seq (pv 4) pe_int (fun _ _ => rfl)) (fun _ _ => rfl))) (blkOk_by (own := [("_law_pair", 7)]) (N := ["_law_rules", "_law_norms", "_law_row", "_law_found", "_law_left", "_law_turn", "_law_low", "_law_pair"]) (sc := (defScope T47.s_w_g_rest)) (by decide +kernel)) (fun _ _ _ _ _ => (pg_name (i := 7) nd rfl (Or.inl rfl))) (fun _ _ _ _ _ => (pts_one (pt_cmpR op_eq (pe_h h_w_d_norm (hr.mono (by omega)) rfl (pa_cons (pv 1) (pa_cons (pe_ix (ix_seqK (K := K) rfl) (pv 7) pe_int (fun _ _ => rfl)) pa_nil))) (pe_op op_sub (pe_dget (hu_of hr) (pv 1) (pe_ix (ix_seqK (K := K) rfl) (pv 4) pe_int (fun _ _ => rfl)) (fun _ _ => rfl)) pe_int) (nomark _)))) (fun _ _ _ _ _ => (pv 7)))
        (pss_cons (ps_expr (pe_bm PySem.F.plainAttrs_list PySem.F.slot_list_append PySem.F.type_list_append mt_append (pv 3) (pa_cons (pe_ix ix_seq (pe_ix ix_seq (pv 6) pe_int (fun _ _ => rfl)) pe_int (fun _ _ => rfl)) pa_nil)))
        (pss_one (ps_set (i := 4) nd rfl (Or.inr rfl) (pe_op op_catR (pe_callTy call_list_of rfl z_list (by decide +kernel) (pa_cons (pe_ix ix_seq (pe_ix ix_seq (pv 6) pe_int (fun _ _ => rfl)) pe_int (fun _ _ => rfl)) pa_nil)) (pe_slice sl_list (pv 4) (po_some pe_int) po_none)))))))
        (pss_one (ps_ret (pv 3))))), ?_⟩
    obtain ⟨G, ds, p, e, hds, ⟨b, F, x0, row, rfl, hx0, hS, hN, hrow, hl, rfl⟩, q⟩ := h
    cases hds with
    | cons hR hds =>
    cases hds with
    | cons hF hds =>
    cases hds with
    | cons hr hn =>
    cases hn
    rename_i vR vF vr
    -- found, left
    refine ⟨by show 0 ≤ sizeLine; decide, fun a ha => ?_⟩
    have ga : G a = none := same_none e ha
    have g0 : Gr G H G (upd H a (.lst [])) := Gr.ov e ha
    refine (show EvN K _ [some vR, some vF, some vr, none, none, none, none, none] G (rowD row) from evn_list (Lk.ev hx0 (ev_var (i := 2) rfl hr))) _ g0.gh _ fun vl G1 H1 g1 hvl => ⟨by show 2 ≤ sizeLine; decide, fun T1 hT1 => ?_⟩
    have aT : a ≠ T1 := ne_of_none (g1.h _ _ upd_same) hT1
    have gb : Gr G H G1 (upd H1 T1 (.tup [.ref a, vl])) := (g0.trans g1).trans (Gr.ov g1.gh hT1)
    have a1 : (upd H1 T1 (.tup [.ref a, vl])) a = some (.lst []) := by rw [upd_ne aT]; exact g1.h _ _ upd_same
    have ga1 : G1 a = none := g1.apart upd_same ga
    refine Exists.intro T1 (Exists.intro _ ⟨rfl, .inl (.inl upd_same), rfl, _, _, rfl, _, _, rfl, rfl, ?_⟩)
    have total : sumOf F row ≤ 9 * row.length := sumOf_le hN hrow
    -- how many turns
    refine ev_call (K := K) (d := .int ((sumOf F row : Nat) : Int)) (σ := [some vR, some vF, some vr, some (.ref a), some vl, none, none, none]) (ea_cons (ev_var (i := 1) rfl (hF.up ((g0.trans g1).g))) (ea_cons (ev_var (i := 2) rfl (hr.up ((g0.trans g1).g))) ea_nil)) ⟨x0, F, row, rfl, hx0, by omega, norm_all hN hrow, rfl⟩ _ gb.gh _ fun vn G2 H2 g2 hvn => ?_
    cases hvn
    refine ⟨_, rfl, by omega, by omega, ?_⟩
    have htn : (((sumOf F row : Nat) : Int)).toNat = sumOf F row := by omega
    rw [htn]
    have gb2 := gb.trans g2
    refine for_range (lo := 0) (n := sumOf F row) (fun i σ' H' => ∃ b5 b6 vl left ws G', σ' = [some vR, some vF, some vr, some (.ref a), some vl, b5, b6, none] ∧ Gr G H G' H' ∧ H' a = some (.lst (ws.map V.str)) ∧ G' a = none ∧ Dq K G' vl (rowD left) ∧ rowIn b left ∧ left.length ≤ 1000 + 4 * i ∧ sumOf F left + i = sumOf F row ∧ ws.length = i ∧ goodLetters b ws)
      ⟨none, none, vl, row, [], G2, rfl, gb2, g2.h _ _ a1, g2.apart a1 ga1, (hvl.up new_sub).up g2.g, hrow, by omega, by omega, rfl, fun _ h => nomatch h⟩ ?_ ?_
    · rintro i σ' H' hi ⟨b5, b6, vl, left, ws, G3, rfl, g3, k1, k2, k3, k4, k5, k6, k7, k8⟩
      cases left with
      | nil =>
        have z : sumOf F [] = 0 := rfl
        rw [z] at k6
        omega
      | cons n rest =>
        have hn := k4 n (by simp)
        have hrest : rowIn b rest := fun m hm => k4 m (by simp [hm])
        obtain ⟨v, hv1, ⟨r0, hr0, hv2⟩, hv9⟩ := norm_of hN hn
        have hrl : (rulesOf b n).length ≤ 60 := hS.lt _ (rulesOf_mem hn).2
        have hbn := (rulesOf_mem hn).2
        refine h_set (K := K) (d := .lst (((rulesOf b n).filter fun r => decide (sumOf F r.2 + 1 = v)).map lawRule)) ((ev_lc (K := K) (vs := [7]) (g := gName 7) (ev_lawName (ev_var (i := 0) rfl (hR.up g3.g)) (ev_ix (i := 0) (.inl (ev_var (i := 4) rfl k3)) rfl) hn) rfl (by rw [List.length_map]; omega) (lowB F v) (fun d => d) (fun di σ2 G2 => ∃ u, Dq K G2 u di ∧ σ2 = (wipe [some vR, some vF, some vr, some (.ref a), some vl, some (.int (0 + (i : Nat))), b6, none] [7]).set 7 (some u)) (fun di hdi => tg_name) (fun di σ2 G1 _ ⟨u, _, e⟩ => by rw [e]; rfl) (fun di σ2 G4 hdi e4 ⟨u, hu, e⟩ => ?_) (fun di σ2 G1 _ _ ⟨u, hu, e⟩ _ => by rw [e]; exact ev_var rfl hu)).is ?_) g3.gh fun v5 G4 H4 g4 hv5 => ?_
        · obtain ⟨r, hr, rfl⟩ := List.mem_map.mp hdi
          rw [e]
          have hrr : rowIn b r.2 := fun m hm => hS.cl _ hbn r hr m hm
          have hr4 := hS.few _ hbn r hr
          refine (eb_test (K := K) (ev_eq (d := .int ((sumOf F r.2 : Nat) : Int)) (d' := .int ((v : Int) - 1)) (ev_call (ea_cons (ev_var (i := 1) rfl (hF.up (g3.g.trans e4))) (ea_cons (ev_ix (i := 1) (d := rowD r.2) (.inr (ev_var (i := 7) rfl hu)) rfl) ea_nil)) ⟨rowD r.2, F, r.2, rfl, .lst _, by omega, norm_all hN hrr, rfl⟩) (ev_I0 (ev_dget (d := .int (v : Nat)) (ev_var (i := 1) rfl (hF.up (g3.g.trans e4))) (ev_ix (i := 0) (.inl (ev_var (i := 4) rfl (k3.up e4))) rfl) (by rw [lookD_fD, hv1]; rfl)) ev_int (.int _)) rfl rfl rfl)).is ?_
          rw [lowB_rule, decide_eq_decide]
          constructor
          · intro z
            have := V.int.inj z
            omega
          · intro z
            congr 1
            omega
        · congr 1
          rw [List.map_id', List.filter_map]
          congr 1
          exact List.filter_congr fun r _ => lowB_rule F v r
        · generalize hfl : ((rulesOf b n).filter fun r => decide (sumOf F r.2 + 1 = v)) = low at hv5
          have hmem : r0 ∈ low := by
            rw [← hfl]
            exact List.mem_filter.mpr ⟨hr0, by simp; omega⟩
          cases low with
          | nil => cases hmem
          | cons r1 more =>
            have hr1 : r1 ∈ rulesOf b n ∧ sumOf F r1.2 + 1 = v := by
              have : r1 ∈ ((rulesOf b n).filter fun r => decide (sumOf F r.2 + 1 = v)) := by rw [hfl]; simp
              obtain ⟨z1, z2⟩ := List.mem_filter.mp this
              exact ⟨z1, of_decide_eq_true z2⟩
            have g34 := g3.trans g4
            have k1' := g4.h _ _ k1
            have k2' := g4.apart k1 k2
            have low0 : ∀ (σ : L2.St) (G5 : Hp), Same G4 G5 → σ[6]? = some (some v5) → EvD K (tOp (rIx K) (tVar 6) (tC (.int 0))) σ G5 (lawRule r1) := fun σ G5 e5 h6 => ev_ix (i := 0) (.inl (ev_var h6 (hv5.up e5))) rfl
            refine Exists.intro (V.ref a) (And.intro rfl (And.intro (Or.inl ⟨rfl, _, seqL (.inl k1')⟩) ?_))
            refine (show EvD K _ [some vR, some vF, some vr, some (.ref a), some vl, some (.int (0 + (i : Nat))), some v5, none] G4 (.str r1.1) from ev_ix (i := 0) (.inr (low0 _ _ (Same.refl _) rfl)) rfl) H4 g4.gh _ fun vs5 G5 H5 g5 hvs5 => ?_
            cases hvs5
            have k1a := g5.h _ _ k1'
            have k2a := g5.apart k1' k2'
            refine ⟨a, _, .str r1.1, rfl, rfl, k1a, ?_, ?_⟩
            · rw [List.length_map, k7]
              exact Nat.lt_of_le_of_lt (by omega : i ≤ 9000) (by decide)
            have g35 := g34.trans g5
            have e45 : Same G4 G5 := g5.g
            have gu : Gr G H G5 (upd H5 a (.lst (ws.map V.str ++ [.str r1.1]))) := gr_upd g35 (same_none e ha |> fun _ => ha) k2a
            have hk3 : Dq K G5 vl (rowD (n :: rest)) := k3.up (g4.g.trans g5.g)
            have hr14 := hS.few _ hbn r1 hr1.1
            refine h_setL (K := K) (d := rowD (r1.2 ++ rest)) (evn_cat (ev_list (.inl (ev_ix (i := 1) (d := rowD r1.2) (.inr (low0 _ _ e45 rfl)) rfl))) ((ev_slL (lo := some 1) (hi := none) (ev_var (i := 4) rfl hk3) (fun _ _ => po_int) (fun _ _ => po_no)).is (by rw [List.map_cons, cut_tail]; rfl)) (by rw [List.length_cons] at k5; omega)).toD gu.gh fun v6 G6 H6 g6 hv6 => ?_
            have k1b := g6.h _ _ (upd_same (H := H5) (a := a) (o := .lst (ws.map V.str ++ [.str r1.1])))
            refine ⟨_, _, v6, r1.2 ++ rest, ws ++ [r1.1], G6, rfl, gu.trans g6, by rw [k1b, List.map_append]; rfl, g6.apart upd_same k2a, hv6, ?_, ?_, ?_, ?_, ?_⟩
            · intro m hm
              rcases List.mem_append.mp hm with h1 | h1
              · exact hS.cl _ hbn r1 hr1.1 m h1
              · exact hrest m h1
            · rw [List.length_append]
              rw [List.length_cons] at k5
              omega
            · rw [sumOf_app]
              rw [sumOf_cons, hv1] at k6
              simp only [Option.getD_some] at k6
              omega
            · rw [List.length_append, k7]; rfl
            · intro y hy
              rcases List.mem_append.mp hy with h1 | h1
              · exact k8 y h1
              · rw [List.mem_singleton.mp h1]
                exact ⟨_, hbn, r1, hr1.1, rfl⟩
    · rintro σ' H' ⟨b5, b6, vl, left, ws, G3, rfl, g3, k1, k2, k3, k4, k5, k6, k7, k8⟩
      refine Exists.intro (V.ref a) (And.intro rfl ?_)
      refine q _ (rowD ws) (upd G3 a (.lst (ws.map V.str))) H' ⟨g3.g.trans (same_new k2), g3.h, same_mut g3.gh k1, fun bb o hb => ?_⟩ ⟨ws, rfl, k8, by omega⟩ (.lst (.inl upd_same) (dqs_of_str ws))
      by_cases hba : bb = a
      · rw [hba]; exact .inr ha
      · rw [upd_ne hba] at hb
        exact g3.nw bb o hb

end
end T47
/-! _law_g_walk, _law_g_finished. -/
namespace T47
open PySem PySem.Spec PyProof.Rows L2 Pk
section
variable {P : Program} {w : World} {K : PySem.W.Frag} {mg : Str → Option Value} {base : Heap}
def fullB (b : Kept) : Prop := ∀ p ∈ b, p.2 ≠ []
def sp_w_g_walk (K : PySem.W.Frag) : Sp := spS K 100 fun ds p => ∃ b x row most, ds = [.dic (lawD b), x, .int (most : Nat)] ∧ IsRow x row ∧ Sound b ∧ fullB b ∧ rowIn b row ∧ row.length ≤ 500 ∧ most ≤ 50 ∧ p = fun d => ∃ ws : List Str, d = rowD ws ∧ goodLetters b ws ∧ ws.length ≤ most

theorem sc_w_g_walk : FnScope ["_law_stream", "_law_rules", "_law_row", "_law_most", "_law_found", "_law_left", "_law_turn", "_law_letter", "_law_part"] ["_law_stream", "_law_rules", "_law_row", "_law_most"] (defScope T47.s_w_g_walk) := ⟨rfl, rfl, rfl, by decide +kernel, rfl, by decide +kernel, by decide +kernel⟩
theorem has_w_g_walk (T : Tx w K mg) (h_w_draw : Has P w K mg base CX0 "_law_draw" (1) ["_law_stream", "_law_many"] (sp_w_draw K)) (h_w_pick : Has P w K mg base CX0 "_law_pick" (2) ["_law_stream", "_law_some"] (sp_w_pick K)) : Has P w K mg base CX0 "_law_g_walk" (4) ["_law_stream", "_law_rules", "_law_row", "_law_most"] (sp_w_g_walk K) := by
  obtain ⟨fd, F⟩ := T.def_ 51
  have gm := T.glo (x := "_law_g_walk") 63
  have z_list := T.free (x := "list") 88
  have z_range := T.free (x := "range") 90
  have nd := sc_w_g_walk.nd
  refine has_of F gm sc_w_g_walk (fun _ _ _ _ _ _ us hl => match us, hl with | [_, _, _, _], _ => rfl) (fun vs H Q E h => ?_) (fun cdv A outer s H vs Q E hr h => ?_)
  · exact spS_len h fun _ _ ⟨_, _, _, _, e, _⟩ => by rw [e]; rfl
  · refine ⟨_, (pss_cons (ps_par (i := 4) (j := 5) rfl nd rfl rfl (by decide) rfl rfl (pa_cons (pe_lst pa_nil) (pa_cons (pe_callTy call_list_of rfl z_list (by decide +kernel) (pa_cons (pv 2) pa_nil)) pa_nil)) rfl)
        (pss_cons (ps_for PassesOwn.never rfl (pi_range1 rfl z_range (pa_cons (pe_h h_w_draw (hr.mono (by omega)) rfl (pa_cons (pv 0) (pa_cons (pe_op op_add (pv 3) pe_int) pa_nil))) pa_nil)) (pg_name (i := 6) nd rfl (Or.inl rfl))
        (pss_one (ps_if (pt_cmpR (op_neD hr.units) (pv 5) (pe_lst pa_nil) rfl) (pss_cons (ps_asg (pe_h h_w_pick (hr.mono (by omega)) rfl (pa_cons (pv 0) (pa_cons (pe_dget (hu_of hr) (pv 1) (pe_ix ix_seq (pv 5) pe_int (fun _ _ => rfl)) (fun _ _ => rfl)) pa_nil))) (pg_tup rfl (pgs_cons (pg_name (i := 7) nd rfl (Or.inl rfl)) (pgs_cons (pg_name (i := 8) nd rfl (Or.inl rfl)) pgs_nil))))
        (pss_cons (ps_expr (pe_bm PySem.F.plainAttrs_list PySem.F.slot_list_append PySem.F.type_list_append mt_append (pv 4) (pa_cons (pv 7) pa_nil)))
        (pss_one (ps_set (i := 5) nd rfl (Or.inl rfl) (pe_op op_catR (pe_callTy call_list_of rfl z_list (by decide +kernel) (pa_cons (pv 8) pa_nil)) (pe_slice sl_list (pv 5) (po_some pe_int) po_none)))))) pss_nil)))
        (pss_one (ps_ret (pv 4))))), ?_⟩
    obtain ⟨S, G, L, vs', ds, p, rfl, hw, hL, hds, ⟨b, x0, row, most, rfl, hx0, hS, hfull, hrow, hl, hm, rfl⟩, q⟩ := h
    cases hds with
    | cons hR hds =>
    cases hds with
    | cons hr hds =>
    cases hds with
    | cons hmo hn =>
    cases hn
    cases hmo
    rename_i vR vr
    obtain ⟨o1, es1⟩ := hw.ss
    obtain ⟨o2, es2⟩ := hw.cc
    -- found, left
    refine ⟨by show 0 ≤ sizeLine; decide, fun a ha => ?_⟩
    have ga : G a = none := same_none hw.g ha
    have m1 : a ≠ S.s := fun z => by rw [z, es1] at ha; cases ha
    have m2 : a ≠ S.c := fun z => by rw [z, es2] at ha; cases ha
    have g0 : Gr G H G (upd H a (.lst [])) := Gr.ov hw.g ha
    refine (show EvN K _ [some (.ref S.s), some vR, some vr, some (.int (most : Nat)), none, none, none, none, none] G (rowD row) from evn_list (Lk.ev hx0 (ev_var (i := 2) rfl hr))) _ g0.gh _ fun vl G1 H1 g1 hvl => ⟨_, _, rfl, ?_⟩
    have gb := g0.trans g1
    have gs1 := Gs.of hw gb
    have a1 : H1 a = some (.lst []) := g1.h _ _ upd_same
    have ga1 : G1 a = none := g1.apart upd_same ga
    refine evs_draw (K := K) (n := 0) (N := most + 1) (i := 0) (σ := [some (.ref S.s), some vR, some vr, some (.int (most : Nat)), some (.ref a), some vl, none, none, none]) rfl ((ev_I0 (z := .int ((most + 1 : Nat) : Int)) (ev_var (i := 3) rfl (.int (most : Nat))) ev_int (dq_int (by omega))).toS ⟨most + 1, rfl, by omega, Nat.le_refl _⟩) (by omega) L H1 gs1.w (by omega) _ fun vn dn G2 H2 g2 ⟨k, hk, hkm⟩ hvn => ?_
    subst hk
    cases hvn
    refine ⟨_, rfl, by omega, by omega, ?_⟩
    have htn : (((k : Nat) : Int)).toNat = k := by omega
    rw [htn]
    have gb2 := gs1.trans g2
    refine for_range (lo := 0) (n := k) (fun i σ' H' => ∃ b6 b7 b8 vl left ws G', σ' = [some (.ref S.s), some vR, some vr, some (.int (most : Nat)), some (.ref a), some vl, b6, b7, b8] ∧ Gs S L (L + 1 + i) G H G' H' ∧ H' a = some (.lst (ws.map V.str)) ∧ G' a = none ∧ Dq K G' vl (rowD left) ∧ rowIn b left ∧ left.length ≤ 500 + 4 * i ∧ ws.length ≤ i ∧ goodLetters b ws)
      ⟨none, none, none, vl, row, [], G2, rfl, gb2.more (by omega), g2.h _ _ m1 m2 a1, g2.apart a1 ga1, (hvl.up new_sub).up g2.g, hrow, by omega, Nat.le_refl _, fun _ h => nomatch h⟩ ?_ ?_
    · rintro i σ' H' hi ⟨b6, b7, b8, vl, left, ws, G3, rfl, g3, k1, k2, k3, k4, k5, k7, k8⟩
      refine (eb_test (K := K) (ev_notEmpty (xs := left) (ev_var (i := 5) rfl k3) (ev_lst ea_nil (by decide)) fun x hx => strOk_name (hS.nm x (k4 x hx)))) H' g3.w.g _ fun G4 H4 g4 => ?_
      have g34 := g3.trans (Gs.of g3.w g4)
      have k1' := g4.h _ _ k1
      have k2' := g4.apart k1 k2
      cases left with
      | nil =>
        exact iteF ⟨_, b7, b8, vl, [], ws, G4, rfl, g34.more (by omega), k1', k2', k3.up g4.g, k4, by omega, by omega, k8⟩
      | cons n rest =>
        have hn := k4 n (by simp)
        have hrest : rowIn b rest := fun m hm => k4 m (by simp [hm])
        have hbn := (rulesOf_mem hn).2
        have hrl : (rulesOf b n).length ≤ 60 := hS.lt _ hbn
        have hne : rulesOf b n ≠ [] := hfull _ hbn
        refine iteT ?_
        have k3' := k3.up g4.g
        refine evs_call (K := K) (S := S) (n := 0) (m := 1) (p := fun d => d ∈ (rulesOf b n).map lawRule) (i := 0) (pl := fun ds => ds = [.lst ((rulesOf b n).map lawRule)]) rfl ((ea_cons (ev_lawName (ev_var (i := 1) rfl (hR.up g34.g)) (ev_ix (i := 0) (.inl (ev_var (i := 5) rfl k3')) rfl) hn) ea_nil).toS rfl) (fun ds hds => ⟨_, _, hds, .lst _, fun z => hne (List.map_eq_nil_iff.mp z), by rw [List.length_map]; omega, rfl⟩) (L + 1 + i) H4 g34.w (by omega) _ fun v5 d5 G5 H5 g5 hd5 hv5 => ?_
        obtain ⟨r, hr1, rfl⟩ := List.mem_map.mp hd5
        have g35 := g34.trans g5
        have k1a := g5.h _ _ m1 m2 k1'
        have k2a := g5.apart k1' k2'
        refine tg_two v5 G5 H5 g5.w.g hv5 _ ?_
        rintro σ3 ⟨vle, vpa, h1, h2, rfl⟩
        cases h1
        refine Exists.intro (V.ref a) (And.intro rfl (And.intro (Or.inl ⟨rfl, _, seqL (.inl k1a)⟩) (Exists.intro (V.str r.1) (And.intro rfl ⟨a, _, .str r.1, rfl, rfl, k1a, ?_, ?_⟩))))
        · rw [List.length_map]
          exact Nat.lt_of_le_of_lt (by omega : ws.length ≤ 100) (by decide)
        have gu : Gs S L (L + 1 + i + (0 + 1)) G H G5 (upd H5 a (.lst (ws.map V.str ++ [.str r.1]))) := gs_upd hw g35 ha k2a
        have hr4 := hS.few _ hbn r hr1
        refine h_setL (K := K) (d := rowD (r.2 ++ rest)) (evn_cat (ev_list (.inl (ev_var (i := 8) rfl h2))) ((ev_slL (lo := some 1) (hi := none) (ev_var (i := 5) rfl (k3'.up g5.g)) (fun _ _ => po_int) (fun _ _ => po_no)).is (by rw [List.map_cons, cut_tail]; rfl)) (by rw [List.length_cons] at k5; omega)).toD gu.w.g fun v6 G6 H6 g6 hv6 => ?_
        have k1b := g6.h _ _ (upd_same (H := H5) (a := a) (o := .lst (ws.map V.str ++ [.str r.1])))
        have gf := gu.trans (Gs.of gu.w g6)
        refine ⟨_, _, _, v6, r.2 ++ rest, ws ++ [r.1], G6, rfl, gf.more (by omega), by rw [k1b, List.map_append]; rfl, g6.apart upd_same k2a, hv6, ?_, ?_, ?_, ?_⟩
        · intro m hm
          rcases List.mem_append.mp hm with h1 | h1
          · exact hS.cl _ hbn r hr1 m h1
          · exact hrest m h1
        · rw [List.length_append]
          rw [List.length_cons] at k5
          omega
        · rw [List.length_append, List.length_cons, List.length_nil]
          omega
        · intro y hy
          rcases List.mem_append.mp hy with h1 | h1
          · exact k8 y h1
          · rw [List.mem_singleton.mp h1]
            exact ⟨_, hbn, r, hr1, rfl⟩
    · rintro σ' H' ⟨b6, b7, b8, vl, left, ws, G3, rfl, g3, k1, k2, k3, k4, k5, k7, k8⟩
      refine Exists.intro (V.ref a) (And.intro rfl ?_)
      have gk := (gs_keep hw g3 ha k2 k1).more (show L + 1 + k ≤ L + 100 by omega)
      exact q _ (rowD ws) _ H' gk ⟨ws, rfl, k8, by omega⟩ (.lst (.inl upd_same) (dqs_of_str ws))

end
end T47
/-! _law_g_finished, _law_g_bent. -/
namespace T47
open PySem PySem.Spec PyProof.Rows L2 Pk
section
variable {P : Program} {w : World} {K : PySem.W.Frag} {mg : Str → Option Value} {base : Heap}
theorem rows_len {b : Kept} (h : Sound b) : ∀ (word row : List Str), rowIn b row → ∀ r ∈ along b row word, r.length ≤ row.length + 4 * word.length
  | [], row, hr, r, hm => by unfold along at hm; rw [List.mem_singleton.mp hm]; omega
  | x :: word, row, hr, r, hm => by
    unfold along at hm
    split at hm
    · rw [List.mem_singleton.mp hm]; omega
    · rename_i r' e
      obtain ⟨n1, n2⟩ := next_rowIn h hr e
      rcases List.mem_cons.mp hm with z | hm
      · rw [z]; omega
      · have := rows_len h word r' n1 r hm
        rw [List.length_cons]
        omega
theorem ev_catP {σ : L2.St} {G : Hp} {ta tb : TE} {xs : List Str} {pw : List Str → Prop} (ha : EvD K ta σ G (rowD xs)) (hb : EvP K tb σ G (fun d => ∃ ws : List Str, d = rowD ws ∧ pw ws)) (hl : ∀ ws, pw ws → xs.length + ws.length ≤ 100000) : EvP K (tOp rCatR ta tb) σ G (fun d => ∃ ws : List Str, d = rowD (xs ++ ws) ∧ pw ws) := fun H e Q q =>
  ha H e _ fun v G1 H1 g1 hv => (hb.up g1.g) H1 g1.gh _ fun u d2 G2 H2 g2 ⟨ws, hd, hp⟩ hu => by
    subst hd
    have hv2 : Dq K G2 v (.lst (xs.map D.str)) := hv.up g2.g
    have hu2 : Dq K G2 u (.lst (ws.map D.str)) := hu
    have hz := hl ws hp
    cases hv2 with
    | @lst a vs _ hr hs =>
      cases hu2 with
      | @lst b us _ hr2 hs2 =>
        refine ⟨a, b, vs, us, rfl, rfl, Rd.up g2.gh hr, Rd.up g2.gh hr2, ?_, fun p hp' => q _ (rowD (xs ++ ws)) _ _ ((g1.trans g2).trans (Gr.new g2.gh hp')) ⟨ws, rfl, hp⟩ ?_⟩
        · rw [hs.length, hs2.length, List.length_map, List.length_map]
          exact Nat.le_trans hz (by decide)
        · have := (hs.append hs2).up (same_new (H := G2) (p := p) (o := .lst (vs ++ us)) (same_none g2.gh hp'))
          rw [← List.map_append] at this
          exact .lst (.inl upd_same) this
theorem next_len3 {b : Kept} (h3 : ∀ p ∈ b, ∀ r ∈ p.2, r.2.length ≤ 3) {row r : List Str} {x : Str} (hr : rowIn b row) (e : nextR b row x = some r) : r.length ≤ row.length + 2 := by
  cases row with
  | nil => cases e
  | cons n rest =>
    obtain ⟨p, hp, rfl⟩ := Option.map_eq_some_iff.mp (show ((rulesOf b n).find? fun r => decide (r.1 = x)).map (fun r => r.2 ++ rest) = some r from e)
    have := h3 _ (rulesOf_mem (hr n (by simp))).2 p (List.mem_of_find?_eq_some hp)
    rw [List.length_append, List.length_cons]
    omega
theorem along_len3 {b : Kept} (hS : Sound b) (h3 : ∀ p ∈ b, ∀ r ∈ p.2, r.2.length ≤ 3) : ∀ (word row : List Str), rowIn b row → ∀ r ∈ along b row word, r.length ≤ row.length + 2 * word.length
  | [], row, _, r, h => by
    rw [List.mem_singleton.mp (show r ∈ [row] from h)]
    omega
  | x :: word, row, hr, r, h => by
    unfold along at h
    cases e : nextR b row x with
    | none =>
      rw [e] at h
      rw [List.mem_singleton.mp h]
      omega
    | some r2 =>
      rw [e] at h
      rcases List.mem_cons.mp h with z | h
      · rw [z]; omega
      · have h1 := along_len3 hS h3 word r2 (next_rowIn hS hr e).1 r h
        have := next_len3 h3 hr e
        rw [List.length_cons]
        omega
def sp_w_g_finished (K : PySem.W.Frag) : Sp := spS K 100 fun ds p => ∃ b F x row most, ds = [.dic (lawD b), .dic (fD F), x, .int (most : Nat)] ∧ IsRow x row ∧ Sound b ∧ fullB b ∧ NormOk b F ∧ rowIn b row ∧ row.length ≤ 5 ∧ most ≤ 20 ∧ (∀ p ∈ b, ∀ r ∈ p.2, r.2.length ≤ 3) ∧ p = fun d => ∃ ws : List Str, d = rowD ws ∧ goodLetters b ws ∧ ws.length ≤ 430

theorem sc_w_g_finished : FnScope ["_law_stream", "_law_rules", "_law_norms", "_law_row", "_law_most", "_law_begun"] ["_law_stream", "_law_rules", "_law_norms", "_law_row", "_law_most"] (defScope T47.s_w_g_finished) := ⟨rfl, rfl, rfl, by decide +kernel, rfl, by decide +kernel, by decide +kernel⟩
theorem has_w_g_finished (T : Tx w K mg) (h_w_g_rest : Has P w K mg base CX0 "_law_g_rest" (2) ["_law_rules", "_law_norms", "_law_row"] (sp_w_g_rest K)) (h_w_g_rows : Has P w K mg base CX0 "_law_g_rows" (1) ["_law_rules", "_law_row", "_law_word"] (sp_w_g_rows K)) (h_w_g_walk : Has P w K mg base CX0 "_law_g_walk" (4) ["_law_stream", "_law_rules", "_law_row", "_law_most"] (sp_w_g_walk K)) : Has P w K mg base CX0 "_law_g_finished" (5) ["_law_stream", "_law_rules", "_law_norms", "_law_row", "_law_most"] (sp_w_g_finished K) := by
  obtain ⟨fd, F⟩ := T.def_ 52
  have gm := T.glo (x := "_law_g_finished") 64
  have nd := sc_w_g_finished.nd
  refine has_of F gm sc_w_g_finished (fun _ _ _ _ _ _ us hl => match us, hl with | [_, _, _, _, _], _ => rfl) (fun vs H Q E h => ?_) (fun cdv A outer s H vs Q E hr h => ?_)
  · exact spS_len h fun _ _ ⟨_, _, _, _, _, e, _⟩ => by rw [e]; rfl
  · refine ⟨_, (pss_cons (ps_set (i := 5) nd rfl (Or.inl rfl) (pe_h h_w_g_walk (hr.mono (by omega)) rfl (pa_cons (pv 0) (pa_cons (pv 1) (pa_cons (pv 3) (pa_cons (pv 4) pa_nil))))))
        (pss_one (ps_ret (pe_op op_catR (pv 5) (pe_h h_w_g_rest (hr.mono (by omega)) rfl (pa_cons (pv 1) (pa_cons (pv 2) (pa_cons (pe_ix ix_seq (pe_h h_w_g_rows (hr.mono (by omega)) rfl (pa_cons (pv 1) (pa_cons (pv 3) (pa_cons (pv 5) pa_nil)))) (pe_un un_neg pe_int) (fun _ _ => rfl)) pa_nil)))))))), ?_⟩
    obtain ⟨S, G, L, vs', ds, p, rfl, hw, hL, hds, ⟨b, F, x0, row, most, rfl, hx0, hS, hfull, hN, hrow, hl, hm, h3, rfl⟩, q⟩ := h
    cases hds with
    | cons hR hds =>
    cases hds with
    | cons hF hds =>
    cases hds with
    | cons hr hds =>
    cases hds with
    | cons hmo hn =>
    cases hn
    cases hmo
    rename_i vR vF vr
    refine hs_set (K := K) (evs_call (K := K) (S := S) (n := 0) (m := 100) (p := fun d => ∃ ws : List Str, d = rowD ws ∧ goodLetters b ws ∧ ws.length ≤ most) (i := 0) (pl := fun ds => ds = [.dic (lawD b), x0, .int (most : Nat)]) rfl ((ea_cons (ev_var (i := 1) rfl hR) (ea_cons (ev_var (i := 3) rfl hr) (ea_cons (ev_var (i := 4) rfl (.int (most : Nat))) ea_nil))).toS rfl) fun ds hds => ⟨b, x0, row, most, hds, hx0, hS, hfull, hrow, by omega, by omega, rfl⟩) hw (by omega) fun v1 d1 G1 H1 g1 ⟨ws, hd, hg, hwl⟩ hv1 => ?_
    subst hd
    obtain ⟨ys, last, hal, hlast⟩ := last_split (along_ne b ws row)
    have hmem : last ∈ along b row ws := by rw [hal]; simp
    have hin := rows_in hS ws row hrow last hmem
    have hll := along_len3 hS h3 ws row hrow last hmem
    refine hs_ret (K := K) (n := 0) ((ev_catP (xs := ws) (pw := fun w2 => goodLetters b w2 ∧ w2.length ≤ 9 * last.length) (ev_var (i := 5) rfl hv1) (ev_callP (K := K) (ds := [.dic (lawD b), .dic (fD F), rowD last]) (ea_cons (ev_var (i := 1) rfl (hR.up g1.g)) (ea_cons (ev_var (i := 2) rfl (hF.up g1.g)) (ea_cons (ev_ixLast (ds := (along b row ws).map rowD) (ev_call (ea_cons (ev_var (i := 1) rfl (hR.up g1.g)) (ea_cons (ev_var (i := 3) rfl (hr.up g1.g)) (ea_cons (ev_var (i := 5) rfl hv1) ea_nil))) ⟨b, x0, row, ws, rfl, hx0, hS, hrow, by omega, by omega, rfl⟩) (by rw [List.getLast?_map, hlast]; rfl)) ea_nil))) ⟨b, F, rowD last, last, rfl, .lst _, hS, hN, hin, by omega, rfl⟩) (fun w2 h2 => by omega)).toS) g1.w (by omega) fun v2 d2 G2 H2 g2 ⟨w2, hd2, hg2, hwl2⟩ hv2 => ?_
    subst hd2
    refine q v2 _ G2 H2 ((g1.trans g2).more (by omega)) ⟨ws ++ w2, rfl, fun y hy => ?_, by rw [List.length_append]; omega⟩ hv2
    rcases List.mem_append.mp hy with h1 | h1
    · exact hg y h1
    · exact hg2 y h1

end
end T47
/-! _law_g_bent. -/
namespace T47
open PySem PySem.Spec PyProof.Rows L2 Pk
theorem cut_mid {α : Type} (xs : List α) (i j : Nat) (hij : i ≤ j) : Pk.cutD xs (some (i : Int)) (some (j : Int)) = (xs.drop i).take (j - i) := by
  unfold Pk.cutD HT.sIx
  have h1 : ¬ (i : Int) < 0 := by omega
  have h2 : ¬ (j : Int) < 0 := by omega
  simp only [h1, h2, if_false]
  by_cases hi : i ≤ xs.length
  · have e1 : min (i : Int) (xs.length : Int) = i := by omega
    by_cases hj : j ≤ xs.length
    · simp only [Int.toNat_natCast]
      congr 1
      · omega
      · congr 1
        omega
    · have : (min j xs.length) = xs.length := by omega
      rw [List.take_of_length_le (l := xs.drop i) (i := j - i) (by rw [List.length_drop]; omega)]
      simp only [Int.toNat_natCast]
      rw [show min i xs.length = i by omega, List.take_of_length_le (by rw [List.length_drop]; omega)]
  · rw [List.drop_of_length_le (i := i) (by omega)]
    simp only [Int.toNat_natCast]
    rw [List.drop_of_length_le (by omega)]
    simp
theorem cut_drop {α : Type} (xs : List α) (i : Nat) : Pk.cutD xs (some (i : Int)) none = xs.drop i := by
  unfold Pk.cutD HT.sIx
  have h1 : ¬ (i : Int) < 0 := by omega
  simp only [h1, if_false, Int.toNat_natCast]
  by_cases hi : i ≤ xs.length
  · rw [show min i xs.length = i by omega, List.take_of_length_le (by rw [List.length_drop]; omega)]
  · rw [List.drop_of_length_le (i := i) (by omega), List.drop_of_length_le (i := min i xs.length) (by omega)]
    simp
def bentL : List Str := ["a", "b", "!a", "?a", "late", "!late"]
section
variable {P : Program} {w : World} {K : PySem.W.Frag} {mg : Str → Option Value} {base : Heap}
def sp_w_g_bent (K : PySem.W.Frag) : Sp := spS K 3 fun ds p => ∃ word : List Str, ds = [rowD word] ∧ word.length ≤ 9000 ∧ p = fun d => ∃ ws : List Str, d = rowD ws ∧ (∀ x ∈ ws, x ∈ word ∨ x ∈ bentL) ∧ ws.length ≤ word.length + 1
theorem ev_rev {σ : L2.St} {G : Hp} {te : TE} {ds : List D} (h : EvD K te σ G (.lst ds)) : EvD K (tRevL K te) σ G (.lst ds.reverse) := fun H e Q q => h H e _ fun v G1 H1 g1 hv => by
  cases hv with
  | @lst a xs _ hr hs => exact ⟨a, xs, rfl, seqL (Rd.up g1.gh hr), fun p hp => q _ _ _ (g1.trans (Gr.new g1.gh hp)) (.lst (.inl upd_same) (hs.reverse.up (same_new (same_none g1.gh hp))))⟩
theorem ev_take {σ : L2.St} {G : Hp} {te : TE} {to tp : TO} {xs : List Str} {k : Nat} (h : EvD K te σ G (rowD xs)) (h1 : ∀ (H : Hp) (Q : Option Int → Hp → Prop), Q none H → to σ H Q) (h2 : ∀ (H : Hp) (Q : Option Int → Hp → Prop), Q (some (k : Int)) H → tp σ H Q) : EvD K (tSl (rSlL K) te to tp) σ G (rowD (xs.take k)) :=
  (ev_slL h h1 h2).is (by rw [cut_take]; show D.lst _ = D.lst _; rw [List.map_take])
theorem ev_drop {σ : L2.St} {G : Hp} {te : TE} {to tp : TO} {xs : List Str} {k : Nat} (h : EvD K te σ G (rowD xs)) (h1 : ∀ (H : Hp) (Q : Option Int → Hp → Prop), Q (some (k : Int)) H → to σ H Q) (h2 : ∀ (H : Hp) (Q : Option Int → Hp → Prop), Q none H → tp σ H Q) : EvD K (tSl (rSlL K) te to tp) σ G (rowD (xs.drop k)) :=
  (ev_slL h h1 h2).is (by rw [cut_drop]; show D.lst _ = D.lst _; rw [List.map_drop])
theorem ev_mid {σ : L2.St} {G : Hp} {te : TE} {to tp : TO} {xs : List Str} {i j : Nat} (hij : i ≤ j) (h : EvD K te σ G (rowD xs)) (h1 : ∀ (H : Hp) (Q : Option Int → Hp → Prop), Q (some (i : Int)) H → to σ H Q) (h2 : ∀ (H : Hp) (Q : Option Int → Hp → Prop), Q (some (j : Int)) H → tp σ H Q) : EvD K (tSl (rSlL K) te to tp) σ G (rowD ((xs.drop i).take (j - i))) :=
  (ev_slL h h1 h2).is (by rw [cut_mid _ _ _ hij]; show D.lst _ = D.lst _; rw [List.map_take, List.map_drop])
theorem ev_catS {σ : L2.St} {G : Hp} {ta tb : TE} {xs ys : List Str} (ha : EvD K ta σ G (rowD xs)) (hb : EvD K tb σ G (rowD ys)) (hl : xs.length + ys.length ≤ 100000) : EvD K (tOp rCatR ta tb) σ G (rowD (xs ++ ys)) := (evn_cat ha hb hl).toD

theorem sc_w_g_bent : FnScope ["_law_stream", "_law_word", "_law_at", "_law_some", "_law_way"] ["_law_stream", "_law_word"] (defScope T47.s_w_g_bent) := ⟨rfl, rfl, rfl, by decide +kernel, rfl, by decide +kernel, by decide +kernel⟩
theorem has_w_g_bent (T : Tx w K mg) (h_w_draw : Has P w K mg base CX0 "_law_draw" (1) ["_law_stream", "_law_many"] (sp_w_draw K)) (h_w_pick : Has P w K mg base CX0 "_law_pick" (2) ["_law_stream", "_law_some"] (sp_w_pick K)) : Has P w K mg base CX0 "_law_g_bent" (3) ["_law_stream", "_law_word"] (sp_w_g_bent K) := by
  obtain ⟨fd, F⟩ := T.def_ 53
  have gm := T.glo (x := "_law_g_bent") 65
  have z_len := T.free (x := "len") 87
  have nd := sc_w_g_bent.nd
  refine has_of F gm sc_w_g_bent (fun _ _ _ _ _ _ us hl => match us, hl with | [_, _], _ => rfl) (fun vs H Q E h => ?_) (fun cdv A outer s H vs Q E hr h => ?_)
  · exact spS_len h fun _ _ ⟨_, e, _⟩ => by rw [e]; rfl
  · refine ⟨_, (pss_cons (ps_par (i := 2) (j := 3) rfl nd rfl rfl (by decide) rfl rfl (pa_cons (pe_h h_w_draw (hr.mono (by omega)) rfl (pa_cons (pv 0) (pa_cons (pe_op op_add (pe_callB call_len rfl z_len (by decide +kernel) (pa_cons (pv 1) pa_nil)) pe_int) pa_nil))) (pa_cons (pe_h h_w_pick (hr.mono (by omega)) rfl (pa_cons (pv 0) (pa_cons (pe_op op_catR (pe_lst (pa_cons pe_str (pa_cons pe_str (pa_cons pe_str (pa_cons pe_str (pa_cons pe_str (pa_cons pe_str pa_nil))))))) (pv 1)) pa_nil))) pa_nil)) rfl)
        (pss_cons (ps_set (i := 4) nd rfl (Or.inl rfl) (pe_h h_w_draw (hr.mono (by omega)) rfl (pa_cons (pv 0) (pa_cons pe_int pa_nil))))
        (pss_cons (ps_if (pt_cmpR op_eq (pv 4) pe_int (nomark _)) (pss_one (ps_ret (pe_op op_catR (pe_op op_catR (pe_slice sl_list (pv 1) po_none (po_some (pv 2))) (pe_lst (pa_cons (pv 3) pa_nil))) (pe_slice sl_list (pv 1) (po_some (pv 2)) po_none)))) pss_nil)
        (pss_cons (ps_if (pt_cmpR op_eq (pv 4) pe_int (nomark _)) (pss_one (ps_ret (pe_op op_catR (pe_op op_catR (pe_slice sl_list (pv 1) po_none (po_some (pv 2))) (pe_lst (pa_cons (pv 3) pa_nil))) (pe_slice sl_list (pv 1) (po_some (pe_op op_add (pv 2) pe_int)) po_none)))) pss_nil)
        (pss_cons (ps_if (pt_cmpR op_eq (pv 4) pe_int (nomark _)) (pss_one (ps_ret (pe_op op_catR (pe_slice sl_list (pv 1) po_none (po_some (pv 2))) (pe_slice sl_list (pv 1) (po_some (pe_op op_add (pv 2) pe_int)) po_none)))) pss_nil)
        (pss_one (ps_ret (pe_ifExp (pt_cmpR op_eq (pv 4) pe_int (nomark _)) (pe_op op_catR (pe_op op_catR (pe_slice sl_list (pv 1) po_none (po_some (pv 2))) (pe_revL (pe_slice sl_list (pv 1) (po_some (pv 2)) (po_some (pe_op op_add (pv 2) pe_int))))) (pe_slice sl_list (pv 1) (po_some (pe_op op_add (pv 2) pe_int)) po_none)) (pe_slice sl_list (pv 1) po_none (po_some (pv 2))))))))))), ?_⟩
    obtain ⟨S, G, L, vs', ds, p, rfl, hw, hL, hds, ⟨word, rfl, hl, rfl⟩, q⟩ := h
    cases hds with
    | cons hx hn =>
    cases hn
    rename_i vw
    have hbl : bentL.length = 6 := rfl
    have hne : (bentL ++ word).map D.str ≠ [] := by simp [bentL]
    have hln : ((bentL ++ word).map D.str).length < 1000000 := by rw [List.length_map, List.length_append]; omega
    refine evs_draw (K := K) (n := 0) (N := word.length + 1) (i := 0) (σ := [some (.ref S.s), some vw, none, none, none]) rfl ((ev_I0 (z := .int ((word.length + 1 : Nat) : Int)) (ev_len (ds := word.map D.str) (ev_var (i := 1) rfl hx) (.inr (.inl ⟨rfl, rfl⟩))) ev_int (dq_int (by rw [List.length_map]; omega))).toS ⟨word.length + 1, rfl, by omega, Nat.le_refl _⟩) (by omega) L H hw (by omega) _ fun v1 d1 G1 H1 g1 ⟨k, hk, hkl⟩ hv1 => ?_
    subst hk
    cases hv1
    refine evs_call (K := K) (S := S) (n := 0) (m := 1) (p := fun d => d ∈ (bentL ++ word).map D.str) (i := 0) (σ := [some (.ref S.s), some vw, none, none, none]) (pl := fun ds => ds = [rowD (bentL ++ word)]) rfl ((ea_cons (ev_catS (xs := bentL) (ev_lst (ds := bentL.map D.str) (ea_cons ev_str (ea_cons ev_str (ea_cons ev_str (ea_cons ev_str (ea_cons ev_str (ea_cons ev_str ea_nil)))))) (by decide)) (ev_var (i := 1) rfl (hx.up g1.g)) (by have : bentL.length = 6 := rfl; omega)) ea_nil).toS rfl) (fun ds hds => ⟨_, _, hds, .lst _, hne, hln, rfl⟩) (L + (0 + 1)) H1 g1.w (by omega) _ fun v2 d2 G2 H2 g2 hd2 hv2 => ?_
    obtain ⟨y, hy, rfl⟩ := List.mem_map.mp hd2
    cases hv2
    have hy' : y ∈ word ∨ y ∈ bentL := (List.mem_append.mp hy).symm
    have g12 := g1.trans g2
    refine ⟨_, _, rfl, ?_⟩
    refine hs_set (K := K) (evs_draw (n := 0) (N := 5) rfl (ev_int.toS ⟨5, rfl, by decide, Nat.le_refl _⟩) (by decide)) g2.w (by omega) fun v3 d3 G3 H3 g3 ⟨way, hd3, hway⟩ hv3 => ?_
    subst hd3
    cases hv3
    have g13 := g12.trans g3
    have hx3 := hx.up g13.g
    have fin : ∀ (ws : List Str) v G4 H4, Gr G3 H3 G4 H4 → (∀ x ∈ ws, x ∈ word ∨ x ∈ bentL) → ws.length ≤ word.length + 1 → Dq K G4 v (rowD ws) → Q v H4 := fun ws v G4 H4 g4 h1 h2 hv => q v _ G4 H4 ((g13.trans (Gs.of g3.w g4)).more (by omega)) ⟨ws, rfl, h1, h2⟩ hv
    have hword : ∀ (G4 : Hp) (σ : L2.St), Same G3 G4 → σ[1]? = some (some vw) → EvD K (tVar 1) σ G4 (rowD word) := fun G4 σ e4 h1 => ev_var h1 (hx3.up e4)
    have mt : ∀ j, ∀ x ∈ word.take j, x ∈ word ∨ x ∈ bentL := fun j x hx => .inl (List.mem_of_mem_take hx)
    have md : ∀ j, ∀ x ∈ word.drop j, x ∈ word ∨ x ∈ bentL := fun j x hx => .inl (List.mem_of_mem_drop hx)
    have l1 : ∀ j, (word.take j).length ≤ j := fun j => List.length_take_le _ _
    have wayT : ∀ c : Nat, ∀ G4, EvB (tTest (tOp rEq (tVar 4) (tC (.int (c : Nat))))) [some (.ref S.s), some vw, some (.int (k : Nat)), some (.str y), some (.int (way : Nat))] G4 (decide (way = c)) := fun c G4 => (eb_test (K := K) (ev_eq (ev_var (i := 4) rfl (.int (way : Nat))) ev_int rfl rfl rfl)).is (by rw [decide_eq_decide]; exact ⟨fun z => by have := V.int.inj z; omega, fun z => by rw [z]⟩)
    have kAt : ∀ (σ : L2.St) (H : Hp) (Q : Option Int → Hp → Prop), σ[2]? = some (some (.int (k : Nat))) → Q (some ((k : Nat) : Int)) H → tPart (tVar 2) σ H Q := fun σ H Q h q => ⟨_, h, _, rfl, q⟩
    have kAt1 : ∀ (c : Nat) (σ : L2.St) (H : Hp) (Q : Option Int → Hp → Prop), σ[2]? = some (some (.int (k : Nat))) → Q (some ((k + c : Nat) : Int)) H → tPart (tOp (rI0 fun i j => .int (i + j)) (tVar 2) (tC (.int (c : Nat)))) σ H Q := fun c σ H Q h q => ⟨_, h, _, _, rfl, rfl, _, rfl, q⟩
    have one : ∀ (σ : L2.St) (G4 : Hp), σ[3]? = some (some (.str y)) → EvD K (tLst (tCons (tVar 3) tNil)) σ G4 (rowD [y]) := fun σ G4 h => ev_lst (ea_cons (ev_var h (.str y)) ea_nil) (by show 1 ≤ 100000; decide)
    have h1y : ∀ x ∈ [y], x ∈ word ∨ x ∈ bentL := fun x hx => by rw [List.mem_singleton.mp hx]; exact hy'
    have both : ∀ {a b : List Str}, (∀ x ∈ a, x ∈ word ∨ x ∈ bentL) → (∀ x ∈ b, x ∈ word ∨ x ∈ bentL) → ∀ x ∈ a ++ b, x ∈ word ∨ x ∈ bentL := fun ha hb x hx => (List.mem_append.mp hx).elim (ha x) (hb x)
    have tk := List.length_take_le k word
    have tl : (word.take k).length = min k word.length := List.length_take
    have dl : ∀ j, (word.drop j).length = word.length - j := fun j => List.length_drop
    refine h_ifq (b := decide (way = 0)) (wayT 0 G3) g3.w.g (fun hc G4 H4 g4 => ?_) fun hc G4 H4 g4 => ?_
    · refine h_ret (K := K) (ev_catS (ev_catS (ev_take (k := k) (hword G4 _ g4.g rfl) (fun _ _ => po_no) (fun H Q q => kAt _ H Q rfl q)) (one _ _ rfl) (by rw [tl]; simp only [List.length_cons, List.length_nil]; omega)) (ev_drop (k := k) (hword G4 _ g4.g rfl) (fun H Q q => kAt _ H Q rfl q) (fun _ _ => po_no)) (by rw [List.length_append, tl, dl]; simp only [List.length_cons, List.length_nil]; omega)) g4.gh fun v G5 H5 g5 hv => fin _ v G5 H5 (g4.trans g5) (both (both (mt k) h1y) (md k)) ?_ hv
      rw [List.length_append, List.length_append, tl, dl]; simp only [List.length_cons, List.length_nil]; omega
    refine h_ifq (b := decide (way = 1)) (wayT 1 G4) g4.gh (fun hc G5 H5 g5 => ?_) fun hc G5 H5 g5 => ?_
    · have e5 := g4.g.trans g5.g
      refine h_ret (K := K) (ev_catS (ev_catS (ev_take (k := k) (hword G5 _ e5 rfl) (fun _ _ => po_no) (fun H Q q => kAt _ H Q rfl q)) (one _ _ rfl) (by rw [tl]; simp only [List.length_cons, List.length_nil]; omega)) (ev_drop (k := k + 1) (hword G5 _ e5 rfl) (fun H Q q => kAt1 1 _ H Q rfl q) (fun _ _ => po_no)) (by rw [List.length_append, tl, dl]; simp only [List.length_cons, List.length_nil]; omega)) g5.gh fun v G6 H6 g6 hv => fin _ v G6 H6 (g4.trans (g5.trans g6)) (both (both (mt k) h1y) (md (k + 1))) ?_ hv
      rw [List.length_append, List.length_append, tl, dl]; simp only [List.length_cons, List.length_nil]; omega
    refine h_ifq (b := decide (way = 2)) (wayT 2 G5) g5.gh (fun hc G6 H6 g6 => ?_) fun hc G6 H6 g6 => ?_
    · have e6 := g4.g.trans (g5.g.trans g6.g)
      refine h_ret (K := K) (ev_catS (ev_take (k := k) (hword G6 _ e6 rfl) (fun _ _ => po_no) (fun H Q q => kAt _ H Q rfl q)) (ev_drop (k := k + 1) (hword G6 _ e6 rfl) (fun H Q q => kAt1 1 _ H Q rfl q) (fun _ _ => po_no)) (by rw [tl, dl]; omega)) g6.gh fun v G7 H7 g7 hv => fin _ v G7 H7 (g4.trans (g5.trans (g6.trans g7))) (both (mt k) (md (k + 1))) ?_ hv
      rw [List.length_append, tl, dl]; omega
    have e6 := g4.g.trans (g5.g.trans g6.g)
    have g46 := g4.trans (g5.trans g6)
    by_cases hw3 : way = 3
    · refine h_ret (K := K) (d := rowD (word.take k ++ ((word.drop k).take (k + 2 - k)).reverse ++ word.drop (k + 2))) (ev_if (K := K) (b := true) ((wayT 3 G6).is (decide_eq_true hw3)) (fun _ => ev_catS (ev_catS (ev_take (k := k) (hword G6 _ e6 rfl) (fun _ _ => po_no) (fun H Q q => kAt _ H Q rfl q)) ((ev_rev (ev_mid (i := k) (j := k + 2) (by omega) (hword G6 _ e6 rfl) (fun H Q q => kAt _ H Q rfl q) (fun H Q q => kAt1 2 _ H Q rfl q))).is (by show D.lst _ = D.lst _; rw [List.map_reverse])) ?_) (ev_drop (k := k + 2) (hword G6 _ e6 rfl) (fun H Q q => kAt1 2 _ H Q rfl q) (fun _ _ => po_no)) ?_) fun z => by cases z) g6.gh fun v G7 H7 g7 hv => fin _ v G7 H7 (g46.trans g7) (both (both (mt k) fun x hx => md k x (List.mem_of_mem_take (List.mem_reverse.mp hx))) (md (k + 2))) ?_ hv
      · rw [tl, List.length_reverse, List.length_take, dl]; omega
      · rw [List.length_append, tl, List.length_reverse, List.length_take, dl, dl]; omega
      · rw [List.length_append, List.length_append, tl, List.length_reverse, List.length_take, dl, dl]; omega
    · refine h_ret (K := K) (d := rowD (word.take k)) (ev_if (K := K) (b := false) ((wayT 3 G6).is (decide_eq_false hw3)) (fun z => by cases z) fun _ => ev_take (k := k) (hword G6 _ e6 rfl) (fun _ _ => po_no) (fun H Q q => kAt _ H Q rfl q)) g6.gh fun v G7 H7 g7 hv => fin _ v G7 H7 (g46.trans g7) (mt k) ?_ hv
      rw [tl]; omega

end
end T47
/-! The least norms, and that the law's turns reach them. -/
namespace T47
open PySem PySem.Spec PyProof.Rows L2 Pk
/-- v is a norm that some way of finishing n has -/
inductive DerN (b : Kept) : Str → Nat → Prop
  | mk {n : Str} {rs : List Rule} {r : Rule} (f : Str → Nat) : (n, rs) ∈ b → r ∈ rs → (∀ o ∈ r.2, DerN b o (f o)) → DerN b n (1 + (r.2.map f).sum)
theorem least_of (Q : Nat → Prop) : ∀ n, Q n → ∃ m, Q m ∧ m ≤ n ∧ ∀ k, Q k → m ≤ k := by
  intro n
  induction n using Nat.strongRecOn with
  | ind n ih =>
    intro h
    by_cases hk : ∃ k, Q k ∧ k < n
    · obtain ⟨k, hk1, hk2⟩ := hk
      obtain ⟨m, h1, h2, h3⟩ := ih k hk2 hk1
      exact ⟨m, h1, by omega, h3⟩
    · refine ⟨n, h, Nat.le_refl _, fun k hq => ?_⟩
      by_cases hlt : k < n
      · exact absurd ⟨k, hq, hlt⟩ hk
      · omega
open Classical in
noncomputable def normT (b : Kept) (n : Str) : Nat := if h : ∃ v, DerN b n v ∧ ∀ k, DerN b n k → v ≤ k then h.choose else 0
theorem normT_spec {b : Kept} {n : Str} {v : Nat} (h : DerN b n v) : DerN b n (normT b n) ∧ ∀ k, DerN b n k → normT b n ≤ k := by
  obtain ⟨m, h1, _, h3⟩ := least_of (DerN b n) v h
  have ex : ∃ v, DerN b n v ∧ ∀ k, DerN b n k → v ≤ k := ⟨m, h1, h3⟩
  unfold normT
  rw [dif_pos ex]
  exact ex.choose_spec
/-- every name may be finished -/
def allDer (b : Kept) : Prop := ∀ n ∈ b.map (·.1), ∃ v, DerN b n v
theorem sum_mono {f g : Str → Nat} : ∀ {l : List Str}, (∀ x ∈ l, f x ≤ g x) → (l.map f).sum ≤ (l.map g).sum := fun h => sum_le h
theorem normT_rule {b : Kept} (hA : allDer b) (hS : closedB b) {p : Str × List Rule} (hp : p ∈ b) {r : Rule} (hr : r ∈ p.2) : normT b p.1 ≤ 1 + (r.2.map (normT b)).sum := by
  obtain ⟨v, hv⟩ := hA p.1 (List.mem_map.mpr ⟨p, hp, rfl⟩)
  exact (normT_spec hv).2 _ (.mk (normT b) hp hr fun o ho => by
    obtain ⟨u, hu⟩ := hA o (hS p hp r hr o ho)
    exact (normT_spec hu).1)
theorem normT_best {b : Kept} (hA : allDer b) (hS : closedB b) (hn : (b.map (·.1)).Nodup) {p : Str × List Rule} (hp : p ∈ b) : ∃ r ∈ p.2, normT b p.1 = 1 + (r.2.map (normT b)).sum := by
  obtain ⟨v, hv⟩ := hA p.1 (List.mem_map.mpr ⟨p, hp, rfl⟩)
  have h1 := (normT_spec hv).1
  generalize hk : normT b p.1 = k at h1
  cases h1 with
  | @mk _ rs r f hm hr hf =>
    have e : rs = p.2 := by
      have a1 := lookK_mem hn hm
      have a2 := lookK_mem (b := b) (n := p.1) (rs := p.2) hn hp
      rw [a1] at a2
      exact Option.some.inj a2
    subst e
    refine ⟨r, hr, ?_⟩
    have le1 : (r.2.map (normT b)).sum ≤ (r.2.map f).sum := sum_mono fun o ho => (normT_spec (hf o ho)).2 _ (hf o ho)
    have le2 := normT_rule hA hS hp hr
    omega
/-! ### the turns -/
def minL : List Nat → Nat
  | [] => 0
  | x :: xs => xs.foldl min x
theorem minL_mem : ∀ {xs : List Nat}, xs ≠ [] → minL xs ∈ xs ∧ ∀ y ∈ xs, minL xs ≤ y
  | [], h => absurd rfl h
  | x :: xs, _ => by
    have : ∀ (xs : List Nat) (x : Nat), (xs.foldl min x = x ∨ xs.foldl min x ∈ xs) ∧ xs.foldl min x ≤ x ∧ ∀ y ∈ xs, xs.foldl min x ≤ y := by
      intro xs
      induction xs with
      | nil => intro x; exact ⟨.inl rfl, Nat.le_refl _, fun _ h => nomatch h⟩
      | cons z xs ih =>
        intro x
        rw [List.foldl_cons]
        obtain ⟨h1, h2, h3⟩ := ih (min x z)
        refine ⟨?_, by omega, fun y hy => ?_⟩
        · rcases h1 with h1 | h1
          · rw [h1]
            by_cases hxz : x ≤ z
            · exact .inl (by omega)
            · exact .inr (by rw [show min x z = z by omega]; simp)
          · exact .inr (by simp [h1])
        · rcases List.mem_cons.mp hy with e | hy
          · rw [e]; omega
          · exact h3 y hy
    obtain ⟨h1, h2, h3⟩ := this xs x
    refine ⟨?_, fun y hy => ?_⟩
    · show xs.foldl min x ∈ x :: xs
      rcases h1 with h1 | h1
      · rw [h1]; simp
      · simp [h1]
    · rcases List.mem_cons.mp hy with e | hy
      · rw [e]; exact h2
      · exact h3 y hy
def stepD (F : FN) (p : Str × List Rule) : FN := if (p.2.filter fun r => allIn F r.2).isEmpty = true then F else putN F p.1 (minL ((p.2.filter fun r => allIn F r.2).map fun r => 1 + sumOf F r.2))
def turnD (b : Kept) (F : FN) : FN := b.foldl stepD F
/-- nothing below the least -/
def Low (b : Kept) (F : FN) : Prop := ∀ n v, lookN F n = some v → n ∈ b.map (·.1) ∧ normT b n ≤ v
noncomputable def rankN (b : Kept) (n : Str) : Nat := b.countP fun p => decide (normT b p.1 < normT b n)
def Exact (b : Kept) (F : FN) (t : Nat) : Prop := ∀ n ∈ b.map (·.1), rankN b n < t → lookN F n = some (normT b n)
theorem sumOf_low {b : Kept} {F : FN} (h : Low b F) {row : List Str} (ha : allIn F row = true) : (row.map (normT b)).sum ≤ sumOf F row := by
  unfold sumOf
  refine sum_mono fun o ho => ?_
  obtain ⟨v, hv⟩ := Option.isSome_iff_exists.mp (List.all_eq_true.mp ha o ho)
  rw [hv]
  exact (h o v hv).2
theorem low_step {b : Kept} (hA : allDer b) (hS : closedB b) {F : FN} (h : Low b F) {p : Str × List Rule} (hp : p ∈ b) : Low b (stepD F p) := by
  unfold stepD
  split
  · exact h
  · rename_i hne
    intro n v hv
    rw [lookN_put] at hv
    by_cases e : n = p.1
    · rw [if_pos e] at hv
      have hv := (Option.some.inj hv).symm
      subst e
      refine ⟨List.mem_map.mpr ⟨p, hp, rfl⟩, ?_⟩
      have hn2 : (p.2.filter fun r => allIn F r.2).map (fun r => 1 + sumOf F r.2) ≠ [] := fun z => hne (by rw [List.map_eq_nil_iff.mp z]; rfl)
      obtain ⟨m1, _⟩ := minL_mem hn2
      rw [hv]
      obtain ⟨r, hr, e2⟩ := List.mem_map.mp m1
      obtain ⟨hr1, hr2⟩ := List.mem_filter.mp hr
      rw [← e2]
      have := normT_rule hA hS hp hr1
      have := sumOf_low h hr2
      omega
    · rw [if_neg e] at hv
      exact h n v hv
theorem rank_lt {b : Kept} {o n : Str} (ho : o ∈ b.map (·.1)) (h : normT b o < normT b n) : rankN b o < rankN b n := by
  obtain ⟨p, hp, e⟩ := List.mem_map.mp ho
  refine count_lt (fun x _ hx => ?_) ⟨p, hp, ?_, ?_⟩
  · have := of_decide_eq_true hx
    exact decide_eq_true (by omega)
  · have e : p.1 = o := e
    rw [e]; simp
  · have e : p.1 = o := e
    rw [e]; exact decide_eq_true h
/-- a name whose lower ranks are exact becomes, or stays, exact -/
theorem step_exact {b : Kept} (hA : allDer b) (hS : closedB b) (hn : (b.map (·.1)).Nodup) {F : FN} (h : Low b F) {p : Str × List Rule} (hp : p ∈ b) (he : Exact b F (rankN b p.1)) : lookN (stepD F p) p.1 = some (normT b p.1) := by
  obtain ⟨r, hr, e⟩ := normT_best hA hS hn hp
  have hex : ∀ o ∈ r.2, lookN F o = some (normT b o) := fun o ho => by
    have hle : normT b o ≤ (r.2.map (normT b)).sum := by
      have : ∀ l : List Str, o ∈ l → normT b o ≤ (l.map (normT b)).sum := by
        intro l
        induction l with
        | nil => intro h; cases h
        | cons x l ih =>
          intro h
          rw [List.map_cons, List.sum_cons]
          rcases List.mem_cons.mp h with z | h
          · rw [z]; omega
          · have := ih h; omega
      exact this r.2 ho
    have hno := hS p hp r hr o ho
    exact he o hno (rank_lt hno (by omega))
  have hall : allIn F r.2 = true := List.all_eq_true.mpr fun o ho => by rw [hex o ho]; rfl
  have hsum : sumOf F r.2 = (r.2.map (normT b)).sum := by
    unfold sumOf
    congr 1
    exact List.map_congr_left fun o ho => by rw [hex o ho]; rfl
  have hmem : r ∈ p.2.filter fun r => allIn F r.2 := List.mem_filter.mpr ⟨hr, hall⟩
  unfold stepD
  rw [if_neg fun z => by rw [List.isEmpty_iff.mp z] at hmem; cases hmem]
  rw [lookN_put, if_pos rfl]
  have hn2 : (p.2.filter fun r => allIn F r.2).map (fun r => 1 + sumOf F r.2) ≠ [] := fun z => by rw [List.map_eq_nil_iff.mp z] at hmem; cases hmem
  obtain ⟨m1, m2⟩ := minL_mem hn2
  have le1 := m2 _ (List.mem_map.mpr ⟨r, hmem, rfl⟩)
  obtain ⟨r', hr', e2⟩ := List.mem_map.mp m1
  obtain ⟨hr1, hr2⟩ := List.mem_filter.mp hr'
  have le2 := normT_rule hA hS hp hr1
  have le3 := sumOf_low h hr2
  congr 1
  omega
theorem exact_step {b : Kept} (hA : allDer b) (hS : closedB b) (hn : (b.map (·.1)).Nodup) {F : FN} {t : Nat} (h : Low b F) {p : Str × List Rule} (hp : p ∈ b) (he : Exact b F t) : Exact b (stepD F p) t := fun n hnm hr => by
  by_cases e : n = p.1
  · subst e
    exact step_exact hA hS hn h hp fun m hm hmr => he m hm (by omega)
  · have : lookN (stepD F p) n = lookN F n := by
      unfold stepD
      split
      · rfl
      · rw [lookN_put, if_neg e]
    rw [this]
    exact he n hnm hr
theorem turn_exact {b : Kept} (hA : allDer b) (hS : closedB b) (hn : (b.map (·.1)).Nodup) {F : FN} {t : Nat} (h : Low b F) (he : Exact b F t) : Low b (turnD b F) ∧ Exact b (turnD b F) (t + 1) := by
  have main : ∀ (done todo : List (Str × List Rule)), done ++ todo = b → ∀ F, Low b F → Exact b F t → (∀ p ∈ done, rankN b p.1 < t + 1 → lookN F p.1 = some (normT b p.1)) → Low b (todo.foldl stepD F) ∧ ∀ p ∈ b, rankN b p.1 < t + 1 → lookN (todo.foldl stepD F) p.1 = some (normT b p.1) := by
    intro done todo
    induction todo generalizing done with
    | nil =>
      intro e F h1 h2 h3
      rw [List.append_nil] at e
      subst e
      exact ⟨h1, h3⟩
    | cons p todo ih =>
      intro e F h1 h2 h3
      have hp : p ∈ b := by rw [← e]; simp
      rw [List.foldl_cons]
      refine ih (done ++ [p]) (by rw [List.append_assoc]; exact e) _ (low_step hA hS h1 hp) (exact_step hA hS hn h1 hp h2) fun q hq hr => ?_
      have hqb : q ∈ b := by
        rw [← e]
        rcases List.mem_append.mp hq with z | z
        · simp [z]
        · rw [List.mem_singleton.mp z]; simp
      by_cases e2 : q.1 = p.1
      · rw [e2] at hr ⊢
        exact step_exact hA hS hn h1 hp fun m hm hmr => h2 m hm (by omega)
      · have : lookN (stepD F p) q.1 = lookN F q.1 := by
          unfold stepD
          split
          · rfl
          · rw [lookN_put, if_neg e2]
        rw [this]
        rcases List.mem_append.mp hq with z | z
        · exact h3 q z hr
        · rw [List.mem_singleton.mp z] at e2
          exact absurd rfl e2
  obtain ⟨m1, m2⟩ := main [] b rfl F h he (fun _ h => nomatch h)
  refine ⟨m1, fun n hnm hr => ?_⟩
  obtain ⟨p, hp, e⟩ := List.mem_map.mp hnm
  have e : p.1 = n := e
  subst e
  exact m2 p hp hr
def normsD (b : Kept) : Nat → FN
  | 0 => []
  | t + 1 => turnD b (normsD b t)
theorem normsD_exact {b : Kept} (hA : allDer b) (hS : closedB b) (hn : (b.map (·.1)).Nodup) : ∀ t, Low b (normsD b t) ∧ Exact b (normsD b t) t
  | 0 => And.intro (fun n v h => by
      have h : lookN [] n = some v := h
      cases h) (fun n _ h => absurd h (Nat.not_lt_zero _))
  | t + 1 => by
    obtain ⟨h1, h2⟩ := normsD_exact hA hS hn t
    exact turn_exact hA hS hn h1 h2
theorem rank_bound {b : Kept} {n : Str} (h : n ∈ b.map (·.1)) : rankN b n < b.length := by
  obtain ⟨p, hp, e⟩ := List.mem_map.mp h
  have e : p.1 = n := e
  unfold rankN
  have := count_lt (p := fun p => decide (normT b p.1 < normT b n)) (q := fun _ => true) (l := b) (fun _ _ _ => rfl) ⟨p, hp, by rw [e]; simp, rfl⟩
  simpa using this
/-- the law's norms, of names that may all be finished with a norm of 9 at most -/
theorem norms_ok {b : Kept} (hA : ∀ n ∈ b.map (·.1), ∃ v, DerN b n v ∧ v ≤ 9) (hS : closedB b) (hn : (b.map (·.1)).Nodup) : NormOk b (normsD b b.length) := by
  have hA' : allDer b := fun n h => let ⟨v, h1, _⟩ := hA n h; ⟨v, h1⟩
  obtain ⟨_, h2⟩ := normsD_exact hA' hS hn b.length
  have hex : ∀ n ∈ b.map (·.1), lookN (normsD b b.length) n = some (normT b n) := fun n h => h2 n h (rank_bound h)
  refine ⟨fun p hp => ?_⟩
  have hpn : p.1 ∈ b.map (·.1) := List.mem_map.mpr ⟨p, hp, rfl⟩
  refine ⟨normT b p.1, hex p.1 hpn, ?_, ?_⟩
  · obtain ⟨r, hr, e⟩ := normT_best hA' hS hn hp
    refine ⟨r, hr, ?_⟩
    rw [e]
    unfold sumOf
    congr 2
    exact List.map_congr_left fun o ho => by rw [hex o (hS p hp r hr o ho)]; rfl
  · obtain ⟨v, h1, h9⟩ := hA p.1 hpn
    have := (normT_spec h1).2 v h1
    omega
end T47
/-! _law_d_norms. -/
namespace T47
open PySem PySem.Spec PyProof.Rows L2 Pk
section
variable {P : Program} {w : World} {K : PySem.W.Frag} {mg : Str → Option Value} {base : Heap}
theorem mu_setQ {σ : L2.St} {G H : Hp} {te : TE} {d : D} {u : TS} {D0 : L2.Ends} {a : Addr} {o : HO} {i : Nat} (hG : G a = none) (hH : H a = some o) (e : Same G H) (h : EvD K te σ (upd G a o) d) (hd : Hides K a o d) (k : ∀ v G1 H1, Gr G H G1 H1 → Dq K G1 v d → H1 a = some o → G1 a = none → u D0 (σ.set i (some v)) H1) : tSeq (tAsg te (gName i)) u D0 σ H := mu_ev hG hH e h hd k
theorem noDic_strs : ∀ r : List Str, noDics (r.map D.str) = true
  | [] => rfl
  | x :: r => by
    show ((D.str x).noDic && noDics (r.map D.str)) = true
    rw [noDic_strs r]; rfl
theorem noDic_rows : ∀ rs : List (List Str), noDics (rs.map rowD) = true
  | [] => rfl
  | r :: rs => by
    show (noDics (r.map D.str) && noDics (rs.map rowD)) = true
    rw [noDic_rows rs, noDic_strs r]; rfl
theorem ev_neRows {σ : L2.St} {G : Hp} {te tb : TE} {rs : List (List Str)} (h : EvD K te σ G (.lst (rs.map rowD))) (h2 : EvD K tb σ G (.lst [])) (hs : ∀ r ∈ rs, ∀ x ∈ r, PyData.strOk x = true) : EvD K (tOp (rNeD K) te tb) σ G (.bl (!rs.isEmpty)) := by
  obtain ⟨k1, k2⟩ := shaped_rows hs
  refine ev_neD h h2 k2 rfl k1 (by decide +kernel) ?_
  cases rs <;> rfl
def strOfD : D → Str
  | .str s => s
  | _ => Str.empty
def strsOf : D → List Str
  | .lst xs => xs.map strOfD
  | _ => []
theorem strsOf_row (r : List Str) : strsOf (rowD r) = r := by
  show (r.map D.str).map strOfD = r
  rw [List.map_map]
  exact List.map_id _
theorem room_stepD {b : Kept} {F : FN} {p : Str × List Rule} {B : Nat} (hp : p ∈ b) (h : F.length + lackN b F ≤ B) : (stepD F p).length + lackN b (stepD F p) ≤ B := by
  unfold stepD
  split
  · exact h
  · exact put_room ⟨p, hp, rfl⟩ h
theorem room_fold {b : Kept} {B : Nat} : ∀ (l : List (Str × List Rule)) {F : FN}, (∀ p ∈ l, p ∈ b) → F.length + lackN b F ≤ B → (l.foldl stepD F).length + lackN b (l.foldl stepD F) ≤ B
  | [], _, _, h => h
  | p :: l, F, hl, h => room_fold l (fun q hq => hl q (by simp [hq])) (room_stepD (hl p (by simp)) h)
theorem room_norms {b : Kept} (hb : b.length ≤ 60) : ∀ t, (normsD b t).length + lackN b (normsD b t) ≤ 60
  | 0 => by
    have : lackN b [] ≤ b.length := List.countP_le_length
    show 0 + lackN b [] ≤ 60
    omega
  | t + 1 => room_fold b (fun _ h => h) (room_norms hb t)
theorem room_take {b : Kept} (hb : b.length ≤ 60) (i j : Nat) : ((b.take j).foldl stepD (normsD b i)).length + lackN b ((b.take j).foldl stepD (normsD b i)) ≤ 60 := room_fold _ (fun _ h => List.mem_of_mem_take h) (room_norms hb i)
def rowOf : D → List Str
  | .tup [_, .lst xs] => xs.map strOfD
  | _ => []
def rowP : D → D
  | .tup [_, r] => r
  | _ => .non
theorem rowOf_rule (r : Rule) : rowOf (lawRule r) = r.2 := by
  show (r.2.map D.str).map strOfD = r.2
  rw [List.map_map]
  exact List.map_id _
theorem blkOk_byR {N : List Str} {s0 osc scope : Scope} {own : List (Str × Nat)} {e : Env} (he : e.scope = osc) (h : blkC N (relabel s0 { scope := osc, locals := 0, globals := 0, cells := [] }) scope own = true) : BlkOk N (relabel s0 e) scope own := by
  have : relabel s0 e = relabel s0 { scope := osc, locals := 0, globals := 0, cells := [] } := by
    subst he; rfl
  rw [this]; exact blkOk_by h
def sp_w_d_norms (K : PySem.W.Frag) : Sp := spD K fun ds d => ∃ b, ds = [.dic (lawD b)] ∧ Sound b ∧ (b.map (·.1)).Nodup ∧ d = .dic (fD (normsD b b.length))
theorem ev_min {σ : L2.St} {G : Hp} {te : TE} {ns : List Nat} (h : EvD K te σ G (.lst (ns.map fun n => D.int (n : Nat)))) (hne : ns ≠ []) : EvD K (tCB (rMin K) (tCons te tNil)) σ G (.int (minL ns : Nat)) := fun H e Q q => h H e _ fun v G1 H1 g1 hv => by
  have hv : Dq K G1 v (.lst ((ns.map fun n => ((n : Nat) : Int)).map D.int)) := by rw [List.map_map]; exact hv
  cases hv with
  | @lst a xs _ hr hs =>
    have := dqs_of_int _ hs
    subst this
    refine ⟨a, _, rfl, seqL (Rd.up g1.gh hr), ?_, fun m hm hle => ?_⟩
    · rw [List.length_map]; exact List.length_pos_iff.mpr hne
    · obtain ⟨m1, m2⟩ := minL_mem hne
      obtain ⟨k, hk, rfl⟩ := List.mem_map.mp hm
      have h1 := hle _ (List.mem_map.mpr ⟨_, m1, rfl⟩)
      have h2 := m2 k hk
      have : k = minL ns := by omega
      rw [this]
      exact q _ G1 H1 g1 (.int _)

theorem sc_w_d_norms : FnScope ["_law_rules", "_law_found", "_law_turn", "_law_name", "_law_some", "_law_letter", "_law_row", "_law_one"] ["_law_rules"] (defScope T47.s_w_d_norms) := ⟨rfl, rfl, rfl, by decide +kernel, rfl, by decide +kernel, by decide +kernel⟩
theorem has_w_d_norms (T : Tx w K mg) : Has P w K mg base CX0 "_law_d_norms" (1) ["_law_rules"] (sp_w_d_norms K) := by
  obtain ⟨fd, F⟩ := T.def_ 43
  have gm := T.glo (x := "_law_d_norms") 55
  have z_all := T.free (x := "all") 81
  have z_len := T.free (x := "len") 87
  have z_min := T.free (x := "min") 89
  have z_range := T.free (x := "range") 90
  have z_sum := T.free (x := "sum") 94
  have nd := sc_w_d_norms.nd
  refine has_of F gm sc_w_d_norms (fun _ _ _ _ _ _ us hl => match us, hl with | [_], _ => rfl) (fun vs H Q E h => ?_) (fun cdv A outer s H vs Q E hr h => ?_)
  · exact spD_len h (fun ds d ⟨_, e, _⟩ => by rw [e]; rfl)
  · refine ⟨_, (pss_cons (ps_set (i := 1) nd rfl (Or.inr rfl) pe_dnewK)
        (pss_cons (ps_for PassesOwn.never rfl (pi_range1 rfl z_range (pa_cons (pe_callB call_lenDF rfl z_len (by decide +kernel) (pa_cons (pv 0) pa_nil)) pa_nil)) (pg_name (i := 2) nd rfl (Or.inl rfl))
        (pss_one (ps_for PassesOwn.never rfl (pi_keys (pv 0)) (pg_name (i := 3) nd rfl (Or.inl rfl))
        (pss_cons (ps_setLc (i := 4) (own := [("_law_letter", 5), ("_law_row", 6)]) (g := gTup K 2 (gCons (gName 5) (gCons (gName 6) gNil))) rfl nd rfl rfl (sw_true rfl rfl rfl (by decide +kernel)) (pi_seq (pe_dget (hu_of hr) (pv 0) (pv 3) (fun _ _ => rfl))) (blkOk_by (own := [("_law_letter", 5), ("_law_row", 6)]) (N := ["_law_rules", "_law_found", "_law_turn", "_law_name", "_law_some", "_law_letter", "_law_row", "_law_one"]) (sc := (defScope T47.s_w_d_norms)) (by decide +kernel)) (fun _ _ _ _ _ => (pg_tup rfl (pgs_cons (pg_name (i := 5) nd rfl (Or.inl rfl)) (pgs_cons (pg_name (i := 6) nd rfl (Or.inl rfl)) pgs_nil)))) (fun _ _ _ _ _ => (pts_one (pt_val (pe_callB (cr_allK (K := K) rfl rfl) rfl z_all (by decide +kernel) (pa_cons (pe_lc (own := [("_law_one", 7)]) (g := gName 7) (tt := tYes) rfl nd (pi_seqK (K := K) rfl (pv 6)) (blkOk_byR (own := [("_law_one", 7)]) (N := ["_law_rules", "_law_found", "_law_turn", "_law_name", "_law_some", "_law_letter", "_law_row", "_law_one"]) (osc := (defScope T47.s_w_d_norms)) rfl (by decide +kernel)) (fun _ _ _ _ _ => (pg_name (i := 7) nd rfl (by first | exact Or.inl rfl | exact Or.inr rfl))) (fun _ _ _ _ _ => pts_nil) (fun _ _ _ _ _ => (pe_cmp (pc_din (hu_of hr) (pv 7) (pv 1)) rfl))) pa_nil))))) (fun _ _ _ _ _ => (pv 6)))
        (pss_one (ps_if (pt_cmpR (op_neD hr.units) (pv 4) (pe_lst pa_nil) rfl) (pss_one (ps_dput (hu_of hr) (pv 1) (pv 3) (pe_callB (cr_min rfl) rfl z_min (by decide +kernel) (pa_cons (pe_lc (own := [("_law_row", 6)]) (g := gName 6) (tt := tYes) rfl nd (pi_seq (pv 4)) (blkOk_by (own := [("_law_row", 6)]) (N := ["_law_rules", "_law_found", "_law_turn", "_law_name", "_law_some", "_law_letter", "_law_row", "_law_one"]) (sc := (defScope T47.s_w_d_norms)) (by decide +kernel)) (fun _ _ _ _ _ => (pg_name (i := 6) nd rfl (Or.inl rfl))) (fun _ _ _ _ _ => pts_nil) (fun _ _ _ _ _ => (pe_op op_add pe_int (pe_callB (cr_sumK (K := K) rfl rfl) rfl z_sum (by decide +kernel) (pa_cons (pe_lc (own := [("_law_one", 7)]) (g := gName 7) (tt := tYes) rfl nd (pi_seqK (K := K) rfl (pv 6)) (blkOk_byR (own := [("_law_one", 7)]) (N := ["_law_rules", "_law_found", "_law_turn", "_law_name", "_law_some", "_law_letter", "_law_row", "_law_one"]) (osc := (defScope T47.s_w_d_norms)) rfl (by decide +kernel)) (fun _ _ _ _ _ => (pg_name (i := 7) nd rfl (by first | exact Or.inl rfl | exact Or.inr rfl))) (fun _ _ _ _ _ => pts_nil) (fun _ _ _ _ _ => (pe_dget (hu_of hr) (pv 1) (pv 7) (fun _ _ => rfl)))) pa_nil))))) pa_nil)) rfl)) pss_nil))))))
        (pss_one (ps_ret (pe_frz (pv 1)))))), ?_⟩
    obtain ⟨G, ds, d, e, hds, ⟨b, rfl, hS, hnd, rfl⟩, q⟩ := h
    cases hds with
    | cons hR hn =>
    cases hn
    rename_i vR
    refine mu_new e fun a ha => ?_
    have gb : Gr G H G (upd H a (.dK [])) := Gr.ov e ha
    have ga : G a = none := same_none e ha
    have hbl : b.length ≤ 60 := hS.sz.1
    refine Exists.intro vR (And.intro rfl ?_)
    cases hR with
    | @dic ak ok wk _ hkr hkk hks =>
    have hRd : Rd (upd H a (.dK [])) ak (.dK wk) := .inr ⟨_, gb.gh _ _ hkr⟩
    refine ⟨ak, wk, rfl, hRd, ?_⟩
    have hwl : wk.length = b.length := by rw [(DicAt.mk hkk hks).len]; exact List.length_map _
    have hR : Dq K G (.ref ak) (.dic (lawD b)) := .dic hkr hkk hks
    rw [hwl]
    refine ⟨_, rfl, by omega, by omega, ?_⟩
    have htn : ((b.length : Nat) : Int).toNat = b.length := by omega
    rw [htn]
    refine for_range (lo := 0) (n := b.length) (fun i σ' H' => ∃ b2 b3 b4 b5 b6 G', σ' = [some (.ref ak), some (.ref a), b2, b3, b4, b5, b6, none] ∧ Gr G H G' H' ∧ MuD K G' H' a (fD (normsD b i)))
      ⟨none, none, none, none, none, G, rfl, gb, ⟨[], upd_same, ga, rfl, .nil⟩⟩ ?_ ?_
    · rintro i σ' H' hi ⟨b2, b3, b4, b5, b6, G1, rfl, g1, m1⟩
      refine f_keys (ev_var (i := 0) rfl (hR.up g1.g)) g1.gh fun G2 H2 g2 => ?_
      refine ⟨fun j σ2 H' => ∃ b3 b4 b5 b6 G', σ2 = [some (.ref ak), some (.ref a), some (.int ((0 : Int) + i)), b3, b4, b5, b6, none] ∧ Gr G H G' H' ∧ Same G2 G' ∧ MuD K G' H' a (fD ((b.take j).foldl stepD (normsD b i))),
        ⟨b3, b4, b5, b6, G2, rfl, g1.trans g2, Same.refl _, m1.gr g2⟩, fun j σ2 H' ⟨_, _, _, _, G', _, g', s', _⟩ => s'.trans g'.gh, ?_, ?_⟩
      · rintro j n dj σ2 H' hdj ⟨b3, b4, b5, b6, G3, rfl, g3, s3, m3⟩
        unfold lawD at hdj
        rw [List.getElem?_map] at hdj
        obtain ⟨p, hp, hpe⟩ := Option.map_eq_some_iff.mp hdj
        cases hpe
        have hm := List.mem_of_getElem? hp
        have eN := fold_next (f := stepD) (normsD b i) hp
        have hn : p.1 ∈ b.map (·.1) := List.mem_map.mpr ⟨_, hm, rfl⟩
        have hrs : rulesOf b p.1 = p.2 := by
          have h1 := (rulesOf_mem hn).1
          rw [lookK_mem hnd hm] at h1
          exact (Option.some.inj h1).symm
        obtain ⟨ws, k1, k2, k3⟩ := m3.ex
        generalize hF : (b.take j).foldl stepD (normsD b i) = F at m3 k3 eN ⊢
        have rup : Same G3 (upd G3 a (.dK ws)) := same_new k2
        have hpl : p.2.length ≤ 60 := hS.lt _ hm
        refine mu_setQ (i := 4) (d := .lst (((p.2.filter fun r => allIn F r.2).map (·.2)).map rowD)) k2 k1 g3.gh ((ev_lcS (K := K) (σ := [some (.ref ak), some (.ref a), some (.int ((0 : Int) + i)), some (.str p.1), b4, b5, b6, none]) (vs := [5, 6]) (g := gTup K 2 (gCons (gName 5) (gCons (gName 6) gNil))) (src_seq (ev_lawName (ev_var (i := 0) rfl ((hR.up g3.g).up rup)) (ev_var (i := 3) rfl (.str _)) hn) (.lst _)) (by rw [List.length_map, hrs]; omega) (fun d => allIn F (rowOf d)) rowP (fun di σ2 G2 => ∃ v w r, di = lawRule r ∧ r ∈ p.2 ∧ Dq K G2 v (.str r.1) ∧ Dq K G2 w (rowD r.2) ∧ σ2 = ((wipe [some (.ref ak), some (.ref a), some (.int ((0 : Int) + i)), some (.str p.1), b4, b5, b6, none] [5, 6]).set 5 (some v)).set 6 (some w)) (fun di hdi => ?_) (fun di σ2 G1 _ ⟨v, w, r, _, _, _, _, e⟩ => by rw [e]; rfl) (fun di σ2 G4 _ e4 ⟨v, w, r, e1, hr, e2, e3, e5⟩ => ?_) (fun di σ2 G1 _ _ ⟨v, w, r, e1, hr, e2, e4, e3⟩ _ => by rw [e1, e3]; exact ev_var (i := 6) rfl e4)).is ?_) (hides_dic ?_) fun v4 G4 H4 g4 hv4 k1' k2' => ?_
        · obtain ⟨r, hr, rfl⟩ := List.mem_map.mp hdi
          rw [hrs] at hr
          exact fun x G1 H1 e1 hx Q q => tg_two x G1 H1 e1 hx Q fun σ2 ⟨v, w, k1, k2, k3⟩ => q σ2 ⟨v, w, r, rfl, hr, k1, k2, k3⟩
        · have h4 := hS.few _ hm r hr
          rw [e1, e5, rowOf_rule]
          refine (eb_B (ev_all1 (ev_var (i := 6) rfl e3) (.lst _) (by rw [List.length_map]; omega) (hasOf F) (fun _ => rfl) fun di u G5 hdm e6 hu => ?_)).is ?_
          · obtain ⟨o, ho, rfl⟩ := List.mem_map.mp hdm
            exact (ev_dinM (fun H _ Q q => ev_here rfl H Q q) (e6 _ _ (e4 _ _ upd_same)) (k3.up ((rup.trans e4).trans e6)) (ev_var rfl hu)).is (by rw [lookD_fD]; simp [hasOf])
          · rw [List.all_map]
            rfl
        · rw [hrs]
          congr 1
          rw [List.filter_map, List.map_map]
          have : ((fun d => allIn F (rowOf d)) ∘ lawRule) = fun r : Rule => allIn F r.2 := funext fun r => by
            show allIn F (rowOf (lawRule r)) = _
            rw [rowOf_rule]
          rw [this, List.map_map]
          rfl
        · exact noDic_rows _
        have g34 := g3.trans g4
        have rup4 : Same G4 (upd G4 a (.dK ws)) := same_new k2'
        have okS : ∀ r ∈ (p.2.filter fun r => allIn F r.2).map (·.2), ∀ x ∈ r, PyData.strOk x = true := fun r hr x hx => by
          obtain ⟨r0, h0, rfl⟩ := List.mem_map.mp hr
          exact strOk_name (hS.nm x (hS.cl _ hm r0 (List.mem_filter.mp h0).1 x hx))
        refine mu_eb (b := !((p.2.filter fun r => allIn F r.2).map (·.2)).isEmpty) k2' k1' g34.gh (eb_test (ev_neRows (ev_var (i := 4) rfl (hv4.up rup4)) (ev_lst ea_nil (by decide)) okS)) fun G5 H5 g5 k1a k2a => ?_
        have g35 := g34.trans g5
        have k3a := (k3.up g4.g).up g5.g
        have sF : ∀ r ∈ p.2, r.2.length ≤ 4 := fun r hr => hS.few _ hm r hr
        cases hz : ((p.2.filter fun r => allIn F r.2).map (·.2)).isEmpty with
        | true =>
          have es : stepD F p = F := by
            unfold stepD
            rw [List.isEmpty_map] at hz
            rw [if_pos hz]
          rw [es] at eN
          refine iteF ⟨_, _, _, _, G5, rfl, g35, s3.trans (g4.g.trans g5.g), ?_⟩
          rw [eN]
          exact ⟨ws, k1a, k2a, k3a⟩
        | false =>
          have es : stepD F p = putN F p.1 (minL ((p.2.filter fun r => allIn F r.2).map fun r => 1 + sumOf F r.2)) := by
            unfold stepD
            rw [List.isEmpty_map] at hz
            rw [if_neg (by rw [hz]; simp)]
          rw [es] at eN
          refine iteT ?_
          have rup5 : Same G5 (upd G5 a (.dK ws)) := same_new k2a
          refine mu_ev (d := .int ((minL ((p.2.filter fun r => allIn F r.2).map fun r => 1 + sumOf F r.2) : Nat) : Int)) k2a k1a g35.gh ((ev_min ?_ ?_).is rfl) (hides_scal rfl) fun v6 G6 H6 g6 hv6 k1b k2b => ?_
          · refine (ev_lc1 (ev_var (i := 4) rfl ((hv4.up g5.g).up rup5)) (.lst _) (by rw [List.length_map, List.length_map]; exact Nat.lt_of_le_of_lt (List.length_filter_le _ _) (by omega)) (fun d => .int ((1 + sumOf F (strsOf d) : Nat) : Int)) (fun _ => rfl) fun di u G7 hdm e7 hu => ?_).is ?_
            · obtain ⟨row, hrow, rfl⟩ := List.mem_map.mp hdm
              obtain ⟨r, hr, rfl⟩ := List.mem_map.mp hrow
              have hall := (List.mem_filter.mp hr).2
              have h4 := sF r (List.mem_filter.mp hr).1
              rw [strsOf_row]
              refine (ev_I0 ev_int (ev_sum (bs := r.2.map fun o => (((lookN F o).getD 0 : Nat) : Int)) ((ev_lc1 (ev_var (i := 6) rfl hu) (.lst _) (by rw [List.length_map]; omega) (nOf F) (fun _ => rfl) fun di2 u2 G8 hdm2 e8 hu2 => ?_).is ?_)) (.int _)).is ?_
              · obtain ⟨o, ho, rfl⟩ := List.mem_map.mp hdm2
                have hso := List.all_eq_true.mp hall o ho
                obtain ⟨z, hz⟩ := Option.isSome_iff_exists.mp hso
                refine (ev_dgetM (fun H _ Q q => ev_here rfl H Q q) (e8 _ _ (e7 _ _ upd_same)) (k3a.up ((rup5.trans e7).trans e8)) (ev_var rfl hu2) (d := .int (z : Nat)) (by rw [lookD_fD, hz]; rfl)).is ?_
                show D.int _ = D.int _
                rw [hz]
                rfl
              · rw [List.map_map, List.map_map]
                rfl
              · rw [sum_ints]
                rfl
            · rw [List.map_map, List.map_map, List.map_map]
              congr 1
              refine List.map_congr_left fun r _ => ?_
              show D.int ((1 + sumOf F (strsOf (rowD r.2)) : Nat) : Int) = D.int ((1 + sumOf F r.2 : Nat) : Int)
              rw [strsOf_row]
          · intro z
            rw [List.isEmpty_map] at hz
            rw [List.map_eq_nil_iff.mp z] at hz
            cases hz
          cases hv6
          refine Exists.intro (V.ref a) (And.intro rfl (Exists.intro (V.str p.1) (And.intro rfl ⟨a, _, rfl, DPut.k (k := Sum.inr p.1) k1b ?_, ?_⟩)))
          · rw [k3a.len]
            have hr := room_take hbl i j
            rw [hF] at hr
            unfold fD
            rw [List.length_map]
            exact Nat.lt_of_le_of_lt (by omega : F.length ≤ 60) (by decide)
          · refine ⟨_, _, _, _, G6, rfl, gr_upd (g35.trans g6) ha k2b, s3.trans (g4.g.trans (g5.g.trans g6.g)), ?_⟩
            rw [eN, ← putD_fD]
            exact ⟨_, upd_same, k2b, (k3a.up g6.g).put (.int _)⟩
      · rintro σ2 H' ⟨b3, b4, b5, b6, G3, rfl, g3, s3, m3⟩
        have hl : (lawD b).length = b.length := List.length_map _
        rw [hl, List.take_length] at m3
        exact ⟨_, b3, b4, b5, b6, G3, rfl, g3, m3⟩
    · rintro σ' H' ⟨b2, b3, b4, b5, b6, G1, rfl, g1, m1⟩
      refine Exists.intro (V.ref a) (And.intro rfl ?_)
      obtain ⟨ws, k1, k2, k3⟩ := m1.ex
      refine ⟨a, _, rfl, k1, True.intro, fun od => ?_⟩
      obtain ⟨G8, g8, hv8, _⟩ := dq_frz g1 ha k2 k3 od
      exact q _ G8 _ g8 hv8

end
end T47
/-! _law_start. -/
namespace T47
open PySem PySem.Spec PyProof.Rows L2 Pk
section
variable {P : Program} {w : World} {K : PySem.W.Frag} {mg : Str → Option Value} {base : Heap}
/-- told: a new stream; what the heap held is kept -/
def sp_w_start (K : PySem.W.Frag) : Sp := fun vs H Q _ => ∃ (a : Addr) (ns : List Int), vs = [.ref a] ∧ SqL K H a (ns.map V.int) ∧ ns.length ≤ 63 ∧ ∀ S H', Strm S 0 H' → H S.s = none → H S.c = none → Same H H' → Q (.ref S.s) H'

theorem sc_w_start : FnScope ["_law_script"] ["_law_script"] (defScope T47.s_w_start) := ⟨rfl, rfl, rfl, by decide +kernel, rfl, by decide +kernel, by decide +kernel⟩
theorem has_w_start (T : Tx w K mg) : Has P w K mg base CX0 "_law_start" (1) ["_law_script"] (sp_w_start K) := by
  obtain ⟨fd, F⟩ := T.def_ 58
  have gm := T.glo (x := "_law_start") 70
  have z_list := T.free (x := "list") 88
  have nd := sc_w_start.nd
  refine has_of F gm sc_w_start (fun _ _ _ _ _ _ us hl => match us, hl with | [_], _ => rfl) (fun vs H Q E h => ?_) (fun cdv A outer s H vs Q E hr h => ?_)
  · obtain ⟨a, ns, e, _⟩ := h; rw [e]; rfl
  · refine ⟨_, (pss_one (ps_ret (pe_lst (pa_cons (pe_callTy call_list_of rfl z_list (by decide +kernel) (pa_cons (pv 0) pa_nil)) (pa_cons pe_int (pa_cons pe_int (pa_cons pe_int pa_nil))))))), ?_⟩
    obtain ⟨a, ns, rfl, hs, hl, q⟩ := h
    refine Exists.intro (V.ref a) (And.intro rfl (Exists.intro a (Exists.intro (ns.map V.int) (And.intro rfl (And.intro (Or.inl hs) (fun C hC => ?_))))))
    refine ⟨by show 4 ≤ sizeLine; decide, fun D hD => ?_⟩
    have hne : D ≠ C := fun z => by rw [z, upd_same] at hD; cases hD
    have hD0 : H D = none := by rw [upd_ne hne] at hD; exact hD
    refine q ⟨D, C⟩ _ ⟨hne, ns, 0, 11, 0, upd_same, by rw [upd_ne (Ne.symm hne), upd_same], by omega, by omega, by omega, by omega, by omega⟩ hD0 hC ((same_new hC).trans (same_new hD))

end
end T47
/-! list(d.items()), d locked or not. -/
namespace Pk
open PySem PySem.Spec PyProof.Rows L2 LiI
/-- what list(d.items()) tells: a new list of new pairs -/
def rItemsR : V → Hp → VK → Prop := fun x H Q => ∃ (d : Addr) (kvs : List (Key × V)), x = .ref d ∧ Rd H d (.dK kvs) ∧
  ∀ (H' : Hp) (p : Addr) (ts : List Addr), (∀ b o, H b = some o → H' b = some o) → H p = none → (∀ t ∈ ts, H t = none) → p ∉ ts → H' p = some (.lst (ts.map V.ref)) → Paired (fun (t : Addr) (q : Key × V) => H' t = some (.tup [kV q.1, q.2])) ts kvs → Q (.ref p) H'
def tItemsR (te : TE) : TE := fun σ H Q => te σ H fun x H1 => rItemsR x H1 Q
section
variable {X : Cx} {e : Expr} {te : TE} {p apos cpos pos : Pos}
theorem pe_itemsR (hc : X.calm = true) (he : PE X e te) (hg : Gl X "list") (hm : X.mg "list" = none) (hv : bootBuiltins "list" = some (.type "list")) (hb : attributeBase e "items" X.env (eval e X.env) = eval e X.env := by rfl) (hln : (apos.endLine == cpos.line) = true := by rfl)
    (hs : starEach [.Call (.Attribute e "items" apos) [] [] cpos] X.env = (false, eval (.Call (.Attribute e "items" apos) [] [] cpos) X.env) :: starEach [] X.env := by rfl) :
    PE X (.Call (.Name "list" p) [.Call (.Attribute e "items" apos) [] [] cpos] [] pos) (tItemsR te) := by
  constructor
  intro pins s σ H Q I hq
  apply wpAny_Call_Name_kw
  apply ld_blt I hg hm hv
  refine PyProof.Rows.callWith_type1 ?_ hs rfl
  rw [hs]
  show wpAny _ _ (spliced ((false, eval (.Call (.Attribute e "items" apos) [] [] cpos) X.env) :: backTo pos (starEach [] X.env))) _ _ s
  refine Calls.spliced_cons (wpAny_Call_method (T := "dict") (id := "dict.items") hb rfl hln F.plainAttrs_dict F.slot_dict_items F.type_dict_items (thn (he.run pins s σ H _ I hq) ?_))
  rintro u s1 ⟨x, H1, I1, rx, d, kvs, rfl, hd, q⟩
  obtain rfl : u = Value.ref d := rx
  obtain ⟨hz, hs0, vs, kv, dd⟩ := dk_rd I1.hok hd
  obtain ⟨ep, hat⟩ := dd.dictAt
  have lk : kvs.length = vs.length := Paired.length kv
  have I2 : Inv X pins σ H1 { s1 with heap := s1.heap.push { cls := .type "dict_items", data := .fields #[.ref d] } } := I1.kept (t' := s1.toks) fun b ob q => Heap.get?_push_of_some _ q
  refine ⟨dd.typeIs, dd.mapOf.noDict, ?_⟩
  show wpAny _ _ (callWith cpos (.builtin "dict.items") [.ref d] [] []) _ X.xe s1
  refine method_meetsIn F.slot_dict_items F.entry_dict_items rfl (PySem.evalArgs_none ⟨rfl, dd.typeIs, F.args_dict_items_1 _, _, meets_dict_items (mixKind X.prog X.w) d hs0, ⟨vs, dd⟩, Calls.spliced_nil ?_⟩)
  refine PySem.W.kdx_call (knd := mixKind X.prog X.w) (kvs := vs) (ep := ep) (I1.ok.hd hc) ⟨_, Heap.get?_push_size _ rfl, rfl, rfl⟩ (hat.push _) (by omega) fun h' tk acc c as hk hS hl hG hacc => ?_
  obtain ⟨H', k1, k2, k3, k4, k5, k6, J⟩ := items_laid (tk := tk) I2 hz kv hk hS hl hG hacc
  exact ⟨.ref _, H', J, rfl, q H' _ as k1 k2 k3 k4 k5 k6⟩
end
end Pk
/-! Except clauses with names, several of them; lambdas that are kept; what may be asked. -/
namespace Pk
open PySem PySem.Spec PyProof.Rows L2 LamX
/-! ### except clauses, each with its name -/
abbrev Clause := Value × Nat × (Addr → Value → Option Addr → TS)
/-- behind a clause its name is gone -/
def lessName (i : Nat) (D : Ends) : Ends where
  nx := fun τ F => D.nx (τ.set i none) F
  rt := D.rt
  bk := fun τ F => D.bk (τ.set i none) F
  ct := fun τ F => D.ct (τ.set i none) F
/-- what the clauses want, from the first on -/
def wNms (K : PySem.W.Frag) (Wo : WX) (D : Ends) : List Clause → WX
  | [] => Wo
  | p :: r => fun cls d τ F => ∃ b, PySem.W.exmOne K cls p.1 = some b ∧ (b = true → ∀ a, F a = none → p.2.2 a cls d (lessName p.2.1 D) (τ.set p.2.1 (some (.ref a))) F) ∧ (b = false → wNms K Wo D r cls d τ F)
inductive NmOk (X : Cx) : List ExceptHandler → List Clause → Prop
  | nil : NmOk X [] []
  | cons {x n : Str} {p : Clause} {s0 : Stmt} {ss : List Stmt} {q1 q2 : Pos} {hds : List ExceptHandler} {l : List Clause} (slot : X.N[p.2.1]? = some n) (lcl : X.env.kindOf n = some .local) (nm : Names X x p.1)
      (suite : ∀ (a : Addr) (oe : Obj) (cls : Value) (d : Option Addr) (pn : List (Addr × Obj)), Zc cls d oe → (∃ vs, oe.data = .fields vs) → PSs (X.suite a ((a, oe) :: pn)) (s0 :: ss) (p.2.2 a cls d)) (rest : NmOk X hds l) :
      NmOk X (.ExceptHandler (some (.Name x q1)) (some n) (s0 :: ss) q2 :: hds) (p :: l)
section
variable {X : Cx} {body : List Stmt} {hd0 : ExceptHandler} {hds : List ExceptHandler} {l : List Clause} {pos : Pos} {tb : WX → TS} {Wo : WX}
theorem ps_try_nm (st : X.stack = X.env :: X.outer) (fr : X.env.frame = some X.env.locals) (hN : X.N.Nodup) (tk : Takes X Wo)
    (inside : ∀ (W : WX) (pn : List (Addr × Obj)) (xe : Value → Shared → Prop), Takes (X.tr pn xe) W → PassesOwn (model X.prog X.w) X.A X.env xe → PSs (X.tr pn xe) body (tb W)) (clauses : NmOk X (hd0 :: hds) l) :
    PS X (.Try body (hd0 :: hds) [] [] pos) (fun D τ F => tb (wNms X.K Wo D l) D τ F) := by
  refine ⟨fun pins s τ F D IV want => ?_⟩
  have okX := IV.ok
  have frs2 : X.A.frames = some (X.env :: X.outer) := by rw [okX.frames, st]
  refine wpAny_Try_except ?_
  have entered := (inside (wNms X.K Wo D l) (X.pn ++ pins) (fun e z1 => wpAny (model X.prog X.w) X.A (noteFrame e X.env) (fun _ z2 => wpAny (model X.prog X.w) X.A (setFlight e none)
    (fun _ z3 => wpAny (model X.prog X.w) X.A (handleBy e X.env (hd0 :: hds)) (SP X pins D) X.xe z3) X.xe z2) X.xe z1) (fun u z caught => ?_) PassesOwn.looking).run [] s τ F D (IV.toTry _) want
  · refine wpAny_mono entered (fun f z hz => ?_) fun _ _ he => he
    cases f with
    | next => obtain ⟨_, _, J, q⟩ := hz; exact wpAny_execs_nil ⟨_, _, J.ofTry okX, q⟩
    | brk => obtain ⟨_, _, J, q⟩ := hz; exact ⟨_, _, J.ofTry okX, q⟩
    | cont => obtain ⟨_, _, J, q⟩ := hz; exact ⟨_, _, J.ofTry okX, q⟩
    | ret v => obtain ⟨_, _, _, J, r, q⟩ := hz; exact ⟨_, _, _, J.ofTry okX, r, q⟩
  · obtain ⟨a, B, z0, _, τ1, F1, cls, d, rfl, JT, nb, up, sky, na, os, ag, wish⟩ := caught
    have J0 : Inv X pins τ1 F1 z0 := JT.ofTry okX
    rw [st] at sky
    show wpAny (model X.prog X.w) X.A (noteFrame (.ref a) X.env) _ _ _
    refine Sky.land Zc.steady frs2 fr sky fun g fly upg => ?_
    have Jg : Inv X pins τ1 F1 { z with heap := g } := J0.landed nb fly.1 (up.trans upg) os ag
    obtain ⟨oe, vs0, at_, isz, dat⟩ := fly.there
    have off : a ∉ frs (X.env :: X.outer) := fun hm => by
      obtain ⟨_, ob, e', nf⟩ := fly.2.2.1.mem hm
      rw [at_] at e'
      cases e'
      exact nf _ dat
    have ne : a ≠ X.env.locals := fun z => off (List.mem_filterMap.mpr ⟨X.env, List.mem_cons_self, by rw [fr, z]⟩)
    have nf : a ∉ X.fs := fun hm => by
      obtain ⟨en, hen, q⟩ := List.mem_filterMap.mp hm
      exact off (List.mem_filterMap.mpr ⟨en, List.mem_cons_of_mem _ hen, q⟩)
    have Sg := Jg.suite at_ dat na ne nf
    have looked : PySem.W.Looks (model X.prog X.w) g (typeOf (.ref a)) cls := fun A Q E s1 k q => wpAny_typeOf_ref (k _ _ at_) (by rw [isz.1]; exact q)
    have tryAll : ∀ {hs' : List ExceptHandler} {l' : List Clause}, NmOk X hs' l' → wNms X.K Wo D l' cls d τ1 F1 → wpAny (model X.prog X.w) X.A (handleBy (.ref a) X.env hs') (SP X pins D) X.xe { z with heap := g } := by
      intro hs' l' ok'
      induction ok' with
      | nil =>
        intro wish
        refine wpAny_handleBy_nil ?_
        obtain ⟨_, _, _, _, _, T, _, _, e1, _, e3, e4, _⟩ := id fly
        unfold PySem.passOn
        refine wpAny_bind (wpAny_field e1 e3 e4 ?_)
        rw [if_neg (by simp : ¬ ((Value.ref T == Value.none) = true))]
        have out : wpAny (model X.prog X.w) X.A (setFlight (.ref a) X.env.frame) (fun _ z4 => wpAny (model X.prog X.w) X.A (throw (.ref a) : Sem Flow) (SP X pins D) X.xe z4) X.xe { z with heap := g } := by
          rw [fr]
          refine HandSPX.setFlight_upZ fly fun g4 held up4 => wpAny_throw (tk _ _ ⟨a, B, z0, pins, τ1, F1, cls, d, rfl, J0, nb, (up.trans upg).trans up4, .inr (.inr ?_), na, os, ag, wish⟩)
          rw [st]
          exact held
        first
          | exact wpAny_bind (wpAny_pure (wpAny_bind out))
          | exact wpAny_bind out
      | @cons x n p s0 ss q1 q2 hs2 l2 slot lcl nm suite rest ih =>
        intro wish
        obtain ⟨b, eb, yes, no⟩ := wish
        refine wpAny_handleBy_cons (codeAny_handlers_test ?_) (by intro q; cases q)
        have same := PySem.W.exm_one (M := model X.prog X.w) Jg.kIn looked eb
        have asked : ∀ {Q E : Value → Shared → Prop}, Q p.1 { z with heap := g } → wpAny (model X.prog X.w) (X.A.mark (some (.ref a))) (eval (.Name x q1) X.env) Q E { z with heap := g } := fun {Q E} q => by
          obtain ⟨gl, db, m1 | ⟨m1, m2, m3⟩⟩ := nm
          · exact ld_glob (X := X.suite a ((a, oe) :: (X.pn ++ pins))) Sg gl m1 q db
          · exact ld_blt (X := X.suite a ((a, oe) :: (X.pn ++ pins))) Sg gl m1 m2 q m3 db
        refine asked (same.here ?_)
        cases b with
        | false => exact ih (no rfl)
        | true =>
          refine codeAny_handlers_suite_as (HandSPX.lands_againZ fly fun g4 fly4 up4 => ?_)
          have J4 : Inv X pins τ1 F1 { z with heap := g4 } := J0.landed nb fly4.1 ((up.trans upg).trans up4) os ag
          obtain ⟨oe4, _, at4, isz4, dat4⟩ := fly4.there
          refine store_ok (X := X.suite a ((a, oe4) :: (X.pn ++ pins))) (v := .ref a) (J4.suite at4 dat4 na ne nf) hN slot (.inl lcl) rfl (fun z5 S5 => ?_) (.inr lcl)
          refine wpAny_mono ((suite a oe4 cls d (X.pn ++ pins) isz4 ⟨_, dat4⟩).run [] z5 _ F1 _ S5 (yes rfl a na)) (fun f z6 hz => ?_) fun _ _ z => z.elim
          cases f with
          | next => obtain ⟨_, _, S6, q⟩ := hz; exact gone_ok (S6.unsuite okX) hN slot lcl fun z7 J7 => ⟨_, _, J7, q⟩
          | brk => obtain ⟨_, _, S6, q⟩ := hz; exact gone_ok (S6.unsuite okX) hN slot lcl fun z7 J7 => ⟨_, _, J7, q⟩
          | cont => obtain ⟨_, _, S6, q⟩ := hz; exact gone_ok (S6.unsuite okX) hN slot lcl fun z7 J7 => ⟨_, _, J7, q⟩
          | ret u => obtain ⟨_, _, _, S6, r, q⟩ := hz; exact gone_ok (S6.unsuite okX) hN slot lcl fun z7 J7 => ⟨_, _, _, J7, r, q⟩
    exact tryAll clauses wish
end
end Pk

namespace Pk
open PySem PySem.Spec PyProof.Rows L2 LamX
/-! ### lambdas that are kept -/
/-- at f a function that a lambda made, which captures nothing; its code object is at c -/
def LamAt (f c : Addr) (q : Str) (params : Arguments) (body : Expr) (scope : Scope) : HO := .ext fun h => ∃ pm ctv, h.get? f = some (PySem.W.kla_obj "<lambda>" q params body scope [] pm c ctv)
theorem lamAt_ok {P : Program} {w : World} {H : Hp} {f c : Addr} {q : Str} {params : Arguments} {body : Expr} {scope : Scope} {h : Heap} {pm ctv : Value} (e : h.get? f = some (PySem.W.kla_obj "<lambda>" q params body scope [] pm c ctv)) : ObjOk P w H h f (LamAt f c q params body scope) :=
  ⟨⟨pm, ctv, e⟩, ⟨_, e⟩, fun h1 h2 ⟨pm, ctv, e⟩ k => ⟨pm, ctv, k _ e⟩⟩
theorem lamAt_ne {f c : Addr} {q : Str} {params : Arguments} {body : Expr} {scope : Scope} (ps : Array Value) : LamAt f c q params body scope ≠ .tbl ps := fun z => by unfold LamAt at z; cases z
/-- a table that has one more code object -/
theorem tabs_more {T : List (Addr × Str)} {H : Hp} {P c : Addr} {q : Str} {ps : Array Value} {pos : Pos} (hT : Tabs T H) (hP : H P = some (.tbl ps)) (okT : TriplesOk ps.toList) (old : ∀ (p : Pos) (cv : Value), codeAmong p ps.toList = some cv → ∃ c, cv = .ref c ∧ H c = some (CodeO c q)) (nc : H c = none) (only : ∀ p ∈ T, p.1 = P → p.2 = q) :
    ExtN H (upd (upd H P (.tbl (ps ++ #[rawInt pos.line, rawInt pos.col, .ref c]))) c (CodeO c q)) ∧ Tabs T (upd (upd H P (.tbl (ps ++ #[rawInt pos.line, rawInt pos.col, .ref c]))) c (CodeO c q)) := by
  have hne : P ≠ c := ne_of_none hP nc
  have up : ExtN H (upd (upd H P (.tbl (ps ++ #[rawInt pos.line, rawInt pos.col, .ref c]))) c (CodeO c q)) := fun b o e n => by
    have b2 : b ≠ P := fun z => by rw [z, hP] at e; exact n ps (Option.some.inj e).symm
    rw [upd_ne (ne_of_none e nc), upd_ne b2]
    exact e
  refine ⟨up, fun p hp => ?_⟩
  by_cases hb : p.1 = P
  · rw [only p hp hb, hb]
    have el : (ps ++ #[rawInt pos.line, rawInt pos.col, .ref c]).toList = ps.toList ++ [rawInt pos.line, rawInt pos.col, .ref c] := by simp
    refine ⟨_, by rw [upd_ne hne, upd_same], by rw [el]; exact PySem.TriplesOk_snoc _ _ _ _ okT, fun p2 cv found => ?_⟩
    rw [el] at found
    rcases among_app _ okT found with z | z
    · obtain ⟨c0, e1, e2⟩ := old p2 cv z
      exact ⟨c0, e1, up _ _ e2 codeO_ne⟩
    · exact ⟨c, z, upd_same⟩
  · obtain ⟨ps2, k1, k2, k3⟩ := hT p hp
    refine ⟨ps2, by rw [upd_ne (ne_of_none k1 nc), upd_ne hb]; exact k1, k2, fun p2 cv found => ?_⟩
    obtain ⟨c0, e1, e2⟩ := k3 p2 cv found
    exact ⟨c0, e1, up _ _ e2 codeO_ne⟩
def tLamK (T : List (Addr × Str)) (q : Str) (params : Arguments) (body : Expr) (scope : Scope) : TE := fun _ H Q => Tabs T H ∧ ∀ H1 f c, ExtN H H1 → Tabs T H1 → H f = none → H1 f = some (LamAt f c q params body scope) → H1 c = some (CodeO c q) → Q (.ref f) H1
/-- a lambda that captures nothing -/
theorem pe_lamK {X : Cx} {T : List (Addr × Str)} {c P : Addr} {params : Arguments} {body : Expr} {scope : Scope} {pos : Pos} (TB : TabB X.base X.mg c P) (hcode : X.env.code = .ref c) (hm : (P, X.env.qual ++ "<lambda>") ∈ T) (only : ∀ p ∈ T, p.1 = P → p.2 = X.env.qual ++ "<lambda>")
    (hdef : defaultsOf params X.env = ([], [])) (hcl : cloFrom X.env.cells scope.names [] = []) (hfree : ∀ y ∈ scope.names, y.2 ≠ .free) : PE X (.Lambda params body scope pos) (tLamK T (X.env.qual ++ "<lambda>") params body scope) := by
  refine ⟨fun pins s σ H Q I want => ?_⟩
  obtain ⟨hT, want⟩ := want
  obtain ⟨ps, tabP, okT, old⟩ := hT _ hm
  have clo : closureFor scope X.env = pure [] := by
    have := closure_ok (scope := scope) (env := X.env) (fun y hy e => absurd e (hfree y hy))
    rw [hcl] at this
    exact this
  refine PySem.W.kla_eval hdef ?_
  have atP : s.heap.get? P = some { cls := .none, data := .fields ps } := I.hok P _ tabP
  have blt : s.heap.BuiltinsAt X.mg P := TB.bm.keeps I.bk
  cases among : codeAmong pos ps.toList with
  | some cv =>
    obtain ⟨c', rfl, hco⟩ := old pos cv among
    refine PySem.W.kla_makeFunctionHit (mg := X.mg) (c := c) (P := P) (ps := ps) clo I.ok.glob (I.mod.glob.keeps I.bk) hcode (TB.code.keeps I.bk) atP okT among blt fun ctv g tk kept size => ?_
    have I0 : Inv X pins σ H { s with heap := g, toks := tk } := I.kept fun b o e => kept b o e
    have I1 := I0.laid (a := g.objs.size) (o := LamAt g.objs.size c' (X.env.qual ++ "<lambda>") params body scope) (t' := tk) (fun b o e => Heap.get?_push_of_some (PySem.W.kla_obj "<lambda>" (X.env.qual ++ "<lambda>") params body scope [] ((X.mg "__name__").getD .none) c' ctv) e) (Nat.le_refl _) (lamAt_ok (Heap.get?_push_size _ rfl))
    have nf : H g.objs.size = none := I0.hok.fresh (Nat.le_refl _)
    have e1 : ExtN H (upd H g.objs.size (LamAt g.objs.size c' (X.env.qual ++ "<lambda>") params body scope)) := ExtN.of (same_new nf)
    exact ⟨.ref g.objs.size, _, I1, rfl, want _ _ c' e1 (hT.ext (same_new nf)) nf upd_same (e1 _ _ hco codeO_ne)⟩
  | none =>
    refine PySem.W.kla_makeFunction (mg := X.mg) (c := c) (P := P) (ps := ps) clo I.ok.glob (I.mod.glob.keeps I.bk) hcode (TB.code.keeps I.bk) atP okT among TB.gP blt fun c' ctv g tk kept above below rec_ newTab => ?_
    obtain ⟨c2, oc, vs, t, e2, e3, e4, e5⟩ := rec_
    cases e2
    have nc : H c' = none := I.hok.fresh above
    obtain ⟨u1, u2⟩ := tabs_more (pos := pos) hT tabP okT old nc only
    have I0 := inv_table (t' := tk) (more := #[rawInt pos.line, rawInt pos.col, .ref c']) (h' := g) I tabP kept newTab above ⟨oc, vs, t, e3, e4, e5⟩
    have nf0 := I0.hok.fresh (a := g.objs.size) (Nat.le_refl _)
    have I1 := I0.laid (a := g.objs.size) (o := LamAt g.objs.size c' (X.env.qual ++ "<lambda>") params body scope) (t' := tk) (fun b o e => Heap.get?_push_of_some (PySem.W.kla_obj "<lambda>" (X.env.qual ++ "<lambda>") params body scope [] ((X.mg "__name__").getD .none) c' ctv) e) (Nat.le_refl _) (lamAt_ok (Heap.get?_push_size _ rfl))
    have nf : H g.objs.size = none := I.hok.fresh (Nat.le_trans above (Nat.le_of_lt below))
    have e1 := same_new (o := LamAt g.objs.size c' (X.env.qual ++ "<lambda>") params body scope) nf0
    refine ⟨.ref g.objs.size, _, I1, rfl, want _ _ c' (u1.trans (ExtN.of e1)) (u2.ext e1) nf upd_same (e1 _ _ upd_same)⟩
/-! ### what may be asked -/
/-- functions that were made stay -/
def ExtF (H H' : Hp) : Prop := ∀ b φ, H b = some (.ext φ) → H' b = some (.ext φ)
theorem ExtF.refl (H : Hp) : ExtF H H := fun _ _ h => h
theorem ExtF.trans {H H1 H2 : Hp} (a : ExtF H H1) (b : ExtF H1 H2) : ExtF H H2 := fun c φ h => b c φ (a c φ h)
theorem ExtF.of {H H' : Hp} (e : ExtN H H') : ExtF H H' := fun b φ h => e b _ h (fun _ z => by cases z)
/-- at f something that may be called with n things, and keeps the promise sp -/
structure Cal (P : Program) (w : World) (K : PySem.W.Frag) (mg : Str → Option Value) (base : Heap) (k : Nat) (H : Hp) (f : Addr) (n : Nat) (sp : Sp) : Prop where
  run : ∀ (A : Around) (outer : List Env) (s : Shared) (H' : Hp) (us : List Value) (vs : List V) (Q : VK) (E : XK), ExtF H H' → Room k A → Env0 P w K mg base A outer s H' → Vals vs us → vs.length = n → sp vs H' Q E →
    codeAny (model P w) A (.call (.ref f) ⟨us, []⟩) (CR (L2.CX P w) outer P w H' s Q E) s
  fn : PySem.W.keepIn K (.ref f) = true ∨ ∃ c q params body scope, H f = some (LamAt f c q params body scope)
section
variable {P : Program} {w : World} {K : PySem.W.Frag} {mg : Str → Option Value} {base : Heap} {H H1 : Hp} {f : Addr} {n k : Nat} {sp : Sp}
theorem Cal.ext (C : Cal P w K mg base k H f n sp) (e : ExtF H H1) : Cal P w K mg base k H1 f n sp :=
  ⟨fun A outer s H' us vs Q E e2 => C.run A outer s H' us vs Q E (e.trans e2), C.fn.imp id fun ⟨c, q, params, body, scope, h⟩ => ⟨c, q, params, body, scope, e _ _ h⟩⟩
/-- a def of the text -/
theorem cal_has {x : Str} {ps : List Str} (h : Has P w K mg base (L2.CX P w) x k ps sp) (hm : mg x = some (.ref f)) (hl : ps.length = n) : Cal P w K mg base k H f n sp := by
  obtain ⟨g, fd, F, hg, hk, hb⟩ := h.ex
  rw [hm] at hg
  cases hg
  refine ⟨fun A outer s H' us vs Q E _ hr e0 r hn hs => ?_, .inl hk⟩
  have kin : K.In s.heap := e0.mod.kin.keeps fun b o e => (e0.bs b o e).1
  have := hb s us kin (by rw [List.append_nil, ← r.length, hn, hl])
  rw [List.append_nil] at this
  exact F.run A outer s H' ⟨us, []⟩ us vs Q E hr e0 this r hs
/-- a lambda -/
theorem cal_lam {c : Addr} {q : Str} {params : Arguments} {body : Expr} {scope : Scope} {ps : List Str} (hf : H f = some (LamAt f c q params body scope)) (hc : H c = some (CodeO c q)) (S : FnScope ps ps scope) (hl : ps.length = n)
    (hbind : ∀ (pm cv ctv : Value) (us : List Value), us.length = ps.length → bindArgs (PySem.W.kla_fn "<lambda>" q params body scope [] pm cv ctv) ⟨us, []⟩ = pure (ps.zip us))
    (hbody : ∀ (cdv : Value) (A : Around) (outer : List Env) (s : Shared) (H' : Hp) (vs : List V) (Q : VK) (E : XK), Room k (A.deeper (envOfC q scope s.heap.objs.size f cdv)) → vs.length = n → sp vs H' Q E →
      ∃ t, PE (cxOf (L2.CX P w) P w K mg base ps q scope f cdv A outer s H' E) body t ∧ t (start ps vs) H' Q) : Cal P w K mg base (k + 1) H f n sp := by
  refine ⟨fun A outer s H' us vs Q E ext hr e0 r hn hs => ?_, .inr ⟨_, _, _, _, _, hf⟩⟩
  obtain ⟨⟨pm, ctv, atF⟩, _, _⟩ := e0.hok f _ (ext f _ hf)
  obtain ⟨⟨oc, cs, t, k1, k2, k3⟩, _, _⟩ := e0.hok c _ (ext c _ hc)
  have lus : us.length = ps.length := by rw [← r.length, hn, hl]
  have lim : s.heap.NoLimit := e0.mod.nolimit.keeps fun b o e => (e0.bs b o e).1
  have kinds : ∀ y ∈ ps.zip us, scope.names.lookup y.1 = some .local ∨ (scope.names.lookup y.1 = some .cell ∧ ((cellsFrom (s.heap.objs.size + 1) scope.names []).lookup y.1).isSome = true) := fun ⟨x, v⟩ hy => by
    rcases S.par x (List.of_mem_zip hy).1 with z | z
    · exact .inl z
    · exact .inr ⟨z, PySem.W.cellsFrom_some _ _ _ (.inl z)⟩
  refine PySem.W.kla_callFunE hr.depth atF rfl S.co S.gen rfl ⟨c, oc, cs, t, rfl, k1, k2, k3⟩ ?_
  rw [hbind _ _ _ _ lus]
  refine wpAny_pure (wpAny_newFunctionEnv_cells S.kind kinds fun env he s1 x => ?_)
  subst he
  obtain ⟨te, pe, q0⟩ := hbody (.ref c) A outer s H' vs Q E (hr.deeper _) hn hs
  have I := inv_start (CX := L2.CX P w) (E := E) S hr.hd e0 (hn.trans hl.symm) r x
  refine ⟨lim.keeps x.toInCall.keep, PySem.W.kla_codeExpr (wpAny_mono (pe.run [] s1 _ H' Q I q0) (fun v s' hq => ?_) fun e s' hq => hq)⟩
  obtain ⟨w', H2, J, rv, q⟩ := hq
  exact ⟨w', H2, J.os, J.bare, J.base, J.hok, rv, q⟩
end
section
variable {X : Cx} {k i n : Nat} {sp : Sp} {x : Str} {p pos : Pos} {e : Expr} {es : List Expr} {t : TA} {E : XK}
def tAsk (P : Program) (w : World) (K : PySem.W.Frag) (mg : Str → Option Value) (base : Heap) (k i n : Nat) (sp : Sp) (E : XK) (t : TA) : TE := fun σ H Q => ∃ f, σ[i]? = some (some (.ref f)) ∧ Cal P w K mg base k H f n sp ∧ t σ H fun vs H1 => ExtN H H1 ∧ vs.length = n ∧ sp vs H1 Q E
/-- x(e, ..), x a name that holds what may be asked -/
theorem pe_ask (hr : Room k X.A) (hN : X.N[i]? = some x) (hv : Vis X.env.scope x) (hx : Passes (L2.CX X.prog X.w) X E) (ha : PA X (e :: es) t) (hdb : (x == ("__debug__" : Str)) = false := by decide) (hcd : (x == ("__classdict__" : Str)) = false := by decide)
    (he : starEach (e :: es) X.env = (false, eval e X.env) :: starEach es X.env := by rfl) (hpl : (backTo pos (starEach es X.env)).any (·.1) = false := by rfl) : PE X (.Call (.Name x p) (e :: es) [] pos) (tAsk X.prog X.w X.K X.mg X.base k i n sp E t) := by
  refine ⟨fun pins s σ H Q I want => ?_⟩
  obtain ⟨f, hf, C, want⟩ := want
  refine wpAny_Call_Name_kw (thn ((pe_var (pos := p) hN hv hdb hcd).run pins s σ H (fun v F => v = .ref f ∧ F = H) I ⟨.ref f, hf, rfl, rfl⟩) fun u s1 ⟨v, F, I1, r1, e1, e2⟩ => ?_)
  subst e1
  subst e2
  cases r1
  have fin : ∀ (us : List Value) (s2 : Shared), AP X pins σ (fun vs H1 => ExtN F H1 ∧ vs.length = n ∧ sp vs H1 Q E) us s2 → wpAny (model X.prog X.w) X.A (call (.ref f) us) (EP X pins σ Q) X.xe s2 := fun us s2 ⟨vs, H2, I2, r, ext, hn, hs⟩ => by
    refine wpAny_call (codeAny_mono (C.run X.A X.stack s2 H2 us vs Q E (ExtF.of ext) hr I2.env0 r hn hs) fun r s' hq => ?_)
    cases r with
    | error e => exact hx pins σ H2 s2 e s' I2 hq
    | ok fl =>
      cases fl with
      | ret u => exact I2.after hq
      | next => exact False.elim hq
      | brk => exact False.elim hq
      | cont => exact False.elim hq
  rcases C.fn with hk | ⟨c, q, params, body, scope, hl⟩
  · exact PySem.W.callWith_K (h₀ := X.base) I1.ok.mod.kin hk (thn (ha.run pos pins s1 σ F _ I1 want) fun us s2 ap => ⟨let ⟨_, _, I2, _⟩ := ap; I2.kIn, fin us s2 ap⟩) he hpl
  · have fnAt : ∀ {H2 : Hp} {s2 : Shared}, Inv X pins σ H2 s2 → ExtN F H2 → PySem.W.FnAt f s2.heap := fun {H2 s2} I2 ext => by
      obtain ⟨⟨pm, ctv, z⟩, _, _⟩ := I2.hok f _ (ext f _ hl lamAt_ne)
      exact ⟨_, _, _, _, z⟩
    exact PySem.W.callWith_F (fnAt I1 (ExtN.refl _)) (thn (ha.run pos pins s1 σ F _ I1 want) fun us s2 ap => ⟨let ⟨_, _, I2, _, ext, _⟩ := ap; fnAt I2 ext, fin us s2 ap⟩) he hpl
end
end Pk
/-! More forms for use within a block; small rules. -/
namespace Pk
open PySem PySem.Spec PyProof.Rows L2
section
variable {X : Cx} {K : PySem.W.Frag}
theorem call_list_ofK (hK : X.K = K) : CallR X (.type "list") (fun xs H Q => ∃ p ys, xs = [.ref p] ∧ (SqL K H p ys ∨ SqT K H p ys) ∧ ∀ l, H l = none → Q (.ref l) (upd H l (.lst ys))) := hK ▸ call_list_of
end
end Pk
/-! _law_same: True of two things of the same data. -/
namespace T47
open PySem PySem.Spec PyProof.Rows L2 Pk
/-- lists, tuples and the empty dict, k deep at most -/
inductive Dp : Nat → D → Prop
  | flat {k : Nat} {d : D} {w : V} : d.scal = some w → Dp k d
  | nil {k : Nat} : Dp (k + 2) (.dic [])
  | seq {k : Nat} {x : D} {xs : List D} : Lk x xs → xs.length ≤ 1000 → (∀ d ∈ xs, Dp k d) → Dp (k + 1) x
theorem Dp.mono {j k : Nat} {d : D} (h : Dp j d) (l : j ≤ k) : Dp k d := by
  induction h generalizing k with
  | flat e => exact .flat e
  | nil => obtain ⟨m, rfl⟩ : ∃ m, k = m + 2 := ⟨k - 2, by omega⟩; exact .nil
  | seq a b _ ih => obtain ⟨m, rfl⟩ : ∃ m, k = m + 1 := ⟨k - 1, by omega⟩; exact .seq a b fun d hd => ih d hd (by omega)
section
variable {P : Program} {w : World} {K : PySem.W.Frag} {mg : Str → Option Value} {base : Heap}
def sp_same (K : PySem.W.Frag) (k : Nat) : Sp := spD K fun ds d => ∃ x, ds = [x, x] ∧ Dp k x ∧ d = .bl true
/-- [e for x, y in zip(s, t)], both of the same data, where each turn tells True -/
theorem ev_lcZip {σ : L2.St} {G : Hp} {ta : TA} {te : TE} {d : D} {ds : List D} {a b : Nat} (h : EvA K ta σ G [d, d]) (hk : Lk d ds) (hz : ds.length < 50000) (hw : ∀ u v, wipe (((wipe σ [a, b]).set a (some u)).set b (some v)) [a, b] = wipe σ [a, b])
    (he : ∀ di u v G1, di ∈ ds → Same G G1 → Dq K G1 u di → Dq K G1 v di → EvD K te (((wipe σ [a, b]).set a (some u)).set b (some v)) G1 (.bl true)) : EvD K (tLc (RZ.iZipA K ta) (gTup K 2 (gCons (gName a) (gCons (gName b) gNil))) tYes te [a, b]) σ G (.lst ((ds.map fun _ => true).map D.bl)) := fun H e Q q =>
  h H e _ fun vs G1 H1 g1 hvs => by
    have main : ∀ (J : It) (xs ys : List V) (Dl : Addr), Dqs K G1 xs ds → Dqs K G1 ys ds → H1 Dl = none → (∀ i H', i < ds.length → Same G1 H' → J.go i H') → (∀ H', Same G1 H' → J.stop ds.length H') →
        (∀ i H' x H'', Same G1 H' → J.yld i H' x H'' → ∃ T u v, x = .ref T ∧ H' T = none ∧ H'' = upd H' T (.tup [u, v]) ∧ xs[i]? = some u ∧ ys[i]? = some v) →
        ∃ W : Nat → Nat → Hp → Prop, (∃ m, W 0 m (upd H1 Dl (.lst []))) ∧ ∀ i m H', W i m H' → (J.stop i H' ∧ Q (.ref Dl) H') ∨ (J.go i H' ∧ ∃ Nx : Hp → Prop, (∀ H2, Nx H2 → ∃ m', m' < m ∧ W (i + 1) m' H2) ∧
          ∀ x H2, J.yld i H' x H2 → gTup K 2 (gCons (gName a) (gCons (gName b) gNil)) x (wipe σ [a, b]) H2 fun σ2 H3 => wipe σ2 [a, b] = wipe σ [a, b] ∧ tYes σ2 H3 fun c H4 => if c = true then te σ2 H4 fun y H5 => ∃ acc, H5 Dl = some (.lst acc) ∧ acc.length < sizeLine ∧ Nx (upd H5 Dl (.lst (acc ++ [y]))) else Nx H4) := by
      intro J xs ys Dl hx hy hD go stop yld
      refine ⟨fun i m H' => m = ds.length - i ∧ i ≤ ds.length ∧ LcInv K G1 H1 Dl (((ds.take i).map fun _ => true).map D.bl) H', ⟨ds.length, by simp, Nat.zero_le _, lcInv_start g1.gh hD⟩, ?_⟩
      rintro i m H' ⟨rfl, hi, pv⟩
      have sm : Same G1 H' := by obtain ⟨G2, acc, g2, _⟩ := pv; exact g2.g.trans g2.gh
      by_cases hlt : i < ds.length
      · refine .inr ⟨go i H' hlt sm, fun H2 => LcInv K G1 H1 Dl (((ds.take (i + 1)).map fun _ => true).map D.bl) H2, fun H2 p2 => ⟨ds.length - (i + 1), by omega, rfl, hlt, p2⟩, fun x H2 yl => ?_⟩
        obtain ⟨T, u, v, e1, hT, e2, e3, e4⟩ := yld i H' x H2 sm yl
        subst e1 e2
        obtain ⟨du, f1, qu⟩ := hx.at e3
        obtain ⟨dv, f2, qv⟩ := hy.at e4
        rw [f1] at f2
        cases f2
        obtain ⟨G2, acc, g2, k0, k1, k2, k3⟩ := pv
        have gT : Gr G2 H' G2 (upd H' T (.tup [u, v])) := Gr.ov g2.gh hT
        have neT : T ≠ Dl := fun z => by rw [z, k2] at hT; cases hT
        refine ⟨T, _, rfl, .inl (.inl upd_same), rfl, _, _, rfl, _, _, rfl, rfl, hw u v, yesT ?_⟩
        refine he du u v G2 (List.mem_of_getElem? f1) (g1.g.trans g2.g) (qu.up g2.g) (qv.up g2.g) _ gT.gh _ fun y G3 H3 g3 hyv => ?_
        cases hyv
        have k2' : H3 Dl = some (.lst acc) := g3.h _ _ (by rw [upd_ne neT.symm]; exact k2)
        have k1' := (gT.trans g3).apart k2 k1
        refine ⟨acc, k2', Nat.lt_of_lt_of_le (by rw [k3.length, List.length_map, List.length_map, List.length_take]; omega) (show 50000 ≤ sizeLine by decide), G3, acc ++ [.bl true], gr_upd (g2.trans (gT.trans g3)) k0 k1', k0, k1', upd_same, ?_⟩
        rw [take_next f1, List.map_append, List.map_append]
        exact (k3.up (gT.trans g3).g).snoc (.bl true)
      · have e : i = ds.length := by omega
        subst e
        obtain ⟨G', g2, hv⟩ := lcInv_end pv
        rw [List.take_length] at hv
        exact .inl ⟨stop H' sm, q _ G' H' (g1.trans g2) hv⟩
    cases hk with
    | lst ds =>
      cases hvs with
      | cons h1 h2 =>
      cases h2 with
      | cons h2 h3 =>
      cases h3
      cases h1 with
      | @lst a1 xs _ r1 s1 =>
      cases h2 with
      | @lst a2 ys _ r2 s2 =>
      refine ⟨a1, a2, xs, ys, rfl, .inl ⟨seqL (Rd.up g1.gh r1), seqL (Rd.up g1.gh r2), fun Dl hD => main _ xs ys Dl s1 s2 hD (fun i H' hlt e' => ⟨xs, ys, xs[i]'(by rw [s1.length]; exact hlt), ys[i]'(by rw [s2.length]; exact hlt), seqL (Rd.up e' r1), seqL (Rd.up e' r2), by simp [s1.length, hlt], by simp [s2.length, hlt]⟩)
        (fun H' e' => ⟨xs, ys, seqL (Rd.up e' r1), seqL (Rd.up e' r2), .inl (Nat.le_of_eq s1.length)⟩) fun i H' x H'' e' y => ?_⟩⟩
      obtain ⟨T, u, v, f1, f2, f3, f4, f5⟩ := y
      exact ⟨T, u, v, f1, f2, f3, f4 xs (seqL (Rd.up e' r1)), f5 ys (seqL (Rd.up e' r2))⟩
    | tup ds =>
      cases hvs with
      | cons h1 h2 =>
      cases h2 with
      | cons h2 h3 =>
      cases h3
      cases h1 with
      | @tup a1 xs _ r1 s1 =>
      cases h2 with
      | @tup a2 ys _ r2 s2 =>
      refine ⟨a1, a2, xs, ys, rfl, .inr ⟨seqT (Rd.up g1.gh r1), seqT (Rd.up g1.gh r2), fun Dl hD => main _ xs ys Dl s1 s2 hD (fun i H' hlt e' => ⟨xs, ys, xs[i]'(by rw [s1.length]; exact hlt), ys[i]'(by rw [s2.length]; exact hlt), seqT (Rd.up e' r1), seqT (Rd.up e' r2), by simp [s1.length, hlt], by simp [s2.length, hlt]⟩)
        (fun H' e' => ⟨xs, ys, seqT (Rd.up e' r1), seqT (Rd.up e' r2), .inl (Nat.le_of_eq s1.length)⟩) fun i H' x H'' e' y => ?_⟩⟩
      obtain ⟨T, u, v, f1, f2, f3, f4, f5⟩ := y
      exact ⟨T, u, v, f1, f2, f3, f4 xs (seqT (Rd.up e' r1)), f5 ys (seqT (Rd.up e' r2))⟩
/-- list(d.items()) of the empty dict -/
theorem ev_items0 {σ : L2.St} {G : Hp} {te : TE} (h : EvD K te σ G (.dic [])) : EvD K (tItemsR te) σ G (.lst []) := fun H e Q q => h H e _ fun v G1 H1 g1 hv => by
  cases hv with
  | @dic a o ws _ hr hk hs =>
    have : ws = [] := List.map_eq_nil_iff.mp hk
    subst this
    refine ⟨a, [], rfl, .inr ⟨o, g1.gh _ _ hr⟩, fun H' p ts keep hp _ _ at_ pr => ?_⟩
    cases pr
    have hp1 := same_none g1.gh hp
    refine q _ (upd G1 p (.lst [])) H' (g1.trans ⟨same_new hp1, keep, fun b u e => ?_, fun b u e => ?_⟩) (.lst (.inl upd_same) .nil)
    · by_cases hb : b = p
      · subst hb; rw [upd_same] at e; cases e; exact at_
      · rw [upd_ne hb] at e; exact keep _ _ (g1.gh _ _ e)
    · by_cases hb : b = p
      · subst hb; exact .inr hp
      · rw [upd_ne hb] at e; exact .inl e
theorem scal_self {x : D} {w : V} (h : x.scal = some w) : L2.scal w w = true := by
  cases x <;> cases h <;> rfl
def isI : D → Bool
  | .bl _ => true
  | .int _ => true
  | _ => false
def isB : D → Bool
  | .bl _ => true
  | _ => false
def isDc : D → Bool
  | .dic _ => true
  | _ => false
def isLs : D → Bool
  | .lst _ => true
  | _ => false
def isTp : D → Bool
  | .tup _ => true
  | _ => false

theorem kit_int : ∀ d : D, kitB d.ty "int" = some (isI d)
  | .non => (by decide +kernel : kitB "NoneType" "int" = some false)
  | .bl _ => (by decide +kernel : kitB "bool" "int" = some true)
  | .int _ => (by decide +kernel : kitB "int" "int" = some true)
  | .str _ => (by decide +kernel : kitB "str" "int" = some false)
  | .lst _ => (by decide +kernel : kitB "list" "int" = some false)
  | .tup _ => (by decide +kernel : kitB "tuple" "int" = some false)
  | .dic _ => (by decide +kernel : kitB "dict" "int" = some false)
theorem kit_bool : ∀ d : D, kitB d.ty "bool" = some (isB d)
  | .non => (by decide +kernel : kitB "NoneType" "bool" = some false)
  | .bl _ => (by decide +kernel : kitB "bool" "bool" = some true)
  | .int _ => (by decide +kernel : kitB "int" "bool" = some false)
  | .str _ => (by decide +kernel : kitB "str" "bool" = some false)
  | .lst _ => (by decide +kernel : kitB "list" "bool" = some false)
  | .tup _ => (by decide +kernel : kitB "tuple" "bool" = some false)
  | .dic _ => (by decide +kernel : kitB "dict" "bool" = some false)
theorem kit_dict : ∀ d : D, kitB d.ty "dict" = some (isDc d)
  | .non => (by decide +kernel : kitB "NoneType" "dict" = some false)
  | .bl _ => (by decide +kernel : kitB "bool" "dict" = some false)
  | .int _ => (by decide +kernel : kitB "int" "dict" = some false)
  | .str _ => (by decide +kernel : kitB "str" "dict" = some false)
  | .lst _ => (by decide +kernel : kitB "list" "dict" = some false)
  | .tup _ => (by decide +kernel : kitB "tuple" "dict" = some false)
  | .dic _ => (by decide +kernel : kitB "dict" "dict" = some true)
theorem kit_list : ∀ d : D, kitB d.ty "list" = some (isLs d)
  | .non => (by decide +kernel : kitB "NoneType" "list" = some false)
  | .bl _ => (by decide +kernel : kitB "bool" "list" = some false)
  | .int _ => (by decide +kernel : kitB "int" "list" = some false)
  | .str _ => (by decide +kernel : kitB "str" "list" = some false)
  | .lst _ => (by decide +kernel : kitB "list" "list" = some true)
  | .tup _ => (by decide +kernel : kitB "tuple" "list" = some false)
  | .dic _ => (by decide +kernel : kitB "dict" "list" = some false)
theorem kit_tuple : ∀ d : D, kitB d.ty "tuple" = some (isTp d)
  | .non => (by decide +kernel : kitB "NoneType" "tuple" = some false)
  | .bl _ => (by decide +kernel : kitB "bool" "tuple" = some false)
  | .int _ => (by decide +kernel : kitB "int" "tuple" = some false)
  | .str _ => (by decide +kernel : kitB "str" "tuple" = some false)
  | .lst _ => (by decide +kernel : kitB "list" "tuple" = some false)
  | .tup _ => (by decide +kernel : kitB "tuple" "tuple" = some true)
  | .dic _ => (by decide +kernel : kitB "dict" "tuple" = some false)
theorem kit_many : ∀ d : D, isiB d.ty ["int", "list", "tuple", "dict"] = some (isI d || (isLs d || (isTp d || isDc d)))
  | .non => (by decide +kernel : isiB "NoneType" ["int", "list", "tuple", "dict"] = some false)
  | .bl _ => (by decide +kernel : isiB "bool" ["int", "list", "tuple", "dict"] = some true)
  | .int _ => (by decide +kernel : isiB "int" ["int", "list", "tuple", "dict"] = some true)
  | .str _ => (by decide +kernel : isiB "str" ["int", "list", "tuple", "dict"] = some false)
  | .lst _ => (by decide +kernel : isiB "list" ["int", "list", "tuple", "dict"] = some true)
  | .tup _ => (by decide +kernel : isiB "tuple" ["int", "list", "tuple", "dict"] = some true)
  | .dic _ => (by decide +kernel : isiB "dict" ["int", "list", "tuple", "dict"] = some true)

theorem sc_w_same : FnScope ["_law_found", "_law_due", "_law_x", "_law_y"] ["_law_found", "_law_due"] (defScope T47.s_w_same) := ⟨rfl, rfl, rfl, by decide +kernel, rfl, by decide +kernel, by decide +kernel⟩
theorem has_w_same_step (T : Tx w K mg) (k : Nat) (h_w_same : Has P w K mg base CX0 "_law_same" (k + 1) ["_law_found", "_law_due"] (sp_same K k)) : Has P w K mg base CX0 "_law_same" (k + 2) ["_law_found", "_law_due"] (sp_same K (k + 1)) := by
  obtain ⟨fd, F⟩ := T.def_ 62
  have gm := T.glo (x := "_law_same") 74
  have z_all := T.free (x := "all") 81
  have z_bool := T.free (x := "bool") 82
  have z_dict := T.free (x := "dict") 83
  have z_int := T.free (x := "int") 85
  have z_isinstance := T.free (x := "isinstance") 86
  have z_len := T.free (x := "len") 87
  have z_list := T.free (x := "list") 88
  have z_tuple := T.free (x := "tuple") 95
  have z_zip := T.free (x := "zip") 96
  have nd := sc_w_same.nd
  refine has_of F gm sc_w_same (fun _ _ _ _ _ _ us hl => match us, hl with | [_, _], _ => rfl) (fun vs H Q E h => ?_) (fun cdv A outer s H vs Q E hr h => ?_)
  · exact spD_len h (fun ds d ⟨_, e, _⟩ => by rw [e]; rfl)
  · refine ⟨_, (pss_cons (ps_if (pt_val (pe_callB call_isiT rfl z_isinstance (by decide +kernel) (pa_cons (pv 1) (pa_cons (pe_tup (pa_cons (pe_bltn (v := .ty "list") rfl z_list (by decide +kernel) rfl) (pa_cons (pe_bltn (v := .ty "tuple") rfl z_tuple (by decide +kernel) rfl) pa_nil))) pa_nil)))) (pss_cons (ps_if (PW.pt (pw_or (pt_cmpR op_ne (pe_callB call_isi rfl z_isinstance (by decide +kernel) (pa_cons (pv 0) (pa_cons (pe_bltn (v := .ty "list") rfl z_list (by decide +kernel) rfl) pa_nil))) (pe_callB call_isi rfl z_isinstance (by decide +kernel) (pa_cons (pv 1) (pa_cons (pe_bltn (v := .ty "list") rfl z_list (by decide +kernel) rfl) pa_nil))) (nomark _)) (pw_or1 (pt_cmpR op_ne (pe_callB call_isi rfl z_isinstance (by decide +kernel) (pa_cons (pv 0) (pa_cons (pe_bltn (v := .ty "tuple") rfl z_tuple (by decide +kernel) rfl) pa_nil))) (pe_callB call_isi rfl z_isinstance (by decide +kernel) (pa_cons (pv 1) (pa_cons (pe_bltn (v := .ty "tuple") rfl z_tuple (by decide +kernel) rfl) pa_nil))) (nomark _))))) (pss_one (ps_ret pe_bl)) pss_nil)
        (pss_one (ps_ret (pe_and (pe_cmpR op_eq (pe_callB call_len rfl z_len (by decide +kernel) (pa_cons (pv 0) pa_nil)) (pe_callB call_len rfl z_len (by decide +kernel) (pa_cons (pv 1) pa_nil)) (nomark _)) (pe_one (pe_callB (cr_all rfl) rfl z_all (by decide +kernel) (pa_cons (pe_lc (own := [("_law_x", 2), ("_law_y", 3)]) (g := gTup K 2 (gCons (gName 2) (gCons (gName 3) gNil))) (tt := tYes) rfl nd (RZ.pi_zipA rfl z_zip (pa_cons (pv 0) (pa_cons (pv 1) pa_nil))) (blkOk_by (own := [("_law_x", 2), ("_law_y", 3)]) (N := ["_law_found", "_law_due", "_law_x", "_law_y"]) (sc := (defScope T47.s_w_same)) (by decide +kernel)) (fun _ _ _ _ _ => (pg_tup rfl (pgs_cons (pg_name (i := 2) nd rfl (Or.inl rfl)) (pgs_cons (pg_name (i := 3) nd rfl (Or.inl rfl)) pgs_nil)))) (fun _ _ _ _ _ => pts_nil) (fun _ _ _ _ _ => (pe_h h_w_same (hr.mono (by omega)) rfl (pa_cons (pv 2) (pa_cons (pv 3) pa_nil))))) pa_nil))))))) pss_nil)
        (pss_cons (ps_if (pt_val (pe_callB call_isi rfl z_isinstance (by decide +kernel) (pa_cons (pv 1) (pa_cons (pe_bltn (v := .ty "dict") rfl z_dict (by decide +kernel) rfl) pa_nil)))) (pss_one (ps_ret (pe_and (pe_callB call_isi rfl z_isinstance (by decide +kernel) (pa_cons (pv 0) (pa_cons (pe_bltn (v := .ty "dict") rfl z_dict (by decide +kernel) rfl) pa_nil))) (pe_one (pe_h h_w_same (hr.mono (by omega)) rfl (pa_cons (pe_itemsR rfl (pv 0) rfl z_list rfl) (pa_cons (pe_itemsR rfl (pv 1) rfl z_list rfl) pa_nil))))))) pss_nil)
        (pss_cons (ps_if (pt_val (pe_callB call_isi rfl z_isinstance (by decide +kernel) (pa_cons (pv 1) (pa_cons (pe_bltn (v := .ty "int") rfl z_int (by decide +kernel) rfl) pa_nil)))) (pss_one (ps_ret (pe_and (pe_callB call_isi rfl z_isinstance (by decide +kernel) (pa_cons (pv 0) (pa_cons (pe_bltn (v := .ty "int") rfl z_int (by decide +kernel) rfl) pa_nil))) (pe_and (pe_cmpR op_eq (pe_callB call_isi rfl z_isinstance (by decide +kernel) (pa_cons (pv 0) (pa_cons (pe_bltn (v := .ty "bool") rfl z_bool (by decide +kernel) rfl) pa_nil))) (pe_callB call_isi rfl z_isinstance (by decide +kernel) (pa_cons (pv 1) (pa_cons (pe_bltn (v := .ty "bool") rfl z_bool (by decide +kernel) rfl) pa_nil))) (nomark _)) (pe_one (pe_cmpR op_eq (pv 0) (pv 1) (nomark _))))))) pss_nil)
        (pss_one (ps_ret (pe_and (pe_not (pe_callB call_isiT rfl z_isinstance (by decide +kernel) (pa_cons (pv 0) (pa_cons (pe_tup (pa_cons (pe_bltn (v := .ty "int") rfl z_int (by decide +kernel) rfl) (pa_cons (pe_bltn (v := .ty "list") rfl z_list (by decide +kernel) rfl) (pa_cons (pe_bltn (v := .ty "tuple") rfl z_tuple (by decide +kernel) rfl) (pa_cons (pe_bltn (v := .ty "dict") rfl z_dict (by decide +kernel) rfl) pa_nil))))) pa_nil)))) (pe_one (pe_cmpR op_eq (pv 0) (pv 1) (nomark _))))))))), ?_⟩
    obtain ⟨G, ds, d, e, hds, ⟨x, rfl, hd, rfl⟩, q⟩ := h
    cases hds with
    | cons h1 hn =>
    cases hn with
    | cons h2 hn =>
    cases hn
    rename_i v1 v2
    suffices z : EvR K _ _ G (.bl true) from z H e _ q
    have X1 : ∀ G1, Same G G1 → EvD K (tVar 0) [some v1, some v2, none, none] G1 x := fun G1 e1 => ev_var rfl (h1.up e1)
    have X2 : ∀ G1, Same G G1 → EvD K (tVar 1) [some v1, some v2, none, none] G1 x := fun G1 e1 => ev_var rfl (h2.up e1)
    have r := Same.refl G
    have FL : ∀ {w : V}, x.scal = some w → isL x = false ∧ isDc x = false := fun {w} hw => by cases x <;> first | exact ⟨rfl, rfl⟩ | cases hw
    cases hd with
    | @flat _ _ w hw =>
      obtain ⟨f1, f2⟩ := FL hw
      refine r_ifq (b := false) ((eb_B (ev_isiT ["list", "tuple"] (by decide) (X2 _ r) (kit_l x))).is f1) (fun z => by cases z) fun _ => ?_
      refine r_ifq (b := false) ((eb_B (ev_isi (X2 _ r) (kit_dict x))).is f2) (fun z => by cases z) fun _ => ?_
      refine r_ifq (b := isI x) (eb_B (ev_isi (X2 _ r) (kit_int x))) (fun hi => ?_) fun hi => ?_
      · refine r_ret ((ev_andV (ev_isi (X1 _ r) (kit_int x)) fun _ => ev_andV (ev_eq (v := .bl (isB x)) (w := .bl (isB x)) (ev_isi (X1 _ r) (kit_bool x)) (ev_isi (X2 _ r) (kit_bool x)) rfl rfl rfl) fun _ => ev_eq (v := w) (w := w) (X1 _ r) (X2 _ r) hw hw (scal_self hw)).is ?_)
        rw [hi]
        simp
      · refine r_ret ((ev_andV (ev_notV (ev_isiT ["int", "list", "tuple", "dict"] (by decide) (X1 _ r) (kit_many x))) fun _ => ev_eq (v := w) (w := w) (X1 _ r) (X2 _ r) hw hw (scal_self hw)).is ?_)
        have f3 : isLs x = false ∧ isTp x = false := by cases x <;> first | exact ⟨rfl, rfl⟩ | cases hw
        rw [hi, f2, f3.1, f3.2]
        simp
    | @nil k2 =>
      refine r_ifq (b := false) ((eb_B (ev_isiT ["list", "tuple"] (by decide) (X2 _ r) (kit_l _))).is rfl) (fun z => by cases z) fun _ => ?_
      refine r_ifq (b := true) ((eb_B (ev_isi (X2 _ r) (kit_dict _))).is rfl) (fun _ => ?_) fun z => by cases z
      exact r_ret ((ev_andV (b := true) ((ev_isi (X1 _ r) (kit_dict _)).is rfl) fun _ => ev_call (ea_cons (ev_items0 (X1 _ r)) (ea_cons (ev_items0 (X2 _ r)) ea_nil)) ⟨.lst [], rfl, .seq (.lst _) (by decide) (fun _ h => nomatch h), rfl⟩).is rfl)
    | @seq _ _ xs hk hlen hall =>
      refine r_ifq (b := true) ((eb_B (ev_isiT ["list", "tuple"] (by decide) (X2 _ r) (kit_l x))).is (by rw [hk.isL])) (fun _ => ?_) fun z => by cases z
      refine r_ifq (b := false) ((eb_or (a := false) ((eb_test (ev_ne (v := .bl (isLs x)) (w := .bl (isLs x)) (ev_isi (X1 _ r) (kit_list x)) (ev_isi (X2 _ r) (kit_list x)) rfl rfl rfl)).is (by simp)) fun _ => (eb_test (ev_ne (v := .bl (isTp x)) (w := .bl (isTp x)) (ev_isi (X1 _ r) (kit_tuple x)) (ev_isi (X2 _ r) (kit_tuple x)) rfl rfl rfl)).is (b' := false) (by simp)).is rfl) (fun z => by cases z) fun _ => ?_
      refine r_ret ((ev_andV (ev_eq (hk.len (X1 _ r)) (hk.len (X2 _ r)) rfl rfl rfl) fun _ => ev_all (bs := xs.map fun _ => true) (ev_lcZip (ea_cons (X1 _ r) (ea_cons (X2 _ r) ea_nil)) hk (by omega) (fun _ _ => rfl) fun di u v G1 hdm e1 hu hv => ev_call (ea_cons (ev_var rfl hu) (ea_cons (ev_var rfl hv) ea_nil)) ⟨di, rfl, hall di hdm, rfl⟩)).is ?_)
      rw [List.all_map]
      simp

theorem has_w_same_zero (T : Tx w K mg) : Has P w K mg base CX0 "_law_same" (1) ["_law_found", "_law_due"] (sp_same K 0) := by
  obtain ⟨fd, F⟩ := T.def_ 62
  have gm := T.glo (x := "_law_same") 74
  have z_bool := T.free (x := "bool") 82
  have z_dict := T.free (x := "dict") 83
  have z_int := T.free (x := "int") 85
  have z_isinstance := T.free (x := "isinstance") 86
  have z_list := T.free (x := "list") 88
  have z_tuple := T.free (x := "tuple") 95
  have nd := sc_w_same.nd
  refine has_of F gm sc_w_same (fun _ _ _ _ _ _ us hl => match us, hl with | [_, _], _ => rfl) (fun vs H Q E h => ?_) (fun cdv A outer s H vs Q E hr h => ?_)
  · exact spD_len h (fun ds d ⟨_, e, _⟩ => by rw [e]; rfl)
  · refine ⟨_, (pss_cons (ps_if (pt_val (pe_callB call_isiT rfl z_isinstance (by decide +kernel) (pa_cons (pv 1) (pa_cons (pe_tup (pa_cons (pe_bltn (v := .ty "list") rfl z_list (by decide +kernel) rfl) (pa_cons (pe_bltn (v := .ty "tuple") rfl z_tuple (by decide +kernel) rfl) pa_nil))) pa_nil)))) (pss_cons (ps_if (PW.pt (pw_or (pt_cmpR op_ne (pe_callB call_isi rfl z_isinstance (by decide +kernel) (pa_cons (pv 0) (pa_cons (pe_bltn (v := .ty "list") rfl z_list (by decide +kernel) rfl) pa_nil))) (pe_callB call_isi rfl z_isinstance (by decide +kernel) (pa_cons (pv 1) (pa_cons (pe_bltn (v := .ty "list") rfl z_list (by decide +kernel) rfl) pa_nil))) (nomark _)) (pw_or1 (pt_cmpR op_ne (pe_callB call_isi rfl z_isinstance (by decide +kernel) (pa_cons (pv 0) (pa_cons (pe_bltn (v := .ty "tuple") rfl z_tuple (by decide +kernel) rfl) pa_nil))) (pe_callB call_isi rfl z_isinstance (by decide +kernel) (pa_cons (pv 1) (pa_cons (pe_bltn (v := .ty "tuple") rfl z_tuple (by decide +kernel) rfl) pa_nil))) (nomark _))))) (pss_one (ps_ret pe_bl)) pss_nil)
        (pss_one ps_naught)) pss_nil)
        (pss_cons (ps_if (pt_val (pe_callB call_isi rfl z_isinstance (by decide +kernel) (pa_cons (pv 1) (pa_cons (pe_bltn (v := .ty "dict") rfl z_dict (by decide +kernel) rfl) pa_nil)))) (pss_one ps_naught) pss_nil)
        (pss_cons (ps_if (pt_val (pe_callB call_isi rfl z_isinstance (by decide +kernel) (pa_cons (pv 1) (pa_cons (pe_bltn (v := .ty "int") rfl z_int (by decide +kernel) rfl) pa_nil)))) (pss_one (ps_ret (pe_and (pe_callB call_isi rfl z_isinstance (by decide +kernel) (pa_cons (pv 0) (pa_cons (pe_bltn (v := .ty "int") rfl z_int (by decide +kernel) rfl) pa_nil))) (pe_and (pe_cmpR op_eq (pe_callB call_isi rfl z_isinstance (by decide +kernel) (pa_cons (pv 0) (pa_cons (pe_bltn (v := .ty "bool") rfl z_bool (by decide +kernel) rfl) pa_nil))) (pe_callB call_isi rfl z_isinstance (by decide +kernel) (pa_cons (pv 1) (pa_cons (pe_bltn (v := .ty "bool") rfl z_bool (by decide +kernel) rfl) pa_nil))) (nomark _)) (pe_one (pe_cmpR op_eq (pv 0) (pv 1) (nomark _))))))) pss_nil)
        (pss_one (ps_ret (pe_and (pe_not (pe_callB call_isiT rfl z_isinstance (by decide +kernel) (pa_cons (pv 0) (pa_cons (pe_tup (pa_cons (pe_bltn (v := .ty "int") rfl z_int (by decide +kernel) rfl) (pa_cons (pe_bltn (v := .ty "list") rfl z_list (by decide +kernel) rfl) (pa_cons (pe_bltn (v := .ty "tuple") rfl z_tuple (by decide +kernel) rfl) (pa_cons (pe_bltn (v := .ty "dict") rfl z_dict (by decide +kernel) rfl) pa_nil))))) pa_nil)))) (pe_one (pe_cmpR op_eq (pv 0) (pv 1) (nomark _))))))))), ?_⟩
    obtain ⟨G, ds, d, e, hds, ⟨x, rfl, hd, rfl⟩, q⟩ := h
    cases hds with
    | cons h1 hn =>
    cases hn with
    | cons h2 hn =>
    cases hn
    rename_i v1 v2
    suffices z : EvR K _ _ G (.bl true) from z H e _ q
    have X1 : ∀ G1, Same G G1 → EvD K (tVar 0) [some v1, some v2, none, none] G1 x := fun G1 e1 => ev_var rfl (h1.up e1)
    have X2 : ∀ G1, Same G G1 → EvD K (tVar 1) [some v1, some v2, none, none] G1 x := fun G1 e1 => ev_var rfl (h2.up e1)
    have r := Same.refl G
    have FL : ∀ {w : V}, x.scal = some w → isL x = false ∧ isDc x = false := fun {w} hw => by cases x <;> first | exact ⟨rfl, rfl⟩ | cases hw
    cases hd with
    | @flat _ _ w hw =>
      obtain ⟨f1, f2⟩ := FL hw
      refine r_ifq (b := false) ((eb_B (ev_isiT ["list", "tuple"] (by decide) (X2 _ r) (kit_l x))).is f1) (fun z => by cases z) fun _ => ?_
      refine r_ifq (b := false) ((eb_B (ev_isi (X2 _ r) (kit_dict x))).is f2) (fun z => by cases z) fun _ => ?_
      refine r_ifq (b := isI x) (eb_B (ev_isi (X2 _ r) (kit_int x))) (fun hi => ?_) fun hi => ?_
      · refine r_ret ((ev_andV (ev_isi (X1 _ r) (kit_int x)) fun _ => ev_andV (ev_eq (v := .bl (isB x)) (w := .bl (isB x)) (ev_isi (X1 _ r) (kit_bool x)) (ev_isi (X2 _ r) (kit_bool x)) rfl rfl rfl) fun _ => ev_eq (v := w) (w := w) (X1 _ r) (X2 _ r) hw hw (scal_self hw)).is ?_)
        rw [hi]
        simp
      · refine r_ret ((ev_andV (ev_notV (ev_isiT ["int", "list", "tuple", "dict"] (by decide) (X1 _ r) (kit_many x))) fun _ => ev_eq (v := w) (w := w) (X1 _ r) (X2 _ r) hw hw (scal_self hw)).is ?_)
        have f3 : isLs x = false ∧ isTp x = false := by cases x <;> first | exact ⟨rfl, rfl⟩ | cases hw
        rw [hi, f2, f3.1, f3.2]
        simp

theorem has_w_same (T : Tx w K mg) : ∀ k, Has P w K mg base CX0 "_law_same" (k + 1) ["_law_found", "_law_due"] (sp_same K k)
  | 0 => has_w_same_zero T
  | k + 1 => has_w_same_step T k (has_w_same T k)

end
end T47
/-! Book.rules, Book.talks. -/
namespace T47
open PySem PySem.Spec PyProof.Rows L2 Pk
section
variable {P : Program} {w : World} {K : PySem.W.Frag} {mg : Str → Option Value} {base : Heap}
def looseRule (r : D) : D := match r with
  | .tup [a, .tup xs] => .tup [a, .lst xs]
  | _ => .non
def strD : D → Str
  | .str x => x
  | _ => ("" : Str)
def sp_Book_rules (K : PySem.W.Frag) : Sp := spV K fun G vb ds d => ∃ b n, IsBook K G vb b ∧ sized b ∧ n ∈ b.map (·.1) ∧ ds = [.str n] ∧ d = .lst ((rulesOf b n).map lawRule)
def sp_Book_talks (K : PySem.W.Frag) : Sp := spV K fun G vb ds d => ∃ b, IsBook K G vb b ∧ sized b ∧ ds = [] ∧ d = .lst ((b.map (·.1)).map fun n => .tup [.str n, .lst ((rulesOf b n).map lawRule)])

theorem sc_Book_rules : FnScope ["self", "name", "letter", "row"] ["self", "name"] (defScope T47.s_Book_rules) := ⟨rfl, rfl, rfl, by decide +kernel, rfl, by decide +kernel, by decide +kernel⟩
theorem met_Book_rules (T : Tx w K mg) (h_is_one_of : Has P w K mg base CX0 "is_one_of" (1) ["known", "thing"] (sp_is_one_of K)) : C8.Met P w K mg base 2 (He.ga K "Book") "rules" (sp_Book_rules K) [] := by
  obtain ⟨fd, F⟩ := T.def_ 24
  have z_list := T.free (x := "list") 88
  have nd := sc_Book_rules.nd
  refine ⟨_, fd, _, [], He.cls_ok (T.fact 99), He.meth_ok (T.fact 104), fn_of F sc_Book_rules (fun vs H Q E h => ?_) (fun cdv A outer s H vs Q E hr h => ?_), F.bindsN (fun _ _ _ _ _ _ us hl => match us, hl with | [_, _], _ => rfl), .nil⟩
  · exact spV_len h fun _ _ _ _ ⟨_, _, _, _, _, e, _⟩ => by rw [e]; rfl
  · refine ⟨_, (pss_cons (ps_if (pt_not (pt_val (pe_h h_is_one_of (hr.mono (by omega)) rfl (pa_cons (pe_fld (pv 0) rfl) (pa_cons (pv 1) pa_nil))))) (pss_one ps_naught) pss_nil)
        (pss_one (ps_ret (pe_lc (own := [("letter", 2), ("row", 3)]) (g := gTup K 2 (gCons (gName 2) (gCons (gName 3) gNil))) (tt := tYes) rfl nd (pi_seq (pe_dget (hu_of hr) (pe_fld (pv 0) rfl) (pv 1) (fun _ _ => rfl))) (blkOk_by (own := [("letter", 2), ("row", 3)]) (N := ["self", "name", "letter", "row"]) (sc := (defScope T47.s_Book_rules)) (by decide +kernel)) (fun _ _ _ _ _ => (pg_tup rfl (pgs_cons (pg_name (i := 2) nd rfl (Or.inl rfl)) (pgs_cons (pg_name (i := 3) nd rfl (Or.inl rfl)) pgs_nil)))) (fun _ _ _ _ _ => pts_nil) (fun _ _ _ _ _ => (pe_tup (pa_cons (pv 2) (pa_cons (pe_callTy (call_list_ofK (K := K) rfl) rfl z_list (by decide +kernel) (pa_cons (pv 3) pa_nil)) pa_nil)))))))), ?_⟩
    obtain ⟨G, vb, vs', ds, d, rfl, e, hds, ⟨b, n, hb, hsz, hn, rfl, rfl⟩, q⟩ := h
    cases hds with
    | cons hx hn2 =>
    cases hn2
    cases hx
    obtain ⟨rs, hrs⟩ := Option.isSome_iff_exists.mp (lookK_isSome.mpr hn)
    have hro : rulesOf b n = rs := by unfold rulesOf; rw [hrs]; rfl
    have hm : (n, rs) ∈ b := by
      unfold lookK at hrs
      obtain ⟨p, hp, hp2⟩ := Option.map_eq_some_iff.mp hrs
      have h1 := List.mem_of_find?_eq_some hp
      have h2 : p.1 = n := by simpa using List.find?_some hp
      obtain ⟨p1, p2⟩ := p
      cases h2
      cases hp2
      exact h1
    have h900 : rs.length ≤ 900 := (hsz.2 _ hm).1
    suffices z : EvR K _ _ G (.lst ((rulesOf b n).map lawRule)) from z H e _ q
    refine r_ifq (b := false) (eb_not (b := true) (eb_B ((ev_call (ea_cons (ev_rules T (evv_var rfl) hb) (ea_cons (ev_var rfl (.str n)) ea_nil)) ⟨_, .str n, rfl, rfl⟩).is ?_))) (fun z => by cases z) fun _ => ?_
    · show D.bl (lookD (keptD_ b) n).isSome = D.bl true
      rw [lookD_kept, hrs]
      rfl
    refine r_ret ((ev_lcS (K := K) (vs := [2, 3]) (g := gTup K 2 (gCons (gName 2) (gCons (gName 3) gNil))) (src_seq (ev_dget (ev_rules T (evv_var rfl) hb) (ev_var rfl (.str n)) (d := .lst (rs.map keptRule)) (by rw [lookD_kept, hrs]; rfl)) (.lst _)) (by rw [List.length_map]; omega) (fun _ => true) looseRule (fun di σ2 G2 => ∃ v u r, di = keptRule r ∧ r ∈ rs ∧ Dq K G2 v (.str r.1) ∧ Dq K G2 u (.tup (r.2.map D.str)) ∧ σ2 = ((wipe [some vb, some (.str n), none, none] [2, 3]).set 2 (some v)).set 3 (some u)) (fun di hdi => ?_) (fun di σ2 G1 _ ⟨_, _, _, _, _, _, _, e⟩ => by rw [e]; rfl) (fun _ _ _ _ _ _ => eb_yes) (fun di σ2 G1 _ _ ⟨v, u, r, e1, hr, e2, e3, e5⟩ _ => ?_)).is ?_)
    · obtain ⟨r, hr, rfl⟩ := List.mem_map.mp hdi
      exact fun x G1 H1 e1 hx Q q => tg_two x G1 H1 e1 hx Q fun σ2 ⟨v, u, k1, k2, k3⟩ => q σ2 ⟨v, u, r, rfl, hr, k1, k2, k3⟩
    · rw [e1, e5]
      exact ev_tup (ea_cons (ev_var rfl e2) (ea_cons (ev_list (.inr (ev_var rfl e3))) ea_nil)) (by show 2 ≤ 100000; decide)
    · rw [List.filter_eq_self.mpr (fun _ _ => rfl), List.map_map, hro]
      rfl

theorem sc_Book_talks : FnScope ["self", "name"] ["self"] (defScope T47.s_Book_talks) := ⟨rfl, rfl, rfl, by decide +kernel, rfl, by decide +kernel, by decide +kernel⟩
theorem met_Book_talks (T : Tx w K mg) (h_Book_rules : C8.Met P w K mg base 2 (He.ga K "Book") "rules" (sp_Book_rules K) []) : C8.Met P w K mg base 3 (He.ga K "Book") "talks" (sp_Book_talks K) [] := by
  obtain ⟨fd, F⟩ := T.def_ 23
  have nd := sc_Book_talks.nd
  refine ⟨_, fd, _, [], He.cls_ok (T.fact 99), He.meth_ok (T.fact 103), fn_of F sc_Book_talks (fun vs H Q E h => ?_) (fun cdv A outer s H vs Q E hr h => ?_), F.bindsN (fun _ _ _ _ _ _ us hl => match us, hl with | [_], _ => rfl), .nil⟩
  · exact spV_len h fun _ _ _ _ ⟨_, _, _, e, _⟩ => by rw [e]; rfl
  · refine ⟨_, (pss_one (ps_ret (pe_lc (own := [("name", 1)]) (g := gName 1) (tt := tYes) rfl nd (pi_keys (pe_fld (pv 0) rfl)) (blkOk_by (own := [("name", 1)]) (N := ["self", "name"]) (sc := (defScope T47.s_Book_talks)) (by decide +kernel)) (fun _ _ _ _ _ => (pg_name (i := 1) nd rfl (Or.inl rfl))) (fun _ _ _ _ _ => pts_nil) (fun _ _ _ _ _ => (pe_tup (pa_cons (pv 1) (pa_cons (C8.pe_mt (k := 2) h_Book_rules hr (by omega) (pv 0) (pa_cons (pv 1) pa_nil)) pa_nil))))))), ?_⟩
    obtain ⟨G, vb, vs', ds, d, rfl, e, hds, ⟨b, hb, hsz, rfl, rfl⟩, q⟩ := h
    cases hds
    suffices z : EvR K _ _ G (.lst ((b.map (·.1)).map fun n => .tup [.str n, .lst ((rulesOf b n).map lawRule)])) from z H e _ q
    have hl : (b.map (·.1)).length ≤ 60 := by rw [List.length_map]; exact hsz.1
    refine r_ret ((ev_lcS1 (j := 1) (src_keys (ev_rules T (evv_var rfl) hb)) (by rw [keptD_names, List.length_map]; omega) (fun d => .tup [d, .lst ((rulesOf b (strD d)).map lawRule)]) (fun _ => rfl) fun di u G1 hdm e1 hu => ?_).is ?_)
    · rw [keptD_names] at hdm
      obtain ⟨n, hn, rfl⟩ := List.mem_map.mp hdm
      cases hu
      refine ev_tup (ea_cons (ev_var rfl (.str n)) (ea_cons ?_ ea_nil)) (by show 2 ≤ 100000; decide)
      obtain ⟨x, dx, vr, vn, rfl, h2, h3⟩ := hb.ex
      exact fun H e2 Q q => ⟨_, rfl, x, dx, _, rfl, e2 _ _ (e1 _ _ h2), rfl, _, rfl, G1, .ref x, [.str n], [.str n], _, rfl, e2, .cons (.str n) .nil, ⟨b, n, hb.up e1, hsz, hn, rfl, rfl⟩, q⟩
    · rw [keptD_names, List.map_map]
      rfl

end
end T47
/-! The package's book of talks in any order: what it shares with the law's. -/
namespace T47
open PySem PySem.Spec PyProof.Rows L2 Pk
/-- a book of the law -/
structure LawB (b : Kept) : Prop where
  snd : Sound b
  nd : (b.map (·.1)).Nodup
  full : fullB b
  sign : ∀ p ∈ b, ∀ r ∈ p.2, isLetter r.1 = true ∧ r.1.length ≤ 1000
  rnd : ∀ p ∈ b, p.2.Nodup
  ends : ∀ n ∈ b.map (·.1), Ends b n
/-- its talks in some order, their rules too -/
structure ShufB (b : Kept) (ts : List Talk) : Prop where
  nm : (ts.map (·.1)).Perm (b.map (·.1))
  rl : ∀ t ∈ ts, t.2.Perm (rulesOf b t.1)
structure MixB (b kb : Kept) : Prop where
  nm : kb.map (·.1) = srt (b.map (·.1))
  rl : ∀ n ∈ b.map (·.1), (rulesOf kb n).Perm (rulesOf b n)
  sz : sized kb
theorem shuf_ok {b : Kept} {ts : List Talk} (h : LawB b) (s : ShufB b ts) : talksOk ts := by
  have inB : ∀ t ∈ ts, t.1 ∈ b.map (·.1) := fun t ht => s.nm.mem_iff.mp (List.mem_map.mpr ⟨t, ht, rfl⟩)
  have rin : ∀ t ∈ ts, ∀ r ∈ t.2, r ∈ rulesOf b t.1 := fun t ht r hr => (s.rl t ht).mem_iff.mp hr
  have cls : ∀ t ∈ ts, ∀ r ∈ t.2, ∀ n ∈ r.2, n ∈ b.map (·.1) := fun t ht r hr n hn => h.snd.cl _ (rulesOf_mem (inB t ht)).2 r (rin t ht r hr) n hn
  refine ⟨?_, fun t ht => ?_, s.nm.nodup_iff.mpr h.nd, fun t ht r hr n hn => s.nm.mem_iff.mpr (cls t ht r hr n hn)⟩
  · have := s.nm.length_eq
    rw [List.length_map, List.length_map] at this
    rw [this]
    exact h.snd.sz.1
  · have hm := (rulesOf_mem (inB t ht)).2
    refine ⟨h.snd.nm _ (inB t ht), fun z => h.full _ hm ?_, fun r hr => ⟨(h.sign _ hm r (rin t ht r hr)).1, (h.sign _ hm r (rin t ht r hr)).2, fun n hn => h.snd.nm n (cls t ht r hr n hn), ?_⟩, ?_, (s.rl t ht).nodup_iff.mpr (h.rnd _ hm)⟩
    · have := s.rl t ht
      rw [z] at this
      exact this.nil_eq.symm
    · have := h.snd.few _ hm r (rin t ht r hr)
      omega
    · have := (s.rl t ht).length_eq
      have := h.snd.lt _ hm
      simp only at this
      omega
theorem shuf_mix {b : Kept} {ts : List Talk} (h : LawB b) (s : ShufB b ts) : MixB b (bookOf ts) := by
  have hok := shuf_ok h s
  refine ⟨by rw [book_names]; exact srt_congr s.nm, fun n hn => ?_, book_sized hok⟩
  have hn2 : n ∈ (bookOf ts).map (·.1) := by rw [book_names]; exact (srt_perm _).mem_iff.mpr (s.nm.mem_iff.mpr hn)
  obtain ⟨t, ht, e1, e2⟩ := book_at (rulesOf_mem hn2).2
  have e1 : t.1 = n := e1
  have e2 : rulesOf (bookOf ts) n = rsS t.2 := e2
  rw [e2, ← e1]
  exact (rsS_perm t.2).trans (s.rl t ht)
section
variable {b kb : Kept}
theorem MixB.mem (m : MixB b kb) {n : Str} : n ∈ kb.map (·.1) ↔ n ∈ b.map (·.1) := by rw [m.nm]; exact (srt_perm _).mem_iff
theorem MixB.nd (m : MixB b kb) (hn : (b.map (·.1)).Nodup) : (kb.map (·.1)).Nodup := by rw [m.nm]; exact (srt_perm _).nodup_iff.mpr hn
theorem MixB.at_ (m : MixB b kb) (hn : (b.map (·.1)).Nodup) {p : Str × List Rule} (hp : p ∈ kb) : p.1 ∈ b.map (·.1) ∧ p.2.Perm (rulesOf b p.1) := by
  have h1 : p.1 ∈ kb.map (·.1) := List.mem_map.mpr ⟨p, hp, rfl⟩
  have h2 := m.mem.mp h1
  have e : p.2 = rulesOf kb p.1 := by
    have a1 := lookK_mem (m.nd hn) (n := p.1) (rs := p.2) hp
    rw [(rulesOf_mem h1).1] at a1
    exact (Option.some.inj a1).symm
  exact ⟨h2, by rw [e]; exact m.rl _ h2⟩
theorem MixB.sound (m : MixB b kb) (hn : (b.map (·.1)).Nodup) (h : Sound b) : Sound kb := by
  refine ⟨m.sz, fun n h1 => h.nm n (m.mem.mp h1), fun p hp => ?_, fun p hp r hr => ?_, fun p hp r hr n h5 => ?_⟩
  · obtain ⟨h1, h2⟩ := m.at_ hn hp
    rw [h2.length_eq]
    exact h.lt _ (rulesOf_mem h1).2
  · obtain ⟨h1, h2⟩ := m.at_ hn hp
    exact h.few _ (rulesOf_mem h1).2 r (h2.mem_iff.mp hr)
  · obtain ⟨h1, h2⟩ := m.at_ hn hp
    exact m.mem.mpr (h.cl _ (rulesOf_mem h1).2 r (h2.mem_iff.mp hr) n h5)
theorem MixB.rowIn (m : MixB b kb) {row : List Str} (h : rowIn b row) : T47.rowIn kb row := fun n hn => m.mem.mpr (h n hn)
theorem MixB.ends (m : MixB b kb) (hn : (b.map (·.1)).Nodup) {n : Str} (e : Ends b n) : Ends kb n := by
  induction e with
  | @mk n rs r h1 h2 _ ih =>
    have hm : n ∈ b.map (·.1) := List.mem_map.mpr ⟨_, h1, rfl⟩
    have e : rulesOf b n = rs := by
      have a1 := lookK_mem hn h1
      rw [(rulesOf_mem hm).1] at a1
      exact Option.some.inj a1
    refine .mk (rulesOf_mem (m.mem.mpr hm)).2 ((m.rl n hm).mem_iff.mpr ?_) ih
    rw [e]
    exact h2
theorem simple_perm {rs rs' : List Rule} (h : rs.Perm rs') : simpleR rs = simpleR rs' := by
  unfold simpleR
  rw [decide_eq_decide]
  exact (h.map (·.1)).nodup_iff
theorem MixB.simple (m : MixB b kb) (hn : (b.map (·.1)).Nodup) (h : simpleB b) : simpleB kb := fun p hp => by
  obtain ⟨h1, h2⟩ := m.at_ hn hp
  rw [simple_perm h2]
  exact h _ (rulesOf_mem h1).2
theorem find_perm {x : Str} : ∀ {rs rs' : List Rule}, rs.Perm rs' → (rs.map (·.1)).Nodup → rs.find? (fun r => decide (r.1 = x)) = rs'.find? (fun r => decide (r.1 = x)) := by
  intro rs rs' h
  have uniq : ∀ {l : List Rule} {r : Rule}, (l.map (·.1)).Nodup → r ∈ l → r.1 = x → l.find? (fun r => decide (r.1 = x)) = some r := by
    intro l
    induction l with
    | nil => intro r _ h; cases h
    | cons a l ih =>
      intro r hn hm e
      rw [List.map_cons, List.nodup_cons] at hn
      rw [List.find?_cons]
      rcases List.mem_cons.mp hm with z | hm
      · subst z
        simp [e]
      · have : ¬ a.1 = x := fun z => hn.1 (by rw [z, ← e]; exact List.mem_map.mpr ⟨r, hm, rfl⟩)
        simp only [this, decide_false]
        exact ih hn.2 hm e
  intro hn
  have hn' := (h.map (·.1)).nodup_iff.mp hn
  cases q : rs.find? (fun r => decide (r.1 = x)) with
  | some r => exact (uniq hn' (h.mem_iff.mp (List.mem_of_find?_eq_some q)) (by simpa using List.find?_some q)).symm
  | none =>
    symm
    rw [List.find?_eq_none] at q ⊢
    exact fun r hr => q r (h.mem_iff.mpr hr)
theorem simple_at (h : simpleB b) {n : Str} (hn : n ∈ b.map (·.1)) : ((rulesOf b n).map (·.1)).Nodup := of_decide_eq_true (h _ (rulesOf_mem hn).2)
theorem MixB.next (m : MixB b kb) (h : simpleB b) {row : List Str} {x : Str} (hr : T47.rowIn b row) : nextR kb row x = nextR b row x := by
  cases row with
  | nil => rfl
  | cons n rest =>
    have hn := hr n (by simp)
    show ((rulesOf kb n).find? fun r => decide (r.1 = x)).map _ = ((rulesOf b n).find? fun r => decide (r.1 = x)).map _
    rw [← find_perm (m.rl n hn).symm (simple_at h hn)]
theorem MixB.along (m : MixB b kb) (hS : Sound b) (h : simpleB b) : ∀ (word row : List Str), T47.rowIn b row → T47.along kb row word = T47.along b row word
  | [], _, _ => rfl
  | x :: word, row, hr => by
    unfold T47.along
    rw [m.next h hr]
    cases e : nextR b row x with
    | none => rfl
    | some r =>
      simp only
      rw [MixB.along m hS h word r (next_rowIn hS hr e).1]
theorem MixB.leftIn (m : MixB b kb) (hS : Sound b) (h : simpleB b) {row word : List Str} (hr : T47.rowIn b row) : T47.leftIn kb row word = T47.leftIn b row word := by
  unfold T47.leftIn
  rw [m.along hS h word row hr]
theorem MixB.faultIn (m : MixB b kb) (hS : Sound b) (h : simpleB b) {row word : List Str} (hr : T47.rowIn b row) : T47.faultIn kb row word = T47.faultIn b row word := by
  unfold T47.faultIn
  rw [m.along hS h word row hr]
theorem MixB.letters (m : MixB b kb) {row : List Str} (hr : T47.rowIn b row) : lettersOf kb row = lettersOf b row := by
  cases row with
  | nil => rfl
  | cons n rest => exact srt_congr ((m.rl n (hr n (by simp))).map (·.1))
end
/-! ### loosely told -/
def talkD (t : Talk) : D := .tup [.str t.1, .lst (t.2.map lawRule)]
theorem all2_map {α β γ : Type} {R : β → γ → Prop} {S : α → γ → Prop} {f : α → β} : ∀ {xs : List α} {ys : List γ}, All2 R (xs.map f) ys → (∀ x ∈ xs, ∀ y, R (f x) y → S x y) → All2 (fun y x => S x y) ys xs
  | [], _, h, _ => by cases h; exact .nil
  | x :: xs, _, h, k => by
    cases h with
    | cons a r => exact .cons (k x (by simp) _ a) (all2_map r fun z hz => k z (by simp [hz]))
theorem alike_str {x : Str} {d : D} (h : Alike (.str x) d) : d = .str x := by
  cases h with
  | same _ => rfl
  | seq a _ _ => cases a
theorem lk_inj {d : D} {xs ys : List D} (a : Lk d xs) (b : Lk d ys) : xs = ys := by cases a <;> cases b <;> rfl
theorem alike_seq {x d : D} {xs : List D} (hk : Lk x xs) (h : Alike x d) : ∃ ys, Lk d ys ∧ All2 Alike xs ys := by
  cases h with
  | same f => rw [hk.isL] at f; cases f
  | seq a b c => rw [lk_inj hk a]; exact ⟨_, b, c⟩
theorem all2_strs {xs : List Str} {ys : List D} (h : All2 Alike (xs.map D.str) ys) : ys = xs.map D.str := by
  induction xs generalizing ys with
  | nil => cases h; rfl
  | cons x xs ih =>
    cases h with
    | cons a b => rw [alike_str a, ih b]; rfl
theorem alike_row {row : List Str} {d : D} (h : Alike (rowD row) d) : IsRow d row := by
  obtain ⟨ys, h1, h2⟩ := alike_seq (.lst _) h
  rw [all2_strs h2] at h1
  exact h1
theorem alike_rule {r : Rule} {d : D} (h : Alike (lawRule r) d) : IsRule d r := by
  obtain ⟨ys, h1, h2⟩ := alike_seq (.tup _) h
  cases h2 with
  | cons a b =>
    cases b with
    | cons c e =>
      cases e
      rw [alike_str a] at h1
      exact ⟨_, h1, alike_row c⟩
theorem alikeRs {rs : List Rule} {d : D} (h : Alike (.lst (rs.map lawRule)) d) : IsRules d rs := by
  obtain ⟨ys, h1, h2⟩ := alike_seq (.lst _) h
  exact ⟨ys, h1, all2_map h2 fun r _ y a => alike_rule a⟩
theorem alike_talk {t : Talk} {d : D} (h : Alike (talkD t) d) : IsTalk d t := by
  obtain ⟨ys, h1, h2⟩ := alike_seq (.tup _) h
  cases h2 with
  | cons a b =>
    cases b with
    | cons c e =>
      cases e
      rw [alike_str a] at h1
      exact ⟨_, h1, alikeRs c⟩
theorem alike_talks {ts : List Talk} {d : D} (h : Alike (.lst (ts.map talkD)) d) : IsTalks d ts := by
  obtain ⟨ys, h1, h2⟩ := alike_seq (.lst _) h
  exact ⟨ys, h1, all2_map h2 fun t _ y a => alike_talk a⟩
theorem deep_row {k : Nat} {row : List Str} (h : row.length ≤ 1000) : Deep (k + 1) (rowD row) := .seq (.lst _) (by rw [List.length_map]; exact h) fun d hd => by
  obtain ⟨x, _, rfl⟩ := List.mem_map.mp hd
  exact .flat rfl
theorem deep_rule {k : Nat} {r : Rule} (h : r.2.length ≤ 1000) : Deep (k + 2) (lawRule r) := .seq (.tup _) (by show 2 ≤ 1000; decide) fun d hd => by
  rcases List.mem_cons.mp hd with e | hd
  · rw [e]; exact .flat rfl
  · rw [List.mem_singleton.mp hd]; exact deep_row h
theorem deep_talks {ts : List Talk} (h : talksOk ts) : Deep 5 (.lst (ts.map talkD)) := .seq (.lst _) (by rw [List.length_map]; have := h.1; omega) fun d hd => by
  obtain ⟨t, ht, rfl⟩ := List.mem_map.mp hd
  obtain ⟨_, _, k3, k4, _⟩ := h.2.1 t ht
  refine .seq (.tup _) (by show 2 ≤ 1000; decide) fun d hd => ?_
  rcases List.mem_cons.mp hd with e | hd
  · rw [e]; exact .flat rfl
  · rw [List.mem_singleton.mp hd]
    refine .seq (.lst _) (by rw [List.length_map]; omega) fun d hd => ?_
    obtain ⟨r, hr, rfl⟩ := List.mem_map.mp hd
    exact deep_rule (k3 r hr).2.2.2
end T47
/-! _law_d_made. -/
namespace T47
open PySem PySem.Spec PyProof.Rows L2 Pk
section
variable {P : Program} {w : World} {K : PySem.W.Frag} {mg : Str → Option Value} {base : Heap}
theorem gs_was {S : Sm} {L L' : Nat} {G H G1 H1 : Hp} (g : Gs S L L' G H G1 H1) {p : Addr} (h : H1 p = none) : H p = none := by
  cases e : H p with
  | none => rfl
  | some u =>
    obtain ⟨o', e'⟩ := g.kp p u e
    rw [h] at e'
    cases e'
theorem evs_tup {S : Sm} {σ : L2.St} {G : Hp} {as : TA} {n : Nat} {pl : List D → Prop} (h : EvAS K S as σ G n pl) (hl : ∀ ds, pl ds → ds.length ≤ 100000) : EvS K S (tTup as) σ G n (fun d => ∃ ds, d = .tup ds ∧ pl ds) := fun L H w hL Q q =>
  h L H w hL _ fun vs ds G1 H1 g1 hds hvs => ⟨Nat.le_trans (Nat.le_of_eq hvs.length) (Nat.le_trans (hl ds hds) (by decide)), fun p hp =>
    q (.ref p) (.tup ds) _ _ (gs_keep w (gs_new w g1 hp) (gs_was g1 hp) (same_none g1.w.g hp) upd_same) ⟨ds, rfl, hds⟩ (.tup (.inl upd_same) (hvs.up (same_new (same_none g1.w.g hp))))⟩
theorem evs_lst {S : Sm} {σ : L2.St} {G : Hp} {as : TA} {n : Nat} {pl : List D → Prop} (h : EvAS K S as σ G n pl) (hl : ∀ ds, pl ds → ds.length ≤ 100000) : EvS K S (tLst as) σ G n (fun d => ∃ ds, d = .lst ds ∧ pl ds) := fun L H w hL Q q =>
  h L H w hL _ fun vs ds G1 H1 g1 hds hvs => ⟨Nat.le_trans (Nat.le_of_eq hvs.length) (Nat.le_trans (hl ds hds) (by decide)), fun p hp =>
    q (.ref p) (.lst ds) _ _ (gs_keep w (gs_new w g1 hp) (gs_was g1 hp) (same_none g1.w.g hp) upd_same) ⟨ds, rfl, hds⟩ (.lst (.inl upd_same) (hvs.up (same_new (same_none g1.w.g hp))))⟩
theorem perm_map {α β : Type} (f : α → β) {ys l : List β} (h : ys.Perm l) : ∀ xs : List α, l = xs.map f → ∃ zs : List α, ys = zs.map f ∧ zs.Perm xs := by
  induction h with
  | nil => intro xs e; exact ⟨[], rfl, by rw [List.map_eq_nil_iff.mp e.symm]⟩
  | cons a _ ih =>
    intro xs e
    cases xs with
    | nil => cases e
    | cons x xs =>
      obtain ⟨e1, e2⟩ := List.cons.inj e
      obtain ⟨zs, h1, h2⟩ := ih xs e2
      exact ⟨x :: zs, by rw [h1, e1]; rfl, .cons x h2⟩
  | swap a b l =>
    intro xs e
    cases xs with
    | nil => cases e
    | cons x xs =>
      obtain ⟨e1, e2⟩ := List.cons.inj e
      cases xs with
      | nil => cases e2
      | cons y xs =>
        obtain ⟨e3, e4⟩ := List.cons.inj e2
        exact ⟨y :: x :: xs, by rw [e1, e3, e4]; rfl, .swap x y xs⟩
  | trans _ _ ih1 ih2 =>
    intro xs e
    obtain ⟨zs, h1, h2⟩ := ih2 xs e
    obtain ⟨us, h3, h4⟩ := ih1 zs h1
    exact ⟨us, h3, h4.trans h2⟩
def costM : Nat := 2000000000000
/-- a new book of the law's talks -/
def sp_w_d_made (K : PySem.W.Frag) : Sp := fun vs H Q _ => ∃ S G L vR b, vs = [.ref S.s, vR] ∧ Wl S G L H ∧ L + costM ≤ Lmax ∧ Dq K G vR (.dic (lawD b)) ∧ LawB b ∧ ∀ v kb G' H', Gs S L (L + costM) G H G' H' → MixB b kb → IsBook K G' v kb → Q v H'
def madeR (b : Kept) (di y : D) : Prop := ∃ n rs, di = .str n ∧ y = talkD (n, rs) ∧ rs.Perm (rulesOf b n)
theorem talks_of {b : Kept} {zs : List Str} {ys : List D} (h : All2 (madeR b) (zs.map D.str) ys) : ∃ ts : List Talk, ys = ts.map talkD ∧ ts.map (·.1) = zs ∧ ∀ t ∈ ts, t.2.Perm (rulesOf b t.1) := by
  induction zs generalizing ys with
  | nil => cases h; exact ⟨[], rfl, rfl, fun _ h => nomatch h⟩
  | cons z zs ih =>
    cases h with
    | cons a r =>
      obtain ⟨n, rs, e1, e2, e3⟩ := a
      cases e1
      obtain ⟨ts, h1, h2, h3⟩ := ih r
      refine ⟨(z, rs) :: ts, by rw [e2, h1]; rfl, by rw [List.map_cons, h2], fun t ht => ?_⟩
      rcases List.mem_cons.mp ht with e | ht
      · rw [e]; exact e3
      · exact h3 t ht

theorem sc_w_d_made : FnScope ["_law_stream", "_law_rules", "_law_talks", "_law_name"] ["_law_stream", "_law_rules"] (defScope T47.s_w_d_made) := ⟨rfl, rfl, rfl, by decide +kernel, rfl, by decide +kernel, by decide +kernel⟩
theorem has_w_d_made (T : Tx w K mg) (h_w_loose : Has P w K mg base CX0 "_law_loose" (7) ["_law_stream", "_law_thing"] (sp_loose K 5)) (h_w_mixed : Has P w K mg base CX0 "_law_mixed" (2) ["_law_stream", "_law_some"] (sp_w_mixed K)) (mk_Book : C8.Mak P w K mg base 6 "Book" (He.ga K "Book") (sp_Book_init K) []) : Has P w K mg base CX0 "_law_d_made" (8) ["_law_stream", "_law_rules"] (sp_w_d_made K) := by
  obtain ⟨fd, F⟩ := T.def_ 41
  have gm := T.glo (x := "_law_d_made") 53
  have z_list := T.free (x := "list") 88
  have nd := sc_w_d_made.nd
  refine has_of F gm sc_w_d_made (fun _ _ _ _ _ _ us hl => match us, hl with | [_, _], _ => rfl) (fun vs H Q E h => ?_) (fun cdv A outer s H vs Q E hr h => ?_)
  · obtain ⟨_, _, _, _, _, e, _⟩ := h; rw [e]; rfl
  · refine ⟨_, (pss_cons (ps_setLc (i := 2) (own := [("_law_name", 3)]) (g := gName 3) (tt := tYes) rfl nd rfl rfl (sw_true rfl rfl rfl (by decide +kernel)) (pi_seq (pe_h h_w_mixed (hr.mono (by omega)) rfl (pa_cons (pv 0) (pa_cons (pe_callTy (call_listD rfl) rfl z_list (by decide +kernel) (pa_cons (pv 1) pa_nil)) pa_nil)))) (blkOk_by (own := [("_law_name", 3)]) (N := ["_law_stream", "_law_rules", "_law_talks", "_law_name"]) (sc := (defScope T47.s_w_d_made)) (by decide +kernel)) (fun _ _ _ _ _ => (pg_name (i := 3) nd rfl (Or.inl rfl))) (fun _ _ _ _ _ => pts_nil) (fun _ _ _ _ _ => (pe_tup (pa_cons (pv 3) (pa_cons (pe_h h_w_mixed (hr.mono (by omega)) rfl (pa_cons (pv 0) (pa_cons (pe_dget (hu_of hr) (pv 1) (pv 3) (fun _ _ => rfl)) pa_nil))) pa_nil)))))
        (pss_one (ps_ret (C8.pe_mk (k := 6) mk_Book hr (by omega) rfl (pa_cons (pe_h h_w_loose (hr.mono (by omega)) rfl (pa_cons (pv 0) (pa_cons (pv 2) pa_nil))) pa_nil))))), ?_⟩
    obtain ⟨S, G, L, vR, b, rfl, hw, hL, hR, hb, q⟩ := h
    have hlen : (b.map (·.1)).length ≤ 60 := by rw [List.length_map]; exact hb.snd.sz.1
    have hc : cost 5 = 1001001001001 := rfl
    have hcM : costM = 2000000000000 := rfl
    refine hs_set (K := K) (evs_lc (K := K) (j := 3) (B := 60) (n := 64) (m := 64) (ps := fun ds => ∃ zs : List Str, ds = zs.map D.str ∧ zs.Perm (b.map (·.1))) (srcs_seq (evs_mixed (xs := b.map (·.1)) rfl ((ev_listDic (ev_var (i := 1) rfl hR)).is (by rw [lawD_names])) (by omega)) fun d ⟨ds, hd, z⟩ => ⟨ds, by rw [hd]; exact .lst _, z⟩) (fun ds ⟨zs, e, hp⟩ => by rw [e, List.length_map, hp.length_eq]; exact hlen) (by decide) (fun _ => rfl) (madeR b) ?_) hw (by omega) fun v d G1 H1 g1 ⟨ds, ys, ⟨zs, hz, hzp⟩, hd, h2⟩ hv => ?_
    · rintro ds di u G2 ⟨zs, rfl, hzp⟩ hdm e2 hu
      obtain ⟨n, hn, rfl⟩ := List.mem_map.mp hdm
      have hnb := hzp.mem_iff.mp hn
      have hlt : (rulesOf b n).length ≤ 60 := hb.snd.lt _ (rulesOf_mem hnb).2
      refine (evs_tup (n := 0 + (64 + 0)) (pl := fun ds => ∃ ys, ds = [.str n, .lst ys] ∧ ys.Perm ((rulesOf b n).map lawRule)) (eas_cons (p := fun d => d = .str n) (pr := fun ds => ∃ ys, ds = [.lst ys] ∧ ys.Perm ((rulesOf b n).map lawRule)) ((ev_var (i := 3) rfl hu).toS rfl) (fun d G3 e3 _ => eas_cons (p := fun d => ∃ ys, d = .lst ys ∧ ys.Perm ((rulesOf b n).map lawRule)) (pr := fun ds => ds = []) ?_ (fun _ _ _ _ => eas_nil) fun d ds ⟨ys, h1, h2⟩ h3 => ⟨ys, by rw [h1, h3], h2⟩) fun d ds h1 ⟨ys, h2, h3⟩ => ⟨ys, by rw [h1, h2], h3⟩) fun ds ⟨ys, e, _⟩ => by rw [e]; show 2 ≤ 100000; decide).imp ?_
      · have := evs_call (K := K) (S := S) (n := 0) (m := 64) (f := fun ds p => ∃ x es, ds = [x] ∧ Lk x es ∧ es.length ≤ 64 ∧ p = fun d => ∃ ys, d = .lst ys ∧ ys.Perm es) (p := fun d => ∃ ys, d = .lst ys ∧ ys.Perm ((rulesOf b n).map lawRule)) (i := 0) (E := E0) (σ := (wipe [some (.ref S.s), some vR, none, none] [3]).set 3 (some u)) (pl := fun ds => ds = [.lst ((rulesOf b n).map lawRule)]) rfl ((ea_cons (ev_lawName (ev_var (i := 1) rfl ((hR.up e2).up e3)) (ev_var (i := 3) rfl (hu.up e3)) hnb) ea_nil).toS rfl) fun ds hds => ⟨_, _, hds, .lst _, by rw [List.length_map]; omega, rfl⟩
        rw [Nat.zero_add] at this
        exact this
      · rintro d ⟨ds, rfl, ys, rfl, hp⟩
        obtain ⟨rs, rfl, hrs⟩ := perm_map lawRule hp _ rfl
        exact ⟨n, rs, rfl, rfl, hrs⟩
    · subst hz hd
      obtain ⟨ts, rfl, h3, h4⟩ := talks_of h2
      have hsh : ShufB b ts := ⟨by rw [h3]; exact hzp, h4⟩
      have hok := shuf_ok hb hsh
      have hmix := shuf_mix hb hsh
      refine evs_call (K := K) (S := S) (n := 0) (m := cost 5) (f := fun ds p => ∃ x, ds = [x] ∧ Deep 5 x ∧ p = fun d => Alike x d) (p := fun d => Alike (.lst (ts.map talkD)) d) (i := 0) (E := E0) (σ := [some (.ref S.s), some vR, some v, none]) (pl := fun ds => ds = [.lst (ts.map talkD)]) rfl ((ea_cons (ev_var (i := 2) rfl hv) ea_nil).toS rfl) (fun ds hds => ⟨_, hds, deep_talks hok, rfl⟩) _ H1 g1.w (by omega) _ fun v2 d2 G2 H2 g2 hd2 hv2 => ?_
      intro x dx hx hdx hne
      refine ⟨G2, H2, x, dx, v2, d2, ts, rfl, g2.w.g, hx, hdx, hne, rfl, hv2, alike_talks hd2, hok, fun p hp => ?_, fun G' H' vr vn gr gx hx' hvr => ⟨rfl, ?_⟩⟩
      · exact hmix.ends hb.nd (hb.ends _ (hmix.mem.mp (List.mem_map.mpr ⟨p, hp, rfl⟩)))
      · have g12 := (g1.trans g2).trans (Gs.of g2.w gr)
        have gk := gs_keep hw g12 (gs_was (g1.trans g2) hx) gx hx'
        exact q (.ref x) (bookOf ts) _ H' (gk.more (by omega)) hmix ⟨x, dx, vr, vn, rfl, upd_same, hvr.up (same_new gx)⟩

end
end T47
/-! New lists and dicts that may change. -/
namespace Pk
open PySem PySem.Spec PyProof.Rows L2
section
variable {K : PySem.W.Frag} {σ : L2.St} {G G1 H H1 : Hp} {te ta tb tl : TE} {tt : TT} {as : TA} {d x : D} {ds es : List D} {wi : TI} {g : TG} {vs : List Nat} {D0 : L2.Ends} {u : TS}
/-- a new list, which may change -/
def EvM (K : PySem.W.Frag) (te : TE) (σ : L2.St) (G : Hp) (ds : List D) : Prop := ∀ H, Same G H → ∀ Q : VK, (∀ a vs G' H', Gr G H G' H' → H a = none → G' a = none → H' a = some (.lst vs) → Dqs K G' vs ds → Q (.ref a) H') → te σ H Q
theorem EvM.is (h : EvM K te σ G ds) (e : ds = es) : EvM K te σ G es := e ▸ h
theorem evm_lst (h : EvA K as σ G ds) (hl : ds.length ≤ 100000) : EvM K (tLst as) σ G ds := fun H e Q q =>
  h H e _ fun vs G1 H1 g1 hvs => ⟨Nat.le_trans (Nat.le_of_eq hvs.length) (Nat.le_trans hl (by decide)), fun p hp => q p vs G1 _ (g1.trans (Gr.ov g1.gh hp)) (same_none g1.h hp) (same_none g1.gh hp) upd_same hvs⟩
theorem evm_list (hk : Lk d ds) (h : EvD K te σ G d) : EvM K (tCB (fun xs H Q => ∃ p ys, xs = [.ref p] ∧ (SqL K H p ys ∨ SqT K H p ys) ∧ ∀ l, H l = none → Q (.ref l) (upd H l (.lst ys))) (tCons te tNil)) σ G ds := fun H e Q q => h H e _ fun v G1 H1 g1 hv => by
  cases hk with
  | lst ds =>
    cases hv with
    | @lst a xs _ hr hs => exact ⟨a, xs, rfl, .inl (seqL (Rd.up g1.gh hr)), fun p hp => q p xs G1 _ (g1.trans (Gr.ov g1.gh hp)) (same_none g1.h hp) (same_none g1.gh hp) upd_same hs⟩
  | tup ds =>
    cases hv with
    | @tup a xs _ hr hs => exact ⟨a, xs, rfl, .inr (seqT (Rd.up g1.gh hr)), fun p hp => q p xs G1 _ (g1.trans (Gr.ov g1.gh hp)) (same_none g1.h hp) (same_none g1.gh hp) upd_same hs⟩
/-- [e for target in s if t], a list that may change -/
theorem evm_lcS (h : Src K wi σ G ds) (hz : ds.length < 50000) (f : D → Bool) (v : D → D) (P : D → L2.St → Hp → Prop) (hT : ∀ di ∈ ds, TgOk K g (wipe σ vs) di (P di)) (hw : ∀ di σ2 G1, di ∈ ds → P di σ2 G1 → wipe σ2 vs = wipe σ vs)
    (ht : ∀ di σ2 G1, di ∈ ds → Same G G1 → P di σ2 G1 → EvB tt σ2 G1 (f di)) (he : ∀ di σ2 G1, di ∈ ds → Same G G1 → P di σ2 G1 → f di = true → EvD K te σ2 G1 (v di)) : EvM K (tLc wi g tt te vs) σ G ((ds.filter f).map v) := fun H e Q q =>
  h H e _ fun G1 H1 J g1 hgo hst hy Dl hD => by
    have sm : ∀ (ys : List D) (H' : Hp), LcInv K G1 H1 Dl ys H' → Same G1 H' := fun ys H' ⟨G2, acc, g2, _, _, _, _⟩ => g2.g.trans g2.gh
    refine lc_gen (n := ds.length) (fun i x => ∃ di, ds[i]? = some di ∧ Dq K G1 x di) (fun i H' => LcInv K G1 H1 Dl (((ds.take i).filter f).map v) H') (lcInv_start g1.gh hD)
      (fun i H' hlt p => hgo i H' hlt (sm _ H' p)) (fun H' p => hst H' (sm _ H' p)) (fun i H' x H'' hlt p y => hy i H' x H'' hlt (sm _ H' p) y) (fun i x H' hlt ⟨di, hdi, hq⟩ p => ?_) (fun H' p => ?_)
    · have hm := List.mem_of_getElem? hdi
      refine lc_turn (b := f di) (y := v di) p (by have := fm_len (ds := ds) (i := i) f v; omega) hq (hT di hm) (fun σ2 G2 z => hw di σ2 G2 hm z) (fun σ2 G2 e2 z => ht di σ2 G2 hm (g1.g.trans e2) z) (fun σ2 G2 e2 z hb => he di σ2 G2 hm (g1.g.trans e2) z hb) fun H2 p2 => ?_
      rw [fm_next f v hdi]
      exact p2
    · obtain ⟨G2, acc, g2, k0, k1, k2, k3⟩ := p
      rw [List.take_length] at k3
      exact q Dl acc G2 H' (g1.trans g2) (same_none g1.h hD) k1 k2 k3
theorem evm_lcS1 {j : Nat} (h : Src K wi σ G ds) (hz : ds.length < 50000) (v : D → D) (hw : ∀ u, wipe ((wipe σ [j]).set j (some u)) [j] = wipe σ [j])
    (he : ∀ di u G1, di ∈ ds → Same G G1 → Dq K G1 u di → EvD K te ((wipe σ [j]).set j (some u)) G1 (v di)) : EvM K (tLc wi (gName j) tYes te [j]) σ G (ds.map v) := by
  refine (evm_lcS h hz (fun _ => true) v (fun di σ2 G2 => ∃ u, Dq K G2 u di ∧ σ2 = (wipe σ [j]).set j (some u)) (fun di _ => tg_name) (fun di σ2 G1 _ ⟨u, _, e⟩ => by rw [e]; exact hw u) (fun di σ2 G1 _ _ _ => eb_yes) ?_).is ?_
  · rintro di σ2 G1 hm e1 ⟨u, hu, rfl⟩ _
    exact he di u G1 hm e1 hu
  · rw [List.filter_eq_self.mpr (fun _ _ => rfl)]
/-- the list at a, which may change, holds ds -/
structure MuL (K : PySem.W.Frag) (G H : Hp) (a : Addr) (ds : List D) : Prop where
  ex : ∃ vs, H a = some (.lst vs) ∧ G a = none ∧ Dqs K G vs ds
theorem MuL.is {a : Addr} (m : MuL K G H a ds) (e : ds = es) : MuL K G H a es := e ▸ m
theorem MuL.gr {a : Addr} (m : MuL K G H a ds) (g : Gr G H G1 H1) : MuL K G1 H1 a ds := by
  obtain ⟨vs, h1, h2, h3⟩ := m.ex
  exact ⟨vs, g.h _ _ h1, g.apart h1 h2, h3.up g.g⟩
theorem m_set {i : Nat} (h : EvM K te σ G ds) (e : Same G H) (k : ∀ a G1 H1, Gr G H G1 H1 → H a = none → MuL K G1 H1 a ds → u D0 (σ.set i (some (.ref a))) H1) : tSeq (tAsg te (gName i)) u D0 σ H := h H e _ fun a vs G1 H1 g1 h0 h1 h2 h3 => k a G1 H1 g1 h0 ⟨vs, h2, h1, h3⟩
/-- what the list is, it is for good -/
theorem MuL.keep {G0 H0 : Hp} {a : Addr} (m : MuL K G H a ds) (g : Gr G0 H0 G H) (h0 : H0 a = none) : ∃ G', Gr G0 H0 G' H ∧ Dq K G' (.ref a) (.lst ds) ∧ Same G G' := by
  obtain ⟨vs, k1, k2, k3⟩ := m.ex
  have s1 : Same G (upd G a (.lst vs)) := same_new k2
  refine ⟨upd G a (.lst vs), ⟨g.g.trans s1, g.h, same_mut g.gh k1, fun b o e => ?_⟩, .lst (.inl upd_same) (k3.up s1), s1⟩
  by_cases hb : b = a
  · rw [hb]; exact .inr h0
  · rw [upd_ne hb] at e
    exact g.nw b o e
/-- x.extend(e), e a new list -/
theorem h_ext {i : Nat} {a : Addr} (hi : σ[i]? = some (some (.ref a))) (m : MuL K G H a ds) (h : EvM K te σ G es) (hl : ds.length + es.length ≤ 100000) (e : Same G H) (k : ∀ G1 H1 o, Gr G H G1 H1 → MuL K G1 (upd H1 a o) a (ds ++ es) → G1 a = none → D0.nx σ (upd H1 a o)) :
    tDrop (tBM K "list" rExtend (tVar i) (tCons te tNil)) D0 σ H := by
  obtain ⟨vs, k1, k2, k3⟩ := m.ex
  refine ⟨.ref a, hi, .inl ⟨rfl, vs, seqL (.inl k1)⟩, h H e _ fun b zs G1 H1 g1 h0 h1 h2 h3 => ⟨a, b, vs, zs, rfl, rfl, g1.h _ _ k1, h2, ?_, ?_⟩⟩
  · rw [k3.length, h3.length]
    exact Nat.le_trans hl (by decide)
  · exact k G1 H1 _ g1 ⟨_, upd_same, g1.apart k1 k2, (k3.up g1.g).append h3⟩ (g1.apart k1 k2)
/-- x.append(e) -/
theorem h_app {i : Nat} {a : Addr} (hi : σ[i]? = some (some (.ref a))) (m : MuL K G H a ds) (h : EvD K te σ G d) (hl : ds.length ≤ 100000) (e : Same G H) (k : ∀ G1 H1 o, Gr G H G1 H1 → MuL K G1 (upd H1 a o) a (ds ++ [d]) → G1 a = none → D0.nx σ (upd H1 a o)) :
    tDrop (tBM K "list" rAppend (tVar i) (tCons te tNil)) D0 σ H := by
  obtain ⟨vs, k1, k2, k3⟩ := m.ex
  refine ⟨.ref a, hi, .inl ⟨rfl, vs, seqL (.inl k1)⟩, h H e _ fun v G1 H1 g1 hv => ⟨a, vs, v, rfl, rfl, g1.h _ _ k1, ?_, ?_⟩⟩
  · rw [k3.length]
    exact Nat.lt_of_le_of_lt hl (by decide)
  · exact k G1 H1 _ g1 ⟨_, upd_same, g1.apart k1 k2, (k3.up g1.g).snoc hv⟩ (g1.apart k1 k2)
/-- t + u of tuples -/
theorem ev_catT {xs ys : List D} (ha : EvD K ta σ G (.tup xs)) (hb : EvD K tb σ G (.tup ys)) (hl : xs.length + ys.length ≤ 100000) : EvD K (tOp (rCatA K) ta tb) σ G (.tup (xs ++ ys)) := fun H e Q q =>
  ha H e _ fun v G1 H1 g1 hv => (hb.up g1.g) H1 g1.gh _ fun w G2 H2 g2 hw => by
    have hv2 := hv.up g2.g
    cases hv with
    | @tup a us _ r1 s1 =>
    cases hw with
    | @tup b ws _ r2 s2 =>
    have s1' := s1.up g2.g
    have r1' := Rd.up g2.g r1
    refine ⟨a, b, us, ws, rfl, rfl, seqT (Rd.up g2.gh r1'), seqT (Rd.up g2.gh r2), by rw [s1.length, s2.length]; exact Nat.le_trans hl (by decide), fun z => ?_, fun _ z => ?_, fun _ _ p hp => ?_⟩
    · subst z
      cases s1
      exact q _ G2 H2 (g1.trans g2) (.tup r2 s2)
    · subst z
      cases s2
      refine q _ G2 H2 (g1.trans g2) ?_
      rw [List.append_nil]
      exact .tup r1' s1'
    · exact q _ _ _ ((g1.trans g2).trans (Gr.new g2.gh hp)) (.tup (.inl upd_same) ((s1'.append s2).up (same_new (same_none g2.gh hp))))
/-! ### dict(pairs) -/
def pairD (p : Str × D) : D := .tup [.str p.1, p.2]
theorem pairs_dq : ∀ {kvs : List (Str × D)} {vs : List V}, Dqs K G vs (kvs.map pairD) → ∃ (ps : List Addr) (ws : List (Key × V)), vs = ps.map V.ref ∧ (∀ H, Same G H → Paired (fun p kv => SqT K H p [kV kv.1, kv.2]) ps ws) ∧ DicAt K G ws kvs
  | [], _, h => by cases h; exact ⟨[], [], rfl, fun _ _ => .nil, rfl, .nil⟩
  | p :: kvs, _, h => by
    cases h with
    | cons a b =>
      obtain ⟨ps, ws, e, h1, h2⟩ := pairs_dq b
      cases a with
      | @tup ad us _ r s =>
        cases s with
        | cons c s =>
          cases s with
          | cons d0 s =>
            cases s
            cases c
            rename_i w
            refine ⟨ad :: ps, (Sum.inr p.1, w) :: ws, by rw [e]; rfl, fun H eH => .cons (seqT (Rd.up eH r)) (h1 H eH), ?_, .cons d0 h2.v⟩
            rw [List.map_cons, List.map_cons, h2.k]
theorem merge_new : ∀ {ws acc : List (Key × V)}, ((acc ++ ws).map (·.1)).Nodup → mergeK acc ws = acc ++ ws
  | [], acc, _ => by rw [List.append_nil]; rfl
  | w :: ws, acc, h => by
    show mergeK (putK acc w.1 w.2) ws = _
    have hn : ¬ (acc.any fun kv => decide (kv.1 = w.1)) = true := fun z => by
      obtain ⟨kv, h1, h2⟩ := List.any_eq_true.mp z
      rw [List.map_append, List.nodup_append] at h
      exact h.2.2 kv.1 (List.mem_map.mpr ⟨kv, h1, rfl⟩) w.1 (by simp) (of_decide_eq_true h2)
    have e : putK acc w.1 w.2 = acc ++ [w] := by unfold putK; rw [if_neg hn]
    rw [e, merge_new (by rw [List.append_assoc]; exact h), List.append_assoc]
    rfl
theorem dicAt_nodup {kvs : List (Str × D)} {ws : List (Key × V)} (h : DicAt K G ws kvs) (hn : (kvs.map (·.1)).Nodup) : (ws.map (·.1)).Nodup := by
  rw [h.k]
  have := List.Pairwise.map (f := fun x : Str => (Sum.inr x : Key)) (R := fun a b : Str => a ≠ b) (S := fun a b => a ≠ b) (fun a b ne z => ne (Sum.inr.inj z)) hn
  rwa [List.map_map] at this
/-- dict(pairs), a dict that may change -/
theorem mu_dictP {kvs : List (Str × D)} {Q : VK} (h : EvD K te σ G (.lst (kvs.map pairD))) (hn : (kvs.map (·.1)).Nodup) (e : Same G H) (q : ∀ a G1 H1, Gr G H G1 H1 → H a = none → MuD K G1 H1 a kvs → Q (.ref a) H1) :
    tCB (fun xs H Q => ∃ (a : Addr) (ps : List Addr) (kvs : List (Key × V)), xs = [.ref a] ∧ SqL K H a (ps.map V.ref) ∧ Paired (fun p kv => SqT K H p [kV kv.1, kv.2]) ps kvs ∧ ∀ p, H p = none → Q (.ref p) (upd H p (.dK (mergeK [] kvs)))) (tCons te tNil) σ H Q := h H e _ fun v G1 H1 g1 hv => by
  cases hv with
  | @lst a xs _ hr hs =>
    obtain ⟨ps, ws, ex, h1, h2⟩ := pairs_dq hs
    subst ex
    refine ⟨a, ps, ws, rfl, seqL (Rd.up g1.gh hr), h1 H1 g1.gh, fun p hp => ?_⟩
    rw [merge_new (by rw [List.nil_append]; exact dicAt_nodup h2 hn), List.nil_append]
    exact q p G1 _ (g1.trans (Gr.ov g1.gh hp)) (same_none g1.h hp) ⟨ws, upd_same, same_none g1.gh hp, h2⟩
/-- dict(pairs), to stay -/
theorem ev_dictP {kvs : List (Str × D)} (h : EvD K te σ G (.lst (kvs.map pairD))) (hn : (kvs.map (·.1)).Nodup) :
    EvD K (tFrz (tCB (fun xs H Q => ∃ (a : Addr) (ps : List Addr) (kvs : List (Key × V)), xs = [.ref a] ∧ SqL K H a (ps.map V.ref) ∧ Paired (fun p kv => SqT K H p [kV kv.1, kv.2]) ps kvs ∧ ∀ p, H p = none → Q (.ref p) (upd H p (.dK (mergeK [] kvs)))) (tCons te tNil))) σ G (.dic kvs) := fun H e Q q =>
  mu_dictP h hn e fun a G1 H1 g1 h0 m => by
    obtain ⟨ws, k1, k2, k3⟩ := m.ex
    refine ⟨a, _, rfl, k1, True.intro, fun od => ?_⟩
    obtain ⟨G', g2, hv, _⟩ := dq_frz g1 h0 k2 k3 od
    exact q _ G' _ g2 hv
end
end Pk
/-! _law_d_odd_rows, _law_g_odd_words. -/
namespace T47
open PySem PySem.Spec PyProof.Rows L2 Pk
section
variable {P : Program} {w : World} {K : PySem.W.Frag} {mg : Str → Option Value} {base : Heap}
/-- pairs of what is odd and where -/
def oddPairs (ok : D → Bool) (d : D) : Prop := ∃ es, d = .lst es ∧ es.length ≤ 60 ∧ ∀ e ∈ es, ∃ (o : D) (i : Nat), e = .tup [o, .int (i : Nat)] ∧ OddAt ok o i ∧ (∀ ds, Lk o ds → ds.length ≤ 10 ∧ ∀ x ∈ ds, short x)
def sp_w_d_odd_rows (K : PySem.W.Frag) : Sp := spP K fun ds p => ∃ b, ds = [.dic (lawD b)] ∧ b ≠ [] ∧ b.length ≤ 60 ∧ (b.map (·.1)).Nodup ∧ (∀ n ∈ b.map (·.1), n ∈ namesL) ∧ p = oddPairs (oneOf b)
def sp_w_g_odd_words (K : PySem.W.Frag) : Sp := spP K fun ds p => ∃ ws : List Str, ds = [rowD ws] ∧ ws.length ≤ 2 ∧ (∀ x ∈ ws, isLetter x = true ∧ x.length ≤ 1000) ∧ p = oddPairs isLetterD
def oddR : List D := [.non, .int 5, .str "", .str "late9", .lst [.str "a"], .tup [], .bl true]
def oddW : List D := [.non, .int 5, .str "", .str "!", .str "ninesigns", .str "A", .lst [.str "a"], .str "a1", .str "say", .str "a!", .str "? a", .bl true]
/-- what follows good names or letters -/
def oddTwo (gs : List Str) (o : D) : List D := [.tup [.lst (gs.map D.str ++ [o, .non]), .int (gs.length : Nat)], .tup [.tup (gs.map D.str ++ [o]), .int (gs.length : Nat)]]
def oddAll (gs : List Str) (os : List D) : List D := (os.map (oddTwo gs)).flatten
theorem oddAll_next (gs : List Str) {os : List D} {i : Nat} {o : D} (h : os[i]? = some o) : oddAll gs (os.take (i + 1)) = oddAll gs (os.take i) ++ oddTwo gs o := by
  unfold oddAll
  rw [take_next h, List.map_append, List.flatten_append]
  simp
theorem oddAll_len (gs : List Str) : ∀ os : List D, (oddAll gs os).length = 2 * os.length
  | [] => rfl
  | o :: os => by
    show (oddTwo gs o ++ oddAll gs os).length = _
    rw [List.length_append, oddAll_len gs os, List.length_cons]
    show 2 + _ = _
    omega
theorem odd_two {ok : D → Bool} {gs : List Str} {o : D} (hg : ∀ x ∈ gs, ok (.str x) = true) (ho : ok o = false) {rest : List D} {x : D} (hk : Lk x (gs.map D.str ++ (o :: rest))) : OddAt ok x gs.length := by
  refine .inr ⟨_, o, hk, ?_, ho, fun j y hj hy => ?_⟩
  · rw [List.getElem?_append_right (by simp)]
    simp
  · rw [List.getElem?_append_left (by rw [List.length_map]; exact hj), List.getElem?_map] at hy
    obtain ⟨z, hz, rfl⟩ := Option.map_eq_some_iff.mp hy
    exact hg z (List.mem_of_getElem? hz)
theorem odd_all {ok : D → Bool} {gs : List Str} {os : List D} (hg : ∀ x ∈ gs, ok (.str x) = true ∧ x.length ≤ 1000) (hl : gs.length ≤ 2) (ho : ∀ o ∈ os, ok o = false ∧ short o) {e : D} (he : e ∈ oddAll gs os) :
    ∃ (o : D) (i : Nat), e = .tup [o, .int (i : Nat)] ∧ OddAt ok o i ∧ (∀ ds, Lk o ds → ds.length ≤ 10 ∧ ∀ x ∈ ds, short x) := by
  unfold oddAll at he
  obtain ⟨l, hl1, hl2⟩ := List.mem_flatten.mp he
  obtain ⟨o, h1, rfl⟩ := List.mem_map.mp hl1
  obtain ⟨h2, h3⟩ := ho o h1
  have sh : ∀ x ∈ gs.map D.str, short x := fun x hx => by
    obtain ⟨y, hy, rfl⟩ := List.mem_map.mp hx
    intro z hz
    cases hz
    exact (hg y hy).2
  have shn : short .non := fun z hz => by cases hz
  rcases List.mem_cons.mp hl2 with z | hl2
  · subst z
    refine ⟨_, _, rfl, odd_two (fun x hx => (hg x hx).1) h2 (.lst _), fun ds hk => ?_⟩
    rw [lk_inj hk (.lst _)]
    refine ⟨by rw [List.length_append, List.length_map]; simp; omega, fun x hx => ?_⟩
    rcases List.mem_append.mp hx with hx | hx
    · exact sh x hx
    · rcases List.mem_cons.mp hx with z | hx
      · rw [z]; exact h3
      · rw [List.mem_singleton.mp hx]; exact shn
  · have z := List.mem_singleton.mp hl2
    subst z
    refine ⟨_, _, rfl, odd_two (fun x hx => (hg x hx).1) h2 (.tup _), fun ds hk => ?_⟩
    rw [lk_inj hk (.tup _)]
    refine ⟨by rw [List.length_append, List.length_map]; simp; omega, fun x hx => ?_⟩
    rcases List.mem_append.mp hx with hx | hx
    · exact sh x hx
    · rw [List.mem_singleton.mp hx]; exact h3
/-- the pairs (odd, 0) of what is no list -/
theorem odd_head {ok : D → Bool} {os : List D} (h : ∀ o ∈ os, isL o = false) {e : D} (he : e ∈ os.map fun o => D.tup [o, .int 0]) : ∃ (o : D) (i : Nat), e = .tup [o, .int (i : Nat)] ∧ OddAt ok o i ∧ (∀ ds, Lk o ds → ds.length ≤ 10 ∧ ∀ x ∈ ds, short x) := by
  obtain ⟨o, ho, rfl⟩ := List.mem_map.mp he
  exact ⟨o, 0, rfl, .inl ⟨h o ho, rfl⟩, fun ds hk => by have := h o ho; rw [hk.isL] at this; cases this⟩

theorem nameL_len {n : Str} (h : n ∈ namesL) : n.length ≤ 1000 := by
  have : ∀ n ∈ namesL, n.length ≤ 8 := by decide +kernel
  have := this n h
  omega
theorem odd_rows {b : Kept} (hnm : ∀ n ∈ b.map (·.1), n ∈ namesL) : ∀ o ∈ oddR.take oddR.length, oneOf b o = false ∧ short o := by
  have key : ∀ x : Str, x ∉ namesL → x.length ≤ 1000 → oneOf b (.str x) = false ∧ short (.str x) := fun x hx hl => ⟨by
    show (lookK b x).isSome = false
    rw [lookK_none fun z => hx (hnm x z)]
    rfl, fun z hz => by cases hz; exact hl⟩
  intro o ho
  rw [List.take_length] at ho
  simp only [oddR, List.mem_cons, List.not_mem_nil, or_false] at ho
  rcases ho with h | h | h | h | h | h | h
  · rw [h]; exact ⟨rfl, fun z hz => by cases hz⟩
  · rw [h]; exact ⟨rfl, fun z hz => by cases hz⟩
  · rw [h]; exact key _ (by decide +kernel) (by decide +kernel)
  · rw [h]; exact key _ (by decide +kernel) (by decide +kernel)
  · rw [h]; exact ⟨rfl, fun z hz => by cases hz⟩
  · rw [h]; exact ⟨rfl, fun z hz => by cases hz⟩
  · rw [h]; exact ⟨rfl, fun z hz => by cases hz⟩
theorem odd_words : ∀ o ∈ oddW.take oddW.length, isLetterD o = false ∧ short o := by
  intro o ho
  rw [List.take_length] at ho
  have sh : ∀ x : Str, x.length ≤ 1000 → short (.str x) := fun x hl z hz => by cases hz; exact hl
  simp only [oddW, List.mem_cons, List.not_mem_nil, or_false] at ho
  rcases ho with h | h | h | h | h | h | h | h | h | h | h | h <;> rw [h] <;> refine ⟨by decide +kernel, ?_⟩ <;> first | exact sh _ (by decide +kernel) | (intro z hz; cases hz)

theorem sc_w_d_odd_rows : FnScope ["_law_rules", "_law_good", "_law_found", "_law_odd", "_law_name"] ["_law_rules"] (defScope T47.s_w_d_odd_rows) := ⟨rfl, rfl, rfl, by decide +kernel, rfl, by decide +kernel, by decide +kernel⟩
theorem has_w_d_odd_rows (T : Tx w K mg) : Has P w K mg base CX0 "_law_d_odd_rows" (1) ["_law_rules"] (sp_w_d_odd_rows K) := by
  obtain ⟨fd, F⟩ := T.def_ 45
  have gm := T.glo (x := "_law_d_odd_rows") 57
  have z_dict := T.free (x := "dict") 83
  have z_len := T.free (x := "len") 87
  have z_list := T.free (x := "list") 88
  have z_tuple := T.free (x := "tuple") 95
  have nd := sc_w_d_odd_rows.nd
  refine has_of F gm sc_w_d_odd_rows (fun _ _ _ _ _ _ us hl => match us, hl with | [_], _ => rfl) (fun vs H Q E h => ?_) (fun cdv A outer s H vs Q E hr h => ?_)
  · exact spP_len h fun _ _ ⟨_, e, _⟩ => by rw [e]; rfl
  · refine ⟨_, (pss_cons (ps_set (i := 1) nd rfl (Or.inl rfl) (pe_slice sl_list (pe_callTy (call_listD rfl) rfl z_list (by decide +kernel) (pa_cons (pv 0) pa_nil)) po_none (po_some pe_int)))
        (pss_cons (ps_setLc (i := 2) (own := [("_law_odd", 3)]) (g := gName 3) (tt := tYes) rfl nd rfl rfl (sw_true rfl rfl rfl (by decide +kernel)) (pi_seq (pe_tup (pa_cons pe_non (pa_cons pe_int (pa_cons pe_str (pa_cons (pe_frz pe_dnewK) (pa_cons pe_bl (pa_cons (pe_frz (pe_callTy (call_dictP rfl) rfl z_dict (by decide +kernel) (pa_cons (pe_lc (own := [("_law_name", 4)]) (g := gName 4) (tt := tYes) rfl nd (pi_seq (pv 1)) (blkOk_by (own := [("_law_name", 4)]) (N := ["_law_rules", "_law_good", "_law_found", "_law_odd", "_law_name"]) (sc := (defScope T47.s_w_d_odd_rows)) (by decide +kernel)) (fun _ _ _ _ _ => (pg_name (i := 4) nd rfl (Or.inl rfl))) (fun _ _ _ _ _ => pts_nil) (fun _ _ _ _ _ => (pe_tup (pa_cons (pv 4) (pa_cons pe_int pa_nil))))) pa_nil))) pa_nil)))))))) (blkOk_by (own := [("_law_odd", 3)]) (N := ["_law_rules", "_law_good", "_law_found", "_law_odd", "_law_name"]) (sc := (defScope T47.s_w_d_odd_rows)) (by decide +kernel)) (fun _ _ _ _ _ => (pg_name (i := 3) nd rfl (Or.inl rfl))) (fun _ _ _ _ _ => pts_nil) (fun _ _ _ _ _ => (pe_tup (pa_cons (pv 3) (pa_cons pe_int pa_nil)))))
        (pss_cons (ps_for PassesOwn.never rfl (pi_seq (pe_tup (pa_cons pe_non (pa_cons pe_int (pa_cons pe_str (pa_cons pe_str (pa_cons (pe_lst (pa_cons pe_str pa_nil)) (pa_cons (pe_tup pa_nil) (pa_cons pe_bl pa_nil))))))))) (pg_name (i := 3) nd rfl (Or.inl rfl))
        (pss_one (ps_expr (pe_bm PySem.F.plainAttrs_list PySem.F.slot_list_extend PySem.F.type_list_extend mt_extend (pv 2) (pa_cons (pe_lst (pa_cons (pe_tup (pa_cons (pe_op op_catR (pv 1) (pe_lst (pa_cons (pv 3) (pa_cons pe_non pa_nil)))) (pa_cons (pe_callB call_len (by rfl) z_len (by decide +kernel) (pa_cons (pv 1) pa_nil)) pa_nil))) (pa_cons (pe_tup (pa_cons (pe_op op_catA (pe_callTy call_tuple_of (by rfl) z_tuple (by decide +kernel) (pa_cons (pv 1) pa_nil)) (pe_tup (pa_cons (pv 3) pa_nil))) (pa_cons (pe_callB call_len (by rfl) z_len (by decide +kernel) (pa_cons (pv 1) pa_nil)) pa_nil))) pa_nil))) pa_nil)))))
        (pss_one (ps_ret (pv 2)))))), ?_⟩
    obtain ⟨G, ds, p, e, hds, ⟨b, rfl, hne, hl60, hnd, hnm, rfl⟩, q⟩ := h
    cases hds with
    | cons hx hn =>
    cases hn
    rename_i vx
    have hgl : ((b.map (·.1)).take 2).length ≤ 2 := List.length_take_le _ _
    generalize hgs : (b.map (·.1)).take 2 = gs at hgl
    have hgn : ∀ x ∈ gs, x ∈ b.map (·.1) := fun x hx => List.mem_of_mem_take (by rw [hgs]; exact hx)
    have hgd : gs.Nodup := by rw [← hgs]; exact (List.take_sublist _ _).nodup hnd
    refine h_set (K := K) (d := rowD gs) ((ev_take (k := 2) ((ev_listDic (ev_var (i := 0) rfl hx)).is (by rw [lawD_names]; rfl)) (fun _ _ => po_no) (fun H Q q => po_int q)).is (by rw [hgs])) e fun vg G1 H1 g1 hvg => ?_
    have gd : ∀ (σ : L2.St) (G9 : Hp), Same G1 G9 → σ[1]? = some (some vg) → EvD K (tVar 1) σ G9 (rowD gs) := fun σ G9 e1 h1 => ev_var h1 (hvg.up e1)
    refine m_set (evm_lcS1 (ds := [.non, .int 5, .str "ab", .dic [], .bl true, .dic (gs.map fun n => (n, .int 1))]) (j := 3) (src_seq (ev_tup ((ea_cons ev_non (ea_cons ev_int (ea_cons ev_str (ea_cons ev_frznew (ea_cons ev_bl (ea_cons (ev_dictP ((ev_lcS1 (j := 4) (src_seq (gd _ _ (Same.refl _) rfl) (.lst _)) (by rw [List.length_map]; omega) (fun d => .tup [d, .int 1]) (fun _ => rfl) fun di u G2 hdm e2 hu => ev_tup (ea_cons (ev_var rfl hu) (ea_cons ev_int ea_nil)) (by show 2 ≤ 100000; decide)).is (by rw [List.map_map, List.map_map]; rfl)) (by rw [List.map_map]; simpa [Function.comp_def] using hgd)) ea_nil))))))) (by show 6 ≤ 100000; decide)) (.tup _)) (by show 6 < 50000; decide) (fun o => .tup [o, .int 0]) (fun _ => rfl) fun di u G2 hdm e2 hu => ev_tup (ea_cons (ev_var rfl hu) (ea_cons ev_int ea_nil)) (by show 2 ≤ 100000; decide)) g1.gh fun a G2 H2 g2 ha m2 => ?_
    refine f_seq (x := .tup oddR) (ev_tup ((ea_cons ev_non (ea_cons ev_int (ea_cons ev_str (ea_cons ev_str (ea_cons (ev_lst (ea_cons ev_str ea_nil) (by decide)) (ea_cons (ev_tup ea_nil (by decide)) (ea_cons ev_bl ea_nil)))))))) (by show 7 ≤ 100000; decide)) (.tup _) g2.gh fun G3 H3 g3 => ?_
    refine ⟨fun i σ' H' => ∃ b2, σ' = [some vx, some vg, some (.ref a), b2, none] ∧ ∃ G', Gr G1 H1 G' H' ∧ Same G3 G' ∧ MuL K G' H' a ([.non, .int 5, .str "ab", .dic [], .bl true, .dic (gs.map fun n => (n, .int 1))].map (fun o => .tup [o, .int 0]) ++ oddAll gs (oddR.take i)), ⟨none, rfl, G3, g2.trans g3, Same.refl _, (m2.gr g3).is (List.append_nil _).symm⟩, fun i σ' H' ⟨_, _, G', g', s', _⟩ => s'.trans g'.gh, ?_, ?_⟩
    · rintro i di u σ' H' hdi hu ⟨b2, rfl, G4, g4, s4, m4⟩
      have hn3 := (List.getElem?_eq_some_iff.mp hdi).1
      have hlen : (oddR.take i).length ≤ 7 := by rw [List.length_take]; show min i 7 ≤ 7; omega
      refine h_ext (es := oddTwo gs di) rfl m4 (evm_lst (ea_cons (ev_tup (ea_cons (ev_cat (gd _ _ g4.g rfl) (ev_lst (ea_cons (ev_var rfl (hu.up s4)) (ea_cons ev_non ea_nil)) (by show 2 ≤ 100000; decide)) (by rw [List.length_map]; simp; omega)) (ea_cons (ev_len (gd _ _ g4.g rfl) (.inr (.inl ⟨rfl, rfl⟩))) ea_nil)) (by show 2 ≤ 100000; decide)) (ea_cons (ev_tup (ea_cons (ev_catT (ev_tuple (.inl (gd _ _ g4.g rfl))) (ev_tup (ea_cons (ev_var rfl (hu.up s4)) ea_nil) (by show 1 ≤ 100000; decide)) (by rw [List.length_map]; simp; omega)) (ea_cons (ev_len (gd _ _ g4.g rfl) (.inr (.inl ⟨rfl, rfl⟩))) ea_nil)) (by show 2 ≤ 100000; decide)) ea_nil)) (by show 2 ≤ 100000; decide) |>.is (by unfold oddTwo; rw [List.length_map])) (by rw [List.length_append, List.length_map, oddAll_len]; show 6 + _ + 2 ≤ _; omega) g4.gh fun G5 H5 o g5 m5 ga5 => ?_
      refine ⟨_, rfl, G5, gr_upd (g4.trans g5) ha ga5, s4.trans g5.g, m5.is ?_⟩
      rw [oddAll_next gs hdi, List.append_assoc]
    · rintro σ' H' ⟨b2, rfl, G4, g4, s4, m4⟩
      have hz : (D.tup oddR).items = some oddR := rfl
      obtain ⟨G5, g5, hv5, _⟩ := m4.keep g4 ha
      refine Exists.intro (V.ref a) (And.intro rfl (q _ _ G5 H' (g1.trans g5) ⟨_, rfl, ?_, fun e he => ?_⟩ hv5))
      · rw [List.length_append, List.length_map, oddAll_len]
        rw [List.length_take]
        show 6 + 2 * min 7 7 ≤ 60
        decide
      · rcases List.mem_append.mp he with he | he
        · exact odd_head (fun o ho => by simp only [List.mem_cons, List.not_mem_nil, or_false] at ho; rcases ho with h | h | h | h | h | h <;> rw [h] <;> rfl) he
        · exact odd_all (fun x hx => ⟨lookK_isSome.mpr (hgn x hx), nameL_len (hnm x (hgn x hx))⟩) (by omega) (fun o ho => odd_rows hnm o ho) he

theorem sc_w_g_odd_words : FnScope ["_law_good", "_law_found", "_law_odd"] ["_law_good"] (defScope T47.s_w_g_odd_words) := ⟨rfl, rfl, rfl, by decide +kernel, rfl, by decide +kernel, by decide +kernel⟩
theorem has_w_g_odd_words (T : Tx w K mg) : Has P w K mg base CX0 "_law_g_odd_words" (1) ["_law_good"] (sp_w_g_odd_words K) := by
  obtain ⟨fd, F⟩ := T.def_ 55
  have gm := T.glo (x := "_law_g_odd_words") 67
  have z_dict := T.free (x := "dict") 83
  have z_len := T.free (x := "len") 87
  have z_tuple := T.free (x := "tuple") 95
  have nd := sc_w_g_odd_words.nd
  refine has_of F gm sc_w_g_odd_words (fun _ _ _ _ _ _ us hl => match us, hl with | [_], _ => rfl) (fun vs H Q E h => ?_) (fun cdv A outer s H vs Q E hr h => ?_)
  · exact spP_len h fun _ _ ⟨_, e, _⟩ => by rw [e]; rfl
  · refine ⟨_, (pss_cons (ps_setLc (i := 1) (own := [("_law_odd", 2)]) (g := gName 2) (tt := tYes) rfl nd rfl rfl (sw_true rfl rfl rfl (by decide +kernel)) (pi_seq (pe_tup (pa_cons pe_non (pa_cons pe_int (pa_cons pe_str (pa_cons (pe_frz pe_dnewK) (pa_cons pe_bl (pa_cons (pe_frz (pe_callTy (call_dictP rfl) rfl z_dict (by decide +kernel) (pa_cons (pe_lst (pa_cons (pe_tup (pa_cons pe_str (pa_cons pe_int pa_nil))) pa_nil)) pa_nil))) pa_nil)))))))) (blkOk_by (own := [("_law_odd", 2)]) (N := ["_law_good", "_law_found", "_law_odd"]) (sc := (defScope T47.s_w_g_odd_words)) (by decide +kernel)) (fun _ _ _ _ _ => (pg_name (i := 2) nd rfl (Or.inl rfl))) (fun _ _ _ _ _ => pts_nil) (fun _ _ _ _ _ => (pe_tup (pa_cons (pv 2) (pa_cons pe_int pa_nil)))))
        (pss_cons (ps_for PassesOwn.never rfl (pi_seq (pe_tup (pa_cons pe_non (pa_cons pe_int (pa_cons pe_str (pa_cons pe_str (pa_cons pe_str (pa_cons pe_str (pa_cons (pe_lst (pa_cons pe_str pa_nil)) (pa_cons pe_str (pa_cons pe_str (pa_cons pe_str (pa_cons pe_str (pa_cons pe_bl pa_nil)))))))))))))) (pg_name (i := 2) nd rfl (Or.inl rfl))
        (pss_one (ps_expr (pe_bm PySem.F.plainAttrs_list PySem.F.slot_list_extend PySem.F.type_list_extend mt_extend (pv 1) (pa_cons (pe_lst (pa_cons (pe_tup (pa_cons (pe_op op_catR (pv 0) (pe_lst (pa_cons (pv 2) (pa_cons pe_non pa_nil)))) (pa_cons (pe_callB call_len (by rfl) z_len (by decide +kernel) (pa_cons (pv 0) pa_nil)) pa_nil))) (pa_cons (pe_tup (pa_cons (pe_op op_catA (pe_callTy call_tuple_of (by rfl) z_tuple (by decide +kernel) (pa_cons (pv 0) pa_nil)) (pe_tup (pa_cons (pv 2) pa_nil))) (pa_cons (pe_callB call_len (by rfl) z_len (by decide +kernel) (pa_cons (pv 0) pa_nil)) pa_nil))) pa_nil))) pa_nil)))))
        (pss_one (ps_ret (pv 1))))), ?_⟩
    obtain ⟨G, ds, p, e, hds, ⟨gs, rfl, hgl, hgk, rfl⟩, q⟩ := h
    cases hds with
    | cons hx hn =>
    cases hn
    rename_i vx
    have hvg := hx
    have gd : ∀ (σ : L2.St) (G9 : Hp), Same G G9 → σ[0]? = some (some vx) → EvD K (tVar 0) σ G9 (rowD gs) := fun σ G9 e1 h1 => ev_var h1 (hvg.up e1)
    refine m_set (evm_lcS1 (ds := [.non, .int 5, .str "ab", .dic [], .bl true, .dic [("a", .int 1)]]) (j := 2) (src_seq (ev_tup ((ea_cons ev_non (ea_cons ev_int (ea_cons ev_str (ea_cons ev_frznew (ea_cons ev_bl (ea_cons (ev_dictP (ev_lst (ea_cons (ev_tup (ea_cons ev_str (ea_cons ev_int ea_nil)) (by decide)) ea_nil) (by decide)) (by decide +kernel)) ea_nil))))))) (by show 6 ≤ 100000; decide)) (.tup _)) (by show 6 < 50000; decide) (fun o => .tup [o, .int 0]) (fun _ => rfl) fun di u G2 hdm e2 hu => ev_tup (ea_cons (ev_var rfl hu) (ea_cons ev_int ea_nil)) (by show 2 ≤ 100000; decide)) e fun a G2 H2 g2 ha m2 => ?_
    refine f_seq (x := .tup oddW) (ev_tup ((ea_cons ev_non (ea_cons ev_int (ea_cons ev_str (ea_cons ev_str (ea_cons ev_str (ea_cons ev_str (ea_cons (ev_lst (ea_cons ev_str ea_nil) (by decide)) (ea_cons ev_str (ea_cons ev_str (ea_cons ev_str (ea_cons ev_str (ea_cons ev_bl ea_nil))))))))))))) (by show 12 ≤ 100000; decide)) (.tup _) g2.gh fun G3 H3 g3 => ?_
    refine ⟨fun i σ' H' => ∃ b2, σ' = [some vx, some (.ref a), b2] ∧ ∃ G', Gr G H G' H' ∧ Same G3 G' ∧ MuL K G' H' a ([.non, .int 5, .str "ab", .dic [], .bl true, .dic [("a", .int 1)]].map (fun o => .tup [o, .int 0]) ++ oddAll gs (oddW.take i)), ⟨none, rfl, G3, g2.trans g3, Same.refl _, (m2.gr g3).is (List.append_nil _).symm⟩, fun i σ' H' ⟨_, _, G', g', s', _⟩ => s'.trans g'.gh, ?_, ?_⟩
    · rintro i di u σ' H' hdi hu ⟨b2, rfl, G4, g4, s4, m4⟩
      have hn3 := (List.getElem?_eq_some_iff.mp hdi).1
      have hlen : (oddW.take i).length ≤ 12 := by rw [List.length_take]; show min i 12 ≤ 12; omega
      refine h_ext (es := oddTwo gs di) rfl m4 (evm_lst (ea_cons (ev_tup (ea_cons (ev_cat (gd _ _ g4.g rfl) (ev_lst (ea_cons (ev_var rfl (hu.up s4)) (ea_cons ev_non ea_nil)) (by show 2 ≤ 100000; decide)) (by rw [List.length_map]; simp; omega)) (ea_cons (ev_len (gd _ _ g4.g rfl) (.inr (.inl ⟨rfl, rfl⟩))) ea_nil)) (by show 2 ≤ 100000; decide)) (ea_cons (ev_tup (ea_cons (ev_catT (ev_tuple (.inl (gd _ _ g4.g rfl))) (ev_tup (ea_cons (ev_var rfl (hu.up s4)) ea_nil) (by show 1 ≤ 100000; decide)) (by rw [List.length_map]; simp; omega)) (ea_cons (ev_len (gd _ _ g4.g rfl) (.inr (.inl ⟨rfl, rfl⟩))) ea_nil)) (by show 2 ≤ 100000; decide)) ea_nil)) (by show 2 ≤ 100000; decide) |>.is (by unfold oddTwo; rw [List.length_map])) (by rw [List.length_append, List.length_map, oddAll_len]; show 6 + _ + 2 ≤ _; omega) g4.gh fun G5 H5 o g5 m5 ga5 => ?_
      refine ⟨_, rfl, G5, gr_upd (g4.trans g5) ha ga5, s4.trans g5.g, m5.is ?_⟩
      rw [oddAll_next gs hdi, List.append_assoc]
    · rintro σ' H' ⟨b2, rfl, G4, g4, s4, m4⟩
      have hz : (D.tup oddW).items = some oddW := rfl
      obtain ⟨G5, g5, hv5, _⟩ := m4.keep g4 ha
      refine Exists.intro (V.ref a) (And.intro rfl (q _ _ G5 H' g5 ⟨_, rfl, ?_, fun e he => ?_⟩ hv5))
      · rw [List.length_append, List.length_map, oddAll_len]
        rw [List.length_take]
        show 6 + 2 * min 12 12 ≤ 60
        decide
      · rcases List.mem_append.mp he with he | he
        · exact odd_head (fun o ho => by simp only [List.mem_cons, List.not_mem_nil, or_false] at ho; rcases ho with h | h | h | h | h | h <;> rw [h] <;> rfl) he
        · exact odd_all hgk (by omega) odd_words he

end
end T47
/-! min of texts; the entries of a dict; what may change beside the stream. -/
namespace Pk
open PySem PySem.Spec PyProof.Rows L2
def minS (x : Str) (xs : List Str) : Str := xs.foldl (fun a y => if decide (y.cps.toList < a.cps.toList) = true then y else a) x
def rMinS (K : PySem.W.Frag) : List V → Hp → VK → Prop := fun vs H Q => ∃ (a : Addr) (x : Str) (xs : List Str), vs = [V.ref a] ∧ SqL K H a ((x :: xs).map V.str) ∧ Q (.str (minS x xs)) H
theorem minD_strs (xs : List Str) : ∀ x : Str, PySem.W.minD (.str x) (xs.map PyData.str) = .str (minS x xs) := by
  induction xs with
  | nil => intro x; rfl
  | cons y xs ih =>
    intro x
    show PySem.W.minD (if PySem.W.dataLt (.str y) (.str x) = true then .str y else .str x) (xs.map PyData.str) = _
    rw [PySem.W.dataLt_str]
    unfold minS
    rw [List.foldl_cons]
    by_cases h : decide (y.cps.toList < x.cps.toList) = true
    · rw [if_pos h, if_pos h]; exact ih y
    · rw [if_neg h, if_neg h]; exact ih x
theorem minS_spec : ∀ (xs : List Str) (x : Str), minS x xs ∈ x :: xs ∧ ∀ y ∈ x :: xs, sLe (minS x xs) y = true
  | [], x => ⟨by simp [minS], fun y hy => by rw [List.mem_singleton.mp hy]; unfold minS sLe; simp⟩
  | z :: xs, x => by
    show minS (if decide (z.cps.toList < x.cps.toList) = true then z else x) xs ∈ _ ∧ ∀ y ∈ _, sLe (minS (if decide (z.cps.toList < x.cps.toList) = true then z else x) xs) y = true
    by_cases h : decide (z.cps.toList < x.cps.toList) = true
    · rw [if_pos h]
      obtain ⟨h1, h2⟩ := minS_spec xs z
      refine ⟨List.mem_cons_of_mem _ h1, fun y hy => ?_⟩
      rcases List.mem_cons.mp hy with e | hy
      · rw [e]
        refine sLe_trans _ _ _ (h2 z (by simp)) ?_
        have := of_decide_eq_true h
        unfold sLe
        exact decide_eq_true (List.le_of_lt this)
      · exact h2 y hy
    · rw [if_neg h]
      obtain ⟨h1, h2⟩ := minS_spec xs x
      refine ⟨?_, fun y hy => ?_⟩
      · rcases List.mem_cons.mp h1 with e | h1
        · rw [e]; simp
        · simp [h1]
      · rcases List.mem_cons.mp hy with e | hy
        · rw [e]; exact h2 x (by simp)
        · rcases List.mem_cons.mp hy with e | hy
          · rw [e]
            refine sLe_trans _ _ _ (h2 x (by simp)) ?_
            unfold sLe
            exact decide_eq_true (List.not_lt.mp fun z => h (decide_eq_true z))
          · exact h2 y (by simp [hy])
section
variable {X : Cx}
theorem reads_strs {h : Heap} : ∀ {us : List Value} {xs : List Str}, Vals (xs.map V.str) us → ReadsAll h us (xs.map PyData.str) []
  | _, [], .nil => .nil
  | _, x :: xs, .cons r rs => by
    obtain ⟨t, rfl⟩ := r
    exact ReadsAll.cons (as := []) (.str x t) (reads_strs rs)
theorem depthAll_strs : ∀ xs : List Str, PyData.depthAll (xs.map PyData.str) = 0
  | [] => by simp [PyData.depthAll]
  | x :: xs => by simp [PyData.depthAll, PyData.depth, depthAll_strs xs]
theorem cr_minS (hc : X.calm = true) (hu : X.A.units + 64 < cLine) : CallR X (.builtin "min") (rMinS X.K) := by
  intro pins s σ H vs us Q I r want
  obtain ⟨a, x, xs, rfl, hs, q⟩ := want
  obtain ⟨its, rv, hl, _⟩ := I.list hs
  rw [Vals.ref1 r]
  have rd := reads_strs (h := s.heap) rv
  refine PySem.W.min_list_data (vs := its.toArray) (x := .str x) (xs := xs.map PyData.str) (I.ok.hd hc) hl.isList rd ⟨fun p hp p2 hp2 => ?_, fun p hp z => ?_⟩ ?_ fun i v h' tk bs hv rdv kept => ?_
  · obtain ⟨y, _, rfl⟩ := List.mem_map.mp (show p ∈ (x :: xs).map PyData.str from hp)
    obtain ⟨y2, _, rfl⟩ := List.mem_map.mp (show p2 ∈ (x :: xs).map PyData.str from hp2)
    simp [PySem.W.alike]
  · obtain ⟨y, _, rfl⟩ := List.mem_map.mp (show p ∈ (x :: xs).map PyData.str from hp)
    cases z
  · have := depthAll_strs (x :: xs)
    show X.A.units + 1 + PyData.depthAll ((x :: xs).map PyData.str) < cLine
    omega
  · rw [minD_strs] at rdv
    cases rdv with
    | str _ t => exact ⟨.str (minS x xs), H, I.kept kept, ⟨t, rfl⟩, q⟩
end
section
variable {K : PySem.W.Frag} {σ : L2.St} {G G1 H H1 : Hp} {te : TE} {kvs : List (Str × D)} {S : Sm} {L L' : Nat} {a : Addr}
theorem ev_minS {x : Str} {xs : List Str} (h : EvD K te σ G (.lst ((x :: xs).map D.str))) : EvD K (tCB (rMinS K) (tCons te tNil)) σ G (.str (minS x xs)) := fun H e Q q => h H e _ fun v G1 H1 g1 hv => by
  cases hv with
  | @lst a vs _ hr hs =>
    have := dqs_str (xs := x :: xs) hs
    subst this
    exact ⟨a, x, xs, rfl, seqL (Rd.up g1.gh hr), q _ G1 H1 g1 (.str _)⟩
/-- list(d.items()) -/
theorem ev_items (h : EvD K te σ G (.dic kvs)) : EvD K (tItemsR te) σ G (.lst (kvs.map pairD)) := fun H e Q q => h H e _ fun v G1 H1 g1 hv => by
  cases hv with
  | @dic ad o ws _ hr hk hs =>
    refine ⟨ad, ws, rfl, .inr ⟨o, g1.gh _ _ hr⟩, fun H' p ts keep hp hts hpt at_ pr => ?_⟩
    let G2 : Hp := fun b => if b = p ∨ b ∈ ts then H' b else G1 b
    have off : ∀ b, ¬ (b = p ∨ b ∈ ts) → G2 b = G1 b := fun b hb => if_neg hb
    have on : ∀ b, (b = p ∨ b ∈ ts) → G2 b = H' b := fun b hb => if_pos hb
    have new : ∀ b, (b = p ∨ b ∈ ts) → H1 b = none := fun b hb => by
      rcases hb with z | z
      · rw [z]; exact hp
      · exact hts b z
    have sg : Same G1 G2 := fun b u eb => by
      rw [off b fun z => by have := g1.gh _ _ eb; rw [new b z] at this; cases this]
      exact eb
    have gr : Gr G1 H1 G2 H' := by
      refine ⟨sg, keep, fun b u eb => ?_, fun b u eb => ?_⟩
      · by_cases hb : b = p ∨ b ∈ ts
        · rw [on b hb] at eb; exact eb
        · rw [off b hb] at eb; exact keep _ _ (g1.gh _ _ eb)
      · by_cases hb : b = p ∨ b ∈ ts
        · exact .inr (new b hb)
        · rw [off b hb] at eb; exact .inl eb
    have hs2 := hs.up sg
    have items : ∀ (ts' : List Addr) (ws' : List (Key × V)) (kvs' : List (Str × D)), (∀ t ∈ ts', t ∈ ts) → Paired (fun t q => H' t = some (.tup [kV q.1, q.2])) ts' ws' → ws'.map (·.1) = kvs'.map (fun p => (Sum.inr p.1 : Key)) → Dqs K G2 (ws'.map (·.2)) (kvs'.map (·.2)) → Dqs K G2 (ts'.map V.ref) (kvs'.map pairD) := by
      intro ts' ws' kvs' hsub pr' hk' hs'
      induction kvs' generalizing ts' ws' with
      | nil =>
        have : ws' = [] := List.map_eq_nil_iff.mp hk'
        subst this
        cases pr'
        exact .nil
      | cons c kvs' ih =>
        cases ws' with
        | nil => cases hk'
        | cons w ws' =>
          cases pr' with
          | cons r1 rs1 =>
            obtain ⟨e1, e2⟩ := List.cons.inj hk'
            cases hs' with
            | cons c1 cs1 =>
              rename_i t ts'
              refine .cons (.tup (xs := [kV w.1, w.2]) (.inl ?_) (.cons ?_ (.cons c1 .nil))) (ih ts' ws' (fun x hx => hsub x (by simp [hx])) rs1 e2 cs1)
              · rw [on t (.inr (hsub t (by simp)))]; exact r1
              · have e1 : w.1 = Sum.inr c.1 := e1
                rw [e1]
                exact .str _
    exact q _ G2 H' (g1.trans gr) (.lst (.inl (by rw [on p (.inl rfl)]; exact at_)) (items ts ws kvs (fun _ h => h) pr hk hs2))
theorem MuD.gs (m : MuD K G H a kvs) (g : Gs S L L' G H G1 H1) (n1 : a ≠ S.s) (n2 : a ≠ S.c) : MuD K G1 H1 a kvs := by
  obtain ⟨ws, h1, h2, h3⟩ := m.ex
  exact ⟨ws, g.h _ _ n1 n2 h1, g.apart h1 h2, h3.up g.g⟩
theorem MuL.gs {ds : List D} (m : MuL K G H a ds) (g : Gs S L L' G H G1 H1) (n1 : a ≠ S.s) (n2 : a ≠ S.c) : MuL K G1 H1 a ds := by
  obtain ⟨vs, h1, h2, h3⟩ := m.ex
  exact ⟨vs, g.h _ _ n1 n2 h1, g.apart h1 h2, h3.up g.g⟩
theorem new_ne (w : Wl S G L H) (h : H a = none) : a ≠ S.s ∧ a ≠ S.c := by
  obtain ⟨o1, e1⟩ := w.ss
  obtain ⟨o2, e2⟩ := w.cc
  exact ⟨fun z => (by rw [z, e1] at h; cases h), fun z => (by rw [z, e2] at h; cases h)⟩
/-- a, b = e1, e2 -/
theorem h_par {i j : Nat} {ta tb : TE} {u : TS} {D0 : L2.Ends} (h : ta σ H fun x F => tb σ F fun y F2 => u D0 ((σ.set i (some x)).set j (some y)) F2) : tSeq (tPar i j (tCons ta (tCons tb tNil))) u D0 σ H := by
  have e : (fun (x : V) (F : Hp) => tb σ F fun y F2 => u D0 ((σ.set i (some x)).set j (some y)) F2) = fun (x : V) (F : Hp) => tb σ F fun y F2 => ∃ v w, [x, y] = [v, w] ∧ u D0 ((σ.set i (some v)).set j (some w)) F2 := by
    funext x F
    congr 1
    funext y F2
    refine propext ⟨fun z => ⟨x, y, rfl, z⟩, fun ⟨v, w, e1, z⟩ => ?_⟩
    cases e1
    exact z
  rw [e] at h
  exact h
/-- a new dict, which may change -/
def EvMd (K : PySem.W.Frag) (te : TE) (σ : L2.St) (G : Hp) (kvs : List (Str × D)) : Prop := ∀ H, Same G H → ∀ Q : VK, (∀ a G1 H1, Gr G H G1 H1 → H a = none → MuD K G1 H1 a kvs → Q (.ref a) H1) → te σ H Q
theorem evmd_dictP (h : EvD K te σ G (.lst (kvs.map pairD))) (hn : (kvs.map (·.1)).Nodup) :
    EvMd K (tCB (fun xs H Q => ∃ (a : Addr) (ps : List Addr) (kvs : List (Key × V)), xs = [.ref a] ∧ SqL K H a (ps.map V.ref) ∧ Paired (fun p kv => SqT K H p [kV kv.1, kv.2]) ps kvs ∧ ∀ p, H p = none → Q (.ref p) (upd H p (.dK (mergeK [] kvs)))) (tCons te tNil)) σ G kvs := fun H e Q q => mu_dictP h hn e q
/-- a dict that may change is locked for good -/
theorem gs_frz (w : Wl S G L H) (g : Gs S L L' G H G1 H1) (h0 : H a = none) (m : MuD K G1 H1 a kvs) : ∃ ws, H1 a = some (.dK ws) ∧ ∀ od, ∃ G', Gs S L L' G H G' (upd H1 a (.frz od (.dK ws))) ∧ Dq K G' (.ref a) (.dic kvs) ∧ Same G1 G' := by
  obtain ⟨ws, k1, k2, k3⟩ := m.ex
  refine ⟨ws, k1, fun od => ⟨_, gs_keep w (gs_upd w g (o := .frz od (.dK ws)) h0 k2) h0 k2 upd_same, .dic upd_same k3.k (k3.v.up (same_new k2)), same_new k2⟩⟩
/-- a list that may change is it for good -/
theorem gs_keepL {ds : List D} (w : Wl S G L H) (g : Gs S L L' G H G1 H1) (h0 : H a = none) (m : MuL K G1 H1 a ds) : ∃ G', Gs S L L' G H G' H1 ∧ Dq K G' (.ref a) (.lst ds) ∧ Same G1 G' := by
  obtain ⟨vs, k1, k2, k3⟩ := m.ex
  exact ⟨_, gs_keep w g h0 k2 k1, .lst (.inl upd_same) (k3.up (same_new k2)), same_new k2⟩
end
end Pk
/-! Books in which some talks have two rules with one letter. -/
namespace T47
open PySem PySem.Spec PyProof.Rows L2 Pk
def rsL (rs : List Rule) : List Rule := rs.mergeSort fun a b => dLe (lawRule a) (lawRule b)
theorem rsL_perm (rs : List Rule) : (rsL rs).Perm rs := List.mergeSort_perm _ _
theorem rsL_map (rs : List Rule) : (rs.map lawRule).mergeSort dLe = (rsL rs).map lawRule := by
  unfold rsL
  rw [List.map_mergeSort (r := fun a b => dLe (lawRule a) (lawRule b)) (s := dLe) (f := lawRule) (fun a _ b _ => rfl)]
theorem alikeL (r s : Rule) : PySem.W.alike (lawRule r).py (lawRule s).py = true := by
  show PySem.W.alike (.tuple [.str r.1, .list (pys (r.2.map D.str))]) (.tuple [.str s.1, .list (pys (s.2.map D.str))]) = true
  simp only [PySem.W.alike, PySem.W.alikeAll, alike_strs, Bool.and_true, Bool.and_self]
theorem flatsL : ∀ rs : List Rule, flats (rs.map lawRule) = true
  | [] => rfl
  | r :: rs => by
    show ((true && (flats (r.2.map D.str) && true)) && flats (rs.map lawRule)) = true
    rw [flatsL rs, flats_strs]
    rfl
theorem depthL (r : Rule) : (lawRule r).py.depth ≤ 50 := by
  show (PyData.tuple [.str r.1, .list (pys (r.2.map D.str))]).depth ≤ 50
  simp [PyData.depth, PyData.depthAll, depth_strs]
section
variable {K : PySem.W.Frag} {σ : L2.St} {G : Hp} {te : TE}
/-- sorted(rules) -/
theorem ev_sortedL {rs : List Rule} (h : EvD K te σ G (.lst (rs.map lawRule))) (hl : rs.length ≤ 1000) : EvD K (tCB (rSrtP K) (tCons te tNil)) σ G (.lst ((rsL rs).map lawRule)) := by
  refine (ev_sorted h (flatsL rs) ?_ ?_ (by rw [List.length_map]; exact hl) fun d hd => ?_).is (by rw [rsL_map])
  · rw [List.map_map]
    exact PySem.W.AllAlike.of fun r s => alikeL r s
  · rw [List.map_map]
    exact PySem.W.Sortable.tuples fun r => ⟨.str r.1, _, rfl⟩
  · obtain ⟨r, _, rfl⟩ := List.mem_map.mp hd
    exact depthL r
end
def moreR (n : Str) (rs : List Rule) : List Rule := match rs with
  | [] => []
  | r :: _ => [(r.1, r.2 ++ [n])]
def twR (n : Str) (rs : List Rule) : List Rule := rsL (rs ++ moreR n rs)
def twB (b : Kept) (s : List Str) : Kept := b.map fun p => (p.1, if p.1 ∈ s then twR p.1 p.2 else p.2)
theorem twB_names (b : Kept) (s : List Str) : (twB b s).map (·.1) = b.map (·.1) := by
  unfold twB
  rw [List.map_map]
  rfl
theorem twR_perm (n : Str) (rs : List Rule) : (twR n rs).Perm (rs ++ moreR n rs) := rsL_perm _
theorem twB_rules {b : Kept} {s : List Str} (hn : (b.map (·.1)).Nodup) {n : Str} (h : n ∈ b.map (·.1)) : rulesOf (twB b s) n = if n ∈ s then twR n (rulesOf b n) else rulesOf b n := by
  have hm := (rulesOf_mem h).2
  have h2 : (n, if n ∈ s then twR n (rulesOf b n) else rulesOf b n) ∈ twB b s := List.mem_map.mpr ⟨_, hm, rfl⟩
  have := lookK_mem (by rw [twB_names]; exact hn) h2
  unfold rulesOf at this ⊢
  rw [this]
  rfl
theorem twB_mem {b : Kept} {s : List Str} {p : Str × List Rule} (h : p ∈ twB b s) : ∃ q ∈ b, q.1 = p.1 ∧ ∀ r ∈ p.2, r ∈ q.2 ∨ ∃ r0 ∈ q.2, r = (r0.1, r0.2 ++ [p.1]) := by
  obtain ⟨q, hq, rfl⟩ := List.mem_map.mp h
  refine ⟨q, hq, rfl, fun r hr => ?_⟩
  by_cases hs : q.1 ∈ s
  · have hr : r ∈ (if q.1 ∈ s then twR q.1 q.2 else q.2) := hr
    rw [if_pos hs] at hr
    rcases List.mem_append.mp ((twR_perm _ _).mem_iff.mp hr) with z | z
    · exact .inl z
    · unfold moreR at z
      split at z
      · cases z
      · rename_i r0 rest e
        rw [List.mem_singleton.mp z]
        exact .inr ⟨r0, by rw [e]; simp, rfl⟩
  · have hr : r ∈ (if q.1 ∈ s then twR q.1 q.2 else q.2) := hr
    rw [if_neg hs] at hr
    exact .inl hr
theorem twB_len {b : Kept} {s : List Str} {p : Str × List Rule} (h : p ∈ twB b s) : ∃ q ∈ b, q.1 = p.1 ∧ p.2.length ≤ q.2.length + 1 ∧ q.2.length ≤ p.2.length := by
  obtain ⟨q, hq, rfl⟩ := List.mem_map.mp h
  refine ⟨q, hq, rfl, ?_⟩
  show (if q.1 ∈ s then twR q.1 q.2 else q.2).length ≤ _ ∧ _ ≤ (if q.1 ∈ s then twR q.1 q.2 else q.2).length
  by_cases hs : q.1 ∈ s
  · rw [if_pos hs, (twR_perm _ _).length_eq, List.length_append]
    have : (moreR q.1 q.2).length ≤ 1 := by
      unfold moreR
      split <;> simp
    omega
  · rw [if_neg hs]
    omega
theorem simple_nodup {rs : List Rule} (h : simpleR rs = true) : (rs.map (·.1)).Nodup := of_decide_eq_true h
theorem uniq_letter {rs : List Rule} (h : (rs.map (·.1)).Nodup) {r r' : Rule} (h1 : r ∈ rs) (h2 : r' ∈ rs) (e : r.1 = r'.1) : r = r' := by
  induction rs with
  | nil => cases h1
  | cons a rs ih =>
    rw [List.map_cons, List.nodup_cons] at h
    rcases List.mem_cons.mp h1 with z1 | h1
    · rcases List.mem_cons.mp h2 with z2 | h2
      · rw [z1, z2]
      · exact absurd (List.mem_map.mpr ⟨r', h2, by rw [← e, z1]⟩) h.1
    · rcases List.mem_cons.mp h2 with z2 | h2
      · exact absurd (List.mem_map.mpr ⟨r, h1, by rw [e, z2]⟩) h.1
      · exact ih h.2 h1 h2
/-- rows short enough to be made longer -/
structure Tight (b : Kept) : Prop where
  rows : ∀ p ∈ b, ∀ r ∈ p.2, r.2.length ≤ 3
  rules : ∀ p ∈ b, p.2.length ≤ 50
theorem twB_law {b : Kept} {s : List Str} (h : LawB b) (hs : simpleB b) (ht : Tight b) : LawB (twB b s) := by
  have nm := twB_names b s
  refine ⟨⟨⟨by unfold twB; rw [List.length_map]; exact h.snd.sz.1, fun p hp => ?_⟩, by rw [nm]; exact h.snd.nm, fun p hp => ?_, fun p hp r hr => ?_, fun p hp r hr n hn => ?_⟩, by rw [nm]; exact h.nd, fun p hp z => ?_, fun p hp r hr => ?_, fun p hp => ?_, fun n hn => ?_⟩
  · obtain ⟨q, hq, e, l1, _⟩ := twB_len hp
    refine ⟨by have := ht.rules q hq; omega, fun r hr => ?_⟩
    obtain ⟨q, hq, e, k⟩ := twB_mem hp
    rcases k r hr with z | ⟨r0, z, rfl⟩
    · have := ht.rows q hq r z; omega
    · have := ht.rows q hq r0 z
      rw [List.length_append]
      simp only [List.length_cons, List.length_nil]
      omega
  · obtain ⟨q, hq, e, l1, _⟩ := twB_len hp
    have := ht.rules q hq
    omega
  · obtain ⟨q, hq, e, k⟩ := twB_mem hp
    rcases k r hr with z | ⟨r0, z, rfl⟩
    · have := ht.rows q hq r z; omega
    · have := ht.rows q hq r0 z
      rw [List.length_append]
      simp only [List.length_cons, List.length_nil]
      omega
  · obtain ⟨q, hq, e, k⟩ := twB_mem hp
    rw [nm]
    rcases k r hr with z | ⟨r0, z, rfl⟩
    · exact h.snd.cl q hq r z n hn
    · rcases List.mem_append.mp hn with y | y
      · exact h.snd.cl q hq r0 z n y
      · rw [List.mem_singleton.mp y, ← e]
        exact List.mem_map.mpr ⟨q, hq, rfl⟩
  · obtain ⟨q, hq, e, _, l2⟩ := twB_len hp
    rw [z] at l2
    exact h.full q hq (List.eq_nil_of_length_eq_zero (Nat.le_zero.mp l2))
  · obtain ⟨q, hq, e, k⟩ := twB_mem hp
    rcases k r hr with z | ⟨r0, z, rfl⟩
    · exact h.sign q hq r z
    · exact h.sign q hq r0 z
  · obtain ⟨q, hq, rfl⟩ := List.mem_map.mp hp
    show (if q.1 ∈ s then twR q.1 q.2 else q.2).Nodup
    by_cases hm : q.1 ∈ s
    · rw [if_pos hm]
      refine (twR_perm _ _).nodup_iff.mpr (List.nodup_append.mpr ⟨h.rnd q hq, by unfold moreR; split <;> simp, fun a ha c hc e => ?_⟩)
      subst e
      unfold moreR at hc
      split at hc
      · cases hc
      · rename_i r0 rest eq
        have e2 := List.mem_singleton.mp hc
        have := uniq_letter (simple_nodup (hs q hq)) (r := a) (r' := r0) ha (by rw [eq]; simp) (by rw [e2])
        rw [this] at e2
        have := congrArg (fun r : Rule => r.2.length) e2
        simp at this
    · rw [if_neg hm]
      exact h.rnd q hq
  · rw [nm] at hn
    have e := h.ends n hn
    clear hn
    induction e with
    | @mk n rs r h1 h2 _ ih =>
      have h3 : (n, if n ∈ s then twR n rs else rs) ∈ twB b s := List.mem_map.mpr ⟨_, h1, rfl⟩
      refine .mk h3 (r := r) ?_ ih
      by_cases hm : n ∈ s
      · rw [if_pos hm]
        exact (twR_perm _ _).mem_iff.mpr (List.mem_append_left _ h2)
      · rw [if_neg hm]
        exact h2
/-- the first name, in their order, that has two rules with one letter -/
theorem twB_bad {b kb : Kept} {s : List Str} {x : Str} {xs : List Str} (hx : s = x :: xs) (h : LawB b) (hs : simpleB b) (hin : ∀ n ∈ s, n ∈ b.map (·.1)) (m : MixB (twB b s) kb) : BadS kb "NotSimple" "name" (fun u => u = .str (minS x xs)) := by
  obtain ⟨m1, m2⟩ := minS_spec xs x
  rw [← hx] at m1 m2
  have hmb := hin _ m1
  have nm : kb.map (·.1) = srt (b.map (·.1)) := by rw [m.nm, twB_names]
  have srts : srt (kb.map (·.1)) = srt (b.map (·.1)) := by rw [nm]; exact srt_congr (srt_perm _)
  have hmem : minS x xs ∈ srt (b.map (·.1)) := (srt_perm _).mem_iff.mpr hmb
  obtain ⟨i, hi⟩ := List.mem_iff_getElem?.mp hmem
  have rl : ∀ n ∈ b.map (·.1), simpleR (rulesOf kb n) = simpleR (if n ∈ s then twR n (rulesOf b n) else rulesOf b n) := fun n hn => by
    have := m.rl n (by rw [twB_names]; exact hn)
    rw [simple_perm this, twB_rules h.nd hn]
  refine ⟨i, minS x xs, by rw [srts]; exact hi, ?_, fun j n hj hn => ?_, rfl, rfl, rfl⟩
  · rw [rl _ hmb, if_pos m1, simple_perm (twR_perm _ _)]
    unfold simpleR
    refine decide_eq_false fun z => ?_
    rw [List.map_append, List.nodup_append] at z
    cases e : rulesOf b (minS x xs) with
    | nil => exact h.full _ (rulesOf_mem hmb).2 e
    | cons r rest =>
      rw [e] at z
      exact z.2.2 r.1 (by simp) r.1 (by simp [moreR]) rfl
  · rw [srts] at hn
    have hnb : n ∈ b.map (·.1) := (srt_perm _).mem_iff.mp (List.mem_of_getElem? hn)
    rw [rl n hnb]
    have hns : n ∉ s := fun hns => by
      have le1 := m2 n hns
      have hil := (List.getElem?_eq_some_iff.mp hi).1
      have hjl := (List.getElem?_eq_some_iff.mp hn).1
      have e1 := (List.getElem?_eq_some_iff.mp hi).2
      have e2 := (List.getElem?_eq_some_iff.mp hn).2
      have le2 := List.pairwise_iff_getElem.mp (srt_sorted (b.map (·.1))) j i hjl hil hj
      rw [e1, e2] at le2
      have eq := sLe_antisymm le1 le2
      have nd : (srt (b.map (·.1))).Nodup := (srt_perm _).nodup_iff.mpr h.nd
      have := (List.getElem_inj nd (h₀ := hjl) (h₁ := hil)).mp (by rw [e1, e2, eq])
      omega
    rw [if_neg hns]
    exact hs _ (rulesOf_mem hnb).2
end T47
/-! _law_g_twice. -/
namespace T47
open PySem PySem.Spec PyProof.Rows L2 Pk
section
variable {P : Program} {w : World} {K : PySem.W.Frag} {mg : Str → Option Value} {base : Heap}
def sp_w_g_twice (K : PySem.W.Frag) : Sp := spS K 100 fun ds p => ∃ b, ds = [.dic (lawD b)] ∧ LawB b ∧ Tight b ∧ b ≠ [] ∧ p = fun d => ∃ (x : Str) (xs : List Str), (∀ n ∈ x :: xs, n ∈ b.map (·.1)) ∧ d = .tup [.dic (lawD (twB b (x :: xs))), .str (minS x xs)]
theorem twB_nil (b : Kept) : twB b [] = b := by
  unfold twB
  simp
/-- one name more -/
theorem twB_next {b : Kept} {s : List Str} {n : Str} {p : Str × List Rule} (hnd : (b.map (·.1)).Nodup) (hp : p ∈ b) (he : p.1 = n) (hn : n ∉ s) : putD (lawD (twB b s)) n (.lst ((twR n p.2).map lawRule)) = lawD (twB b (s ++ [n])) := by
  unfold putD
  have hany : ((lawD (twB b s)).any fun kv => decide (kv.1 = n)) = true := by
    refine List.any_eq_true.mpr ⟨_, List.mem_map.mpr ⟨_, List.mem_map.mpr ⟨p, hp, rfl⟩, rfl⟩, ?_⟩
    exact decide_eq_true he
  rw [if_pos hany]
  unfold lawD twB
  rw [List.map_map, List.map_map, List.map_map]
  refine List.map_congr_left fun q hq => ?_
  show (if q.1 = n then (q.1, D.lst ((twR n p.2).map lawRule)) else (q.1, D.lst ((if q.1 ∈ s then twR q.1 q.2 else q.2).map lawRule))) = (q.1, D.lst ((if q.1 ∈ s ++ [n] then twR q.1 q.2 else q.2).map lawRule))
  by_cases e : q.1 = n
  · rw [if_pos e, if_pos (by rw [e]; simp)]
    have : q.2 = p.2 := by
      have a1 := lookK_mem hnd (n := q.1) (rs := q.2) hq
      have a2 := lookK_mem hnd (n := p.1) (rs := p.2) hp
      rw [e] at a1
      rw [he, a1] at a2
      exact Option.some.inj a2
    rw [this, e]
  · rw [if_neg e]
    by_cases hs : q.1 ∈ s
    · rw [if_pos hs, if_pos (by simp [hs])]
    · rw [if_neg hs, if_neg (by simp [hs, e])]

theorem sc_w_g_twice : FnScope ["_law_stream", "_law_rules", "_law_found", "_law_some", "_law_name", "_law_letter", "_law_part"] ["_law_stream", "_law_rules"] (defScope T47.s_w_g_twice) := ⟨rfl, rfl, rfl, by decide +kernel, rfl, by decide +kernel, by decide +kernel⟩
theorem has_w_g_twice (T : Tx w K mg) (h_w_draw : Has P w K mg base CX0 "_law_draw" (1) ["_law_stream", "_law_many"] (sp_w_draw K)) (h_w_mixed : Has P w K mg base CX0 "_law_mixed" (2) ["_law_stream", "_law_some"] (sp_w_mixed K)) : Has P w K mg base CX0 "_law_g_twice" (4) ["_law_stream", "_law_rules"] (sp_w_g_twice K) := by
  obtain ⟨fd, F⟩ := T.def_ 56
  have gm := T.glo (x := "_law_g_twice") 68
  have z_dict := T.free (x := "dict") 83
  have z_list := T.free (x := "list") 88
  have z_min := T.free (x := "min") 89
  have z_sorted := T.free (x := "sorted") 92
  have nd := sc_w_g_twice.nd
  refine has_of F gm sc_w_g_twice (fun _ _ _ _ _ _ us hl => match us, hl with | [_, _], _ => rfl) (fun vs H Q E h => ?_) (fun cdv A outer s H vs Q E hr h => ?_)
  · exact spS_len h fun _ _ ⟨_, e, _⟩ => by rw [e]; rfl
  · refine ⟨_, (pss_cons (ps_par (i := 2) (j := 3) rfl nd rfl rfl (by decide) rfl rfl (pa_cons (pe_callTy (call_dictP rfl) rfl z_dict (by decide +kernel) (pa_cons (pe_itemsR rfl (pv 1) rfl z_list rfl) pa_nil)) (pa_cons (pe_slice sl_list (pe_h h_w_mixed (hr.mono (by omega)) rfl (pa_cons (pv 0) (pa_cons (pe_callTy (call_listD rfl) rfl z_list (by decide +kernel) (pa_cons (pv 1) pa_nil)) pa_nil))) po_none (po_some (pe_op op_add pe_int (pe_h h_w_draw (hr.mono (by omega)) rfl (pa_cons (pv 0) (pa_cons pe_int pa_nil)))))) pa_nil)) rfl)
        (pss_cons (ps_for PassesOwn.never rfl (pi_seq (pv 3)) (pg_name (i := 4) nd rfl (Or.inl rfl))
        (pss_cons (ps_asg (pe_ix ix_seq (pe_dget (hu_of hr) (pv 1) (pv 4) (fun _ _ => rfl)) pe_int (fun _ _ => rfl)) (pg_tup rfl (pgs_cons (pg_name (i := 5) nd rfl (Or.inl rfl)) (pgs_cons (pg_name (i := 6) nd rfl (Or.inl rfl)) pgs_nil))))
        (pss_one (ps_dput (hu_of hr) (pv 2) (pv 4) (pe_callB (cr_srtP hr.units) rfl z_sorted (by decide +kernel) (pa_cons (pe_op op_catR (pe_dget (hu_of hr) (pv 1) (pv 4) (fun _ _ => rfl)) (pe_lst (pa_cons (pe_tup (pa_cons (pv 5) (pa_cons (pe_op op_catR (pe_callTy call_list_of rfl z_list (by decide +kernel) (pa_cons (pv 6) pa_nil)) (pe_lst (pa_cons (pv 4) pa_nil))) pa_nil))) pa_nil))) pa_nil)) rfl))))
        (pss_one (ps_ret (pe_tup (pa_cons (pe_frz (pv 2)) (pa_cons (pe_callB (cr_minS rfl hr.units) rfl z_min (by decide +kernel) (pa_cons (pv 3) pa_nil)) pa_nil))))))), ?_⟩
    obtain ⟨S, G, L, vs', ds, p, rfl, hw, hL, hds, ⟨b, rfl, hb, ht, hne, rfl⟩, q⟩ := h
    cases hds with
    | cons hR hn =>
    cases hn
    rename_i vR
    have hlen : (b.map (·.1)).length ≤ 60 := by rw [List.length_map]; exact hb.snd.sz.1
    refine h_par ?_
    refine evmd_dictP (K := K) (σ := [some (.ref S.s), some vR, none, none, none, none, none]) (kvs := lawD b) (ev_items (ev_var (i := 1) rfl hR)) (by rw [lawD_names]; exact hb.nd) H hw.g _ fun a G1 H1 g1 ha m1 => ?_
    obtain ⟨n1, n2⟩ := new_ne hw ha
    have gs1 := Gs.of hw g1
    refine evs_take (K := K) (S := S) (n := 0 + 64) (m := 0 + (0 + 1)) (σ := [some (.ref S.s), some vR, none, none, none, none, none]) (pl := fun ds => ∃ zs : List Str, ds = zs.map D.str ∧ zs.Perm (b.map (·.1))) (pk := fun k => 1 ≤ k) (evs_mixed (xs := b.map (·.1)) rfl ((ev_listDic (ev_var (i := 1) rfl (hR.up g1.g))).is (by rw [lawD_names])) (by omega)) (fun G2 e2 => ?_) L H1 gs1.w (by omega) _ fun v2 d2 G2 H2 g2 ⟨ds2, k, ⟨zs, hz, hzp⟩, hk, hd2⟩ hv2 => ?_
    · intro L3 H3 w3 hl3 Q3 q3
      refine evs_draw (K := K) (σ := [some (.ref S.s), some vR, none, none, none, none, none]) (n := 0) (N := 2) (i := 0) rfl (ev_int.toS ⟨2, rfl, by decide, by decide⟩) (by decide) L3 H3 w3 (by omega) _ fun v4 d4 G4 H4 g4 ⟨i, hd4, hi⟩ hv4 => ?_
      subst hd4
      cases hv4
      refine ⟨_, _, rfl, rfl, q3 _ (.int ((1 + i : Nat) : Int)) G4 H4 (g4.more (by omega)) ⟨1 + i, rfl, by omega⟩ (dq_int (by omega))⟩
    · subst hz hd2
      rw [← List.map_take] at hv2
      have hsub : ∀ n ∈ zs.take k, n ∈ b.map (·.1) := fun n hn => hzp.mem_iff.mp (List.mem_of_mem_take hn)
      have hsnd : (zs.take k).Nodup := (List.take_sublist _ _).nodup (hzp.nodup_iff.mpr hb.nd)
      have hsne : zs.take k ≠ [] := fun z => by
        have h1 := hzp.length_eq
        rw [List.length_map] at h1
        have h2 : min k zs.length = 0 := by rw [← List.length_take, z]; rfl
        have h3 : 0 < b.length := List.length_pos_iff.mpr hne
        omega
      generalize zs.take k = s at hv2 hsub hsnd hsne
      have gs2 := gs1.trans g2
      have m2 := m1.gs g2 n1 n2
      refine f_seq (ev_var (i := 3) rfl hv2) (.lst _) g2.w.g fun G3 H3 g3 => ?_
      have gs3 := gs2.trans (Gs.of g2.w g3)
      refine ⟨fun i σ' H' => ∃ b4 b5 b6, σ' = [some (.ref S.s), some vR, some (.ref a), some v2, b4, b5, b6] ∧ ∃ G', Gs S L (L + (0 + 64 + (0 + (0 + 1)))) G H G' H' ∧ Same G3 G' ∧ MuD K G' H' a (lawD (twB b (s.take i))), ⟨none, none, none, rfl, G3, gs3, Same.refl _, ?_⟩, fun i σ' H' ⟨_, _, _, _, G', g', s', _⟩ => s'.trans g'.w.g, ?_, ?_⟩
      · rw [List.take_zero, twB_nil]
        exact m2.gr g3
      · rintro i di u σ' H' hdi hu ⟨b4, b5, b6, rfl, G4, g4, s4, m4⟩
        rw [List.getElem?_map] at hdi
        obtain ⟨n, hn, rfl⟩ := Option.map_eq_some_iff.mp hdi
        cases hu
        have hns := List.mem_of_getElem? hn
        have hnb := hsub n hns
        obtain ⟨hlk, hm⟩ := rulesOf_mem hnb
        have hR4 := (hR.up g4.g)
        have hlt : (rulesOf b n).length ≤ 50 := ht.rules _ hm
        obtain ⟨r, rest, hrr⟩ : ∃ r rest, rulesOf b n = r :: rest := by
          cases e : rulesOf b n with
          | nil => exact absurd e (hb.full _ hm)
          | cons r rest => exact ⟨r, rest, rfl⟩
        have hrow : r.2.length ≤ 3 := ht.rows _ hm r (by rw [hrr]; simp)
        have nm : ∀ (σ : L2.St) (G5 : Hp), σ[1]? = some (some vR) → σ[4]? = some (some (.str n)) → Same G4 G5 → EvD K (tDGet (tVar 1) (tVar 4)) σ G5 (.lst ((rulesOf b n).map lawRule)) := fun σ G5 h1 h4 e5 => ev_lawName (ev_var h1 (hR4.up e5)) (ev_var h4 (.str n)) hnb
        refine ev_ix (K := K) (i := 0) (d := lawRule r) (.inl (nm _ _ rfl rfl (Same.refl _))) (by rw [hrr]; rfl) H' g4.w.g _ fun v5 G5 H5 g5 hv5 => ?_
        refine tg_two v5 G5 H5 g5.gh hv5 _ fun σ2 ⟨vl, vp, hvl, hvp, e2⟩ => ?_
        subst e2
        cases hvl
        have gs5 := g4.trans (Gs.of g4.w g5)
        have m5 := m4.gr g5
        refine h_dput (K := K) (i := 2) (n := n) (d := .lst ((twR n (rulesOf b n)).map lawRule)) (kvs := lawD (twB b (s.take i))) ((ev_sortedL (rs := rulesOf b n ++ moreR n (rulesOf b n)) ((ev_cat (xs := (rulesOf b n).map lawRule) (ys := [lawRule (r.1, r.2 ++ [n])]) (nm _ _ rfl rfl g5.g) (ev_lst (ea_cons (ev_tup (ea_cons (ev_var (i := 5) rfl (.str r.1)) (ea_cons ((ev_cat (xs := r.2.map D.str) (ys := [.str n]) (ev_list (.inl (ev_var (i := 6) rfl hvp))) (ev_lst (ea_cons (ev_var (i := 4) rfl (.str n)) ea_nil) (by show 1 ≤ 100000; decide)) (by rw [List.length_map]; simp; omega)).is (d' := rowD (r.2 ++ [n])) (by unfold rowD; rw [List.map_append]; rfl)) ea_nil)) (by show 2 ≤ 100000; decide)) ea_nil) (by show 1 ≤ 100000; decide)) (by rw [List.length_map]; simp; omega)).is (by rw [List.map_append, hrr]; rfl)) (by rw [List.length_append, hrr]; rw [hrr] at hlt; simp only [moreR, List.length_cons, List.length_nil] at hlt ⊢; omega)).is rfl) (fun G6 e6 => ev_var (i := 4) rfl (.str n)) rfl m5 (by unfold lawD twB; rw [List.length_map, List.length_map]; have := hb.snd.sz.1; omega) g5.gh fun G6 H6 o g6 a6 m6 => ?_
        have gs6 := gs5.trans (Gs.of gs5.w g6)
        refine ⟨_, _, _, rfl, G6, gs_upd hw gs6 ha a6, s4.trans (g5.g.trans g6.g), ?_⟩
        rw [twB_next hb.nd hm rfl] at m6
        · rw [take_next hn]
          exact m6
        · intro hmem
          have : (s.take (i + 1)).Nodup := (List.take_sublist _ _).nodup hsnd
          rw [take_next hn, List.nodup_append] at this
          exact this.2.2 n hmem n (by simp) rfl
      · rintro σ' H' ⟨b4, b5, b6, rfl, G4, g4, s4, m4⟩
        rw [List.length_map, List.take_length] at m4
        obtain ⟨ws, k1, k2⟩ := gs_frz hw g4 ha m4
        refine ⟨_, rfl, a, _, rfl, k1, True.intro, fun od => ?_⟩
        obtain ⟨G5, g5, hv5, s5⟩ := k2 od
        obtain ⟨x, xs, rfl⟩ : ∃ x xs, s = x :: xs := by
          cases s with
          | nil => exact absurd rfl hsne
          | cons x xs => exact ⟨x, xs, rfl⟩
        refine ev_minS (K := K) (x := x) (xs := xs) (ev_var (i := 3) rfl (hv2.up (g3.g.trans (s4.trans s5)))) _ g5.w.g _ fun v6 G6 H6 g6 hv6 => ?_
        refine ⟨by show 2 ≤ sizeLine; decide, fun t htn => ?_⟩
        have gs6 := g5.trans (Gs.of g5.w g6)
        have g7 := gs_new (o := .tup [.ref a, v6]) hw gs6 htn
        have t0 := gs_was gs6 htn
        have g8 := gs_keep hw g7 t0 (same_none gs6.w.g htn) upd_same
        have sn := same_new (o := .tup [.ref a, v6]) (same_none gs6.w.g htn)
        exact q (.ref t) _ _ _ (g8.more (by omega)) ⟨x, xs, hsub, rfl⟩ (.tup (.inl upd_same) (.cons ((hv5.up g6.g).up sn) (.cons (hv6.up sn) .nil)))

end
end T47
/-! _law_g_met. -/
namespace T47
open PySem PySem.Spec PyProof.Rows L2 Pk LamX
/-- the classes that the asks raise, their fields, how they are told -/
def metL : List (Str × Str × Str) := [("BadBook", "thing", "book"), ("NotSimple", "name", "simple"), ("BadRow", "index", "row"), ("BadWord", "index", "word")]
/-- what is wanted of what is raised -/
def EMet (K : PySem.W.Frag) (Q : VK) : XK := fun cls d H => ∃ (C f tag : Str) (dd : Addr) (v : V), (C, f, tag) ∈ metL ∧ cls = .ref (He.ga K C) ∧ d = some dd ∧ H dd = some (.xd [(f, v)]) ∧ ∀ p, H p = none → Q (.ref p) (upd H p (.tup [.str tag, v]))
def TMet (K : PySem.W.Frag) : (XK → Hp → VK → Prop) → Hp → VK → Prop := fun tl H Q => tl (EMet K Q) H fun v H' => [V.str "told", v].length ≤ sizeLine ∧ ∀ p, H' p = none → Q (.ref p) (upd H' p (.tup [.str "told", v]))
def metT (K : PySem.W.Frag) (a : Addr) (cls : Value) (d : Option Addr) (C f tag : Str) : TS := tRet (tTup (tCons (tC (.str tag)) (tCons (tXf a cls d (He.ga K C) f (tVar 1)) tNil)))
def metN : TS := fun _ _ _ => False
theorem met_go {K : PySem.W.Frag} {a dd : Addr} {C f tag : Str} {σ : L2.St} {H : Hp} {D0 : L2.Ends} {v : V} {cls : Value} (hc : cls = .ref (He.ga K C)) (hl : σ.length = 2) (hd : H dd = some (.xd [(f, v)])) (q : ∀ p, H p = none → D0.rt (.ref p) (upd H p (.tup [.str tag, v]))) :
    metT K a cls (some dd) C f tag (lessName 1 D0) (σ.set 1 (some (.ref a))) H := by
  refine ⟨.ref a, ?_, rfl, hc, dd, _, v, rfl, hd, ?_, by show 2 ≤ sizeLine; decide, q⟩
  · rw [List.getElem?_set_self (by omega)]
  · show List.lookup f [(f, v)] = some v
    simp [List.lookup]
theorem takes_len {X : Cx} {W : WX} {n : Nat} (hn : X.N.length = n) (t : Takes X W) : Takes X (fun cls d σ H => σ.length = n → W cls d σ H) := fun u s' ⟨a, B, sI, pins, σ, H, cls, d, e, I, nb, up, sky, na, os, ag, w⟩ =>
  t u s' ⟨a, B, sI, pins, σ, H, cls, d, e, I, nb, up, sky, na, os, ag, w (I.len.trans hn)⟩

theorem sc_w_g_met : FnScope ["_law_ask", "e"] ["_law_ask"] (defScope T47.s_w_g_met) := ⟨rfl, rfl, rfl, by decide +kernel, rfl, by decide +kernel, by decide +kernel⟩
abbrev ZM (X : Cx) (g : Addr) (cdg : Value) (s : Shared) (H : Hp) : Cx := (cxOf C8.CX0 X.prog X.w X.K X.mg X.base ["_law_ask", "e"] "_law_g_met" (defScope T47.s_w_g_met) g cdg X.A X.stack s H C8.E0).nox
theorem met_gives {X : Cx} {g : Addr} {cdg : Value} {q : Str} (T : Tx X.w X.K X.mg) : GivesTo X ["_law_ask", "e"] "_law_g_met" (defScope T47.s_w_g_met) g cdg (defBody T47.s_w_g_met) "_law_ask" q (TMet X.K) := by
  intro f c' s H Q tl act hc h
  have nd := sc_w_g_met.nd
  refine ⟨_, pss_one (ps_try_nm (X := (cxOf C8.CX0 X.prog X.w X.K X.mg X.base ["_law_ask", "e"] "_law_g_met" (defScope T47.s_w_g_met) g cdg X.A X.stack s H C8.E0).nox)
    (tb := fun W D σ H => ∃ Ech : XK, (∀ cls d σ' H', Ech cls d H' → σ'.length = 2 → W cls d σ' H') ∧ σ[0]? = some (some (.ref f)) ∧ H c' = some (CodeO c' q) ∧ tl Ech H fun v H' => [V.str "told", v].length ≤ sizeLine ∧ ∀ p, H' p = none → D.rt (.ref p) (upd H' p (.tup [.str "told", v])))
    (l := [(Value.ref (He.ga X.K "BadBook"), 1, fun a cls d => metT X.K a cls d "BadBook" "thing" "book"), (Value.ref (He.ga X.K "NotSimple"), 1, fun a cls d => metT X.K a cls d "NotSimple" "name" "simple"), (Value.ref (He.ga X.K "BadRow"), 1, fun a cls d => metT X.K a cls d "BadRow" "index" "row"), (Value.ref (He.ga X.K "BadWord"), 1, fun a cls d => metT X.K a cls d "BadWord" "index" "word"), (Value.ref (He.ga X.K "BadLong"), 1, fun _ _ _ => metN), (Value.ref (He.ga X.K "BadNumber"), 1, fun _ _ _ => metN), (Value.ref (He.ga X.K "NotFinished"), 1, fun _ _ _ => metN)]) rfl rfl nd L2.takes0 (fun W pn xe tk _ => ?_)
    (.cons (p := (Value.ref (He.ga X.K "BadBook"), 1, fun a cls d => metT X.K a cls d "BadBook" "thing" "book")) rfl rfl ⟨rfl, by decide, .inl (T.glo (x := "BadBook") 2)⟩ (fun a oe cls d pn hz hf => pss_one (ps_ret (pe_tup (pa_cons pe_str (pa_cons (pe_xf (X := ZM X g cdg s H) (C := He.ga X.K "BadBook") (oex_of T (x := "BadBook") (f := "thing") (by decide)).2.1 (oex_of T (x := "BadBook") (f := "thing") (by decide)).2.2.1 hz hf (pv 1)) pa_nil)))))
    (.cons (p := (Value.ref (He.ga X.K "NotSimple"), 1, fun a cls d => metT X.K a cls d "NotSimple" "name" "simple")) rfl rfl ⟨rfl, by decide, .inl (T.glo (x := "NotSimple") 20)⟩ (fun a oe cls d pn hz hf => pss_one (ps_ret (pe_tup (pa_cons pe_str (pa_cons (pe_xf (X := ZM X g cdg s H) (C := He.ga X.K "NotSimple") (oex_of T (x := "NotSimple") (f := "name") (by decide)).2.1 (oex_of T (x := "NotSimple") (f := "name") (by decide)).2.2.1 hz hf (pv 1)) pa_nil)))))
    (.cons (p := (Value.ref (He.ga X.K "BadRow"), 1, fun a cls d => metT X.K a cls d "BadRow" "index" "row")) rfl rfl ⟨rfl, by decide, .inl (T.glo (x := "BadRow") 8)⟩ (fun a oe cls d pn hz hf => pss_one (ps_ret (pe_tup (pa_cons pe_str (pa_cons (pe_xf (X := ZM X g cdg s H) (C := He.ga X.K "BadRow") (oex_of T (x := "BadRow") (f := "index") (by decide)).2.1 (oex_of T (x := "BadRow") (f := "index") (by decide)).2.2.1 hz hf (pv 1)) pa_nil)))))
    (.cons (p := (Value.ref (He.ga X.K "BadWord"), 1, fun a cls d => metT X.K a cls d "BadWord" "index" "word")) rfl rfl ⟨rfl, by decide, .inl (T.glo (x := "BadWord") 12)⟩ (fun a oe cls d pn hz hf => pss_one (ps_ret (pe_tup (pa_cons pe_str (pa_cons (pe_xf (X := ZM X g cdg s H) (C := He.ga X.K "BadWord") (oex_of T (x := "BadWord") (f := "index") (by decide)).2.1 (oex_of T (x := "BadWord") (f := "index") (by decide)).2.2.1 hz hf (pv 1)) pa_nil)))))
    (.cons (p := (Value.ref (He.ga X.K "BadLong"), 1, fun _ _ _ => metN)) rfl rfl ⟨rfl, by decide, .inl (T.glo (x := "BadLong") 4)⟩ (fun a oe cls d pn hz hf => pss_one ps_naught)
    (.cons (p := (Value.ref (He.ga X.K "BadNumber"), 1, fun _ _ _ => metN)) rfl rfl ⟨rfl, by decide, .inl (T.glo (x := "BadNumber") 6)⟩ (fun a oe cls d pn hz hf => pss_one ps_naught)
    (.cons (p := (Value.ref (He.ga X.K "NotFinished"), 1, fun _ _ _ => metN)) rfl rfl ⟨rfl, by decide, .inl (T.glo (x := "NotFinished") 18)⟩ (fun a oe cls d pn hz hf => pss_one ps_naught)
    .nil)))))))), ?_⟩
  · refine ⟨fun pins s' σ H' D I h' => ?_⟩
    obtain ⟨Ech, hW, h1, h2, h3⟩ := h'
    exact PSs.run (pss_one (ps_ret (pe_tup (pa_cons pe_str (pa_cons (act (fun cls d σ H => σ.length = 2 → W cls d σ H) pn xe Ech _ _ (takes_len rfl tk) hW) pa_nil))))) pins s' σ H' D I ⟨h1, h2, h3⟩
  · refine ⟨EMet X.K Q, fun cls d σ' H' ⟨C, f, tag, dd, v, hm, e1, e2, hdd, hq⟩ hlen => ?_, rfl, hc, h⟩
    subst e2
    simp only [metL, List.mem_cons, List.not_mem_nil, or_false, Prod.mk.injEq] at hm
    rcases hm with ⟨rfl, rfl, rfl⟩ | ⟨rfl, rfl, rfl⟩ | ⟨rfl, rfl, rfl⟩ | ⟨rfl, rfl, rfl⟩
    · subst e1
      exact ⟨true, He.exm_ok (x := "BadBook") (y := "BadBook") (T.fact 106), fun _ a _ => met_go rfl hlen hdd hq, fun z => by cases z⟩
    · subst e1
      exact ⟨false, He.exm_ok (x := "NotSimple") (y := "BadBook") (T.fact 107), (fun z => by cases z), fun _ => ⟨true, He.exm_ok (x := "NotSimple") (y := "NotSimple") (T.fact 108), fun _ a _ => met_go rfl hlen hdd hq, fun z => by cases z⟩⟩
    · subst e1
      exact ⟨false, He.exm_ok (x := "BadRow") (y := "BadBook") (T.fact 109), (fun z => by cases z), fun _ => ⟨false, He.exm_ok (x := "BadRow") (y := "NotSimple") (T.fact 110), (fun z => by cases z), fun _ => ⟨true, He.exm_ok (x := "BadRow") (y := "BadRow") (T.fact 111), fun _ a _ => met_go rfl hlen hdd hq, fun z => by cases z⟩⟩⟩
    · subst e1
      exact ⟨false, He.exm_ok (x := "BadWord") (y := "BadBook") (T.fact 112), (fun z => by cases z), fun _ => ⟨false, He.exm_ok (x := "BadWord") (y := "NotSimple") (T.fact 113), (fun z => by cases z), fun _ => ⟨false, He.exm_ok (x := "BadWord") (y := "BadRow") (T.fact 114), (fun z => by cases z), fun _ => ⟨true, He.exm_ok (x := "BadWord") (y := "BadWord") (T.fact 115), fun _ a _ => met_go rfl hlen hdd hq, fun z => by cases z⟩⟩⟩⟩
end T47
/-! The time of the asks: tables of code objects change, all else stays. -/
namespace Pk
open PySem PySem.Spec PyProof.Rows L2 LamX
def NoT (G : Hp) : Prop := ∀ b ps, G b ≠ some (.tbl ps)
def noTbl (G : Hp) : Hp := fun b => match G b with
  | some (.tbl _) => none
  | o => o
theorem noT_noTbl (G : Hp) : NoT (noTbl G) := fun b ps z => by
  unfold noTbl at z
  split at z
  · cases z
  · rename_i h; exact h ps z
theorem noTbl_of {G : Hp} {b : Addr} {o : HO} (h : G b = some o) (n : ∀ ps, o ≠ .tbl ps) : noTbl G b = some o := by
  unfold noTbl
  rw [h]
  split
  · rename_i h2; exact absurd (Option.some.inj h2) (n _)
  · rfl
theorem noTbl_sub {G : Hp} {b : Addr} {o : HO} (h : noTbl G b = some o) : G b = some o := by
  unfold noTbl at h
  split at h
  · cases h
  · exact h
theorem noTbl_same {G G1 : Hp} (n : NoT G) (e : Same G G1) : Same G (noTbl G1) := fun b o h => noTbl_of (e b o h) fun ps z => n b ps (by rw [h, z])
theorem rd_noTbl {G : Hp} {a : Addr} {u : HO} (n : ∀ ps, u ≠ .tbl ps) (h : Rd G a u) : Rd (noTbl G) a u := by
  rcases h with h | ⟨o, h⟩
  · exact .inl (noTbl_of h n)
  · exact .inr ⟨o, noTbl_of h fun _ z => by cases z⟩
mutual
theorem dq_noTbl {K : PySem.W.Frag} {G : Hp} : ∀ {d : D} {v : V}, Dq K G v d → Dq K (noTbl G) v d
  | .non, _, .non => .non
  | .bl _, _, .bl b => .bl b
  | .int _, _, .int i => .int i
  | .str _, _, .str x => .str x
  | .lst ds, _, .lst h hs => .lst (rd_noTbl (fun _ z => by cases z) h) (dqs_noTbl hs)
  | .tup ds, _, .tup h hs => .tup (rd_noTbl (fun _ z => by cases z) h) (dqs_noTbl hs)
  | .dic kvs, _, .dic h k hs => .dic (noTbl_of h fun _ z => by cases z) k (dqs_noTbl hs)
theorem dqs_noTbl {K : PySem.W.Frag} {G : Hp} : ∀ {ds : List D} {vs : List V}, Dqs K G vs ds → Dqs K (noTbl G) vs ds
  | [], _, .nil => .nil
  | d :: ds, _, .cons h hs => .cons (dq_noTbl h) (dqs_noTbl hs)
end
theorem same_ext {G H H1 : Hp} (n : NoT G) (e : Same G H) (x : ExtN H H1) : Same G H1 := fun b o h => x b o (e b o h) fun ps z => n b ps (by rw [h, z])
theorem Strm.ext {S : Sm} {L : Nat} {H H' : Hp} (h : Strm S L H) (e : ExtN H H') : Strm S L H' := by
  obtain ⟨h0, cells, n, r, t, h1, h2, h3⟩ := h.ex
  exact ⟨h0, cells, n, r, t, e _ _ h1 (fun _ z => by cases z), e _ _ h2 (fun _ z => by cases z), h3⟩
/-- G stays, the tables of T grow, the stream stands still -/
structure Ph (T : List (Addr × Str)) (S : Sm) (L : Nat) (H0 G H : Hp) : Prop where
  w : Wl S G L H
  t : Tabs T H
  f : ExtF H0 H
  nt : NoT G
section
variable {T : List (Addr × Str)} {S : Sm} {L : Nat} {H0 G H G1 H1 : Hp} {a : Addr} {o : HO}
theorem Ph.x (p : Ph T S L H0 G H) (x : ExtN H H1) (t : Tabs T H1) : Ph T S L H0 G H1 := ⟨⟨same_ext p.nt p.w.g x, p.w.gs, p.w.gc, p.w.st.ext x⟩, t, p.f.trans (ExtF.of x), p.nt⟩
theorem Ph.h (p : Ph T S L H0 G H) (s : Same H H1) : Ph T S L H0 G H1 := p.x (ExtN.of s) (p.t.ext s)
theorem Ph.up (p : Ph T S L H0 G H) (g : Gr G H G1 H1) : Ph T S L H0 (noTbl G1) H1 := by
  obtain ⟨_, h1⟩ := p.w.ss
  obtain ⟨_, h2⟩ := p.w.cc
  have z : ∀ b, G1 b = none → noTbl G1 b = none := fun b e => by
    cases q : noTbl G1 b with
    | none => rfl
    | some o => have := noTbl_sub q; rw [e] at this; cases this
  exact ⟨⟨fun b o e => g.gh _ _ (noTbl_sub e), z _ (g.apart h1 p.w.gs), z _ (g.apart h2 p.w.gc), p.w.st.same g.h⟩, p.t.ext g.h, p.f.trans (ExtF.of (ExtN.of g.h)), noT_noTbl _⟩
theorem Ph.keep (p : Ph T S L H0 G H) (h : H a = some o) (hg : G a = none) (n1 : a ≠ S.s) (n2 : a ≠ S.c) (nt : ∀ ps, o ≠ .tbl ps) : Ph T S L H0 (upd G a o) H :=
  ⟨⟨same_mut p.w.g h, by rw [upd_ne n1.symm]; exact p.w.gs, by rw [upd_ne n2.symm]; exact p.w.gc, p.w.st⟩, p.t, p.f, fun b ps z => by
    by_cases hb : b = a
    · rw [hb, upd_same] at z; exact nt ps (Option.some.inj z)
    · rw [upd_ne hb] at z; exact p.nt b ps z⟩
/-- a thing that may change is changed -/
theorem Ph.mut {u : HO} (p : Ph T S L H0 G H) (h : H a = some u) (hg : G a = none) (n1 : a ≠ S.s) (n2 : a ≠ S.c) (nt : ∀ ps, u ≠ .tbl ps) (nx : ∀ φ, u ≠ .ext φ) : Ph T S L H0 G (upd H a o) := by
  have nta : ∀ b ps, H b = some (.tbl ps) → b ≠ a := fun b ps e z => by rw [z, h] at e; exact nt ps (Option.some.inj e)
  have nxa : ∀ b φ, H b = some (.ext φ) → b ≠ a := fun b φ e z => by rw [z, h] at e; exact nx φ (Option.some.inj e)
  refine ⟨⟨same_upd p.w.g hg, p.w.gs, p.w.gc, ?_⟩, fun q hq => ?_, fun b φ e => ?_, p.nt⟩
  · obtain ⟨h0, cells, n, r, t, h1, h2, h3⟩ := p.w.st.ex
    exact ⟨h0, cells, n, r, t, by rw [upd_ne n1.symm]; exact h1, by rw [upd_ne n2.symm]; exact h2, h3⟩
  · obtain ⟨ps, k1, k2, k3⟩ := p.t q hq
    refine ⟨ps, by rw [upd_ne (nta _ _ k1)]; exact k1, k2, fun p2 cv found => ?_⟩
    obtain ⟨c, e1, e2⟩ := k3 p2 cv found
    exact ⟨c, e1, by rw [upd_ne (nxa c _ e2)]; exact e2⟩
  · have := p.f b φ e
    rw [upd_ne (nxa b φ this)]
    exact this
theorem Ph.new (p : Ph T S L H0 G H) (h : H a = none) : Ph T S L H0 G (upd H a o) := p.h (same_new h)
end
end Pk
namespace T47
open PySem PySem.Spec PyProof.Rows L2 Pk LamX
theorem book_noTbl {K : PySem.W.Frag} {G : Hp} {v : V} {b : Kept} (h : IsBook K G v b) : IsBook K (noTbl G) v b := by
  obtain ⟨x, dx, vr, vn, h1, h2, h3⟩ := h.ex
  exact ⟨x, dx, vr, vn, h1, noTbl_of h2 (fun _ z => by cases z), dq_noTbl h3⟩
/-- what every ask promises of what it refuses -/
def sp_ask (K : PySem.W.Frag) : Sp := spX K fun G vb ds C fd pv => BadAll K G vb ds C fd pv
section
variable {X : Cx} {T : List (Addr × Str)} {c Pt : Addr} {k i : Nat} {params : Arguments} {body : Expr} {scope : Scope} {t : XK → TE} {p lpos pos : Pos}
/-- _law_g_met(lambda: ..) -/
theorem pe_met (TX : Tx X.w X.K X.mg) (hg : Gl X "_law_g_met") (TB : TabB X.base X.mg c Pt) (hcode : X.env.code = .ref c) (hmT : (Pt, X.env.qual ++ "<lambda>") ∈ T) (hu : ∀ p ∈ T, p.1 = Pt → p.2 = X.env.qual ++ "<lambda>") (hr : Room (k + 2) X.A) (L : LamS X.env.scope scope) (hdef : defaultsOf params X.env = ([], []))
    (hbind : ∀ (q : Str) (cl : List (Str × Addr)) (pm cv ctv : Value), bindArgs (PySem.W.kla_fn "<lambda>" q params body scope cl pm cv ctv) ⟨[], []⟩ = pure [])
    (hbody : ∀ (A : Around) (outer : List Env) (s : Shared) (H : Hp) (E : XK) (f c' : Addr), Room k (A.deeper (lamEnv X scope s.heap.objs.size f c')) → PE (lamCx X A outer s H E scope f c') body (t E)) :
    PE X (.Call (.Name "_law_g_met" p) [.Lambda params body scope lpos] [] pos) (tLam T (TMet X.K) t) := by
  obtain ⟨fd, F⟩ := TX.def_ 54
  have gm := TX.glo (x := "_law_g_met") 66
  obtain ⟨oc, od, dV, kV, doc, pm, an, cdv, ct, osl, rfl, lk, hcd, _, _⟩ := id F.ex
  exact pe_lamcall hg gm F.kp lk hcd (F.bindsN (fun _ _ _ _ _ _ us hl => match us, hl with | [_], _ => rfl)) sc_w_g_met rfl (.inl rfl) (met_gives TX) TB hcode hmT hu hr L hdef hbind hbody
end
section
variable {P : Program} {w : World} {K : PySem.W.Frag} {mg : Str → Option Value} {base : Heap} {T : List (Addr × Str)} {σ : L2.St} {G H : Hp} {ta : TA} {vb : V} {ds : List D} {C fd tag : Str} {pv : V → Prop} {f : Addr} {k i : Nat} {Q : VK}
/-- what is refused, as it is told -/
theorem met_read (nt : NoT G) (e : Same G H) (hT : Tabs T H) (hf : σ[i]? = some (some (.ref f))) (cal : Cal P w K mg base k H f 3 (sp_ask K)) (ha : EvAV K ta σ G vb ds) (hl : ds.length = 2) (bad : BadAll K G vb ds C fd pv) (tg : (C, fd, tag) ∈ metL)
    (q : ∀ v p H1, ExtN H H1 → Tabs T H1 → pv v → H1 p = none → Q (.ref p) (upd H1 p (.tup [.str tag, v]))) : tLam T (TMet K) (fun E => tAsk P w K mg base k i 3 (sp_ask K) E ta) σ H Q := by
  refine ⟨hT, fun H1 x1 T1 => ?_⟩
  refine ⟨f, hf, cal.ext (ExtF.of x1), ha H1 (same_ext nt e x1) _ fun vs G2 H2 g2 hvs => ?_⟩
  refine ⟨ExtN.of g2.h, by rw [List.length_cons, hvs.length, hl], G2, vb, vs, ds, C, fd, pv, rfl, g2.gh, hvs, bad.up g2.g, fun dd H3 v g3 hdd hp => ?_⟩
  exact ⟨C, fd, tag, dd, v, tg, rfl, rfl, hdd, fun p hp0 => q v p H3 (x1.trans (ExtN.of (g2.h.trans g3))) ((T1.ext g2.h).ext g3) hp hp0⟩
end
end T47
/-! Asks within _law_g_met; defs that make lambdas. -/
namespace Pk
open PySem PySem.Spec PyProof.Rows L2 LamX
/-- a def of the text that makes lambdas: its code object is known -/
theorem has_ofC {P : Program} {w : World} {K : PySem.W.Frag} {mg : Str → Option Value} {base : Heap} {y x qual : Str} {params : Arguments} {body : List Stmt} {scope : Scope} {pd : Str × Option Str} {fd : FuncData} {N ps : List Str} {k : Nat} {sp : Sp}
    (F : FunD K x qual params body scope [] [] (He.fAd K pd) fd) (hm : mg y = some (.ref (He.fAd K pd))) (S : FnScope N ps scope)
    (hb : ∀ (kV doc pm : Value) (an : Option Addr) (cdv ct : Value) (us : List Value), us.length = ps.length → bindArgs (PySem.W.fnOf x qual params body scope .none kV doc pm an cdv ct) ⟨us, []⟩ = pure (ps.zip us))
    (len : ∀ vs H Q E, sp vs H Q E → vs.length = ps.length)
    (hbody : ∀ (A : Around) (outer : List Env) (s : Shared) (H : Hp) (vs : List V) (Q : VK) (E : XK), Room k (A.deeper (envOfC qual scope s.heap.objs.size (He.fAd K pd) (.ref (He.codeOf K pd)))) → sp vs H Q E →
      ∃ t, PSs (cxOf CX0 P w K mg base N qual scope (He.fAd K pd) (.ref (He.codeOf K pd)) A outer s H E).nox body t ∧ t { nx := fun _ H' => Q .non H', rt := Q } (start N vs) H) : Has P w K mg base CX0 y (k + 1) ps sp := by
  refine ⟨_, fd, ?_, hm, F.kp, F.bindsN hb⟩
  obtain ⟨oc, od, dV, kV, doc, pm, an, cdv, ct, osl, rfl, lk, hcd, _, _⟩ := F.ex
  obtain ⟨c, rfl⟩ := He.codeIn_ref hcd
  have e : He.codeOf K pd = c := He.codeOf_eq lk rfl
  subst e
  exact L2.fn_of lk hcd S len fun A outer s H vs Q E hr h => by
    obtain ⟨t, h1, h2⟩ := hbody A outer s H vs Q E hr h
    exact ⟨t, h1.nox, h2⟩
end Pk
namespace T47
open PySem PySem.Spec PyProof.Rows L2 Pk LamX
section
variable {P : Program} {w : World} {K : PySem.W.Frag} {mg : Str → Option Value} {base : Heap}
/-- the two tables are two -/
theorem Tx.tne (T : Tx w K mg) : (He.cT K ("_law_g_refused", none)).2 ≠ (He.cT K ("_law_refused_right", none)).2 :=
  of_decide_eq_true (Bool.and_eq_true_iff.mp (Bool.and_eq_true_iff.mp T.more).1).2
def q1 : Str := (envOfC "_law_g_refused" (defScope T47.s_w_g_refused) 0 0 .none).qual ++ "<lambda>"
def q2 : Str := (envOfC "_law_refused_right" (defScope T47.s_w_refused_right) 0 0 .none).qual ++ "<lambda>"
def TT (K : PySem.W.Frag) : List (Addr × Str) := [((He.cT K ("_law_g_refused", none)).2, q1), ((He.cT K ("_law_refused_right", none)).2, q2)]
theorem tt_mem1 {K : PySem.W.Frag} : ((He.cT K ("_law_g_refused", none)).2, q1) ∈ TT K := by unfold TT; simp
theorem tt_mem2 {K : PySem.W.Frag} : ((He.cT K ("_law_refused_right", none)).2, q2) ∈ TT K := by unfold TT; simp
theorem tt_un1 (T : Tx w K mg) : ∀ p ∈ TT K, p.1 = (He.cT K ("_law_g_refused", none)).2 → p.2 = q1 := fun p hp e => by
  unfold TT at hp
  rcases List.mem_cons.mp hp with z | hp
  · rw [z]
  · rw [List.mem_singleton.mp hp] at e
    exact absurd e.symm T.tne
theorem tt_un2 (T : Tx w K mg) : ∀ p ∈ TT K, p.1 = (He.cT K ("_law_refused_right", none)).2 → p.2 = q2 := fun p hp e => by
  unfold TT at hp
  rcases List.mem_cons.mp hp with z | hp
  · rw [z] at e
    exact absurd e T.tne
  · rw [List.mem_singleton.mp hp]
variable {X : Cx} {c Pt : Addr} {k i : Nat} {q x : Str} {params : Arguments} {scope : Scope} {e : Expr} {es : List Expr} {ta : TA} {p p2 p3 lpos pos : Pos}
/-- _law_g_met(lambda: x(..)) -/
theorem pe_ma (hP : X.prog = P) (hW : X.w = w) (hK : X.K = K) (hM : X.mg = mg) (hB : X.base = base) (TX : Tx w K mg) (hg : Gl X "_law_g_met") (TB : TabB base mg c Pt) (hcode : X.env.code = .ref c) (hq : X.env.qual ++ "<lambda>" = q) (hmT : (Pt, q) ∈ TT K) (hu : ∀ p ∈ TT K, p.1 = Pt → p.2 = q) (hr : Room (k + 2) X.A)
    (L : LamS X.env.scope scope) (hdef : defaultsOf params X.env = ([], [])) (hbind : ∀ (q : Str) (cl : List (Str × Addr)) (pm cv ctv : Value), bindArgs (PySem.W.kla_fn "<lambda>" q params (.Call (.Name x p2) (e :: es) [] p3) scope cl pm cv ctv) ⟨[], []⟩ = pure [])
    (hN : X.N[i]? = some x) (hv : Vis scope x) (ha : ∀ (A : Around) (outer : List Env) (s : Shared) (H : Hp) (E : XK) (f c' : Addr), Room k (A.deeper (lamEnv X scope s.heap.objs.size f c')) → PA (lamCx X A outer s H E scope f c') (e :: es) ta)
    (hdb : (x == ("__debug__" : Str)) = false := by decide) (hcd : (x == ("__classdict__" : Str)) = false := by decide)
    (he : ∀ env, starEach (e :: es) env = (false, eval e env) :: starEach es env := by intro _; rfl) (hpl : ∀ env, (backTo p3 (starEach es env)).any (·.1) = false := by intro _; rfl) :
    PE X (.Call (.Name "_law_g_met" p) [.Lambda params (.Call (.Name x p2) (e :: es) [] p3) scope lpos] [] pos) (tLam (TT K) (TMet K) fun E => tAsk P w K mg base k i 3 (sp_ask K) E ta) := by
  subst hP hW hK hM hB hq
  exact pe_met TX hg TB hcode hmT hu hr L hdef hbind fun A outer s H E f c' hr2 => pe_ask (X := lamCx X A outer s H E scope f c') (E := E) hr2 hN hv (passes_call (takes_of rfl rfl rfl rfl) fun _ _ _ _ z => z) (ha A outer s H E f c' hr2) hdb hcd (he _) (hpl _)
end
end T47
namespace Pk
open PySem PySem.Spec PyProof.Rows L2
section
variable {K : PySem.W.Frag} {σ : L2.St} {G G1 H : Hp} {te : TE} {as : TA} {d : D} {ds : List D} {v : V} {i : Nat}
/-- data, then a value as it is -/
def EvAZ (K : PySem.W.Frag) (ta : TA) (σ : L2.St) (G : Hp) (ds : List D) (v : V) : Prop := ∀ H, Same G H → ∀ Q : List V → Hp → Prop, (∀ vs G' H', Gr G H G' H' → Dqs K G' vs ds → Q (vs ++ [v]) H') → ta σ H Q
theorem eaz_nil (h : σ[i]? = some (some v)) : EvAZ K (tCons (tVar i) tNil) σ G [] v := fun H e Q q => ⟨v, h, q [] G H (Gr.refl e) .nil⟩
theorem EvAZ.up (h : EvAZ K as σ G ds v) (e : Same G G1) : EvAZ K as σ G1 ds v := fun H e1 Q q => h H (e.trans e1) Q fun vs G' H' g hv => by
  obtain ⟨g1, g2⟩ := g.up e e1
  exact q vs _ H' g1 (hv.up g2)
theorem eaz_cons (h : EvD K te σ G d) (hr : EvAZ K as σ G ds v) : EvAZ K (tCons te as) σ G (d :: ds) v := fun H e Q q =>
  h H e _ fun x G1 H1 g1 hx => (hr.up g1.g) H1 g1.gh _ fun vs G2 H2 g2 hvs => q (x :: vs) G2 H2 (g1.trans g2) (.cons (hx.up g2.g) hvs)
/-- x = [e, .., y] -/
theorem m_lstZ {u : TS} {D0 : L2.Ends} (h : EvAZ K as σ G ds v) (hl : ds.length ≤ 100000) (e : Same G H) (k : ∀ vs a G1 H1, Gr G H G1 H1 → Dqs K G1 vs ds → H1 a = none → u D0 (σ.set i (some (.ref a))) (upd H1 a (.lst (vs ++ [v])))) : tSeq (tAsg (tLst as) (gName i)) u D0 σ H :=
  h H e _ fun vs G1 H1 g1 hvs => ⟨by rw [List.length_append, hvs.length]; exact Nat.le_trans (Nat.add_le_add_right hl 1) (by decide), fun p hp => k vs p G1 H1 g1 hvs hp⟩
end
end Pk
/-! Asks that are told apart. -/
namespace Pk
open PySem PySem.Spec PyProof.Rows L2 LamX
section
variable {T : List (Addr × Str)} {S : Sm} {L L' : Nat} {H0 G H G1 H1 : Hp} {a : Addr} {o : HO}
theorem gs_ext {φ : Heap → Prop} {b : Addr} (w : Wl S G L H) (g : Gs S L L' G H G1 H1) (h : H b = some (.ext φ)) : H1 b = some (.ext φ) := by
  obtain ⟨_, cells, n, r, t, e1, e2, _⟩ := w.st.ex
  exact g.h b _ (fun z => by rw [z, e1] at h; cases h) (fun z => by rw [z, e2] at h; cases h) h
theorem gs_tbl {ps : Array Value} {b : Addr} (w : Wl S G L H) (g : Gs S L L' G H G1 H1) (h : H b = some (.tbl ps)) : H1 b = some (.tbl ps) := by
  obtain ⟨_, cells, n, r, t, e1, e2, _⟩ := w.st.ex
  exact g.h b _ (fun z => by rw [z, e1] at h; cases h) (fun z => by rw [z, e2] at h; cases h) h
theorem Ph.gs (p : Ph T S L H0 G H) (g : Gs S L L' G H G1 H1) : Ph T S L' H0 (noTbl G1) H1 := by
  have z : ∀ b, G1 b = none → noTbl G1 b = none := fun b e => by
    cases q : noTbl G1 b with
    | none => rfl
    | some o => have := noTbl_sub q; rw [e] at this; cases this
  refine ⟨⟨fun b o e => g.w.g _ _ (noTbl_sub e), z _ g.w.gs, z _ g.w.gc, g.w.st⟩, fun q hq => ?_, fun b φ e => gs_ext p.w g (p.f b φ e), noT_noTbl _⟩
  obtain ⟨ps, k1, k2, k3⟩ := p.t q hq
  refine ⟨ps, gs_tbl p.w g k1, k2, fun p2 cv found => ?_⟩
  obtain ⟨c, e1, e2⟩ := k3 p2 cv found
  exact ⟨c, e1, gs_ext p.w g e2⟩
theorem Ph.more (p : Ph T S L H0 G H) (e : L ≤ L') : Ph T S L' H0 G H := ⟨p.w.more e, p.t, p.f, p.nt⟩
theorem ph_start (w : Wl S G L H) (t : Tabs T H) (n : NoT G) : Ph T S L H G H := ⟨w, t, ExtF.refl _, n⟩
end
section
variable {K : PySem.W.Frag} {σ : L2.St} {G H : Hp} {te tl ta : TE} {ds : List D} {d x : D} {p : D → Prop} {g : TG} {ts : TS} {E : L2.Ends}
/-- xs[-k] -/
theorem ev_ixNeg {k : Nat} (h : EvD K ta σ G (.lst ds)) (h1 : 1 ≤ k) (h2 : k ≤ ds.length) (hd : ds[ds.length - k]? = some d) : EvD K (tOp (rIx K) ta (tUn (rU fun i => .int (-i)) (tC (.int (k : Nat))))) σ G d := fun H e Q q => h H e _ fun v G1 H1 g1 hv => by
  cases hv with
  | @lst a xs _ hr hs =>
    obtain ⟨w, hw, hq⟩ := hs.get hd
    refine ⟨_, rfl, ?_⟩
    have hat : atI xs (-((k : Nat) : Int)) = some w := by
      unfold atI ixN
      rw [if_neg (by omega), if_pos (by rw [hs.length]; omega)]
      show xs[(-((k : Nat) : Int) + xs.length).toNat]? = some w
      rw [hs.length, show (-((k : Nat) : Int) + (ds.length : Int)).toNat = ds.length - k by omega]
      exact hw
    exact rIx_L ⟨a, xs, _, w, rfl, rfl, seqL (Rd.up g1.gh hr), hat, q w G1 H1 g1 hq⟩
/-- for target in e: .., e a list or a tuple of which something is known -/
theorem f_seqP (h : EvP K tl σ G p) (hp : ∀ d, p d → ∃ ds, Lk d ds) (e : Same G H)
    (k : ∀ d ds G1 H1, p d → Lk d ds → Gr G H G1 H1 → ∃ Pv : Nat → L2.St → Hp → Prop, Pv 0 σ H1 ∧ (∀ i σ' H', Pv i σ' H' → Same (noTbl G1) H') ∧
      (∀ i di v σ' H', ds[i]? = some di → Dq K (noTbl G1) v di → Pv i σ' H' → g v σ' H' fun σ2 H2 => ts { E with nx := Pv (i + 1), ct := Pv (i + 1), bk := E.nx } σ2 H2) ∧ ∀ σ' H', Pv ds.length σ' H' → E.nx σ' H') : tFor (iSeq K tl) g ts E σ H :=
  h H e _ fun v d G1 H1 g1 hd hv => by
    obtain ⟨ds, hk⟩ := hp d hd
    obtain ⟨Pv, h0, hS, hs, hn⟩ := k d ds G1 H1 hd hk g1
    have hv2 := dq_noTbl hv
    cases hk with
    | lst ds =>
      cases hv with
      | @lst a xs _ hr0 hq0 =>
      cases hv2 with
      | @lst _ xs2 _ hr hq =>
        refine .inl ⟨a, rfl, ⟨xs, seqL (Rd.up g1.gh hr0)⟩, ?_⟩
        exact for_gen (n := ds.length) (fun i w => ∃ di, ds[i]? = some di ∧ Dq K (noTbl G1) w di) Pv h0 (fun i σ' H' hlt p => ⟨xs2, xs2[i]'(by rw [hq.length]; exact hlt), seqL (Rd.up (hS _ _ _ p) hr), by simp [hq.length, hlt]⟩)
          (fun σ' H' p => ⟨xs2, seqL (Rd.up (hS _ _ _ p) hr), Nat.le_of_eq hq.length⟩) (fun i σ' H' w H'' hlt p y => ⟨y.1, hq.at (y.2 xs2 (seqL (Rd.up (hS _ _ _ p) hr)))⟩) (fun i w σ' H' hlt ⟨di, e1, e2⟩ p => hs i di w σ' H' e1 e2 p) hn
    | tup ds =>
      cases hv with
      | @tup a xs _ hr0 hq0 =>
      cases hv2 with
      | @tup _ xs2 _ hr hq =>
        refine .inr (.inl ⟨a, rfl, ⟨xs, seqT (Rd.up g1.gh hr0)⟩, ?_⟩)
        exact for_gen (n := ds.length) (fun i w => ∃ di, ds[i]? = some di ∧ Dq K (noTbl G1) w di) Pv h0 (fun i σ' H' hlt p => ⟨xs2, xs2[i]'(by rw [hq.length]; exact hlt), seqT (Rd.up (hS _ _ _ p) hr), by simp [hq.length, hlt]⟩)
          (fun σ' H' p => ⟨xs2, seqT (Rd.up (hS _ _ _ p) hr), Nat.le_of_eq hq.length⟩) (fun i σ' H' w H'' hlt p y => ⟨y.1, hq.at (y.2 xs2 (seqT (Rd.up (hS _ _ _ p) hr)))⟩) (fun i w σ' H' hlt ⟨di, e1, e2⟩ p => hs i di w σ' H' e1 e2 p) hn
end
end Pk
namespace T47
open PySem PySem.Spec PyProof.Rows L2 Pk LamX
/-- Dp, asked -/
def dpB : Nat → D → Bool
  | _, .non => true
  | _, .bl _ => true
  | _, .int _ => true
  | _, .str _ => true
  | k, .dic kvs => kvs.isEmpty && decide (2 ≤ k)
  | 0, .lst _ => false
  | 0, .tup _ => false
  | k + 1, .lst ds => decide (ds.length ≤ 1000) && ds.all (dpB k)
  | k + 1, .tup ds => decide (ds.length ≤ 1000) && ds.all (dpB k)
theorem dpB_ok : ∀ {k : Nat} {d : D}, dpB k d = true → Dp k d
  | _, .non, _ => .flat rfl
  | _, .bl _, _ => .flat rfl
  | _, .int _, _ => .flat rfl
  | _, .str _, _ => .flat rfl
  | k, .dic kvs, h => by
    have h : (kvs.isEmpty && decide (2 ≤ k)) = true := by cases k <;> exact h
    obtain ⟨h1, h2⟩ := Bool.and_eq_true_iff.mp h
    have := List.isEmpty_iff.mp h1
    subst this
    obtain ⟨m, rfl⟩ : ∃ m, k = m + 2 := ⟨k - 2, by have := of_decide_eq_true h2; omega⟩
    exact .nil
  | 0, .lst _, h => by cases h
  | 0, .tup _, h => by cases h
  | k + 1, .lst ds, h => by
    obtain ⟨h1, h2⟩ := Bool.and_eq_true_iff.mp (show (decide (ds.length ≤ 1000) && ds.all (dpB k)) = true from h)
    exact .seq (.lst _) (of_decide_eq_true h1) fun d hd => dpB_ok (List.all_eq_true.mp h2 d hd)
  | k + 1, .tup ds, h => by
    obtain ⟨h1, h2⟩ := Bool.and_eq_true_iff.mp (show (decide (ds.length ≤ 1000) && ds.all (dpB k)) = true from h)
    exact .seq (.tup _) (of_decide_eq_true h1) fun d hd => dpB_ok (List.all_eq_true.mp h2 d hd)
section
variable {P : Program} {w : World} {K : PySem.W.Frag} {mg : Str → Option Value} {base : Heap} {T : List (Addr × Str)} {σ : L2.St} {G H : Hp} {ta : TA} {te : TE} {vb : V} {ds : List D} {d0 : D} {C fd tag : Str} {pv : V → Prop} {f : Addr} {k i : Nat} {R : Bool → Hp → Prop}
/-- not _law_same(_law_g_met(lambda: ..), (tag, ..)): False -/
theorem met_same (nt : NoT G) (e : Same G H) (hT : Tabs T H) (hf : σ[i]? = some (some (.ref f))) (cal : Cal P w K mg base k H f 3 (sp_ask K)) (ha : EvAV K ta σ G vb ds) (hl : ds.length = 2) (bad : BadAll K G vb ds C fd pv) (tg : (C, fd, tag) ∈ metL)
    (hv : ∀ v, pv v → Dq K G v d0) (hte : ∀ G1, Same G G1 → EvD K te σ G1 (.tup [.str tag, d0])) (dp : Dp 7 (.tup [.str tag, d0])) (q : ∀ H', ExtN H H' → Tabs T H' → R false H') :
    tNot (tB (tCall (sp_same K 7) [] E0 (tCons (tLam T (TMet K) fun E => tAsk P w K mg base k i 3 (sp_ask K) E ta) (tCons te tNil)))) σ H R := by
  refine met_read (Q := _) nt e hT hf cal ha hl bad tg fun v p H1 x1 T1 hpv hp => ?_
  have e1 := same_ext nt e x1
  have gp : G p = none := same_none e1 hp
  have sn := same_new (o := .tup [.str tag, v]) gp
  have s2 : Same (upd G p (.tup [.str tag, v])) (upd H1 p (.tup [.str tag, v])) := same_both e1
  refine hte _ sn _ s2 _ fun v2 G2 H2 g2 hv2 => ?_
  have h1 : Dq K (upd G p (.tup [.str tag, v])) (.ref p) (.tup [.str tag, d0]) := .tup (.inl upd_same) (.cons (.str _) (.cons ((hv v hpv).up sn) .nil))
  refine ⟨G2, [.tup [.str tag, d0], .tup [.str tag, d0]], .bl true, g2.gh, .cons (h1.up g2.g) (.cons hv2 .nil), ⟨_, rfl, dp, rfl⟩, fun v3 G3 H3 g3 hv3 => ?_⟩
  cases hv3
  have s13 : Same H1 H3 := (same_new hp).trans (g2.h.trans g3.h)
  exact ⟨true, rfl, q H3 (x1.trans (ExtN.of s13)) (T1.ext s13)⟩
/-- if not _law_same(..): ..; the rest -/
theorem met_if {t u : TS} {D0 : L2.Ends} (nt : NoT G) (e : Same G H) (hT : Tabs T H) (hf : σ[i]? = some (some (.ref f))) (cal : Cal P w K mg base k H f 3 (sp_ask K)) (ha : EvAV K ta σ G vb ds) (hl : ds.length = 2) (bad : BadAll K G vb ds C fd pv) (tg : (C, fd, tag) ∈ metL)
    (hv : ∀ v, pv v → Dq K G v d0) (hte : ∀ G1, Same G G1 → EvD K te σ G1 (.tup [.str tag, d0])) (dp : Dp 7 (.tup [.str tag, d0])) (q : ∀ H', ExtN H H' → Tabs T H' → u D0 σ H') : tSeq (tIfS (tNot (tB (tCall (sp_same K 7) [] E0 (tCons (tLam T (TMet K) fun E => tAsk P w K mg base k i 3 (sp_ask K) E ta) (tCons te tNil))))) t tNext) u D0 σ H :=
  met_same (R := fun b H1 => if b = true then t { D0 with nx := u D0 } σ H1 else u D0 σ H1) nt e hT hf cal ha hl bad tg hv hte dp fun H' x T' => iteF (q H' x T')
theorem met_if1 {t : TS} {D0 : L2.Ends} (nt : NoT G) (e : Same G H) (hT : Tabs T H) (hf : σ[i]? = some (some (.ref f))) (cal : Cal P w K mg base k H f 3 (sp_ask K)) (ha : EvAV K ta σ G vb ds) (hl : ds.length = 2) (bad : BadAll K G vb ds C fd pv) (tg : (C, fd, tag) ∈ metL)
    (hv : ∀ v, pv v → Dq K G v d0) (hte : ∀ G1, Same G G1 → EvD K te σ G1 (.tup [.str tag, d0])) (dp : Dp 7 (.tup [.str tag, d0])) (q : ∀ H', ExtN H H' → Tabs T H' → D0.nx σ H') : tIfS (tNot (tB (tCall (sp_same K 7) [] E0 (tCons (tLam T (TMet K) fun E => tAsk P w K mg base k i 3 (sp_ask K) E ta) (tCons te tNil))))) t tNext D0 σ H :=
  met_same (R := fun b H1 => if b = true then t D0 σ H1 else D0.nx σ H1) nt e hT hf cal ha hl bad tg hv hte dp fun H' x T' => iteF (q H' x T')
end
end T47
/-! _law_g_refused. -/
namespace T47
open PySem PySem.Spec PyProof.Rows L2 Pk LamX
section
variable {P : Program} {w : World} {K : PySem.W.Frag} {mg : Str → Option Value} {base : Heap}
def costR : Nat := 2 * costM + 200
def sp_w_g_refused (P : Program) (w : World) (K : PySem.W.Frag) (mg : Str → Option Value) (base : Heap) : Sp := fun vs H Q _ => ∃ (S : Sm) (G : Hp) (L : Nat) (vR : V) (b : Kept) (la : Addr) (fs : List Addr), vs = [.ref S.s, vR, .ref la] ∧ Ph (TT K) S L H G H ∧ L + costR ≤ Lmax ∧ Dq K G vR (.dic (lawD b)) ∧ LawB b ∧ Tight b ∧ simpleB b ∧ b ≠ [] ∧ (∀ n ∈ b.map (·.1), n ∈ namesL) ∧
  G la = some (.lst (fs.map V.ref)) ∧ fs.length ≤ 10 ∧ (∀ f ∈ fs, Cal P w K mg base 9 H f 3 (sp_ask K)) ∧ ∀ G' H', Same G G' → Ph (TT K) S (L + costR) H G' H' → Q (.bl true) H'

def hsS (i : Nat) : List Str := "x" :: List.replicate i "late"
theorem hsS_next (i : Nat) : (hsS i).map V.str ++ [V.str "late"] = (hsS (i + 1)).map V.str := by
  unfold hsS
  rw [List.replicate_succ']
  simp
def bookD (d : D) : D := .tup [.str "book", d]
def nestD : D := .lst [.tup [.str "x", .lst [.tup [.str "a", .lst []]]]]
def odd7 : List D := [.non, .int 5, .lst [], .dic [], .str "talk x: a", .bl true, nestD]
/-- the pairs at ps tell the things us -/
theorem dqs_books {G : Hp} : ∀ {us : List V} {ds : List D} {ps : List Addr}, Dqs K G us ds → ps.length = us.length → (∀ (m : Nat) (p : Addr) (v : V), ps[m]? = some p → us[m]? = some v → G p = some (.tup [.str "book", v])) → Dqs K G (ps.map V.ref) (ds.map bookD)
  | [], _, [], .nil, _, _ => .nil
  | u :: us, d :: ds, p :: ps, .cons a b, hl, h => .cons (.tup (.inl (h 0 p u rfl rfl)) (.cons (.str _) (.cons a .nil))) (dqs_books b (by simpa using hl) fun m p2 v2 h1 h2 => h (m + 1) p2 v2 (by simpa using h1) (by simpa using h2))
theorem dp_book {d : D} (h : Dp 6 d) : Dp 7 (bookD d) := .seq (.tup _) (by show 2 ≤ 1000; decide) fun x hx => by
  rcases List.mem_cons.mp hx with e | hx
  · rw [e]; exact .flat rfl
  · rw [List.mem_singleton.mp hx]; exact h
theorem dp_row {k : Nat} {row : List Str} (h : row.length ≤ 1000) : Dp (k + 1) (rowD row) := .seq (.lst _) (by rw [List.length_map]; exact h) fun d hd => by
  obtain ⟨x, _, rfl⟩ := List.mem_map.mp hd
  exact .flat rfl
theorem nlst (xs : List V) : ∀ ps, HO.lst xs ≠ .tbl ps := fun _ z => by cases z
theorem ntup (xs : List V) : ∀ ps, HO.tup xs ≠ .tbl ps := fun _ z => by cases z
theorem xlst (xs : List V) : ∀ φ, HO.lst xs ≠ .ext φ := fun _ z => by cases z
theorem noTbl_none {G : Hp} {b : Addr} (e : G b = none) : noTbl G b = none := by
  cases q : noTbl G b with
  | none => rfl
  | some o => have := noTbl_sub q; rw [e] at this; cases this
theorem noT_upd {G : Hp} {a : Addr} {o : HO} (n : NoT G) (h : ∀ ps, o ≠ .tbl ps) : NoT (upd G a o) := fun b ps z => by
  by_cases hb : b = a
  · rw [hb, upd_same] at z; exact h ps (Option.some.inj z)
  · rw [upd_ne hb] at z; exact n b ps z

theorem sc_w_g_refused : FnScope ["_law_stream", "_law_rules", "_law_asks", "_law_made", "_law_held", "_law_odds", "_law_twice", "_law_name", "_law_other", "_law_ask", "_law_found", "_law_odd", "_law_index"] ["_law_stream", "_law_rules", "_law_asks"] (defScope T47.s_w_g_refused) := ⟨rfl, rfl, rfl, by decide +kernel, rfl, by decide +kernel, by decide +kernel⟩
theorem has_w_g_refused (T : Tx w K mg) (h_w_d_made : Has P w K mg base CX0 "_law_d_made" (8) ["_law_stream", "_law_rules"] (sp_w_d_made K)) (h_w_d_odd_rows : Has P w K mg base CX0 "_law_d_odd_rows" (1) ["_law_rules"] (sp_w_d_odd_rows K)) (h_w_g_twice : Has P w K mg base CX0 "_law_g_twice" (4) ["_law_stream", "_law_rules"] (sp_w_g_twice K)) (h_w_same : Has P w K mg base CX0 "_law_same" (8) ["_law_found", "_law_due"] (sp_same K 7)) (tb : TabB base mg (He.cT K ("_law_g_refused", none)).1 (He.cT K ("_law_g_refused", none)).2) (h_Book_talks : C8.Met P w K mg base 3 (He.ga K "Book") "talks" (sp_Book_talks K) []) : Has P w K mg base CX0 "_law_g_refused" (12) ["_law_stream", "_law_rules", "_law_asks"] (sp_w_g_refused P w K mg base) := by
  obtain ⟨fd, F⟩ := T.def_ 57
  have gm := T.glo (x := "_law_g_refused") 69
  have nd := sc_w_g_refused.nd
  refine has_ofC F gm sc_w_g_refused (fun _ _ _ _ _ _ us hl => match us, hl with | [_, _, _], _ => rfl) (fun vs H Q E h => ?_) (fun A outer s H vs Q E hr h => ?_)
  · obtain ⟨_, _, _, _, _, _, _, e, _⟩ := h; rw [e]; rfl
  · refine ⟨_, (pss_cons (ps_asg (pe_tup (pa_cons (pe_h h_w_d_made (hr.mono (by omega)) rfl (pa_cons (pv 0) (pa_cons (pv 1) pa_nil))) (pa_cons (pe_lst (pa_cons pe_str pa_nil)) pa_nil))) (pg_tup rfl (pgs_cons (pg_name (i := 3) nd rfl (by first | exact Or.inl rfl | exact Or.inr rfl)) (pgs_cons (pg_name (i := 4) nd rfl (by first | exact Or.inl rfl | exact Or.inr rfl)) pgs_nil))))
        (pss_cons (ps_set (i := 5) nd rfl (Or.inl rfl) (pe_lst (pa_cons pe_non (pa_cons pe_int (pa_cons (pe_lst pa_nil) (pa_cons (pe_frz pe_dnewK) (pa_cons pe_str (pa_cons pe_bl (pa_cons (pe_lst (pa_cons (pe_tup (pa_cons pe_str (pa_cons (pe_lst (pa_cons (pe_tup (pa_cons pe_str (pa_cons (pe_lst pa_nil) pa_nil))) pa_nil)) pa_nil))) pa_nil)) (pa_cons (C8.pe_mt0 (k := 3) h_Book_talks hr (by omega) (pv 3)) (pa_cons (pv 4) pa_nil)))))))))))
        (pss_cons (ps_asg (pe_h h_w_g_twice (hr.mono (by omega)) rfl (pa_cons (pv 0) (pa_cons (pv 1) pa_nil))) (pg_tup rfl (pgs_cons (pg_name (i := 6) nd rfl (by first | exact Or.inl rfl | exact Or.inr rfl)) (pgs_cons (pg_name (i := 7) nd rfl (by first | exact Or.inl rfl | exact Or.inr rfl)) pgs_nil))))
        (pss_cons (ps_set (i := 8) nd rfl (Or.inr rfl) (pe_h h_w_d_made (hr.mono (by omega)) rfl (pa_cons (pv 0) (pa_cons (pv 6) pa_nil))))
        (pss_cons (ps_for PassesOwn.never rfl (pi_seq (pv 2)) (pg_name (i := 9) nd rfl (by first | exact Or.inl rfl | exact Or.inr rfl))
        (pss_cons (ps_setLc (i := 10) (own := [("_law_odd", 11)]) (g := gName 11) (tt := tYes) rfl nd rfl rfl (sw_true rfl rfl rfl (by decide +kernel)) (pi_seq (pv 5)) (blkOk_by (own := [("_law_odd", 11)]) (N := ["_law_stream", "_law_rules", "_law_asks", "_law_made", "_law_held", "_law_odds", "_law_twice", "_law_name", "_law_other", "_law_ask", "_law_found", "_law_odd", "_law_index"]) (sc := (defScope T47.s_w_g_refused)) (by decide +kernel)) (fun _ _ _ _ _ => (pg_name (i := 11) nd rfl (by first | exact Or.inl rfl | exact Or.inr rfl))) (fun _ _ _ _ _ => pts_nil) (fun _ _ _ _ _ => (pe_ma (P := P) (w := w) (K := K) (mg := mg) (base := base) (k := 9) (i := 9) (q := q1) rfl rfl rfl rfl rfl T rfl tb rfl rfl tt_mem1 (tt_un1 T) (hr.mono (by omega)) (lamS_by rfl) rfl (fun _ _ _ _ _ => rfl) rfl (by first | exact Or.inl rfl | exact Or.inr (Or.inl rfl) | exact Or.inr (Or.inr rfl)) (fun A outer s H E f c hr2 => (pa_cons (pv 11) (pa_cons pe_non (pa_cons pe_non pa_nil)))))))
        (pss_cons (ps_if (PW.pt (pw_or (pt_not (pt_val (pe_h h_w_same (hr.mono (by omega)) rfl (pa_cons (pe_slice sl_list (pv 10) po_none (po_some (pe_un un_neg pe_int))) (pa_cons (pe_lc (own := [("_law_odd", 11)]) (g := gName 11) (tt := tYes) rfl nd (pi_seq (pe_slice sl_list (pv 5) po_none (po_some (pe_un un_neg pe_int)))) (blkOk_by (own := [("_law_odd", 11)]) (N := ["_law_stream", "_law_rules", "_law_asks", "_law_made", "_law_held", "_law_odds", "_law_twice", "_law_name", "_law_other", "_law_ask", "_law_found", "_law_odd", "_law_index"]) (sc := (defScope T47.s_w_g_refused)) (by decide +kernel)) (fun _ _ _ _ _ => (pg_name (i := 11) nd rfl (by first | exact Or.inl rfl | exact Or.inr rfl))) (fun _ _ _ _ _ => pts_nil) (fun _ _ _ _ _ => (pe_tup (pa_cons pe_str (pa_cons (pv 11) pa_nil))))) pa_nil))))) (pw_or1 (pt_cmpR op_ne (pe_ix ix_seq (pe_ix ix_seq (pv 10) (pe_un un_neg pe_int) (fun _ _ => rfl)) pe_int (fun _ _ => rfl)) pe_str (nomark _))))) (pss_one (ps_ret pe_bl)) pss_nil)
        (pss_cons (ps_expr (pe_bm PySem.F.plainAttrs_list PySem.F.slot_list_append PySem.F.type_list_append mt_append (pv 4) (pa_cons pe_str pa_nil)))
        (pss_cons (ps_if (pt_not (pt_val (pe_h h_w_same (hr.mono (by omega)) rfl (pa_cons (pe_ix ix_seq (pv 10) (pe_un un_neg pe_int) (fun _ _ => rfl)) (pa_cons (pe_tup (pa_cons pe_str (pa_cons (pv 4) pa_nil))) pa_nil))))) (pss_one (ps_ret pe_bl)) pss_nil)
        (pss_cons (ps_if (pt_not (pt_val (pe_h h_w_same (hr.mono (by omega)) rfl (pa_cons (pe_ma (P := P) (w := w) (K := K) (mg := mg) (base := base) (k := 9) (i := 9) (q := q1) rfl rfl rfl rfl rfl T rfl tb rfl rfl tt_mem1 (tt_un1 T) (hr.mono (by omega)) (lamS_by rfl) rfl (fun _ _ _ _ _ => rfl) rfl (by first | exact Or.inl rfl | exact Or.inr (Or.inl rfl) | exact Or.inr (Or.inr rfl)) (fun A outer s H E f c hr2 => (pa_cons (pv 8) (pa_cons pe_non (pa_cons pe_non pa_nil))))) (pa_cons (pe_tup (pa_cons pe_str (pa_cons (pv 7) pa_nil))) pa_nil))))) (pss_one (ps_ret pe_bl)) pss_nil)
        (pss_one (ps_for PassesOwn.never rfl (pi_seq (pe_h h_w_d_odd_rows (hr.mono (by omega)) rfl (pa_cons (pv 1) pa_nil))) (pg_tup rfl (pgs_cons (pg_name (i := 11) nd rfl (by first | exact Or.inl rfl | exact Or.inr rfl)) (pgs_cons (pg_name (i := 12) nd rfl (by first | exact Or.inl rfl | exact Or.inr rfl)) pgs_nil)))
        (pss_one (ps_if (pt_not (pt_val (pe_h h_w_same (hr.mono (by omega)) rfl (pa_cons (pe_ma (P := P) (w := w) (K := K) (mg := mg) (base := base) (k := 9) (i := 9) (q := q1) rfl rfl rfl rfl rfl T rfl tb rfl rfl tt_mem1 (tt_un1 T) (hr.mono (by omega)) (lamS_by rfl) rfl (fun _ _ _ _ _ => rfl) rfl (by first | exact Or.inl rfl | exact Or.inr (Or.inl rfl) | exact Or.inr (Or.inr rfl)) (fun A outer s H E f c hr2 => (pa_cons (pv 3) (pa_cons (pv 11) (pa_cons pe_non pa_nil))))) (pa_cons (pe_tup (pa_cons pe_str (pa_cons (pv 12) pa_nil))) pa_nil))))) (pss_one (ps_ret pe_bl)) pss_nil))))))))))
        (pss_one (ps_ret pe_bl))))))), ?_⟩
    obtain ⟨S, G, L, vR, b, la, fs, rfl, ph, hL, hR, hb, ht, hsim, hne, hnm, hla, hfl, hcal, q⟩ := h
    have hcM : costM = 2000000000000 := rfl
    have hcR : costR = 4000000000200 := rfl
    have hnd := hb.nd
    -- made, held
    refine ⟨_, rfl, _, rfl, S, G, L, vR, b, rfl, ph.w, by omega, hR, hb, fun vm kb G1 H1 g1 hmix hbk0 => ?_⟩
    refine ⟨by show 1 ≤ sizeLine; decide, fun hd hhd => ?_⟩
    refine ⟨by show 2 ≤ sizeLine; decide, fun t0 ht0 => ?_⟩
    refine ⟨t0, _, rfl, .inl (.inl upd_same), rfl, _, _, rfl, _, _, rfl, rfl, ?_⟩
    have pa := ph.gs g1
    have p1 := (pa.h (same_new (o := .lst [.str "x"]) hhd)).h (same_new (o := .tup [vm, .ref hd]) ht0)
    have ndt : hd ≠ t0 := ne_of_none upd_same ht0
    have kd1 : (upd (upd H1 hd (.lst [.str "x"])) t0 (.tup [vm, .ref hd])) hd = some (.lst ((hsS 0).map V.str)) := by rw [upd_ne ndt, upd_same]; rfl
    have gd1 : noTbl G1 hd = none := same_none pa.w.g hhd
    obtain ⟨nd1, nd2⟩ := new_ne pa.w hhd
    have sG1 : Same G (noTbl G1) := noTbl_same ph.nt g1.g
    have hbk1 := book_noTbl hbk0
    -- odds
    refine m_lstZ (eaz_cons (K := K) (G := noTbl G1) (v := .ref hd) (σ := [some (.ref S.s), some vR, some (.ref la), some vm, some (.ref hd), none, none, none, none, none, none, none, none]) ev_non (eaz_cons (d := .int 5) ev_int (eaz_cons (d := .lst []) (ev_lst ea_nil (by decide)) (eaz_cons (d := .dic []) ev_frznew (eaz_cons (d := .str "talk x: a") ev_str (eaz_cons (d := .bl true) ev_bl (eaz_cons (d := nestD) (ev_lst (ea_cons (ev_tup (ea_cons ev_str (ea_cons (ev_lst (ea_cons (ev_tup (ea_cons ev_str (ea_cons (ev_lst ea_nil (by decide)) ea_nil)) (by decide)) ea_nil) (by decide)) ea_nil)) (by decide)) ea_nil) (by decide)) (eaz_cons (d := .lst ((kb.map (·.1)).map fun n => .tup [.str n, .lst ((rulesOf kb n).map lawRule)])) ?_ (eaz_nil (i := 4) rfl))))))))) (by show 8 ≤ 100000; decide) p1.w.g fun vs8 o G2 H4 g2 hvs8 ho => ?_
    · obtain ⟨xb, dxb, vrb, vnb, eb, h2b, h3b⟩ := hbk1.ex
      subst eb
      exact fun H e Q q => ⟨_, rfl, xb, dxb, _, rfl, e _ _ h2b, rfl, noTbl G1, .ref xb, [], [], _, rfl, e, .nil, ⟨kb, hbk1, hmix.sz, rfl, rfl⟩, q⟩
    have l8 : vs8.length = 8 := hvs8.length
    have pb := p1.up g2
    have go : noTbl G2 o = none := same_none pb.w.g ho
    obtain ⟨no1, no2⟩ := new_ne pb.w ho
    have p3 := (pb.new (o := .lst (vs8 ++ [.ref hd])) ho).keep upd_same go no1 no2 (nlst _)
    have sGb0 : Same (noTbl G2) (upd (noTbl G2) o (.lst (vs8 ++ [.ref hd]))) := same_new go
    have kd4 := g2.h _ _ kd1
    have ndo : hd ≠ o := ne_of_none kd4 ho
    have kd5 : (upd H4 o (.lst (vs8 ++ [.ref hd]))) hd = some (.lst ((hsS 0).map V.str)) := by rw [upd_ne ndo]; exact kd4
    have gd5 : (upd (noTbl G2) o (.lst (vs8 ++ [.ref hd]))) hd = none := by rw [upd_ne ndo]; exact noTbl_none (g2.apart kd1 gd1)
    have hvs8b := (dqs_noTbl hvs8).up sGb0
    have sG1b : Same (noTbl G1) (upd (noTbl G2) o (.lst (vs8 ++ [.ref hd]))) := (noTbl_same pa.nt g2.g).trans sGb0
    have hbk5 := hbk1.up sG1b
    have sGb := sG1.trans sG1b
    have ko5 : (upd (noTbl G2) o (.lst (vs8 ++ [.ref hd]))) o = some (.lst (vs8 ++ [.ref hd])) := upd_same
    generalize upd H4 o (.lst (vs8 ++ [.ref hd])) = H5 at p3 kd5 ⊢
    generalize upd (noTbl G2) o (.lst (vs8 ++ [.ref hd])) = Gb at p3 gd5 hvs8b hbk5 sGb ko5
    -- twice
    refine evs_call (K := K) (S := S) (n := 0) (m := 100) (f := fun ds p => ∃ b, ds = [.dic (lawD b)] ∧ LawB b ∧ Tight b ∧ b ≠ [] ∧ p = fun d => ∃ (x : Str) (xs : List Str), (∀ n ∈ x :: xs, n ∈ b.map (·.1)) ∧ d = .tup [.dic (lawD (twB b (x :: xs))), .str (minS x xs)]) (p := fun d => ∃ (x : Str) (xs : List Str), (∀ n ∈ x :: xs, n ∈ b.map (·.1)) ∧ d = .tup [.dic (lawD (twB b (x :: xs))), .str (minS x xs)]) (i := 0) (E := E0) (σ := [some (.ref S.s), some vR, some (.ref la), some vm, some (.ref hd), some (.ref o), none, none, none, none, none, none, none]) (pl := fun ds => ds = [.dic (lawD b)]) rfl ((ea_cons (ev_var (i := 1) rfl (hR.up sGb)) ea_nil).toS rfl) (fun ds hds => ⟨b, hds, hb, ht, hne, rfl⟩) (L + costM) H5 p3.w (by omega) _ fun v4 d4 G4 H6 g4 ⟨x, xs, hin, hd4⟩ hv4 => ?_
    subst hd4
    refine tg_two v4 G4 H6 g4.w.g hv4 _ fun σ2 ⟨vt, vn, hvt, hvn, e2⟩ => ?_
    subst e2
    cases hvn
    have p4 := p3.gs g4
    -- other
    refine ⟨_, rfl, _, rfl, S, noTbl G4, _, vt, twB b (x :: xs), rfl, p4.w, by omega, dq_noTbl hvt, twB_law hb hsim ht, fun vo kb2 G5 H7 g5 hmix2 hbo0 => ?_⟩
    have p5 := p4.gs g5
    have s4 : Same Gb (noTbl G4) := noTbl_same p3.nt g4.g
    have s5 : Same (noTbl G4) (noTbl G5) := noTbl_same p4.nt g5.g
    have kd6 := g4.h hd _ nd1 nd2 kd5
    have gd6 := noTbl_none (g4.apart kd5 gd5)
    have kd7 := g5.h hd _ nd1 nd2 kd6
    have gd7 := noTbl_none (g5.apart kd6 gd6)
    have sbc := s4.trans s5
    have sGc := sGb.trans sbc
    have hvs8c := hvs8b.up sbc
    have hbk7 := hbk5.up sbc
    have ko7 := sbc _ _ ko5
    have hbo := book_noTbl hbo0
    clear kd6 gd6 hbk5 ko5 hvs8b kd5 gd5 s4 s5 sbc hbo0 hbk1 sG1b sG1 hvs8 hbk0 kd1 gd1 ho hv4 hvt g2 g1 p1 p3 p4 pa pb
    generalize noTbl G5 = Gc at p5 gd7 sGc hvs8c hbk7 ko7 hbo
    generalize hL5 : L + costM + (0 + 100) + costM = L5 at p5
    have hmo : (bookD (.str "x")) = .tup [.str "book", .str "x"] := rfl
    -- for ask in asks
    have klc := sGc _ _ hla
    refine ⟨_, rfl, .inl ⟨la, rfl, ⟨_, seqL (.inl (p5.w.g _ _ klc))⟩, ?_⟩⟩
    refine for_gen (n := fs.length) (fun i u => ∃ f, fs[i]? = some f ∧ u = V.ref f) (fun i σ' H' => ∃ b9 b10 b11 b12 G', σ' = [some (.ref S.s), some vR, some (.ref la), some vm, some (.ref hd), some (.ref o), some vt, some (.str (minS x xs)), some vo, b9, b10, b11, b12] ∧ Ph (TT K) S L5 H G' H' ∧ Same Gc G' ∧ H' hd = some (.lst ((hsS i).map V.str)) ∧ G' hd = none)
      ⟨none, none, none, none, Gc, rfl, p5, Same.refl _, kd7, gd7⟩ (fun i σ' H' hlt ⟨_, _, _, _, G', _, pp, sG', _, _⟩ => ⟨fs.map V.ref, .ref fs[i], seqL (.inl (pp.w.g _ _ (sG' _ _ klc))), by simp [hlt]⟩)
      (fun σ' H' ⟨_, _, _, _, G', _, pp, sG', _, _⟩ => ⟨fs.map V.ref, seqL (.inl (pp.w.g _ _ (sG' _ _ klc))), by simp⟩) (fun i σ' H' u H'' hlt ⟨_, _, _, _, G', _, pp, sG', _, _⟩ y => ⟨y.1, ?_⟩) ?_ ?_
    · have z := y.2 _ (seqL (.inl (pp.w.g _ _ (sG' _ _ klc))))
      rw [List.getElem?_map] at z
      obtain ⟨f, h1, h2⟩ := Option.map_eq_some_iff.mp z
      exact ⟨f, h1, h2.symm⟩
    · rintro i u σ' H' hlt ⟨f, hf, rfl⟩ ⟨b9, b10, b11, b12, G', rfl, pp, sG', kh, gh⟩
      have hfm := List.mem_of_getElem? hf
      have cal := hcal f hfm
      have ko := sG' _ _ ko7
      have hvs := hvs8c.up sG'
      -- found
      refine ⟨_, rfl, .inl ⟨o, rfl, ⟨_, seqL (.inl (pp.w.g _ _ ko))⟩, fun Dl hDl => ?_⟩⟩
      obtain ⟨nD1, nD2⟩ := new_ne pp.w hDl
      have nDh : Dl ≠ hd := fun z => by rw [z, kh] at hDl; cases hDl
      have l9 : (vs8 ++ [V.ref hd]).length = 9 := by rw [List.length_append, l8]; rfl
      have heldDq : ∀ {G9 : Hp} {m : Nat}, G9 hd = some (.lst ((hsS m).map V.str)) → Dq K G9 (.ref hd) (rowD (hsS m)) := fun h => .lst (.inl h) (dqs_of_str _)
      refine lc_gen (n := 9) (fun j u => (vs8 ++ [V.ref hd])[j]? = some u) (fun j H2 => ∃ (G2 : Hp) (ps : List Addr), Ph (TT K) S L5 H G2 H2 ∧ Same G' G2 ∧ G2 Dl = none ∧ H2 Dl = some (.lst (ps.map V.ref)) ∧ ps.length = j ∧ (∀ (m : Nat) (p : Addr) (v : V), ps[m]? = some p → (vs8 ++ [V.ref hd])[m]? = some v → G2 p = some (.tup [.str "book", v])) ∧ H2 hd = some (.lst ((hsS i).map V.str)) ∧ G2 hd = none)
        ⟨G', [], pp.new hDl, Same.refl _, same_none pp.w.g hDl, upd_same, rfl, fun m p v h1 _ => by simp at h1, by rw [upd_ne nDh.symm]; exact kh, gh⟩ (fun j H2 hj ⟨G2, _, p2, s2, _⟩ => ⟨_, (vs8 ++ [V.ref hd])[j]'(by rw [l9]; exact hj), seqL (.inl (p2.w.g _ _ (s2 _ _ ko))), by simp⟩)
        (fun H2 ⟨G2, _, p2, s2, _⟩ => ⟨_, seqL (.inl (p2.w.g _ _ (s2 _ _ ko))), Nat.le_of_eq l9⟩) (fun j H2 u H3 hj ⟨G2, _, p2, s2, _⟩ y => ⟨y.1, y.2 _ (seqL (.inl (p2.w.g _ _ (s2 _ _ ko))))⟩) ?_ ?_
      · rintro j u H2 hj hu ⟨G2, ps, p2, s2, gD, hD, hl, hat, kh2, gh2⟩
        refine ⟨rfl, yesT ?_⟩
        have sp : Same (upd G2 hd (.lst ((hsS i).map V.str))) H2 := same_mut p2.w.g kh2
        have hu0 : ∃ d, Dq K (upd G2 hd (.lst ((hsS i).map V.str))) u d := by
          have := ((hvs.up s2).up (same_new (o := .lst ((hsS i).map V.str)) gh2)).snoc (heldDq (G9 := upd G2 hd (.lst ((hsS i).map V.str))) upd_same)
          obtain ⟨d, _, h2⟩ := this.at hu
          exact ⟨d, h2⟩
        refine met_read (K := K) (C := "BadBook") (fd := "thing") (tag := "book") (pv := fun v => v = u) (vb := u) (ds := [.non, .non]) (noT_upd p2.nt (nlst _)) sp p2.t rfl (cal.ext p2.f) (eav_cons (evv_var (i := 11) rfl) (ea_cons ev_non (ea_cons ev_non ea_nil))) rfl ⟨_, _, rfl, .inl ⟨hu0, rfl, rfl, rfl⟩⟩ (by simp [metL]) fun v p H3 x3 T3 hv hp => ?_
        subst hv
        have pA := p2.x x3 T3
        have gp := same_none pA.w.g hp
        obtain ⟨np1, np2⟩ := new_ne pA.w hp
        have hD3 : H3 Dl = some (.lst (ps.map V.ref)) := x3 _ _ hD (nlst _)
        have kh3 : H3 hd = some (.lst ((hsS i).map V.str)) := x3 _ _ kh2 (nlst _)
        have nDp : Dl ≠ p := ne_of_none hD3 hp
        have nhp : hd ≠ p := ne_of_none kh3 hp
        have pC := (pA.new (o := .tup [.str "book", v]) hp).keep upd_same gp np1 np2 (ntup _)
        have hD4 : (upd H3 p (.tup [.str "book", v])) Dl = some (.lst (ps.map V.ref)) := by rw [upd_ne nDp]; exact hD3
        have gD4 : (upd G2 p (.tup [.str "book", v])) Dl = none := by rw [upd_ne nDp]; exact gD
        refine ⟨_, hD4, by rw [List.length_map, hl]; exact Nat.lt_of_lt_of_le hj (by decide), upd G2 p (.tup [.str "book", v]), ps ++ [p], pC.mut (o := .lst (ps.map V.ref ++ [.ref p])) hD4 gD4 nD1 nD2 (nlst _) (xlst _), s2.trans (same_new gp), gD4, by rw [upd_same, List.map_append]; rfl, by rw [List.length_append, hl]; rfl, fun m p5 v5 h1 h2 => ?_, by rw [upd_ne nDh.symm, upd_ne nhp]; exact kh3, by rw [upd_ne nhp]; exact gh2⟩
        by_cases hm : m < ps.length
        · rw [List.getElem?_append_left hm] at h1
          have h3 := hat m p5 v5 h1 h2
          rw [upd_ne (ne_of_none h3 gp)]
          exact h3
        · have hm2 : m = ps.length := by
            have := (List.getElem?_eq_some_iff.mp h1).1
            rw [List.length_append] at this
            simp at this
            omega
          rw [hm2, List.getElem?_append_right (Nat.le_refl _), Nat.sub_self] at h1
          cases h1
          rw [hm2, hl, hu] at h2
          cases h2
          exact upd_same
      rintro H2 ⟨G2, ps, p2, s2, gD, hD, hl, hat, kh2, gh2⟩
      have p7 := p2.keep hD gD nD1 nD2 (nlst _)
      have sD : Same G2 (upd G2 Dl (.lst (ps.map V.ref))) := same_new gD
      have kD7 : (upd G2 Dl (.lst (ps.map V.ref))) Dl = some (.lst (ps.map V.ref)) := upd_same
      have gh7 : (upd G2 Dl (.lst (ps.map V.ref))) hd = none := by rw [upd_ne nDh.symm]; exact gh2
      have s27 := s2.trans sD
      have hat7 : ∀ (m : Nat) (p : Addr) (v : V), ps[m]? = some p → (vs8 ++ [V.ref hd])[m]? = some v → (upd G2 Dl (.lst (ps.map V.ref))) p = some (.tup [.str "book", v]) := fun m p v h1 h2 => sD _ _ (hat m p v h1 h2)
      generalize upd G2 Dl (.lst (ps.map V.ref)) = G7 at p7 kD7 gh7 s27 hat7
      have ds9 : ∀ {G9 : Hp} {m : Nat}, Same G7 G9 → G9 hd = some (.lst ((hsS m).map V.str)) → Dqs K G9 (vs8 ++ [V.ref hd]) (odd7 ++ [.lst ((kb.map (·.1)).map fun n => .tup [.str n, .lst ((rulesOf kb n).map lawRule)]), rowD (hsS m)]) := fun {G9 m} s9 h9 => (hvs.up (s27.trans s9)).append (.cons (heldDq h9) .nil)
      have foundDq : ∀ {G9 : Hp} {m : Nat}, Same G7 G9 → G9 hd = some (.lst ((hsS m).map V.str)) → Dq K G9 (.ref Dl) (.lst ((odd7 ++ [.lst ((kb.map (·.1)).map fun n => .tup [.str n, .lst ((rulesOf kb n).map lawRule)]), rowD (hsS m)]).map bookD)) := fun {G9 m} s9 h9 => .lst (.inl (s9 _ _ kD7)) (dqs_books (ds9 s9 h9) (by rw [hl, l9]) fun m p v h1 h2 => s9 _ _ (hat7 m p v h1 h2))
      generalize hts : (D.lst ((kb.map (·.1)).map fun n => .tup [.str n, .lst ((rulesOf kb n).map lawRule)])) = tsD at ds9 foundDq
      have sh7 : ∀ m, Same G7 (upd G7 hd (.lst ((hsS m).map V.str))) := fun m => same_new gh7
      -- the first seven
      dsimp only [gName]
      refine h_ifq (b := false) (G := upd G7 hd (.lst ((hsS i).map V.str))) ?_ (same_mut p7.w.g kh2) (fun z => by cases z) fun _ G8 H8 g8 => ?_
      · have F := foundDq (m := i) (sh7 i) upd_same
        have O : Dq K (upd G7 hd (.lst ((hsS i).map V.str))) (.ref o) (.lst (odd7 ++ [tsD, rowD (hsS i)])) := .lst (.inl (sh7 i _ _ (s27 _ _ ko))) (ds9 (m := i) (sh7 i) upd_same)
        refine (eb_or (a := false) ((eb_not (b := true) (eb_B (ev_call (K := K) (ds := [.lst (odd7.map bookD), .lst (odd7.map bookD)]) (ea_cons ((ev_slL (lo := none) (hi := some (-2)) (ev_var (i := 10) rfl F) (fun _ _ => po_no) (fun H Q q => ⟨2, rfl, -2, rfl, q⟩)).is rfl) (ea_cons ((ev_lcS1 (j := 11) (src_seq (ev_slL (lo := none) (hi := some (-2)) (ev_var (i := 5) rfl O) (fun _ _ => po_no) (fun H Q q => ⟨2, rfl, -2, rfl, q⟩)) (.lst _)) (by show 7 < 50000; decide) bookD (fun _ => rfl) fun di u G9 hm e9 hu => ev_tup (ea_cons ev_str (ea_cons (ev_var rfl hu) ea_nil)) (by show 2 ≤ 100000; decide)).is rfl) ea_nil)) ⟨_, rfl, dpB_ok (by decide +kernel), rfl⟩))).is rfl) fun _ => (eb_test (ev_ne (v := .str "book") (w := .str "book") (ev_ix (i := 0) (.inr (ev_ixNeg (k := 2) (d := bookD tsD) (ev_var (i := 10) rfl F) (by decide) (by show 2 ≤ 9; decide) rfl)) rfl) ev_str rfl rfl rfl)).is (by simp)).is rfl
      have p8 := p7.h g8.h
      have kh8 := g8.h _ _ kh2
      -- late
      refine ⟨.ref hd, rfl, .inl ⟨rfl, _, seqL (.inl kh8)⟩, ⟨hd, _, .str "late", rfl, rfl, kh8, by rw [List.length_map]; unfold hsS; rw [List.length_cons, List.length_replicate]; exact Nat.lt_of_le_of_lt (by omega : i + 1 ≤ 20) (by decide), ?_⟩⟩
      have p9 := p8.mut (o := .lst ((hsS i).map V.str ++ [.str "late"])) kh8 gh7 nd1 nd2 (nlst _) (xlst _)
      have kh9 : (upd H8 hd (.lst ((hsS i).map V.str ++ [.str "late"]))) hd = some (.lst ((hsS (i + 1)).map V.str)) := by rw [upd_same, hsS_next]
      generalize upd H8 hd (.lst ((hsS i).map V.str ++ [.str "late"])) = H9 at p9 kh9 ⊢
      have hlS : (hsS (i + 1)).length ≤ 1000 := by unfold hsS; rw [List.length_cons, List.length_replicate]; omega
      dsimp only
      refine h_ifq (b := false) (G := upd G7 hd (.lst ((hsS (i + 1)).map V.str))) ?_ (same_mut p9.w.g kh9) (fun z => by cases z) fun _ G10 H10 g10 => ?_
      · have F := foundDq (m := i + 1) (sh7 (i + 1)) upd_same
        exact eb_not (b := true) (eb_B (ev_call (K := K) (ds := [bookD (rowD (hsS (i + 1))), bookD (rowD (hsS (i + 1)))]) (ea_cons (ev_ixNeg (k := 1) (ev_var (i := 10) rfl F) (by decide) (by show 1 ≤ 9; decide) rfl) (ea_cons (ev_tup (ea_cons ev_str (ea_cons (ev_var (i := 4) rfl (heldDq upd_same)) ea_nil)) (by show 2 ≤ 100000; decide)) ea_nil)) ⟨_, rfl, dp_book (dp_row hlS), rfl⟩))
      have p10 := p9.h g10.h
      have kh10 := g10.h _ _ kh9
      -- a book that is not simple
      refine met_if (K := K) (i := 9) (G := G7) (σ := [some (.ref S.s), some vR, some (.ref la), some vm, some (.ref hd), some (.ref o), some vt, some (.str (minS x xs)), some vo, some (.ref f), some (.ref Dl), b11, b12]) (C := "NotSimple") (fd := "name") (tag := "simple") (d0 := .str (minS x xs)) (pv := fun u => u = .str (minS x xs)) (vb := vo) (ds := [.non, .non]) p10.nt p10.w.g p10.t rfl (cal.ext p10.f) (eav_cons (evv_var (i := 8) rfl) (ea_cons ev_non (ea_cons ev_non ea_nil))) rfl ⟨_, _, rfl, .inr (.inl ⟨kb2, hbo.up (sG'.trans s27), hmix2.sz, twB_bad rfl hb hsim hin hmix2⟩)⟩ (by simp [metL]) (fun v hv => by rw [hv]; exact .str _) (fun G11 e11 => ev_tup (ea_cons ev_str (ea_cons (ev_var (i := 7) rfl (.str _)) ea_nil)) (by show 2 ≤ 100000; decide)) (dpB_ok rfl) fun H11 x11 T11 => ?_
      have p11 := p10.x x11 T11
      have kh11 := x11 _ _ kh10 (nlst _)
      have s7 := sG'.trans s27
      -- rows that are none
      refine f_seqP (K := K) (G := G7) (p := oddPairs (oneOf b)) (ev_callP (ea_cons (ev_var (i := 1) rfl (hR.up (sGc.trans s7))) ea_nil) ⟨b, rfl, hne, hb.snd.sz.1, hnd, hnm, rfl⟩) (fun d ⟨es, e, _⟩ => ⟨es, by rw [e]; exact .lst _⟩) p11.w.g fun d es G12 H12 hod hk12 g12 => ?_
      have p12 := p11.up g12
      have kh12 := g12.h _ _ kh11
      have gh12 := noTbl_none (g12.apart kh11 gh7)
      have s12 : Same G7 (noTbl G12) := noTbl_same p11.nt g12.g
      refine ⟨fun m σ' H' => ∃ c11 c12, σ' = [some (.ref S.s), some vR, some (.ref la), some vm, some (.ref hd), some (.ref o), some vt, some (.str (minS x xs)), some vo, some (.ref f), some (.ref Dl), c11, c12] ∧ Ph (TT K) S L5 H (noTbl G12) H' ∧ H' hd = some (.lst ((hsS (i + 1)).map V.str)), ⟨b11, b12, rfl, p12, kh12⟩, fun m σ' H' ⟨_, _, _, pm, _⟩ => pm.w.g, ?_, ?_⟩
      · rintro m di v σ' H' hdi hv ⟨c11, c12, rfl, pm, khm⟩
        obtain ⟨es', e, _, hes⟩ := id hod
        subst e
        cases hk12
        obtain ⟨od, kx, rfl, hat2, hsh⟩ := hes di (List.mem_of_getElem? hdi)
        refine tg_two v _ H' pm.w.g hv _ fun σ2 ⟨vod, vi, hvod, hvi, e2⟩ => ?_
        subst e2
        cases hvi
        have bkm := hbk7.up (s7.trans s12)
        have one : oneOf kb = oneOf b := by
          funext d
          cases d with
          | str y =>
            show (lookK kb y).isSome = (lookK b y).isSome
            rw [Bool.eq_iff_iff, lookK_isSome, lookK_isSome]
            exact hmix.mem
          | _ => rfl
        refine met_if1 (K := K) (i := 9) (G := noTbl G12) (σ := [some (.ref S.s), some vR, some (.ref la), some vm, some (.ref hd), some (.ref o), some vt, some (.str (minS x xs)), some vo, some (.ref f), some (.ref Dl), some vod, some (.int (kx : Nat))]) (C := "BadRow") (fd := "index") (tag := "row") (d0 := .int (kx : Nat)) (pv := fun u => u = .int (kx : Nat)) (vb := vm) (ds := [od, .non]) pm.nt pm.w.g pm.t rfl (cal.ext pm.f) (eav_cons (evv_var (i := 3) rfl) (ea_cons (ev_var (i := 11) rfl hvod) (ea_cons ev_non ea_nil))) rfl ⟨_, _, rfl, .inr (.inr (.inl ⟨kb, bkm, hmix.sz, hmix.simple hnd hsim, fun ds hk => by have := (hsh ds hk).1; omega, ⟨kx, by rw [one]; exact hat2, rfl, rfl, rfl⟩⟩))⟩ (by simp [metL]) (fun v hv => by rw [hv]; exact .int _) (fun G13 e13 => ev_tup (ea_cons ev_str (ea_cons (ev_var (i := 12) rfl (.int _)) ea_nil)) (by show 2 ≤ 100000; decide)) (dpB_ok rfl) fun H13 x13 T13 => ?_
        exact ⟨_, _, rfl, pm.x x13 T13, x13 _ _ khm (nlst _)⟩
      · rintro σ' H' ⟨c11, c12, rfl, pm, khm⟩
        exact ⟨_, _, _, _, noTbl G12, rfl, pm, s7.trans s12, khm, gh12⟩
    · rintro σ' H' ⟨b9, b10, b11, b12, G', rfl, pp, sG', kh, gh⟩
      exact q G' H' (sGc.trans sG') (pp.more (by omega))

end
end T47
/-! Lambdas that are kept, by the tables; loops over what was drawn; lists told several times. -/
namespace Pk
open PySem PySem.Spec PyProof.Rows L2 LamX
section
variable {K : PySem.W.Frag} {S : Sm} {σ : L2.St} {G H : Hp} {te tl : TE} {as : TA} {ds : List D} {p : D → Prop} {n L : Nat} {g : TG} {ts : TS} {E : L2.Ends}
theorem pe_lk {X : Cx} {T : List (Addr × Str)} {c Pt : Addr} {q : Str} {params : Arguments} {body : Expr} {scope : Scope} {pos : Pos} (TB : TabB X.base X.mg c Pt) (hcode : X.env.code = .ref c) (hq : X.env.qual ++ "<lambda>" = q) (hm : (Pt, q) ∈ T) (only : ∀ p ∈ T, p.1 = Pt → p.2 = q)
    (hdef : defaultsOf params X.env = ([], [])) (hcl : cloFrom X.env.cells scope.names [] = []) (hfree : ∀ y ∈ scope.names, y.2 ≠ .free) : PE X (.Lambda params body scope pos) (tLamK T q params body scope) := by
  subst hq
  exact pe_lamK TB hcode hm only hdef hcl hfree
theorem f_seqS (h : EvS K S tl σ G n p) (hp : ∀ d, p d → ∃ ds, Lk d ds) (w : Wl S G L H) (hl : L + n ≤ Lmax)
    (k : ∀ d ds G1 H1, p d → Lk d ds → Gs S L (L + n) G H G1 H1 → ∃ Pv : Nat → L2.St → Hp → Prop, Pv 0 σ H1 ∧ (∀ i σ' H', Pv i σ' H' → Same (noTbl G1) H') ∧
      (∀ i di v σ' H', ds[i]? = some di → Dq K (noTbl G1) v di → Pv i σ' H' → g v σ' H' fun σ2 H2 => ts { E with nx := Pv (i + 1), ct := Pv (i + 1), bk := E.nx } σ2 H2) ∧ ∀ σ' H', Pv ds.length σ' H' → E.nx σ' H') : tFor (iSeq K tl) g ts E σ H :=
  h L H w hl _ fun v d G1 H1 g1 hd hv => by
    obtain ⟨ds, hk⟩ := hp d hd
    obtain ⟨Pv, h0, hS, hs, hn⟩ := k d ds G1 H1 hd hk g1
    have hv2 := dq_noTbl hv
    cases hk with
    | lst ds =>
      cases hv with
      | @lst a xs _ hr0 hq0 =>
      cases hv2 with
      | @lst _ xs2 _ hr hq =>
        refine .inl ⟨a, rfl, ⟨xs, seqL (Rd.up g1.w.g hr0)⟩, ?_⟩
        exact for_gen (n := ds.length) (fun i w => ∃ di, ds[i]? = some di ∧ Dq K (noTbl G1) w di) Pv h0 (fun i σ' H' hlt p => ⟨xs2, xs2[i]'(by rw [hq.length]; exact hlt), seqL (Rd.up (hS _ _ _ p) hr), by simp [hq.length, hlt]⟩)
          (fun σ' H' p => ⟨xs2, seqL (Rd.up (hS _ _ _ p) hr), Nat.le_of_eq hq.length⟩) (fun i σ' H' w H'' hlt p y => ⟨y.1, hq.at (y.2 xs2 (seqL (Rd.up (hS _ _ _ p) hr)))⟩) (fun i w σ' H' hlt ⟨di, e1, e2⟩ p => hs i di w σ' H' e1 e2 p) hn
    | tup ds =>
      cases hv with
      | @tup a xs _ hr0 hq0 =>
      cases hv2 with
      | @tup _ xs2 _ hr hq =>
        refine .inr (.inl ⟨a, rfl, ⟨xs, seqT (Rd.up g1.w.g hr0)⟩, ?_⟩)
        exact for_gen (n := ds.length) (fun i w => ∃ di, ds[i]? = some di ∧ Dq K (noTbl G1) w di) Pv h0 (fun i σ' H' hlt p => ⟨xs2, xs2[i]'(by rw [hq.length]; exact hlt), seqT (Rd.up (hS _ _ _ p) hr), by simp [hq.length, hlt]⟩)
          (fun σ' H' p => ⟨xs2, seqT (Rd.up (hS _ _ _ p) hr), Nat.le_of_eq hq.length⟩) (fun i σ' H' w H'' hlt p y => ⟨y.1, hq.at (y.2 xs2 (seqT (Rd.up (hS _ _ _ p) hr)))⟩) (fun i w σ' H' hlt ⟨di, e1, e2⟩ p => hs i di w σ' H' e1 e2 p) hn
theorem evs_callP {f : List D → (D → Prop) → Prop} {pl : List D → Prop} {E : XK} (h : EvAS K S as σ G n pl) (hf : ∀ ds, pl ds → f ds p) : EvS K S (tCall (spP K f) [] E as) σ G n p := fun L H w hl Q q =>
  h L H w hl _ fun vs ds G1 H1 g1 hds hvs => ⟨G1, ds, p, g1.w.g, by rw [List.append_nil]; exact hvs, hf ds hds, fun v d G' H' g hp hv => q v d G' H' (g1.trans (Gs.of g1.w g)) hp hv⟩
/-- xs * k, xs a new list -/
theorem ev_rep {k : Nat} (h : EvM K te σ G ds) (hl : ds.length * k ≤ 100000) (hk : k ≤ 1000000) : EvD K (tOp rRep te (tC (.int (k : Nat)))) σ G (.lst (List.replicate k ds).flatten) := fun H e Q q =>
  h H e _ fun a vs G1 H1 g1 h0 h1 h2 h3 => ⟨a, (k : Nat), vs, rfl, rfl, h2, by omega, by omega, by rw [h3.length, Int.toNat_natCast]; exact Nat.le_trans hl (by decide), fun p hp => by
    refine q _ _ _ (g1.trans (Gr.new g1.gh hp)) (.lst (.inl upd_same) ?_)
    have : ∀ k : Nat, Dqs K G1 (List.replicate k vs).flatten (List.replicate k ds).flatten := by
      intro k
      induction k with
      | zero => exact .nil
      | succ k ih => rw [List.replicate_succ, List.replicate_succ]; exact h3.append ih
    rw [Int.toNat_natCast]
    exact (this k).up (same_new (same_none g1.gh hp))⟩
end
section
/-- if e: ..; at the end of a block
-/
theorem h_if1 {tt : TT} {t : TS} {σ : L2.St} {G H : Hp} {b : Bool} {D0 : L2.Ends} (h : EvB tt σ G b) (e : Same G H) (hb : b = false) (k : ∀ G1 H1, Gr G H G1 H1 → D0.nx σ H1) : tIfS tt t tNext D0 σ H := h H e _ fun G1 H1 g1 => by
  subst hb
  exact iteF (k G1 H1 g1)
end
section
variable {X : Cx} {K : PySem.W.Frag}
theorem sl_listK (hK : X.K = K) : SlR X (rSlL K) := hK ▸ sl_list
end
end Pk
/-! _law_refused_right. -/
namespace T47
open PySem PySem.Spec PyProof.Rows L2 Pk LamX
section
variable {P : Program} {w : World} {K : PySem.W.Frag} {mg : Str → Option Value} {base : Heap}
def sp_w_refused_right (K : PySem.W.Frag) : Sp := fun vs H Q _ => ∃ (S : Sm) (G : Hp) (L : Nat) (vR vm : V) (b kb : Kept), vs = [.ref S.s, vR, vm] ∧ Ph (TT K) S L H G H ∧ L + (costR + 10) ≤ Lmax ∧ Dq K G vR (.dic (lawD b)) ∧ LawB b ∧ Tight b ∧ simpleB b ∧ b ≠ [] ∧ (∀ n ∈ b.map (·.1), n ∈ namesL) ∧
  MixB b kb ∧ IsBook K G vm kb ∧ ∀ G' H', Same G G' → Ph (TT K) S (L + (costR + 10)) H G' H' → Q (.bl true) H'

theorem sc_w_refused_right : FnScope ["_law_stream", "_law_rules", "_law_made", "_law_asks", "_law_odd", "_law_index", "_law_found", "_law_ask"] ["_law_stream", "_law_rules", "_law_made"] (defScope T47.s_w_refused_right) := ⟨rfl, rfl, rfl, by decide +kernel, rfl, by decide +kernel, by decide +kernel⟩
theorem has_w_refused_right (T : Tx w K mg) (h_w_draw : Has P w K mg base CX0 "_law_draw" (1) ["_law_stream", "_law_many"] (sp_w_draw K)) (h_w_g_odd_words : Has P w K mg base CX0 "_law_g_odd_words" (1) ["_law_good"] (sp_w_g_odd_words K)) (h_w_g_refused : Has P w K mg base CX0 "_law_g_refused" (12) ["_law_stream", "_law_rules", "_law_asks"] (sp_w_g_refused P w K mg base)) (h_w_same : Has P w K mg base CX0 "_law_same" (8) ["_law_found", "_law_due"] (sp_same K 7)) (tb : TabB base mg (He.cT K ("_law_refused_right", none)).1 (He.cT K ("_law_refused_right", none)).2) (h_left_by : Has P w K mg base (L2.CX P w) "left_by" 7 ["book", "row", "word"] (sp_left_by K)) (h_next_letters : Has P w K mg base (L2.CX P w) "next_letters" 8 ["book", "row", "word"] (sp_next_letters K)) (h_letter_fault : Has P w K mg base (L2.CX P w) "letter_fault" 7 ["book", "row", "word"] (sp_letter_fault K)) (h_is_finished : Has P w K mg base (L2.CX P w) "is_finished" 8 ["book", "row", "word"] (sp_is_finished K)) : Has P w K mg base CX0 "_law_refused_right" (13) ["_law_stream", "_law_rules", "_law_made"] (sp_w_refused_right K) := by
  obtain ⟨fd, F⟩ := T.def_ 66
  have gm := T.glo (x := "_law_refused_right") 78
  have z_list := T.free (x := "list") 88
  have nd := sc_w_refused_right.nd
  refine has_ofC F gm sc_w_refused_right (fun _ _ _ _ _ _ us hl => match us, hl with | [_, _, _], _ => rfl) (fun vs H Q E h => ?_) (fun A outer s H vs Q E hr h => ?_)
  · obtain ⟨_, _, _, _, _, _, _, e, _⟩ := h; rw [e]; rfl
  · refine ⟨_, (pss_cons (ps_set (i := 3) nd rfl (Or.inl rfl) (pe_lst (pa_cons (pe_glob (v := .ref (He.ga K "left_by")) rfl (T.glo (x := "left_by") 48) rfl) (pa_cons (pe_lk (T := TT K) (q := q2) tb rfl rfl tt_mem2 (tt_un2 T) rfl rfl (by decide)) pa_nil))))
        (pss_cons (ps_expr (pe_bm PySem.F.plainAttrs_list PySem.F.slot_list_extend PySem.F.type_list_extend mt_extend (pv 3) (pa_cons (pe_lst (pa_cons (pe_lk (T := TT K) (q := q2) tb (by rfl) rfl tt_mem2 (tt_un2 T) (by rfl) rfl (by decide)) (pa_cons (pe_glob (v := .ref (He.ga K "is_finished")) (by rfl) (T.glo (x := "is_finished") 51) rfl) pa_nil))) pa_nil)))
        (pss_cons (ps_if (pt_not (pt_val (pe_h h_w_g_refused (hr.mono (by omega)) rfl (pa_cons (pv 0) (pa_cons (pv 1) (pa_cons (pv 3) pa_nil)))))) (pss_one (ps_ret pe_bl)) pss_nil)
        (pss_cons (ps_for PassesOwn.never rfl (pi_seq (pe_h h_w_g_odd_words (hr.mono (by omega)) rfl (pa_cons (pe_slice sl_list (pe_lst (pa_cons pe_str (pa_cons pe_str pa_nil))) po_none (po_some (pe_h h_w_draw (hr.mono (by omega)) rfl (pa_cons (pv 0) (pa_cons pe_int pa_nil))))) pa_nil))) (pg_tup rfl (pgs_cons (pg_name (i := 4) nd rfl (by first | exact Or.inl rfl | exact Or.inr rfl)) (pgs_cons (pg_name (i := 5) nd rfl (by first | exact Or.inl rfl | exact Or.inr rfl)) pgs_nil)))
        (pss_cons (ps_setLc (i := 6) (own := [("_law_ask", 7)]) (g := gName 7) (tt := tYes) rfl nd rfl rfl (sw_true rfl rfl rfl (by decide +kernel)) (pi_seq (pv 3)) (blkOk_by (own := [("_law_ask", 7)]) (N := ["_law_stream", "_law_rules", "_law_made", "_law_asks", "_law_odd", "_law_index", "_law_found", "_law_ask"]) (sc := (defScope T47.s_w_refused_right)) (by decide +kernel)) (fun _ _ _ _ _ => (pg_name (i := 7) nd rfl (by first | exact Or.inl rfl | exact Or.inr rfl))) (fun _ _ _ _ _ => pts_nil) (fun _ _ _ _ _ => (pe_ma (P := P) (w := w) (K := K) (mg := mg) (base := base) (k := 9) (i := 7) (q := q2) rfl rfl rfl rfl rfl T rfl tb rfl rfl tt_mem2 (tt_un2 T) (hr.mono (by omega)) (lamS_by rfl) rfl (fun _ _ _ _ _ => rfl) rfl (by first | exact Or.inl rfl | exact Or.inr (Or.inl rfl) | exact Or.inr (Or.inr rfl)) (fun A outer s H E f c hr2 => (pa_cons (pv 2) (pa_cons (pe_slice (sl_listK (K := K) (by rfl)) (pe_callTy (call_listD rfl) rfl z_list (by decide +kernel) (pa_cons (pv 1) pa_nil)) po_none (po_some pe_int)) (pa_cons (pv 4) pa_nil)))))))
        (pss_one (ps_if (pt_not (pt_val (pe_h h_w_same (hr.mono (by omega)) rfl (pa_cons (pv 6) (pa_cons (pe_op op_rep (pe_lst (pa_cons (pe_tup (pa_cons pe_str (pa_cons (pv 5) pa_nil))) pa_nil)) pe_int) pa_nil))))) (pss_one (ps_ret pe_bl)) pss_nil))))
        (pss_one (ps_ret pe_bl)))))), ?_⟩
    obtain ⟨S, G, L, vR, vm, b, kb, rfl, ph, hL, hR, hb, ht, hsim, hne, hnm, hmix, hbk, q⟩ := h
    have hnd := hb.nd
    -- what is asked, kept in a list
    refine ⟨ph.t, fun H1 f1 c1 x1 T1 nf1 hf1 hc1 => ⟨by show 2 ≤ sizeLine; decide, fun la hla => ?_⟩⟩
    have p1 := ph.x x1 T1
    obtain ⟨nl1, nl2⟩ := new_ne p1.w hla
    have gla := same_none p1.w.g hla
    have r1 : Ph (TT K) S L H1 G H1 := ⟨p1.w, p1.t, ExtF.refl _, p1.nt⟩
    have p2 := p1.new (o := .lst [.ref (He.ga K "left_by"), .ref f1]) hla
    have r2 := r1.new (o := .lst [.ref (He.ga K "left_by"), .ref f1]) hla
    refine ⟨.ref la, rfl, .inl ⟨rfl, _, seqL (.inl upd_same)⟩, p2.t, fun H3 f2 c2 x3 T3 nf2 hf2 hc2 => ⟨by show 2 ≤ sizeLine; decide, fun lb hlb => ?_⟩⟩
    have p3 := p2.x x3 T3
    have kla3 := x3 la _ upd_same (nlst _)
    have r3 := r2.x x3 T3
    have t3 : Ph (TT K) S L H3 G H3 := ⟨p3.w, p3.t, ExtF.refl _, p3.nt⟩
    have hne34 : la ≠ lb := ne_of_none kla3 hlb
    have kla4 : (upd H3 lb (.lst [.ref f2, .ref (He.ga K "is_finished")])) la = some (.lst [.ref (He.ga K "left_by"), .ref f1]) := by rw [upd_ne hne34]; exact kla3
    refine ⟨la, lb, [.ref (He.ga K "left_by"), .ref f1], [.ref f2, .ref (He.ga K "is_finished")], rfl, rfl, kla4, upd_same, by show 4 ≤ sizeLine; decide, ?_⟩
    have p5 := (p3.new (o := .lst [.ref f2, .ref (He.ga K "is_finished")]) hlb).mut (o := .lst ([He.ga K "left_by", f1, f2, He.ga K "is_finished"].map V.ref)) kla4 gla nl1 nl2 (nlst _) (xlst _)
    have r5 := (r3.new (o := .lst [.ref f2, .ref (He.ga K "is_finished")]) hlb).mut (o := .lst ([He.ga K "left_by", f1, f2, He.ga K "is_finished"].map V.ref)) kla4 gla nl1 nl2 (nlst _) (xlst _)
    have t5 := (t3.new (o := .lst [.ref f2, .ref (He.ga K "is_finished")]) hlb).mut (o := .lst ([He.ga K "left_by", f1, f2, He.ga K "is_finished"].map V.ref)) kla4 gla nl1 nl2 (nlst _) (xlst _)
    have p6 := p5.keep upd_same gla nl1 nl2 (nlst _)
    have s6 : Same G (upd G la (.lst ([He.ga K "left_by", f1, f2, He.ga K "is_finished"].map V.ref))) := same_new gla
    have k6 : (upd G la (.lst ([He.ga K "left_by", f1, f2, He.ga K "is_finished"].map V.ref))) la = some (.lst ([He.ga K "left_by", f1, f2, He.ga K "is_finished"].map V.ref)) := upd_same
    have cals : ∀ f ∈ [He.ga K "left_by", f1, f2, He.ga K "is_finished"], Cal P w K mg base 9 (upd (upd H3 lb (.lst [.ref f2, .ref (He.ga K "is_finished")])) la (.lst ([He.ga K "left_by", f1, f2, He.ga K "is_finished"].map V.ref))) f 3 (sp_ask K) := by
      intro f hf
      simp only [List.mem_cons, List.not_mem_nil, or_false] at hf
      rcases hf with rfl | rfl | rfl | rfl
      · exact cal_has ((h_left_by.mono (by omega)).imp fun _ _ _ _ hs => .inr hs) (T.glo (x := "left_by") 48) rfl
      · exact cal_lam (k := 8) (ps := ["_law_book", "_law_row", "_law_word"]) (r5.f _ _ hf1) (r5.f _ _ hc1) ⟨rfl, rfl, rfl, by decide +kernel, rfl, by decide +kernel, by decide +kernel⟩ rfl (fun _ _ _ us hl => match us, hl with | [_, _, _], _ => rfl) fun cdv A outer s H' vs Q E hr hn hs => match vs, hn with
          | [a, b, c], _ => ⟨_, pe_hX (E := E) h_next_letters (hr.mono (by omega)) rfl (takes_of rfl rfl rfl rfl) (fun _ _ _ _ z => z) (pa_cons (pv 0) (pa_cons (pv 1) (pa_cons (pv 2) pa_nil))), ⟨a, rfl, b, rfl, c, rfl, .inr hs⟩⟩
      · exact cal_lam (k := 8) (ps := ["_law_here", "_law_some", "_law_thing"]) (t5.f _ _ hf2) (t5.f _ _ hc2) ⟨rfl, rfl, rfl, by decide +kernel, rfl, by decide +kernel, by decide +kernel⟩ rfl (fun _ _ _ us hl => match us, hl with | [_, _, _], _ => rfl) fun cdv A outer s H' vs Q E hr hn hs => match vs, hn with
          | [a, b, c], _ => ⟨_, pe_hX (E := E) h_letter_fault (hr.mono (by omega)) rfl (takes_of rfl rfl rfl rfl) (fun _ _ _ _ z => z) (pa_cons (pv 0) (pa_cons (pv 1) (pa_cons (pv 2) pa_nil))), ⟨a, rfl, b, rfl, c, rfl, .inr hs⟩⟩
      · exact cal_has ((h_is_finished.mono (by omega)).imp fun _ _ _ _ hs => .inr hs) (T.glo (x := "is_finished") 51) rfl
    generalize hfs : [He.ga K "left_by", f1, f2, He.ga K "is_finished"] = fs at *
    have lfs : fs.length = 4 := by rw [← hfs]; rfl
    generalize upd G la (.lst (fs.map V.ref)) = G6 at p6 s6 k6
    show _
    generalize hH6 : (upd (upd H3 lb (.lst [.ref f2, .ref (He.ga K "is_finished")])) la (.lst (fs.map V.ref))) = H6 at p6 cals
    have eH6 : (upd (upd H3 lb (.lst [.ref f2, .ref (He.ga K "is_finished")])) la (.lst ([.ref (He.ga K "left_by"), .ref f1] ++ [.ref f2, .ref (He.ga K "is_finished")]))) = H6 := by rw [← hH6, ← hfs]; rfl
    rw [eH6]
    clear r1 r2 r3 t3 t5 r5 p5 p3 p2 p1 kla4 kla3 hH6 eH6
    -- all that is refused
    refine ⟨_, rfl, _, rfl, _, rfl, S, G6, L, vR, b, la, fs, rfl, ⟨p6.w, p6.t, ExtF.refl _, p6.nt⟩, by omega, hR.up s6, hb, ht, hsim, hne, hnm, k6, by omega, cals, fun G7 H7 s7 p7 => ⟨true, rfl, iteF ?_⟩⟩
    have p7' : Ph (TT K) S (L + costR) H G7 H7 := ⟨p7.w, p7.t, p6.f.trans p7.f, p7.nt⟩
    have k7 := s7 _ _ k6
    have sG7 := s6.trans s7
    have cal7 : ∀ f ∈ fs, Cal P w K mg base 9 H7 f 3 (sp_ask K) := fun f hf => (cals f hf).ext p7.f
    clear cals p6 s6 k6 p7 s7
    -- words that are none
    refine f_seqS (K := K) (S := S) (L := L + costR) (n := 0 + (0 + 1) + 0) (G := G7) (p := oddPairs isLetterD) (evs_callP (pl := fun ds => ∃ ws : List Str, ds = [rowD ws] ∧ ws.length ≤ 2 ∧ ∀ x ∈ ws, isLetter x = true ∧ x.length ≤ 1000) (eas_cons (p := fun d => ∃ ds k, ds = (["a", "!b"] : List Str).map D.str ∧ True ∧ d = .lst (ds.take k)) (pr := fun ds => ds = []) (evs_take (n := 0) (m := 0 + 1) (pl := fun ds => ds = (["a", "!b"] : List Str).map D.str) (pk := fun _ => True) ((ev_lst (ds := (["a", "!b"] : List Str).map D.str) (ea_cons ev_str (ea_cons ev_str ea_nil)) (by decide)).toS ⟨_, rfl, rfl⟩) fun G1 e1 => (evs_draw (i := 0) (n := 0) (N := 3) rfl (ev_int.toS ⟨3, rfl, by decide, by decide⟩) (by decide)).imp fun d ⟨k, h1, _⟩ => ⟨k, h1, trivial⟩) (fun _ _ _ _ => eas_nil) fun d ds ⟨es, k, h1, _, h2⟩ h3 => ⟨(["a", "!b"] : List Str).take k, by rw [h3, h2, h1, ← List.map_take]; rfl, by rw [List.length_take]; exact Nat.min_le_right _ _, fun x hx => by
        have := List.mem_of_mem_take hx
        simp only [List.mem_cons, List.not_mem_nil, or_false] at this
        rcases this with rfl | rfl
        · exact ⟨by decide +kernel, by decide +kernel⟩
        · exact ⟨by decide +kernel, by decide +kernel⟩⟩) fun ds ⟨ws, h1, h2, h3⟩ => ⟨ws, h1, h2, h3, rfl⟩) (fun d ⟨es, e, _⟩ => ⟨es, by rw [e]; exact .lst _⟩) p7'.w (by omega) fun d es G8 H8 hod hk8 g8 => ?_
    have p8 := p7'.gs g8
    have s8 : Same G7 (noTbl G8) := noTbl_same p7'.nt g8.g
    refine ⟨fun m σ' H' => ∃ c4 c5 c6 c7, σ' = [some (.ref S.s), some vR, some vm, some (.ref la), c4, c5, c6, c7] ∧ Ph (TT K) S (L + costR + (0 + (0 + 1) + 0)) H (noTbl G8) H' ∧ ExtF H7 H', ⟨_, _, _, _, rfl, p8, fun b φ e => gs_ext p7'.w g8 e⟩, fun m σ' H' ⟨_, _, _, _, _, pm, _⟩ => pm.w.g, ?_, ?_⟩
    · rintro m di v σ' H' hdi hv ⟨c4, c5, c6, c7, rfl, pm, em⟩
      obtain ⟨es', e, _, hes⟩ := id hod
      subst e
      cases hk8
      obtain ⟨nms, hnms⟩ : ∃ nms : List Str, nms = b.map (·.1) := ⟨_, rfl⟩
      obtain ⟨od, kx, rfl, hat2, hsh⟩ := hes di (List.mem_of_getElem? hdi)
      refine tg_two v _ H' pm.w.g hv _ fun σ2 ⟨vod, vi, hvod, hvi, e2⟩ => ?_
      subst e2
      cases hvi
      have kla := s8 _ _ k7
      refine ⟨_, rfl, .inl ⟨la, rfl, ⟨_, seqL (.inl (pm.w.g _ _ kla))⟩, fun Dl hDl => ?_⟩⟩
      obtain ⟨nD1, nD2⟩ := new_ne pm.w hDl
      refine lc_gen (n := 4) (fun j u => ∃ f, fs[j]? = some f ∧ u = V.ref f) (fun j H2 => ∃ (G2 : Hp) (ps : List Addr), Ph (TT K) S (L + costR + (0 + (0 + 1) + 0)) H G2 H2 ∧ ExtF H7 H2 ∧ Same (noTbl G8) G2 ∧ G2 Dl = none ∧ H2 Dl = some (.lst (ps.map V.ref)) ∧ ps.length = j ∧ ∀ p ∈ ps, G2 p = some (.tup [.str "word", .int (kx : Nat)]))
        ⟨noTbl G8, [], pm.new hDl, em.trans (ExtF.of (ExtN.of (same_new hDl))), Same.refl _, same_none pm.w.g hDl, upd_same, rfl, fun p hp => by cases hp⟩ (fun j H2 hj ⟨G2, _, p2, _, s2, _⟩ => ⟨_, .ref (fs[j]'(by rw [lfs]; exact hj)), seqL (.inl (p2.w.g _ _ (s2 _ _ kla))), by simp [lfs, hj]⟩)
        (fun H2 ⟨G2, _, p2, _, s2, _⟩ => ⟨_, seqL (.inl (p2.w.g _ _ (s2 _ _ kla))), by rw [List.length_map, lfs]; exact Nat.le_refl _⟩) (fun j H2 u H3 hj ⟨G2, _, p2, _, s2, _⟩ y => ⟨y.1, ?_⟩) ?_ ?_
      · have z := y.2 _ (seqL (.inl (p2.w.g _ _ (s2 _ _ kla))))
        rw [List.getElem?_map] at z
        obtain ⟨f, h1, h2⟩ := Option.map_eq_some_iff.mp z
        exact ⟨f, h1, h2.symm⟩
      · rintro j u H2 hj ⟨f, hf, rfl⟩ ⟨G2, ps, p2, em2, s2, gD, hD, hl, hat⟩
        refine ⟨rfl, yesT ?_⟩
        have sGc := (sG7.trans s8).trans s2
        refine met_read (K := K) (C := "BadWord") (fd := "index") (tag := "word") (pv := fun v => v = .int (kx : Nat)) (vb := vm) (ds := [rowD (nms.take 1), od]) p2.nt p2.w.g p2.t rfl ((cal7 f (List.mem_of_getElem? hf)).ext em2) (eav_cons (evv_var (i := 2) rfl) (ea_cons ((ev_slL (lo := none) (hi := some 1) (ev_listDic (ev_var (i := 1) rfl (hR.up sGc))) (fun _ _ => po_no) (fun H Q q => ⟨1, rfl, q⟩)).is ?_) (ea_cons (ev_var (i := 4) rfl (hvod.up s2)) ea_nil))) rfl ⟨_, _, rfl, .inr (.inr (.inr ⟨kb, nms.take 1, hbk.up sGc, hmix.sz, hmix.simple hnd hsim, ⟨Lk.lst ((nms.take 1).map D.str), ?_, fun n hn => hmix.mem.mpr (hnms ▸ List.mem_of_mem_take hn)⟩, fun ds hk => by have := (hsh ds hk).1; omega, fun ds hk x hx => (hsh ds hk).2 x hx, kx, hat2, rfl, rfl, rfl⟩))⟩ (by simp [metL]) fun v p H3 x3 T3 hv hp => ?_
        · show D.lst _ = D.lst _
          rw [show (some (1 : Int)) = some ((1 : Nat) : Int) from rfl, cut_take, lawD_names, ← List.map_take, ← hnms]
        · rw [List.length_take]; omega
        subst hv
        have pA := p2.x x3 T3
        have gp := same_none pA.w.g hp
        obtain ⟨np1, np2⟩ := new_ne pA.w hp
        have hD3 : H3 Dl = some (.lst (ps.map V.ref)) := x3 _ _ hD (nlst _)
        have nDp : Dl ≠ p := ne_of_none hD3 hp
        have pC := (pA.new (o := .tup [.str "word", .int (kx : Nat)]) hp).keep upd_same gp np1 np2 (ntup _)
        have hD4 : (upd H3 p (.tup [.str "word", .int (kx : Nat)])) Dl = some (.lst (ps.map V.ref)) := by rw [upd_ne nDp]; exact hD3
        have gD4 : (upd G2 p (.tup [.str "word", .int (kx : Nat)])) Dl = none := by rw [upd_ne nDp]; exact gD
        have e4 : ExtF H7 (upd H3 p (.tup [.str "word", .int (kx : Nat)])) := (em2.trans (ExtF.of x3)).trans (ExtF.of (ExtN.of (same_new hp)))
        have pM := pC.mut (o := .lst (ps.map V.ref ++ [.ref p])) hD4 gD4 nD1 nD2 (nlst _) (xlst _)
        refine ⟨_, hD4, by rw [List.length_map, hl]; exact Nat.lt_of_lt_of_le hj (by decide), upd G2 p (.tup [.str "word", .int (kx : Nat)]), ps ++ [p], pM, fun b φ e => ?_, s2.trans (same_new gp), gD4, by rw [upd_same, List.map_append]; rfl, by rw [List.length_append, hl]; rfl, fun p5 h1 => ?_⟩
        · have := e4 b φ e
          by_cases hb : b = Dl
          · rw [hb, hD4] at this; cases this
          · rw [upd_ne hb]; exact this
        · rcases List.mem_append.mp h1 with h1 | h1
          · exact (same_new gp) _ _ (hat p5 h1)
          · rw [List.mem_singleton.mp h1]; exact upd_same
      rintro H2 ⟨G2, ps, p2, em2, s2, gD, hD, hl, hat⟩
      have p9 := p2.keep hD gD nD1 nD2 (nlst _)
      have sD : Same G2 (upd G2 Dl (.lst (ps.map V.ref))) := same_new gD
      have tells : ∀ {G9 : Hp} (qs : List Addr), (∀ p ∈ qs, G9 p = some (.tup [.str "word", .int (kx : Nat)])) → Dqs K G9 (qs.map V.ref) (List.replicate qs.length (D.tup [.str "word", .int (kx : Nat)])) := by
        intro G9 qs
        induction qs with
        | nil => intro _; exact .nil
        | cons p qs ih => intro h; rw [List.length_cons, List.replicate_succ]; exact .cons (.tup (.inl (h p (by simp))) (.cons (.str _) (.cons (.int _) .nil))) (ih fun p hp => h p (by simp [hp]))
      have F : Dq K (upd G2 Dl (.lst (ps.map V.ref))) (.ref Dl) (.lst (List.replicate 4 (D.tup [.str "word", .int (kx : Nat)]))) := by
        have := tells (G9 := upd G2 Dl (.lst (ps.map V.ref))) ps fun p hp => sD _ _ (hat p hp)
        rw [hl] at this
        exact .lst (.inl upd_same) this
      have test := eb_not (b := true) (eb_B (ev_call (K := K) (σ := [some (.ref S.s), some vR, some vm, some (.ref la), some vod, some (.int (kx : Nat)), some (.ref Dl), c7]) (f := fun ds d => ∃ x, ds = [x, x] ∧ Dp 7 x ∧ d = .bl true) (E := E0) (ds := [.lst (List.replicate 4 (D.tup [.str "word", .int (kx : Nat)])), .lst (List.replicate 4 (D.tup [.str "word", .int (kx : Nat)]))]) (ea_cons (ev_var (i := 6) rfl F) (ea_cons ((ev_rep (k := 4) (evm_lst (ea_cons (ev_tup (ea_cons ev_str (ea_cons (ev_var (i := 5) rfl (.int _)) ea_nil)) (by show 2 ≤ 100000; decide)) ea_nil) (by show 1 ≤ 100000; decide)) (by show 4 ≤ 100000; decide) (by decide)).is rfl) ea_nil)) ⟨_, rfl, dpB_ok rfl, rfl⟩))
      dsimp only [gName]
      refine h_if1 test p9.w.g rfl fun G10 H10 g10 => ?_
      have p10 := p9.h g10.h
      refine ⟨_, _, _, _, rfl, ⟨⟨(s2.trans sD).trans p10.w.g, pm.w.gs, pm.w.gc, p10.w.st⟩, p10.t, p10.f, pm.nt⟩, em2.trans (ExtF.of (ExtN.of g10.h))⟩
    · rintro σ' H' ⟨c4, c5, c6, c7, rfl, pm, em⟩
      exact q (noTbl G8) H' (sG7.trans s8) (pm.more (by omega))

end
end T47
/-! Things that are told while others may change. -/
namespace Pk
open PySem PySem.Spec PyProof.Rows L2 T47
/-- of what is new, all; of what was, only what was known -/
def less (H G G' : Hp) : Hp := fun b => match H b with
  | none => G' b
  | some _ => G b
section
variable {K : PySem.W.Frag} {σ : L2.St} {G G1 GA H H1 G' H' : Hp} {te tb ta : TE} {as : TA} {d : D} {ds : List D} {a : Addr} {o : HO}
theorem Gr.less (e : Same G H) (e2 : Same G GA) (g : Gr GA H G' H') : Gr G H (less H G G') H' ∧ Same (newOf H G') (Pk.less H G G') := by
  refine ⟨⟨fun b o h => ?_, g.h, fun b o h => ?_, fun b o h => ?_⟩, fun b o h => ?_⟩
  · unfold Pk.less; rw [e b o h]; exact h
  · unfold Pk.less at h
    cases q : H b with
    | none => rw [q] at h; exact g.gh _ _ h
    | some u => rw [q] at h; exact g.h _ _ (e b o h)
  · unfold Pk.less at h
    cases q : H b with
    | none => exact .inr rfl
    | some u => rw [q] at h; exact .inl h
  · unfold Pk.less
    rw [new_was h]
    exact new_sub _ _ h
theorem less_none (h : H a = some o) (hg : G a = none) : less H G G' a = none := by unfold less; rw [h]; exact hg
theorem Gr.mutN (g : Gr G H G1 H1) (h0 : H a = none) (h1 : G1 a = none) : Gr G H G1 (upd H1 a o) :=
  ⟨g.g, fun b u e => by
    have : b ≠ a := ne_of_none e h0
    rw [upd_ne this]; exact g.h b u e, same_upd g.gh h1, g.nw⟩
def EvNA (K : PySem.W.Frag) (ta : TA) (σ : L2.St) (G : Hp) (ds : List D) : Prop := ∀ H, Same G H → ∀ Q : List V → Hp → Prop, (∀ vs G' H', Gr G H G' H' → Dqs K (newOf H G') vs ds → Q vs H') → ta σ H Q
theorem ena_nil : EvNA K tNil σ G [] := fun H e Q q => q [] G H (Gr.refl e) .nil
theorem EvNA.up (h : EvNA K as σ G ds) (e : Same G G1) : EvNA K as σ G1 ds := fun H e1 Q q => h H (e.trans e1) Q fun vs G' H' g hv => by
  obtain ⟨g1, g2⟩ := g.up e e1
  exact q vs _ H' g1 (hv.up (new_mono (Same.refl _) g2))
theorem ena_cons (h : EvN K te σ G d) (hr : EvNA K as σ G ds) : EvNA K (tCons te as) σ G (d :: ds) := fun H e Q q =>
  h H e _ fun v G1 H1 g1 hv => (hr.up g1.g) H1 g1.gh _ fun vs G2 H2 g2 hvs => q (v :: vs) G2 H2 (g1.trans g2) (.cons (hv.up (new_mono (Same.refl _) g2.g)) (hvs.up (new_mono g1.h (Same.refl _))))
theorem evn_opt {x : Option Nat} (h : EvD K te σ G (optNat x)) : EvN K te σ G (optNat x) := by
  cases x with
  | none => exact evn_scal h (w := .non) rfl
  | some n => exact evn_scal h (w := .int (n : Nat)) rfl
/-- x = [e, ..], new things -/
theorem hn_lst {i : Nat} {u : TS} {D0 : L2.Ends} (h : EvNA K as σ G ds) (hl : ds.length ≤ 100000) (e : Same G H) (k : ∀ vs p G1 H1, Gr G H G1 H1 → Dqs K (newOf H G1) vs ds → H1 p = none → u D0 (σ.set i (some (.ref p))) (upd H1 p (.lst vs))) : tSeq (tAsg (tLst as) (gName i)) u D0 σ H :=
  h H e _ fun vs G1 H1 g1 hvs => ⟨by rw [hvs.length]; exact Nat.le_trans hl (by decide), fun p hp => k vs p G1 H1 g1 hvs hp⟩
/-- x.extend([e, ..]), new things -/
theorem h_extN {i : Nat} {fd : Addr} {vs : List V} {u : TS} {D0 : L2.Ends} (hi : σ[i]? = some (some (.ref fd))) (hf : H fd = some (.lst vs)) (h : EvNA K as σ G ds) (hl : vs.length + ds.length ≤ 100000) (e : Same G H)
    (k : ∀ zs lb G1 H1, Gr G H G1 H1 → Dqs K (newOf H G1) zs ds → H1 lb = none → u D0 σ (upd (upd H1 lb (.lst zs)) fd (.lst (vs ++ zs)))) : tSeq (tDrop (tBM K "list" rExtend (tVar i) (tCons (tLst as) tNil))) u D0 σ H :=
  ⟨.ref fd, hi, .inl ⟨rfl, _, seqL (.inl hf)⟩, h H e _ fun zs G1 H1 g1 hzs => ⟨by rw [hzs.length]; exact Nat.le_trans (Nat.le_add_left _ _) (Nat.le_trans hl (by decide)), fun lb hlb =>
    ⟨fd, lb, vs, zs, rfl, rfl, by rw [upd_ne (ne_of_none (g1.h _ _ hf) hlb)]; exact g1.h _ _ hf, upd_same, by rw [hzs.length]; exact Nat.le_trans hl (by decide), k zs lb G1 H1 g1 hzs hlb⟩⟩⟩
end
end Pk
/-! _law_held_right. -/
namespace T47
open PySem PySem.Spec PyProof.Rows L2 Pk
section
variable {P : Program} {w : World} {K : PySem.W.Frag} {mg : Str → Option Value} {base : Heap}
def noLate (b : Kept) : Prop := ∀ p ∈ b, ∀ r ∈ p.2, r.1 ≠ "late"
def sp_w_held_right (K : PySem.W.Frag) : Sp := spV K fun G vb ds d => ∃ b kb row, IsBook K G vb kb ∧ MixB b kb ∧ LawB b ∧ simpleB b ∧ noLate b ∧ row ≠ [] ∧ rowIn b row ∧ row.length ≤ 2 ∧ ds = [rowD row] ∧ d = .bl true

/-- two lists that change: texts h and k at hd and kn -/
structure Two (G H Gi Hi : Hp) (hd kn : Addr) (h k : List Str) : Prop where
  g : Gr G H Gi Hi
  h1 : Hi hd = some (.lst (h.map V.str))
  h2 : Hi kn = some (.lst (k.map V.str))
  n1 : Gi hd = none
  n2 : Gi kn = none
  z1 : H hd = none
  z2 : H kn = none
  ne : hd ≠ kn
def both (Gi : Hp) (hd kn : Addr) (h k : List Str) : Hp := upd (upd Gi hd (.lst (h.map V.str))) kn (.lst (k.map V.str))
section
variable {G H Gi Hi G' H' : Hp} {hd kn p : Addr} {h k h' k' : List Str} {o : HO}
theorem Two.sA (t : Two G H Gi Hi hd kn h k) : Same (both Gi hd kn h k) Hi := same_mut (same_mut t.g.gh t.h1) t.h2
theorem Two.uA (t : Two G H Gi Hi hd kn h k) : Same Gi (both Gi hd kn h k) := (same_new t.n1).trans (same_new (by rw [upd_ne t.ne.symm]; exact t.n2))
theorem Two.dh (t : Two G H Gi Hi hd kn h k) : Dq K (both Gi hd kn h k) (.ref hd) (rowD h) := .lst (.inl (by unfold both; rw [upd_ne t.ne, upd_same])) (dqs_of_str _)
theorem Two.dk (_ : Two G H Gi Hi hd kn h k) : Dq K (both Gi hd kn h k) (.ref kn) (rowD k) := .lst (.inl upd_same) (dqs_of_str _)
theorem Two.call (t : Two G H Gi Hi hd kn h k) (g : Gr (both Gi hd kn h k) Hi G' H') : Two G H (less Hi Gi G') H' hd kn h k ∧ Same (newOf Hi G') (less Hi Gi G') ∧ Gr Gi Hi (less Hi Gi G') H' := by
  obtain ⟨g1, g2⟩ := g.less t.g.gh t.uA
  exact ⟨⟨t.g.trans g1, g.h _ _ t.h1, g.h _ _ t.h2, less_none t.h1 t.n1, less_none t.h2 t.n2, t.z1, t.z2, t.ne⟩, g2, g1⟩
theorem Two.new (t : Two G H Gi Hi hd kn h k) (hp : Hi p = none) : Two G H Gi (upd Hi p o) hd kn h k :=
  ⟨t.g.trans (Gr.ov t.g.gh hp), by rw [upd_ne (ne_of_none t.h1 hp)]; exact t.h1, by rw [upd_ne (ne_of_none t.h2 hp)]; exact t.h2, t.n1, t.n2, t.z1, t.z2, t.ne⟩
theorem Two.oth (t : Two G H Gi Hi hd kn h k) (h0 : H p = none) (g0 : Gi p = none) (e1 : hd ≠ p) (e2 : kn ≠ p) : Two G H Gi (upd Hi p o) hd kn h k :=
  ⟨t.g.mutN h0 g0, by rw [upd_ne e1]; exact t.h1, by rw [upd_ne e2]; exact t.h2, t.n1, t.n2, t.z1, t.z2, t.ne⟩
theorem Two.seth (t : Two G H Gi Hi hd kn h k) : Two G H Gi (upd Hi hd (.lst (h'.map V.str))) hd kn h' k :=
  ⟨t.g.mutN t.z1 t.n1, upd_same, by rw [upd_ne t.ne.symm]; exact t.h2, t.n1, t.n2, t.z1, t.z2, t.ne⟩
theorem Two.setk (t : Two G H Gi Hi hd kn h k) : Two G H Gi (upd Hi kn (.lst (k'.map V.str))) hd kn h k' :=
  ⟨t.g.mutN t.z2 t.n2, by rw [upd_ne t.ne]; exact t.h1, upd_same, t.n1, t.n2, t.z1, t.z2, t.ne⟩
end
theorem nextR_late {b : Kept} {row : List Str} (h : noLate b) (hr : rowIn b row) : nextR b row "late" = none := by
  cases row with
  | nil => rfl
  | cons n rest =>
    show ((rulesOf b n).find? fun r => decide (r.1 = ("late" : Str))).map _ = none
    rw [List.find?_eq_none.mpr fun r hr2 z => h _ (rulesOf_mem (hr n (by simp))).2 r hr2 (of_decide_eq_true z)]
    rfl
theorem left_nil (b : Kept) (row : List Str) : leftIn b row [] = some row := rfl
theorem left_one {b : Kept} {row : List Str} {x : Str} (h : nextR b row x = none) : leftIn b row [x] = none := by
  unfold leftIn along
  rw [h]
  rfl
theorem fault_one {b : Kept} {row : List Str} {x : Str} (h : nextR b row x = none) : faultIn b row [x] = some 0 := by
  unfold faultIn along
  rw [h]
  rfl

theorem sc_w_held_right : FnScope ["_law_made", "_law_row", "_law_held", "_law_known", "_law_found"] ["_law_made", "_law_row"] (defScope T47.s_w_held_right) := ⟨rfl, rfl, rfl, by decide +kernel, rfl, by decide +kernel, by decide +kernel⟩
theorem has_w_held_right (T : Tx w K mg) (h_w_same : Has P w K mg base CX0 "_law_same" (8) ["_law_found", "_law_due"] (sp_same K 7)) (h_is_finished : Has P w K mg base (L2.CX P w) "is_finished" (8) ["book", "row", "word"] (sp_is_finished K)) (h_left_by : Has P w K mg base (L2.CX P w) "left_by" (7) ["book", "row", "word"] (sp_left_by K)) (h_letter_fault : Has P w K mg base (L2.CX P w) "letter_fault" (7) ["book", "row", "word"] (sp_letter_fault K)) : Has P w K mg base CX0 "_law_held_right" (9) ["_law_made", "_law_row"] (sp_w_held_right K) := by
  obtain ⟨fd, F⟩ := T.def_ 65
  have gm := T.glo (x := "_law_held_right") 77
  have z_list := T.free (x := "list") 88
  have nd := sc_w_held_right.nd
  refine has_of F gm sc_w_held_right (fun _ _ _ _ _ _ us hl => match us, hl with | [_, _], _ => rfl) (fun vs H Q E h => ?_) (fun cdv A outer s H vs Q E hr h => ?_)
  · exact spV_len h fun _ _ _ _ ⟨_, _, _, _, _, _, _, _, _, _, _, e, _⟩ => by rw [e]; rfl
  · refine ⟨_, (pss_cons (ps_par (i := 2) (j := 3) rfl nd rfl rfl (by decide) rfl rfl (pa_cons (pe_lst pa_nil) (pa_cons (pe_callTy call_list_of rfl z_list (by decide +kernel) (pa_cons (pv 1) pa_nil)) pa_nil)) rfl)
        (pss_cons (ps_set (i := 4) nd rfl (Or.inl rfl) (pe_lst (pa_cons (pe_hL h_left_by (hr.mono (by omega)) rfl (pa_cons (pv 0) (pa_cons (pv 3) (pa_cons (pv 2) pa_nil)))) (pa_cons (pe_hL h_is_finished (hr.mono (by omega)) rfl (pa_cons (pv 0) (pa_cons (pv 3) (pa_cons (pv 2) pa_nil)))) pa_nil))))
        (pss_cons (ps_expr (pe_bm PySem.F.plainAttrs_list PySem.F.slot_list_append PySem.F.type_list_append mt_append (pv 2) (pa_cons pe_str pa_nil)))
        (pss_cons (ps_expr (pe_bm PySem.F.plainAttrs_list PySem.F.slot_list_append PySem.F.type_list_append mt_append (pv 3) (pa_cons (pe_ix ix_seq (pv 3) pe_int (fun _ _ => rfl)) pa_nil)))
        (pss_cons (ps_expr (pe_bm PySem.F.plainAttrs_list PySem.F.slot_list_extend PySem.F.type_list_extend mt_extend (pv 4) (pa_cons (pe_lst (pa_cons (pe_hL h_left_by (by exact hr.mono (by omega)) (by rfl) (pa_cons (pv 0) (pa_cons (pv 3) (pa_cons (pv 2) pa_nil)))) (pa_cons (pe_hL h_letter_fault (by exact hr.mono (by omega)) (by rfl) (pa_cons (pv 0) (pa_cons (pv 3) (pa_cons (pv 2) pa_nil)))) pa_nil))) pa_nil)))
        (pss_cons (ps_expr (pe_bm0 PySem.F.plainAttrs_list PySem.F.slot_list_pop PySem.F.type_list_pop mt_pop (pv 2)))
        (pss_cons (ps_expr (pe_bm0 PySem.F.plainAttrs_list PySem.F.slot_list_pop PySem.F.type_list_pop mt_pop (pv 3)))
        (pss_one (ps_ret (pe_h h_w_same (hr.mono (by omega)) rfl (pa_cons (pe_op op_catR (pv 4) (pe_lst (pa_cons (pe_hL h_left_by (hr.mono (by omega)) rfl (pa_cons (pv 0) (pa_cons (pv 3) (pa_cons (pv 2) pa_nil)))) pa_nil))) (pa_cons (pe_lst (pa_cons (pe_callTy call_list_of rfl z_list (by decide +kernel) (pa_cons (pv 1) pa_nil)) (pa_cons pe_bl (pa_cons pe_non (pa_cons pe_int (pa_cons (pe_callTy call_list_of rfl z_list (by decide +kernel) (pa_cons (pv 1) pa_nil)) pa_nil)))))) pa_nil)))))))))))), ?_⟩
    obtain ⟨G, vm, vs', ds, d, rfl, e0, hds, ⟨b, kb, row, hbk, hmix, hb, hsim, hlate, hne, hrow, hlen, rfl, rfl⟩, q⟩ := h
    cases hds with
    | cons hr hn =>
    cases hn
    rename_i vr
    have hnd := hb.nd
    obtain ⟨r0, rest, erow⟩ : ∃ r0 rest, row = r0 :: rest := by cases row with | nil => exact absurd rfl hne | cons a l => exact ⟨a, l, rfl⟩
    -- held, known
    refine h_par (evm_lst (K := K) (σ := [some vm, some vr, none, none, none]) ea_nil (by decide) _ e0 _ fun hd vs G1 H1 g1 h0 hg h2 h3 => ?_)
    cases h3
    refine evm_list (K := K) (σ := [some vm, some vr, none, none, none]) (.lst (row.map D.str)) (ev_var (i := 1) rfl (hr.up g1.g)) H1 g1.gh _ fun kn vs2 G2 H2 g2 k0 kg k2 k3 => ?_
    have := dqs_str k3
    subst this
    have t : Two G H G2 H2 hd kn [] row := ⟨g1.trans g2, g2.h _ _ h2, k2, g2.apart h2 hg, kg, h0, same_none g1.h k0, ne_of_none h2 k0⟩
    clear g1 g2 h0 hg h2 k0 kg k2 k3
    have asked : ∀ {Gi : Hp} {h k : List Str}, IsBook K Gi vm kb → (∀ n ∈ k, n ∈ b.map (·.1)) → k.length ≤ 10 → h.length ≤ 10 → (∀ x ∈ h, isLetter x = true ∧ x.length ≤ 1000) → Asked K Gi vm [rowD k, rowD h] kb k h := fun {Gi h k} bk h1 h2 h3 h4 =>
      ⟨_, _, rfl, ⟨bk, hmix.sz, hmix.simple hnd hsim, ⟨.lst _, by omega, fun n hn => hmix.mem.mpr (h1 n hn)⟩, ⟨.lst _, by omega, h4⟩⟩, hmix.sound hnd hb.snd, by omega, by omega⟩
    have hk2 : ∀ n ∈ row ++ [r0], n ∈ b.map (·.1) := fun n hn => by
      rcases List.mem_append.mp hn with z | z
      · exact hrow n z
      · rw [List.mem_singleton.mp z]; exact hrow r0 (by rw [erow]; simp)
    have hlt : ∀ x ∈ (["late"] : List Str), isLetter x = true ∧ x.length ≤ 1000 := fun x hx => by rw [List.mem_singleton.mp hx]; exact ⟨by decide +kernel, by decide +kernel⟩
    have v1 : leftIn kb row [] = some row := rfl
    have v2 : faultIn kb row [] = some 0 := by rw [erow]; rfl
    have v3 : nextR kb (row ++ [r0]) "late" = none := by rw [hmix.next hsim (x := "late") hk2]; exact nextR_late hlate hk2
    -- as they stand
    have bk2 := (hbk.up t.g.g).up t.uA
    have ask1 := asked (h := []) bk2 hrow (by omega) (by decide) (fun x hx => by cases hx)
    refine hn_lst (ena_cons (σ := [some vm, some vr, some (.ref hd), some (.ref kn), none]) (evn_callO (f := fun G vb ds d => ∃ b row word, Asked K G vb ds b row word ∧ d = optRow (leftIn b row word)) (eav_cons (evv_var (i := 0) rfl) (ea_cons (ev_var (i := 3) rfl t.dk) (ea_cons (ev_var (i := 2) rfl t.dh) ea_nil))) fun G1 e1 => ⟨kb, row, [], ask1.up e1, rfl⟩) (ena_cons (evn_scal (w := .bl false) ((ev_callO (f := fun G vb ds d => ∃ b row word, Asked K G vb ds b row word ∧ d = .bl (faultIn b row word).isNone) (eav_cons (evv_var (i := 0) rfl) (ea_cons (ev_var (i := 3) rfl t.dk) (ea_cons (ev_var (i := 2) rfl t.dh) ea_nil))) fun G1 e1 => ⟨kb, row, [], ask1.up e1, rfl⟩).is (d' := .bl false) (by rw [v2]; rfl)) rfl) ena_nil)) (by show 2 ≤ 100000; decide) t.sA fun vs fd G' H' g hvs hfd => ?_
    obtain ⟨t3, s3, g3⟩ := t.call g
    have hvs3 := hvs.up s3
    have t4 := t3.new (o := .lst vs) hfd
    have f0 : H fd = none := same_none t3.g.h hfd
    have fG : less H2 G2 G' fd = none := same_none t3.g.gh hfd
    have ne1 := ne_of_none t3.h1 hfd
    have ne2 := ne_of_none t3.h2 hfd
    have fH : (upd H' fd (.lst vs)) fd = some (.lst vs) := upd_same
    clear t3 hvs s3 g t bk2 ask1 hfd g3
    generalize less H2 G2 G' = G3 at t4 hvs3 fG
    generalize upd H' fd (.lst vs) = H3 at t4 fH ⊢
    -- both change
    refine ⟨.ref hd, rfl, .inl ⟨rfl, _, seqL (.inl t4.h1)⟩, ⟨hd, _, .str "late", rfl, rfl, t4.h1, by decide, ?_⟩⟩
    have t5 := t4.seth (h' := ["late"])
    have f5 : (upd H3 hd (.lst ((["late"] : List Str).map V.str))) fd = some (.lst vs) := by rw [upd_ne ne1.symm]; exact fH
    refine ⟨.ref kn, rfl, .inl ⟨rfl, _, seqL (.inl t5.h2)⟩, ?_⟩
    refine (ena_cons (σ := [some vm, some vr, some (.ref hd), some (.ref kn), some (.ref fd)]) (evn_scal (w := .str r0) (ev_ix (i := 0) (d := .str r0) (.inl (ev_var (i := 3) rfl t5.dk)) (by rw [erow]; rfl)) rfl) ena_nil) _ t5.sA _ fun vs1 G' H' g hvs1 => ?_
    cases hvs1 with
    | cons a1 a2 =>
    cases a2
    cases a1
    obtain ⟨t6, s6, g6⟩ := t5.call g
    have hvs6 := hvs3.up g6.g
    have f6 := g.h _ _ f5
    have fG6 := less_none (G' := G') f5 fG
    refine ⟨kn, _, .str r0, rfl, rfl, t6.h2, by rw [List.length_map]; exact Nat.lt_of_le_of_lt hlen (by decide), ?_⟩
    have t7 := t6.setk (k' := row ++ [r0])
    have f7 : (upd H' kn (.lst ((row ++ [r0]).map V.str))) fd = some (.lst vs) := by rw [upd_ne ne2.symm]; exact f6
    have eK : row.map V.str ++ [V.str r0] = (row ++ [r0]).map V.str := by rw [List.map_append]; rfl
    rw [eK]
    clear t4 t5 t6 g s6 g6 hvs3 f5 f6 fH eK
    generalize less (upd H3 hd (.lst ((["late"] : List Str).map V.str))) G3 G' = G4 at t7 hvs6 fG6
    generalize upd H' kn (.lst ((row ++ [r0]).map V.str)) = H4 at t7 f7 ⊢
    clear fG
    -- and are asked again
    have bk4 := (hbk.up t7.g.g).up t7.uA
    have ask4 := asked (h := ["late"]) bk4 hk2 (by rw [List.length_append]; show _ + 1 ≤ _; omega) (by decide) hlt
    refine h_extN (i := 4) rfl f7 (ena_cons (σ := [some vm, some vr, some (.ref hd), some (.ref kn), some (.ref fd)]) (evn_callO (f := fun G vb ds d => ∃ b row word, Asked K G vb ds b row word ∧ d = optRow (leftIn b row word)) (eav_cons (evv_var (i := 0) rfl) (ea_cons (ev_var (i := 3) rfl t7.dk) (ea_cons (ev_var (i := 2) rfl t7.dh) ea_nil))) fun G1 e1 => ⟨kb, row ++ [r0], ["late"], ask4.up e1, rfl⟩) (ena_cons (evn_opt (ev_callO (f := fun G vb ds d => ∃ b row word, Asked K G vb ds b row word ∧ d = optNat (faultIn b row word)) (eav_cons (evv_var (i := 0) rfl) (ea_cons (ev_var (i := 3) rfl t7.dk) (ea_cons (ev_var (i := 2) rfl t7.dh) ea_nil))) fun G1 e1 => ⟨kb, row ++ [r0], ["late"], ask4.up e1, rfl⟩)) ena_nil)) (by rw [hvs6.length]; show 4 ≤ 100000; decide) t7.sA fun zs lb G' H' g hzs hlb => ?_
    obtain ⟨t8, s8, g8⟩ := t7.call g
    have f8 := g.h _ _ f7
    have fG8 := less_none (G' := G') f7 fG6
    have nel := ne_of_none f8 hlb
    have t9 := t8.new (o := .lst zs) hlb
    have f9 : (upd H' lb (.lst zs)) fd = some (.lst vs) := by rw [upd_ne nel]; exact f8
    have t10 := t9.oth (o := .lst (vs ++ zs)) f0 fG8 ne1 ne2
    have hall := (hvs6.up g8.g).append (hzs.up s8)
    have f10 : (upd (upd H' lb (.lst zs)) fd (.lst (vs ++ zs))) fd = some (.lst (vs ++ zs)) := upd_same
    rw [left_one v3, fault_one v3, v1] at hall
    clear t8 t9 f8 f9 f7 t7 hvs6 hzs s8 g8 g bk4 ask4 hlb nel fG6
    generalize less H4 G4 G' = G5 at t10 hall fG8
    generalize upd (upd H' lb (.lst zs)) fd (.lst (vs ++ zs)) = H5 at t10 f10 ⊢
    -- as they were
    refine ⟨.ref hd, rfl, .inl ⟨rfl, _, seqL (.inl t10.h1)⟩, ⟨hd, _, .str "late", rfl, rfl, t10.h1, rfl, ?_⟩⟩
    have t11 := t10.seth (h' := [])
    have f11 : (upd H5 hd (.lst (([] : List Str).map V.str))) fd = some (.lst (vs ++ zs)) := by rw [upd_ne ne1.symm]; exact f10
    refine ⟨.ref kn, rfl, .inl ⟨rfl, _, seqL (.inl t11.h2)⟩, ⟨kn, _, .str r0, rfl, rfl, t11.h2, by simp, ?_⟩⟩
    have t12 := t11.setk (k' := row)
    have f12 : (upd (upd H5 hd (.lst (([] : List Str).map V.str))) kn (.lst (row.map V.str))) fd = some (.lst (vs ++ zs)) := by rw [upd_ne ne2.symm]; exact f11
    have eK : ((row ++ [r0]).map V.str).dropLast = row.map V.str := by rw [List.map_append]; simp
    rw [eK]
    dsimp only
    rw [show (((["late"] : List Str).map V.str).dropLast) = ([] : List Str).map V.str from rfl]
    clear t11 f11 f10 t10 eK
    generalize upd (upd H5 hd (.lst (([] : List Str).map V.str))) kn (.lst (row.map V.str)) = H6 at t12 f12 ⊢
    have fB : both G5 hd kn [] row fd = none := by unfold both; rw [upd_ne ne2.symm, upd_ne ne1.symm]; exact fG8
    have sF : Same (both G5 hd kn [] row) (upd (both G5 hd kn [] row) fd (.lst (vs ++ zs))) := same_new fB
    have bk6 := ((hbk.up t12.g.g).up t12.uA).up sF
    have ask6 := asked (h := []) bk6 hrow (by omega) (by decide) (fun x hx => by cases hx)
    have hF : Dq K (upd (both G5 hd kn [] row) fd (.lst (vs ++ zs))) (.ref fd) (.lst [rowD row, .bl false, .non, .int 0]) := .lst (.inl upd_same) ((hall.up t12.uA).up sF)
    have hR := ((hr.up t12.g.g).up t12.uA).up sF
    have last := evn_callO (K := K) (s2 := spX K fun G vb ds C fd pv => BadAll K G vb ds C fd pv) (E := E0) (d := rowD row) (f := fun G vb ds d => ∃ b row word, Asked K G vb ds b row word ∧ d = optRow (leftIn b row word)) (eav_cons (σ := [some vm, some vr, some (.ref hd), some (.ref kn), some (.ref fd)]) (evv_var (i := 0) rfl) (ea_cons (ev_var (i := 3) rfl (t12.dk.up sF)) (ea_cons (ev_var (i := 2) rfl (t12.dh.up sF)) ea_nil)))
    refine ev_call (K := K) (σ := [some vm, some vr, some (.ref hd), some (.ref kn), some (.ref fd)]) (G := upd (both G5 hd kn [] row) fd (.lst (vs ++ zs))) (f := fun ds d => ∃ x, ds = [x, x] ∧ Dp 7 x ∧ d = .bl true) (E := E0) (ds := [.lst ([rowD row, .bl false, .non, .int 0] ++ [rowD row]), .lst ([rowD row, .bl false, .non, .int 0] ++ [rowD row])]) (d := .bl true) (ea_cons (ev_cat (ev_var (i := 4) rfl hF) (ev_lst (ea_cons (last (fun G1 e1 => ⟨kb, row, [], ask6.up e1, rfl⟩)).toD ea_nil) (by show 1 ≤ 100000; decide)) (by show 5 ≤ 100000; decide)) (ea_cons (ev_lst (ea_cons (ev_list (.inl (ev_var (i := 1) rfl hR))) (ea_cons ev_bl (ea_cons ev_non (ea_cons ev_int (ea_cons (ev_list (.inl (ev_var (i := 1) rfl hR))) ea_nil))))) (by show 5 ≤ 100000; decide)) ea_nil)) ⟨_, rfl, .seq (.lst _) (by show 5 ≤ 1000; decide) fun x hx => ?_, rfl⟩ H6 (same_mut t12.sA f12) _ fun v G' H' g hv => ?_
    · have hR6 : Dp 6 (rowD row) := dp_row (by omega)
      have fl : ∀ {d : D}, dpB 6 d = true → Dp 6 d := dpB_ok
      rcases List.mem_cons.mp hx with z | hx
      · rw [z]; exact hR6
      rcases List.mem_cons.mp hx with z | hx
      · rw [z]; exact fl rfl
      rcases List.mem_cons.mp hx with z | hx
      · rw [z]; exact fl rfl
      rcases List.mem_cons.mp hx with z | hx
      · rw [z]; exact fl rfl
      rw [List.mem_singleton.mp hx]; exact hR6
    · obtain ⟨g7, _⟩ := g.less (G := G5) t12.g.gh (t12.uA.trans sF)
      cases hv
      exact q _ _ H' (t12.g.trans g7) (.bl true)

end
end T47
/-! Calls by names alone; repr of data. -/
namespace Pk
open PySem PySem.Spec PyProof.Rows L2 T47
/-- a def of the text that may raise, called by the names ks too -/
structure HasK (P : Program) (w : World) (K : PySem.W.Frag) (mg : Str → Option Value) (base : Heap) (x : Str) (k : Nat) (ps ks : List Str) (g : List Value → List Value → List Value) (gV : List V → List V → List V) (sp : Sp) : Prop where
  ex : ∃ f fd, FnOk P w K mg base (L2.CX P w) k f fd ps sp ∧ mg x = some (.ref f) ∧ PySem.W.keepIn K (.ref f) = true ∧ KBinds K fd ps ks g gV
section
variable {P : Program} {w : World} {K : PySem.W.Frag} {mg : Str → Option Value} {base : Heap}
theorem has_ofXK {y x qual : Str} {params : Arguments} {body : List Stmt} {scope : Scope} {f : Addr} {fd : FuncData} {N ps ks : List Str} {k : Nat} {sp : Sp} {g : List Value → List Value → List Value} {gV : List V → List V → List V} (F : FunD K x qual params body scope [] [] f fd) (hm : mg y = some (.ref f)) (S : FnScope N ps scope)
    (hb : ∀ (kV doc pm : Value) (an : Option Addr) (cdv ct : Value) (us ws : List Value), (g us ws).length = ps.length → bindArgs (PySem.W.fnOf x qual params body scope .none kV doc pm an cdv ct) ⟨us, ks.zip ws⟩ = pure (ps.zip (g us ws)))
    (rel : ∀ {vs : List V} {us : List Value} {zs : List V} {ws : List Value}, Vals vs us → Vals zs ws → Vals (gV vs zs) (g us ws))
    (len : ∀ vs H Q E, sp vs H Q E → vs.length = ps.length)
    (hbody : ∀ (cdv : Value) (A : Around) (outer : List Env) (s : Shared) (H : Hp) (vs : List V) (Q : VK) (E : XK), Room k (A.deeper (envOfC qual scope s.heap.objs.size f cdv)) → sp vs H Q E →
      ∃ t, PSs (cxOf (L2.CX P w) P w K mg base N qual scope f cdv A outer s H E) body t ∧ t { nx := fun _ H' => Q .non H', rt := Q } (start N vs) H) : HasK P w K mg base y (k + 1) ps ks g gV sp := by
  refine ⟨f, fd, F.ok S len hbody, hm, F.kp, ?_, rel⟩
  obtain ⟨oc, od, dV, kV, doc, pm, an, cdv, ct, osl, rfl, lk, hcd, hD, hK⟩ := F.ex
  rcases hD with ⟨_, rfl⟩ | ⟨e, _⟩
  · exact fun s us ws _ hl => .of_eq (hb kV doc pm an cdv ct us ws hl)
  · exact absurd rfl e
end
/-- f(word=, book=, row=) -/
def gWBR {α : Type} : List α → List α → List α
  | [], [w, b, r] => [b, r, w]
  | _, _ => []
/-- f(word=, row=, book=) -/
def gWRB {α : Type} : List α → List α → List α
  | [], [w, r, b] => [b, r, w]
  | _, _ => []
theorem rel_WBR {vs : List V} {us : List Value} {zs : List V} {ws : List Value} (h1 : Vals vs us) (h2 : Vals zs ws) : Vals (gWBR vs zs) (gWBR us ws) := by
  cases h1 with
  | cons _ _ => exact .nil
  | nil =>
    cases h2 with
    | nil => exact .nil
    | cons a h2 =>
      cases h2 with
      | nil => exact .nil
      | cons b h2 =>
        cases h2 with
        | nil => exact .nil
        | cons c h2 =>
          cases h2 with
          | nil => exact .cons b (.cons c (.cons a .nil))
          | cons _ _ => exact .nil
theorem rel_WRB {vs : List V} {us : List Value} {zs : List V} {ws : List Value} (h1 : Vals vs us) (h2 : Vals zs ws) : Vals (gWRB vs zs) (gWRB us ws) := by
  cases h1 with
  | cons _ _ => exact .nil
  | nil =>
    cases h2 with
    | nil => exact .nil
    | cons a h2 =>
      cases h2 with
      | nil => exact .nil
      | cons b h2 =>
        cases h2 with
        | nil => exact .nil
        | cons c h2 =>
          cases h2 with
          | nil => exact .cons c (.cons b (.cons a .nil))
          | cons _ _ => exact .nil
def tCallK0 (sp : Sp) (gV : List V → List V → List V) (E : XK) (tk : TA) : TE := fun σ H Q => tk σ H fun zs H1 => sp (gV [] zs) H1 Q E
section
variable {X : Cx} {k : Nat} {ps ks : List Str} {sp : Sp} {x : Str} {p pos : Pos} {kws : List Keyword} {tk : TA} {g : List Value → List Value → List Value} {gV : List V → List V → List V}
/-- f(k = v, ..) of a def that may raise, where nothing that is raised may leave -/
theorem pe_hLK (h : HasK X.prog X.w X.K X.mg X.base x k ps ks g gV sp) (hr : Room k X.A) (hg : Gl X x) (hkw : PK X kws tk) (hall : (backToKw pos (keywordEach kws X.env)).all (·.1.isSome) = true := by rfl) (hks : (backToKw pos (keywordEach kws X.env)).filterMap (·.1) = ks := by rfl)
    (hdb : (x == ("__debug__" : Str)) = false := by decide) (hpl : ((backTo pos (starEach [] X.env)).any (·.1) || (backToKw pos (keywordEach kws X.env)).any (·.1.isNone)) = false := by rfl) : PE X (.Call (.Name x p) [] kws pos) (tCallK0 sp gV E0 tk) := by
  obtain ⟨f, fd, F, hm, hk, hb⟩ := h.ex
  refine ⟨fun pins s σ H Q I want => ?_⟩
  refine wpAny_Call_Name_kw (ld_glob I hg hm ?_ hdb)
  refine PySem.W.callWith_KW0 (h₀ := X.base) I.ok.mod.kin hk hall (thn (hkw.run pos pins s σ H _ I want) fun ws s2 ⟨zs, H2, I2, rz, q2⟩ => ⟨I2.kIn, ?_⟩) hpl
  rw [hks]
  exact run_fnk (us := []) F hr hb passL I2 .nil rz q2
end
/-! ### repr of data -/
def rReprD (K : PySem.W.Frag) : List V → Hp → VK → Prop := fun vs H Q => ∃ (a : Addr) (d : PyData), vs = [.ref a] ∧ L2.Dp K H (.ref a) d ∧ d.showable = true ∧ d.hasDict = false ∧ d.depth ≤ 50 ∧ d.shown.length ≤ sizeLine ∧ Q (.str d.shown) H
theorem call_reprD {X : Cx} (hu : X.A.units + 64 < cLine) (hg : X.A.guards = some []) : CallR X (.builtin "repr") (rReprD X.K) := by
  intro pins s σ H vs us Q I r want
  obtain ⟨a, d, rfl, hd, h1, h2, h3, h4, q⟩ := want
  rw [Vals.ref1 r]
  obtain ⟨as, rd⟩ := L2.Dp.reads I d _ _ hd (show RelV (.ref a) (Value.ref a) from rfl)
  exact repr_of_reads' rd h1 (PyData.noDict_hsm h2) hg (by omega) (fun _ _ e => e) (fun h' u tk kept => ⟨.str d.shown, H, I.kept kept, ⟨u, rfl⟩, q⟩) h4
/-- what is known of data that may be shown -/
structure Shows (d : PyData) (wt dp : Nat) : Prop where
  sh : d.showable = true
  nd : d.hasDict = false
  cl : d.canLay0 = true
  ns : d.intsShort 13 = true
  dp : d.depth ≤ dp
  wt : d.weight ≤ wt
structure ShowsAll (ds : List PyData) (wt dp : Nat) : Prop where
  sh : PyData.showableAll ds = true
  nd : PyData.hasDictAll ds = false
  cl : PyData.canLayAll0 ds = true
  ns : PyData.intsShortAll 13 ds = true
  dp : PyData.depthAll ds ≤ dp
  wt : PyData.weightAll ds ≤ wt
theorem shows_str {x : Str} {n : Nat} (h : PyData.strOk x = true) (hl : x.length ≤ n) : Shows (.str x) n 0 := ⟨rfl, rfl, h, rfl, Nat.le_refl _, hl⟩
theorem shows_nil {m k : Nat} : ShowsAll [] m k := ⟨rfl, rfl, rfl, rfl, Nat.zero_le _, Nat.zero_le _⟩
theorem shows_cons {d : PyData} {ds : List PyData} {a b k : Nat} (h : Shows d a k) (hs : ShowsAll ds b k) : ShowsAll (d :: ds) (a + 1 + b) k := by
  refine ⟨?_, ?_, ?_, ?_, ?_, ?_⟩
  · simp only [PyData.showableAll, h.sh, hs.sh, Bool.and_self]
  · simp only [PyData.hasDictAll, h.nd, hs.nd, Bool.or_self]
  · simp only [PyData.canLayAll0, h.cl, hs.cl, Bool.and_self]
  · simp only [PyData.intsShortAll, h.ns, hs.ns, Bool.and_self]
  · simp only [PyData.depthAll]; have := h.dp; have := hs.dp; omega
  · simp only [PyData.weightAll]; have := h.wt; have := hs.wt; omega
theorem shows_lst {ds : List PyData} {m k : Nat} (h : ShowsAll ds m k) : Shows (.list ds) m (k + 1) :=
  ⟨by simp only [PyData.showable, h.sh], by simp only [PyData.hasDict, h.nd], by simp only [PyData.canLay0, h.cl], by simp only [PyData.intsShort, h.ns], by simp only [PyData.depth]; have := h.dp; omega, by simp only [PyData.weight]; exact h.wt⟩
theorem shows_tup {ds : List PyData} {m k : Nat} (h : ShowsAll ds m k) : Shows (.tuple ds) m (k + 1) :=
  ⟨by simp only [PyData.showable, h.sh], by simp only [PyData.hasDict, h.nd], by simp only [PyData.canLay0, h.cl], by simp only [PyData.intsShort, h.ns], by simp only [PyData.depth]; have := h.dp; omega, by simp only [PyData.weight]; exact h.wt⟩
theorem shows_strs {n : Nat} : ∀ {xs : List Str}, (∀ x ∈ xs, PyData.strOk x = true ∧ x.length ≤ n) → ShowsAll (pys (xs.map D.str)) ((n + 1) * xs.length) 0
  | [], _ => shows_nil
  | x :: xs, h => by
    have rest : ShowsAll (pys (xs.map D.str)) ((n + 1) * xs.length) 0 := shows_strs fun y hy => h y (List.mem_cons_of_mem _ hy)
    have := shows_cons (shows_str (h x (by simp)).1 (h x (by simp)).2) rest
    rw [List.length_cons, Nat.mul_succ, Nat.add_comm]
    exact this
theorem shows_row {d : D} {xs : List Str} {n : Nat} (hd : IsRow d xs) (h : ∀ x ∈ xs, PyData.strOk x = true ∧ x.length ≤ n) : Shows d.py ((n + 1) * xs.length) 1 := by
  cases hd with
  | lst => exact shows_lst (shows_strs h)
  | tup => exact shows_tup (shows_strs h)
theorem flat_row {d : D} {xs : List Str} (hd : IsRow d xs) : d.flat = true := by
  have : ∀ xs : List Str, flats (xs.map D.str) = true := fun xs => by
    induction xs with
    | nil => rfl
    | cons x xs ih => show (true && flats (xs.map D.str)) = true; rw [ih]; rfl
  cases hd with
  | lst => exact this xs
  | tup => exact this xs
theorem Shows.short {d : PyData} {m k : Nat} (h : Shows d m k) (hm : m ≤ 1000000) (hk : k ≤ 60) : d.shown.length ≤ sizeLine := by
  have hl : d.layable0 = true := by
    show (d.canLay0 && decide (d.depth ≤ 64) && decide (d.weight ≤ 2 ^ 20)) = true
    rw [h.cl, decide_eq_true (Nat.le_trans h.dp (by omega)), decide_eq_true (Nat.le_trans h.wt (Nat.le_trans hm (by decide)))]
    rfl
  exact Nat.le_trans (shown_le13 hl h.ns) (by decide)
section
variable {K : PySem.W.Frag} {σ : L2.St} {G : Hp} {te : TE} {ds : List D}
theorem ev_repr {m k : Nat} (h : EvD K te σ G (.lst ds)) (hf : flats ds = true) (hs : Shows (D.lst ds).py m k) (hm : m ≤ 1000000) (hk : k ≤ 50) : EvD K (tCB (rReprD K) (tCons te tNil)) σ G (.str (D.lst ds).py.shown) := fun H e Q q => h H e _ fun v G1 H1 g1 hv => by
  have hd := (hv.up g1.gh).dp (d := .lst ds) hf
  cases hv with
  | @lst a xs _ hr hq => exact ⟨a, _, rfl, hd, hs.sh, hs.nd, Nat.le_trans hs.dp hk, hs.short hm (by omega), q _ G1 H1 g1 (.str _)⟩
end
/-! ### defs that must know that nothing is shown just now -/
structure FnG (P : Program) (w : World) (K : PySem.W.Frag) (mg : Str → Option Value) (base : Heap) (k : Nat) (f : Addr) (fd : FuncData) (ps : List Str) (sp : Sp) : Prop where
  len : ∀ vs H Q E, sp vs H Q E → vs.length = ps.length
  run : ∀ (A : Around) (outer : List Env) (s : Shared) (H : Hp) (args : Args) (us : List Value) (vs : List V) (Q : VK) (E : XK), A.guards = some [] → Room k A → Env0 P w K mg base A outer s H → BindsTo s fd args (ps.zip us) → Vals vs us → sp vs H Q E →
    codeAny (model P w) A (.call (.ref f) args) (CR CX0 outer P w H s Q E) s
structure HasG (P : Program) (w : World) (K : PySem.W.Frag) (mg : Str → Option Value) (base : Heap) (x : Str) (k : Nat) (ps : List Str) (sp : Sp) : Prop where
  ex : ∃ f fd, FnG P w K mg base k f fd ps sp ∧ mg x = some (.ref f) ∧ PySem.W.keepIn K (.ref f) = true ∧ Binds K fd ps [] ∧ ∃ oc od osl, K.lookup f = some ⟨oc, od, .func fd, osl⟩
section
variable {P : Program} {w : World} {K : PySem.W.Frag} {mg : Str → Option Value} {base : Heap}
theorem fnG_of {x qual : Str} {params : Arguments} {body : List Stmt} {scope : Scope} {f : Addr} {fd : FuncData} {N ps : List Str} {k : Nat} {sp : Sp} (F : FunD K x qual params body scope [] [] f fd) (S : FnScope N ps scope)
    (len : ∀ vs H Q E, sp vs H Q E → vs.length = ps.length)
    (hbody : ∀ (cdv : Value) (A : Around) (outer : List Env) (s : Shared) (H : Hp) (vs : List V) (Q : VK) (E : XK), A.guards = some [] → Room k (A.deeper (envOfC qual scope s.heap.objs.size f cdv)) → sp vs H Q E →
      ∃ t, PSs (cxOf CX0 P w K mg base N qual scope f cdv A outer s H E).nox body t ∧ t { nx := fun _ H' => Q .non H', rt := Q } (start N vs) H) : FnG P w K mg base (k + 1) f fd ps sp := by
  obtain ⟨oc, od, dV, kV, doc, pm, an, cdv, ct, osl, rfl, atF, codeF, _, _⟩ := F.ex
  refine ⟨len, fun A outer s H args us vs Q E quiet room e0 bound r want => ?_⟩
  have n0 := len _ _ _ _ want
  have old : ∀ b o, base.get? b = some o → s.heap.get? b = some o := fun b o e => (e0.bs b o e).1
  have kin : K.In s.heap := e0.mod.kin.keeps old
  have cellsOf : ∀ y ∈ ps.zip us, scope.names.lookup y.1 = some .local ∨ (scope.names.lookup y.1 = some .cell ∧ ((cellsFrom (s.heap.objs.size + 1) scope.names []).lookup y.1).isSome = true) := by
    rintro ⟨y, v⟩ hy
    have z := S.par y (List.of_mem_zip hy).1
    exact z.imp id fun c => ⟨c, PySem.W.cellsFrom_some _ _ _ (.inl c)⟩
  refine codeAny_call_function room.depth (kin _ _ atF) rfl S.co S.gen rfl (PySem.W.codeRec_of kin codeF) (bound _ _ _ _ (wpAny_newFunctionEnv_cells S.kind cellsOf ?_))
  rintro env rfl s1 x1
  refine ⟨(e0.mod.nolimit.keeps old).keeps x1.toInCall.keep, codeAny_func ?_⟩
  obtain ⟨t, ht0, hq⟩ := hbody cdv A outer s H vs Q E quiet (room.deeper _) want
  have ht := ht0.nox
  have I0 := inv_start (CX := CX0) (E := E) S room.hd e0 n0 r x1
  refine wpAny_mono (ht.run [] s1 (start N vs) H _ I0 hq) (fun fl s' out => ?_) fun e s' out => out
  cases fl with
  | ret u => obtain ⟨v, σ', H', J, rv, q⟩ := out; exact ⟨v, H', J.os, J.bare, J.base, J.hok, rv, q⟩
  | next => obtain ⟨σ', H', J, q⟩ := out; exact ⟨.non, H', J.os, J.bare, J.base, J.hok, rfl, q⟩
  | brk => exact False.elim (by obtain ⟨_, _, _, q⟩ := out; exact q)
  | cont => exact False.elim (by obtain ⟨_, _, _, q⟩ := out; exact q)
theorem has_ofG {y x qual : Str} {params : Arguments} {body : List Stmt} {scope : Scope} {f : Addr} {fd : FuncData} {N ps : List Str} {k : Nat} {sp : Sp} (F : FunD K x qual params body scope [] [] f fd) (hm : mg y = some (.ref f)) (S : FnScope N ps scope)
    (hb : ∀ (kV doc pm : Value) (an : Option Addr) (cdv ct : Value) (us : List Value), us.length = ps.length → bindArgs (PySem.W.fnOf x qual params body scope .none kV doc pm an cdv ct) ⟨us, []⟩ = pure (ps.zip us))
    (len : ∀ vs H Q E, sp vs H Q E → vs.length = ps.length)
    (hbody : ∀ (cdv : Value) (A : Around) (outer : List Env) (s : Shared) (H : Hp) (vs : List V) (Q : VK) (E : XK), A.guards = some [] → Room k (A.deeper (envOfC qual scope s.heap.objs.size f cdv)) → sp vs H Q E →
      ∃ t, PSs (cxOf CX0 P w K mg base N qual scope f cdv A outer s H E).nox body t ∧ t { nx := fun _ H' => Q .non H', rt := Q } (start N vs) H) : HasG P w K mg base y (k + 1) ps sp :=
  ⟨f, fd, fnG_of F S len hbody, hm, F.kp, F.bindsN hb, by
    obtain ⟨oc, od, dV, kV, doc, pm, an, cdv, ct, osl, rfl, lk, _⟩ := F.ex
    exact ⟨oc, od, osl, lk⟩⟩
end
section
variable {X : Cx} {k : Nat} {ps : List Str} {sp : Sp} {x : Str} {p pos : Pos} {e : Expr} {es : List Expr} {t : TA}
theorem pe_hG (h : HasG X.prog X.w X.K X.mg X.base x k ps sp) (quiet : X.A.guards = some []) (hr : Room k X.A) (hg : Gl X x) (ha : PA X (e :: es) t) (hdb : (x == ("__debug__" : Str)) = false := by decide)
    (he : starEach (e :: es) X.env = (false, eval e X.env) :: starEach es X.env := by rfl) (hpl : (backTo pos (starEach es X.env)).any (·.1) = false := by rfl) : PE X (.Call (.Name x p) (e :: es) [] pos) (tCall sp [] E0 t) := by
  obtain ⟨f, fd, F, hm, hk, hb, _⟩ := h.ex
  refine ⟨fun pins s σ H Q I want => wpAny_Call_Name_kw (ld_glob I hg hm (PySem.W.callWith_K (h₀ := X.base) I.ok.mod.kin hk (thn (ha.run pos pins s σ H _ I want) fun us s1 ⟨vs, H1, I1, r, q⟩ => ⟨I1.kIn, ?_⟩) he hpl) hdb)⟩
  have q : sp vs H1 Q E0 := by rw [← List.append_nil vs]; exact q
  have lu : (us ++ []).length = ps.length := by rw [List.append_nil, ← r.length]; exact F.len _ _ _ _ q
  have b1 := hb s1 us I1.kIn lu
  rw [List.append_nil] at b1
  refine wpAny_call (codeAny_mono (F.run X.A X.stack s1 H1 ⟨us, []⟩ us vs Q E0 quiet hr I1.env0 b1 r q) fun res s' out => ?_)
  cases res with
  | error e => exact pass0 pins σ H1 s1 e s' I1 out
  | ok fl =>
    cases fl with
    | ret u => exact I1.after out
    | next => exact out.elim
    | brk => exact out.elim
    | cont => exact out.elim
end
end Pk
/-! left_by and is_finished, called by names. -/
namespace T47
open PySem PySem.Spec PyProof.Rows L2 Pk
section
variable {P : Program} {w : World} {K : PySem.W.Frag} {mg : Str → Option Value} {base : Heap}
theorem hask_left_by (T : Tx w K mg) (h_checked_along : Has P w K mg base (L2.CX P w) "checked_along" 6 ["book", "row", "word"] (sp_checked_along K)) (h_left_in : Has P w K mg base CX0 "left_in" 3 ["book", "row", "word"] (sp_left_in K)) : HasK P w K mg base "left_by" 7 ["book", "row", "word"] ["word", "book", "row"] gWBR gWBR (sp_left_by K) := by
  obtain ⟨fd, F⟩ := T.def_ 36
  have gm := T.glo (x := "left_by") 48
  have nd := sc_left_by.nd
  refine has_ofXK F gm sc_left_by (fun _ _ _ _ _ _ us ws hl => match us, ws, hl with
    | [], [_, _, _], _ => rfl
    | _ :: _, _, hl => by cases hl
    | [], [], hl => by cases hl
    | [], [_], hl => by cases hl
    | [], [_, _], hl => by cases hl
    | [], _ :: _ :: _ :: _ :: _, hl => by cases hl) rel_WBR (fun vs H Q E h => ?_) (fun cdv A outer s H vs Q E hr h => ?_)
  · rcases h with h | h
    · exact spN_len h fun _ _ _ _ ⟨_, _, _, ⟨_, _, e, _⟩, _⟩ => by rw [e]; rfl
    · exact spX_len h fun _ _ _ _ _ _ ⟨_, _, e, _⟩ => by rw [e]; rfl
  · refine ⟨_, (pss_cons (ps_asg (pe_hX (E := E) h_checked_along (hr.mono (by decide)) rfl (takes_of rfl rfl rfl rfl) (fun _ _ _ _ z => z) (pa_cons (pv 0) (pa_cons (pv 1) (pa_cons (pv 2) pa_nil)))) (pg_tup rfl (pgs_cons (pg_name (i := 3) nd rfl (Or.inl rfl)) (pgs_cons (pg_name (i := 4) nd rfl (Or.inl rfl)) pgs_nil))))
        (pss_one (ps_ret (pe_h h_left_in (hr.mono (by decide)) rfl (pa_cons (pv 0) (pa_cons (pv 3) (pa_cons (pv 4) pa_nil))))))), ?_⟩
    rcases h with ⟨G, vb, vs', ds, d, rfl, e, hds, ⟨b, row, word, ⟨x, y, rfl, hg, hS, hl1, hl2⟩, rfl⟩, q⟩ | ⟨G, vb, vs', ds, C, fd', pv, rfl, e, hds, hbad, xr⟩
    · cases hds with
      | cons hx hds =>
      cases hds with
      | cons hy hn =>
      cases hn
      rename_i vx vy
      have hrow : rowIn b row := hg.rw.2.2
      refine ev_along hg rfl rfl rfl hx hy H e _ fun v1 G1 H1 g1 hv1 => ?_
      refine tg_two v1 G1 H1 g1.gh hv1 _ ?_
      rintro σ2 ⟨vr, vw, h1, h2, rfl⟩
      exact hn_ret (evn_call (eav_cons (evv_var rfl) (ea_cons (ev_var rfl h1) (ea_cons (ev_var rfl h2) ea_nil))) fun G2 e2 => ⟨b, row, word, ⟨(hg.bk.up g1.g).up e2, hS, hrow, hl1, hl2, rfl⟩, rfl⟩) g1.gh fun v G2 H2 g2 hv => q v G2 H2 (g1.trans g2) (new_up g1.h hv)
    · obtain ⟨x, y, rfl, hb0⟩ := id hbad
      cases hds with
      | cons hx hds =>
      cases hds with
      | cons hy hn =>
      cases hn
      exact x_along hbad rfl rfl rfl (.cons hx (.cons hy .nil)) e xr
theorem hask_is_finished (T : Tx w K mg) (h_letter_fault : Has P w K mg base (L2.CX P w) "letter_fault" 7 ["book", "row", "word"] (sp_letter_fault K)) : HasK P w K mg base "is_finished" 8 ["book", "row", "word"] ["word", "row", "book"] gWRB gWRB (sp_is_finished K) := by
  obtain ⟨fd, F⟩ := T.def_ 39
  have gm := T.glo (x := "is_finished") 51
  have nd := sc_is_finished.nd
  refine has_ofXK F gm sc_is_finished (fun _ _ _ _ _ _ us ws hl => match us, ws, hl with
    | [], [_, _, _], _ => rfl
    | _ :: _, _, hl => by cases hl
    | [], [], hl => by cases hl
    | [], [_], hl => by cases hl
    | [], [_, _], hl => by cases hl
    | [], _ :: _ :: _ :: _ :: _, hl => by cases hl) rel_WRB (fun vs H Q E h => ?_) (fun cdv A outer s H vs Q E hr h => ?_)
  · rcases h with h | h
    · exact spV_len h fun _ _ _ _ ⟨_, _, _, ⟨_, _, e, _⟩, _⟩ => by rw [e]; rfl
    · exact spX_len h fun _ _ _ _ _ _ ⟨_, _, e, _⟩ => by rw [e]; rfl
  · refine ⟨_, (pss_one (ps_ret (pe_cmpR op_isN (pe_hX (E := E) h_letter_fault (hr.mono (by decide)) rfl (takes_of rfl rfl rfl rfl) (fun _ _ _ _ z => z) (pa_cons (pv 0) (pa_cons (pv 1) (pa_cons (pv 2) pa_nil)))) pe_non (nomark _)))), ?_⟩
    rcases h with ⟨G, vb, vs', ds, d, rfl, e, hds, ⟨b, row, word, ⟨x, y, rfl, hg, hS, hl1, hl2⟩, rfl⟩, q⟩ | ⟨G, vb, vs', ds, C, fd', pv, rfl, e, hds, hbad, xr⟩
    · cases hds with
      | cons hx hds =>
      cases hds with
      | cons hy hn =>
      cases hn
      rename_i vx vy
      have hrow : rowIn b row := hg.rw.2.2
      obtain ⟨fo, hfo'⟩ : ∃ fo, fo = faultIn b row word := ⟨_, rfl⟩
      have hfo : optNat fo = optNat (faultIn b row word) := by rw [hfo']
      rw [← hfo'] at q
      refine h_ret (ev_isN (d := optNat fo) (ev_callO (eav_cons (evv_var rfl) (ea_cons (ev_var rfl hx) (ea_cons (ev_var rfl hy) ea_nil))) fun G1 e1 => ⟨b, row, word, ⟨x, y, rfl, hg.up e1, hS, hl1, hl2⟩, hfo⟩) ?_) e fun v G1 H1 g1 hv => q v G1 H1 g1 hv
      cases fo <;> rfl
    · obtain ⟨x, y, rfl, hb0⟩ := id hbad
      cases hds with
      | cons hx hds =>
      cases hds with
      | cons hy hn =>
      cases hn
      exact x_callO (eav_cons (evv_var rfl) (ea_cons (ev_var rfl hx) (ea_cons (ev_var rfl hy) ea_nil))) (fun G1 e1 => hbad.up e1) e xr
end
end T47
/-! _law_word_right. -/
namespace T47
open PySem PySem.Spec PyProof.Rows L2 Pk
section
variable {P : Program} {w : World} {K : PySem.W.Frag} {mg : Str → Option Value} {base : Heap}
def costW : Nat := 2 * cost 1
def sp_w_word_right (K : PySem.W.Frag) : Sp := fun vs H Q _ => ∃ (S : Sm) (G : Hp) (L : Nat) (vR vm vr vw : V) (b kb : Kept) (row word : List Str), vs = [.ref S.s, vR, vm, vr, vw] ∧ Wl S G L H ∧ L + costW ≤ Lmax ∧ Dq K G vR (.dic (lawD b)) ∧ Dq K G vr (rowD row) ∧ Dq K G vw (rowD word) ∧ IsBook K G vm kb ∧ MixB b kb ∧ LawB b ∧ simpleB b ∧
  Tight b ∧ (∀ n ∈ b.map (·.1), PyData.strOk n = true ∧ n.length ≤ 20) ∧ rowIn b row ∧ row.length ≤ 5 ∧ word.length ≤ 440 ∧ (∀ x ∈ word, isLetter x = true ∧ PyData.strOk x = true ∧ x.length ≤ 20) ∧ ∀ G' H', Gs S L (L + costW) G H G' H' → Q (.bl true) H'

theorem Gr.stay {G H H1 : Hp} (e : Same G H) (h : Same H H1) : Gr G H G H1 := ⟨Same.refl _, h, e.trans h, fun _ _ z => .inl z⟩
theorem next_len {b : Kept} (ht : Tight b) {row r : List Str} {x : Str} (hr : rowIn b row) (e : nextR b row x = some r) : r.length ≤ row.length + 2 := by
  cases row with
  | nil => cases e
  | cons n rest =>
    obtain ⟨p, hp, rfl⟩ := Option.map_eq_some_iff.mp (show ((rulesOf b n).find? fun r => decide (r.1 = x)).map (fun r => r.2 ++ rest) = some r from e)
    have := ht.rows _ (rulesOf_mem (hr n (by simp))).2 p (List.mem_of_find?_eq_some hp)
    rw [List.length_append, List.length_cons]
    omega
theorem along_rows {b : Kept} (hS : Sound b) (ht : Tight b) : ∀ (word row : List Str), rowIn b row → ∀ r ∈ along b row word, rowIn b r ∧ r.length ≤ row.length + 2 * word.length
  | [], row, hr, r, h => by
    rw [List.mem_singleton.mp (show r ∈ [row] from h)]
    exact ⟨hr, by omega⟩
  | x :: word, row, hr, r, h => by
    unfold along at h
    cases e : nextR b row x with
    | none =>
      rw [e] at h
      rw [List.mem_singleton.mp h]
      exact ⟨hr, by omega⟩
    | some r2 =>
      rw [e] at h
      rcases List.mem_cons.mp h with z | h
      · rw [z]; exact ⟨hr, by omega⟩
      · obtain ⟨h1, h2⟩ := along_rows hS ht word r2 (next_rowIn hS hr e).1 r h
        have := next_len ht hr e
        exact ⟨h1, by rw [List.length_cons]; omega⟩
theorem left_rows {b : Kept} (hS : Sound b) (ht : Tight b) {row word r : List Str} (hr : rowIn b row) (e : leftIn b row word = some r) : rowIn b r ∧ r.length ≤ row.length + 2 * word.length := by
  unfold leftIn at e
  split at e
  · exact along_rows hS ht word row hr r (List.mem_of_getLast? e)
  · cases e
section
variable {σ : L2.St} {G H : Hp} {te tw tr : TE} {tt : L2.TT} {vb : V} {d dw dr : D} {S : Sm}
theorem evs_loose {i : Nat} {E : XK} (h0 : σ[i]? = some (some (.ref S.s))) (h : EvD K te σ G d) (hd : Deep 1 d) : EvS K S (tCall (sp_loose K 1) [] E (tCons (tVar i) (tCons te tNil))) σ G (0 + cost 1) (fun d' => Alike d d') :=
  evs_call (K := K) (S := S) (n := 0) (m := cost 1) (f := fun ds p => ∃ x, ds = [x] ∧ Deep 1 x ∧ p = fun d => Alike x d) (p := fun d' => Alike d d') (i := i) (pl := fun ds => ds = [d]) h0 ((ea_cons h ea_nil).toS rfl) fun ds hds => ⟨_, hds, hd, rfl⟩
theorem ev_WRB {j : Nat} {f : Hp → V → List D → D → Prop} {s2 : Sp} {E : XK} (hw : EvD K tw σ G dw) (hr : EvD K tr σ G dr) (hb : σ[j]? = some (some vb)) (hf : ∀ G1, Same G G1 → f G1 vb [dr, dw] d) : EvD K (tCallK0 (spOr (spV K f) s2) gWRB E (tCons tw (tCons tr (tCons (tVar j) tNil)))) σ G d := fun H e Q q =>
  hw H e _ fun xw G1 H1 g1 hxw => (hr.up g1.g) H1 g1.gh _ fun xr G2 H2 g2 hxr => ⟨vb, hb, .inl ⟨G2, vb, [xr, xw], [dr, dw], d, rfl, g2.gh, .cons hxr (.cons (hxw.up g2.g) .nil), hf G2 (g1.g.trans g2.g), fun v G' H' g hv => q v G' H' ((g1.trans g2).trans g) hv⟩⟩
theorem ev_WBR {j : Nat} {f : Hp → V → List D → D → Prop} {s2 : Sp} {E : XK} (hw : EvD K tw σ G dw) (hr : EvD K tr σ G dr) (hb : σ[j]? = some (some vb)) (hf : ∀ G1, Same G G1 → f G1 vb [dr, dw] d) : EvD K (tCallK0 (spOr (spN K f) s2) gWBR E (tCons tw (tCons (tVar j) (tCons tr tNil)))) σ G d := fun H e Q q =>
  hw H e _ fun xw G1 H1 g1 hxw => ⟨vb, hb, (hr.up g1.g) H1 g1.gh _ fun xr G2 H2 g2 hxr => .inl ⟨G2, vb, [xr, xw], [dr, dw], d, rfl, g2.gh, .cons hxr (.cons (hxw.up g2.g) .nil), hf G2 (g1.g.trans g2.g), fun v G' H' g hv => q v G' H' ((g1.trans g2).trans g) (hv.up new_sub)⟩⟩
theorem ev_notN_opt {o : Option (List Str)} (h : EvD K te σ G (optRow o)) : EvD K (tOp (fun x y H Q => y = V.non ∧ Q (.bl (!decide (x = .non))) H) te (tC .non)) σ G (.bl o.isSome) := by
  cases o with
  | none => exact ev_notN h rfl
  | some r => exact ev_notN h rfl
theorem ev_isN_opt {o : Option Nat} (h : EvD K te σ G (optNat o)) : EvD K (tOp (fun x y H Q => y = V.non ∧ Q (.bl (decide (x = .non))) H) te (tC .non)) σ G (.bl o.isNone) := by
  cases o with
  | none => exact ev_isN h rfl
  | some r => exact ev_isN h rfl
/-- if e: x = y (x as it is, else) -/
theorem h_ifset {i : Nat} {bb : Bool} {v0 : V} {u : TS} {D0 : L2.Ends} (h : EvB tt σ G bb) (e : Same G H) (h0 : σ.set i (some v0) = σ) (h1 : bb = true → EvD K te σ G d) (h2 : bb = false → Dq K G v0 d) (k : ∀ v G1 H1, Gr G H G1 H1 → Dq K G1 v d → u D0 (σ.set i (some v)) H1) : tSeq (tIfS tt (tAsg te (gName i)) tNext) u D0 σ H := h H e _ fun G1 H1 g1 => by
  cases bb with
  | true => exact iteT (((h1 rfl).up g1.g) H1 g1.gh _ fun v G2 H2 g2 hv => k v G2 H2 (g1.trans g2) hv)
  | false =>
    have := k v0 G1 H1 g1 ((h2 rfl).up g1.g)
    rw [h0] at this
    exact iteF this
/-- if x is not None: x.append(..); x a list -/
theorem h_told {i : Nat} {p : Addr} {xs : List V} {y : Str} {D0 : L2.Ends} (hi : σ[i]? = some (some (.ref p))) (hp : H p = some (.lst xs)) (hl : xs.length ≤ 100000) (k : D0.nx σ (upd H p (.lst (xs ++ [.str y])))) :
    tIfS (tTest (tOp (fun x y H Q => y = V.non ∧ Q (.bl (!decide (x = .non))) H) (tVar i) (tC .non))) (tDrop (tBM K "list" rAppend (tVar i) (tCons (tC (.str y)) tNil))) tNext D0 σ H := by
  refine ⟨.ref p, hi, rfl, true, ?_, iteT ⟨.ref p, hi, .inl ⟨rfl, _, seqL (.inl hp)⟩, p, xs, .str y, rfl, rfl, hp, Nat.lt_of_le_of_lt hl (by decide), k⟩⟩
  simp
theorem h_told0 {i : Nat} {t : TS} {D0 : L2.Ends} (hi : σ[i]? = some (some .non)) (k : D0.nx σ H) :
    tIfS (tTest (tOp (fun x y H Q => y = V.non ∧ Q (.bl (!decide (x = .non))) H) (tVar i) (tC .non))) t tNext D0 σ H := by
  refine ⟨.non, hi, rfl, false, ?_, iteF k⟩
  simp
end
/-- a told list of texts, new -/
def toldAt (Hb Gb H : Hp) (n : Nat) (v : V) : Prop := v = .non ∨ ∃ p xs, v = V.ref p ∧ H p = some (.lst xs) ∧ xs.length ≤ n ∧ Hb p = none ∧ Gb p = none
theorem told_opt {G7 H6 H7 G6 : Hp} {v : V} {o : Option (List Str)} (e6 : Same G6 H6) (e7 : Same G7 H7) (h : Dq K (newOf H6 G7) v (optRow o)) (hl : ∀ r, o = some r → r.length ≤ 1000) : toldAt H6 G6 H7 1000 v := by
  cases o with
  | none => cases h; exact .inl rfl
  | some r =>
    cases h with
    | @lst p xs _ hr hs =>
      rcases hr with hr | ⟨od, hr⟩
      · exact .inr ⟨p, xs, rfl, e7 _ _ (new_sub _ _ hr), by rw [hs.length, List.length_map]; exact hl r rfl, new_was hr, same_none e6 (new_was hr)⟩
      · exact absurd hr new_plain

theorem sc_w_word_right : FnScope ["_law_stream", "_law_rules", "_law_made", "_law_row", "_law_word", "_law_rows", "_law_fault", "_law_left", "_law_letters", "_law_handed", "_law_was", "_law_found", "_law_told", "_law_letter", "_law_part"] ["_law_stream", "_law_rules", "_law_made", "_law_row", "_law_word"] (defScope T47.s_w_word_right) := ⟨rfl, rfl, rfl, by decide +kernel, rfl, by decide +kernel, by decide +kernel⟩
theorem has_w_word_right (T : Tx w K mg) (h_w_g_fault : Has P w K mg base CX0 "_law_g_fault" (2) ["_law_rules", "_law_row", "_law_word"] (sp_w_g_fault K)) (h_w_g_rows : Has P w K mg base CX0 "_law_g_rows" (1) ["_law_rules", "_law_row", "_law_word"] (sp_w_g_rows K)) (h_w_loose : Has P w K mg base CX0 "_law_loose" (3) ["_law_stream", "_law_thing"] (sp_loose K 1)) (h_w_same : Has P w K mg base CX0 "_law_same" (8) ["_law_found", "_law_due"] (sp_same K 7)) (h_left_by : Has P w K mg base (L2.CX P w) "left_by" (7) ["book", "row", "word"] (sp_left_by K)) (h_letter_fault : Has P w K mg base (L2.CX P w) "letter_fault" (7) ["book", "row", "word"] (sp_letter_fault K)) (h_next_letters : Has P w K mg base (L2.CX P w) "next_letters" (8) ["book", "row", "word"] (sp_next_letters K)) (hk_left_by : HasK P w K mg base "left_by" 7 ["book", "row", "word"] ["word", "book", "row"] gWBR gWBR (sp_left_by K)) (hk_is_finished : HasK P w K mg base "is_finished" 8 ["book", "row", "word"] ["word", "row", "book"] gWRB gWRB (sp_is_finished K)) : HasG P w K mg base "_law_word_right" (9) ["_law_stream", "_law_rules", "_law_made", "_law_row", "_law_word"] (sp_w_word_right K) := by
  obtain ⟨fd, F⟩ := T.def_ 64
  have gm := T.glo (x := "_law_word_right") 76
  have z_len := T.free (x := "len") 87
  have z_repr := T.free (x := "repr") 91
  have z_sorted := T.free (x := "sorted") 92
  have nd := sc_w_word_right.nd
  refine has_ofG F gm sc_w_word_right (fun _ _ _ _ _ _ us hl => match us, hl with | [_, _, _, _, _], _ => rfl) (fun vs H Q E h => ?_) (fun cdv A outer s H vs Q E quiet hr h => ?_)
  · obtain ⟨_, _, _, _, _, _, _, _, _, _, _, e, _⟩ := h; rw [e]; rfl
  · refine ⟨_, (pss_cons (ps_par (i := 5) (j := 6) rfl nd rfl rfl (by decide) rfl rfl (pa_cons (pe_h h_w_g_rows (hr.mono (by omega)) rfl (pa_cons (pv 1) (pa_cons (pv 3) (pa_cons (pv 4) pa_nil)))) (pa_cons (pe_h h_w_g_fault (hr.mono (by omega)) rfl (pa_cons (pv 1) (pa_cons (pv 3) (pa_cons (pv 4) pa_nil)))) pa_nil)) rfl)
        (pss_cons (ps_set (i := 7) nd rfl (Or.inl rfl) (pe_ifExp (pt_cmpR op_gt (pe_callB call_len rfl z_len (by decide +kernel) (pa_cons (pv 5) pa_nil)) (pe_callB call_len rfl z_len (by decide +kernel) (pa_cons (pv 4) pa_nil)) (nomark _)) (pe_ix ix_seq (pv 5) (pe_un un_neg pe_int) (fun _ _ => rfl)) pe_non))
        (pss_cons (ps_set (i := 8) nd rfl (Or.inl rfl) pe_non)
        (pss_cons (ps_if (pt_cmpR op_notN (pv 7) pe_non (nomark _)) (pss_one (ps_set (i := 8) nd rfl (Or.inl rfl) (pe_ifExp (pt_cmpR (op_neD hr.units) (pv 7) (pe_lst pa_nil) rfl) (pe_callB cr_sortedS rfl z_sorted (by decide +kernel) (pa_cons (pe_lc (own := [("_law_letter", 13), ("_law_part", 14)]) (g := gTup K 2 (gCons (gName 13) (gCons (gName 14) gNil))) (tt := tYes) rfl nd (pi_seq (pe_dget (hu_of hr) (pv 1) (pe_ix ix_seq (pv 7) pe_int (fun _ _ => rfl)) (fun _ _ => rfl))) (blkOk_by (own := [("_law_letter", 13), ("_law_part", 14)]) (N := ["_law_stream", "_law_rules", "_law_made", "_law_row", "_law_word", "_law_rows", "_law_fault", "_law_left", "_law_letters", "_law_handed", "_law_was", "_law_found", "_law_told", "_law_letter", "_law_part"]) (sc := (defScope T47.s_w_word_right)) (by decide +kernel)) (fun _ _ _ _ _ => (pg_tup rfl (pgs_cons (pg_name (i := 13) nd rfl (Or.inl rfl)) (pgs_cons (pg_name (i := 14) nd rfl (Or.inl rfl)) pgs_nil)))) (fun _ _ _ _ _ => pts_nil) (fun _ _ _ _ _ => (pv 13))) pa_nil)) (pe_lst pa_nil)))) pss_nil)
        (pss_cons (ps_set (i := 9) nd rfl (Or.inl rfl) (pe_lst (pa_cons (pe_h h_w_loose (hr.mono (by omega)) rfl (pa_cons (pv 0) (pa_cons (pv 3) pa_nil))) (pa_cons (pe_h h_w_loose (hr.mono (by omega)) rfl (pa_cons (pv 0) (pa_cons (pv 4) pa_nil))) pa_nil))))
        (pss_cons (ps_par (i := 10) (j := 11) rfl nd rfl rfl (by decide) rfl rfl (pa_cons (pe_callB (call_reprD (by have := hr.units; exact this) quiet) rfl z_repr (by decide +kernel) (pa_cons (pv 9) pa_nil)) (pa_cons (pe_lst (pa_cons (pe_hL h_left_by (hr.mono (by omega)) rfl (pa_cons (pv 2) (pa_cons (pe_ix ix_seq (pv 9) pe_int (fun _ _ => rfl)) (pa_cons (pe_ix ix_seq (pv 9) pe_int (fun _ _ => rfl)) pa_nil)))) (pa_cons (pe_hL h_next_letters (hr.mono (by omega)) rfl (pa_cons (pv 2) (pa_cons (pe_ix ix_seq (pv 9) pe_int (fun _ _ => rfl)) (pa_cons (pe_ix ix_seq (pv 9) pe_int (fun _ _ => rfl)) pa_nil)))) pa_nil))) pa_nil)) rfl)
        (pss_cons (ps_expr (pe_bm PySem.F.plainAttrs_list PySem.F.slot_list_extend PySem.F.type_list_extend mt_extend (pv 11) (pa_cons (pe_lst (pa_cons (pe_hL h_letter_fault (by exact hr.mono (by omega)) (by rfl) (pa_cons (pv 2) (pa_cons (pe_ix ix_seq (pv 9) pe_int (fun _ _ => rfl)) (pa_cons (pe_ix ix_seq (pv 9) pe_int (fun _ _ => rfl)) pa_nil)))) (pa_cons (pe_hLK hk_is_finished (by exact hr.mono (by omega)) (by rfl) (pk_cons (pe_ix ix_seq (pv 9) pe_int (fun _ _ => rfl)) (pk_cons (pe_ix ix_seq (pv 9) pe_int (fun _ _ => rfl)) (pk_cons (pv 2) pk_nil)))) pa_nil))) pa_nil)))
        (pss_cons (ps_if (PW.pt (pw_or (pt_not (pt_val (pe_h h_w_same (hr.mono (by omega)) rfl (pa_cons (pv 11) (pa_cons (pe_lst (pa_cons (pv 7) (pa_cons (pv 8) (pa_cons (pv 6) (pa_cons (pe_cmpR op_isN (pv 6) pe_non (nomark _)) pa_nil))))) pa_nil))))) (pw_or1 (pt_cmpR op_ne (pe_callB (call_reprD (by have := hr.units; exact this) quiet) rfl z_repr (by decide +kernel) (pa_cons (pv 9) pa_nil)) (pv 10) (nomark _))))) (pss_one (ps_ret pe_bl)) pss_nil)
        (pss_cons (ps_for PassesOwn.never rfl (pi_seq (pe_slice sl_list (pv 11) po_none (po_some pe_int))) (pg_name (i := 12) nd rfl (Or.inl rfl))
        (pss_one (ps_if (pt_cmpR op_notN (pv 12) pe_non (nomark _)) (pss_one (ps_expr (pe_bm PySem.F.plainAttrs_list PySem.F.slot_list_append PySem.F.type_list_append mt_append (pv 12) (pa_cons pe_str pa_nil)))) pss_nil)))
        (pss_one (ps_ret (pe_h h_w_same (hr.mono (by omega)) rfl (pa_cons (pe_lst (pa_cons (pe_hLK hk_left_by (hr.mono (by omega)) rfl (pk_cons (pv 4) (pk_cons (pv 2) (pk_cons (pv 3) pk_nil)))) (pa_cons (pe_hL h_next_letters (hr.mono (by omega)) rfl (pa_cons (pv 2) (pa_cons (pv 3) (pa_cons (pv 4) pa_nil)))) pa_nil))) (pa_cons (pe_lst (pa_cons (pv 7) (pa_cons (pv 8) pa_nil))) pa_nil)))))))))))))), ?_⟩
    obtain ⟨S, G, L, vR, vm, vr, vw, b, kb, row, word, rfl, hw, hL, hR, hrw, hwd, hbk, hmix, hb, hsim, ht, hnm, hrow, hrl, hwl, hwc, q⟩ := h
    have hnd := hb.nd
    have hc1 : cost 1 = 1 := rfl
    have hcW : costW = 2 := rfl
    have okStr : ∀ {r : List Str}, rowIn b r → ∀ y ∈ r, PyData.strOk y = true := fun h y hy => (hnm y (h y hy)).1
    have leftOk : ∀ {r : List Str}, leftIn b row word = some r → rowIn b r ∧ r.length ≤ 900 := fun e => by
      obtain ⟨h1, h2⟩ := left_rows hb.snd ht hrow e
      exact ⟨h1, by omega⟩
    -- the rows and the fault
    refine h_par (ev_call (K := K) (G := G) (σ := [some (.ref S.s), some vR, some vm, some vr, some vw, none, none, none, none, none, none, none, none, none, none]) (f := fun ds d => ∃ (b : Kept) (x : D) (row word : List Str), ds = [.dic (lawD b), x, .lst (word.map D.str)] ∧ IsRow x row ∧ Sound b ∧ rowIn b row ∧ row.length ≤ 1000 ∧ word.length ≤ 9000 ∧ d = .lst ((along b row word).map rowD)) (ds := [.dic (lawD b), rowD row, rowD word]) (ea_cons (ev_var (i := 1) rfl hR) (ea_cons (ev_var (i := 3) rfl hrw) (ea_cons (ev_var (i := 4) rfl hwd) ea_nil))) ⟨b, _, row, word, rfl, .lst _, hb.snd, hrow, by omega, by omega, rfl⟩ H hw.g _ fun v5 G1 H1 g1 hv5 => ?_)
    refine ev_call (K := K) (G := G1) (σ := [some (.ref S.s), some vR, some vm, some vr, some vw, none, none, none, none, none, none, none, none, none, none]) (f := fun ds d => ∃ (b : Kept) (x : D) (row word : List Str), ds = [.dic (lawD b), x, .lst (word.map D.str)] ∧ IsRow x row ∧ Sound b ∧ rowIn b row ∧ row.length ≤ 1000 ∧ word.length ≤ 9000 ∧ d = optNat (faultIn b row word)) (ds := [.dic (lawD b), rowD row, rowD word]) (ea_cons (ev_var (i := 1) rfl (hR.up g1.g)) (ea_cons (ev_var (i := 3) rfl (hrw.up g1.g)) (ea_cons (ev_var (i := 4) rfl (hwd.up g1.g)) ea_nil))) ⟨b, _, row, word, rfl, .lst _, hb.snd, hrow, by omega, by omega, rfl⟩ H1 g1.gh _ fun v6 G2 H2 g2 hv6 => ?_
    have g02 := g1.trans g2
    have hv5 := hv5.up g2.g
    -- what is left
    refine h_set (K := K) (d := optRow (leftIn b row word)) (ev_if (K := K) (b := decide (word.length < (along b row word).length)) ((eb_test (ev_I0 (K := K) (i := ((along b row word).length : Nat)) (j := (word.length : Nat)) (z := .bl (decide (word.length < (along b row word).length))) (ev_len (ev_var (i := 5) rfl hv5) (.inr (.inl ⟨rfl, by rw [List.length_map]⟩))) (ev_len (ev_var (i := 4) rfl (hwd.up g02.g)) (.inr (.inl ⟨rfl, by rw [List.length_map]⟩))) (by
      have : decide (((word.length : Nat) : Int) < ((along b row word).length : Nat)) = decide (word.length < (along b row word).length) := by rw [decide_eq_decide]; omega
      rw [← this]
      exact .bl _)))) (fun hz => ?_) fun hz => ?_) g2.gh fun v7 G3 H3 g3 hv7 => ?_
    · have hlt := of_decide_eq_true hz
      obtain ⟨last, hlast⟩ : ∃ last, (along b row word).getLast? = some last := by
        cases e : (along b row word).getLast? with
        | some z => exact ⟨z, rfl⟩
        | none => rw [List.getLast?_eq_none_iff.mp e] at hlt; cases hlt
      have e1 : leftIn b row word = some last := by unfold leftIn; rw [if_pos hlt, hlast]
      rw [e1]
      refine ev_ixNeg (k := 1) (ds := (along b row word).map rowD) (d := rowD last) (ev_var (i := 5) rfl hv5) (by decide) (by rw [List.length_map]; omega) ?_
      rw [List.getElem?_map, List.length_map, ← List.getLast?_eq_getElem?, hlast]
      rfl
    · have e1 : leftIn b row word = none := by unfold leftIn; rw [if_neg (of_decide_eq_false hz)]
      rw [e1]
      exact ev_non
    have g03 := g02.trans g3
    -- the letters
    refine h_set (K := K) (d := .non) ev_non g3.gh fun v8 G4 H4 g4 hv8 => ?_
    cases hv8
    have hv7 := hv7.up g4.g
    have g04 := g03.trans g4
    have hR4 := hR.up g04.g
    refine h_ifset (K := K) (i := 8) (v0 := .non) (d := optRow ((leftIn b row word).map (lettersOf b))) (eb_test (ev_notN_opt (K := K) (ev_var (i := 7) rfl hv7))) g4.gh rfl (fun hz => ?_) (fun hz => ?_) fun v8 G5 H5 g5 hv8 => ?_
    · obtain ⟨r, er⟩ := Option.isSome_iff_exists.mp hz
      rw [er] at hv7
      rw [er]
      have hrr := (leftOk er).1
      refine ev_if (K := K) (b := !r.isEmpty) (eb_test (ev_notEmpty (ev_var (i := 7) rfl hv7) (ev_lst ea_nil (by decide)) (okStr hrr))) (fun hz => ?_) (fun hz => ?_)
      · cases r with
        | nil => cases hz
        | cons n rest =>
          have hn := hrr n (by simp)
          have hll : (rulesOf b n).length ≤ 60 := hb.snd.lt _ (rulesOf_mem hn).2
          refine ev_sortedT (xs := (rulesOf b n).map (·.1)) ((ev_lc (K := K) (vs := [13, 14]) (g := gTup K 2 (gCons (gName 13) (gCons (gName 14) gNil))) (ev_lawName (ev_var (i := 1) rfl hR4) (ev_ix (i := 0) (.inl (ev_var (i := 7) rfl hv7)) rfl) hn) rfl (by rw [List.length_map]; omega) (fun _ => true) (fun d => .str (letD d)) (fun di σ2 G2 => ∃ v w r, di = lawRule r ∧ Dq K G2 v (.str r.1) ∧ σ2 = ((wipe [some (.ref S.s), some vR, some vm, some vr, some vw, some v5, some v6, some v7, some .non, none, none, none, none, none, none] [13, 14]).set 13 (some v)).set 14 (some w)) (fun di hdi => ?_) (fun di σ2 G1 _ ⟨v, w, r, _, _, e⟩ => by rw [e]; rfl) (fun di σ2 G1 _ _ _ => eb_yes) (fun di σ2 G1 _ _ ⟨v, w, r, e1, e2, e3⟩ _ => by rw [e1, e3]; exact ev_var rfl e2)).is ?_) (by rw [List.length_map]; omega)
          · obtain ⟨r, _, rfl⟩ := List.mem_map.mp hdi
            exact fun x G1 H1 e1 hx Q q => tg_two x G1 H1 e1 hx Q fun σ2 ⟨v, w, k1, k2, k3⟩ => q σ2 ⟨v, w, r, rfl, k1, k3⟩
          · congr 1
            rw [List.filter_eq_self.mpr (fun _ _ => rfl), List.map_map, List.map_map]
            rfl
      · have : r = [] := by cases r <;> first | rfl | cases hz
        subst this
        exact ev_lst (ds := []) ea_nil (by decide)
    · have e1 : leftIn b row word = none := by cases e : leftIn b row word with | none => rfl | some r => rw [e] at hz; cases hz
      rw [e1]
      exact .non
    have g05 := g04.trans g5
    have w5 := (Gs.of hw g05).w
    -- loosely told
    refine hs_set (K := K) (evs_lst (n := 0 + cost 1 + (0 + cost 1 + 0)) (pl := fun ds => ∃ x y, ds = [x, y] ∧ IsRow x row ∧ IsRow y word) (eas_cons (p := fun d => Alike (rowD row) d) (pr := fun ds => ∃ y, ds = [y] ∧ IsRow y word) (evs_loose (i := 0) (σ := [some (.ref S.s), some vR, some vm, some vr, some vw, some v5, some v6, some v7, some v8, none, none, none, none, none, none]) rfl (ev_var (i := 3) rfl (hrw.up g05.g)) (deep_row (by omega))) (fun d G6 e6 _ => eas_cons (p := fun d => Alike (rowD word) d) (pr := fun ds => ds = []) (evs_loose (i := 0) rfl (ev_var (i := 4) rfl ((hwd.up g05.g).up e6)) (deep_row (by omega))) (fun _ _ _ _ => eas_nil) fun d ds h1 h2 => ⟨d, by rw [h2], alike_row h1⟩) fun d ds h1 ⟨y, h2, h3⟩ => ⟨d, y, by rw [h2], alike_row h1, h3⟩) fun ds ⟨x, y, e, _⟩ => by rw [e]; show 2 ≤ 100000; decide) w5 (by omega) fun v9 d9 G6 H6 g6 ⟨ds9, hd9, x, y, e9, hx, hy⟩ hv9 => ?_
    subst hd9
    subst e9
    have gA := (Gs.of hw g05).trans g6
    have hsh : Shows (D.lst [x, y]).py ((20 + 1) * row.length + 1 + ((20 + 1) * word.length + 1 + 0)) 2 := shows_lst (shows_cons (shows_row hx fun n hn => hnm n (hrow n hn)) (shows_cons (shows_row hy fun z hz => ⟨(hwc z hz).2.1, (hwc z hz).2.2⟩) shows_nil))
    have hfl : flats [x, y] = true := by
      show (x.flat && (y.flat && true)) = true
      rw [flat_row hx, flat_row hy]
      rfl
    have tell9 : ∀ {σ : L2.St} {G9 : Hp}, σ[9]? = some (some v9) → Dq K G9 v9 (.lst [x, y]) → EvD K (tCB (rReprD K) (tCons (tVar 9) tNil)) σ G9 (.str (D.lst [x, y]).py.shown) := fun h1 h2 => ev_repr (ev_var (i := 9) h1 h2) hfl hsh (by omega) (by decide)
    generalize (D.lst [x, y]).py.shown = txt at tell9
    -- shown and asked
    refine h_par (tell9 (σ := [some (.ref S.s), some vR, some vm, some vr, some vw, some v5, some v6, some v7, some v8, some v9, none, none, none, none, none]) rfl hv9 H6 g6.w.g _ fun v10 G7 H7 g7 hv10 => ?_)
    cases hv10
    have sG7 : Same G G7 := gA.g.trans g7.g
    have asked : ∀ {Gi : Hp} {x y : D}, IsBook K Gi vm kb → IsRow x row → IsRow y word → Asked K Gi vm [x, y] kb row word := fun {Gi x y} bk h1 h2 =>
      ⟨_, _, rfl, ⟨bk, hmix.sz, hmix.simple hnd hsim, ⟨h1, by omega, fun n hn => hmix.mem.mpr (hrow n hn)⟩, ⟨h2, by omega, fun z hz => ⟨(hwc z hz).1, by have := (hwc z hz).2.2; omega⟩⟩⟩, hmix.sound hnd hb.snd, by omega, by omega⟩
    have eL : leftIn kb row word = leftIn b row word := hmix.leftIn hb.snd hsim hrow
    have eF : faultIn kb row word = faultIn b row word := hmix.faultIn hb.snd hsim hrow
    have eT : (leftIn kb row word).map (lettersOf kb) = (leftIn b row word).map (lettersOf b) := by
      rw [eL]
      cases e : leftIn b row word with
      | none => rfl
      | some r => show some _ = some _; rw [hmix.letters (leftOk e).1]
    have hv9 := hv9.up g7.g
    have bk7 := hbk.up sG7
    refine ena_cons (K := K) (G := G7) (σ := [some (.ref S.s), some vR, some vm, some vr, some vw, some v5, some v6, some v7, some v8, some v9, none, none, none, none, none]) (d := optRow (leftIn b row word)) (evn_callO (f := fun G vb ds d => ∃ b row word, Asked K G vb ds b row word ∧ d = optRow (leftIn b row word)) (eav_cons (evv_var (i := 2) rfl) (ea_cons (ev_ix (i := 0) (.inl (ev_var (i := 9) rfl hv9)) rfl) (ea_cons (ev_ix (i := 1) (.inl (ev_var (i := 9) rfl hv9)) rfl) ea_nil))) fun G1 e1 => ⟨kb, row, word, asked (bk7.up e1) hx hy, by rw [eL]⟩) (ena_cons (d := optRow ((leftIn b row word).map (lettersOf b))) (evn_callO (f := fun G vb ds d => ∃ b row word, Asked K G vb ds b row word ∧ d = optRow ((leftIn b row word).map (lettersOf b))) (eav_cons (evv_var (i := 2) rfl) (ea_cons (ev_ix (i := 0) (.inl (ev_var (i := 9) rfl hv9)) rfl) (ea_cons (ev_ix (i := 1) (.inl (ev_var (i := 9) rfl hv9)) rfl) ea_nil))) fun G1 e1 => ⟨kb, row, word, asked (bk7.up e1) hx hy, by rw [eT]⟩) ena_nil) H7 g7.gh _ fun vs G8 H8 g8 hvs => ⟨by rw [hvs.length]; show 2 ≤ sizeLine; decide, fun fd hfd => ?_⟩
    have a1 : Gr G7 H7 G7 H8 := Gr.stay g7.gh g8.h
    have a2 : Gr G7 H7 G7 (upd H8 fd (.lst vs)) := a1.trans (Gr.ov a1.gh hfd)
    have fd7 : H7 fd = none := same_none g8.h hfd
    have fG7 : G7 fd = none := same_none g7.gh fd7
    have fG8 : G8 fd = none := same_none g8.gh hfd
    have e8 : Same G8 (upd H8 fd (.lst vs)) := g8.gh.trans (same_new hfd)
    have hv9' := hv9.up g8.g
    have bk8 := bk7.up g8.g
    -- asked by names
    refine h_extN (i := 11) (H := upd H8 fd (.lst vs)) rfl upd_same (ena_cons (K := K) (G := G8) (σ := [some (.ref S.s), some vR, some vm, some vr, some vw, some v5, some v6, some v7, some v8, some v9, some (.str txt), some (.ref fd), none, none, none]) (d := optNat (faultIn b row word)) (evn_opt (ev_callO (f := fun G vb ds d => ∃ b row word, Asked K G vb ds b row word ∧ d = optNat (faultIn b row word)) (eav_cons (evv_var (i := 2) rfl) (ea_cons (ev_ix (i := 0) (.inl (ev_var (i := 9) rfl hv9')) rfl) (ea_cons (ev_ix (i := 1) (.inl (ev_var (i := 9) rfl hv9')) rfl) ea_nil))) fun G1 e1 => ⟨kb, row, word, asked (bk8.up e1) hx hy, by rw [eF]⟩)) (ena_cons (d := .bl (faultIn b row word).isNone) (evn_scal (w := .bl (faultIn b row word).isNone) (ev_WRB (j := 2) (f := fun G vb ds d => ∃ b row word, Asked K G vb ds b row word ∧ d = .bl (faultIn b row word).isNone) (ev_ix (i := 1) (.inl (ev_var (i := 9) rfl hv9')) rfl) (ev_ix (i := 0) (.inl (ev_var (i := 9) rfl hv9')) rfl) rfl fun G1 e1 => ⟨kb, row, word, asked (bk8.up e1) hx hy, by rw [eF]⟩) rfl) ena_nil)) (by rw [hvs.length]; show 4 ≤ 100000; decide) e8 fun zs lb G9 H9 g9 hzs hlb => ?_
    have a3 := a2.trans (Gr.stay a2.gh g9.h)
    have a4 : Gr G7 H7 G7 (upd H9 lb (.lst zs)) := a3.trans (Gr.ov a3.gh hlb)
    have a5 : Gr G7 H7 G7 (upd (upd H9 lb (.lst zs)) fd (.lst (vs ++ zs))) := a4.mutN fd7 fG7
    have fG9 : G9 fd = none := g9.apart upd_same fG8
    have e9 : Same G9 (upd H9 lb (.lst zs)) := g9.gh.trans (same_new hlb)
    have e10 : Same (upd G9 fd (.lst (vs ++ zs))) (upd (upd H9 lb (.lst zs)) fd (.lst (vs ++ zs))) := same_both e9
    have s9 : Same G7 (upd G9 fd (.lst (vs ++ zs))) := (g8.g.trans g9.g).trans (same_new fG9)
    have hall : Dq K (upd G9 fd (.lst (vs ++ zs))) (.ref fd) (.lst [optRow (leftIn b row word), optRow ((leftIn b row word).map (lettersOf b)), optNat (faultIn b row word), .bl (faultIn b row word).isNone]) := .lst (.inl upd_same) ((((hvs.up new_sub).up g9.g).append (hzs.up new_sub)).up (same_new fG9))
    have dpAll : Dp 7 (.lst [optRow (leftIn b row word), optRow ((leftIn b row word).map (lettersOf b)), optNat (faultIn b row word), .bl (faultIn b row word).isNone]) ∧ Dp 7 (.lst [optRow (leftIn b row word), optRow ((leftIn b row word).map (lettersOf b))]) := by
      have p1 : Dp 6 (optRow (leftIn b row word)) := by
        cases e : leftIn b row word with
        | none => exact .flat rfl
        | some r => exact dp_row (by have := (leftOk e).2; omega)
      have p2 : Dp 6 (optRow ((leftIn b row word).map (lettersOf b))) := by
        cases e : leftIn b row word with
        | none => exact .flat rfl
        | some r =>
          refine dp_row ?_
          cases r with
          | nil => show 0 ≤ 1000; omega
          | cons n rest =>
            show (srt ((rulesOf b n).map (·.1))).length ≤ 1000
            rw [(srt_perm _).length_eq, List.length_map]
            have : (rulesOf b n).length ≤ 60 := hb.snd.lt _ (rulesOf_mem ((leftOk e).1 n (by simp))).2
            omega
      have p3 : Dp 6 (optNat (faultIn b row word)) := by cases faultIn b row word <;> exact .flat rfl
      constructor
      · refine .seq (.lst _) (by show 4 ≤ 1000; decide) fun z hz => ?_
        simp only [List.mem_cons, List.not_mem_nil, or_false] at hz
        rcases hz with rfl | rfl | rfl | rfl
        · exact p1
        · exact p2
        · exact p3
        · exact .flat rfl
      · refine .seq (.lst _) (by show 2 ≤ 1000; decide) fun z hz => ?_
        simp only [List.mem_cons, List.not_mem_nil, or_false] at hz
        rcases hz with rfl | rfl
        · exact p1
        · exact p2
    have hv7 := (hv7.up g5.g).up (g6.g.trans g7.g)
    have hv8 := hv8.up (g6.g.trans g7.g)
    have hv6 := (((hv6.up g3.g).up g4.g).up g5.g).up (g6.g.trans g7.g)
    refine h_ifq (b := false) (G := upd G9 fd (.lst (vs ++ zs))) ((eb_or (a := false) ((eb_not (b := true) (eb_B (ev_call (K := K) (E := E0) (σ := [some (.ref S.s), some vR, some vm, some vr, some vw, some v5, some v6, some v7, some v8, some v9, some (.str txt), some (.ref fd), none, none, none]) (f := fun ds d => ∃ x, ds = [x, x] ∧ Dp 7 x ∧ d = .bl true) (ea_cons (ev_var (i := 11) rfl hall) (ea_cons (ev_lst (ea_cons (ev_var (i := 7) rfl (hv7.up s9)) (ea_cons (ev_var (i := 8) rfl (hv8.up s9)) (ea_cons (ev_var (i := 6) rfl (hv6.up s9)) (ea_cons (ev_isN_opt (ev_var (i := 6) rfl (hv6.up s9))) ea_nil)))) (by show 4 ≤ 100000; decide)) ea_nil)) ⟨_, rfl, dpAll.1, rfl⟩))).is rfl) fun _ => (eb_test (ev_ne (v := .str txt) (w := .str txt) (tell9 rfl (hv9.up s9)) (ev_var (i := 10) rfl (.str txt)) rfl rfl rfl)).is (by simp)).is rfl) e10 (fun z => by cases z) fun _ G11 H11 g11 => ?_
    have a6 := a5.trans (Gr.stay a5.gh g11.h)
    have f11 : H11 fd = some (.lst (vs ++ zs)) := g11.h _ _ upd_same
    have hlr : ∀ r, leftIn b row word = some r → r.length ≤ 1000 := fun r e => by have := (leftOk e).2; omega
    have hlt : ∀ r, (leftIn b row word).map (lettersOf b) = some r → r.length ≤ 1000 := fun r e => by
      have d := dpAll.2
      cases d with
      | flat f => cases f
      | @seq _ _ ds hk _ hd =>
        cases hk
        have := hd (optRow ((leftIn b row word).map (lettersOf b))) (by simp)
        rw [e] at this
        cases this with
        | flat f => cases f
        | @seq _ _ ds hk h _ => cases hk; rwa [List.length_map] at h
    -- what was told is theirs
    cases hvs with
    | @cons v0 _ _ _ h0 hvs =>
    cases hvs with
    | @cons v1 _ _ _ h1 hvs =>
    cases hvs
    have k0 := told_opt g7.gh g8.gh h0 hlr
    have k1 := told_opt g7.gh g8.gh h1 hlt
    have up11 : ∀ {v : V}, toldAt H7 G7 H8 1000 v → toldAt H7 G7 H11 1000 v := fun {v} h => by
      rcases h with h | ⟨p, xs, e1, e2, e3, e4, e5⟩
      · exact .inl h
      · have n1 : p ≠ fd := ne_of_none e2 hfd
        have i1 : (upd H8 fd (.lst [v0, v1])) p = some (.lst xs) := by rw [upd_ne n1]; exact e2
        have i2 := g9.h _ _ i1
        have i3 : (upd (upd H9 lb (.lst zs)) fd (.lst ([v0, v1] ++ zs))) p = some (.lst xs) := by rw [upd_ne n1, upd_ne (ne_of_none i2 hlb)]; exact i2
        exact .inr ⟨p, xs, e1, g11.h _ _ i3, e3, e4, e5⟩
    have k0 := up11 k0
    have k1 := up11 k1
    have hcut : cutV ([v0, v1] ++ zs) none (some (2 : Int)) = [v0, v1] := rfl
    refine ⟨.ref fd, rfl, 2, rfl, fd, [v0, v1] ++ zs, rfl, seqL (.inl f11), fun sl hsl => .inl ⟨sl, rfl, ⟨_, seqL (.inl upd_same)⟩, ?_⟩⟩
    rw [hcut]
    have a7 : Gr G7 H7 G7 (upd H11 sl (.lst [v0, v1])) := a6.trans (Gr.ov a6.gh hsl)
    have sl7 : H7 sl = none := same_none a6.h hsl
    have slG : G7 sl = none := same_none g7.gh sl7
    have upS : ∀ {v : V}, toldAt H7 G7 H11 1000 v → toldAt H7 G7 (upd H11 sl (.lst [v0, v1])) 1000 v := fun {v} h => by
      rcases h with h | ⟨p, xs, e1, e2, e3, e4, e5⟩
      · exact .inl h
      · exact .inr ⟨p, xs, e1, by rw [upd_ne (ne_of_none e2 hsl)]; exact e2, e3, e4, e5⟩
    have nsl : ∀ {v : V} {n : Nat}, toldAt H7 G7 H11 n v → v ≠ .ref sl := fun {v n} h z => by
      rcases h with h | ⟨p, xs, e1, e2, _⟩
      · rw [z] at h; cases h
      · rw [z] at e1
        cases e1
        rw [hsl] at e2
        cases e2
    have ns0 := nsl k0
    have ns1 := nsl k1
    have k0 := upS k0
    have k1 := upS k1
    refine for_gen (n := 2) (fun i u => [v0, v1][i]? = some u) (fun i σ' H' => ∃ c12, σ' = [some (.ref S.s), some vR, some vm, some vr, some vw, some v5, some v6, some v7, some v8, some v9, some (.str txt), some (.ref fd), c12, none, none] ∧ Gr G7 H7 G7 H' ∧ H' sl = some (.lst [v0, v1]) ∧ toldAt H7 G7 H' (1000 + i) v0 ∧ toldAt H7 G7 H' (1000 + i) v1)
      ⟨none, rfl, a7, upd_same, k0, k1⟩ (fun i σ' H' hlt ⟨_, _, _, h, _⟩ => ⟨[v0, v1], [v0, v1][i]'hlt, seqL (.inl h), by simp⟩) (fun σ' H' ⟨_, _, _, h, _⟩ => ⟨[v0, v1], seqL (.inl h), Nat.le_refl _⟩) (fun i σ' H' u H'' hlt ⟨_, _, _, h, _⟩ y => ⟨y.1, y.2 _ (seqL (.inl h))⟩) ?_ ?_
    · rintro i u σ' H' hlt hu ⟨c12, rfl, g', hs', t0, t1⟩
      have tu : toldAt H7 G7 H' (1000 + i) u ∧ u ≠ .ref sl := by
        match i, hlt, hu with
        | 0, _, hu => cases hu; exact ⟨t0, ns0⟩
        | 1, _, hu => cases hu; exact ⟨t1, ns1⟩
      have more : ∀ {v : V} {H'' : Hp}, (∀ p xs, v = .ref p → H' p = some (.lst xs) → xs.length ≤ 1000 + i → ∃ ys, H'' p = some (.lst ys) ∧ ys.length ≤ 1000 + (i + 1)) → toldAt H7 G7 H' (1000 + i) v → toldAt H7 G7 H'' (1000 + (i + 1)) v := fun {v H''} h t => by
        rcases t with t | ⟨p, xs, e1, e2, e3, e4, e5⟩
        · exact .inl t
        · obtain ⟨ys, h1, h2⟩ := h p xs e1 e2 e3
          exact .inr ⟨p, ys, e1, h1, h2, e4, e5⟩
      rcases tu with ⟨rfl | ⟨p, xs, rfl, e2, e3, e4, e5⟩, nu⟩
      · refine h_told0 (i := 12) rfl ?_
        exact ⟨_, rfl, g', hs', more (fun p xs _ h1 h2 => ⟨xs, h1, by omega⟩) t0, more (fun p xs _ h1 h2 => ⟨xs, h1, by omega⟩) t1⟩
      · have np : sl ≠ p := fun z => nu (by rw [z])
        refine h_told (K := K) (i := 12) rfl e2 (by omega) ?_
        have mo : ∀ (q : Addr) (ys : List V), H' q = some (.lst ys) → ys.length ≤ 1000 + i → ∃ zs', (upd H' p (.lst (xs ++ [.str "late"]))) q = some (.lst zs') ∧ zs'.length ≤ 1000 + (i + 1) := fun q ys h1 h2 => by
          by_cases hq : q = p
          · rw [hq]
            exact ⟨_, upd_same, by rw [List.length_append]; show _ + 1 ≤ _; omega⟩
          · exact ⟨ys, by rw [upd_ne hq]; exact h1, by omega⟩
        exact ⟨_, rfl, g'.mutN e4 e5, by rw [upd_ne np]; exact hs', more (fun q ys _ h1 h2 => mo q ys h1 h2) t0, more (fun q ys _ h1 h2 => mo q ys h1 h2) t1⟩
    · rintro σ' H' ⟨c12, rfl, g', _, _, _⟩
      have hw7 := hwd.up sG7
      have hr7 := hrw.up sG7
      refine ev_call (K := K) (G := G7) (E := E0) (σ := [some (.ref S.s), some vR, some vm, some vr, some vw, some v5, some v6, some v7, some v8, some v9, some (.str txt), some (.ref fd), c12, none, none]) (f := fun ds d => ∃ x, ds = [x, x] ∧ Dp 7 x ∧ d = .bl true) (d := .bl true) (ea_cons (ev_lst (ds := [optRow (leftIn b row word), optRow ((leftIn b row word).map (lettersOf b))]) (ea_cons (ev_WBR (K := K) (j := 2) (f := fun G vb ds d => ∃ b row word, Asked K G vb ds b row word ∧ d = optRow (leftIn b row word)) (ev_var (i := 4) rfl hw7) (ev_var (i := 3) rfl hr7) rfl fun G1 e1 => ⟨kb, row, word, asked (bk7.up e1) (.lst _) (.lst _), by rw [eL]⟩) (ea_cons (evn_callO (f := fun G vb ds d => ∃ b row word, Asked K G vb ds b row word ∧ d = optRow ((leftIn b row word).map (lettersOf b))) (eav_cons (evv_var (i := 2) rfl) (ea_cons (ev_var (i := 3) rfl hr7) (ea_cons (ev_var (i := 4) rfl hw7) ea_nil))) fun G1 e1 => ⟨kb, row, word, asked (bk7.up e1) (.lst _) (.lst _), by rw [eT]⟩).toD ea_nil)) (by show 2 ≤ 100000; decide)) (ea_cons (ev_lst (ea_cons (ev_var (i := 7) rfl hv7) (ea_cons (ev_var (i := 8) rfl hv8) ea_nil)) (by show 2 ≤ 100000; decide)) ea_nil)) ⟨_, rfl, dpAll.2, rfl⟩ H' g'.gh _ fun v G12 H12 g12 hv => ?_
      cases hv
      have gF := (gA.trans (Gs.of g6.w (g7.trans g'))).trans (Gs.of (gA.trans (Gs.of g6.w (g7.trans g'))).w g12)
      exact q G12 H12 (gF.more (by omega))

end
end T47
/-! sorted(d.items()) of a dict of texts, d locked or not. -/
namespace Pk
open PySem PySem.Spec PyProof.Rows L2 T47
mutual
/-- what data read off is there -/
theorem reads_there {h : Heap} : ∀ (d : PyData) (v : Value) (as : List Addr), PySem.W.alike d d = true → Reads h v d as → ∀ b ∈ as, ∃ o, h.get? b = some o
  | .none, _, _, _, r, _, hb => by cases r; cases hb
  | .bool _, _, _, _, r, _, hb => by cases r; cases hb
  | .int _, _, _, _, r, _, hb => by cases r; cases hb
  | .str _, _, _, _, r, _, hb => by cases r; cases hb
  | .list xs, _, _, al, r, b, hb => by
    cases r with
    | list e1 _ _ rs =>
      rcases List.mem_cons.mp hb with z | hb
      · exact ⟨_, z ▸ e1⟩
      · exact reads_thereAll xs _ _ (by simpa [PySem.W.alike] using al) rs b hb
  | .tuple xs, _, _, al, r, b, hb => by
    cases r with
    | tuple _ _ _ rs => exact reads_thereAll xs _ _ (by simpa [PySem.W.alike] using al) rs b hb
  | .dict _, _, _, al, _, _, _ => absurd al (by simp [PySem.W.alike])
theorem reads_thereAll {h : Heap} : ∀ (ds : List PyData) (vs : List Value) (as : List Addr), PySem.W.alikeAll ds ds = true → ReadsAll h vs ds as → ∀ b ∈ as, ∃ o, h.get? b = some o
  | [], _, _, _, r, _, hb => by cases r; cases hb
  | d :: ds, _, _, al, r, b, hb => by
    cases r with
    | cons r1 rs =>
      have al := PySem.W.alike_all_cons al
      rcases List.mem_append.mp hb with z | z
      · exact reads_there d _ _ al.1 r1 b z
      · exact reads_thereAll ds _ _ al.2 rs b z
end
theorem nodup_inj {α β : Type} {f : α → β} : ∀ {l : List α}, (l.map f).Nodup → ∀ {x y : α}, x ∈ l → y ∈ l → f x = f y → x = y
  | [], _, _, _, hx, _, _ => by cases hx
  | a :: l, hn, x, y, hx, hy, e => by
    rw [List.map_cons, List.nodup_cons] at hn
    rcases List.mem_cons.mp hx with z | hx
    · rcases List.mem_cons.mp hy with z2 | hy
      · rw [z, z2]
      · exact absurd (List.mem_map.mpr ⟨y, hy, by rw [← e, z]⟩) hn.1
    · rcases List.mem_cons.mp hy with z2 | hy
      · exact absurd (List.mem_map.mpr ⟨x, hx, by rw [e, z2]⟩) hn.1
      · exact nodup_inj hn.2 hx hy e
/-- an entry as it is laid: its pair's place, key and value, and what they are -/
abbrev Ent := Addr × ((Key × V) × (Str × D))
def entPy (z : Ent) : PyData := (pairD z.2.2).py
def rSortI (K : PySem.W.Frag) : V → Hp → VK → Prop := fun x H Q => ∃ (d : Addr) (ws : List (Key × V)) (ps : List (Str × D)), x = .ref d ∧ Rd H d (.dK ws) ∧ ws.map (·.1) = ps.map (fun p => (Sum.inr p.1 : Key)) ∧ Dqs K H (ws.map (·.2)) (ps.map (·.2)) ∧ flats (ps.map pairD) = true ∧
  PySem.W.AllAlike ((ps.map pairD).map D.py) ∧ ps.length ≤ 1000 ∧ (∀ p ∈ ps, (pairD p).py.depth ≤ 50) ∧
  ∀ (H' : Hp) (l : Addr) (zs : List Ent), Same H H' → H l = none → H' l = some (.lst (zs.map fun z => V.ref z.1)) → (∀ z ∈ zs, H z.1 = none ∧ H' z.1 = some (.tup [kV z.2.1.1, z.2.1.2])) → (zs.map (·.2)).Perm (ws.zip ps) → Q (.ref l) H'
def tSortI (K : PySem.W.Frag) (te : TE) : TE := fun σ H Q => te σ H fun x H1 => rSortI K x H1 Q
theorem ents_each {X : Cx} {pins : List (Addr × Obj)} {σ : L2.St} {H : Hp} {s : Shared} (I : Inv X pins σ H s) : ∀ {zs : List Ent}, (∀ z ∈ zs, H z.1 = some (.tup [kV z.2.1.1, z.2.1.2]) ∧ z.2.1.1 = Sum.inr z.2.2.1 ∧ Dq X.K H z.2.1.2 z.2.2.2 ∧ z.2.2.2.flat = true) →
    PySem.W.EachIs (fun u (z : Ent) => u = Value.ref z.1) (zs.map fun z => Value.ref z.1) zs ∧ PySem.W.EachIs (fun u (z : Ent) => ∃ as, Reads s.heap u (entPy z) as) (zs.map fun z => Value.ref z.1) zs
  | [], _ => ⟨.nil, .nil⟩
  | z :: zs, h => by
    obtain ⟨a, b⟩ := ents_each I (zs := zs) fun y hy => h y (List.mem_cons_of_mem _ hy)
    obtain ⟨h1, h2, h3, h4⟩ := h z (by simp)
    have hd : Dq X.K H (.ref z.1) (pairD z.2.2) := .tup (.inl h1) (.cons (by rw [h2]; exact .str _) (.cons h3 .nil))
    exact ⟨.cons rfl a, .cons (L2.Dp.reads I _ _ _ (hd.dp (d := pairD z.2.2) (by show (true && (z.2.2.2.flat && true)) = true; rw [h4]; rfl)) (show RelV (.ref z.1) (Value.ref z.1) from rfl)) b⟩
theorem each_refs : ∀ {us : List Value} {zs : List Ent}, PySem.W.EachIs (fun u (z : Ent) => u = Value.ref z.1) us zs → Vals (zs.map fun z => V.ref z.1) us
  | _, _, .nil => .nil
  | _, _, .cons a b => .cons (by rw [a]; rfl) (each_refs b)
section
variable {X : Cx} {e : Expr} {te : TE} {p apos cpos pos : Pos}
theorem pe_sortI (hc : X.calm = true) (hu : X.A.units + 64 < cLine) (he : PE X e te) (hg : Gl X "sorted") (hm : X.mg "sorted" = none) (hv : bootBuiltins "sorted" = some (.builtin "sorted")) (hb : attributeBase e "items" X.env (eval e X.env) = eval e X.env := by rfl) (hln : (apos.endLine == cpos.line) = true := by rfl)
    (hs : starEach [.Call (.Attribute e "items" apos) [] [] cpos] X.env = (false, eval (.Call (.Attribute e "items" apos) [] [] cpos) X.env) :: starEach [] X.env := by rfl) :
    PE X (.Call (.Name "sorted" p) [.Call (.Attribute e "items" apos) [] [] cpos] [] pos) (tSortI X.K te) := by
  refine ⟨fun pins s σ H Q I want => wpAny_Call_Name_kw (ld_blt I hg hm hv (PyProof.Rows.callWith_builtin1 ?_ hs rfl))⟩
  rw [hs]
  show wpAny _ _ (spliced ((false, eval (.Call (.Attribute e "items" apos) [] [] cpos) X.env) :: backTo pos (starEach [] X.env))) _ _ s
  refine Calls.spliced_cons (wpAny_Call_method (T := "dict") (id := "dict.items") hb rfl hln F.plainAttrs_dict F.slot_dict_items F.type_dict_items (thn (he.run pins s σ H _ I want) fun u s1 got => ?_))
  obtain ⟨x, H1, I1, rx, d, ws, ps, rfl, hd, hk, hq, hf, hal, hl, hdp, q⟩ := got
  obtain rfl : u = Value.ref d := rx
  obtain ⟨hz, hs0, vs, kv, dd⟩ := dk_rd I1.hok hd
  have lk : ws.length = vs.length := Paired.length kv
  have lp : ws.length = ps.length := by have := congrArg List.length hk; simpa using this
  refine ⟨dd.typeIs, dd.mapOf.noDict, ?_⟩
  show wpAny _ _ (callWith cpos (.builtin "dict.items") [.ref d] [] []) _ X.xe s1
  refine method_meetsIn F.slot_dict_items F.entry_dict_items rfl (PySem.evalArgs_none ⟨rfl, dd.typeIs, F.args_dict_items_1 _, _, meets_dict_items (mixKind X.prog X.w) d hs0, ⟨vs, dd⟩, Calls.spliced_nil ?_⟩)
  obtain ⟨o, es, ep, ho, hx, hdat, _, hprs, _⟩ := dd
  have les : es.size = ws.length := by
    have := hprs.length
    rw [Array.length_toList] at this
    omega
  refine DT.sortedI (d := d) (es := es) (ep := ep) (I1.ok.hd hc) ⟨_, Heap.get?_push_size _ rfl, rfl, rfl⟩ ⟨o, Heap.get?_push_of_some _ ho, hx, hdat⟩ (by rw [les]; exact hz) fun h' tk as hk' hlt has hG => ?_
  have keep1 : ∀ b ob, s1.heap.get? b = some ob → h'.get? b = some ob := fun b ob e => hk' b ob (Heap.get?_push_of_some _ e)
  have sz : s1.heap.objs.size < h'.objs.size := Nat.lt_trans (by rw [Heap.size_push]; exact Nat.lt_succ_self _) hlt
  have low : ∀ a ∈ as, s1.heap.objs.size ≤ a := fun a ha => by
    have h0 : (s1.heap.push { cls := .type "dict_items", data := .fields #[.ref d] }).objs.size < a := hG.above a ha
    rw [Heap.size_push] at h0
    omega
  have nd : as.Nodup := List.Pairwise.imp (fun h => Nat.ne_of_lt h) hG.rise
  let zs : List Ent := as.zip (ws.zip ps)
  have lz : (ws.zip ps).length = ws.length := by rw [List.length_zip]; omega
  have zs1 : zs.map (·.1) = as := List.map_fst_zip (by rw [lz]; omega)
  have zs2 : zs.map (·.2) = ws.zip ps := List.map_snd_zip (by rw [lz]; omega)
  have zsl : zs.length = ps.length := by rw [List.length_zip, lz]; omega
  have zat : ∀ z ∈ zs, ∃ j : Nat, as[j]? = some z.1 ∧ ws[j]? = some z.2.1 ∧ ps[j]? = some z.2.2 := fun z hz => by
    obtain ⟨j, hj⟩ := List.mem_iff_getElem?.mp hz
    obtain ⟨h1, h2⟩ := List.getElem?_zip_eq_some.mp hj
    obtain ⟨h3, h4⟩ := List.getElem?_zip_eq_some.mp h2
    exact ⟨j, h1, h3, h4⟩
  -- the pairs
  have pairAt : ∀ z ∈ zs, ∃ key val, RelV (kV z.2.1.1) key ∧ RelV z.2.1.2 val ∧ h'.get? z.1 = some { cls := .type "tuple", data := .seq #[key, val] } := fun z hz => by
    obtain ⟨j, j1, j2, _⟩ := zat z hz
    obtain ⟨en, e1, e2⟩ := hG.pairs j z.1 j1
    obtain ⟨kx, g1, g2, g3⟩ := LiI.paired_get kv j2
    have e1' : es.toList[j]? = some en := by rw [Array.getElem?_toList]; exact e1
    obtain ⟨k1, k2⟩ := hprs.get? e1' (show vs[j]? = some (kx.1, kx.2) from g1)
    refine ⟨en.key, en.val, ?_, by rw [k2]; exact g3, e2⟩
    rw [show z.2.1.1 = kx.1 from g2]
    exact relV_key (show keyIs kx.1 en.key = true from k1)
  have I2 : Inv X pins σ H1 { s1 with heap := h', toks := tk } := I1.kept keep1
  obtain ⟨H2, J2, up2, at2⟩ := L2.DX.takeT (P := fun a xs => ∃ z ∈ zs, z.1 = a ∧ xs = [kV z.2.1.1, z.2.1.2]) I1 as H1 I2 nd fun a ha => by
    obtain ⟨z, hz, rfl⟩ := List.mem_map.mp (show a ∈ zs.map (·.1) by rw [zs1]; exact ha)
    obtain ⟨key, val, r1, r2, e1⟩ := pairAt z hz
    exact ⟨low _ ha, I1.hok.fresh (low _ ha), _, ⟨z, hz, rfl, rfl⟩, fun H3 => ⟨by show 2 ≤ sizeLine; decide, [key, val], .cons r1 (.cons r2 .nil), ⟨_, e1, rfl, _, rfl⟩⟩⟩
  have same2 : Same H1 H2 := up2
  have zsAt : ∀ z ∈ zs, H1 z.1 = none ∧ H2 z.1 = some (.tup [kV z.2.1.1, z.2.1.2]) := fun z hz => by
    have ha : z.1 ∈ as := by rw [← zs1]; exact List.mem_map.mpr ⟨z, hz, rfl⟩
    obtain ⟨xs, ⟨z', hz', e1, e2⟩, e3⟩ := at2 _ ha
    have : z' = z := nodup_inj (f := fun z : Ent => z.1) (by rw [zs1]; exact nd) hz' hz e1
    rw [e3, e2, this]
    exact ⟨I1.hok.fresh (low _ ha), rfl⟩
  have keyAt : ∀ z ∈ zs, z.2.1.1 = Sum.inr z.2.2.1 ∧ Dq X.K H1 z.2.1.2 z.2.2.2 := fun z hz => by
    obtain ⟨j, _, j2, j3⟩ := zat z hz
    constructor
    · have h1 : (ws.map (·.1))[j]? = some z.2.1.1 := by rw [List.getElem?_map, j2]; rfl
      rw [hk, List.getElem?_map, j3] at h1
      exact (Option.some.inj h1).symm
    · obtain ⟨d', d1, d2⟩ := hq.at (i := j) (show (ws.map (·.2))[j]? = some z.2.1.2 by rw [List.getElem?_map, j2]; rfl)
      rw [List.getElem?_map, j3] at d1
      cases d1
      exact d2
  have flatAt : ∀ {l : List (Str × D)}, flats (l.map pairD) = true → ∀ p ∈ l, p.2.flat = true := by
    intro l
    induction l with
    | nil => intro _ p hp; cases hp
    | cons c l ih =>
      intro h p hp
      obtain ⟨h1, h2⟩ := Bool.and_eq_true_iff.mp (show ((pairD c).flat && flats (l.map pairD)) = true from h)
      rcases List.mem_cons.mp hp with z | hp
      · have h1 : (true && (c.2.flat && true)) = true := h1
        rw [z]
        simpa using h1
      · exact ih h2 p hp
  obtain ⟨ea, eb⟩ := ents_each J2 (zs := zs) fun z hz => ⟨(zsAt z hz).2, (keyAt z hz).1, (keyAt z hz).2.up same2, flatAt hf _ (by obtain ⟨j, _, _, j3⟩ := zat z hz; exact List.mem_of_getElem? j3)⟩
  have refs : zs.map (fun z => Value.ref z.1) = as.map Value.ref := by rw [← zs1, List.map_map]; rfl
  rw [refs] at ea eb
  have pys0 : zs.map entPy = (ps.map pairD).map D.py := by
    have : zs.map (fun z => z.2.2) = ps := by
      have h1 : (zs.map (·.2)).map (·.2) = ps := by rw [zs2]; exact List.map_snd_zip (by omega)
      rwa [List.map_map] at h1
    conv => rhs; rw [← this]
    rw [List.map_map, List.map_map]
    rfl
  have hob : (h'.push { cls := .type "list", data := .seq (as.map Value.ref).toArray }).get? h'.objs.size = some (seqObj "list" (as.map Value.ref).toArray 0) := Heap.get?_push_size _ rfl
  have kp : ∀ b ob, h'.get? b = some ob → (h'.push { cls := .type "list", data := .seq (as.map Value.ref).toArray }).get? b = some ob := fun b ob e => Heap.get?_push_of_some _ e
  have alikeZ : ∀ z ∈ zs, PySem.W.alike (entPy z) (entPy z) = true := fun z hz => by
    have : entPy z ∈ (ps.map pairD).map D.py := by rw [← pys0]; exact List.mem_map.mpr ⟨z, hz, rfl⟩
    exact hal _ this _ this
  have ebl : PySem.W.EachIs (fun v z => ∃ xs, Reads (h'.push { cls := .type "list", data := .seq (as.map Value.ref).toArray }) v (entPy z) xs ∧ h'.objs.size ∉ xs) (as.map Value.ref) zs :=
    (PySem.W.each_mem eb).mono fun v z ⟨⟨xs, r⟩, hz⟩ => ⟨xs, PyProof.Rows.Reads.keeps kp r, fun hin => by
      obtain ⟨ob, e1⟩ := reads_there _ _ _ (alikeZ z hz) r _ hin
      exact absurd (Heap.lt_size e1) (Nat.lt_irrefl _)⟩
  generalize h'.push { cls := .type "list", data := .seq (as.map Value.ref).toArray } = h2 at hob kp ebl ⊢
  refine PySem.W.list_sort_data (enc := entPy) (R := fun u (z : Ent) => u = Value.ref z.1) (vs := as.map Value.ref) hob ea ebl (by rw [pys0]; exact hal) (.inl fun x hx => by
    obtain ⟨z, _, rfl⟩ := List.mem_map.mp hx
    exact ⟨_, _, rfl⟩) (by rw [zsl]; exact Nat.le_trans hl (by decide)) (fun z hz => by
      obtain ⟨j, _, _, j3⟩ := zat z hz
      have := hdp _ (List.mem_of_getElem? j3)
      show X.A.units + 1 + 1 + (entPy z).depth < cLine
      have : (entPy z).depth ≤ 50 := this
      omega) fun out lo eo => ?_
  obtain ⟨eF, heF⟩ := PyProof.Rows.sortedHeap_at (vs := as.map Value.ref) (out := List.toArray out) hob
  have kF : ∀ b ob, b ≠ h'.objs.size → h'.get? b = some ob → (sortedHeap h2 h'.objs.size (as.map Value.ref) (List.toArray out)).get? b = some ob := fun b ob hb e => (PyProof.Rows.sortedHeap_old hb (Heap.lt_size (kp _ _ e))).trans (kp _ _ e)
  have J3 : Inv X pins σ H2 { s1 with heap := sortedHeap h2 h'.objs.size (as.map Value.ref) (List.toArray out), toks := tk } := J2.kept (t' := tk) fun b ob e => kF b ob (Nat.ne_of_lt (Heap.lt_size e)) e
  have hn2 : H2 h'.objs.size = none := J2.hok.fresh (Nat.le_refl _)
  have hn1 : H1 h'.objs.size = none := same_none same2 hn2
  let ms := zs.mergeSort (PySem.W.dataLe false entPy)
  have pm : ms.Perm zs := List.mergeSort_perm _ _
  have hlen : (ms.map fun z => V.ref z.1).length ≤ sizeLine := by rw [List.length_map, pm.length_eq, zsl]; exact Nat.le_trans hl (by decide)
  have J4 : Inv X pins σ (upd H2 h'.objs.size (.lst (ms.map fun z => V.ref z.1))) { s1 with heap := sortedHeap h2 h'.objs.size (as.map Value.ref) (List.toArray out), toks := tk } :=
    J3.take (h' := sortedHeap h2 h'.objs.size (as.map Value.ref) (List.toArray out)) (t' := tk) (fun _ _ _ e => e) (I1.fpOk (Nat.le_of_lt sz) hn2) ⟨hlen, out, eF, each_refs eo, heF⟩
  refine ⟨.ref h'.objs.size, _, J4, rfl, q _ h'.objs.size ms (same2.trans (same_new hn2)) hn1 upd_same (fun z hz => ?_) ?_⟩
  · obtain ⟨k1, k2⟩ := zsAt z (pm.mem_iff.mp hz)
    exact ⟨k1, by rw [upd_ne (ne_of_none k2 hn2)]; exact k2⟩
  · rw [← zs2]
    exact pm.map _
end
/-- what sorted(d.items()) tells: the entries in some order -/
theorem evp_sortI {K : PySem.W.Frag} {σ : L2.St} {G : Hp} {te : TE} {a : Addr} {kvs : List (Str × D)} {H : Hp} {Q : VK} (e : Same G H) (m : MuD K G H a kvs) (h : ∀ Q : VK, Q (.ref a) H → te σ H Q) (hf : flats (kvs.map pairD) = true) (hal : PySem.W.AllAlike ((kvs.map pairD).map D.py)) (hl : kvs.length ≤ 1000) (hd : ∀ p ∈ kvs, (pairD p).py.depth ≤ 50)
    (q : ∀ v G1 H1 qs, Gr G H G1 H1 → List.Perm qs kvs → Dq K G1 v (.lst (qs.map pairD)) → Q v H1) : tSortI K te σ H Q := by
  refine h _ ?_
  obtain ⟨ws, k1, k2, k3⟩ := m.ex
  refine ⟨a, ws, kvs, rfl, .inl k1, k3.k, k3.v.up e, hf, hal, hl, hd, fun H' l zs same hl0 hl1 hzs pm => ?_⟩
  have sub : ∀ b, H b = none → less H G H' b = H' b := fun b hb => by unfold less; rw [hb]
  have g : Gr G H (less H G H') H' := by
    refine ⟨fun b o z => ?_, same, fun b o z => ?_, fun b o z => ?_⟩
    · unfold less; rw [e b o z]; exact z
    · unfold less at z
      cases c : H b with
      | none => rw [c] at z; exact z
      | some u => rw [c] at z; exact same _ _ (e b o z)
    · unfold less at z
      cases c : H b with
      | none => exact .inr rfl
      | some u => rw [c] at z; exact .inl z
  refine q _ (less H G H') H' (zs.map fun z => z.2.2) g ?_ (.lst (.inl (by rw [sub l hl0]; exact hl1)) ?_)
  · have := pm.map (fun p : (Key × V) × (Str × D) => p.2)
    rw [List.map_map] at this
    refine this.trans ?_
    rw [show (ws.zip kvs).map (fun p => p.2) = kvs from List.map_snd_zip (by have := congrArg List.length k3.k; simp at this; omega)]
  · have inz : ∀ z ∈ zs, z.2.1.1 = Sum.inr z.2.2.1 ∧ Dq K G z.2.1.2 z.2.2.2 := fun z hz => by
      have hm : z.2 ∈ ws.zip kvs := pm.mem_iff.mp (List.mem_map.mpr ⟨z, hz, rfl⟩)
      obtain ⟨j, hj⟩ := List.mem_iff_getElem?.mp hm
      obtain ⟨h3, h4⟩ := List.getElem?_zip_eq_some.mp hj
      constructor
      · have h1 : (ws.map (·.1))[j]? = some z.2.1.1 := by rw [List.getElem?_map, h3]; rfl
        rw [k3.k, List.getElem?_map, h4] at h1
        exact (Option.some.inj h1).symm
      · obtain ⟨d', d1, d2⟩ := k3.v.at (i := j) (show (ws.map (·.2))[j]? = some z.2.1.2 by rw [List.getElem?_map, h3]; rfl)
        rw [List.getElem?_map, h4] at d1
        cases d1
        exact d2
    clear pm hl1
    induction zs with
    | nil => exact .nil
    | cons z zs ih =>
      obtain ⟨h1, h2⟩ := hzs z (by simp)
      obtain ⟨h3, h4⟩ := inz z (by simp)
      refine .cons (.tup (.inl (by rw [sub _ h1]; exact h2)) (.cons ?_ (.cons (h4.up g.g) .nil))) (ih (fun y hy => hzs y (List.mem_cons_of_mem _ hy)) fun y hy => inz y (List.mem_cons_of_mem _ hy))
      rw [h3]
      exact .str _
end Pk
/-! Drawn books. -/
namespace T47
open PySem PySem.Spec PyProof.Rows L2 Pk
/-- a drawn book -/
structure Drawn (b : Kept) (ls : List Str) : Prop where
  law : LawB b
  tight : Tight b
  simple : simpleB b
  ne : b ≠ []
  nm : ∀ n ∈ b.map (·.1), n ∈ namesL
  lt : ∀ p ∈ b, ∀ r ∈ p.2, r.1 ∈ ls
  der : ∀ n ∈ b.map (·.1), ∃ v, DerN b n v ∧ v ≤ 9
structure OkR (ns ls : List Str) (rs : List Rule) : Prop where
  ne : rs ≠ []
  few : rs.length ≤ 4
  nd : (rs.map (·.1)).Nodup
  lt : ∀ r ∈ rs, r.1 ∈ ls
  row : ∀ r ∈ rs, r.2.length ≤ 3 ∧ ∀ o ∈ r.2, o ∈ ns
theorem OkR.perm {ns ls : List Str} {rs rs' : List Rule} (h : OkR ns ls rs) (p : rs'.Perm rs) : OkR ns ls rs' :=
  ⟨fun z => h.ne (by rw [z] at p; exact p.symm.eq_nil), by rw [p.length_eq]; exact h.few, (p.map (·.1)).nodup_iff.mpr h.nd, fun r hr => h.lt r (p.mem_iff.mp hr), fun r hr => h.row r (p.mem_iff.mp hr)⟩
theorem OkR.more {ns ns' ls : List Str} {rs : List Rule} (h : OkR ns ls rs) (e : ∀ n ∈ ns, n ∈ ns') : OkR ns' ls rs := ⟨h.ne, h.few, h.nd, h.lt, fun r hr => ⟨(h.row r hr).1, fun o ho => e o ((h.row r hr).2 o ho)⟩⟩
theorem DerN.mono {b b' : Kept} (e : ∀ p ∈ b, p ∈ b') {n : Str} {v : Nat} (d : DerN b n v) : DerN b' n v := by
  induction d with
  | mk f h1 h2 _ ih => exact .mk f (e _ h1) h2 ih
theorem DerN.ends {b : Kept} {n : Str} {v : Nat} (d : DerN b n v) : Ends b n := by
  induction d with
  | mk f h1 h2 _ ih => exact .mk h1 h2 ih
/-- the first k names of ns have their rules; F: how high they are -/
structure Gb (ns ls : List Str) (k : Nat) (b : Kept) (F : FN) : Prop where
  nm : b.map (·.1) = ns.take k
  fn : F.map (·.1) = ns.take k
  ok : ∀ p ∈ b, OkR ns ls p.2
  der : ∀ p ∈ b, ∃ v r, lookN F p.1 = some v ∧ v ≤ 9 ∧ DerN b p.1 v ∧ r ∈ p.2 ∧ p.1 ∉ r.2 ∧ v = 1 + sumOf F r.2 ∧ ∀ o ∈ r.2, o ∈ ns.take k
theorem gb_start (ns ls : List Str) : Gb ns ls 0 [] [] := ⟨rfl, rfl, (fun _ h => nomatch h), (fun _ h => nomatch h)⟩
theorem lookN_some {F : FN} {x : Str} (h : x ∈ F.map (·.1)) : ∃ v, lookN F x = some v := by
  induction F with
  | nil => cases h
  | cons p F ih =>
    rw [lookN_cons]
    by_cases e : p.1 = x
    · exact ⟨p.2, if_pos e⟩
    · rw [if_neg e]
      rcases List.mem_cons.mp h with z | h
      · exact absurd z.symm e
      · exact ih h
theorem lookN_none {F : FN} {x : Str} (h : x ∉ F.map (·.1)) : lookN F x = none := by
  induction F with
  | nil => rfl
  | cons p F ih =>
    rw [lookN_cons, if_neg fun e => h (by rw [← e]; simp)]
    exact ih fun z => h (by simp [z])
theorem lookN_snoc {F : FN} {n x : Str} {v : Nat} (hn : n ∉ F.map (·.1)) : lookN (F ++ [(n, v)]) x = if x = n then some v else lookN F x := by
  induction F with
  | nil =>
    show lookN [(n, v)] x = _
    rw [lookN_cons]
    by_cases e : n = x
    · rw [if_pos e, if_pos e.symm]
    · rw [if_neg e, if_neg fun z => e z.symm]
  | cons p F ih =>
    show lookN (p :: (F ++ [(n, v)])) x = _
    rw [lookN_cons, lookN_cons, ih fun z => hn (by simp [z])]
    by_cases e : p.1 = x
    · rw [if_pos e, if_pos e, if_neg fun z => hn (by rw [← z, ← e]; simp)]
    · rw [if_neg e, if_neg e]
theorem sumOf_snoc {F : FN} {n : Str} {v : Nat} {row : List Str} (hn : n ∉ F.map (·.1)) (hr : n ∉ row) : sumOf (F ++ [(n, v)]) row = sumOf F row := by
  unfold sumOf
  congr 1
  refine List.map_congr_left fun o ho => ?_
  rw [lookN_snoc hn, if_neg fun z => hr (by rw [← z]; exact ho)]
theorem not_take {ns : List Str} (hnd : ns.Nodup) {k : Nat} {n : Str} (hk : ns[k]? = some n) : n ∉ ns.take k := fun hm => by
  have : (ns.take (k + 1)).Nodup := (List.take_sublist _ _).nodup hnd
  rw [take_next hk, List.nodup_append] at this
  exact this.2.2 n hm n (by simp) rfl
theorem gb_next {ns ls : List Str} {k : Nat} {b : Kept} {F : FN} {n x : Str} {rs : List Rule} {low : List Str} (h : Gb ns ls k b F) (hnd : ns.Nodup) (hk : ns[k]? = some n) (ho : OkR ns ls rs) (hm : (x, low) ∈ rs) (hl : ∀ o ∈ low, o ∈ ns.take k) (hs : sumOf F low < 9) :
    Gb ns ls (k + 1) (b ++ [(n, rs)]) (F ++ [(n, 1 + sumOf F low)]) := by
  have hnt := not_take hnd hk
  have hnF : n ∉ F.map (·.1) := by rw [h.fn]; exact hnt
  have sub : ∀ p ∈ b, p ∈ b ++ [(n, rs)] := fun p hp => List.mem_append_left _ hp
  refine ⟨by rw [List.map_append, h.nm, take_next hk]; rfl, by rw [List.map_append, h.fn, take_next hk]; rfl, fun p hp => ?_, fun p hp => ?_⟩
  · rcases List.mem_append.mp hp with hp | hp
    · exact h.ok p hp
    · rw [List.mem_singleton.mp hp]; exact ho
  · rcases List.mem_append.mp hp with hp | hp
    · obtain ⟨v, r, h1, h2, h3, h4, h5, h6, h7⟩ := h.der p hp
      have hpn : p.1 ≠ n := fun z => hnt (by rw [← z, ← h.nm]; exact List.mem_map.mpr ⟨p, hp, rfl⟩)
      refine ⟨v, r, by rw [lookN_snoc hnF, if_neg hpn]; exact h1, h2, h3.mono sub, h4, h5, by rw [sumOf_snoc hnF fun z => hnt (h7 n z)]; exact h6, fun o hor => ?_⟩
      rw [take_next hk]
      exact List.mem_append_left _ (h7 o hor)
    · rw [List.mem_singleton.mp hp]
      refine ⟨1 + sumOf F low, (x, low), by rw [lookN_snoc hnF, if_pos rfl], by omega, ?_, hm, fun z => hnt (hl n z), by rw [sumOf_snoc hnF fun z => hnt (hl n z)], fun o hor => ?_⟩
      · refine DerN.mk (r := (x, low)) (fun o => (lookN F o).getD 0) (List.mem_append_right _ (by simp)) hm fun o hol => ?_
        have hob : o ∈ b.map (·.1) := by rw [h.nm]; exact hl o hol
        obtain ⟨p, hp, rfl⟩ := List.mem_map.mp hob
        obtain ⟨v, r, h1, _, h3, _⟩ := h.der p hp
        show DerN _ p.1 ((lookN F p.1).getD 0)
        rw [h1]
        exact h3.mono sub
      · rw [take_next hk]
        exact List.mem_append_left _ (hl o hor)
theorem putD_snoc {kvs : List (Str × D)} {n : Str} {d : D} (h : n ∉ kvs.map (·.1)) : putD kvs n d = kvs ++ [(n, d)] := by
  unfold putD
  rw [if_neg]
  intro z
  obtain ⟨p, hp, e⟩ := List.any_eq_true.mp z
  exact h (List.mem_map.mpr ⟨p, hp, of_decide_eq_true e⟩)
theorem lawD_snoc {b : Kept} {n : Str} {rs : List Rule} (h : n ∉ b.map (·.1)) : putD (lawD b) n (.lst (rs.map lawRule)) = lawD (b ++ [(n, rs)]) := by
  rw [putD_snoc (by rw [lawD_names]; exact h)]
  unfold lawD
  rw [List.map_append]
  rfl
theorem fD_names (F : FN) : (fD F).map (·.1) = F.map (·.1) := by
  unfold fD
  rw [List.map_map]
  rfl
theorem fD_snoc {F : FN} {n : Str} {v : Nat} (h : n ∉ F.map (·.1)) : putD (fD F) n (.int (v : Nat)) = fD (F ++ [(n, v)]) := by
  rw [putD_snoc (by rw [fD_names]; exact h)]
  unfold fD
  rw [List.map_append]
  rfl
/-- talks more, each like another one -/
structure Gc (ns ls : List Str) (b0 : Kept) (us : List Str) (b : Kept) : Prop where
  nm : b.map (·.1) = ns ++ us
  sub : ∀ p ∈ b0, p ∈ b
  ok : ∀ p ∈ b, OkR (ns ++ us) ls p.2
  der : ∀ n ∈ ns ++ us, ∃ v, DerN b n v ∧ v ≤ 9
theorem gc_start {ns ls : List Str} {b : Kept} {F : FN} (h : Gb ns ls ns.length b F) : Gc ns ls b [] b := by
  have e := h.nm
  rw [List.take_length] at e
  refine ⟨by rw [List.append_nil]; exact e, fun _ hp => hp, fun p hp => by rw [List.append_nil]; exact h.ok p hp, fun n hn => ?_⟩
  rw [List.append_nil, ← e] at hn
  obtain ⟨p, hp, rfl⟩ := List.mem_map.mp hn
  obtain ⟨v, r, _, h2, h3, _⟩ := h.der p hp
  exact ⟨v, h3, h2⟩
/-- a row told again, one name otherwise at times -/
def asRow (one new : Str) (r r' : List Str) : Prop := All2 (fun o o' => o' = o ∨ (o = one ∧ o' = new)) r r'
def asRules (one new : Str) (rs rs' : List Rule) : Prop := All2 (fun r r' : Rule => r'.1 = r.1 ∧ asRow one new r.2 r'.2) rs rs'
theorem as_same {one new : Str} {r r' : List Str} (h : asRow one new r r') (hn : one ∉ r) : r' = r := by
  induction h with
  | nil => rfl
  | @cons o o' r r' h _ ih =>
    rcases h with h | ⟨h, _⟩
    · rw [h, ih fun z => hn (by simp [z])]
    · exact absurd (by rw [h]; simp) hn
theorem as_row {one new : Str} {r r' : List Str} (h : asRow one new r r') : r'.length = r.length ∧ ∀ o ∈ r', o ∈ r ∨ o = new := by
  induction h with
  | nil => exact ⟨rfl, fun _ h => nomatch h⟩
  | @cons o o' r r' h _ ih =>
    refine ⟨by rw [List.length_cons, List.length_cons, ih.1], fun z hz => ?_⟩
    rcases List.mem_cons.mp hz with e | hz
    · rcases h with h | ⟨_, h⟩
      · left; rw [e, h]; simp
      · right; rw [e, h]
    · rcases ih.2 z hz with h | h
      · left; simp [h]
      · right; exact h
theorem as_rules {one new : Str} {rs rs' : List Rule} (h : asRules one new rs rs') : rs'.map (·.1) = rs.map (·.1) ∧ (∀ r ∈ rs, ∃ r' ∈ rs', r'.1 = r.1 ∧ asRow one new r.2 r'.2) ∧ ∀ r' ∈ rs', ∃ r ∈ rs, r'.1 = r.1 ∧ asRow one new r.2 r'.2 := by
  induction h with
  | nil => exact ⟨rfl, (fun _ h => nomatch h), (fun _ h => nomatch h)⟩
  | @cons r r' rs rs' h _ ih =>
    refine ⟨by rw [List.map_cons, List.map_cons, ih.1, h.1], fun z hz => ?_, fun z hz => ?_⟩
    · rcases List.mem_cons.mp hz with e | hz
      · exact ⟨r', by simp, by rw [e]; exact h⟩
      · obtain ⟨y, h1, h2⟩ := ih.2.1 z hz
        exact ⟨y, by simp [h1], h2⟩
    · rcases List.mem_cons.mp hz with e | hz
      · exact ⟨r, by simp, by rw [e]; exact h⟩
      · obtain ⟨y, h1, h2⟩ := ih.2.2 z hz
        exact ⟨y, by simp [h1], h2⟩
theorem gc_next {ns ls us : List Str} {b0 b : Kept} {F : FN} {one new : Str} {rs0 rs : List Rule} (h0 : Gb ns ls ns.length b0 F) (h : Gc ns ls b0 us b) (hnd : ns.Nodup) (h1 : (one, rs0) ∈ b0) (hs : asRules one new rs0 rs) :
    Gc ns ls b0 (us ++ [new]) (b ++ [(new, rs)]) := by
  have sub : ∀ p ∈ b, p ∈ b ++ [(new, rs)] := fun p hp => List.mem_append_left _ hp
  have e0 := h0.nm
  rw [List.take_length] at e0
  obtain ⟨k1, k2, k3⟩ := as_rules hs
  have ok0 := h0.ok _ h1
  refine ⟨by rw [List.map_append, h.nm, List.append_assoc]; rfl, fun p hp => sub p (h.sub p hp), fun p hp => ?_, fun n hn => ?_⟩
  · rcases List.mem_append.mp hp with hp | hp
    · exact (h.ok p hp).more fun n hn => by rw [← List.append_assoc]; exact List.mem_append_left _ hn
    · rw [List.mem_singleton.mp hp]
      have hl : rs.length = rs0.length := by have := congrArg List.length k1; simpa using this
      refine ⟨fun z => ok0.ne (List.length_eq_zero_iff.mp (by have z : rs = [] := z; rw [← hl, z]; rfl)), by rw [hl]; exact ok0.few, by rw [k1]; exact ok0.nd, fun r hr => ?_, fun r hr => ?_⟩
      · obtain ⟨r0, m0, e1, _⟩ := k3 r hr
        rw [e1]
        exact ok0.lt r0 m0
      · obtain ⟨r0, m0, _, e2⟩ := k3 r hr
        obtain ⟨a1, a2⟩ := as_row e2
        refine ⟨by rw [a1]; exact (ok0.row r0 m0).1, fun o ho => ?_⟩
        rcases a2 o ho with z | z
        · exact List.mem_append_left _ ((ok0.row r0 m0).2 o z)
        · rw [z]; simp
  · rw [← List.append_assoc] at hn
    rcases List.mem_append.mp hn with hn | hn
    · obtain ⟨v, d1, d2⟩ := h.der n hn
      exact ⟨v, d1.mono sub, d2⟩
    · rw [List.mem_singleton.mp hn]
      obtain ⟨v, r, g1, g2, g3, g4, g5, g6, g7⟩ := h0.der _ h1
      obtain ⟨r', m', e1, e2⟩ := k2 r g4
      have er := as_same e2 g5
      refine ⟨v, ?_, g2⟩
      rw [g6]
      have := DerN.mk (b := b ++ [(new, rs)]) (n := new) (rs := rs) (r := r') (fun o => (lookN F o).getD 0) (List.mem_append_right _ (by simp)) m' fun o ho => by
        rw [er] at ho
        have hob : o ∈ b0.map (·.1) := by rw [e0]; have := g7 o ho; rwa [List.take_length] at this
        obtain ⟨p, hp, rfl⟩ := List.mem_map.mp hob
        obtain ⟨v', _, q1, _, q3, _⟩ := h0.der p hp
        show DerN _ p.1 ((lookN F p.1).getD 0)
        rw [q1]
        exact (q3.mono h.sub).mono sub
      rw [er] at this
      exact this
theorem namesL_ok : ∀ n ∈ namesL, isName n = true ∧ PyData.strOk n = true ∧ n.length ≤ 20 := by decide +kernel
theorem lettersL_ok : ∀ x ∈ lettersL, isLetter x = true ∧ PyData.strOk x = true ∧ x.length ≤ 20 ∧ x ≠ "late" := by decide +kernel
/-- the book, its talks in any order -/
theorem gc_drawn {ns ls us : List Str} {b0 b b' : Kept} (h : Gc ns ls b0 us b) (hp : b'.Perm b) (hnd : (ns ++ us).Nodup) (hne : ns ≠ []) (hl : (ns ++ us).length ≤ 12) (hn : ∀ n ∈ ns ++ us, n ∈ namesL) (hls : ∀ x ∈ ls, x ∈ lettersL) : Drawn b' ls := by
  have nmp : (b'.map (·.1)).Perm (ns ++ us) := by rw [← h.nm]; exact hp.map _
  have mem : ∀ {p}, p ∈ b' → p ∈ b := fun hm => hp.mem_iff.mp hm
  have ok : ∀ p ∈ b', OkR (ns ++ us) ls p.2 := fun p hm => h.ok p (mem hm)
  have inN : ∀ n ∈ b'.map (·.1), n ∈ ns ++ us := fun n hm => nmp.mem_iff.mp hm
  have der : ∀ n ∈ b'.map (·.1), ∃ v, DerN b' n v ∧ v ≤ 9 := fun n hm => by
    obtain ⟨v, d1, d2⟩ := h.der n (inN n hm)
    exact ⟨v, d1.mono fun p hm => hp.mem_iff.mpr hm, d2⟩
  have blen : b'.length ≤ 12 := by have := nmp.length_eq; rw [List.length_map] at this; omega
  refine ⟨⟨⟨⟨by omega, fun p hm => ⟨by have := (ok p hm).few; omega, fun r hr => by have := ((ok p hm).row r hr).1; omega⟩⟩, fun n hm => (namesL_ok n (hn n (inN n hm))).1, fun p hm => by have := (ok p hm).few; omega, fun p hm r hr => by have := ((ok p hm).row r hr).1; omega, fun p hm r hr o ho => nmp.mem_iff.mpr (((ok p hm).row r hr).2 o ho)⟩, nmp.nodup_iff.mpr hnd, fun p hm => (ok p hm).ne, fun p hm r hr => ?_, fun p hm => ?_, fun n hm => ?_⟩, ⟨fun p hm r hr => ((ok p hm).row r hr).1, fun p hm => by have := (ok p hm).few; omega⟩, fun p hm => decide_eq_true (ok p hm).nd, fun z => ?_, fun n hm => hn n (inN n hm), fun p hm r hr => (ok p hm).lt r hr, der⟩
  · have := lettersL_ok r.1 (hls _ ((ok p hm).lt r hr))
    exact ⟨this.1, by have := this.2.2.1; omega⟩
  · have := (ok p hm).nd
    exact List.Pairwise.of_map (fun r : Rule => r.1) (fun a b hh z => hh (by rw [z])) this
  · obtain ⟨v, d1, _⟩ := der n hm
    exact d1.ends
  · rw [z] at nmp
    have := nmp.nil_eq
    cases ns with
    | nil => exact hne rfl
    | cons a l => cases this
theorem alike_lawRs : ∀ rs rs' : List Rule, PySem.W.alikeAll (pys (rs.map lawRule)) (pys (rs'.map lawRule)) = true
  | [], _ => by simp [pys, PySem.W.alikeAll]
  | _ :: _, [] => by simp [pys, PySem.W.alikeAll]
  | r :: rs, r' :: rs' => by
    show PySem.W.alikeAll ((lawRule r).py :: pys (rs.map lawRule)) ((lawRule r').py :: pys (rs'.map lawRule)) = true
    rw [PySem.W.alikeAll, alikeL, alike_lawRs rs rs']
    rfl
theorem depth_lawRs : ∀ rs : List Rule, PyData.depthAll (pys (rs.map lawRule)) ≤ 3
  | [] => by simp [pys, PyData.depthAll]
  | r :: rs => by
    have h1 : (lawRule r).py.depth ≤ 3 := by
      show (PyData.tuple [.str r.1, .list (pys (r.2.map D.str))]).depth ≤ 3
      simp [PyData.depth, PyData.depthAll, depth_strs]
    show PyData.depthAll ((lawRule r).py :: pys (rs.map lawRule)) ≤ 3
    rw [PyData.depthAll]
    have := depth_lawRs rs
    omega
theorem law_flats (b : Kept) : flats ((lawD b).map Pk.pairD) = true := by
  induction b with
  | nil => rfl
  | cons p b ih =>
    show ((true && (flats (p.2.map lawRule) && true)) && flats ((lawD b).map Pk.pairD)) = true
    rw [ih, flatsL]
    rfl
theorem law_alike (b : Kept) : PySem.W.AllAlike (((lawD b).map Pk.pairD).map D.py) := by
  have e : ((lawD b).map Pk.pairD).map D.py = b.map fun p => PyData.tuple [.str p.1, .list (pys (p.2.map lawRule))] := by
    unfold lawD
    rw [List.map_map, List.map_map]
    rfl
  rw [e]
  refine PySem.W.AllAlike.of fun p q => ?_
  simp only [PySem.W.alike, PySem.W.alikeAll, alike_lawRs, Bool.and_true, Bool.and_self]
theorem law_depth (b : Kept) : ∀ p ∈ lawD b, (Pk.pairD p).py.depth ≤ 50 := fun p hp => by
  obtain ⟨q, _, rfl⟩ := List.mem_map.mp hp
  have := depth_lawRs q.2
  show (PyData.tuple [.str q.1, .list (pys (q.2.map lawRule))]).depth ≤ 50
  simp only [PyData.depth, PyData.depthAll]
  omega
theorem law_perm {qs : List (Str × D)} {b : Kept} (h : qs.Perm (lawD b)) : ∃ b' : Kept, qs = lawD b' ∧ b'.Perm b := by
  obtain ⟨zs, h1, h2⟩ := perm_map (fun p : Str × List Rule => (p.1, D.lst (p.2.map lawRule))) h b rfl
  exact ⟨zs, h1, h2⟩
end T47
/-! Draws beside what may change. -/
namespace Pk
open PySem PySem.Spec PyProof.Rows L2 T47
section
variable {K : PySem.W.Frag} {S : Sm} {σ : L2.St} {G G1 H H1 : Hp} {te ta tb tl : TE} {tt uu : L2.TT} {d : D} {ds : List D} {p p' : D → Prop} {n m L L' : Nat} {D0 : L2.Ends} {u : TS} {a : Addr} {o : HO}
theorem EvS.le (h : EvS K S te σ G n p) (e : n ≤ m) : EvS K S te σ G m p := fun L H w hl Q q => h L H w (by omega) Q fun v d G' H' g hd hv => q v d G' H' (g.more (by omega)) hd hv
/-- c + e -/
theorem evs_plus {c : Nat} {pk : Nat → Prop} (h : EvS K S te σ G n (fun d => ∃ k : Nat, d = .int (k : Nat) ∧ pk k)) : EvS K S (tOp (rI0 fun i j => .int (i + j)) (tC (.int (c : Nat))) te) σ G n (fun d => ∃ k : Nat, d = .int (k : Nat) ∧ ∃ j, k = c + j ∧ pk j) := fun L H w hl Q q =>
  h L H w hl _ fun v d G1 H1 g1 ⟨k, hd, hk⟩ hv => by
    subst hd
    cases hv
    exact ⟨_, _, rfl, rfl, q _ (.int ((c + k : Nat) : Int)) G1 H1 g1 ⟨c + k, rfl, k, rfl, hk⟩ (dq_int (by omega))⟩
theorem gs_cut (hG : G a = none) (hH : H a = some o) (n1 : a ≠ S.s) (n2 : a ≠ S.c) (g : Gs S L L' (upd G a o) H G1 H1) : Gs S L L' G H (cutH G1 a) H1 ∧ G1 a = some o ∧ H1 a = some o := by
  have e1 : G1 a = some o := g.g _ _ upd_same
  refine ⟨⟨fun b u e => ?_, ⟨fun b u e => ?_, by rw [cutH_ne n1.symm]; exact g.w.gs, by rw [cutH_ne n2.symm]; exact g.w.gc, g.w.st⟩, g.h, fun b u e => ?_, g.kp⟩, e1, g.h _ _ n1 n2 hH⟩
  · have hb : b ≠ a := fun z => by rw [z, hG] at e; cases e
    rw [cutH_ne hb]
    exact g.g _ _ (by rw [upd_ne hb]; exact e)
  · by_cases hb : b = a
    · rw [hb, cutH_same] at e; cases e
    · rw [cutH_ne hb] at e
      exact g.w.g _ _ e
  · by_cases hb : b = a
    · rw [hb, cutH_same] at e; cases e
    · rw [cutH_ne hb] at e
      rcases g.nw b u e with q | q
      · rw [upd_ne hb] at q
        exact .inl q
      · exact .inr q
/-- te evaluated, draws too, while the thing at a is read as it stands -/
theorem mu_evs {Q : VK} (hG : G a = none) (hH : H a = some o) (n1 : a ≠ S.s) (n2 : a ≠ S.c) (w : Wl S G L H) (hl : L + n ≤ Lmax) (h : EvS K S te σ (upd G a o) n p) (hd : ∀ d, p d → Hides K a o d)
    (q : ∀ v d G1 H1, Gs S L (L + n) G H G1 H1 → p d → Dq K G1 v d → H1 a = some o → G1 a = none → Q v H1) : te σ H Q :=
  h L H ⟨same_mut w.g hH, by rw [upd_ne n1.symm]; exact w.gs, by rw [upd_ne n2.symm]; exact w.gc, w.st⟩ hl Q fun v d G1 H1 g1 hp hv => by
    obtain ⟨g2, e1, e2⟩ := gs_cut hG hH n1 n2 g1
    exact q v d _ H1 g2 hp (hd d hp G1 v e1 hv) e2 cutH_same
/-- x.append(e), draws in e -/
theorem h_appS {i : Nat} (hi : σ[i]? = some (some (.ref a))) (m : MuL K G H a ds) (n1 : a ≠ S.s) (n2 : a ≠ S.c) (w : Wl S G L H) (hL : L + n ≤ Lmax) (h : EvS K S te σ G n p) (hl : ds.length ≤ 100000)
    (k : ∀ d G1 H1 o, p d → Gs S L (L + n) G H G1 H1 → MuL K G1 (upd H1 a o) a (ds ++ [d]) → G1 a = none → D0.nx σ (upd H1 a o)) : tDrop (tBM K "list" rAppend (tVar i) (tCons te tNil)) D0 σ H := by
  obtain ⟨vs, k1, k2, k3⟩ := m.ex
  refine ⟨.ref a, hi, .inl ⟨rfl, vs, seqL (.inl k1)⟩, h L H w hL _ fun v d G1 H1 g1 hp hv => ⟨a, vs, v, rfl, rfl, g1.h _ _ n1 n2 k1, ?_, ?_⟩⟩
  · rw [k3.length]
    exact Nat.lt_of_le_of_lt hl (by decide)
  · exact k d G1 H1 _ hp g1 ⟨_, upd_same, g1.apart k1 k2, (k3.up g1.g).snoc hv⟩ (g1.apart k1 k2)
theorem ebs_and {pa pb pc : Bool → Prop} (h : EvBS S tt σ G n pa) (h2 : ∀ G1, Same G G1 → pa true → EvBS S uu σ G1 m pb) (h3 : pa false → pc false) (h4 : ∀ b, pa true → pb b → pc b) : EvBS S (tAnd tt uu) σ G (n + m) pc := fun L H w hl Q q => h L H w (by omega) _ fun b G1 H1 g1 hb => by
  cases b with
  | true => exact iteT (h2 G1 g1.g hb (L + n) H1 g1.w (by omega) _ fun b2 G2 H2 g2 hb2 => q b2 G2 H2 (by have := g1.trans g2; rwa [Nat.add_assoc] at this) (h4 b2 hb hb2))
  | false => exact iteF (q false G1 H1 (g1.more (by omega)) (h3 hb))
/-- draw(..) == c -/
theorem ebs_eqN {c : Int} (h : EvS K S te σ G n (fun d => ∃ k : Nat, d = .int (k : Nat))) : EvBS S (tTest (tOp rEq te (tC (.int c)))) σ G n (fun _ => True) := fun L H w hl Q q => h L H w hl _ fun v d G1 H1 g1 ⟨k, hd⟩ hv => by
  subst hd
  cases hv
  exact ⟨rfl, _, rfl, q _ G1 H1 g1 True.intro⟩
/-- xs[1:e] -/
theorem evs_cut1 {xs : List Str} {N : Nat} (h : EvD K ta σ G (rowD xs)) (h2 : ∀ G1, Same G G1 → EvS K S tb σ G1 n (fun d => ∃ k : Nat, d = .int (k : Nat) ∧ k ≤ N + 1)) : EvS K S (tSl (rSlL K) ta (tPart (tC (.int 1))) (tPart tb)) σ G n (fun d => ∃ cs : List Str, d = rowD cs ∧ cs.Sublist xs.tail ∧ cs.length ≤ N) := fun L H w hl Q q =>
  h H w.g _ fun v G1 H1 g1 hv => by
    refine ⟨1, rfl, h2 G1 g1.g L H1 (Gs.of w g1).w hl _ fun v2 d2 G2 H2 g2 ⟨k, hd2, hk⟩ hv2 => ?_⟩
    subst hd2
    cases hv2
    refine ⟨_, rfl, ?_⟩
    have hv' := hv.up g2.g
    cases hv' with
    | @lst a us _ hr hs =>
      have := dqs_str hs
      subst this
      have g12 := (Gs.of w g1).trans g2
      refine ⟨a, _, rfl, seqL (Rd.up g2.w.g hr), fun p hp => ?_⟩
      have ec : cutV (xs.map V.str) (some (1 : Int)) (some (k : Int)) = ((xs.drop (min 1 xs.length)).take (min k xs.length - min 1 xs.length)).map V.str := by
        unfold cutV
        have e1 : HT.sIx (xs.map V.str).length 0 (some (1 : Int)) = min 1 xs.length := by rw [show (1 : Int) = ((1 : Nat) : Int) from rfl, HT.sIx_nat, List.length_map]
        have e2 : HT.sIx (xs.map V.str).length (xs.map V.str).length (some (k : Int)) = min k xs.length := by rw [HT.sIx_nat, List.length_map]
        rw [e1, e2, List.map_take, List.map_drop]
      rw [ec]
      have hp0 : H p = none := by
        cases e : H p with
        | none => rfl
        | some u =>
          obtain ⟨o', e'⟩ := g12.kp p u e
          rw [hp] at e'
          cases e'
      have g3 := gs_new w g12 (o := .lst (((xs.drop (min 1 xs.length)).take (min k xs.length - min 1 xs.length)).map V.str)) hp
      refine q (.ref p) (rowD ((xs.drop (min 1 xs.length)).take (min k xs.length - min 1 xs.length))) _ _ (gs_keep w g3 hp0 (same_none g2.w.g hp) upd_same) ⟨_, rfl, ?_, ?_⟩ (.lst (.inl upd_same) (dqs_of_str _))
      · refine (List.take_sublist _ _).trans ?_
        cases xs with
        | nil => exact List.Sublist.refl _
        | cons x xs =>
          have : min 1 (x :: xs).length = 1 := by rw [List.length_cons]; omega
          rw [this]
          exact List.Sublist.refl _
      · rw [List.length_take]
        omega
theorem evs_callW {f : List D → (D → Prop) → Prop} {pl : List D → Prop} {i : Nat} {E : XK} {as : TA} (h0 : σ[i]? = some (some (.ref S.s))) (h : EvAS K S as σ G n pl) (hf : ∀ ds, pl ds → ∃ p', f ds p' ∧ ∀ d, p' d → p d) : EvS K S (tCall (spS K m f) [] E (tCons (tVar i) as)) σ G (n + m) p := fun L H w hl Q q =>
  ⟨.ref S.s, h0, h L H w (by omega) _ fun vs ds G1 H1 g1 hds hvs => by
    obtain ⟨p', h1, h2⟩ := hf ds hds
    exact ⟨S, G1, L + n, vs, ds, p', by rw [List.append_nil], g1.w, by omega, hvs, h1, fun v d G' H' g hp hv => q v d G' H' (by have := g1.trans g; rwa [Nat.add_assoc] at this) (h2 d hp) hv⟩⟩
/-- what e tells, kept aside -/
def tK (v : V) : TE := fun _ H Q => Q v H
theorem ev_k {v : V} (h : Dq K G v d) : EvD K (tK v) σ G d := fun H e Q q => q v G H (Gr.refl e) h
theorem f_bind {g : TG} {ts : TS} (h : tl σ H fun v H1 => tSeq (tFor (iSeq K (tK v)) g ts) u D0 σ H1) : tSeq (tFor (iSeq K tl) g ts) u D0 σ H := h
theorem f_bind1 {g : TG} {ts : TS} (h : tl σ H fun v H1 => tFor (iSeq K (tK v)) g ts D0 σ H1) : tFor (iSeq K tl) g ts D0 σ H := h
theorem MuD.oth {b : Addr} {kvs : List (Str × D)} (m : MuD K G H a kvs) (ne : a ≠ b) : MuD K G (upd H b o) a kvs := by
  obtain ⟨ws, h1, h2, h3⟩ := m.ex
  exact ⟨ws, by rw [upd_ne ne]; exact h1, h2, h3⟩
theorem MuD.keepB {b : Addr} {kvs : List (Str × D)} (m : MuD K G H a kvs) (ne : a ≠ b) (hb : G b = none) : MuD K (upd G b o) H a kvs := by
  obtain ⟨ws, h1, h2, h3⟩ := m.ex
  exact ⟨ws, h1, by rw [upd_ne ne]; exact h2, h3.up (same_new hb)⟩
theorem MuL.oth {b : Addr} (m : MuL K G H a ds) (ne : a ≠ b) : MuL K G (upd H b o) a ds := by
  obtain ⟨ws, h1, h2, h3⟩ := m.ex
  exact ⟨ws, by rw [upd_ne ne]; exact h1, h2, h3⟩
theorem all2_right {q : Str → Prop} {xs ys : List D} (h : All2 (fun _ d => ∃ x, d = D.str x ∧ q x) xs ys) : ∃ os : List Str, ys = os.map D.str ∧ os.length = xs.length ∧ ∀ x ∈ os, q x := by
  induction h with
  | nil => exact ⟨[], rfl, rfl, (fun _ h => nomatch h)⟩
  | cons a _ ih =>
    obtain ⟨x, rfl, hx⟩ := a
    obtain ⟨os, rfl, h1, h2⟩ := ih
    exact ⟨x :: os, rfl, by rw [List.length_cons, List.length_cons, h1], fun y hy => by
      rcases List.mem_cons.mp hy with z | hy
      · rw [z]; exact hx
      · exact h2 y hy⟩
theorem h_retK {r : List V → Hp → VK → Prop} (h : te σ H fun v H1 => tRet (tFrz (tCB r (tCons (tK v) tNil))) D0 σ H1) : tRet (tFrz (tCB r (tCons te tNil))) D0 σ H := h
end
end Pk
/-! _law_g_book. -/
namespace T47
open PySem PySem.Spec PyProof.Rows L2 Pk
section
variable {P : Program} {w : World} {K : PySem.W.Frag} {mg : Str → Option Value} {base : Heap}
def costB : Nat := 10000
def sp_w_g_book (K : PySem.W.Frag) : Sp := spS K costB fun ds p => ∃ (most : Nat) (ls : List Str), ds = [.int (most : Nat), rowD ls] ∧ 0 < most ∧ most ≤ 10 ∧ ls.Nodup ∧ ls ≠ [] ∧ (∀ x ∈ ls, x ∈ lettersL) ∧ p = fun d => ∃ b, d = .dic (lawD b) ∧ Drawn b ls

/-- sum([high[one] for one in low]) -/
theorem ev_sumHigh {σ : L2.St} {G : Hp} {tl : TE} {a : Addr} {ws : List (Key × V)} {F : FN} {lows : List Str} (hl : EvD K tl σ G (rowD lows)) (ha : G a = some (.dK ws)) (hw : DicAt K G ws (fD F)) (h5 : ∀ u, ((wipe σ [13]).set 13 (some u))[5]? = some (some (.ref a))) (h13 : ∀ u, ((wipe σ [13]).set 13 (some u))[13]? = some (some u)) (h14 : ∀ u, wipe ((wipe σ [13]).set 13 (some u)) [13] = wipe σ [13])
    (hin : ∀ o ∈ lows, o ∈ F.map (·.1)) (hz : lows.length < 50000) : EvD K (tCB (rSum K) (tCons (tLc (iSeq K tl) (gName 13) tYes (tDGet (tVar 5) (tVar 13)) [13]) tNil)) σ G (.int (sumOf F lows : Nat)) := by
  refine (ev_sum (bs := lows.map fun o => (((lookN F o).getD 0 : Nat) : Int)) ((ev_lc1 (j := 13) hl (.lst _) (by rw [List.length_map]; exact hz) (nOf F) h14 fun di u G6 hdm e6 hu => ?_).is ?_)).is (by rw [sum_ints])
  · obtain ⟨o, ho, rfl⟩ := List.mem_map.mp hdm
    obtain ⟨z, hz⟩ := lookN_some (hin o ho)
    refine (ev_dgetM (d := .int (z : Nat)) (fun H _ Q q => ⟨_, h5 u, q⟩) (e6 _ _ ha) (hw.up e6) (ev_var (h13 u) hu) (by rw [lookD_fD, hz]; rfl)).is ?_
    show D.int _ = D.int _
    rw [hz]
    rfl
  · rw [List.map_map, List.map_map]
    rfl
theorem nodup_len {α : Type} [DecidableEq α] : ∀ {l m : List α}, l.Nodup → (∀ x ∈ l, x ∈ m) → l.length ≤ m.length
  | [], _, _, _ => Nat.zero_le _
  | x :: l, m, hn, h => by
    rw [List.nodup_cons] at hn
    have h1 := nodup_len (m := m.erase x) hn.2 fun y hy => (List.mem_erase_of_ne fun z => hn.1 (by rw [← z]; exact hy)).mpr (h y (by simp [hy]))
    rw [List.length_erase_of_mem (h x (by simp))] at h1
    have : 0 < m.length := List.length_pos_of_mem (h x (by simp))
    rw [List.length_cons]
    omega
theorem len_le {ns : List Str} (hnd : ns.Nodup) (h : ∀ n ∈ ns, n ∈ namesL) : ns.length ≤ 12 := nodup_len (m := namesL) hnd h
theorem evs_pickS {σ : L2.St} {G : Hp} {S : Sm} {te : TE} {i : Nat} {E : XK} {xs : List Str} (h0 : σ[i]? = some (some (.ref S.s))) (h : EvD K te σ G (rowD xs)) (hne : xs ≠ []) (hl : xs.length ≤ 1000) : EvS K S (tCall (sp_w_pick K) [] E (tCons (tVar i) (tCons te tNil))) σ G (0 + 1) (fun d => ∃ o, d = .str o ∧ o ∈ xs) :=
  (evs_call (K := K) (S := S) (n := 0) (m := 1) (f := fun ds p => ∃ x es, ds = [x] ∧ Lk x es ∧ es ≠ [] ∧ es.length < 1000000 ∧ p = fun d => d ∈ es) (p := fun d => d ∈ xs.map D.str) (pl := fun ds => ds = [rowD xs]) h0 ((ea_cons h ea_nil).toS rfl) fun ds hds => ⟨_, _, hds, .lst _, fun z => hne (List.map_eq_nil_iff.mp z), by rw [List.length_map]; omega, rfl⟩).imp fun d hd => by
    obtain ⟨o, h1, h2⟩ := List.mem_map.mp hd
    exact ⟨o, h2.symm, h1⟩
/-- [pick(names) for k in range(draw(4))] -/
theorem evs_rowL {σ : L2.St} {G : Hp} {S : Sm} {ns : List Str} {v3 : V} (h0 : σ[0]? = some (some (.ref S.s))) (h1 : ∀ u, ((wipe σ [15]).set 15 (some u))[0]? = some (some (.ref S.s))) (h3 : ∀ u, ((wipe σ [15]).set 15 (some u))[3]? = some (some v3)) (hw : ∀ u, wipe ((wipe σ [15]).set 15 (some u)) [15] = wipe σ [15]) (hv : Dq K G v3 (rowD ns)) (hne : ns ≠ []) (hl : ns.length ≤ 12) :
    EvS K S (tLc (iRng1 (tCons (tCall (sp_w_draw K) [] E0 (tCons (tVar 0) (tCons (tC (.int 4)) tNil))) tNil)) (gName 15) tYes (tCall (sp_w_pick K) [] E0 (tCons (tVar 0) (tCons (tVar 3) tNil))) [15]) σ G (0 + 1 + 3 * (0 + 1)) (fun d => ∃ row : List Str, d = rowD row ∧ row.length ≤ 3 ∧ ∀ o ∈ row, o ∈ ns) := by
  refine (evs_lc (K := K) (S := S) (j := 15) (B := 3) (n := 0 + 1) (m := 0 + 1) (ps := fun ds => ∃ k : Nat, ds = intsD k ∧ k ≤ 3) (srcs_range (p := fun d => ∃ k : Nat, d = .int (k : Nat) ∧ k < 4) (evs_draw (n := 0) (N := 4) (i := 0) h0 (ev_int.toS ⟨4, rfl, by decide, by decide⟩) (by decide)) fun d ⟨k, e1, e2⟩ => ⟨k, e1, by omega, k, rfl, by omega⟩) (fun ds ⟨k, e1, e2⟩ => ?_) (by decide) hw (fun _ d => ∃ o, d = .str o ∧ o ∈ ns) fun ds di u G17 _ hdm e17 hu => evs_pickS (xs := ns) (h1 u) (ev_var (h3 u) (hv.up e17)) hne (by omega)).imp ?_
  · rw [e1]
    unfold intsD
    rw [List.length_map, List.length_range]
    exact e2
  · rintro d ⟨ds, ys, ⟨k, e1, e2⟩, e3, e4⟩
    obtain ⟨os, rfl, q1, q2⟩ := all2_right e4
    refine ⟨os, e3, ?_, q2⟩
    rw [q1, e1]
    unfold intsD
    rw [List.length_map, List.length_range]
    exact e2
/-- (letter, row) -/
theorem evs_ruleP {σ : L2.St} {G : Hp} {S : Sm} {x : Str} {te : TE} {i n : Nat} (pr : List Str → Prop) (h11 : σ[i]? = some (some (.str x))) (hu : ∀ G1, Same G G1 → EvS K S te σ G1 n (fun d => ∃ row : List Str, d = rowD row ∧ pr row)) :
    EvS K S (tTup (tCons (tVar i) (tCons te tNil))) σ G (0 + (n + 0)) (fun d => ∃ r : Rule, d = lawRule r ∧ r.1 = x ∧ pr r.2) := by
  refine (evs_tup (pl := fun ds => ∃ r : Rule, ds = [.str r.1, rowD r.2] ∧ r.1 = x ∧ pr r.2) (eas_cons (p := fun d => d = .str x) (pr := fun ds => ∃ row : List Str, ds = [rowD row] ∧ pr row) ((ev_var h11 (.str x)).toS rfl) (fun d G1 e1 _ => eas_cons (p := fun d => ∃ row : List Str, d = rowD row ∧ pr row) (pr := fun ds => ds = []) (hu G1 e1) (fun _ _ _ _ => eas_nil) ?_) ?_) ?_).imp ?_
  · rintro d ds ⟨row, e1, e2⟩ e3
    exact ⟨row, by rw [e1, e3], e2⟩
  · rintro d ds e1 ⟨row, e2, e3⟩
    exact ⟨(x, row), by rw [e1, e2], rfl, e3⟩
  · rintro ds ⟨r, e1, _⟩
    rw [e1]
    show 2 ≤ 100000
    decide
  · rintro d ⟨ds, e1, r, e2, e3⟩
    exact ⟨r, by rw [e1, e2]; rfl, e3⟩
theorem evs_ruleL {σ : L2.St} {G : Hp} {S : Sm} {ns : List Str} {x : Str} {te : TE} {i n : Nat} (h11 : σ[i]? = some (some (.str x))) (hu : ∀ G1, Same G G1 → EvS K S te σ G1 n (fun d => ∃ row : List Str, d = rowD row ∧ row.length ≤ 3 ∧ ∀ o ∈ row, o ∈ ns)) :
    EvS K S (tTup (tCons (tVar i) (tCons te tNil))) σ G (0 + (n + 0)) (fun d => ∃ r : Rule, d = lawRule r ∧ r.1 = x ∧ r.2.length ≤ 3 ∧ ∀ o ∈ r.2, o ∈ ns) := evs_ruleP (fun row => row.length ≤ 3 ∧ ∀ o ∈ row, o ∈ ns) h11 hu
theorem noDic_law : ∀ rs : List Rule, noDics (rs.map lawRule) = true
  | [] => rfl
  | r :: rs => by
    show ((true && (noDics (r.2.map D.str) && true)) && noDics (rs.map lawRule)) = true
    rw [noDic_law rs, noDic_strs]
    rfl
/-- names that are not known yet -/
theorem evs_newNames {σ : L2.St} {G : Hp} {S : Sm} {a : Addr} {ws : List (Key × V)} {b : Kept} {te : TE} {n : Nat} (h : EvS K S te σ G n (fun d => ∃ ms : List Str, d = rowD ms ∧ ms.Nodup ∧ ∀ m ∈ ms, m ∈ namesL)) (ha : G a = some (.dK ws)) (hw : DicAt K G ws (lawD b)) (h4 : ∀ u, ((wipe σ [7]).set 7 (some u))[4]? = some (some (.ref a))) (h7 : ∀ u, ((wipe σ [7]).set 7 (some u))[7]? = some (some u)) (hwp : ∀ u, wipe ((wipe σ [7]).set 7 (some u)) [7] = wipe σ [7]) :
    EvS K S (tLc (iSeq K te) (gName 7) (tB (tDNotIn (tVar 7) (tVar 4))) (tVar 7) [7]) σ G n (fun d => ∃ ds : List D, d = .lst ds ∧ ∃ us : List Str, ds = us.map D.str ∧ us.Nodup ∧ ∀ u ∈ us, u ∈ namesL ∧ u ∉ b.map (·.1)) := fun L H w hl Q q =>
  h L H w hl _ fun v d G1 H1 g1 ⟨ms, hd, hnd, hin⟩ hv => by
    subst hd
    refine ev_lcS (K := K) (src_seq (ev_k hv) (.lst _)) (by rw [List.length_map]; have := len_le hnd hin; omega) (fun d => !(lookD (lawD b) (strOfD d)).isSome) (fun d => d) (fun di σ2 G2 => ∃ u, Dq K G2 u di ∧ σ2 = (wipe σ [7]).set 7 (some u)) (fun di _ => tg_name) (fun di σ2 G2 _ ⟨u, _, e⟩ => by rw [e]; exact hwp u) (fun di σ2 G2 hm e2 ⟨u, hu, e⟩ => ?_) (fun di σ2 G2 hm e2 ⟨u, hu, e⟩ _ => by rw [e]; exact ev_var (h7 u) hu) H1 g1.w.g _ fun v2 G2 H2 g2 hv2 => q v2 _ G2 H2 (g1.trans (Gs.of g1.w g2)) ⟨_, rfl, ms.filter (fun m => !(lookD (lawD b) m).isSome), ?_, hnd.filter _, fun u hu => ?_⟩ hv2
    · obtain ⟨m, _, rfl⟩ := List.mem_map.mp hm
      subst e
      exact eb_B (ev_dnotinM (fun H _ Q q => ⟨_, h4 u, q⟩) (e2 _ _ (g1.g _ _ ha)) (hw.up (g1.g.trans e2)) (ev_var (h7 u) hu))
    · rw [List.map_id', List.filter_map]
      rfl
    · obtain ⟨h1, h2⟩ := List.mem_filter.mp hu
      refine ⟨hin u h1, fun hb => ?_⟩
      rw [lookD_law, (rulesOf_mem hb).1] at h2
      cases h2
theorem all2_row {one new : Str} : ∀ {row : List Str} {ys : List D}, All2 (fun di d => ∃ o o', di = D.str o ∧ d = D.str o' ∧ (o' = o ∨ (o = one ∧ o' = new))) (row.map D.str) ys → ∃ row' : List Str, ys = row'.map D.str ∧ asRow one new row row'
  | [], _, h => by cases h; exact ⟨[], rfl, .nil⟩
  | o :: row, _, h => by
    cases h with
    | cons a r =>
      obtain ⟨o1, o2, e1, e2, e3⟩ := a
      cases e1
      obtain ⟨row', h1, h2⟩ := all2_row r
      exact ⟨o2 :: row', by rw [e2, h1]; rfl, .cons e3 h2⟩
/-- [new if far == one and draw(2) == 0 else far for far in row] -/
theorem evs_rowA {σ : L2.St} {G : Hp} {S : Sm} {one new : Str} {row : List Str} {vr : V} (h14 : σ[14]? = some (some vr)) (hr : Dq K G vr (rowD row)) (hl : row.length ≤ 3) (h0 : ∀ u, ((wipe σ [16]).set 16 (some u))[0]? = some (some (.ref S.s))) (h13 : ∀ u, ((wipe σ [16]).set 16 (some u))[13]? = some (some (.str one))) (h12 : ∀ u, ((wipe σ [16]).set 16 (some u))[12]? = some (some (.str new))) (h16 : ∀ u, ((wipe σ [16]).set 16 (some u))[16]? = some (some u)) (hw : ∀ u, wipe ((wipe σ [16]).set 16 (some u)) [16] = wipe σ [16]) :
    EvS K S (tLc (iSeq K (tVar 14)) (gName 16) tYes (tIf (tAnd (tTest (tOp rEq (tVar 16) (tVar 13))) (tTest (tOp rEq (tCall (sp_w_draw K) [] E0 (tCons (tVar 0) (tCons (tC (.int 2)) tNil))) (tC (.int 0))))) (tVar 12) (tVar 16)) [16]) σ G (0 + 3 * (0 + (0 + 1) + 0)) (fun d => ∃ row' : List Str, d = rowD row' ∧ asRow one new row row') := by
  refine (evs_lc (K := K) (S := S) (j := 16) (B := 3) (n := 0) (m := 0 + (0 + 1) + 0) (ps := fun ds => ds = row.map D.str) (srcs_of (src_seq (ev_var h14 hr) (.lst _)) rfl) (fun ds e => by rw [e, List.length_map]; exact hl) (by decide) hw (fun di d => ∃ o o', di = D.str o ∧ d = D.str o' ∧ (o' = o ∨ (o = one ∧ o' = new))) fun ds di u G1 e1 hdm e2 hu => ?_).imp fun d ⟨ds, ys, e1, e2, e3⟩ => ?_
  · subst e1
    obtain ⟨o, _, rfl⟩ := List.mem_map.mp hdm
    exact evs_if (pb := fun b => b = true → o = one) (ebs_and (pa := fun b => b = decide (V.str o = V.str one)) (pb := fun _ => True) (EvB.toS (eb_test (ev_eq (ev_var (h16 u) hu) (ev_var (h13 u) (.str one)) rfl rfl rfl)) rfl) (fun G2 e2 _ => ebs_eqN ((evs_draw (n := 0) (N := 2) (i := 0) (h0 u) (ev_int.toS ⟨2, rfl, by decide, by decide⟩) (by decide)).imp fun d ⟨k, q1, _⟩ => ⟨k, q1⟩)) (fun _ z => by cases z) fun b hb _ _ => V.str.inj (of_decide_eq_true hb.symm)) (fun G2 e2 hb => (ev_var (h12 u) (.str new)).toS ⟨o, new, rfl, rfl, .inr ⟨hb rfl, rfl⟩⟩) fun G2 e2 _ => (ev_var (h16 u) (hu.up e2)).toS ⟨o, o, rfl, rfl, .inl rfl⟩
  · subst e1
    obtain ⟨row', h1, h2⟩ := all2_row e3
    exact ⟨row', by rw [e2, h1]; rfl, h2⟩

theorem sc_w_g_book : FnScope ["_law_stream", "_law_most", "_law_letters", "_law_names", "_law_found", "_law_high", "_law_at", "_law_name", "_law_low", "_law_some", "_law_rules", "_law_letter", "_law_new", "_law_one", "_law_row", "_law_k", "_law_far"] ["_law_stream", "_law_most", "_law_letters"] (defScope T47.s_w_g_book) := ⟨rfl, rfl, rfl, by decide +kernel, rfl, by decide +kernel, by decide +kernel⟩
theorem has_w_g_book (T : Tx w K mg) (h_w_d_names : Has P w K mg base CX0 "_law_d_names" (3) ["_law_stream", "_law_many"] (sp_w_d_names K)) (h_w_draw : Has P w K mg base CX0 "_law_draw" (1) ["_law_stream", "_law_many"] (sp_w_draw K)) (h_w_mixed : Has P w K mg base CX0 "_law_mixed" (2) ["_law_stream", "_law_some"] (sp_w_mixed K)) (h_w_pick : Has P w K mg base CX0 "_law_pick" (2) ["_law_stream", "_law_some"] (sp_w_pick K)) : Has P w K mg base CX0 "_law_g_book" (4) ["_law_stream", "_law_most", "_law_letters"] (sp_w_g_book K) := by
  obtain ⟨fd, F⟩ := T.def_ 46
  have gm := T.glo (x := "_law_g_book") 58
  have z_dict := T.free (x := "dict") 83
  have z_enumerate := T.free (x := "enumerate") 84
  have z_range := T.free (x := "range") 90
  have z_sorted := T.free (x := "sorted") 92
  have z_sum := T.free (x := "sum") 94
  have nd := sc_w_g_book.nd
  refine has_of F gm sc_w_g_book (fun _ _ _ _ _ _ us hl => match us, hl with | [_, _, _], _ => rfl) (fun vs H Q E h => ?_) (fun cdv A outer s H vs Q E hr h => ?_)
  · exact spS_len h fun _ _ ⟨_, _, e, _⟩ => by rw [e]; rfl
  · refine ⟨_, (pss_cons (ps_asg (pe_tup (pa_cons (pe_h h_w_d_names (hr.mono (by omega)) rfl (pa_cons (pv 0) (pa_cons (pe_op op_add pe_int (pe_h h_w_draw (hr.mono (by omega)) rfl (pa_cons (pv 0) (pa_cons (pv 1) pa_nil)))) pa_nil))) (pa_cons pe_dnewK (pa_cons pe_dnewK pa_nil)))) (pg_tup rfl (pgs_cons (pg_name (i := 3) nd rfl (by first | exact Or.inl rfl | exact Or.inr rfl)) (pgs_cons (pg_name (i := 4) nd rfl (by first | exact Or.inl rfl | exact Or.inr rfl)) (pgs_cons (pg_name (i := 5) nd rfl (by first | exact Or.inl rfl | exact Or.inr rfl)) pgs_nil)))))
        (pss_cons (ps_for PassesOwn.never rfl (pi_enumS rfl z_enumerate (pa_cons (pv 3) pa_nil)) (pg_tup rfl (pgs_cons (pg_name (i := 6) nd rfl (by first | exact Or.inl rfl | exact Or.inr rfl)) (pgs_cons (pg_name (i := 7) nd rfl (by first | exact Or.inl rfl | exact Or.inr rfl)) pgs_nil)))
        (pss_cons (ps_setLc (i := 8) (own := [("_law_k", 15)]) (g := gName 15) (tt := tYes) rfl nd rfl rfl (sw_true rfl rfl rfl (by decide +kernel)) (pi_range1 rfl z_range (pa_cons (pe_ifExp (pt_cmpR op_gt (pv 6) pe_int (nomark _)) (pe_h h_w_draw (hr.mono (by omega)) rfl (pa_cons (pv 0) (pa_cons pe_int pa_nil))) pe_int) pa_nil)) (blkOk_by (own := [("_law_k", 15)]) (N := ["_law_stream", "_law_most", "_law_letters", "_law_names", "_law_found", "_law_high", "_law_at", "_law_name", "_law_low", "_law_some", "_law_rules", "_law_letter", "_law_new", "_law_one", "_law_row", "_law_k", "_law_far"]) (sc := (defScope T47.s_w_g_book)) (by decide +kernel)) (fun _ _ _ _ _ => (pg_name (i := 15) nd rfl (by first | exact Or.inl rfl | exact Or.inr rfl))) (fun _ _ _ _ _ => pts_nil) (fun _ _ _ _ _ => (pe_h h_w_pick (hr.mono (by omega)) rfl (pa_cons (pv 0) (pa_cons (pe_slice (sl_listK (K := K) (by rfl)) (pv 3) po_none (po_some (pv 6))) pa_nil)))))
        (pss_cons (ps_set (i := 8) nd rfl (Or.inl rfl) (pe_ifExp (pt_cmpR op_lt (pe_callB (cr_sum rfl) rfl z_sum (by decide +kernel) (pa_cons (pe_lc (own := [("_law_one", 13)]) (g := gName 13) (tt := tYes) rfl nd (pi_seq (pv 8)) (blkOk_by (own := [("_law_one", 13)]) (N := ["_law_stream", "_law_most", "_law_letters", "_law_names", "_law_found", "_law_high", "_law_at", "_law_name", "_law_low", "_law_some", "_law_rules", "_law_letter", "_law_new", "_law_one", "_law_row", "_law_k", "_law_far"]) (sc := (defScope T47.s_w_g_book)) (by decide +kernel)) (fun _ _ _ _ _ => (pg_name (i := 13) nd rfl (by first | exact Or.inl rfl | exact Or.inr rfl))) (fun _ _ _ _ _ => pts_nil) (fun _ _ _ _ _ => (pe_dget (hu_of hr) (pv 5) (pv 13) (fun _ _ => rfl)))) pa_nil)) pe_int (nomark _)) (pv 8) (pe_lst pa_nil)))
        (pss_cons (ps_asg (pe_tup (pa_cons (pe_op op_add pe_int (pe_callB (cr_sum rfl) rfl z_sum (by decide +kernel) (pa_cons (pe_lc (own := [("_law_one", 13)]) (g := gName 13) (tt := tYes) rfl nd (pi_seq (pv 8)) (blkOk_by (own := [("_law_one", 13)]) (N := ["_law_stream", "_law_most", "_law_letters", "_law_names", "_law_found", "_law_high", "_law_at", "_law_name", "_law_low", "_law_some", "_law_rules", "_law_letter", "_law_new", "_law_one", "_law_row", "_law_k", "_law_far"]) (sc := (defScope T47.s_w_g_book)) (by decide +kernel)) (fun _ _ _ _ _ => (pg_name (i := 13) nd rfl (by first | exact Or.inl rfl | exact Or.inr rfl))) (fun _ _ _ _ _ => pts_nil) (fun _ _ _ _ _ => (pe_dget (hu_of hr) (pv 5) (pv 13) (fun _ _ => rfl)))) pa_nil))) (pa_cons (pe_h h_w_mixed (hr.mono (by omega)) rfl (pa_cons (pv 0) (pa_cons (pv 2) pa_nil))) pa_nil))) (pg_tup rfl (pgs_cons (pg_sub (pv 5) (pv 7) (set_dk (hu_of hr))) (pgs_cons (pg_name (i := 9) nd rfl (by first | exact Or.inl rfl | exact Or.inr rfl)) pgs_nil))))
        (pss_cons (ps_set (i := 10) nd rfl (Or.inl rfl) (pe_lst (pa_cons (pe_tup (pa_cons (pe_ix ix_seq (pv 9) pe_int (fun _ _ => rfl)) (pa_cons (pv 8) pa_nil))) pa_nil)))
        (pss_cons (ps_for PassesOwn.never rfl (pi_seq (pe_slice sl_list (pv 9) (po_some pe_int) (po_some (pe_op op_add pe_int (pe_h h_w_draw (hr.mono (by omega)) rfl (pa_cons (pv 0) (pa_cons pe_int pa_nil))))))) (pg_name (i := 11) nd rfl (by first | exact Or.inl rfl | exact Or.inr rfl))
        (pss_one (ps_expr (pe_bm PySem.F.plainAttrs_list PySem.F.slot_list_append PySem.F.type_list_append mt_append (pv 10) (pa_cons (pe_tup (pa_cons (pv 11) (pa_cons (pe_lc (own := [("_law_k", 15)]) (g := gName 15) (tt := tYes) (by rfl) nd (pi_range1 (by rfl) z_range (pa_cons (pe_h h_w_draw (by exact hr.mono (by omega)) (by rfl) (pa_cons (pv 0) (pa_cons pe_int pa_nil))) pa_nil)) (blkOk_by (own := [("_law_k", 15)]) (N := ["_law_stream", "_law_most", "_law_letters", "_law_names", "_law_found", "_law_high", "_law_at", "_law_name", "_law_low", "_law_some", "_law_rules", "_law_letter", "_law_new", "_law_one", "_law_row", "_law_k", "_law_far"]) (sc := (defScope T47.s_w_g_book)) (by decide +kernel)) (fun _ _ _ _ _ => (pg_name (i := 15) nd (by rfl) (by first | exact Or.inl (by rfl) | exact Or.inr rfl))) (fun _ _ _ _ _ => pts_nil) (fun _ _ _ _ _ => (pe_h h_w_pick (by exact hr.mono (by omega)) (by rfl) (pa_cons (pv 0) (pa_cons (pv 3) pa_nil))))) pa_nil))) pa_nil)))))
        (pss_one (ps_dput (hu_of hr) (pv 4) (pv 7) (pe_callB (cr_srtP hr.units) rfl z_sorted (by decide +kernel) (pa_cons (pv 10) pa_nil)) rfl))))))))
        (pss_cons (ps_for PassesOwn.never rfl (pi_seq (pe_slice sl_list (pe_lc (own := [("_law_name", 7)]) (g := gName 7) rfl nd (pi_seq (pe_h h_w_d_names (hr.mono (by omega)) rfl (pa_cons (pv 0) (pa_cons pe_int pa_nil)))) (blkOk_by (own := [("_law_name", 7)]) (N := ["_law_stream", "_law_most", "_law_letters", "_law_names", "_law_found", "_law_high", "_law_at", "_law_name", "_law_low", "_law_some", "_law_rules", "_law_letter", "_law_new", "_law_one", "_law_row", "_law_k", "_law_far"]) (sc := (defScope T47.s_w_g_book)) (by decide +kernel)) (fun _ _ _ _ _ => (pg_name (i := 7) nd rfl (by first | exact Or.inl rfl | exact Or.inr rfl))) (fun _ _ _ _ _ => (pts_one (pt_cmp (pc_dnotin (hu_of hr) (pv 7) (pv 4))))) (fun _ _ _ _ _ => (pv 7))) po_none (po_some (pe_h h_w_draw (hr.mono (by omega)) rfl (pa_cons (pv 0) (pa_cons pe_int pa_nil)))))) (pg_name (i := 12) nd rfl (by first | exact Or.inl rfl | exact Or.inr rfl))
        (pss_cons (ps_asg (pe_tup (pa_cons (pe_h h_w_pick (hr.mono (by omega)) rfl (pa_cons (pv 0) (pa_cons (pv 3) pa_nil))) (pa_cons (pe_lst pa_nil) pa_nil))) (pg_tup rfl (pgs_cons (pg_name (i := 13) nd rfl (by first | exact Or.inl rfl | exact Or.inr rfl)) (pgs_cons (pg_name (i := 10) nd rfl (by first | exact Or.inl rfl | exact Or.inr rfl)) pgs_nil))))
        (pss_cons (ps_for PassesOwn.never rfl (pi_seq (pe_dget (hu_of hr) (pv 4) (pv 13) (fun _ _ => rfl))) (pg_tup rfl (pgs_cons (pg_name (i := 11) nd rfl (by first | exact Or.inl rfl | exact Or.inr rfl)) (pgs_cons (pg_name (i := 14) nd rfl (by first | exact Or.inl rfl | exact Or.inr rfl)) pgs_nil)))
        (pss_one (ps_expr (pe_bm PySem.F.plainAttrs_list PySem.F.slot_list_append PySem.F.type_list_append mt_append (pv 10) (pa_cons (pe_tup (pa_cons (pv 11) (pa_cons (pe_lc (own := [("_law_far", 16)]) (g := gName 16) (tt := tYes) (by rfl) nd (pi_seq (pv 14)) (blkOk_by (own := [("_law_far", 16)]) (N := ["_law_stream", "_law_most", "_law_letters", "_law_names", "_law_found", "_law_high", "_law_at", "_law_name", "_law_low", "_law_some", "_law_rules", "_law_letter", "_law_new", "_law_one", "_law_row", "_law_k", "_law_far"]) (sc := (defScope T47.s_w_g_book)) (by decide +kernel)) (fun _ _ _ _ _ => (pg_name (i := 16) nd (by rfl) (by first | exact Or.inl (by rfl) | exact Or.inr rfl))) (fun _ _ _ _ _ => pts_nil) (fun _ _ _ _ _ => (pe_ifExp (PW.pt (pw_and (pt_cmpR op_eq (pv 16) (pv 13) (nomark _)) (pw_and1 (pt_cmpR op_eq (pe_h h_w_draw (by exact hr.mono (by omega)) (by rfl) (pa_cons (pv 0) (pa_cons pe_int pa_nil))) pe_int (nomark _))))) (pv 12) (pv 16)))) pa_nil))) pa_nil)))))
        (pss_one (ps_dput (hu_of hr) (pv 4) (pv 12) (pv 10) rfl)))))
        (pss_one (ps_ret (pe_frz (pe_callTy (call_dictP rfl) rfl z_dict (by decide +kernel) (pa_cons (pe_sortI rfl hr.units (pv 4) rfl z_sorted rfl) pa_nil)))))))), ?_⟩
    obtain ⟨S, G, L, vs', ds, p, rfl, hw, hL, hds, ⟨most, ls, rfl, hm1, hm2, hlnd, hlne, hls, rfl⟩, q⟩ := h
    cases hds with
    | cons hm hds =>
    cases hds with
    | cons hlt hn =>
    cases hn
    cases hm
    rename_i vl
    have hcB : costB = 10000 := rfl
    -- names, found, high
    refine evs_callW (K := K) (S := S) (n := 0 + 1 + 0) (m := 64) (f := fun ds p => ∃ many : Nat, ds = [.int (many : Nat)] ∧ p = fun d => ∃ ns : List Str, d = rowD ns ∧ ns.Nodup ∧ (∀ n ∈ ns, n ∈ namesL) ∧ ns.length = min many 12) (p := fun d => ∃ ns : List Str, d = rowD ns ∧ ns.Nodup ∧ (∀ n ∈ ns, n ∈ namesL) ∧ ns ≠ []) (i := 0) (E := E0) (σ := [some (.ref S.s), some (.int (most : Nat)), some vl, none, none, none, none, none, none, none, none, none, none, none, none, none, none]) (pl := fun ds => ∃ k : Nat, ds = [.int (k : Nat)] ∧ ∃ j, k = 1 + j ∧ j < 10) rfl (eas_cons (p := fun d => ∃ k : Nat, d = .int (k : Nat) ∧ ∃ j, k = 1 + j ∧ j < 10) (pr := fun ds => ds = []) (evs_plus (c := 1) (pk := fun j => j < 10) ((evs_draw (n := 0) (N := 10) (i := 0) rfl ((ev_var (i := 1) rfl (.int (most : Nat))).toS ⟨most, rfl, hm1, hm2⟩) (by decide)))) (fun _ _ _ _ => eas_nil) fun d ds ⟨k, h1, h2⟩ h3 => ⟨k, by rw [h1, h3], h2⟩) (fun ds ⟨k, h1, j, h2, h3⟩ => ⟨_, ⟨k, h1, rfl⟩, fun d ⟨ns, e1, e2, e3, e4⟩ => ⟨ns, e1, e2, e3, fun z => by rw [z] at e4; simp at e4; omega⟩⟩) L H hw (by omega) _ fun v3 d3 G1 H1 g1 ⟨ns, hd3, hnd, hnn, hne⟩ hv3 => ?_
    have hnl := len_le hnd hnn
    intro fd hfd hh hhh
    have nhf : fd ≠ hh := ne_of_none upd_same hhh
    have hh1 : H1 hh = none := by rw [upd_ne nhf.symm] at hhh; exact hhh
    refine ⟨by show 3 ≤ sizeLine; decide, fun T1 hT1 => ?_⟩
    have nfT : fd ≠ T1 := ne_of_none (by rw [upd_ne nhf, upd_same]) hT1
    have nhT : hh ≠ T1 := ne_of_none upd_same hT1
    refine Exists.intro T1 (Exists.intro _ ⟨rfl, .inl (.inl upd_same), rfl, _, _, rfl, _, _, rfl, _, _, rfl, rfl, ?_⟩)
    have f0 : H fd = none := gs_was g1 hfd
    have h0 : H hh = none := gs_was g1 hh1
    have gB : Gs S L (L + 65) G H G1 (upd (upd (upd H1 fd (.dK [])) hh (.dK [])) T1 (.tup [v3, .ref fd, .ref hh])) := gs_new hw (gs_new hw (gs_new hw (g1.more (by omega)) hfd) hhh) hT1
    have mF0 : MuD K G1 (upd (upd (upd H1 fd (.dK [])) hh (.dK [])) T1 (.tup [v3, .ref fd, .ref hh])) fd (lawD []) := ⟨[], by rw [upd_ne nfT, upd_ne nhf, upd_same], same_none g1.w.g hfd, rfl, .nil⟩
    have mH0 : MuD K G1 (upd (upd (upd H1 fd (.dK [])) hh (.dK [])) T1 (.tup [v3, .ref fd, .ref hh])) hh (fD []) := ⟨[], by rw [upd_ne nhT, upd_same], same_none g1.w.g hh1, rfl, .nil⟩
    obtain ⟨nf1, nf2⟩ := new_ne hw f0
    obtain ⟨nh1, nh2⟩ := new_ne hw h0
    subst hd3
    generalize upd (upd (upd H1 fd (.dK [])) hh (.dK [])) T1 (.tup [v3, .ref fd, .ref hh]) = H2 at gB mF0 mH0 ⊢
    -- each name
    refine f_enum (K := K) (σ := [some (.ref S.s), some (.int (most : Nat)), some vl, some v3, some (.ref fd), some (.ref hh), none, none, none, none, none, none, none, none, none, none, none]) (a := 6) (b := 7) (ev_var (i := 3) rfl hv3) (.lst _) gB.w.g fun G3 H3 g3 => ?_
    have gC := gB.trans (Gs.of gB.w g3)
    have nsl : (ns.map D.str).length = ns.length := List.length_map _
    refine ⟨fun i σ' H' => ∃ c6 c7 c8 c9 c10 c11, σ' = [some (.ref S.s), some (.int (most : Nat)), some vl, some v3, some (.ref fd), some (.ref hh), c6, c7, c8, c9, c10, c11, none, none, none, none, none] ∧ ∃ G' b F, Gs S L (L + (65 + i * 100)) G H G' H' ∧ Same G3 G' ∧ MuD K G' H' fd (lawD b) ∧ MuD K G' H' hh (fD F) ∧ Gb ns ls i b F,
      ⟨none, none, none, none, none, none, rfl, G3, [], [], gC, Same.refl _, mF0.gr g3, mH0.gr g3, gb_start ns ls⟩, fun i σ' H' ⟨_, _, _, _, _, _, _, G', _, _, g', s', _⟩ => s'.trans g'.w.g, ?_, ?_⟩
    · rintro i di u T σ' H' hdi hu ⟨c6, c7, c8, c9, c10, c11, rfl, G4, b, F, g4, s4, mf, mh, gb⟩ hT
      rw [List.getElem?_map] at hdi
      obtain ⟨n, hn, rfl⟩ := Option.map_eq_some_iff.mp hdi
      cases hu
      have hi : i < ns.length := (List.getElem?_eq_some_iff.mp hn).1
      have g5 := gs_new hw g4 (o := .tup [.int (i : Nat), .str n]) hT
      have mf5 : MuD K G4 (upd H' T (.tup [.int (i : Nat), .str n])) fd (lawD b) := mf.gr (Gr.ov g4.w.g hT)
      have mh5 : MuD K G4 (upd H' T (.tup [.int (i : Nat), .str n])) hh (fD F) := mh.gr (Gr.ov g4.w.g hT)
      generalize upd H' T (.tup [.int (i : Nat), .str n]) = H5 at g5 mf5 mh5 ⊢
      clear mf mh g4 hT
      have hv3' := (hv3.up g3.g).up s4
      have hvl' := hlt.up g5.g
      have hlen4 : L + (65 + i * 100) + 100 ≤ Lmax := by have : i * 100 ≤ 12 * 100 := Nat.mul_le_mul_right _ (by omega); omega
      -- low
      refine hs_set (K := K) (evs_lc (K := K) (S := S) (σ := [some (.ref S.s), some (.int (most : Nat)), some vl, some v3, some (.ref fd), some (.ref hh), some (.int (i : Nat)), some (.str n), c8, c9, c10, c11, none, none, none, none, none]) (j := 15) (B := 2) (n := 0 + (0 + 1)) (m := 0 + 1) (ps := fun ds => ∃ k : Nat, ds = intsD k ∧ k ≤ 2 ∧ (0 < i ∨ k = 0)) (srcs_range (p := fun d => ∃ k : Nat, d = .int (k : Nat) ∧ k ≤ 2 ∧ (0 < i ∨ k = 0)) (evs_if (pb := fun b => b = decide (0 < i)) (EvB.toS (b := decide (0 < i)) (eb_test ((ev_I0 (K := K) (i := (i : Nat)) (j := 0) (z := .bl (decide (0 < i))) (ev_var (i := 6) rfl (.int _)) ev_int (by
        have : decide ((0 : Int) < ((i : Nat) : Int)) = decide (0 < i) := by rw [decide_eq_decide]; omega
        rw [← this]
        exact .bl _)))) rfl) (fun G6 e6 hb => (evs_draw (n := 0) (N := 3) (i := 0) rfl (ev_int.toS ⟨3, rfl, by decide, by decide⟩) (by decide)).imp fun d ⟨k, h1, h2⟩ => ⟨k, h1, by omega, .inl (of_decide_eq_true hb.symm)⟩) fun G6 e6 hb => EvS.le (n := 0) (ev_int.toS ⟨0, rfl, by omega, .inr rfl⟩) (by omega)) fun d ⟨k, h1, h2, h3⟩ => ⟨k, h1, by omega, k, rfl, h2, h3⟩) (fun ds ⟨k, h1, h2, _⟩ => by rw [h1]; unfold intsD; rw [List.length_map, List.length_range]; exact h2) (by decide) (fun _ => rfl) (fun _ d => ∃ o, d = .str o ∧ o ∈ ns.take i) (fun ds di u G6 ⟨k, h1, h2, h3⟩ hdm e6 hu => ?_)) g5.w (by omega) fun v8 d8 G6 H6 g6 ⟨ds8, ys8, _, hd8, hall8⟩ hv8 => ?_
      · have hpos : 0 < i := by
          rcases h3 with h3 | h3
          · exact h3
          · rw [h1, h3] at hdm; cases hdm
        exact evs_pickS (xs := ns.take i) rfl ((ev_slL (lo := none) (hi := some (i : Int)) (ev_var (i := 3) rfl (hv3'.up e6)) (fun _ _ => po_no) (fun H Q q => ⟨_, rfl, (i : Int), rfl, q⟩)).is (by rw [cut_take, ← List.map_take]; rfl)) (fun z => by have hz0 : (ns.take i).length = 0 := (congrArg List.length z); rw [List.length_take] at hz0; omega) (by rw [List.length_take]; omega)
      obtain ⟨lows, rfl, hlen8, hlow8⟩ := all2_right hall8
      subst hd8
      have g56 := g5.trans g6
      have mf6 := mf5.gs g6 nf1 nf2
      have mh6 := mh5.gs g6 nh1 nh2
      have hlen9 : lows.length ≤ 2 := by
        obtain ⟨k, e1, e2, _⟩ := ‹∃ k : Nat, ds8 = intsD k ∧ k ≤ 2 ∧ (0 < i ∨ k = 0)›
        rw [hlen8, e1]
        unfold intsD
        rw [List.length_map, List.length_range]
        exact e2
      clear hall8 hlen8 g5 mf5 mh5
      -- not too high
      obtain ⟨ws, k1, k2, k3⟩ := mh6.ex
      have sn := same_new (o := .dK ws) k2
      have inF : ∀ {l : List Str}, (∀ o ∈ l, o ∈ ns.take i) → ∀ o ∈ l, o ∈ F.map (·.1) := fun h o ho => by rw [gb.fn]; exact h o ho
      refine mu_setQ (K := K) (σ := [some (.ref S.s), some (.int (most : Nat)), some vl, some v3, some (.ref fd), some (.ref hh), some (.int (i : Nat)), some (.str n), some v8, c9, c10, c11, none, none, none, none, none]) (i := 8) (d := rowD (if sumOf F lows < 9 then lows else [])) k2 k1 g6.w.g (ev_if (b := decide (sumOf F lows < 9)) (eb_test (ev_I0 (K := K) (i := (sumOf F lows : Nat)) (j := 9) (z := .bl (decide (sumOf F lows < 9))) (ev_sumHigh (ev_var (i := 8) rfl (hv8.up sn)) upd_same (k3.up sn) (fun _ => rfl) (fun _ => rfl) (fun _ => rfl) (inF hlow8) (by omega)) ev_int (by
        have : decide (((sumOf F lows : Nat) : Int) < 9) = decide (sumOf F lows < 9) := by rw [decide_eq_decide]; omega
        rw [← this]
        exact .bl _))) (fun hz => (ev_var (i := 8) rfl (hv8.up sn)).is (by rw [if_pos (of_decide_eq_true hz)]; rfl)) fun hz => (ev_lst (ds := []) ea_nil (by decide)).is (by rw [if_neg (of_decide_eq_false hz)]; rfl)) (hides_dic (noDic_strs _)) fun v8' G7 H7 g7 hv8' k1' k2' => ?_
      obtain ⟨low, hlow, hlt8, hlt9, hlt10⟩ : ∃ low : List Str, (if sumOf F lows < 9 then lows else []) = low ∧ (∀ o ∈ low, o ∈ ns.take i) ∧ sumOf F low < 9 ∧ low.length ≤ 2 := by
        by_cases hz : sumOf F lows < 9
        · exact ⟨lows, if_pos hz, hlow8, hz, hlen9⟩
        · exact ⟨[], if_neg hz, (fun _ h => nomatch h), by show 0 < 9; decide, by show 0 ≤ 2; decide⟩
      rw [hlow] at hv8'
      have g57 := g56.trans (Gs.of g56.w g7)
      have mf7 := mf6.gr g7
      have k3' := k3.up g7.g
      -- how high
      have sn7 := same_new (o := .dK ws) k2'
      refine mu_ev (K := K) (σ := [some (.ref S.s), some (.int (most : Nat)), some vl, some v3, some (.ref fd), some (.ref hh), some (.int (i : Nat)), some (.str n), some v8', c9, c10, c11, none, none, none, none, none]) (d := .int ((1 + sumOf F low : Nat) : Int)) k2' k1' g57.w.g (ev_I0 (K := K) (i := 1) (j := (sumOf F low : Nat)) ev_int (ev_sumHigh (ev_var (i := 8) rfl (hv8'.up sn7)) upd_same (k3'.up sn7) (fun _ => rfl) (fun _ => rfl) (fun _ => rfl) (inF hlt8) (by omega)) (dq_int (by omega))) (hides_scal rfl) fun vh G8 H8 g8 hvh k1a k2a => ?_
      cases hvh
      have g58 := g57.trans (Gs.of g57.w g8)
      have mf8 := mf7.gr g8
      have k3a := k3'.up g8.g
      have hll : ls.length ≤ 64 := Nat.le_trans (nodup_len (m := lettersL) hlnd hls) (by decide)
      refine evs_mixed (K := K) (S := S) (σ := [some (.ref S.s), some (.int (most : Nat)), some vl, some v3, some (.ref fd), some (.ref hh), some (.int (i : Nat)), some (.str n), some v8', c9, c10, c11, none, none, none, none, none]) (i := 0) (E := E0) (xs := ls) rfl (ev_var (i := 2) rfl (hlt.up g58.g)) hll _ H8 g58.w (by omega) _ fun v9 d9 G9 H9 g9 ⟨ds9, e9, zs, ez, hzp⟩ hv9 => ⟨by show 2 ≤ sizeLine; decide, fun T2 hT2 => ?_⟩
      subst e9
      subst ez
      have g59 := g58.trans g9
      have mf9 := mf8.gs g9 nf1 nf2
      have k1b := g9.h _ _ nh1 nh2 k1a
      have k2b := g9.apart k1a k2a
      have k3b := k3a.up g9.g
      have g510 := gs_new hw g59 (o := .tup [.int ((1 + sumOf F low : Nat) : Int), v9]) hT2
      have nhT2 := ne_of_none k1b hT2
      have mf10 : MuD K G9 (upd H9 T2 (.tup [.int ((1 + sumOf F low : Nat) : Int), v9])) fd (lawD b) := mf9.gr (Gr.ov g9.w.g hT2)
      have k1c : (upd H9 T2 (.tup [.int ((1 + sumOf F low : Nat) : Int), v9])) hh = some (.dK ws) := by rw [upd_ne nhT2]; exact k1b
      refine Exists.intro T2 (Exists.intro _ ⟨rfl, .inl (.inl upd_same), rfl, _, _, rfl, .ref hh, rfl, .str n, rfl, hh, _, rfl, DPut.k (k := Sum.inr n) k1c (by rw [k3b.len]; unfold fD; rw [List.length_map]; have := congrArg List.length gb.fn; rw [List.length_map, List.length_take] at this; exact Nat.lt_of_le_of_lt (by omega : F.length ≤ 12) (by decide)), _, _, rfl, rfl, ?_⟩)
      have hnF : n ∉ F.map (·.1) := by rw [gb.fn]; exact not_take hnd hn
      have hnb : n ∉ b.map (·.1) := by rw [gb.nm]; exact not_take hnd hn
      have mh11 := MuD.mk (K := K) (G := G9) ⟨_, upd_same (H := upd H9 T2 (.tup [.int ((1 + sumOf F low : Nat) : Int), v9])) (a := hh), k2b, k3b.put (k := n) (.int ((1 + sumOf F low : Nat) : Int))⟩
      rw [fD_snoc hnF] at mh11
      have mf11 := mf10.oth (b := hh) (o := .dK (putK ws (Sum.inr n) (.int ((1 + sumOf F low : Nat) : Int)))) nhf
      have g511 := gs_upd hw g510 (o := .dK (putK ws (Sum.inr n) (.int ((1 + sumOf F low : Nat) : Int)))) h0 k2b
      generalize upd (upd H9 T2 (.tup [.int ((1 + sumOf F low : Nat) : Int), v9])) hh (.dK (putK ws (Sum.inr n) (.int ((1 + sumOf F low : Nat) : Int)))) = H11 at mh11 mf11 g511 ⊢
      clear k1c k1b k1a k1' k1 mf10 mf9 mf8 mf7 mf6 g510 g59 g58 g57 g56
      obtain ⟨x0, zr, rfl⟩ : ∃ x0 zr, zs = x0 :: zr := by
        cases zs with
        | nil => exact absurd hzp.symm.eq_nil hlne
        | cons x l => exact ⟨x, l, rfl⟩
      have hznd : (x0 :: zr).Nodup := hzp.nodup_iff.mpr hlnd
      have hzls : ∀ x ∈ x0 :: zr, x ∈ ls := fun x hx => hzp.mem_iff.mp hx
      -- its rules
      refine m_set (K := K) (σ := [some (.ref S.s), some (.int (most : Nat)), some vl, some v3, some (.ref fd), some (.ref hh), some (.int (i : Nat)), some (.str n), some v8', some v9, c10, c11, none, none, none, none, none]) (i := 10) (ds := [lawRule (x0, low)]) (evm_lst (ea_cons (ev_tup (ea_cons (ev_ix (i := 0) (d := .str x0) (.inl (ev_var (i := 9) rfl hv9)) rfl) (ea_cons (ev_var (i := 8) rfl ((hv8'.up g8.g).up g9.g)) ea_nil)) (by show 2 ≤ 100000; decide)) ea_nil) (by show 1 ≤ 100000; decide)) g511.w.g fun rl G12 H12 g12 hrl m12 => ?_
      have g512 := g511.trans (Gs.of g511.w g12)
      have mf12 := mf11.gr g12
      have mh12 := mh11.gr g12
      have r0 : H rl = none := gs_was g511 hrl
      obtain ⟨nr1, nr2⟩ := new_ne hw r0
      have nfr : fd ≠ rl := by obtain ⟨_, z1, _⟩ := mf11.ex; exact ne_of_none z1 hrl
      have nhr : hh ≠ rl := by obtain ⟨_, z1, _⟩ := mh11.ex; exact ne_of_none z1 hrl
      refine f_bind (K := K) ?_
      refine evs_cut1 (K := K) (S := S) (xs := x0 :: zr) (N := 3) (σ := [some (.ref S.s), some (.int (most : Nat)), some vl, some v3, some (.ref fd), some (.ref hh), some (.int (i : Nat)), some (.str n), some v8', some v9, some (.ref rl), c11, none, none, none, none, none]) (ev_var (i := 9) rfl (hv9.up g12.g)) (fun G e => (evs_plus (c := 1) (pk := fun j => j < 4) (evs_draw (n := 0) (N := 4) (i := 0) rfl (ev_int.toS ⟨4, rfl, by decide, by decide⟩) (by decide))).imp fun d ⟨k, h1, j, h2, h3⟩ => ⟨k, h1, by omega⟩) _ H12 g512.w (by omega) _ fun vc dc G13 H13 g13 ⟨cs, hdc, hsub, hcl⟩ hvc => ?_
      subst hdc
      have g513 := g512.trans g13
      have mf13 := mf12.gs g13 nf1 nf2
      have mh13 := mh12.gs g13 nh1 nh2
      have m13 := m12.gs g13 nr1 nr2
      refine f_seq (K := K) (σ := [some (.ref S.s), some (.int (most : Nat)), some vl, some v3, some (.ref fd), some (.ref hh), some (.int (i : Nat)), some (.str n), some v8', some v9, some (.ref rl), c11, none, none, none, none, none]) (ev_k hvc) (.lst _) g13.w.g fun G14 H14 g14 => ?_
      have g514 := g513.trans (Gs.of g513.w g14)
      refine ⟨fun j σ' H' => ∃ c11, σ' = [some (.ref S.s), some (.int (most : Nat)), some vl, some v3, some (.ref fd), some (.ref hh), some (.int (i : Nat)), some (.str n), some v8', some v9, some (.ref rl), c11, none, none, none, none, none] ∧ ∃ G' more, Gs S L (L + (65 + i * 100) + 68 + j * 10) G H G' H' ∧ Same G14 G' ∧ MuD K G' H' fd (lawD b) ∧ MuD K G' H' hh (fD (F ++ [(n, 1 + sumOf F low)])) ∧ MuL K G' H' rl (((x0, low) :: more).map lawRule) ∧ more.map (·.1) = cs.take j ∧ ∀ r ∈ more, r.2.length ≤ 3 ∧ ∀ o ∈ r.2, o ∈ ns,
        ⟨c11, rfl, G14, [], g514.more (by omega), Same.refl _, mf13.gr g14, mh13.gr g14, m13.gr g14, rfl, (fun _ h => nomatch h)⟩, fun j σ' H' ⟨_, _, G', _, g', s', _⟩ => s'.trans g'.w.g, ?_, ?_⟩
      · rintro j dj uj σ' H' hdj huj ⟨c11, rfl, G15, more, g15, s15, mf15, mh15, m15, hmo, hmr⟩
        rw [List.getElem?_map] at hdj
        obtain ⟨x, hx, rfl⟩ := Option.map_eq_some_iff.mp hdj
        cases huj
        have hj : j < cs.length := (List.getElem?_eq_some_iff.mp hx).1
        have hmol : more.length ≤ 3 := by have := congrArg List.length hmo; rw [List.length_map, List.length_take] at this; omega
        have hv3j : Dq K G15 v3 (rowD ns) := (((((((hv3'.up g6.g).up g7.g).up g8.g).up g9.g).up g12.g).up g13.g).up g14.g).up s15
        refine h_appS (K := K) (S := S) (σ := [some (.ref S.s), some (.int (most : Nat)), some vl, some v3, some (.ref fd), some (.ref hh), some (.int (i : Nat)), some (.str n), some v8', some v9, some (.ref rl), some (.str x), none, none, none, none, none]) (i := 10) (n := 0 + (0 + 1 + 3 * (0 + 1) + 0)) (p := fun d => ∃ r : Rule, d = lawRule r ∧ r.1 = x ∧ r.2.length ≤ 3 ∧ ∀ o ∈ r.2, o ∈ ns) rfl m15 nr1 nr2 g15.w (by omega) (evs_ruleL (i := 11) rfl fun G1 e1 => evs_rowL rfl (fun _ => rfl) (fun _ => rfl) (fun _ => rfl) (hv3j.up e1) hne hnl) (by rw [List.length_map, List.length_cons]; omega) fun d G16 H16 o16 ⟨r, hd, hr1, hr2, hr3⟩ g16 m16 hG16 => ?_
        subst hd
        have g516 := g15.trans g16
        refine ⟨_, rfl, G16, more ++ [r], (gs_upd hw g516 r0 hG16).more (by rw [Nat.add_mul]; omega), s15.trans g16.g, (mf15.gs g16 nf1 nf2).oth nfr, (mh15.gs g16 nh1 nh2).oth nhr, m16.is (by rw [List.map_cons, List.map_cons, List.map_append]; rfl), by rw [List.map_append, hmo, take_next hx, ← hr1]; rfl, fun r2 hr2' => ?_⟩
        rcases List.mem_append.mp hr2' with z | z
        · exact hmr r2 z
        · rw [List.mem_singleton.mp z]; exact ⟨hr2, hr3⟩
      · rintro σ' H' ⟨c11, rfl, G15, more, g15, s15, mf15, mh15, m15, hmo, hmr⟩
        rw [List.length_map, List.take_length] at hmo
        rw [List.length_map] at g15
        obtain ⟨us, l1, l2, l3⟩ := m15.ex
        have g16 := gs_keep hw g15 r0 l2 l1
        have sr := same_new (o := .lst us) l2
        have mf16 := mf15.keepB (o := .lst us) nfr l2
        have mh16 := mh15.keepB (o := .lst us) nhr l2
        have hmol : more.length ≤ 3 := by have := congrArg List.length hmo; rw [List.length_map] at this; omega
        have hok : OkR ns ls ((x0, low) :: more) := by
          refine ⟨by simp, by rw [List.length_cons]; omega, ?_, fun r hr => ?_, fun r hr => ?_⟩
          · rw [List.map_cons, hmo]
            have hs2 : (x0 :: cs).Sublist (x0 :: zr) := hsub.cons₂ x0
            exact hs2.nodup hznd
          · rcases List.mem_cons.mp hr with z | hr
            · rw [z]; exact hzls x0 (by simp)
            · have : r.1 ∈ cs := by rw [← hmo]; exact List.mem_map.mpr ⟨r, hr, rfl⟩
              exact hzls _ (List.mem_cons_of_mem _ (hsub.subset this))
          · rcases List.mem_cons.mp hr with z | hr
            · rw [z]
              exact ⟨by show low.length ≤ 3; omega, fun o ho => List.mem_of_mem_take (hlt8 o ho)⟩
            · exact hmr r hr
        have gb' := gb_next gb hnd hn (hok.perm (rsL_perm _)) (x := x0) ((rsL_perm _).mem_iff.mpr (List.mem_cons_self)) hlt8 hlt9
        refine h_dput (K := K) (σ := [some (.ref S.s), some (.int (most : Nat)), some vl, some v3, some (.ref fd), some (.ref hh), some (.int (i : Nat)), some (.str n), some v8', some v9, some (.ref rl), c11, none, none, none, none, none]) (i := 4) (n := n) (d := .lst ((rsL ((x0, low) :: more)).map lawRule)) (kvs := lawD b) (ev_sortedL (ev_var (i := 10) rfl (.lst (.inl upd_same) (l3.up sr))) (by rw [List.length_cons]; omega)) (fun G6 e6 => ev_var (i := 7) rfl (.str n)) rfl mf16 (by unfold lawD; rw [List.length_map]; have := congrArg List.length gb.nm; rw [List.length_map, List.length_take] at this; omega) g16.w.g fun G17 H17 o17 g17 hG17 m17 => ?_
        rw [lawD_snoc hnb] at m17
        have g517 := g16.trans (Gs.of g16.w g17)
        exact ⟨_, _, _, _, _, _, rfl, G17, _, _, (gs_upd hw g517 f0 hG17).more (by have : cs.length * 10 ≤ 3 * 10 := Nat.mul_le_mul_right _ hcl; rw [Nat.add_mul]; omega), (((((((s4.trans g6.g).trans g7.g).trans g8.g).trans g9.g).trans g12.g).trans g13.g).trans g14.g).trans (s15.trans (sr.trans g17.g)), m17, (mh16.gr g17).oth nhf.symm, gb'⟩
    · rintro σ' H' ⟨c6, c7, c8, c9, c10, c11, rfl, G4, b0, F, g4, s4, mf, mh, gb⟩
      rw [nsl] at g4 gb
      have gc0 := gc_start gb
      have hnb0 : b0.map (·.1) = ns := by have := gb.nm; rwa [List.take_length] at this
      have hbl : L + (65 + ns.length * 100) ≤ L + 1265 := by have : ns.length * 100 ≤ 12 * 100 := Nat.mul_le_mul_right _ hnl; omega
      have g4 := g4.more hbl
      dsimp only
      refine f_bind (K := K) ?_
      obtain ⟨ws, k1, k2, k3⟩ := mf.ex
      have sn := same_new (o := .dK ws) k2
      refine mu_evs (K := K) (S := S) (σ := [some (.ref S.s), some (.int (most : Nat)), some vl, some v3, some (.ref fd), some (.ref hh), c6, c7, c8, c9, c10, c11, none, none, none, none, none]) (n := 0 + 64 + (0 + 1)) (p := fun d => ∃ us : List Str, d = rowD us ∧ us.Nodup ∧ us.length ≤ 2 ∧ ∀ u ∈ us, u ∈ namesL ∧ u ∉ b0.map (·.1)) k2 k1 nf1 nf2 g4.w (by omega) ((evs_take (n := 0 + 64) (m := 0 + 1) (pl := fun ds => ∃ us : List Str, ds = us.map D.str ∧ us.Nodup ∧ ∀ u ∈ us, u ∈ namesL ∧ u ∉ b0.map (·.1)) (pk := fun k => k < 3) (evs_newNames (evs_callW (K := K) (S := S) (n := 0) (m := 64) (f := fun ds p => ∃ many : Nat, ds = [.int (many : Nat)] ∧ p = fun d => ∃ ns : List Str, d = rowD ns ∧ ns.Nodup ∧ (∀ n ∈ ns, n ∈ namesL) ∧ ns.length = min many 12) (pl := fun ds => ds = [.int (12 : Nat)]) (i := 0) (E := E0) rfl ((ea_cons ev_int ea_nil).toS rfl) fun ds e => ⟨_, ⟨12, e, rfl⟩, fun d ⟨ms, e1, e2, e3, _⟩ => ⟨ms, e1, e2, e3⟩⟩) upd_same (k3.up sn) (fun _ => rfl) (fun _ => rfl) (fun _ => rfl)) fun G1 e1 => evs_draw (n := 0) (N := 3) (i := 0) rfl (ev_int.toS ⟨3, rfl, by decide, by decide⟩) (by decide)).imp fun d ⟨ds, k, ⟨us, e1, e2, e3⟩, e4, e5⟩ => ⟨us.take k, by rw [e5, e1, ← List.map_take]; rfl, (List.take_sublist _ _).nodup e2, by rw [List.length_take]; omega, fun u hu => e3 u (List.mem_of_mem_take hu)⟩) (fun d ⟨us, e, _⟩ => by rw [e]; exact hides_dic (noDic_strs _)) fun vu du G5 H5 g5 ⟨us, hdu, hund, hul, hun⟩ hvu k1' k2' => ?_
      subst hdu
      have g45 := g4.trans g5
      have mf5 : MuD K G5 H5 fd (lawD b0) := ⟨ws, k1', k2', k3.up g5.g⟩
      have hall : (ns ++ us).Nodup := by
        rw [List.nodup_append]
        exact ⟨hnd, hund, fun x hx y hy z => (hun y hy).2 (by rw [hnb0, ← z]; exact hx)⟩
      have hv35 := ((hv3.up g3.g).up s4).up g5.g
      clear k1 k2 k3 sn mf mh k1' k2'
      refine f_seq (K := K) (σ := [some (.ref S.s), some (.int (most : Nat)), some vl, some v3, some (.ref fd), some (.ref hh), c6, c7, c8, c9, c10, c11, none, none, none, none, none]) (ev_k hvu) (.lst _) g5.w.g fun G6 H6 g6 => ?_
      have g46 := g45.trans (Gs.of g45.w g6)
      refine ⟨fun i σ' H' => ∃ c10 c11 c12 c13 c14, σ' = [some (.ref S.s), some (.int (most : Nat)), some vl, some v3, some (.ref fd), some (.ref hh), c6, c7, c8, c9, c10, c11, c12, c13, c14, none, none] ∧ ∃ G' b, Gs S L (L + 1330 + i * 100) G H G' H' ∧ Same G6 G' ∧ MuD K G' H' fd (lawD b) ∧ Gc ns ls b0 (us.take i) b,
        ⟨c10, c11, none, none, none, rfl, G6, b0, g46.more (by omega), Same.refl _, mf5.gr g6, gc0⟩, fun i σ' H' ⟨_, _, _, _, _, _, G', _, g', s', _⟩ => s'.trans g'.w.g, ?_, ?_⟩
      · rintro i di u σ' H' hdi hu ⟨c10, c11, c12, c13, c14, rfl, G7, b, g7, s7, mf7, gc⟩
        rw [List.getElem?_map] at hdi
        obtain ⟨new, hnew, rfl⟩ := Option.map_eq_some_iff.mp hdi
        cases hu
        have hi : i < us.length := (List.getElem?_eq_some_iff.mp hnew).1
        have hnin : new ∉ b.map (·.1) := by
          rw [gc.nm]
          intro hm
          rcases List.mem_append.mp hm with hm | hm
          · exact (hun new (List.mem_of_getElem? hnew)).2 (by rw [hnb0]; exact hm)
          · exact not_take hund hnew hm
        have hv37 := (hv35.up g6.g).up s7
        -- one of the names
        refine evs_pickS (K := K) (S := S) (xs := ns) (i := 0) (E := E0) (σ := [some (.ref S.s), some (.int (most : Nat)), some vl, some v3, some (.ref fd), some (.ref hh), c6, c7, c8, c9, c10, c11, some (.str new), c13, c14, none, none]) rfl (ev_var (i := 3) rfl hv37) hne (by omega) _ H' g7.w (by omega) _ fun v13 d13 G8 H8 g8 ⟨one, hd13, hone⟩ hv13 => ⟨by show 0 ≤ sizeLine; decide, fun rl hrl => ⟨by show 2 ≤ sizeLine; decide, fun T hT => Exists.intro T (Exists.intro _ ⟨rfl, .inl (.inl upd_same), rfl, _, _, rfl, _, _, rfl, rfl, ?_⟩)⟩⟩
        subst hd13
        cases hv13
        have g78 := g7.trans g8
        have mf8 := mf7.gs g8 nf1 nf2
        have r0 : H rl = none := gs_was g78 hrl
        obtain ⟨nr1, nr2⟩ := new_ne hw r0
        have nfr : fd ≠ rl := by obtain ⟨_, z1, _⟩ := mf8.ex; exact ne_of_none z1 hrl
        have g79 := gs_new hw (gs_new hw g78 (o := .lst []) hrl) (o := .tup [.str one, .ref rl]) hT
        have mf9 : MuD K G8 (upd (upd H8 rl (.lst [])) T (.tup [.str one, .ref rl])) fd (lawD b) := (mf8.oth nfr).oth (by obtain ⟨_, z1, _⟩ := (mf8.oth (o := .lst []) nfr).ex; exact ne_of_none z1 hT)
        have m9 : MuL K G8 (upd (upd H8 rl (.lst [])) T (.tup [.str one, .ref rl])) rl [] := ⟨[], by rw [upd_ne (ne_of_none upd_same hT), upd_same], same_none g78.w.g hrl, .nil⟩
        generalize upd (upd H8 rl (.lst [])) T (.tup [.str one, .ref rl]) = H9 at g79 mf9 m9 ⊢
        clear g78 mf8 mf7 hrl hT
        have hone0 : (one, rulesOf b0 one) ∈ b0 := (rulesOf_mem (by rw [hnb0]; exact hone)).2
        have hbnd : (b.map (·.1)).Nodup := by
          rw [gc.nm]
          exact (List.Sublist.append_left (List.take_sublist i us) ns).nodup hall
        have hlk := lookK_mem hbnd (gc.sub _ hone0)
        have ok0 := gb.ok _ hone0
        -- its rules, told again
        obtain ⟨ws, k1, k2, k3⟩ := mf9.ex
        have sn := same_new (o := .dK ws) k2
        dsimp only
        refine f_bind (K := K) ?_
        refine mu_ev (K := K) (σ := [some (.ref S.s), some (.int (most : Nat)), some vl, some v3, some (.ref fd), some (.ref hh), c6, c7, c8, c9, some (.ref rl), c11, some (.str new), some (.str one), c14, none, none]) (d := .lst ((rulesOf b0 one).map lawRule)) k2 k1 g79.w.g (ev_dgetM (fun H _ Q q => ⟨_, rfl, q⟩) upd_same (k3.up sn) (ev_var (i := 13) rfl (.str one)) (by rw [lookD_law, hlk]; rfl)) (hides_dic (noDic_law _)) fun vr G10 H10 g10 hvr k1' k2' => ?_
        have g710 := g79.trans (Gs.of g79.w g10)
        have mf10 := mf9.gr g10
        have m10 := m9.gr g10
        refine f_seq (K := K) (σ := [some (.ref S.s), some (.int (most : Nat)), some vl, some v3, some (.ref fd), some (.ref hh), c6, c7, c8, c9, some (.ref rl), c11, some (.str new), some (.str one), c14, none, none]) (ev_k hvr) (.lst _) g10.gh fun G11 H11 g11 => ?_
        have g711 := g710.trans (Gs.of g710.w g11)
        refine ⟨fun j σ' H' => ∃ c11 c14, σ' = [some (.ref S.s), some (.int (most : Nat)), some vl, some v3, some (.ref fd), some (.ref hh), c6, c7, c8, c9, some (.ref rl), c11, some (.str new), some (.str one), c14, none, none] ∧ ∃ G' more, Gs S L (L + 1330 + i * 100 + 1 + j * 10) G H G' H' ∧ Same G11 G' ∧ MuD K G' H' fd (lawD b) ∧ MuL K G' H' rl (more.map lawRule) ∧ asRules one new ((rulesOf b0 one).take j) more,
          ⟨c11, c14, rfl, G11, [], g711.more (by omega), Same.refl _, mf10.gr g11, (m10.gr g11).is rfl, .nil⟩, fun j σ' H' ⟨_, _, _, G', _, g', s', _⟩ => s'.trans g'.w.g, ?_, ?_⟩
        · rintro j dj uj σ' H' hdj huj ⟨c11, c14, rfl, G12, more, g12, s12, mf12, m12, has⟩
          rw [List.getElem?_map] at hdj
          obtain ⟨r, hr, rfl⟩ := Option.map_eq_some_iff.mp hdj
          have hrm := List.mem_of_getElem? hr
          have hj : j < (rulesOf b0 one).length := (List.getElem?_eq_some_iff.mp hr).1
          have hj4 : (rulesOf b0 one).length ≤ 4 := ok0.few
          have hi2 : i * 100 ≤ 2 * 100 := Nat.mul_le_mul_right _ (by omega)
          refine tg_two uj _ H' g12.w.g (huj.up s12) _ fun σ2 ⟨vx, vw, hvx, hvw, e2⟩ => ?_
          subst e2
          cases hvx
          have hml : more.length = j := by have := has.length; rw [List.length_take] at this; omega
          refine h_appS (K := K) (S := S) (σ := [some (.ref S.s), some (.int (most : Nat)), some vl, some v3, some (.ref fd), some (.ref hh), c6, c7, c8, c9, some (.ref rl), some (.str r.1), some (.str new), some (.str one), some vw, none, none]) (i := 10) (n := 0 + (0 + 3 * (0 + (0 + 1) + 0) + 0)) (p := fun d => ∃ r' : Rule, d = lawRule r' ∧ r'.1 = r.1 ∧ asRow one new r.2 r'.2) rfl m12 nr1 nr2 g12.w (by omega) (evs_ruleP (i := 11) (asRow one new r.2) rfl fun G1 e1 => evs_rowA rfl (hvw.up e1) (ok0.row r hrm).1 (fun _ => rfl) (fun _ => rfl) (fun _ => rfl) (fun _ => rfl) (fun _ => rfl)) (by rw [List.length_map]; omega) fun d G13 H13 o13 ⟨r', hd, hr1, hr2⟩ g13 m13 hG13 => ?_
          subst hd
          have g713 := g12.trans g13
          exact ⟨_, _, rfl, G13, more ++ [r'], (gs_upd hw g713 r0 hG13).more (by rw [Nat.add_mul]; omega), s12.trans g13.g, (mf12.gs g13 nf1 nf2).oth nfr, m13.is (by rw [List.map_append]; rfl), by rw [take_next hr]; exact all2_snoc has ⟨hr1, hr2⟩⟩
        · rintro σ' H' ⟨c11, c14, rfl, G12, more, g12, s12, mf12, m12, has⟩
          rw [List.length_map, List.take_length] at has
          rw [List.length_map] at g12
          have hj4 : (rulesOf b0 one).length ≤ 4 := ok0.few
          obtain ⟨vs12, l1, l2, l3⟩ := m12.ex
          have g13 := gs_keep hw g12 r0 l2 l1
          have sr := same_new (o := .lst vs12) l2
          have mf13 := mf12.keepB (o := .lst vs12) nfr l2
          refine h_dput (K := K) (σ := [some (.ref S.s), some (.int (most : Nat)), some vl, some v3, some (.ref fd), some (.ref hh), c6, c7, c8, c9, some (.ref rl), c11, some (.str new), some (.str one), c14, none, none]) (i := 4) (n := new) (d := .lst (more.map lawRule)) (kvs := lawD b) (ev_var (i := 10) rfl (.lst (.inl upd_same) (l3.up sr))) (fun G6 e6 => ev_var (i := 12) rfl (.str new)) rfl mf13 (by unfold lawD; rw [List.length_map]; have := congrArg List.length gc.nm; rw [List.length_map, List.length_append, List.length_take] at this; omega) g13.w.g fun G17 H17 o17 g17 hG17 m17 => ?_
          rw [lawD_snoc hnin] at m17
          have g717 := g13.trans (Gs.of g13.w g17)
          refine ⟨_, _, _, _, _, rfl, G17, _, (gs_upd hw g717 f0 hG17).more (by have : (rulesOf b0 one).length * 10 ≤ 4 * 10 := Nat.mul_le_mul_right _ hj4; rw [Nat.add_mul]; omega), ((((s7.trans g8.g).trans g10.g).trans g11.g).trans (s12.trans (sr.trans g17.g))), m17, ?_⟩
          rw [take_next hnew]
          exact gc_next gb gc hnd hone0 has
      · rintro σ' H' ⟨c10, c11, c12, c13, c14, rfl, G7, b, g7, s7, mf7, gc⟩
        rw [List.length_map] at g7 gc
        rw [List.take_length] at gc
        have hul2 : us.length * 100 ≤ 2 * 100 := Nat.mul_le_mul_right _ hul
        have htot : (ns ++ us).length ≤ 12 := len_le hall fun n hn => by
          rcases List.mem_append.mp hn with h | h
          · exact hnn n h
          · exact (hun n h).1
        have hbl2 : b.length ≤ 12 := by have := congrArg List.length gc.nm; rw [List.length_map] at this; omega
        dsimp only
        refine h_retK ?_
        refine evp_sortI (K := K) g7.w.g mf7 (fun Q q => ⟨_, rfl, q⟩) (law_flats b) (law_alike b) (by unfold lawD; rw [List.length_map]; omega) (law_depth b) fun v8 G8 H8 qs g8 hqs hv8 => ?_
        obtain ⟨b', rfl, hb'⟩ := law_perm hqs
        have hdr := gc_drawn gc hb' hall hne htot (fun n hn => by
          rcases List.mem_append.mp hn with h | h
          · exact hnn n h
          · exact (hun n h).1) hls
        refine ev_dictP (K := K) (kvs := lawD b') (ev_k hv8) (by rw [lawD_names]; exact hdr.law.nd) H8 g8.gh _ fun v9 G9 H9 g9 hv9 => ?_
        exact q v9 _ G9 H9 ((g7.trans (Gs.of g7.w (g8.trans g9))).more (by omega)) ⟨b', rfl, hdr⟩ hv9

end
end T47
/-! The last book of the law. -/
namespace T47
open PySem PySem.Spec PyProof.Rows L2 Pk
def ts1 : List Talk := [("x", [("a", ["x", "y"]), ("b", [])]), ("y", [("c", [])])]
def kb1 : Kept := [("x", [("a", ["x", "y"]), ("b", [])]), ("y", [("c", [])])]
theorem kb1_sound : Sound kb1 := by
  refine ⟨?_, ?_, ?_, ?_, ?_⟩
  · unfold sized kb1; decide +kernel
  · unfold kb1; decide +kernel
  · unfold kb1; decide +kernel
  · unfold few kb1; decide +kernel
  · unfold closedB kb1; decide +kernel
theorem none_sound : Sound [] := ⟨⟨by decide, (fun _ h => nomatch h)⟩, (fun _ h => nomatch h), (fun _ h => nomatch h), (fun _ h => nomatch h), (fun _ h => nomatch h)⟩
theorem kb1_simple : simpleB kb1 := by
  unfold simpleB kb1
  decide +kernel
theorem left_cons {b : Kept} {row r : List Str} {x : Str} {word : List Str} (h : nextR b row x = some r) : leftIn b row (x :: word) = leftIn b r word := by
  have hne := along_ne b word r
  unfold leftIn
  rw [show along b row (x :: word) = row :: along b r word by unfold along; rw [h]; cases word <;> rfl]
  rw [List.length_cons, List.length_cons, List.getLast?_cons_of_ne_nil hne]
  by_cases c : word.length < (along b r word).length
  · rw [if_pos c, if_pos (by omega)]
  · rw [if_neg c, if_neg (by omega)]
theorem fault_cons {b : Kept} {row r : List Str} {x : Str} {word : List Str} (h : nextR b row x = some r) : faultIn b row (x :: word) = (faultIn b r word).map (· + 1) := by
  have hne := along_ne b word r
  have hl : 0 < (along b r word).length := List.length_pos_iff.mpr hne
  unfold faultIn
  rw [show along b row (x :: word) = row :: along b r word by unfold along; rw [h]; cases word <;> rfl]
  rw [List.length_cons, List.length_cons, List.getLast?_cons_of_ne_nil hne]
  by_cases c : (along b r word).length ≤ word.length
  · rw [if_pos c, if_pos (by omega)]
    show some ((along b r word).length + 1 - 1) = some ((along b r word).length - 1 + 1)
    congr 1
    omega
  · rw [if_neg c, if_neg (by omega)]
    split <;> rfl
theorem find_xa : (rulesOf kb1 "x").find? (fun r => decide (r.1 = ("a" : Str))) = some (("a", ["x", "y"]) : Rule) := by decide +kernel
theorem find_xb : (rulesOf kb1 "x").find? (fun r => decide (r.1 = ("b" : Str))) = some (("b", []) : Rule) := by decide +kernel
theorem find_yc : (rulesOf kb1 "y").find? (fun r => decide (r.1 = ("c" : Str))) = some (("c", []) : Rule) := by decide +kernel
theorem find_yb : (rulesOf kb1 "y").find? (fun r => decide (r.1 = ("b" : Str))) = none := by decide +kernel
theorem next_xa (rest : List Str) : nextR kb1 ("x" :: rest) "a" = (some ("x" :: "y" :: rest) : Option (List Str)) := by
  show Option.map (fun r : Rule => r.2 ++ rest) ((rulesOf kb1 "x").find? fun r => decide (r.1 = ("a" : Str))) = _
  rw [find_xa]
  rfl
theorem next_xb (rest : List Str) : nextR kb1 ("x" :: rest) "b" = some rest := by
  show Option.map (fun r : Rule => r.2 ++ rest) ((rulesOf kb1 "x").find? fun r => decide (r.1 = ("b" : Str))) = _
  rw [find_xb]
  rfl
theorem next_yc (rest : List Str) : nextR kb1 ("y" :: rest) "c" = some rest := by
  show Option.map (fun r : Rule => r.2 ++ rest) ((rulesOf kb1 "y").find? fun r => decide (r.1 = ("c" : Str))) = _
  rw [find_yc]
  rfl
theorem next_yb (rest : List Str) : nextR kb1 ("y" :: rest) "b" = none := by
  show Option.map (fun r : Rule => r.2 ++ rest) ((rulesOf kb1 "y").find? fun r => decide (r.1 = ("b" : Str))) = _
  rw [find_yb]
  rfl
def ys (n : Nat) : List Str := List.replicate n "y"
def as_ (n : Nat) : List Str := List.replicate n "a"
def cs_ (n : Nat) : List Str := List.replicate n "c"
theorem ys_snoc (n : Nat) (rest : List Str) : ys n ++ (("y" : Str) :: rest) = ys (n + 1) ++ rest := by
  unfold ys
  rw [List.replicate_succ', List.append_assoc]
  rfl
theorem left_as (w : List Str) : ∀ (n : Nat) (rest : List Str), leftIn kb1 ("x" :: rest) (as_ n ++ w) = leftIn kb1 ("x" :: (ys n ++ rest)) w
  | 0, rest => rfl
  | n + 1, rest => by
    show leftIn kb1 ("x" :: rest) ("a" :: (as_ n ++ w)) = _
    rw [left_cons (next_xa rest), left_as w n ("y" :: rest), ys_snoc]
theorem fault_as (w : List Str) : ∀ (n : Nat) (rest : List Str), faultIn kb1 ("x" :: rest) (as_ n ++ w) = (faultIn kb1 ("x" :: (ys n ++ rest)) w).map (· + n)
  | 0, rest => by cases h : faultIn kb1 ("x" :: rest) w <;> (show faultIn kb1 ("x" :: rest) w = (faultIn kb1 ("x" :: rest) w).map (· + 0); rw [h]; rfl)
  | n + 1, rest => by
    show faultIn kb1 ("x" :: rest) ("a" :: (as_ n ++ w)) = _
    rw [fault_cons (next_xa rest), fault_as w n ("y" :: rest), ys_snoc, Option.map_map]
    rfl
theorem left_cs : ∀ (n : Nat) (rest : List Str), leftIn kb1 (ys n ++ rest) (cs_ n) = some rest
  | 0, rest => rfl
  | n + 1, rest => by
    show leftIn kb1 ("y" :: (ys n ++ rest)) ("c" :: cs_ n) = _
    rw [left_cons (next_yc _), left_cs n rest]
/-- what the last asks tell -/
theorem last_left (n : Nat) : leftIn kb1 ["x"] (as_ n ++ (["b"] : List Str)) = some (ys n) := by
  rw [left_as ["b"] n [], left_cons (next_xb _), List.append_nil]
  rfl
theorem last_fault (n : Nat) : faultIn kb1 ["x"] ((as_ (n + 1) ++ (["b"] : List Str)) ++ (["c", "b"] : List Str)) = some (n + 3) := by
  rw [List.append_assoc, fault_as _ (n + 1) []]
  show (faultIn kb1 ("x" :: (ys (n + 1) ++ [])) ["b", "c", "b"]).map _ = _
  rw [fault_cons (next_xb _), List.append_nil]
  show ((faultIn kb1 ("y" :: ys n) ["c", "b"]).map _).map _ = _
  rw [fault_cons (next_yc _)]
  cases n with
  | zero => decide +kernel
  | succ n =>
    rw [show ys (n + 1) = (("y" : Str) :: ys n) from rfl, fault_one (next_yb _)]
    show some (0 + 1 + 1 + (n + 1 + 1)) = some (n + 1 + 3)
    congr 1
    omega
theorem last_next (n : Nat) : (leftIn kb1 ["x", "x"] ((as_ n ++ (["b"] : List Str)) ++ cs_ n)).map (lettersOf kb1) = (some ["a", "b"] : Option (List Str)) := by
  rw [List.append_assoc, left_as _ n ["x"]]
  show (leftIn kb1 ("x" :: (ys n ++ (["x"] : List Str))) ("b" :: cs_ n)).map _ = _
  rw [left_cons (next_xb _), left_cs n ["x"]]
  show some (srt ((rulesOf kb1 "x").map (·.1))) = _
  rw [show (rulesOf kb1 "x").map (·.1) = (["a", "b"] : List Str) by decide +kernel, ← srt_of (List.Perm.refl (["a", "b"] : List Str)) (by decide +kernel)]
theorem last_none : leftIn [] [] ["a"] = none := by decide +kernel
theorem last_done : faultIn kb1 [] [] = none := by decide +kernel
theorem kb1_ends : ∀ p ∈ kb1, Ends kb1 p.1 := by
  have ey : Ends kb1 "y" := .mk (rs := [("c", [])]) (r := ("c", [])) (by unfold kb1; simp) (by simp) (fun _ h => nomatch h)
  have ex : Ends kb1 "x" := .mk (rs := [("a", ["x", "y"]), ("b", [])]) (r := ("b", [])) (by unfold kb1; simp) (by simp) (fun _ h => nomatch h)
  intro p hp
  unfold kb1 at hp
  simp only [List.mem_cons, List.not_mem_nil, or_false] at hp
  rcases hp with rfl | rfl
  · exact ex
  · exact ey
theorem law1 : LawB kb1 := by
  refine ⟨kb1_sound, by unfold kb1; decide +kernel, ?_, ?_, ?_, fun n hn => ?_⟩
  · unfold fullB kb1; decide +kernel
  · unfold kb1; decide +kernel
  · unfold kb1; decide +kernel
  · obtain ⟨p, hp, rfl⟩ := List.mem_map.mp hn
    exact kb1_ends p hp
theorem shuf1 : ShufB kb1 ts1 := by
  refine ⟨List.Perm.refl _, fun t ht => ?_⟩
  unfold ts1 at ht
  simp only [List.mem_cons, List.not_mem_nil, or_false] at ht
  rcases ht with rfl | rfl
  · rw [show rulesOf kb1 "x" = ([("a", ["x", "y"]), ("b", [])] : List Rule) by decide +kernel]
  · rw [show rulesOf kb1 "y" = ([("c", [])] : List Rule) by decide +kernel]
theorem law0 : LawB [] := ⟨none_sound, List.nodup_nil, (fun _ h => nomatch h), (fun _ h => nomatch h), (fun _ h => nomatch h), (fun _ h => nomatch h)⟩
theorem shuf0 : ShufB [] [] := ⟨List.Perm.refl _, (fun _ h => nomatch h)⟩
theorem none_simple : simpleB [] := (fun _ h => nomatch h)
end T47
/-! New books; lists many times. -/
namespace Pk
open PySem PySem.Spec PyProof.Rows L2 T47
section
variable {K : PySem.W.Frag} {σ : L2.St} {G G1 H H1 : Hp} {te : TE} {as : TA} {d : D} {ds : List D} {a : Addr} {o : HO}
theorem Gr.keepN (g : Gr G H G1 H1) (h0 : H a = none) (g1 : G1 a = none) (h1 : H1 a = some o) : Gr G H (upd G1 a o) H1 :=
  ⟨g.g.trans (same_new g1), g.h, same_mut g.gh h1, fun b u e => by
    by_cases hb : b = a
    · rw [hb]; exact .inr h0
    · rw [upd_ne hb] at e; exact g.nw b u e⟩
def EvBk (K : PySem.W.Frag) (te : TE) (σ : L2.St) (G : Hp) (kb : T47.Kept) : Prop := ∀ H, Same G H → ∀ Q : VK, (∀ v G' H', Gr G H G' H' → IsBook K G' v kb → Q v H') → te σ H Q
mutual
theorem alike_refl : ∀ d : D, Alike d d
  | .non => .same rfl
  | .bl _ => .same rfl
  | .int _ => .same rfl
  | .str _ => .same rfl
  | .dic _ => .same rfl
  | .lst ds => .seq (.lst ds) (.lst ds) (alikes_refl ds)
  | .tup ds => .seq (.tup ds) (.tup ds) (alikes_refl ds)
theorem alikes_refl : ∀ ds : List D, All2 Alike ds ds
  | [] => .nil
  | d :: ds => .cons (alike_refl d) (alikes_refl ds)
end
/-- Book(talks) -/
theorem evbk_mk {ts : List Talk} {E : XK} (h : EvD K te σ G (.lst (ts.map talkD))) (hok : talksOk ts) (he : allEnd (bookOf ts)) : EvBk K (tMake (He.ga K "Book") (sp_Book_init K) [] E (tCons te tNil)) σ G (bookOf ts) := fun H e Q q =>
  h H e _ fun v G1 H1 g1 hv x dx hx hdx hne => ⟨G1, H1, x, dx, v, _, ts, rfl, g1.gh, hx, hdx, hne, rfl, hv, alike_talks (alike_refl _), hok, he, fun G' H' vr vn gr gx hx' hvr => ⟨rfl, by
    have g := (g1.trans gr).keepN (same_none g1.h hx) gx hx'
    exact q (.ref x) _ H' g ⟨x, dx, vr, vn, rfl, upd_same, hvr.up (same_new gx)⟩⟩⟩
theorem ev_callBk {kb : T47.Kept} {f : Hp → V → List D → D → Prop} {s2 : Sp} {E : XK} (h : EvBk K te σ G kb) (hr : EvA K as σ G ds) (hf : ∀ G1 v, Same G G1 → IsBook K G1 v kb → f G1 v ds d) : EvD K (tCall (spOr (spN K f) s2) [] E (tCons te as)) σ G d := fun H e Q q =>
  h H e _ fun v G1 H1 g1 hb => (hr.up g1.g) H1 g1.gh _ fun vs G2 H2 g2 hvs => .inl ⟨G2, v, vs, ds, d, by rw [List.append_nil], g2.gh, hvs, hf G2 v (g1.g.trans g2.g) (hb.up g2.g), fun v' G' H' g hv => q v' G' H' ((g1.trans g2).trans g) (hv.up new_sub)⟩
/-- xs * n -/
theorem ev_repV {k i : Nat} (h : EvM K te σ G ds) (hi : σ[i]? = some (some (.int (k : Nat)))) (hl : ds.length * k ≤ 100000) (hl2 : ds.length ≤ 100000) (hk : k ≤ 1000000) : EvD K (tOp rRep te (tVar i)) σ G (.lst (List.replicate k ds).flatten) := fun H e Q q =>
  h H e _ fun a vs G1 H1 g1 h0 h1 h2 h3 => ⟨.int (k : Nat), hi, a, (k : Nat), vs, rfl, rfl, h2, by omega, by omega, by rw [h3.length, Int.toNat_natCast]; exact Nat.le_trans hl (by decide), fun p hp => by
    refine q _ _ _ (g1.trans (Gr.new g1.gh hp)) (.lst (.inl upd_same) ?_)
    have : ∀ k : Nat, Dqs K G1 (List.replicate k vs).flatten (List.replicate k ds).flatten := by
      intro k
      induction k with
      | zero => exact .nil
      | succ k ih => rw [List.replicate_succ, List.replicate_succ]; exact h3.append ih
    rw [Int.toNat_natCast]
    exact (this k).up (same_new (same_none g1.gh hp))⟩
/-- ['..'] * n -/
theorem ev_reps {x : Str} {n i : Nat} (hi : σ[i]? = some (some (.int (n : Nat)))) (hn : n ≤ 1000) : EvD K (tOp rRep (tLst (tCons (tC (.str x)) tNil)) (tVar i)) σ G (rowD (List.replicate n x)) := by
  refine (ev_repV (evm_lst (ea_cons ev_str ea_nil) (by show 1 ≤ 100000; decide)) hi (by show 1 * n ≤ 100000; omega) (by show 1 ≤ 100000; decide) (by omega)).is ?_
  have : ∀ n : Nat, (List.replicate n [D.str x]).flatten = (List.replicate n x).map D.str := fun n => by
    induction n with
    | zero => rfl
    | succ n ih => rw [List.replicate_succ, List.replicate_succ, List.flatten_cons, ih]; rfl
  rw [this n]
  rfl
theorem canLay_strs {xs : List Str} (h : ∀ x ∈ xs, PyData.strOk x = true) : PyData.canLayAll0 (pys (xs.map D.str)) = true := by
  induction xs with
  | nil => rfl
  | cons x xs ih =>
    show (PyData.strOk x && PyData.canLayAll0 (pys (xs.map D.str))) = true
    rw [h x (by simp), ih fun y hy => h y (by simp [hy])]
    rfl
/-- a row equals itself -/
theorem ev_eqRow {ta tb : TE} {xs : List Str} (ha : EvD K ta σ G (rowD xs)) (hb : EvD K tb σ G (rowD xs)) (h : ∀ x ∈ xs, PyData.strOk x = true) : EvD K (tOp (rEqD K) ta tb) σ G (.bl true) :=
  ev_eqD ha hb (flats_strs xs) (flats_strs xs) (shaped_strs h) (shaped_strs h) (PySem.SeqAt.eqv_refl _ (by
    show (PyData.list (pys (xs.map D.str))).canLay0 = true
    simp only [PyData.canLay0]
    exact canLay_strs h))
/-- if e or f: ..; e false -/
theorem h_orF {tt uu : L2.TT} {t : TS} {b : Bool} {D0 : L2.Ends} (h : EvB tt σ G b) (hb : b = false) (e : Same G H) (k : ∀ G1 H1, Gr G H G1 H1 → uu σ H1 fun c H2 => if c = true then t D0 σ H2 else D0.nx σ H2) : tIfS (tOr tt uu) t tNext D0 σ H := h H e _ fun G1 H1 g1 => by
  subst hb
  exact iteF (k G1 H1 g1)
theorem hbk_set {i : Nat} {kb : T47.Kept} {u : TS} {D0 : L2.Ends} (h : EvBk K te σ G kb) (e : Same G H) (k : ∀ v G1 H1, Gr G H G1 H1 → IsBook K G1 v kb → u D0 (σ.set i (some v)) H1) : tSeq (tAsg te (gName i)) u D0 σ H := h H e _ k
end
end Pk
/-! law. -/
namespace T47
open PySem PySem.Spec PyProof.Rows L2 Pk LamX
section
variable {P : Program} {w : World} {K : PySem.W.Frag} {mg : Str → Option Value} {base : Heap}
def spLaw (K : PySem.W.Frag) : Sp := fun vs H Q _ => ∃ (a : Addr) (ns : List Int), vs = [.ref a] ∧ SqL K H a (ns.map V.int) ∧ ns.length ≤ 63 ∧ (∀ p ∈ TT K, H p.1 = some (.tbl #[])) ∧ ∀ H', Q (.bl true) H'

def okW (w : List Str) : Prop := w.length ≤ 440 ∧ ∀ x ∈ w, isLetter x = true ∧ PyData.strOk x = true ∧ x.length ≤ 20
theorem bentL_ok : ∀ x ∈ bentL, isLetter x = true ∧ PyData.strOk x = true ∧ x.length ≤ 20 := by decide +kernel
theorem drawn_letters {b : Kept} {ls : List Str} (h : Drawn b ls) (hls : ∀ x ∈ ls, x ∈ lettersL) {ws : List Str} (hg : goodLetters b ws) : ∀ x ∈ ws, isLetter x = true ∧ PyData.strOk x = true ∧ x.length ≤ 20 := fun x hx => by
  obtain ⟨p, hp, r, hr, rfl⟩ := hg x hx
  obtain ⟨h1, h2, h3, _⟩ := lettersL_ok _ (hls _ (h.lt p hp r hr))
  exact ⟨h1, h2, h3⟩
theorem drawn_late {b : Kept} {ls : List Str} (h : Drawn b ls) (hls : ∀ x ∈ ls, x ∈ lettersL) : noLate b := fun p hp r hr => (lettersL_ok _ (hls _ (h.lt p hp r hr))).2.2.2
def costT : Nat := 6000000000000 + 100000
section
variable {σ : L2.St} {G : Hp} {S : Sm}
/-- g_book(stream, 5, g_letters(stream, 5)) -/
theorem evs_book {E E2 : XK} (h1 : σ[1]? = some (some (.ref S.s))) : EvS K S (tCall (sp_w_g_book K) [] E (tCons (tVar 1) (tCons (tC (.int 5)) (tCons (tCall (sp_w_g_letters K) [] E2 (tCons (tVar 1) (tCons (tC (.int 5)) tNil))) tNil)))) σ G (0 + (0 + 65 + 0) + costB) (fun d => ∃ b ls, d = .dic (lawD b) ∧ Drawn b ls ∧ ∀ x ∈ ls, x ∈ lettersL) := by
  refine evs_callW (K := K) (S := S) (n := 0 + (0 + 65 + 0)) (m := costB) (f := fun ds p => ∃ (most : Nat) (ls : List Str), ds = [.int (most : Nat), rowD ls] ∧ 0 < most ∧ most ≤ 10 ∧ ls.Nodup ∧ ls ≠ [] ∧ (∀ x ∈ ls, x ∈ lettersL) ∧ p = fun d => ∃ b, d = .dic (lawD b) ∧ Drawn b ls) (pl := fun ds => ∃ ls : List Str, ds = [.int ((5 : Nat) : Int), rowD ls] ∧ ls.Nodup ∧ ls ≠ [] ∧ ∀ x ∈ ls, x ∈ lettersL) h1
    (eas_cons (p := fun d => d = .int ((5 : Nat) : Int)) (pr := fun ds => ∃ ls : List Str, ds = [rowD ls] ∧ ls.Nodup ∧ ls ≠ [] ∧ ∀ x ∈ ls, x ∈ lettersL) (ev_int.toS rfl) (fun d G1 e1 _ => eas_cons (p := fun d => ∃ ls : List Str, d = rowD ls ∧ ls.Nodup ∧ ls ≠ [] ∧ ∀ x ∈ ls, x ∈ lettersL) (pr := fun ds => ds = []) (evs_callW (K := K) (S := S) (n := 0) (m := 65) (f := fun ds p => ∃ most : Nat, ds = [.int (most : Nat)] ∧ 0 < most ∧ most < 1000 ∧ p = fun d => ∃ ns : List Str, d = rowD ns ∧ ns.Nodup ∧ (∀ n ∈ ns, n ∈ lettersL) ∧ 1 ≤ ns.length) (pl := fun ds => ds = [.int ((5 : Nat) : Int)]) h1 ((ea_cons ev_int ea_nil).toS rfl) fun ds e => ⟨_, ⟨5, e, by decide, by decide, rfl⟩, fun d ⟨ns, a1, a2, a3, a4⟩ => ⟨ns, a1, a2, fun z => by rw [z] at a4; simp at a4, a3⟩⟩) (fun _ _ _ _ => eas_nil) ?_) ?_) fun ds ⟨ls, a1, a2, a3, a4⟩ => ⟨_, ⟨5, ls, a1, by decide, by decide, a2, a3, a4, rfl⟩, fun d ⟨b, b1, b2⟩ => ⟨b, ls, b1, b2, a4⟩⟩
  · rintro d ds ⟨ls, a1, a2⟩ a3
    exact ⟨ls, by rw [a1, a3], a2⟩
  · rintro d ds a1 ⟨ls, a2, a3⟩
    exact ⟨ls, by rw [a1, a2], a3⟩
/-- g_finished(stream, rules, known, row, pick(stream, [..])) -/
theorem evs_fin {b : Kept} {ls : List Str} {F : FN} {row : List Str} {v3 v5 v7 : V} {i : Nat} {E E2 : XK} (h1 : σ[1]? = some (some (.ref S.s))) (h2 : σ[2]? = some (some (.int (i : Nat)))) (h3 : σ[3]? = some (some v3)) (h5 : σ[5]? = some (some v5)) (h7 : σ[7]? = some (some v7)) (d3 : Dq K G v3 (.dic (lawD b))) (d5 : Dq K G v5 (.dic (fD F))) (d7 : Dq K G v7 (rowD row)) (dr : Drawn b ls) (hls : ∀ x ∈ ls, x ∈ lettersL) (hN : NormOk b F) (hr : rowIn b row) (hl : row.length ≤ 5) :
    EvS K S (tCall (sp_w_g_finished K) [] E (tCons (tVar 1) (tCons (tVar 3) (tCons (tVar 5) (tCons (tVar 7) (tCons (tCall (sp_w_pick K) [] E2 (tCons (tVar 1) (tCons (tLst (tCons (tC (.int 2)) (tCons (tC (.int 6)) (tCons (tIf (tTest (tOp rEq (tVar 2) (tC (.int 0)))) (tC (.int 20)) (tC (.int 4))) tNil)))) tNil))) tNil)))))) σ G (0 + (0 + (0 + (0 + 1 + 0))) + 100) (fun d => ∃ w, d = rowD w ∧ w.length ≤ 430 ∧ okW w) := by
  have pick : ∀ G1, Same G G1 → EvS K S (tCall (sp_w_pick K) [] E2 (tCons (tVar 1) (tCons (tLst (tCons (tC (.int 2)) (tCons (tC (.int 6)) (tCons (tIf (tTest (tOp rEq (tVar 2) (tC (.int 0)))) (tC (.int 20)) (tC (.int 4))) tNil)))) tNil))) σ G1 (0 + 1) (fun d => ∃ m : Nat, d = .int (m : Nat) ∧ m ≤ 20) := fun G1 e1 =>
    (evs_call (K := K) (S := S) (n := 0) (m := 1) (f := fun ds p => ∃ x es, ds = [x] ∧ Lk x es ∧ es ≠ [] ∧ es.length < 1000000 ∧ p = fun d => d ∈ es) (p := fun d => d ∈ [D.int ((2 : Nat) : Int), .int ((6 : Nat) : Int), .int ((if i = 0 then 20 else 4 : Nat) : Int)]) (pl := fun ds => ds = [.lst [D.int ((2 : Nat) : Int), .int ((6 : Nat) : Int), .int ((if i = 0 then 20 else 4 : Nat) : Int)]]) h1 ((ea_cons (ev_lst (ea_cons ev_int (ea_cons ev_int (ea_cons (ev_if (b := decide (V.int (i : Nat) = V.int 0)) (eb_test (K := K) (ev_eq (ev_var h2 (.int (i : Nat))) ev_int rfl rfl rfl)) (fun hz => ev_int.is (by
      have : (i : Int) = 0 := V.int.inj (of_decide_eq_true hz)
      rw [if_pos (by omega)]
      rfl)) (fun hz => ev_int.is (by
      have : ¬ i = 0 := fun z => (of_decide_eq_false hz) (by rw [z]; rfl)
      rw [if_neg this]
      rfl))) ea_nil))) (by show 3 ≤ 100000; decide)) ea_nil).toS rfl) fun ds e => ⟨_, _, e, .lst _, by simp, by show 3 < 1000000; decide, rfl⟩).imp fun d hd => by
      simp only [List.mem_cons, List.not_mem_nil, or_false] at hd
      rcases hd with rfl | rfl | rfl
      · exact ⟨2, rfl, by omega⟩
      · exact ⟨6, rfl, by omega⟩
      · exact ⟨_, rfl, by split <;> omega⟩
  refine evs_callW (K := K) (S := S) (n := 0 + (0 + (0 + (0 + 1 + 0)))) (m := 100) (f := fun ds p => ∃ (b : Kept) (F : FN) (x : D) (row : List Str) (most : Nat), ds = [.dic (lawD b), .dic (fD F), x, .int (most : Nat)] ∧ IsRow x row ∧ Sound b ∧ fullB b ∧ NormOk b F ∧ rowIn b row ∧ row.length ≤ 5 ∧ most ≤ 20 ∧ (∀ p ∈ b, ∀ r ∈ p.2, r.2.length ≤ 3) ∧ p = fun d => ∃ ws : List Str, d = rowD ws ∧ goodLetters b ws ∧ ws.length ≤ 430) (pl := fun ds => ∃ m : Nat, ds = [.dic (lawD b), .dic (fD F), rowD row, .int (m : Nat)] ∧ m ≤ 20) h1
    (eas_cons (p := fun d => d = .dic (lawD b)) (pr := fun ds => ∃ m : Nat, ds = [.dic (fD F), rowD row, .int (m : Nat)] ∧ m ≤ 20) ((ev_var h3 d3).toS rfl) (fun d G1 e1 _ => eas_cons (p := fun d => d = .dic (fD F)) (pr := fun ds => ∃ m : Nat, ds = [rowD row, .int (m : Nat)] ∧ m ≤ 20) ((ev_var h5 (d5.up e1)).toS rfl) (fun d G2 e2 _ => eas_cons (p := fun d => d = rowD row) (pr := fun ds => ∃ m : Nat, ds = [.int (m : Nat)] ∧ m ≤ 20) ((ev_var h7 ((d7.up e1).up e2)).toS rfl) (fun d G3 e3 _ => eas_cons (p := fun d => ∃ m : Nat, d = .int (m : Nat) ∧ m ≤ 20) (pr := fun ds => ds = []) (pick G3 ((e1.trans e2).trans e3)) (fun _ _ _ _ => eas_nil) ?_) ?_) ?_) ?_) ?_
  · rintro d ds ⟨m, a1, a2⟩ a3
    exact ⟨m, by rw [a1, a3], a2⟩
  · rintro d ds a1 ⟨m, a2, a3⟩
    exact ⟨m, by rw [a1, a2], a3⟩
  · rintro d ds a1 ⟨m, a2, a3⟩
    exact ⟨m, by rw [a1, a2], a3⟩
  · rintro d ds a1 ⟨m, a2, a3⟩
    exact ⟨m, by rw [a1, a2], a3⟩
  · rintro ds ⟨m, a1, a2⟩
    exact ⟨_, ⟨b, F, rowD row, row, m, a1, .lst _, dr.law.snd, dr.law.full, hN, hr, hl, a2, dr.tight.rows, rfl⟩, fun d ⟨ws, b1, b2, b3⟩ => ⟨ws, b1, b3, by omega, drawn_letters dr hls b2⟩⟩
/-- (word, g_bent(stream, word), g_walk(stream, rules, row, 7)) -/
theorem evs_three {b : Kept} {ls : List Str} {row w : List Str} {v3 v7 v8 : V} {E E2 : XK} (h1 : σ[1]? = some (some (.ref S.s))) (h3 : σ[3]? = some (some v3)) (h7 : σ[7]? = some (some v7)) (h8 : σ[8]? = some (some v8)) (d3 : Dq K G v3 (.dic (lawD b))) (d7 : Dq K G v7 (rowD row)) (d8 : Dq K G v8 (rowD w)) (dr : Drawn b ls) (hls : ∀ x ∈ ls, x ∈ lettersL) (hr : rowIn b row) (hl : row.length ≤ 5) (hw : w.length ≤ 430) (hw2 : okW w) :
    EvS K S (tTup (tCons (tVar 8) (tCons (tCall (sp_w_g_bent K) [] E (tCons (tVar 1) (tCons (tVar 8) tNil))) (tCons (tCall (sp_w_g_walk K) [] E2 (tCons (tVar 1) (tCons (tVar 3) (tCons (tVar 7) (tCons (tC (.int 7)) tNil))))) tNil)))) σ G (0 + (0 + 3 + (0 + 100 + 0))) (fun d => ∃ ws : List (List Str), d = .tup (ws.map rowD) ∧ ws.length = 3 ∧ ∀ w ∈ ws, okW w) := by
  refine (evs_tup (pl := fun ds => ∃ ws : List (List Str), ds = ws.map rowD ∧ ws.length = 3 ∧ ∀ w ∈ ws, okW w) (eas_cons (p := fun d => d = rowD w) (pr := fun ds => ∃ w2 w3, ds = [rowD w2, rowD w3] ∧ okW w2 ∧ okW w3) ((ev_var h8 d8).toS rfl) (fun d G1 e1 _ => eas_cons (p := fun d => ∃ w2, d = rowD w2 ∧ okW w2) (pr := fun ds => ∃ w3, ds = [rowD w3] ∧ okW w3)
    (evs_callW (K := K) (S := S) (n := 0) (m := 3) (f := fun ds p => ∃ word : List Str, ds = [rowD word] ∧ word.length ≤ 9000 ∧ p = fun d => ∃ ws : List Str, d = rowD ws ∧ (∀ x ∈ ws, x ∈ word ∨ x ∈ bentL) ∧ ws.length ≤ word.length + 1) (pl := fun ds => ds = [rowD w]) h1 ((ea_cons (ev_var h8 (d8.up e1)) ea_nil).toS rfl) fun ds e => ⟨_, ⟨w, e, by omega, rfl⟩, fun d ⟨ws, a1, a2, a3⟩ => ⟨ws, a1, by omega, fun x hx => (a2 x hx).elim (hw2.2 x) (bentL_ok x)⟩⟩)
    (fun d G2 e2 _ => eas_cons (p := fun d => ∃ w3, d = rowD w3 ∧ okW w3) (pr := fun ds => ds = [])
      (evs_callW (K := K) (S := S) (n := 0) (m := 100) (f := fun ds p => ∃ (b : Kept) (x : D) (row : List Str) (most : Nat), ds = [.dic (lawD b), x, .int (most : Nat)] ∧ IsRow x row ∧ Sound b ∧ fullB b ∧ rowIn b row ∧ row.length ≤ 500 ∧ most ≤ 50 ∧ p = fun d => ∃ ws : List Str, d = rowD ws ∧ goodLetters b ws ∧ ws.length ≤ most) (pl := fun ds => ds = [.dic (lawD b), rowD row, .int ((7 : Nat) : Int)]) h1 ((ea_cons (ev_var h3 (d3.up (e1.trans e2))) (ea_cons (ev_var h7 (d7.up (e1.trans e2))) (ea_cons ev_int ea_nil))).toS rfl) fun ds e => ⟨_, ⟨b, rowD row, row, 7, e, .lst _, dr.law.snd, dr.law.full, hr, by omega, by decide, rfl⟩, fun d ⟨ws, a1, a2, a3⟩ => ⟨ws, a1, by omega, drawn_letters dr hls a2⟩⟩)
      (fun _ _ _ _ => eas_nil) ?_) ?_) ?_) ?_).imp ?_
  · rintro d ds ⟨w3, a1, a2⟩ a3
    exact ⟨w3, by rw [a1, a3], a2⟩
  · rintro d ds ⟨w2, a1, a2⟩ ⟨w3, a3, a4⟩
    exact ⟨w2, w3, by rw [a1, a3], a2, a4⟩
  · rintro d ds a1 ⟨w2, w3, a2, a3, a4⟩
    refine ⟨[w, w2, w3], by rw [a1, a2]; rfl, rfl, fun z hz => ?_⟩
    simp only [List.mem_cons, List.not_mem_nil, or_false] at hz
    rcases hz with rfl | rfl | rfl
    · exact hw2
    · exact a3
    · exact a4
  · rintro ds ⟨ws, a1, a2, _⟩
    rw [a1, List.length_map, a2]
    decide
  · rintro d ⟨ds, a1, ws, a2, a3⟩
    exact ⟨ws, by rw [a1, a2], a3⟩
end
theorem rowIn_nil {b : Kept} : rowIn b [] := fun _ h => nomatch h
theorem ok_nil : ∀ z ∈ ([] : List Str), isLetter z = true ∧ z.length ≤ 1000 := fun _ h => nomatch h
def wd (n : Nat) : List Str := as_ n ++ (["b"] : List Str)
def cbL : List Str := ["c", "b"]
theorem mix1 : MixB kb1 (bookOf ts1) := shuf_mix law1 shuf1
theorem mix0 : MixB [] (bookOf []) := shuf_mix law0 shuf0
theorem end1 : allEnd (bookOf ts1) := fun p hp => mix1.ends law1.nd (law1.ends _ (mix1.mem.mp (List.mem_map.mpr ⟨p, hp, rfl⟩)))
theorem end0 : allEnd (bookOf []) := fun p hp => mix0.ends law0.nd (law0.ends _ (mix0.mem.mp (List.mem_map.mpr ⟨p, hp, rfl⟩)))
theorem asked_of {Gi : Hp} {v : V} {b kb : Kept} {x y : D} {row word : List Str} (hb : LawB b) (hs : simpleB b) (m : MixB b kb) (bk : IsBook K Gi v kb) (h1 : IsRow x row) (h2 : IsRow y word) (hr : rowIn b row) (hl : row.length ≤ 10) (hw : word.length ≤ 1000) (hc : ∀ z ∈ word, isLetter z = true ∧ z.length ≤ 1000) : Asked K Gi v [x, y] kb row word :=
  ⟨_, _, rfl, ⟨bk, m.sz, m.simple hb.nd hs, ⟨h1, by omega, fun n hn => m.mem.mpr (hr n hn)⟩, ⟨h2, by omega, hc⟩⟩, m.sound hb.nd hb.snd, by omega, by omega⟩
theorem abc_ok : ∀ x ∈ (["a", "b", "c"] : List Str), isLetter x = true ∧ x.length ≤ 1000 := by decide +kernel
theorem in_abc {w : List Str} (h : ∀ x ∈ w, x = "a" ∨ x = "b" ∨ x = "c") : ∀ x ∈ w, isLetter x = true ∧ x.length ≤ 1000 := fun x hx => abc_ok x (by
  rcases h x hx with e | e | e <;> (rw [e]; simp))
theorem in_word (n : Nat) : ∀ x ∈ wd n, x = "a" ∨ x = "b" ∨ x = "c" := fun x hx => by
  rcases List.mem_append.mp (show x ∈ as_ n ++ (["b"] : List Str) from hx) with h | h
  · exact .inl (List.eq_of_mem_replicate h)
  · rw [List.mem_singleton.mp h]; exact .inr (.inl rfl)
theorem xs_in : ∀ n ∈ (["x", "x"] : List Str), n ∈ kb1.map (·.1) := by unfold kb1; decide +kernel

theorem sc_law : FnScope ["_law_script", "_law_stream", "_law_turn", "_law_rules", "_law_made", "_law_known", "_law_k", "_law_row", "_law_word", "_law_some", "_law_long", "_law_found"] ["_law_script"] (defScope T47.s_law) := ⟨rfl, rfl, rfl, by decide +kernel, rfl, by decide +kernel, by decide +kernel⟩
theorem has_law (T : Tx w K mg) (h_w_d_made : Has P w K mg base CX0 "_law_d_made" (8) ["_law_stream", "_law_rules"] (sp_w_d_made K)) (h_w_d_norms : Has P w K mg base CX0 "_law_d_norms" (1) ["_law_rules"] (sp_w_d_norms K)) (h_w_d_row : Has P w K mg base CX0 "_law_d_row" (4) ["_law_stream", "_law_rules", "_law_most"] (sp_w_d_row K)) (h_w_draw : Has P w K mg base CX0 "_law_draw" (1) ["_law_stream", "_law_many"] (sp_w_draw K)) (h_w_g_bent : Has P w K mg base CX0 "_law_g_bent" (3) ["_law_stream", "_law_word"] (sp_w_g_bent K)) (h_w_g_book : Has P w K mg base CX0 "_law_g_book" (4) ["_law_stream", "_law_most", "_law_letters"] (sp_w_g_book K)) (h_w_g_finished : Has P w K mg base CX0 "_law_g_finished" (5) ["_law_stream", "_law_rules", "_law_norms", "_law_row", "_law_most"] (sp_w_g_finished K)) (h_w_g_letters : Has P w K mg base CX0 "_law_g_letters" (3) ["_law_stream", "_law_most"] (sp_w_g_letters K)) (h_w_g_walk : Has P w K mg base CX0 "_law_g_walk" (4) ["_law_stream", "_law_rules", "_law_row", "_law_most"] (sp_w_g_walk K)) (h_w_held_right : Has P w K mg base CX0 "_law_held_right" (9) ["_law_made", "_law_row"] (sp_w_held_right K)) (h_w_pick : Has P w K mg base CX0 "_law_pick" (2) ["_law_stream", "_law_some"] (sp_w_pick K)) (h_w_refused_right : Has P w K mg base CX0 "_law_refused_right" (13) ["_law_stream", "_law_rules", "_law_made"] (sp_w_refused_right K)) (h_w_same : Has P w K mg base CX0 "_law_same" (8) ["_law_found", "_law_due"] (sp_same K 7)) (h_w_start : Has P w K mg base CX0 "_law_start" (1) ["_law_script"] (sp_w_start K)) (h_left_by : Has P w K mg base (L2.CX P w) "left_by" (7) ["book", "row", "word"] (sp_left_by K)) (h_letter_fault : Has P w K mg base (L2.CX P w) "letter_fault" (7) ["book", "row", "word"] (sp_letter_fault K)) (h_next_letters : Has P w K mg base (L2.CX P w) "next_letters" (8) ["book", "row", "word"] (sp_next_letters K)) (h_word : HasG P w K mg base "_law_word_right" 9 ["_law_stream", "_law_rules", "_law_made", "_law_row", "_law_word"] (sp_w_word_right K)) (mk_Book : C8.Mak P w K mg base 6 "Book" (He.ga K "Book") (sp_Book_init K) []) : HasG P w K mg base "law" (14 + 1) ["_law_script"] (spLaw K) := by
  obtain ⟨fd, F⟩ := T.def_ 67
  have gm := T.glo (x := "law") 79
  have z_list := T.free (x := "list") 88
  have z_range := T.free (x := "range") 90
  have nd := sc_law.nd
  refine has_ofG F gm sc_law (fun _ _ _ _ _ _ us hl => match us, hl with | [_], _ => rfl) (fun vs H Q E h => ?_) (fun cdv A outer s H vs Q E quiet hr h => ?_)
  · obtain ⟨_, _, e, _⟩ := h; rw [e]; rfl
  · refine ⟨_, (pss_cons (ps_set (i := 1) nd rfl (Or.inl rfl) (pe_h h_w_start (hr.mono (by omega)) rfl (pa_cons (pv 0) pa_nil)))
        (pss_cons (ps_for PassesOwn.never rfl (pi_range1 rfl z_range (pa_cons pe_int pa_nil)) (pg_name (i := 2) nd rfl (Or.inl rfl))
        (pss_cons (ps_set (i := 3) nd rfl (Or.inl rfl) (pe_h h_w_g_book (hr.mono (by omega)) rfl (pa_cons (pv 1) (pa_cons pe_int (pa_cons (pe_h h_w_g_letters (hr.mono (by omega)) rfl (pa_cons (pv 1) (pa_cons pe_int pa_nil))) pa_nil)))))
        (pss_cons (ps_par (i := 4) (j := 5) rfl nd rfl rfl (by decide) rfl rfl (pa_cons (pe_h h_w_d_made (hr.mono (by omega)) rfl (pa_cons (pv 1) (pa_cons (pv 3) pa_nil))) (pa_cons (pe_h h_w_d_norms (hr.mono (by omega)) rfl (pa_cons (pv 3) pa_nil)) pa_nil)) rfl)
        (pss_cons (ps_for PassesOwn.never rfl (pi_range1 rfl z_range (pa_cons pe_int pa_nil)) (pg_name (i := 6) nd rfl (Or.inl rfl))
        (pss_cons (ps_set (i := 7) nd rfl (Or.inl rfl) (pe_h h_w_d_row (hr.mono (by omega)) rfl (pa_cons (pv 1) (pa_cons (pv 3) (pa_cons pe_int pa_nil)))))
        (pss_cons (ps_set (i := 8) nd rfl (Or.inl rfl) (pe_h h_w_g_finished (hr.mono (by omega)) rfl (pa_cons (pv 1) (pa_cons (pv 3) (pa_cons (pv 5) (pa_cons (pv 7) (pa_cons (pe_h h_w_pick (hr.mono (by omega)) rfl (pa_cons (pv 1) (pa_cons (pe_lst (pa_cons pe_int (pa_cons pe_int (pa_cons (pe_ifExp (pt_cmpR op_eq (pv 2) pe_int (nomark _)) pe_int pe_int) pa_nil)))) pa_nil))) pa_nil)))))))
        (pss_one (ps_for PassesOwn.never rfl (pi_seq (pe_tup (pa_cons (pv 8) (pa_cons (pe_h h_w_g_bent (hr.mono (by omega)) rfl (pa_cons (pv 1) (pa_cons (pv 8) pa_nil))) (pa_cons (pe_h h_w_g_walk (hr.mono (by omega)) rfl (pa_cons (pv 1) (pa_cons (pv 3) (pa_cons (pv 7) (pa_cons pe_int pa_nil))))) pa_nil))))) (pg_name (i := 9) nd rfl (Or.inl rfl))
        (pss_one (ps_if (pt_not (pt_val (pe_hG h_word quiet (hr.mono (by omega)) rfl (pa_cons (pv 1) (pa_cons (pv 3) (pa_cons (pv 4) (pa_cons (pv 7) (pa_cons (pv 9) pa_nil)))))))) (pss_one (ps_ret pe_bl)) pss_nil)))))))
        (pss_one (ps_if (PW.pt (pw_or (pt_not (pt_val (pe_h h_w_held_right (hr.mono (by omega)) rfl (pa_cons (pv 4) (pa_cons (pe_slice sl_list (pe_callTy (call_listD rfl) rfl z_list (by decide +kernel) (pa_cons (pv 3) pa_nil)) po_none (po_some pe_int)) pa_nil))))) (pw_or1 (pt_not (pt_val (pe_h h_w_refused_right (hr.mono (by omega)) rfl (pa_cons (pv 1) (pa_cons (pv 3) (pa_cons (pv 4) pa_nil))))))))) (pss_one (ps_ret pe_bl)) pss_nil))))))
        (pss_cons (ps_set (i := 10) nd rfl (Or.inl rfl) (pe_op op_add pe_int (pe_h h_w_draw (hr.mono (by omega)) rfl (pa_cons (pv 1) (pa_cons pe_int pa_nil)))))
        (pss_cons (ps_set (i := 4) nd rfl (Or.inl rfl) (C8.pe_mk (k := 6) mk_Book hr (by omega) rfl (pa_cons (pe_lst (pa_cons (pe_tup (pa_cons pe_str (pa_cons (pe_lst (pa_cons (pe_tup (pa_cons pe_str (pa_cons (pe_lst (pa_cons pe_str (pa_cons pe_str pa_nil))) pa_nil))) (pa_cons (pe_tup (pa_cons pe_str (pa_cons (pe_lst pa_nil) pa_nil))) pa_nil))) pa_nil))) (pa_cons (pe_tup (pa_cons pe_str (pa_cons (pe_lst (pa_cons (pe_tup (pa_cons pe_str (pa_cons (pe_lst pa_nil) pa_nil))) pa_nil)) pa_nil))) pa_nil))) pa_nil)))
        (pss_cons (ps_set (i := 8) nd rfl (Or.inl rfl) (pe_op op_catR (pe_op op_rep (pe_lst (pa_cons pe_str pa_nil)) (pv 10)) (pe_lst (pa_cons pe_str pa_nil))))
        (pss_cons (ps_set (i := 11) nd rfl (Or.inl rfl) (pe_lst (pa_cons (pe_cmpR (op_eqD hr.units) (pe_hL h_left_by (hr.mono (by omega)) rfl (pa_cons (pv 4) (pa_cons (pe_lst (pa_cons pe_str pa_nil)) (pa_cons (pv 8) pa_nil)))) (pe_op op_rep (pe_lst (pa_cons pe_str pa_nil)) (pv 10)) rfl) (pa_cons (pe_hL h_letter_fault (hr.mono (by omega)) rfl (pa_cons (pv 4) (pa_cons (pe_lst (pa_cons pe_str pa_nil)) (pa_cons (pe_op op_catR (pv 8) (pe_lst (pa_cons pe_str (pa_cons pe_str pa_nil)))) pa_nil)))) pa_nil))))
        (pss_cons (ps_expr (pe_bm PySem.F.plainAttrs_list PySem.F.slot_list_extend PySem.F.type_list_extend mt_extend (pv 11) (pa_cons (pe_lst (pa_cons (pe_hL h_next_letters (by exact hr.mono (by omega)) (by rfl) (pa_cons (pv 4) (pa_cons (pe_lst (pa_cons pe_str (pa_cons pe_str pa_nil))) (pa_cons (pe_op op_catR (pv 8) (pe_op op_rep (pe_lst (pa_cons pe_str pa_nil)) (pv 10))) pa_nil)))) (pa_cons (pe_hL h_left_by (by exact hr.mono (by omega)) (by rfl) (pa_cons (C8.pe_mk (k := 6) mk_Book hr (by omega) (by rfl) (pa_cons (pe_lst pa_nil) pa_nil)) (pa_cons (pe_lst pa_nil) (pa_cons (pe_lst pa_nil) pa_nil)))) pa_nil))) pa_nil)))
        (pss_one (ps_ret (pe_h h_w_same (hr.mono (by omega)) rfl (pa_cons (pe_op op_catR (pv 11) (pe_lst (pa_cons (pe_hL h_left_by (hr.mono (by omega)) rfl (pa_cons (C8.pe_mk (k := 6) mk_Book hr (by omega) rfl (pa_cons (pe_lst pa_nil) pa_nil)) (pa_cons (pe_tup pa_nil) (pa_cons (pe_lst (pa_cons pe_str pa_nil)) pa_nil)))) (pa_cons (pe_hL h_letter_fault (hr.mono (by omega)) rfl (pa_cons (pv 4) (pa_cons (pe_lst pa_nil) (pa_cons (pe_lst pa_nil) pa_nil)))) pa_nil)))) (pa_cons (pe_lst (pa_cons pe_bl (pa_cons (pe_op op_add (pv 10) pe_int) (pa_cons (pe_lst (pa_cons pe_str (pa_cons pe_str pa_nil))) (pa_cons (pe_lst pa_nil) (pa_cons pe_non (pa_cons pe_non pa_nil))))))) pa_nil)))))))))))), ?_⟩
    obtain ⟨a, ns, rfl, hs, hns, htab, q⟩ := h
    have hcT : costT = 6000000100000 := rfl
    have hcM : costM = 2000000000000 := rfl
    have hcR : costR = 4000000000200 := rfl
    have hcB : costB = 10000 := rfl
    have hcW : costW = 2 := rfl
    have hLm : Lmax = 100000000000000 := rfl
    refine ⟨.ref a, rfl, a, ns, rfl, hs, hns, fun S H1 st s0 c0 e1 => ?_⟩
    have p0 : Ph (TT K) S (0 * costT) H1 (fun _ => none) H1 := by
      rw [Nat.zero_mul]
      exact ph_start ⟨(fun _ _ z => by cases z), rfl, rfl, st⟩ (fun p hp => ⟨#[], e1 _ _ (htab p hp), True.intro, fun p2 cv z => by cases z⟩) fun _ _ z => by cases z
    refine ⟨5, rfl, by decide, by decide, ?_⟩
    rw [show (5 : Int).toNat = 5 from rfl]
    refine for_range (lo := 0) (n := 5) (fun i σ' H' => ∃ c2 c3 c4 c5 c6 c7 c8 c9 G', σ' = [some (.ref a), some (.ref S.s), c2, c3, c4, c5, c6, c7, c8, c9, none, none] ∧ Ph (TT K) S (i * costT) H1 G' H') ⟨none, none, none, none, none, none, none, none, _, rfl, p0⟩ ?_ ?_
    · rintro i σ' H2 hi ⟨c2, c3, c4, c5, c6, c7, c8, c9, G1, rfl, p1⟩
      have hLi : i * costT ≤ 4 * costT := Nat.mul_le_mul_right _ (by omega)
      generalize hL1 : i * costT = L1 at p1 hLi
      -- the book
      refine hs_set (K := K) (evs_book (S := S) (σ := [some (.ref a), some (.ref S.s), some (.int (0 + (i : Nat))), c3, c4, c5, c6, c7, c8, c9, none, none]) rfl) p1.w (by omega) fun v3 d3 G2 H3 g2 ⟨b, ls, hd3, dr, hls⟩ hv3 => ?_
      subst hd3
      have hN := norms_ok dr.der dr.law.snd.cl dr.law.nd
      refine h_par ⟨.ref S.s, rfl, v3, rfl, S, G2, _, v3, b, rfl, g2.w, by omega, hv3, dr.law, fun vm kb G3 H4 g3 hmix hbk => ?_⟩
      refine ev_call (K := K) (G := G3) (E := E0) (σ := [some (.ref a), some (.ref S.s), some (.int (0 + (i : Nat))), some v3, c4, c5, c6, c7, c8, c9, none, none]) (f := fun ds d => ∃ b, ds = [.dic (lawD b)] ∧ Sound b ∧ (b.map (·.1)).Nodup ∧ d = .dic (fD (normsD b b.length))) (ea_cons (ev_var (i := 3) rfl (hv3.up g3.g)) ea_nil) ⟨b, rfl, dr.law.snd, dr.law.nd, rfl⟩ H4 g3.w.g _ fun v5 G4 H5 g4 hv5 => ?_
      have g14 := (g2.trans g3).trans (Gs.of g3.w g4)
      have hv34 := (hv3.up g3.g).up g4.g
      have hbk4 := hbk.up g4.g
      generalize hF : normsD b b.length = F at hN hv5
      -- nine rows
      refine ⟨9, rfl, by decide, by decide, ?_⟩
      rw [show (9 : Int).toNat = 9 from rfl]
      refine for_range (lo := 0) (n := 9) (fun j σ' H' => ∃ c6 c7 c8 c9 G', σ' = [some (.ref a), some (.ref S.s), some (.int (0 + (i : Nat))), some v3, some vm, some v5, c6, c7, c8, c9, none, none] ∧ Gs S L1 (L1 + (10065 + costM) + j * 1000) G1 H2 G' H' ∧ Same G4 G') ⟨c6, c7, c8, c9, G4, rfl, g14.more (by omega), Same.refl _⟩ ?_ ?_
      · rintro j σ' H' hj ⟨c6, c7, c8, c9, G5, rfl, g5, s5⟩
        have hv35 := hv34.up s5
        have hv55 := hv5.up s5
        refine hs_set (K := K) (evs_call (K := K) (S := S) (n := 0) (m := 100) (f := fun ds p => ∃ (b : Kept) (most : Nat), ds = [.dic (lawD b), .int (most : Nat)] ∧ namesOk b ∧ most ≤ 50 ∧ p = fun d => ∃ row : List Str, d = rowD row ∧ rowIn b row ∧ row.length ≤ most) (p := fun d => ∃ row : List Str, d = rowD row ∧ rowIn b row ∧ row.length ≤ 5) (i := 1) (E := E0) (σ := [some (.ref a), some (.ref S.s), some (.int (0 + (i : Nat))), some v3, some vm, some v5, some (.int (0 + (j : Nat))), c7, c8, c9, none, none]) (pl := fun ds => ds = [.dic (lawD b), .int ((5 : Nat) : Int)]) rfl ((ea_cons (ev_var (i := 3) rfl hv35) (ea_cons ev_int ea_nil)).toS rfl) fun ds e => ⟨b, 5, e, ⟨dr.law.snd.sz.1, dr.law.snd.nm⟩, by decide, rfl⟩) g5.w (by omega) fun v7 d7 G6 H6 g6 ⟨row, hd7, hrow, hrl⟩ hv7 => ?_
        subst hd7
        refine hs_set (K := K) (evs_fin (S := S) (σ := [some (.ref a), some (.ref S.s), some (.int (0 + (i : Nat))), some v3, some vm, some v5, some (.int (0 + (j : Nat))), some v7, c8, c9, none, none]) (i := i) rfl (by show some (some (V.int (0 + (i : Int)))) = _; rw [Int.zero_add]) rfl rfl rfl (hv35.up g6.g) (hv55.up g6.g) hv7 dr hls hN hrow hrl) g6.w (by omega) fun v8 d8 G7 H7 g7 ⟨w, hd8, hwl, hwo⟩ hv8 => ?_
        subst hd8
        have g17 := (g5.trans g6).trans g7
        have hv77 := hv7.up g7.g
        have hv37 := (hv35.up g6.g).up g7.g
        refine f_bind1 (K := K) ?_
        refine evs_three (K := K) (S := S) (E := E0) (E2 := E0) (σ := [some (.ref a), some (.ref S.s), some (.int (0 + (i : Nat))), some v3, some vm, some v5, some (.int (0 + (j : Nat))), some v7, some v8, c9, none, none]) rfl rfl rfl rfl hv37 hv77 hv8 dr hls hrow hrl hwl hwo _ H7 g7.w (by omega) _ fun v9 d9 G8 H8 g8 ⟨ws, hd9, hwsl, hws⟩ hv9 => ?_
        subst hd9
        have g18 := g17.trans g8
        refine f_seq (K := K) (σ := [some (.ref a), some (.ref S.s), some (.int (0 + (i : Nat))), some v3, some vm, some v5, some (.int (0 + (j : Nat))), some v7, some v8, c9, none, none]) (ev_k hv9) (.tup _) g8.w.g fun G9 H9 g9 => ?_
        have g19 := g18.trans (Gs.of g18.w g9)
        have s49 : Same G4 G9 := (((s5.trans g6.g).trans g7.g).trans g8.g).trans g9.g
        refine ⟨fun m σ' H' => ∃ c9 G', σ' = [some (.ref a), some (.ref S.s), some (.int (0 + (i : Nat))), some v3, some vm, some v5, some (.int (0 + (j : Nat))), some v7, some v8, c9, none, none] ∧ Gs S L1 (L1 + (10065 + costM) + j * 1000 + 500 + m * 2) G1 H2 G' H' ∧ Same G9 G', ⟨c9, G9, rfl, g19.more (by omega), Same.refl _⟩, fun m σ' H' ⟨_, G', _, g', s'⟩ => s'.trans g'.w.g, ?_, ?_⟩
        · rintro m dm um σ' H' hdm hum ⟨c9, G10, rfl, g10, s10⟩
          rw [List.getElem?_map] at hdm
          obtain ⟨wd, hwd, rfl⟩ := Option.map_eq_some_iff.mp hdm
          have hm3 : m < 3 := by rw [← hwsl]; exact (List.getElem?_eq_some_iff.mp hwd).1
          obtain ⟨o1, o2⟩ := hws wd (List.mem_of_getElem? hwd)
          have s410 := s49.trans s10
          refine ⟨.ref S.s, rfl, v3, rfl, vm, rfl, v7, rfl, um, rfl, S, G10, _, v3, vm, v7, um, b, kb, row, wd, rfl, g10.w, by omega, hv34.up s410, ((hv77.up g8.g).up g9.g).up s10, hum.up s10, hbk4.up s410, hmix, dr.law, dr.simple, dr.tight, fun n hn => (namesL_ok n (dr.nm n hn)).2, hrow, hrl, o1, o2, fun G11 H11 g11 => ⟨true, rfl, iteF ?_⟩⟩
          exact ⟨_, G11, rfl, (g10.trans g11).more (by rw [Nat.add_mul]; omega), s10.trans g11.g⟩
        · rintro σ' H' ⟨c9, G10, rfl, g10, s10⟩
          rw [List.length_map, hwsl] at g10
          exact ⟨_, _, _, _, G10, rfl, g10.more (by rw [Nat.add_mul]; omega), s49.trans s10⟩
      · rintro σ' H' ⟨c6, c7, c8, c9, G5, rfl, g5, s5⟩
        have hv35 := hv34.up s5
        have hbk5 := hbk4.up s5
        -- what is held, what is refused
        have held := eb_not (b := true) (eb_B (ev_callV (K := K) (G := G5) (E := E0) (σ := [some (.ref a), some (.ref S.s), some (.int (0 + (i : Nat))), some v3, some vm, some v5, c6, c7, c8, c9, none, none]) (f := fun G vb ds d => ∃ b kb row, IsBook K G vb kb ∧ MixB b kb ∧ LawB b ∧ simpleB b ∧ noLate b ∧ row ≠ [] ∧ rowIn b row ∧ row.length ≤ 2 ∧ ds = [rowD row] ∧ d = .bl true) (eav_cons (evv_var (i := 4) rfl) (ea_cons ((ev_slL (lo := none) (hi := some ((2 : Nat) : Int)) (to := tNoPart) (tp := tPart (tC (.int 2))) (ev_listDic (ev_var (i := 3) rfl hv35)) (fun _ _ => po_no) (fun H Q q => ⟨2, rfl, q⟩)).is (d' := rowD ((b.map (·.1)).take 2)) (by rw [cut_take, lawD_names, ← List.map_take]; rfl)) ea_nil)) fun G6 e6 => ⟨b, kb, (b.map (·.1)).take 2, hbk5.up e6, hmix, dr.law, dr.simple, drawn_late dr hls, fun z => dr.ne (by
          have := congrArg List.length z
          rw [List.length_take, List.length_map] at this
          simp only [List.length_nil] at this
          exact List.length_eq_zero_iff.mp (by omega)), fun n hn => List.mem_of_mem_take hn, by rw [List.length_take]; omega, rfl, rfl⟩))
        refine h_orF held rfl g5.w.g fun G6 H6 g6 => ?_
        have g16 := g5.trans (Gs.of g5.w g6)
        have p6 := p1.gs g16
        refine ⟨.ref S.s, rfl, v3, rfl, vm, rfl, S, noTbl G6, _, v3, vm, b, kb, rfl, ⟨p6.w, p6.t, ExtF.refl _, p6.nt⟩, by omega, dq_noTbl (hv35.up g6.g), dr.law, dr.tight, dr.simple, dr.ne, dr.nm, hmix, book_noTbl (hbk5.up g6.g), fun G7 H7 s7 p7 => ⟨true, rfl, iteF ?_⟩⟩
        exact ⟨_, _, _, _, _, _, _, _, G7, rfl, ⟨p7.w.more (by rw [Nat.add_mul]; omega), p7.t, p6.f.trans p7.f, p7.nt⟩⟩
    · rintro σ' H2 ⟨c2, c3, c4, c5, c6, c7, c8, c9, G1, rfl, p1⟩
      have h5T : 5 * costT = 30000000500000 := rfl
      dsimp only
      -- long words
      refine hs_set (K := K) (evs_plus (K := K) (S := S) (σ := [some (.ref a), some (.ref S.s), c2, c3, c4, c5, c6, c7, c8, c9, none, none]) (c := 60) (pk := fun j => j < 36) (evs_draw (n := 0) (N := 36) (i := 1) rfl (ev_int.toS ⟨36, rfl, by decide, by decide⟩) (by decide))) p1.w (by omega) fun v10 d10 G2 H3 g2 ⟨k, hd10, jj, hk, hj⟩ hv10 => ?_
      subst hd10
      cases hv10
      obtain ⟨n, rfl⟩ : ∃ n, k = n + 1 := ⟨k - 1, by omega⟩
      have hn : n + 1 ≤ 96 := by omega
      clear hj hk
      -- a book
      refine hbk_set (K := K) (evbk_mk (K := K) (G := G2) (σ := [some (.ref a), some (.ref S.s), c2, c3, c4, c5, c6, c7, c8, c9, some (.int ((n + 1 : Nat) : Int)), none]) (ts := ts1) ((ev_lst (ea_cons (ev_tup (ea_cons ev_str (ea_cons (ev_lst (ea_cons (ev_tup (ea_cons ev_str (ea_cons (ev_lst (ea_cons ev_str (ea_cons ev_str ea_nil)) (by decide)) ea_nil)) (by decide)) (ea_cons (ev_tup (ea_cons ev_str (ea_cons (ev_lst ea_nil (by decide)) ea_nil)) (by decide)) ea_nil)) (by decide)) ea_nil)) (by decide)) (ea_cons (ev_tup (ea_cons ev_str (ea_cons (ev_lst (ea_cons (ev_tup (ea_cons ev_str (ea_cons (ev_lst ea_nil (by decide)) ea_nil)) (by decide)) ea_nil) (by decide)) ea_nil)) (by decide)) ea_nil)) (by decide)).is rfl) (shuf_ok law1 shuf1) end1) g2.w.g fun vm G3 H4 g3 hbk => ?_
      have g13 := g2.trans (Gs.of g2.w g3)
      -- a word
      refine h_set (K := K) (d := rowD (wd (n + 1))) ((ev_cat (xs := (as_ (n + 1)).map D.str) (ys := [.str "b"]) (ev_reps (x := "a") (i := 10) rfl (by omega)) (ev_lst (ea_cons ev_str ea_nil) (by decide)) (by unfold as_; rw [List.length_map, List.length_replicate]; show n + 1 + 1 ≤ 100000; omega)).is (by unfold rowD wd; rw [List.map_append]; rfl)) g3.gh fun v8 G4 H5 g4 hv8 => ?_
      have hbk4 := hbk.up g4.g
      have lw : (wd (n + 1)).length = n + 2 := by unfold wd as_; rw [List.length_append, List.length_replicate]; rfl
      have inX : rowIn kb1 ["x"] := fun y hy => xs_in y (by simp at hy; rw [hy]; simp)
      have evX : ∀ {σ : L2.St} {G : Hp}, EvD K (tLst (tCons (tC (.str "x")) tNil)) σ G (rowD ["x"]) := fun {σ G} => ev_lst (ds := [.str "x"]) (ea_cons ev_str ea_nil) (by decide)
      have eL : leftIn (bookOf ts1) ["x"] (wd (n + 1)) = some (ys (n + 1)) := by rw [mix1.leftIn law1.snd kb1_simple inX]; exact last_left (n + 1)
      have eF : faultIn (bookOf ts1) ["x"] ((wd (n + 1)) ++ cbL) = some (n + 3) := by rw [mix1.faultIn law1.snd kb1_simple inX]; exact last_fault n
      have eN : (leftIn (bookOf ts1) ["x", "x"] ((wd (n + 1)) ++ cs_ (n + 1))).map (lettersOf (bookOf ts1)) = (some ["a", "b"] : Option (List Str)) := by
        have hl : (leftIn kb1 ["x", "x"] (wd (n + 1) ++ cs_ (n + 1))).map (lettersOf kb1) = (some ["a", "b"] : Option (List Str)) := last_next (n + 1)
        rw [mix1.leftIn law1.snd kb1_simple xs_in, ← hl]
        cases e : leftIn kb1 ["x", "x"] ((wd (n + 1)) ++ cs_ (n + 1)) with
        | none => rfl
        | some r => show some _ = some _; rw [mix1.letters (left_in_rows kb1_sound xs_in e)]
      have eD : faultIn (bookOf ts1) [] [] = none := by rw [mix1.faultIn law1.snd kb1_simple rowIn_nil]; exact last_done
      have e0 : leftIn (bookOf []) [] [] = some [] := rfl
      have e0a : leftIn (bookOf []) [] ["a"] = none := by rw [mix0.leftIn law0.snd none_simple rowIn_nil]; exact last_none
      have w1 := in_abc (in_word (n + 1))
      have w2 : ∀ x ∈ wd (n + 1) ++ cbL, isLetter x = true ∧ x.length ≤ 1000 := in_abc fun x hx => by
        rcases List.mem_append.mp hx with h | h
        · exact in_word _ x h
        · unfold cbL at h
          simp at h
          rcases h with rfl | rfl
          · exact .inr (.inr rfl)
          · exact .inr (.inl rfl)
      have w3 : ∀ x ∈ wd (n + 1) ++ cs_ (n + 1), isLetter x = true ∧ x.length ≤ 1000 := in_abc fun x hx => by
        rcases List.mem_append.mp hx with h | h
        · exact in_word _ x h
        · exact .inr (.inr (List.eq_of_mem_replicate h))
      have evCat : ∀ {σ : L2.St} {G : Hp} {te : TE} {z : List Str}, σ[8]? = some (some v8) → Dq K G v8 (rowD (wd (n + 1))) → EvD K te σ G (rowD z) → z.length ≤ 200 → EvD K (tOp rCatR (tVar 8) te) σ G (rowD ((wd (n + 1)) ++ z)) := fun {σ G te z} h1 h2 h3 h4 => (evn_cat (ev_var h1 h2) h3 (by rw [lw]; omega)).toD
      -- what is found
      refine m_set (K := K) (σ := [some (.ref a), some (.ref S.s), c2, c3, some vm, c5, c6, c7, some v8, c9, some (.int ((n + 1 : Nat) : Int)), none]) (i := 11) (ds := [.bl true, .int ((n + 3 : Nat) : Int)]) (evm_lst (ea_cons (ev_eqRow (xs := ys (n + 1)) ((evn_callO (f := fun G vb ds d => ∃ b row word, Asked K G vb ds b row word ∧ d = optRow (leftIn b row word)) (eav_cons (evv_var (i := 4) rfl) (ea_cons evX (ea_cons (ev_var (i := 8) rfl hv8) ea_nil))) fun G1 e1 => ⟨bookOf ts1, ["x"], wd (n + 1), asked_of law1 kb1_simple mix1 (hbk4.up e1) (.lst _) (.lst _) inX (by decide) (by omega) w1, by rw [eL]; rfl⟩).toD) (ev_reps (x := "y") (i := 10) rfl (by omega)) fun x hx => by rw [List.eq_of_mem_replicate hx]; decide +kernel) (ea_cons ((ev_callO (f := fun G vb ds d => ∃ b row word, Asked K G vb ds b row word ∧ d = optNat (faultIn b row word)) (eav_cons (evv_var (i := 4) rfl) (ea_cons evX (ea_cons (evCat (z := cbL) rfl hv8 (ev_lst (ds := [.str "c", .str "b"]) (ea_cons ev_str (ea_cons ev_str ea_nil)) (by decide)) (by decide)) ea_nil))) fun G1 e1 => ⟨bookOf ts1, ["x"], (wd (n + 1)) ++ cbL, asked_of law1 kb1_simple mix1 (hbk4.up e1) (.lst _) (.lst _) inX (by decide) (by rw [List.length_append, lw]; show n + 2 + 2 ≤ 1000; omega) w2, by rw [eF]; rfl⟩).is rfl) ea_nil)) (by show 2 ≤ 100000; decide)) g4.gh fun fd G5 H6 g5 hfd m5 => ?_
      have hv85 := hv8.up g5.g
      have hbk5 := hbk4.up g5.g
      have lc : (cs_ (n + 1)).length = n + 1 := by unfold cs_; rw [List.length_replicate]
      refine h_ext (K := K) (σ := [some (.ref a), some (.ref S.s), c2, c3, some vm, c5, c6, c7, some v8, c9, some (.int ((n + 1 : Nat) : Int)), some (.ref fd)]) (i := 11) (es := [rowD ["a", "b"], .lst []]) rfl m5 (evm_lst (ea_cons ((evn_callO (f := fun G vb ds d => ∃ b row word, Asked K G vb ds b row word ∧ d = optRow ((leftIn b row word).map (lettersOf b))) (eav_cons (evv_var (i := 4) rfl) (ea_cons (ev_lst (ds := [.str "x", .str "x"]) (ea_cons ev_str (ea_cons ev_str ea_nil)) (by decide)) (ea_cons (evCat (z := cs_ (n + 1)) rfl hv85 (ev_reps (x := "c") (i := 10) rfl (by omega)) (by omega)) ea_nil))) fun G1 e1 => ⟨bookOf ts1, ["x", "x"], (wd (n + 1)) ++ cs_ (n + 1), asked_of law1 kb1_simple mix1 (hbk5.up e1) (.lst _) (.lst _) xs_in (by decide) (by rw [List.length_append, lw, lc]; omega) w3, by rw [eN]; rfl⟩).toD) (ea_cons (ev_callBk (kb := bookOf []) (f := fun G vb ds d => ∃ b row word, Asked K G vb ds b row word ∧ d = optRow (leftIn b row word)) (evbk_mk (ts := []) (ev_lst (ds := []) ea_nil (by decide)) (shuf_ok law0 shuf0) end0) (ea_cons (ev_lst (ds := []) ea_nil (by decide)) (ea_cons (ev_lst (ds := []) ea_nil (by decide)) ea_nil)) fun G1 v e1 hb => ⟨bookOf [], [], [], asked_of law0 none_simple mix0 hb (.lst _) (.lst _) rowIn_nil (by decide) (by decide) ok_nil, by rw [e0]; rfl⟩) ea_nil)) (by show 2 ≤ 100000; decide)) (by show 4 ≤ 100000; decide) g5.gh fun G6 H7 o6 g6 m6 hG6 => ?_
      obtain ⟨vs, k1, k2, k3⟩ := m6.ex
      have sF : Same G6 (upd G6 fd (.lst vs)) := same_new k2
      have eH : Same (upd G6 fd (.lst vs)) (upd H7 fd o6) := same_mut (same_upd g6.gh hG6) k1
      have hF : Dq K (upd G6 fd (.lst vs)) (.ref fd) (.lst [.bl true, .int ((n + 3 : Nat) : Int), rowD ["a", "b"], .lst []]) := .lst (.inl upd_same) (k3.up sF)
      have hbk6 := (hbk5.up g6.g).up sF
      dsimp only
      refine ev_call (K := K) (G := upd G6 fd (.lst vs)) (E := E0) (σ := [some (.ref a), some (.ref S.s), c2, c3, some vm, c5, c6, c7, some v8, c9, some (.int ((n + 1 : Nat) : Int)), some (.ref fd)]) (f := fun ds d => ∃ x, ds = [x, x] ∧ Dp 7 x ∧ d = .bl true) (d := .bl true) (ds := [.lst ([.bl true, .int ((n + 3 : Nat) : Int), rowD ["a", "b"], .lst []] ++ [.non, .non]), .lst ([.bl true, .int ((n + 3 : Nat) : Int), rowD ["a", "b"], .lst []] ++ [.non, .non])]) (ea_cons (ev_cat (ev_var (i := 11) rfl hF) (ev_lst (ea_cons (ev_callBk (kb := bookOf []) (f := fun G vb ds d => ∃ b row word, Asked K G vb ds b row word ∧ d = optRow (leftIn b row word)) (evbk_mk (ts := []) (ev_lst (ds := []) ea_nil (by decide)) (shuf_ok law0 shuf0) end0) (ea_cons (ev_tup (ds := []) ea_nil (by decide)) (ea_cons (ev_lst (ds := [.str "a"]) (ea_cons ev_str ea_nil) (by decide)) ea_nil)) fun G1 v e1 hb => ⟨bookOf [], [], ["a"], asked_of law0 none_simple mix0 hb (.tup _) (.lst _) rowIn_nil (by decide) (by decide) (fun x hx => abc_ok x (by simp at hx; rw [hx]; simp)), by rw [e0a]; rfl⟩) (ea_cons ((ev_callO (f := fun G vb ds d => ∃ b row word, Asked K G vb ds b row word ∧ d = optNat (faultIn b row word)) (eav_cons (evv_var (i := 4) rfl) (ea_cons (ev_lst (ds := []) ea_nil (by decide)) (ea_cons (ev_lst (ds := []) ea_nil (by decide)) ea_nil))) fun G1 e1 => ⟨bookOf ts1, [], [], asked_of law1 kb1_simple mix1 (hbk6.up e1) (.lst _) (.lst _) rowIn_nil (by decide) (by decide) ok_nil, by rw [eD]; rfl⟩).is rfl) ea_nil)) (by show 2 ≤ 100000; decide)) (by show 6 ≤ 100000; decide)) (ea_cons (ev_lst (ea_cons ev_bl (ea_cons (ev_I0 (K := K) (i := ((n + 1 : Nat) : Int)) (j := 2) (z := .int ((n + 3 : Nat) : Int)) (ev_var (i := 10) rfl (.int _)) ev_int (dq_int (by omega))) (ea_cons (ev_lst (ds := [.str "a", .str "b"]) (ea_cons ev_str (ea_cons ev_str ea_nil)) (by decide)) (ea_cons (ev_lst (ds := []) ea_nil (by decide)) (ea_cons ev_non (ea_cons ev_non ea_nil)))))) (by show 6 ≤ 100000; decide)) ea_nil)) ⟨_, rfl, dpB_ok rfl, rfl⟩ _ eH _ fun v G7 H8 g7 hv => ?_
      cases hv
      exact q H8

end
end T47
/-! The end, where the law's def must know that nothing is shown just now. -/
namespace Pk
open PySem PySem.Spec PyProof.Rows L2 T47 LamX
section
variable {P : Program} {w : World} {K : PySem.W.Frag} {mg mb : Str → Option Value} {k : Nat} {fa la : Addr} {tabs : List (Addr × Addr)} {fd : FuncData} {x : Str} {sp : Sp} {st : Shared} {us : List Value} {ns : List Int}
/-- what is tracked when the law begins: the tables, and the script where it is none of the kept things -/
def firstH (K : PySem.W.Frag) (la : Addr) (tabs : List (Addr × Addr)) (us : List Value) (ns : List Int) : Hp := fun b =>
  if b ∈ tabs.map (·.2) then some (.tbl #[]) else if b = la ∧ K.lookup la = none then some (.frz { cls := .type "list", data := .seq us.toArray } (.lst (ns.map V.int))) else none
theorem firstH_tab {b : Addr} (h : b ∈ tabs.map (·.2)) : firstH K la tabs us ns b = some (.tbl #[]) := if_pos h
theorem firstH_la (h : la ∉ tabs.map (·.2)) (n : K.lookup la = none) : firstH K la tabs us ns la = some (.frz { cls := .type "list", data := .seq us.toArray } (.lst (ns.map V.int))) := by
  unfold firstH
  rw [if_neg h, if_pos ⟨rfl, n⟩]
theorem firstH_cases (b : Addr) : (b ∈ tabs.map (·.2) ∧ firstH K la tabs us ns b = some (.tbl #[])) ∨ (b ∉ tabs.map (·.2) ∧ b = la ∧ K.lookup la = none ∧ firstH K la tabs us ns b = some (.frz { cls := .type "list", data := .seq us.toArray } (.lst (ns.map V.int)))) ∨ (b ∉ tabs.map (·.2) ∧ firstH K la tabs us ns b = none) := by
  unfold firstH
  by_cases h1 : b ∈ tabs.map (·.2)
  · exact .inl ⟨h1, if_pos h1⟩
  · rw [if_neg h1]
    by_cases h2 : b = la ∧ K.lookup la = none
    · exact .inr (.inl ⟨h1, h2.1, h2.2, if_pos h2⟩)
    · exact .inr (.inr ⟨h1, if_neg h2⟩)
theorem law_callG (kin : K.In st.heap) (globs : st.heap.Ns mainGlobals mg) (blts : st.heap.Ns builtinsNs mb) (boot : ∀ y : Str, y ≠ "__name__" → mb y = bootBuiltins y) (nolim : st.heap.NoLimit) (gens : st.gens = #[])
    (tabAt : ∀ p ∈ tabs, st.heap.get? p.2 = some { cls := .none, data := .fields #[] }) (tabOut : ∀ p ∈ tabs, K.lookup p.2 = none) (heads : ∀ p ∈ tabs, PySem.W.CodeHd st.heap p.1 p.2)
    (bmod : ∃ (bm : Addr) (ob : Obj), mg "__builtins__" = some (.ref bm) ∧ bm ≠ builtinsNs ∧ st.heap.get? bm = some ob ∧ ob.cls = .type "module" ∧ ob.dict = some builtinsNs ∧ ob.data = .plain)
    (listAt : st.heap.get? la = some { cls := .type "list", data := .seq us.toArray }) (whole : IntsAre us ns) (short : ns.length ≤ sizeLine) (room : Room k callerA)
    (F : ∀ base : Heap, K.In base → base.Ns mainGlobals mg → (∀ p ∈ tabs, TabB base mg p.1 p.2) → FnG P w K mg base k fa fd [x] sp) (binds : ∀ (s : Shared) (u : Value), BindsTo s fd ⟨[u], []⟩ [(x, u)])
    (wish : ∀ H : Hp, (∀ p ∈ tabs, H p.2 = some (.tbl #[])) → SqL K H la (ns.map V.int) → sp [.ref la] H (fun v _ => v = .bl true) fun _ _ _ => False) :
    codeAny (model P w) callerA (.call (.ref fa) ⟨[.ref la], []⟩) (fun r s' => r = .ok (.ret (.bool true)) ∧ OldK st.heap s'.heap ∧ s'.os = st.os ∧ AllBare s'.gens) st := by
  have rel := vals_ints whole
  have same_len := whole.length
  have tabObj : ∀ {b : Addr}, b ∈ tabs.map (·.2) → st.heap.get? b = some { cls := .none, data := .fields #[] } := fun {b} hb => by
    obtain ⟨p, hp, rfl⟩ := List.mem_map.mp hb
    exact tabAt p hp
  have apart : la ∉ tabs.map (·.2) := fun z => by
    have q := (tabObj z).symm.trans listAt
    cases q
  have tabIn : ∀ p ∈ tabs, p.2 ∈ tabs.map (·.2) := fun p hp => List.mem_map.mpr ⟨p, hp, rfl⟩
  have spl := fun b => firstH_cases (K := K) (la := la) (tabs := tabs) (us := us) (ns := ns) b
  -- what is tracked is as it is tracked
  have hok : HOk P w (firstH K la tabs us ns) st.heap := fun b u e => by
    rcases spl b with ⟨h1, h2⟩ | ⟨_, h1, _, h2⟩ | ⟨_, h2⟩
    · have := h2.symm.trans e
      cases this
      exact tabObj h1
    · have := h2.symm.trans e
      cases this
      rw [h1]
      exact ⟨listAt, by rw [List.length_map]; exact short, us, _, rel, listAt⟩
    · have := h2.symm.trans e
      cases this
  have sq : SqL K (firstH K la tabs us ns) la (ns.map V.int) := by
    cases hk : K.lookup la with
    | some o =>
      have := (kin la o hk).symm.trans listAt
      cases this
      exact .inr ⟨_, us.toArray, _, hk, rfl, rfl, rfl, by rw [List.size_toArray, same_len]; exact short, by simpa using rel⟩
    | none => exact .inl (.inr ⟨_, firstH_la apart hk⟩)
  -- what is neither a list nor a table lies in the part that stays
  have stays : ∀ {b : Addr} {o : Obj}, st.heap.get? b = some o → (∀ vs n, o.data ≠ .seq vs n) → o.data ≠ .fields #[] → (hidT st.heap (firstH K la tabs us ns)).get? b = some o := fun {b o} e n1 n2 => hidT_get e (by
    rcases spl b with ⟨h1, _⟩ | ⟨_, h1, _⟩ | ⟨_, h2⟩
    · have q := (tabObj h1).symm.trans e
      cases q
      exact absurd rfl n2
    · rw [h1] at e
      have q := listAt.symm.trans e
      cases q
      exact absurd rfl (n1 _ _)
    · exact h2)
  have nsB : ∀ {b : Addr} {m : Str → Option Value}, st.heap.Ns b m → (hidT st.heap (firstH K la tabs us ns)).Ns b m := fun {b m} h => by
    obtain ⟨o, es, ep, e, d, r⟩ := h
    exact ⟨o, es, ep, stays e (fun _ _ z => by rw [d] at z; cases z) (fun z => by rw [d] at z; cases z), d, r⟩
  have kinB : K.In (hidT st.heap (firstH K la tabs us ns)) := fun b o e => hidT_get (kin b o e) (by
    rcases spl b with ⟨h1, _⟩ | ⟨_, h1, h2, _⟩ | ⟨_, h2⟩
    · obtain ⟨p, hp, rfl⟩ := List.mem_map.mp h1
      rw [tabOut p hp] at e
      cases e
    · rw [h1, h2] at e
      cases e
    · exact h2)
  have modB : L2.Mod K mg (hidT st.heap (firstH K la tabs us ns)) := by
    obtain ⟨mc, l1, l2⟩ := nolim
    exact ⟨kinB, nsB globs, ⟨mb, nsB blts, boot⟩, mc, nsB l1, l2⟩
  have headB : ∀ p ∈ tabs, TabB (hidT st.heap (firstH K la tabs us ns)) mg p.1 p.2 := fun p hp => by
    have atP := tabAt p hp
    obtain ⟨og, es, ep, eg, dg, _⟩ := id globs
    refine ⟨?_, ?_, fun z => ?_⟩
    · obtain ⟨o, ws, file, tf, flags, tg, inF, text, tt, q1, q2, q3, q4⟩ := heads p hp
      obtain ⟨q4, q5, q6, q7, q8, q9, q10⟩ := q4
      exact ⟨o, ws, file, tf, flags, tg, inF, text, tt, stays q1 (fun _ _ z => by rw [q3] at z; cases z) (fun z => by rw [q3] at z; cases z; simp at q4), q2, q3, q4, q5, q6, q7, q8, q9, q10⟩
    · obtain ⟨bm, ob, u1, u2, u3, u4, u5, u6⟩ := bmod
      refine ⟨bm, ob, u1, u2, fun z => ?_, fun z => ?_, stays u3 (fun _ _ z => by rw [u6] at z; cases z) (fun z => by rw [u6] at z; cases z), u4, u5, u6⟩
      · have q : og = ob := Option.some.inj (eg.symm.trans (show st.heap.get? mainGlobals = some ob from z ▸ u3))
        rw [q, u6] at dg
        cases dg
      · have q := atP.symm.trans (show st.heap.get? p.2 = some ob from z ▸ u3)
        have := Option.some.inj q
        rw [← this] at u6
        cases u6
    · have q := atP.symm.trans (show st.heap.get? p.2 = some og from z.symm ▸ eg)
      have := Option.some.inj q
      rw [← this] at dg
      cases dg
  have env0 : Env0 P w K mg (hidT st.heap (firstH K la tabs us ns)) callerA [] st (firstH K la tabs us ns) :=
    ⟨rfl, modB, fun b o e => of_hidT e, Nat.le_of_eq (hidT_size _ _), trivial, fun b hb => absurd (show b ∈ ([] : List Addr) from hb) (by simp), hok, .of_eq gens⟩
  refine codeAny_mono ((F _ kinB (nsB globs) headB).run callerA [] st (firstH K la tabs us ns) ⟨[.ref la], []⟩ [.ref la] [.ref la] _ _ rfl room env0 (binds st (.ref la)) (.cons rfl .nil) (wish _ (fun p hp => firstH_tab (tabIn p hp)) sq)) fun r s' out => ?_
  cases r with
  | error e => exact False.elim (by first | exact out | (obtain ⟨_, h⟩ := out; exact h))
  | ok fl =>
    cases fl with
    | next => exact False.elim out
    | brk => exact False.elim out
    | cont => exact False.elim out
    | ret u =>
      obtain ⟨v, H', os, bare, un, hok', rv, q⟩ := out
      have q : v = .bl true := q
      subst q
      obtain rfl : u = Value.bool true := rv
      have keepsB : ∀ b o, b ∉ tabs.map (·.2) → st.heap.get? b = some o → s'.heap.get? b = some o := fun b o nb e => by
        rcases spl b with ⟨h1, _⟩ | ⟨_, h1, _, h2⟩ | ⟨_, h2⟩
        · exact absurd h1 nb
        · have z := un.frzs b _ _ h2
          have e1 := (hok b _ h2).1
          have e2 := (hok' b _ z).1
          rw [e] at e1
          cases e1
          exact e2
        · exact un.keep b o e h2 (by intro z; exact absurd (show b ∈ ([] : List Addr) from z) (by simp)) (by simp)
      have grow : ∀ p ∈ tabs, ∃ more : Array Value, s'.heap.get? p.2 = some { cls := .none, data := .fields more } := fun p hp => by
        obtain ⟨more, z⟩ := un.tbls p.2 #[] (firstH_tab (tabIn p hp))
        exact ⟨_, hok' p.2 _ z⟩
      refine ⟨rfl, ⟨fun b o e => ?_, fun b o e => ?_⟩, os, bare⟩
      · by_cases hb : b ∈ tabs.map (·.2)
        · obtain ⟨p, hp, rfl⟩ := List.mem_map.mp hb
          obtain ⟨more, hm⟩ := grow p hp
          have q := (tabAt p hp).symm.trans e
          cases q
          exact .inr (.inl ⟨((heads p hp).tab (tabAt p hp)).isCodeTable, rfl, #[], more, rfl, by rw [Array.empty_append]; exact hm⟩)
        · exact .inl (keepsB b o hb e)
      · by_cases hb : b ∈ tabs.map (·.2)
        · obtain ⟨p, hp, rfl⟩ := List.mem_map.mp hb
          obtain ⟨more, hm⟩ := grow p hp
          exact ⟨_, hm⟩
        · exact ⟨o, keepsB b o hb e⟩
end
/-- the walk's end by such a def -/
theorem walk_ofG {l : PySem.W.OpenLaw} {n k : Nat} {q : Program} {loose : List Str} {XP : (Str → Option Value) → Heap → Prop} {YP : World → Heap → Prop} {d : DefRec} {x : Str}
    (hn : l.most = some n) (hn2 : n ≤ sizeLine) (hdf : d.params.defaults = []) (room : Room k callerA)
    (F : ∀ (w : World) (mg : Str → Option Value) (fa : Addr) (h : Heap), YP w h → h.Ns mainGlobals mg → mg d.name = some (.ref fa) → ∃ (K : PySem.W.Frag) (fd : FuncData) (tabs : List (Addr × Addr)) (sp : Sp), K.In h ∧ (∀ p ∈ tabs, h.get? p.2 = some { cls := .none, data := .fields #[] }) ∧ (∀ p ∈ tabs, K.lookup p.2 = none) ∧ (∀ p ∈ tabs, PySem.W.CodeHd h p.1 p.2) ∧ (∀ (s : Shared) (u : Value), BindsTo s fd ⟨[u], []⟩ [(x, u)]) ∧
      (∀ (H : Hp) (a : Addr) (ns : List Int), ns.length ≤ n → (∀ p ∈ tabs, H p.2 = some (.tbl #[])) → SqL K H a (ns.map V.int) → sp [.ref a] H (fun v _ => v = .bl true) fun _ _ _ => False) ∧
      ∀ base : Heap, K.In base → base.Ns mainGlobals mg → (∀ p ∈ tabs, TabB base mg p.1 p.2) → FnG l.prog w K mg base k fa fd [x] sp) :
    PySem.W.WalkO q loose XP YP l.row.toRowW d [] (fun f vs => PySem.call f vs) := by
  refine Att.attach_callB hn hdf fun w s₀ s₁ mg mb fa o pm cd doc a vs ns G Y ho hd hcd hmg hobj hints hlen hbits hg => ?_
  obtain ⟨K, fd, tabs, sp, kin, t1, t2, t3, bi, ws, fn⟩ := F w mg fa _ Y G.T.g hmg
  exact law_callG kin G.T.g G.T.b G.T.builtins G.T.nolimit hg t1 t2 t3 G.T.bmain hobj hints (Nat.le_trans hlen hn2) room fn bi fun H hH hS => ws H a ns hlen hH hS
end Pk
namespace T47
open PySem PySem.Spec PyProof.Rows L2 Pk LamX
section
variable {P : Program} {w : World} {K : PySem.W.Frag} {mg : Str → Option Value} {base : Heap}
/-- every def keeps its promise, the law's too -/
theorem law_all (T : Tx w K mg) (t1 : TabB base mg (He.cT K ("_law_g_refused", none)).1 (He.cT K ("_law_g_refused", none)).2) (t2 : TabB base mg (He.cT K ("_law_refused_right", none)).1 (He.cT K ("_law_refused_right", none)).2) : HasG P w K mg base "law" (14 + 1) ["_law_script"] (spLaw K) := by
  have is_list := has_is_list (P := P) (base := base) T
  have is_name := has_is_name (P := P) (base := base) T
  have is_bare_letter := has_is_bare_letter (P := P) (base := base) T
  have is_letter := has_is_letter T is_bare_letter
  have is_row := has_is_row T is_list is_name
  have is_one_of := has_is_one_of (P := P) (base := base) T
  have is_rule := has_is_rule T is_letter is_list is_row
  have as_rule := has_as_rule (P := P) (base := base) T
  have is_talk := has_is_talk T as_rule is_list is_name is_rule
  have lacking_in := has_lacking_in (P := P) (base := base) T
  have norms_in := has_norms_in (P := P) (base := base) T
  have checked_talks := has_checked_talks T as_rule is_list is_talk lacking_in
  have book := mak_Book T checked_talks norms_in
  have checked_book := has_checked_book T (exc_BadBook (P := P) (base := base) T)
  have checked_row := has_checked_row T is_list is_one_of (exc_BadRow T)
  have checked_word := has_checked_word T is_letter is_list (exc_BadWord T)
  have checked_simple := has_checked_simple T checked_book (exc_NotSimple T)
  have checked_along := has_checked_along T checked_row checked_simple checked_word
  have left_behind := has_left_behind (P := P) (base := base) T
  have rows_along := has_rows_along T left_behind
  have left_in := has_left_in T rows_along
  have fault_in := has_fault_in T rows_along
  have letters_of := has_letters_of (P := P) (base := base) T
  have left_by := has_left_by T checked_along left_in
  have letter_fault := has_letter_fault T checked_along fault_in
  have next_letters := has_next_letters T left_by letters_of
  have is_finished := has_is_finished T letter_fault
  have draw := has_w_draw (P := P) (base := base) T
  have pick := has_w_pick T draw
  have mixed := has_w_mixed T draw
  have d_names := has_w_d_names T mixed
  have g_letters := has_w_g_letters T draw mixed
  have d_row := has_w_d_row T draw pick
  have d_norm := has_w_d_norm (P := P) (base := base) T
  have loose := has_w_loose T draw
  have g_rows := has_w_g_rows (P := P) (base := base) T
  have g_fault := has_w_g_fault T g_rows
  have g_rest := has_w_g_rest T d_norm
  have g_walk := has_w_g_walk T draw pick
  have g_finished := has_w_g_finished T g_rest g_rows g_walk
  have g_bent := has_w_g_bent T draw pick
  have d_norms := has_w_d_norms (P := P) (base := base) T
  have start := has_w_start (P := P) (base := base) T
  have same := has_w_same (P := P) (base := base) T 7
  have rules := met_Book_rules T is_one_of
  have talks := met_Book_talks T rules
  have d_made := has_w_d_made T (loose 5) mixed book
  have odd_rows := has_w_d_odd_rows (P := P) (base := base) T
  have odd_words := has_w_g_odd_words (P := P) (base := base) T
  have twice := has_w_g_twice T draw mixed
  have refused := has_w_g_refused T d_made odd_rows twice same t1 talks
  have refused_right := has_w_refused_right T draw odd_words refused same t2 left_by next_letters letter_fault is_finished
  have held_right := has_w_held_right T same is_finished left_by letter_fault
  have word_right := has_w_word_right T g_fault g_rows (loose 1) same left_by letter_fault next_letters (hask_left_by T checked_along left_in) (hask_is_finished T letter_fault)
  have g_book := has_w_g_book T d_names draw mixed pick
  exact has_law T d_made d_norms d_row draw g_bent g_book g_finished g_letters g_walk held_right pick refused_right same start left_by letter_fault next_letters word_right book
end
theorem tabs_of {K : PySem.W.Frag} : tf.map (He.cT K) = [He.cT K ("_law_g_refused", none), He.cT K ("_law_refused_right", none)] := rfl
theorem facts {w : World} {K : PySem.W.Frag} {h : Heap} {mg : Str → Option Value} {f : Addr} (KX : K.In h) (G : h.Ns mainGlobals mg) (hfa : mg ("law" : Str) = some (.ref f)) (c : He.SaysX fa fn [] tf ex w h K) :
    ∃ (fd : FuncData) (tabs : List (Addr × Addr)) (sp : Sp), (∀ p ∈ tabs, h.get? p.2 = some { cls := .none, data := .fields #[] }) ∧ (∀ p ∈ tabs, K.lookup p.2 = none) ∧ (∀ p ∈ tabs, PySem.W.CodeHd h p.1 p.2) ∧ (∀ (s : Shared) (u : Value), BindsTo s fd ⟨[u], []⟩ [("_law_script", u)]) ∧
      (∀ (H : Hp) (a : Addr) (ns : List Int), ns.length ≤ 63 → (∀ p ∈ tabs, H p.2 = some (.tbl #[])) → SqL K H a (ns.map V.int) → sp [.ref a] H (fun v _ => v = .bl true) fun _ _ _ => False) ∧
      ∀ base : Heap, K.In base → base.Ns mainGlobals mg → (∀ p ∈ tabs, TabB base mg p.1 p.2) → FnG (PySem.Challenge.rw_primetalks_k47_whole_left_and_faults).prog w K mg base 15 f fd ["_law_script"] sp := by
  have T : Tx w K mg := ⟨h, KX, G, c⟩
  have mem1 : (("_law_g_refused", none) : He.Defn) ∈ tf := by unfold tf; simp
  have mem2 : (("_law_refused_right", none) : He.Defn) ∈ tf := by unfold tf; simp
  have one : ∀ base : Heap, (∀ p ∈ tf.map (He.cT K), TabB base mg p.1 p.2) → HasG (PySem.Challenge.rw_primetalks_k47_whole_left_and_faults).prog w K mg base "law" (14 + 1) ["_law_script"] (spLaw K) := fun base tb =>
    law_all T (tb _ (List.mem_map.mpr ⟨_, mem1, rfl⟩)) (tb _ (List.mem_map.mpr ⟨_, mem2, rfl⟩))
  obtain ⟨fd, Fd⟩ := T.def_ 67
  have same_fd : ∀ base : Heap, (∀ p ∈ tf.map (He.cT K), TabB base mg p.1 p.2) → FnG (PySem.Challenge.rw_primetalks_k47_whole_left_and_faults).prog w K mg base 15 f fd ["_law_script"] (spLaw K) := fun base tb => by
    obtain ⟨f2, fd2, F2, hm2, _, _, oc2, od2, osl2, l2⟩ := (one base tb).ex
    rw [hfa] at hm2
    cases hm2
    have gm := T.glo (x := "law") 79
    rw [hfa] at gm
    obtain ⟨oc, od, dV, kV, doc, pm, an, cdv, ct, osl, rfl, lk, _⟩ := Fd.ex
    have ef : f = He.fAd K ("law", none) := by
      have := Option.some.inj gm
      cases this
      rfl
    rw [ef] at l2
    have := l2.symm.trans lk
    cases this
    exact F2
  refine ⟨fd, tf.map (He.cT K), spLaw K, fun p hp => ?_, fun p hp => ?_, fun p hp => ?_, fun s u => ?_, fun H a ns hl ht hs => ⟨a, ns, rfl, hs, hl, fun p hp => ?_, fun _ => rfl⟩, fun base _ _ tb => same_fd base tb⟩
  · obtain ⟨d, hd, rfl⟩ := List.mem_map.mp hp
    exact c.empty d hd
  · obtain ⟨d, hd, rfl⟩ := List.mem_map.mp hp
    exact c.out d hd
  · obtain ⟨d, hd, rfl⟩ := List.mem_map.mp hp
    exact PySem.W.codeHd_of_K KX (c.hd d hd)
  · exact Fd.bindsA (ps := ["_law_script"]) (fun _ _ _ _ _ _ us hl => match us, hl with | [_], _ => rfl) s [u] rfl
  · unfold TT at hp
    rcases List.mem_cons.mp hp with z | hp
    · rw [z]
      exact ht _ (List.mem_map.mpr ⟨_, mem1, rfl⟩)
    · rw [List.mem_singleton.mp hp]
      exact ht _ (List.mem_map.mpr ⟨_, mem2, rfl⟩)
end T47
open PySem PySem.W PySem.Calls PyProof.Rows
theorem PySem.Challenge.cw_primetalks_k47_whole_left_and_faults_holds : PySem.Challenge.rw_primetalks_k47_whole_left_and_faults.Holds := by
  w_on; o_law
  refine HandSHeadRun.head_any (r := T47.R) (q := view T47.R.prog [74]) (H := T47.hk) (ob := T47.ob) (M := 6000) (loose := T47.loose) (d := HandSHeadRun.topDef T47.R.prog 74) (kwd := []) T47.ob_eq
    (by kernel_rfl) (fun s => by kernel_rfl) T47.run (by kernel_rfl) (by kernel_rfl) (by kernel_rfl) (by rfl) (by first | assumption | decide +kernel) (by decide +kernel) ⟨rfl, rfl, rfl, rfl, rfl, by decide +kernel⟩ ?hw ?hc
  case hw => w_witness2
  case hc =>
    refine Pk.walk_ofG (l := PySem.Challenge.rw_primetalks_k47_whole_left_and_faults) (n := 63) (k := 15) (x := "_law_script") rfl (by decide) (by kernel_rfl) ⟨rfl, by decide, by decide⟩ ?F
    intro w mg fa h Y G hmg0
    obtain ⟨K, KX, c⟩ := Y
    have hmg : mg ("law" : PySem.Str) = some (.ref fa) := by
      have e : (HandSHeadRun.topDef T47.R.prog 74).name = ("law" : PySem.Str) := by kernel_rfl
      rw [← e]
      exact hmg0
    obtain ⟨fd, tabs, sp, z⟩ := T47.facts KX G hmg c
    exact ⟨K, fd, tabs, sp, KX, z⟩
