import PyProof.Rows.All
import Wide.All
import OpenK.AllK
import Wide.FinOn
import KE.KStateDown
import Lean
import HandS.ForMost
import HandS.Exc
import HandS.TryOnly
import HandS.ExcOwn
import HandS.Defaults
import HandS.Flow
import HandS.Walk
import HandS.WordsExc
import HandS.More
import HandS.Conv
import HandS.IsInst
import HandS.TupLen
import HandS.FStr
import HandS.RaiseMore
import HandS.DictComp
import HandS.TupAny
import HandS.Small
import HandS.ExcInit
import HandS.ExcField
import HandS.TryMany
import HandS.Deep
import HandS.Iter
import KE.GoesEnum
import KE.GoesZip
import KE.GoesMore
import PyProof.ListIndex
import KE.GoesRaise
import HandS.Style
import KE.SortData
import KE.KDictSum
import PyProof.TupleOfSeq
import HandS.WordsDict
import PyProof.ListStr
import HandS.Head0
import HandS.Head1
import HandS.Head2
import HandS.HeadEnd
import HandS.HeadHook1
import HandS.HeadHook2
import HandS.HeadHook3
import HandS.HeadHook4
import HandS.HeadWalk
import PySem.Challenge.RW_wordturns_k11_errors_are_apart
set_option Elab.async false
set_option linter.all false
set_option maxRecDepth 100000
set_option maxHeartbeats 0
namespace Yl
open PySem PySem.Spec PyProof.Rows L2
abbrev Tx := List Nat
def ts (x : Tx) : Str := ⟨x.toArray⟩
def tyS : Nat → String
  | 0 => "NoneType"
  | 1 => "bool"
  | 2 => "int"
  | 3 => "str"
  | 4 => "tuple"
  | 5 => "list"
  | _ => "dict"
def ownB (K : PySem.W.Frag) (C : Addr) : Bool := decide (PySem.W.findIn K (.ref C) "__class__" = some (some (.builtin "object.__class__"))) && (decide (PySem.W.specialIn K (.builtin "object.__class__") "__get__" = some (some (.builtin "getset_descriptor.__get__"))) &&
  (decide (PySem.W.takesIn K (.builtin "object.__class__") = some true) && (decide (PySem.W.subIn K (.type "int") (.ref C) = some false) && (decide (PySem.W.mroIn K C (.type "object") = some true) && (decide (PySem.W.kitOne K (.ref C) (.ref C) = some true) && (List.range 7).all fun n => decide (PySem.W.kitOne K (.type (tyS n)) (.ref C) = some false))))))
def oexB (K : PySem.W.Frag) (C : Addr) : Bool := (match K.lookup C with
  | some ⟨.type c, _, .cls ⟨_, _, .ref C' :: bm, _, _, hd, _, _, _, _, del⟩, sl⟩ => decide (c = "type") && (decide (C' = C) && (hd && (!del && (HandSPX.refsVE bm && (match sl.toList with
    | [_, _, _, _, some (.builtin n), _] => decide (n = "ValueError.__new__")
    | _ => false)))))
  | _ => false) && (decide (PySem.W.findIn K (.ref C) "__setattr__" = some (some (.builtin "object.__setattr__"))) && (decide (PySem.W.subIn K (.ref C) (.type "BaseException") = some true) && (decide (PySem.W.typeIn K (.ref C) = some (.type "type")) && PySem.W.keepIn K (.ref C))))
def kdB (K : PySem.W.Frag) (a : Addr) : List (Tx × Int) → Bool
  | [] => true
  | (k, i) :: r => (match PySem.W.nsIn K a (ts k) with
    | some (some u) => He.relB (.int i) u
    | _ => false) && kdB K a r
end Yl
namespace Wt
open PySem PySem.Spec PyProof.Rows L2 Yl
def top (i : Nat) : Stmt := PySem.Challenge.pw_wordturns_k11_errors_are_apart.main.body.getD i (.Pass ⟨0, 0, 0, 0⟩)
abbrev s_is_word : Stmt := top 15
def d_is_word : He.DefD := ⟨("is_word", none), "is_word", "is_word", defArgs s_is_word, defBody s_is_word, defScope s_is_word, [], []⟩
abbrev s_are_letters : Stmt := top 16
def d_are_letters : He.DefD := ⟨("are_letters", none), "are_letters", "are_letters", defArgs s_are_letters, defBody s_are_letters, defScope s_are_letters, [], []⟩
abbrev s_are_barred : Stmt := top 17
def d_are_barred : He.DefD := ⟨("are_barred", none), "are_barred", "are_barred", defArgs s_are_barred, defBody s_are_barred, defScope s_are_barred, [], []⟩
abbrev s_are_passes : Stmt := top 18
def d_are_passes : He.DefD := ⟨("are_passes", none), "are_passes", "are_passes", defArgs s_are_passes, defBody s_are_passes, defScope s_are_passes, [], []⟩
abbrev s_others_of : Stmt := top 20
def d_others_of : He.DefD := ⟨("others_of", none), "others_of", "others_of", defArgs s_others_of, defBody s_others_of, defScope s_others_of, [], []⟩
abbrev s_letters_of : Stmt := top 21
def d_letters_of : He.DefD := ⟨("letters_of", none), "letters_of", "letters_of", defArgs s_letters_of, defBody s_letters_of, defScope s_letters_of, [], []⟩
abbrev s_with_barred : Stmt := top 22
def d_with_barred : He.DefD := ⟨("with_barred", none), "with_barred", "with_barred", defArgs s_with_barred, defBody s_with_barred, defScope s_with_barred, [], []⟩
abbrev s_is_ending : Stmt := top 24
def d_is_ending : He.DefD := ⟨("is_ending", none), "is_ending", "is_ending", defArgs s_is_ending, defBody s_is_ending, defScope s_is_ending, [], []⟩
abbrev s_cut_tail : Stmt := top 25
def d_cut_tail : He.DefD := ⟨("cut_tail", none), "cut_tail", "cut_tail", defArgs s_cut_tail, defBody s_cut_tail, defScope s_cut_tail, [], []⟩
abbrev s_step : Stmt := top 26
def d_step : He.DefD := ⟨("step", none), "step", "step", defArgs s_step, defBody s_step, defScope s_step, [], []⟩
abbrev s_tail_or_none : Stmt := top 27
def d_tail_or_none : He.DefD := ⟨("tail_or_none", none), "tail_or_none", "tail_or_none", defArgs s_tail_or_none, defBody s_tail_or_none, defScope s_tail_or_none, [], []⟩
abbrev s_tail : Stmt := top 28
def d_tail : He.DefD := ⟨("tail", none), "tail", "tail", defArgs s_tail, defBody s_tail, defScope s_tail, [], []⟩
abbrev s_all_tails : Stmt := top 29
def d_all_tails : He.DefD := ⟨("all_tails", none), "all_tails", "all_tails", defArgs s_all_tails, defBody s_all_tails, defScope s_all_tails, [], []⟩
abbrev s_stand_of : Stmt := top 30
def d_stand_of : He.DefD := ⟨("stand_of", none), "stand_of", "stand_of", defArgs s_stand_of, defBody s_stand_of, defScope s_stand_of, [], []⟩
abbrev s_stands : Stmt := top 31
def d_stands : He.DefD := ⟨("stands", none), "stands", "stands", defArgs s_stands, defBody s_stands, defScope s_stands, [], []⟩
abbrev s_turns : Stmt := top 34
def d_turns : He.DefD := ⟨("turns", none), "turns", "turns", defArgs s_turns, defBody s_turns, defScope s_turns, [], []⟩
abbrev s_seen_from : Stmt := top 35
def d_seen_from : He.DefD := ⟨("seen_from", none), "seen_from", "seen_from", defArgs s_seen_from, defBody s_seen_from, defScope s_seen_from, [], []⟩
abbrev s_value_by : Stmt := top 36
def d_value_by : He.DefD := ⟨("value_by", none), "value_by", "value_by", defArgs s_value_by, defBody s_value_by, defScope s_value_by, [], []⟩
abbrev s_decided : Stmt := top 37
def d_decided : He.DefD := ⟨("decided", none), "decided", "decided", defArgs s_decided, defBody s_decided, defScope s_decided, [], []⟩
abbrev s_all_values : Stmt := top 38
def d_all_values : He.DefD := ⟨("all_values", none), "all_values", "all_values", defArgs s_all_values, defBody s_all_values, defScope s_all_values, [], []⟩
abbrev s_check_stand : Stmt := top 39
def d_check_stand : He.DefD := ⟨("check_stand", none), "check_stand", "check_stand", defArgs s_check_stand, defBody s_check_stand, defScope s_check_stand, [], []⟩
abbrev s_value : Stmt := top 40
def d_value : He.DefD := ⟨("value", none), "value", "value", defArgs s_value, defBody s_value, defScope s_value, [], []⟩
abbrev s_good_turns : Stmt := top 41
def d_good_turns : He.DefD := ⟨("good_turns", none), "good_turns", "good_turns", defArgs s_good_turns, defBody s_good_turns, defScope s_good_turns, [], []⟩
abbrev s_good : Stmt := top 42
def d_good : He.DefD := ⟨("good", none), "good", "good", defArgs s_good, defBody s_good, defScope s_good, [], []⟩
abbrev s_line : Stmt := top 43
def d_line : He.DefD := ⟨("line", none), "line", "line", defArgs s_line, defBody s_line, defScope s_line, [], []⟩
abbrev s_first_word : Stmt := top 45
def d_first_word : He.DefD := ⟨("first_word", none), "first_word", "first_word", defArgs s_first_word, defBody s_first_word, defScope s_first_word, [], []⟩
abbrev s_parting : Stmt := top 48
def d_parting : He.DefD := ⟨("parting", none), "parting", "parting", defArgs s_parting, defBody s_parting, defScope s_parting, [], []⟩
abbrev s_alike : Stmt := top 49
def d_alike : He.DefD := ⟨("alike", none), "alike", "alike", defArgs s_alike, defBody s_alike, defScope s_alike, [], []⟩
abbrev s_without : Stmt := top 50
def d_without : He.DefD := ⟨("without", none), "without", "without", defArgs s_without, defBody s_without, defScope s_without, [], []⟩
abbrev s_small_words : Stmt := top 51
def d_small_words : He.DefD := ⟨("small_words", none), "small_words", "small_words", defArgs s_small_words, defBody s_small_words, defScope s_small_words, [], []⟩
abbrev s_all_changes : Stmt := top 52
def d_all_changes : He.DefD := ⟨("all_changes", none), "all_changes", "all_changes", defArgs s_all_changes, defBody s_all_changes, defScope s_all_changes, [], []⟩
abbrev s_first_of_word : Stmt := top 53
def d_first_of_word : He.DefD := ⟨("first_of_word", none), "first_of_word", "first_of_word", defArgs s_first_of_word, defBody s_first_of_word, defScope s_first_of_word, [], []⟩
abbrev s_changes : Stmt := top 54
def d_changes : He.DefD := ⟨("changes", none), "changes", "changes", defArgs s_changes, defBody s_changes, defScope s_changes, [], []⟩
abbrev s_barred_in : Stmt := top 59
def d_barred_in : He.DefD := ⟨("barred_in", none), "barred_in", "barred_in", defArgs s_barred_in, defBody s_barred_in, defScope s_barred_in, [], []⟩
abbrev s_letters_in : Stmt := top 60
def d_letters_in : He.DefD := ⟨("letters_in", none), "letters_in", "letters_in", defArgs s_letters_in, defBody s_letters_in, defScope s_letters_in, [], []⟩
abbrev s_rule_in : Stmt := top 61
def d_rule_in : He.DefD := ⟨("rule_in", none), "rule_in", "rule_in", defArgs s_rule_in, defBody s_rule_in, defScope s_rule_in, [], []⟩
abbrev s_part_in : Stmt := top 62
def d_part_in : He.DefD := ⟨("part_in", none), "part_in", "part_in", defArgs s_part_in, defBody s_part_in, defScope s_part_in, [], []⟩
abbrev s_read : Stmt := top 63
def d_read : He.DefD := ⟨("read", none), "read", "read", defArgs s_read, defBody s_read, defScope s_read, [], []⟩
abbrev s_check_lot : Stmt := top 65
def d_check_lot : He.DefD := ⟨("check_lot", none), "check_lot", "check_lot", defArgs s_check_lot, defBody s_check_lot, defScope s_check_lot, [], []⟩
abbrev s_nexts : Stmt := top 66
def d_nexts : He.DefD := ⟨("nexts", none), "nexts", "nexts", defArgs s_nexts, defBody s_nexts, defScope s_nexts, [], []⟩
abbrev s_least_missing : Stmt := top 67
def d_least_missing : He.DefD := ⟨("least_missing", none), "least_missing", "least_missing", defArgs s_least_missing, defBody s_least_missing, defScope s_least_missing, [], []⟩
abbrev s_worth_at : Stmt := top 68
def d_worth_at : He.DefD := ⟨("worth_at", none), "worth_at", "worth_at", defArgs s_worth_at, defBody s_worth_at, defScope s_worth_at, [], []⟩
abbrev s_worth : Stmt := top 69
def d_worth : He.DefD := ⟨("worth", none), "worth", "worth", defArgs s_worth, defBody s_worth, defScope s_worth, [], []⟩
abbrev s_added : Stmt := top 70
def d_added : He.DefD := ⟨("added", none), "added", "added", defArgs s_added, defBody s_added, defScope s_added, [], []⟩
abbrev s_wins : Stmt := top 71
def d_wins : He.DefD := ⟨("wins", none), "wins", "wins", defArgs s_wins, defBody s_wins, defScope s_wins, [], []⟩
abbrev s_law_begin : Stmt := top 73
def d_law_begin : He.DefD := ⟨("_law_begin", none), "_law_begin", "_law_begin", defArgs s_law_begin, defBody s_law_begin, defScope s_law_begin, [], []⟩
abbrev s_law_draw : Stmt := top 74
def d_law_draw : He.DefD := ⟨("_law_draw", none), "_law_draw", "_law_draw", defArgs s_law_draw, defBody s_law_draw, defScope s_law_draw, [], []⟩
abbrev s_law_word_call : Stmt := top 75
def d_law_word_call : He.DefD := ⟨("_law_word_call", none), "_law_word_call", "_law_word_call", defArgs s_law_word_call, defBody s_law_word_call, defScope s_law_word_call, [], []⟩
abbrev s_law_call : Stmt := top 76
def d_law_call : He.DefD := ⟨("_law_call", none), "_law_call", "_law_call", defArgs s_law_call, defBody s_law_call, defScope s_law_call, [], []⟩
abbrev s_law_kind : Stmt := top 77
def d_law_kind : He.DefD := ⟨("_law_kind", none), "_law_kind", "_law_kind", defArgs s_law_kind, defBody s_law_kind, defScope s_law_kind, [], []⟩
abbrev s_law_under : Stmt := top 78
def d_law_under : He.DefD := ⟨("_law_under", none), "_law_under", "_law_under", defArgs s_law_under, defBody s_law_under, defScope s_law_under, [], []⟩
abbrev s_law : Stmt := top 79
def d_law : He.DefD := ⟨("law", none), "law", "law", defArgs s_law, defBody s_law, defScope s_law, [], []⟩
abbrev s_BadLine_init : Stmt := inClass (top 11) 0
def d_BadLine_init : He.DefD := ⟨("BadLine", some "__init__"), "__init__", "BadLine.__init__", defArgs s_BadLine_init, defBody s_BadLine_init, defScope s_BadLine_init, [], []⟩
abbrev s_Lot_init : Stmt := inClass (top 19) 0
def d_Lot_init : He.DefD := ⟨("Lot", some "__init__"), "__init__", "Lot.__init__", defArgs s_Lot_init, defBody s_Lot_init, defScope s_Lot_init, [.str "loses", .int 0], []⟩
abbrev s_Both_init : Stmt := inClass (top 46) 0
def d_Both_init : He.DefD := ⟨("Both", some "__init__"), "__init__", "Both.__init__", defArgs s_Both_init, defBody s_Both_init, defScope s_Both_init, [], []⟩
abbrev s_Led_init : Stmt := inClass (top 56) 0
def d_Led_init : He.DefD := ⟨("Led", some "__init__"), "__init__", "Led.__init__", defArgs s_Led_init, defBody s_Led_init, defScope s_Led_init, [], []⟩
abbrev s_Led_stand : Stmt := inClass (top 56) 1
def d_Led_stand : He.DefD := ⟨("Led", some "stand"), "stand", "Led.stand", defArgs s_Led_stand, defBody s_Led_stand, defScope s_Led_stand, [], []⟩
abbrev s_Led_turn : Stmt := inClass (top 56) 2
def d_Led_turn : He.DefD := ⟨("Led", some "turn"), "turn", "Led.turn", defArgs s_Led_turn, defBody s_Led_turn, defScope s_Led_turn, [], []⟩
abbrev s_Led_best : Stmt := inClass (top 56) 7
def d_Led_best : He.DefD := ⟨("Led", some "best"), "best", "Led.best", defArgs s_Led_best, defBody s_Led_best, defScope s_Led_best, [], []⟩
abbrev s_Led_undo : Stmt := inClass (top 56) 8
def d_Led_undo : He.DefD := ⟨("Led", some "undo"), "undo", "Led.undo", defArgs s_Led_undo, defBody s_Led_undo, defScope s_Led_undo, [], []⟩
def loose0 : List Str := ["_wall", "is_word", "are_letters", "are_barred", "are_passes", "others_of", "letters_of", "with_barred", "is_ending", "cut_tail", "step", "tail_or_none", "tail", "all_tails", "stand_of"]
def loose1 : List Str := ["stands", "turns", "seen_from", "value_by", "decided", "all_values", "check_stand", "value", "good_turns", "good", "line", "first_word", "parted_here", "parting", "alike"]
def loose2 : List Str := ["without", "small_words", "all_changes", "first_of_word", "changes", "barred_in", "letters_in", "rule_in", "part_in", "read", "check_lot", "nexts", "least_missing", "worth_at", "worth"]
def loose3 : List Str := ["added", "wins", "_law_begin", "_law_draw", "_law_word_call", "_law_call", "_law_kind", "_law_under", "TurnError", "BadLot", "BadWord", "DoneWord", "BadStand", "NoWorth", "BadTurn"]
def loose4 : List Str := ["GameOver", "NothingDone", "BadLine", "Lot", "Both", "Led", "LETTERS", "RULES", "PASS", "COUNTS"]
def loose : List Str := loose0 ++ loose1 ++ loose2 ++ loose3 ++ loose4
def fn : List He.DefD := [d_is_word, d_are_letters, d_are_barred, d_are_passes, d_others_of, d_letters_of, d_with_barred, d_is_ending, d_cut_tail, d_step, d_tail_or_none, d_tail, d_all_tails, d_stand_of, d_stands, d_turns, d_seen_from, d_value_by, d_decided, d_all_values, d_check_stand, d_value, d_good_turns, d_good, d_line, d_first_word, d_parting, d_alike, d_without, d_small_words, d_all_changes, d_first_of_word, d_changes, d_barred_in, d_letters_in, d_rule_in, d_part_in, d_read, d_check_lot, d_nexts, d_least_missing, d_worth_at, d_worth, d_added, d_wins, d_law_begin, d_law_draw, d_law_word_call, d_law_call, d_law_kind, d_law_under, d_law, d_BadLine_init, d_Lot_init, d_Both_init, d_Led_init, d_Led_stand, d_Led_turn, d_Led_best, d_Led_undo]
def fa0 : List He.Fa := [.glo "is_word", .glo "are_letters", .glo "are_barred", .glo "are_passes", .glo "others_of", .glo "letters_of", .glo "with_barred", .glo "is_ending", .glo "cut_tail", .glo "step", .glo "tail_or_none", .glo "tail", .glo "all_tails", .glo "stand_of", .glo "stands", .glo "turns", .glo "seen_from", .glo "value_by", .glo "decided", .glo "all_values", .glo "check_stand", .glo "value", .glo "good_turns", .glo "good", .glo "line", .glo "first_word", .glo "parting", .glo "alike", .glo "without", .glo "small_words", .glo "all_changes", .glo "first_of_word", .glo "changes", .glo "barred_in", .glo "letters_in"]
def fa1 : List He.Fa := [.glo "rule_in", .glo "part_in", .glo "read", .glo "check_lot", .glo "nexts", .glo "least_missing", .glo "worth_at", .glo "worth", .glo "added", .glo "wins", .glo "_law_begin", .glo "_law_draw", .glo "_law_word_call", .glo "_law_call", .glo "_law_kind", .glo "_law_under", .glo "law", .glo "TurnError", .exc "TurnError", .keep "TurnError", .glo "BadLot", .exc "BadLot", .keep "BadLot", .glo "BadWord", .exc "BadWord", .keep "BadWord", .glo "DoneWord", .exc "DoneWord", .keep "DoneWord", .glo "BadStand", .exc "BadStand", .keep "BadStand", .glo "NoWorth", .exc "NoWorth", .keep "NoWorth"]
def fa2 : List He.Fa := [.glo "BadTurn", .exc "BadTurn", .keep "BadTurn", .glo "GameOver", .exc "GameOver", .keep "GameOver", .glo "NothingDone", .exc "NothingDone", .keep "NothingDone", .glo "BadLine", .keep "BadLine", .meth "BadLine" "__init__", .glo "Lot", .cls "Lot", .mkr "Lot", .noat "Lot" "barred", .noat "Lot" "first", .noat "Lot" "second", .noat "Lot" "rule", .noat "Lot" "passes", .meth "Lot" "__init__", .glo "Both", .cls "Both", .mkr "Both", .noat "Both" "one", .noat "Both" "other", .noat "Both" "first", .noat "Both" "second", .meth "Both" "__init__", .glo "Led", .cls "Led", .mkr "Led", .noat "Led" "lot", .noat "Led" "begin", .noat "Led" "starter"]
def fa3 : List He.Fa := [.noat "Led" "first_stand", .noat "Led" "known", .noat "Led" "done", .meth "Led" "__init__", .meth "Led" "stand", .meth "Led" "turn", .meth "Led" "best", .meth "Led" "undo", .exm "BadLot" "BadLot" true, .exm "BadLot" "TurnError" true, .exm "BadWord" "BadLot" false, .exm "BadWord" "BadWord" true, .exm "BadWord" "TurnError" true, .exm "DoneWord" "BadLot" false, .exm "DoneWord" "BadWord" false, .exm "DoneWord" "DoneWord" true, .exm "DoneWord" "TurnError" true, .exm "BadStand" "BadLot" false, .exm "BadStand" "BadWord" false, .exm "BadStand" "DoneWord" false, .exm "BadStand" "BadStand" true, .exm "BadStand" "TurnError" true, .exm "NoWorth" "BadLot" false, .exm "NoWorth" "BadWord" false, .exm "NoWorth" "DoneWord" false, .exm "NoWorth" "BadStand" false, .exm "NoWorth" "NoWorth" true, .exm "NoWorth" "TurnError" true, .exm "BadTurn" "BadLot" false, .exm "BadTurn" "BadWord" false, .exm "BadTurn" "DoneWord" false, .exm "BadTurn" "BadStand" false, .exm "BadTurn" "NoWorth" false, .exm "BadTurn" "BadTurn" true, .exm "BadTurn" "TurnError" true]
def fa4 : List He.Fa := [.exm "GameOver" "BadLot" false, .exm "GameOver" "BadWord" false, .exm "GameOver" "DoneWord" false, .exm "GameOver" "BadStand" false, .exm "GameOver" "NoWorth" false, .exm "GameOver" "BadTurn" false, .exm "GameOver" "GameOver" true, .exm "GameOver" "TurnError" true, .exm "NothingDone" "BadLot" false, .exm "NothingDone" "BadWord" false, .exm "NothingDone" "DoneWord" false, .exm "NothingDone" "BadStand" false, .exm "NothingDone" "NoWorth" false, .exm "NothingDone" "BadTurn" false, .exm "NothingDone" "GameOver" false, .exm "NothingDone" "NothingDone" true, .exm "NothingDone" "TurnError" true, .exm "BadLine" "BadLot" false, .exm "BadLine" "BadWord" false, .exm "BadLine" "DoneWord" false, .exm "BadLine" "BadStand" false, .exm "BadLine" "NoWorth" false, .exm "BadLine" "BadTurn" false, .exm "BadLine" "GameOver" false, .exm "BadLine" "NothingDone" false, .exm "BadLine" "BadLine" true, .exm "BadLine" "TurnError" true, .free "all", .free "any", .free "bool", .free "dict", .free "enumerate", .free "int", .free "isinstance", .free "len"]
def fa5 : List He.Fa := [.free "list", .free "max", .free "min", .free "range", .free "sorted", .free "str", .free "tuple", .free "zip", .str "LETTERS" "abcd", .glo "RULES", .str "PASS" "pass", .glo "COUNTS"]
def fa : List He.Fa := fa0 ++ fa1 ++ fa2 ++ fa3 ++ fa4 ++ fa5
def ts : List He.Tab := [(fun K => He.ga K "COUNTS", ["0", "1", "2"])]
def moreB (K : PySem.W.Frag) : Bool := He.tupB K "RULES" [.str "loses", .str "wins"] && (Yl.kdB K (He.ga K "COUNTS") [([48], 0), ([49], 1), ([50], 2)] && (Yl.ownB K (He.ga K "Lot") && (Yl.ownB K (He.ga K "Both") && (Yl.ownB K (He.ga K "Led") && ((Yl.oexB K (He.ga K "BadLine") && (L2.xfB K (He.ga K "BadLine") && (decide (PySem.W.findIn K (.ref (He.ga K "BadLine")) (Yl.ts [108, 105, 110, 101]) = some none) && (decide (PySem.W.findIn K (.ref (He.ga K "BadLine")) "__init__" = some (some (.ref (He.fAd K ("BadLine", some "__init__"))))) && decide (PySem.W.typeIn K (.ref (He.fAd K ("BadLine", some "__init__"))) = some (.type "function")))))))))))
abbrev R : PySem.W.OpenRow := PySem.W.OpenLaw.row PySem.Challenge.rw_wordturns_k11_errors_are_apart
abbrev hk : PySem.W.Hook := He.hookX 5 fa fn ts [] moreB
def ob (s : PySem.W.SharedT) : He.AlX := He.obsX 5 fa fn ts [] moreB (HandSHeadRun.getT s)
theorem ob_eq (s : PySem.W.SharedT) : ob s = hk.obs s.abs := He.obsX_eq (HandSHeadRun.getT_eq s)
theorem run_f (w : World) : HandSHeadRun.RunEq R (PySem.W.view R.prog [79]) hk ob 8000 loose (w.withFollow "special-get-raises" false) := by
  intro os
  kernel_rfl
theorem run_t (w : World) : HandSHeadRun.RunEq R (PySem.W.view R.prog [79]) hk ob 8000 loose (w.withFollow "special-get-raises" true) := by
  intro os
  kernel_rfl
theorem run (w : World) : HandSHeadRun.RunEq R (PySem.W.view R.prog [79]) hk ob 8000 loose w := PySem.W.byRow2 "special-get-raises" (P := fun w => HandSHeadRun.RunEq R (PySem.W.view R.prog [79]) hk ob 8000 loose w) run_f run_t w

end Wt
set_option maxRecDepth 100000
/-! Y0: data, a small language, what it computes. -/
namespace Yl
inductive D where
  | non | bl (b : Bool) | int (i : Int) | str (x : Tx) | ty (n : Nat) | cl (c : Nat) | ref (i : Nat) | zz
  | tup (xs : List D) | ktup (xs : List D) | lst (xs : List D) | dct (t : Bool) (kvs : List (D × D)) | kdct (kvs : List (Tx × Int)) | ins (C : Nat) (fs : List (Tx × D)) | xo (fs : List (Tx × D))
  deriving Inhabited
abbrev Hc := List (Option D)
abbrev Env := List (Option D)
abbrev Pl := Option (List (Tx × D))
/-- may stand as a thing of its own -/
def boxd : D → Bool
  | .lst _ => true
  | .dct _ _ => true
  | .ins _ _ => true
  | _ => false
mutual
/-- no cell is named -/
def D.nr : D → Bool
  | .ref _ => false
  | .zz => false
  | .xo _ => false
  | .tup xs => nrL xs
  | .ktup xs => nrL xs
  | .lst xs => nrL xs
  | .dct _ kvs => nrK kvs
  | .ins _ fs => nrF fs
  | _ => true
def nrL : List D → Bool
  | [] => true
  | d :: ds => d.nr && nrL ds
def nrK : List (D × D) → Bool
  | [] => true
  | p :: ps => nrP p && nrK ps
def nrP : D × D → Bool
  | (a, b) => a.nr && b.nr
def nrF : List (Tx × D) → Bool
  | [] => true
  | p :: ps => nrQ p && nrF ps
def nrQ : Tx × D → Bool
  | (_, b) => b.nr
end
def lim : Nat := 16777216
/-! ### what a run comes to -/
inductive T (α : Type) where
  | ok (a : α) | ex (c : Nat) (pl : Pl) (h : Hc) | no | dr (n : Nat) (f : Nat → T α)
namespace T
def bind {α β : Type} : T α → (α → T β) → T β
  | ok a, f => f a
  | ex c pl h, _ => ex c pl h
  | no, _ => no
  | dr n g, f => dr n fun i => (g i).bind f
def good {α : Type} : T α → (α → Prop) → (Nat → Pl → Hc → Prop) → Prop
  | ok a, P, _ => P a
  | ex c pl h, _, X => X c pl h
  | no, _, _ => False
  | dr n f, P, X => ∀ i, i < n → (f i).good P X
def goodB {α : Type} : T α → (α → Bool) → Bool
  | ok a, P => P a
  | ex _ _ _, _ => false
  | no, _ => false
  | dr n f, P => (List.range n).all fun i => (f i).goodB P
theorem good_bind {α β : Type} {P : β → Prop} {X : Nat → Pl → Hc → Prop} : ∀ {t : T α} {f : α → T β}, (t.bind f).good P X ↔ t.good (fun a => (f a).good P X) X
  | ok a, f => Iff.rfl
  | ex c pl h, f => Iff.rfl
  | no, f => Iff.rfl
  | dr n g, f => ⟨fun h i hi => good_bind.mp (h i hi), fun h i hi => good_bind.mpr (h i hi)⟩
theorem good_mono {α : Type} {P P' : α → Prop} {X X' : Nat → Pl → Hc → Prop} (hp : ∀ a, P a → P' a) (hx : ∀ c pl h, X c pl h → X' c pl h) : ∀ {t : T α}, t.good P X → t.good P' X'
  | ok a, h => hp a h
  | ex c pl h', h => hx c pl h' h
  | no, h => h
  | dr n g, h => fun i hi => good_mono hp hx (h i hi)
theorem good_of {α : Type} {P : α → Bool} {X : Nat → Pl → Hc → Prop} : ∀ {t : T α}, t.goodB P = true → t.good (fun a => P a = true) X
  | ok a, h => h
  | ex c pl h', h => by cases h
  | no, h => by cases h
  | dr n g, h => fun i hi => good_of (List.all_eq_true.mp h i (List.mem_range.mpr hi))
def opt {α : Type} : Option α → T α
  | some a => ok a
  | none => no
end T
abbrev Rs := Bool × D × Hc
/-- the value -/
abbrev val (d : D) (h : Hc) : T Rs := .ok (false, d, h)
/-! ### operations -/
def isNon : D → Bool
  | .non => true
  | _ => false
def deref (h : Hc) : D → D
  | .ref j => match h[j]? with
    | some (some d) => d
    | _ => .zz
  | d => d
def txBeq : Tx → Tx → Bool
  | [], [] => true
  | a :: x, b :: y => Nat.beq a b && txBeq x y
  | _, _ => false
def txLt : Tx → Tx → Bool
  | [], [] => false
  | [], _ :: _ => true
  | _ :: _, [] => false
  | a :: x, b :: y => if Nat.blt a b then true else if Nat.beq a b then txLt x y else false
/-- of at most that depth, of lists, tuples and flat things -/
def depOk : Nat → D → Bool
  | 0, _ => false
  | n + 1, d => match d with
    | .non => true
    | .bl _ => true
    | .int _ => true
    | .str x => x.all fun c => Nat.blt c 1114112
    | .lst xs => xs.all (depOk n)
    | .tup xs => xs.all (depOk n)
    | .ktup xs => xs.all (depOk n)
    | _ => false
mutual
def eqv : D → D → Bool
  | .non, .non => true
  | .bl a, .bl b => a == b
  | .bl a, .int b => (if a then 1 else 0) == b
  | .int a, .bl b => a == (if b then 1 else 0)
  | .int a, .int b => a == b
  | .str a, .str b => txBeq a b
  | .lst a, .lst b => eqvL a b
  | .tup a, .tup b => eqvL a b
  | .ktup a, .tup b => eqvL a b
  | .tup a, .ktup b => eqvL a b
  | .ktup a, .ktup b => eqvL a b
  | _, _ => false
def eqvL : List D → List D → Bool
  | [], [] => true
  | a :: x, b :: y => eqv a b && eqvL x y
  | _, _ => false
end
/-- the order of ints, texts and tuples of these -/
def ltF : D → D → Bool
  | .int a, .int b => decide (a < b)
  | .str a, .str b => txLt a b
  | _, _ => false
def ltFs : List D → List D → Bool
  | [], [] => false
  | [], _ :: _ => true
  | _ :: _, [] => false
  | a :: x, b :: y => if eqv a b then ltFs x y else ltF a b
def ltB : D → D → Bool
  | .tup a, .tup b => ltFs a b
  | a, b => ltF a b
def shF : D → Nat
  | .int _ => 1
  | .str _ => 2
  | _ => 0
/-- the shape of what is sorted -/
def shp : D → List Nat
  | .tup (x :: xs) => if (x :: xs).all (fun d => !Nat.beq (shF d) 0) then 3 :: (x :: xs).map shF else []
  | .int _ => [1]
  | .str _ => [2]
  | _ => []
/-- flat: ints and texts -/
def flatK : D → Bool
  | .int _ => true
  | .str _ => true
  | _ => false
def isTupKey : D → Bool
  | .tup xs => xs.all flatK
  | _ => false
def getD (kvs : List (D × D)) (k : D) : Option D := match kvs with
  | [] => none
  | (a, b) :: r => if eqv a k then some b else getD r k
def putD (kvs : List (D × D)) (k v : D) : List (D × D) := if kvs.any (fun p => eqv p.1 k) then kvs.map (fun p => if eqv p.1 k then (p.1, v) else p) else kvs ++ [(k, v)]
def dropD (kvs : List (D × D)) (k : D) : List (D × D) := kvs.filter fun p => !eqv p.1 k
/-- t: the keys are tuples -/
def fits (t : Bool) (k : D) : Bool := if t then isTupKey k else flatK k
inductive O2 where
  | add | sub | mul | fdiv | mod | lt | le | gt | ge | eq | ne | isN | notN | isin | nin | ix | pow
  deriving DecidableEq
def ixN (n : Nat) (i : Int) : Option Nat := if 0 ≤ i then (if i.toNat < n then some i.toNat else none) else if 0 ≤ i + n then some (i + n).toNat else none
def flt : D → Bool
  | .non => true
  | .bl _ => true
  | .int _ => true
  | .str _ => true
  | _ => false
def inD (x y : D) : Option Bool := match y with
  | .lst ys => if depOk 6 x && depOk 6 y then some (ys.any fun z => eqv z x) else none
  | .tup ys => if flt x && ys.all flt then some (ys.any fun z => eqv z x) else none
  | .ktup ys => if flt x && ys.all flt then some (ys.any fun z => eqv z x) else none
  | .dct t kvs => if fits t x then some (getD kvs x).isSome else none
  | .kdct kvs => match x with
    | .str s => some (kvs.lookup s).isSome
    | _ => none
  | .str ys => match x with
    | .str [c] => some (ys.any fun b => Nat.beq b c)
    | _ => none
  | _ => none
/-- x o y; a container that is a cell is read -/
def o_add (h : Hc) (x y : D)  : Option (Bool × D) := match deref h x, deref h y with
    | .int i, .int j => some (false, .int (i + j))
    | .str a, .str b => if a.length + b.length ≤ lim then some (false, .str (a ++ b)) else none
    | .lst a, .lst b => if a.length + b.length ≤ lim then some (true, .lst (a ++ b)) else none
    | .tup a, .tup b => if a.length + b.length ≤ lim then some (false, .tup (a ++ b)) else none
    | _, _ => none
def o_sub (h : Hc) (x y : D)  : Option (Bool × D) := match x, y with
    | .int i, .int j => some (false, .int (i - j))
    | _, _ => none
def o_mul (h : Hc) (x y : D)  : Option (Bool × D) := match x, y with
    | .int i, .int j => if -18446744073709551616 < j ∧ j < 18446744073709551616 then some (false, .int (i * j)) else none
    | _, _ => none
def o_fdiv (h : Hc) (x y : D)  : Option (Bool × D) := match x, y with
    | .int i, .int j => if 0 < j ∧ j < 1073741824 then some (false, .int (i / j)) else none
    | _, _ => none
def o_mod (h : Hc) (x y : D)  : Option (Bool × D) := match x, y with
    | .int i, .int j => if 0 < j then some (false, .int (i % j)) else none
    | _, _ => none
def o_lt (h : Hc) (x y : D)  : Option (Bool × D) := match x, y with
    | .int i, .int j => some (false, .bl (decide (i < j)))
    | .str a, .str b => some (false, .bl (txLt a b))
    | _, _ => none
def o_le (h : Hc) (x y : D)  : Option (Bool × D) := match x, y with
    | .int i, .int j => some (false, .bl (decide (i ≤ j)))
    | _, _ => none
def o_gt (h : Hc) (x y : D)  : Option (Bool × D) := match x, y with
    | .int i, .int j => some (false, .bl (decide (j < i)))
    | _, _ => none
def o_ge (h : Hc) (x y : D)  : Option (Bool × D) := match x, y with
    | .int i, .int j => some (false, .bl (decide (j ≤ i)))
    | _, _ => none
def o_eq (h : Hc) (x y : D)  : Option (Bool × D) := if depOk 6 (deref h x) && depOk 6 (deref h y) then some (false, .bl (eqv (deref h x) (deref h y))) else none
def o_ne (h : Hc) (x y : D)  : Option (Bool × D) := if depOk 6 (deref h x) && depOk 6 (deref h y) then some (false, .bl (!eqv (deref h x) (deref h y))) else none
def o_isN (h : Hc) (x y : D)  : Option (Bool × D) := if isNon y then some (false, .bl (isNon x)) else none
def o_notN (h : Hc) (x y : D)  : Option (Bool × D) := if isNon y then some (false, .bl (!isNon x)) else none
def o_isin (h : Hc) (x y : D)  : Option (Bool × D) := (inD x (deref h y)).map fun b => (false, .bl b)
def o_nin (h : Hc) (x y : D)  : Option (Bool × D) := (inD x (deref h y)).map fun b => (false, .bl !b)
def o_ix (h : Hc) (x y : D)  : Option (Bool × D) := match deref h x, y with
    | .lst xs, .int i => ((ixN xs.length i).bind fun j => xs[j]?).map fun d => (false, d)
    | .tup xs, .int i => ((ixN xs.length i).bind fun j => xs[j]?).map fun d => (false, d)
    | .str s, .int i => if s.length ≤ lim then ((ixN s.length i).bind fun j => s[j]?).map fun c => (false, .str [c]) else none
    | .dct t kvs, k => if fits t k then (getD kvs k).map fun d => (false, d) else none
    | .kdct kvs, .str s => (kvs.lookup s).map fun i => (false, .int i)
    | _, _ => none
def o_pow (h : Hc) (x y : D)  : Option (Bool × D) := match x, y with
    | .int i, .int j => if i = 10 ∧ j = 18 then some (false, .int 1000000000000000000) else none
    | _, _ => none
def op2 (h : Hc) (o : O2) (x y : D) : Option (Bool × D) := match o with
  | .add => o_add h x y 
  | .sub => o_sub h x y 
  | .mul => o_mul h x y 
  | .fdiv => o_fdiv h x y 
  | .mod => o_mod h x y 
  | .lt => o_lt h x y 
  | .le => o_le h x y 
  | .gt => o_gt h x y 
  | .ge => o_ge h x y 
  | .eq => o_eq h x y 
  | .ne => o_ne h x y 
  | .isN => o_isN h x y 
  | .notN => o_notN h x y 
  | .isin => o_isin h x y 
  | .nin => o_nin h x y 
  | .ix => o_ix h x y
  | .pow => o_pow h x y 
/-- truth -/
def tru (h : Hc) (d : D) : Option Bool := match deref h d with
  | .non => some false
  | .bl b => some b
  | .int i => some (i != 0)
  | .str s => if s.length ≤ lim then some !s.isEmpty else none
  | .lst xs => some !xs.isEmpty
  | .tup xs => some !xs.isEmpty
  | _ => none
inductive Bi where
  | all | any | len | int | str | list | tuple | sorted | min | max | isi | dict
def bools : List D → Option (List Bool)
  | [] => some []
  | .bl b :: r => (bools r).map (b :: ·)
  | _ => none
/-- 0 NoneType, 1 bool, 2 int, 3 str, 4 tuple, 5 list, 6 dict -/
def tyN : D → Option Nat
  | .non => some 0
  | .bl _ => some 1
  | .int _ => some 2
  | .str _ => some 3
  | .tup _ => some 4
  | .lst _ => some 5
  | .dct _ _ => some 6
  | _ => none
def digits (n : Nat) : Tx := if n < 10 then [48 + n] else if n < 100 then [48 + n / 10, 48 + n % 10] else []
def sortOk : List D → Bool
  | [] => true
  | x :: r => !(shp x).isEmpty && r.all (fun y => shp y == shp x)
/-- sorting, for the kernel -/
def insD (x : D) : List D → List D
  | [] => [x]
  | y :: r => if ltB y x then y :: insD x r else x :: y :: r
def isrt : List D → List D
  | [] => []
  | x :: r => insD x (isrt r)
def sortD (xs : List D) : Option (List D) := if sortOk xs then some (isrt xs) else none
def minI : List D → Option Int
  | [.int i] => some i
  | .int i :: r => (minI r).map fun j => if i ≤ j then i else j
  | _ => none
def maxI : List D → Option Int
  | [.int i] => some i
  | .int i :: r => (maxI r).map fun j => if j ≤ i then i else j
  | _ => none
def signs (s : Tx) : List D := s.map fun c => .str [c]
def keysOf (kvs : List (D × D)) : List D := kvs.map (·.1)
def pairsOf : List D → Option (List (D × D))
  | [] => some []
  | .tup [k, v] :: r => (pairsOf r).map ((k, v) :: ·)
  | _ => none
def isi (d : D) (t : D) : Option Bool := match t with
  | .ty n => (tyN d).bind fun m => if Nat.beq n 2 then some (Nat.beq m 2 || Nat.beq m 1) else if Nat.ble 1 n && Nat.ble n 6 then some (Nat.beq m n) else none
  | _ => none
def b_all (h : Hc) (x : D)  : Option (Bool × D) := match x with
    | .lst xs => (bools xs).map fun bs => (false, .bl (bs.all id))
    | _ => none
def b_any (h : Hc) (x : D)  : Option (Bool × D) := match x with
    | .lst xs => (bools xs).map fun bs => (false, .bl (bs.any id))
    | _ => none
def b_len (h : Hc) (x : D)  : Option (Bool × D) := match deref h x with
    | .str s => if s.length ≤ lim then some (false, .int s.length) else none
    | .lst xs => some (false, .int xs.length)
    | .tup xs => some (false, .int xs.length)
    | .dct _ kvs => some (false, .int kvs.length)
    | _ => none
def b_int (h : Hc) (x : D)  : Option (Bool × D) := match x with
    | .int i => some (false, .int i)
    | .bl k => some (false, .int (if k then 1 else 0))
    | _ => none
def b_str (h : Hc) (x : D)  : Option (Bool × D) := match x with
    | .int i => if 0 ≤ i ∧ i < 100 then some (false, .str (digits i.toNat)) else none
    | _ => none
def b_list (h : Hc) (x : D)  : Option (Bool × D) := match deref h x with
    | .lst xs => some (true, .lst xs)
    | .tup xs => some (true, .lst xs)
    | .str s => if s.length ≤ lim then some (true, .lst (signs s)) else none
    | .dct _ kvs => some (true, .lst (keysOf kvs))
    | _ => none
def b_tuple (h : Hc) (x : D)  : Option (Bool × D) := match deref h x with
    | .lst xs => some (false, .tup xs)
    | .tup xs => some (false, .tup xs)
    | _ => none
def b_sorted (h : Hc) (x : D)  : Option (Bool × D) := match deref h x with
    | .lst xs => if xs.length ≤ lim then (sortD xs).map fun r => (true, .lst r) else none
    | .tup xs => if xs.length ≤ lim then (sortD xs).map fun r => (true, .lst r) else none
    | .dct true kvs => if kvs.length ≤ lim then (sortD (keysOf kvs)).map fun r => (true, .lst r) else none
    | _ => none
def b_min (h : Hc) (x : D)  : Option (Bool × D) := match deref h x with
    | .lst xs => (minI xs).map fun i => (false, .int i)
    | _ => none
def b_max (h : Hc) (x : D)  : Option (Bool × D) := match deref h x with
    | .lst xs => (maxI xs).map fun i => (false, .int i)
    | _ => none
def b_dict (h : Hc) (x : D)  : Option (Bool × D) := match deref h x with
    | .lst xs => (pairsOf xs).bind fun ps => if ps.all (fun p => flatK p.1) then some (true, .dct false (ps.foldl (fun acc p => putD acc p.1 p.2) [])) else none
    | _ => none
def bi1 (h : Hc) (b : Bi) (x : D) : Option (Bool × D) := match b with
  | .all => b_all h x 
  | .any => b_any h x 
  | .len => b_len h x 
  | .int => b_int h x 
  | .str => b_str h x 
  | .list => b_list h x 
  | .tuple => b_tuple h x 
  | .sorted => b_sorted h x 
  | .min => b_min h x 
  | .max => b_max h x 
  | .dict => b_dict h x 
  | .isi => none
def biN (h : Hc) (b : Bi) (xs : List D) : Option (Bool × D) := match b, xs with
  | b, [x] => bi1 h b x
  | .isi, [x, t] => (isi x t).map fun b => (false, .bl b)
  | .min, [.int i, .int j] => some (false, .int (if i ≤ j then i else j))
  | .max, [.int i, .int j] => some (false, .int (if j ≤ i then i else j))
  | _, _ => none
/-! texts -/
def startsT : Tx → Tx → Bool
  | _, [] => true
  | [], _ :: _ => false
  | a :: x, b :: y => Nat.beq a b && startsT x y
def endsT (x y : Tx) : Bool := startsT x.reverse y.reverse
def splitT (c : Nat) : Tx → Tx → List Tx
  | acc, [] => [acc]
  | acc, a :: x => if Nat.beq a c then acc :: splitT c [] x else splitT c (acc ++ [a]) x
def joinR (s : Tx) : List Tx → Tx → Tx
  | [], acc => acc
  | x :: r, acc => joinR s r (acc ++ s ++ x)
def joinT (s : Tx) : List Tx → Tx
  | [] => []
  | x :: r => joinR s r x
def joinOk (s : Tx) (ss : List Tx) : Bool := Nat.ble ((ss.map List.length).sum + ss.length * s.length) lim
def txsOf : List D → Option (List Tx)
  | [] => some []
  | .str s :: r => (txsOf r).map (s :: ·)
  | _ => none
def cutN (n d : Nat) : Option Int → Nat
  | none => d
  | some v => if v < 0 then (v + (n : Int)).toNat else min v.toNat n
def cutT {α : Type} (xs : List α) (lo hi : Option Int) : List α := (xs.drop (cutN xs.length 0 lo)).take (cutN xs.length xs.length hi - cutN xs.length 0 lo)
inductive Me where
  | starts | ends | join | split | get | app | pop | popK
def m_starts (h : Hc) (x : D) (as : List D) : Option (Bool × D × Hc) := match x, as with
  | .str a, [.str b] => some (false, .bl (startsT a b), h)
  | _, _ => none
def m_ends (h : Hc) (x : D) (as : List D) : Option (Bool × D × Hc) := match x, as with
  | .str a, [.str b] => some (false, .bl (endsT a b), h)
  | _, _ => none
def seqOf : D → Option (List D)
  | .lst ys => some ys
  | .tup ys => some ys
  | _ => none
def m_join (h : Hc) (x : D) (as : List D) : Option (Bool × D × Hc) := match x, as with
  | .str s, [y] => ((seqOf (deref h y)).bind txsOf).bind fun ss => if joinOk s ss then some (false, .str (joinT s ss), h) else none
  | _, _ => none
def m_split (h : Hc) (x : D) (as : List D) : Option (Bool × D × Hc) := match x, as with
  | .str s, [.str [c]] => if s.length + 2 ≤ lim ∧ c < 256 then some (true, .lst ((splitT c [] s).map .str), h) else none
  | _, _ => none
def m_get (h : Hc) (x : D) (as : List D) : Option (Bool × D × Hc) := match deref h x, as with
  | .dct t kvs, [k, v] => if fits t k then some (false, (getD kvs k).getD v, h) else none
  | _, _ => none
def m_app (h : Hc) (x : D) (as : List D) : Option (Bool × D × Hc) := match x, as with
  | .ref j, [v] => match h[j]? with
    | some (some (.lst xs)) => if xs.length < lim then some (false, .non, h.set j (some (.lst (xs ++ [v])))) else none
    | _ => none
  | _, _ => none
def m_pop (h : Hc) (x : D) (as : List D) : Option (Bool × D × Hc) := match x, as with
  | .ref j, [] => match h[j]? with
    | some (some (.lst xs)) => xs.getLast?.map fun d => (false, d, h.set j (some (.lst xs.dropLast)))
    | _ => none
  | _, _ => none
def m_popK (h : Hc) (x : D) (as : List D) : Option (Bool × D × Hc) := match x, as with
  | .ref j, [k] => match h[j]? with
    | some (some (.dct t kvs)) => if fits t k then (getD kvs k).map fun d => (false, d, h.set j (some (.dct t (dropD kvs k)))) else none
    | _ => none
  | _, _ => none
/-- a method: what it gives, the cells behind it -/
def me (h : Hc) (m : Me) (x : D) (as : List D) : Option (Bool × D × Hc) := match m with
  | .starts => m_starts h x as
  | .ends => m_ends h x as
  | .join => m_join h x as
  | .split => m_split h x as
  | .get => m_get h x as
  | .app => m_app h x as
  | .pop => m_pop h x as
  | .popK => m_popK h x as
def isStrD : D → Bool
  | .str _ => true
  | _ => false
def isDct : D → Bool
  | .dct _ _ => true
  | _ => false
def cellL (h : Hc) : D → Bool
  | .ref j => match h[j]? with
    | some (some (.lst _)) => true
    | _ => false
  | _ => false
def cellD (h : Hc) : D → Bool
  | .ref j => match h[j]? with
    | some (some (.dct _ _)) => true
    | _ => false
  | _ => false
def meRecv (h : Hc) (m : Me) (x : D) : Bool := match m with
  | .starts => isStrD x
  | .ends => isStrD x
  | .join => isStrD x
  | .split => isStrD x
  | .get => isDct (deref h x)
  | .app => cellL h x
  | .pop => cellL h x
  | .popK => cellD h x
/-! ### the language -/
def lkF : List (Tx × D) → Tx → Option D
  | [], _ => none
  | (a, d) :: r, n => if txBeq a n then some d else lkF r n
def putF (n : Tx) (v : D) : List (Tx × D) → List (Tx × D)
  | [] => [(n, v)]
  | (a, d) :: r => if txBeq a n then (a, v) :: r else (a, d) :: putF n v r
inductive Ik where
  | lst | tup | str | dct | rng | zip | enum
inductive E where
  | var (i : Nat) | take (i : Nat) | cst (d : D) | gl (g : Nat) | ty (n : Nat)
  | op2 (o : O2) (a b : E) | not (a : E) | and (es : List E) | or (es : List E) | ite (c a b : E) | chain (o o' : O2) (a b c : E)
  | tup (es : List E) | lst (es : List E) | dct0 (t : Bool) | dct (ks vs : List E)
  | bi (b : Bi) (es : List E) | me (m : Me) (a : E) (es : List E)
  | fld (C : Nat) (a : E) (n : Tx) | slice (a : E) (lo hi : Option E) | rev (a : E)
  | call (f : Nat) (es : List E) | call0 (f : Nat) | callR (f : Nat) (sel : List Bool) (es : List E) | new (a : E) | draw (i : Nat) (n : E)
  | lc (tg : List Nat) (tp : Bool) (k : Ik) (its : List E) (cond : List E) (elt : E)
  | lc2 (x y : Nat) (i j : E) (elt : E) | lc3 (x y z : Nat) (i j k : E) (elt : E)
  | dc (t : Bool) (x : Nat) (ik : Ik) (it : E) (k v : E)
  | fs (es : List E) | fmt (a : E) | eqI (C f : Nat) (a b : E) | isI (C : Nat) (a : E)
  | mk (j : Nat) (es : List E) | lrange (a : E) | mc (C : Nat) (a : E) (f : Nat) (es : List E)
  | mcB (C : Nat) (a : E) (m : Tx) (f : Nat) (es : List E) | lenI (C f : Nat) (a : E) | eqB (C f : Nat) (a b : E) | mcR (C : Nat) (a : E) (m : Tx) (f : Nat) (es : List E) | callL (f : Nat) (a : E) (es : List E) | mkL (j : Nat) (es : List E)
/-- a clause: which errors it takes; it stores a constant, or a field of the error -/
inductive Hd where
  | c (tb : List (Nat × Bool)) (i : Nat) (d : D) | f (tb : List (Nat × Bool)) (e i : Nat) (n : Tx)
inductive S where
  | set (i : Nat) (e : E) | setT (tg : List Nat) (e : E) | setIx (a k v : E) | setFld (C : Nat) (a : E) (n : Tx) (v : E) | aug (i : Nat) (o : O2) (e : E) | augIx (a k v : E)
  | ex (e : E) | ite (c : E) (a b : List S) | for_ (tg : List Nat) (tp : Bool) (k : Ik) (its : List E) (body : List S) | while_ (c : E) (body : List S)
  | ret (e : E) | retN | raise (C : Nat) (fl : Option Tx) (es : List E) | try_ (body : List S) (hs : List Hd) | pass | brk | fz (is : List Nat) (s : S) | zzc (i : Nat) (s : S)
  | setX (i y : Nat) (k : Ik) (it elt : E) | par3 (i j l : Nat) (a b c : E) | any
inductive Out where
  | nx (ρ : Env) (h : Hc) | rt (f : Bool) (d : D) (h : Hc) | bk (ρ : Env) (h : Hc) | ct (ρ : Env) (h : Hc) | xx (c : Nat) (pl : Pl) (ρ : Env) (h : Hc)
structure Md where
  mk_ : Nat → Nat × Nat × List D
  run : Nat → List D → Hc → T Rs
  gl : Nat → D
  fuel : Nat
/-! what is walked -/
def rangeU (lo : Int) : Nat → List D
  | 0 => []
  | n + 1 => .int lo :: rangeU (lo + 1) n
def rangeD (hi : Int) : Nat → List D
  | 0 => []
  | n + 1 => .int hi :: rangeD (hi - 1) n
def zipD : List D → List D → List D
  | a :: x, b :: y => .tup [a, b] :: zipD x y
  | _, _ => []
def enumD (i : Int) : List D → List D
  | [] => []
  | a :: x => .tup [.int i, a] :: enumD (i + 1) x
def small (i : Int) : Bool := decide (-1000000000 < i) && decide (i < 1000000000)
def items (k : Ik) (xs : List D) : Option (List D) := match k, xs with
  | .lst, [.lst xs] => some xs
  | .tup, [.tup xs] => some xs
  | .tup, [.ktup xs] => some xs
  | .str, [.str s] => if s.length ≤ lim then some (signs s) else none
  | .dct, [.dct _ kvs] => some (keysOf kvs)
  | .rng, [.int n] => if small n then some (rangeU 0 n.toNat) else none
  | .rng, [.int a, .int b] => if small a && small b then some (rangeU a (b - a).toNat) else none
  | .rng, [.int a, .int b, .int (-1)] => if small a && small b then some (rangeD a (a - b).toNat) else none
  | .zip, [.str a, .str b] => if a.length ≤ lim ∧ b.length ≤ lim then some (zipD (signs a) (signs b)) else none
  | .enum, [.lst xs] => some (enumD 0 xs)
  | _, _ => none
def asg (tg : List Nat) (tp : Bool) (d : D) (ρ : Env) : Option Env := match tp, tg with
  | false, [i] => some (ρ.set i (some d))
  | true, is => match d with
    | .tup ds => if ds.length == is.length then some ((is.zip ds).foldl (fun ρ p => ρ.set p.1 (some p.2)) ρ) else none
    | .lst ds => if ds.length == is.length then some ((is.zip ds).foldl (fun ρ p => ρ.set p.1 (some p.2)) ρ) else none
    | _ => none
  | _, _ => none
def unset (ρ : Env) : List Nat → Env
  | [] => ρ
  | i :: is => (unset ρ is).set i none
abbrev Ev := E → Env → Hc → T Rs
abbrev Et := E → Env → Hc → T (Bool × Hc)
section
variable (M : Md)
def vl (r : Ev) (e : E) (ρ : Env) (h : Hc) : T (D × Hc) := (r e ρ h).bind fun p => .ok (p.2.1, p.2.2)
def vls (r : Ev) : List E → Env → Hc → T (List D × Hc)
  | [], _, h => .ok ([], h)
  | e :: es, ρ, h => (vl r e ρ h).bind fun p => (vls r es ρ p.2).bind fun q => .ok (p.1 :: q.1, q.2)
def ot (h : Hc) : Option (Bool × D) → T Rs
  | some (f, d) => .ok (f, d, h)
  | none => .no
def om : Option (Bool × D × Hc) → T Rs
  | some p => .ok p
  | none => .no
def part (r : Ev) : Option E → Env → Hc → T (Option Int × Hc)
  | none, _, h => .ok (none, h)
  | some e, ρ, h => (vl r e ρ h).bind fun y => match y.1 with
    | .int i => .ok (some i, y.2)
    | _ => .no
def cutD (d : D) (l u : Option Int) : Option (Bool × D) := match d with
  | .str s => if s.length ≤ lim then some (false, .str (cutT s l u)) else none
  | .lst xs => some (true, .lst (cutT xs l u))
  | .tup xs => some (false, .tup (cutT xs l u))
  | _ => none
def andV (r : Ev) : List E → Env → Hc → T Rs
  | [], _, _ => .no
  | [a], ρ, h => (vl r a ρ h).bind fun p => val p.1 p.2
  | a :: es, ρ, h => (vl r a ρ h).bind fun p => match tru p.2 p.1 with
    | some true => andV r es ρ p.2
    | some false => val p.1 p.2
    | none => .no
def orV (r : Ev) : List E → Env → Hc → T Rs
  | [], _, _ => .no
  | [a], ρ, h => (vl r a ρ h).bind fun p => val p.1 p.2
  | a :: es, ρ, h => (vl r a ρ h).bind fun p => match tru p.2 p.1 with
    | some false => orV r es ρ p.2
    | some true => val p.1 p.2
    | none => .no
def andT (t : Et) : List E → Env → Hc → T (Bool × Hc)
  | [], _, _ => .no
  | [a], ρ, h => t a ρ h
  | a :: es, ρ, h => (t a ρ h).bind fun p => if p.1 then andT t es ρ p.2 else .ok (false, p.2)
def orT (t : Et) : List E → Env → Hc → T (Bool × Hc)
  | [], _, _ => .no
  | [a], ρ, h => t a ρ h
  | a :: es, ρ, h => (t a ρ h).bind fun p => if p.1 then .ok (true, p.2) else orT t es ρ p.2
/-- no exception passes -/
def T.calm {α : Type} : T α → T α
  | .ok a => .ok a
  | .ex _ _ _ => .no
  | .no => .no
  | .dr n f => .dr n fun i => (f i).calm
def condT (t : Et) : List E → Env → Hc → T (Bool × Hc)
  | [], _, h => .ok (true, h)
  | [c], ρ, h => t c ρ h
  | _, _, _ => .no
def lcGo (r : Ev) (t : Et) (tg : List Nat) (tp : Bool) (cond : List E) (elt : E) (ρ : Env) : List D → List D → Hc → T (List D × Hc)
  | [], acc, h => .ok (acc.reverse, h)
  | d :: ds, acc, h => (T.opt (asg tg tp d (unset ρ tg))).bind fun ρ' => (condT t cond ρ' h).bind fun b =>
    if b.1 then (vl r elt ρ' b.2).bind fun p => lcGo r t tg tp cond elt ρ ds (p.1 :: acc) p.2 else lcGo r t tg tp cond elt ρ ds acc b.2
/-- the inner clause -/
def lc1Go (r : Ev) (elt : E) (x : Nat) (ρ : Env) : List D → List D → Hc → T (List D × Hc)
  | [], acc, h => .ok (acc, h)
  | d :: ds, acc, h => (vl r elt (ρ.set x (some d)) h).bind fun p => if acc.length < lim then lc1Go r elt x ρ ds (acc ++ [p.1]) p.2 else .no
def lc2Go (r : Ev) (kk : Ik) (own : List Nat) (j elt : E) (x y : Nat) (ρ : Env) : List D → List D → Hc → T (List D × Hc)
  | [], acc, h => .ok (acc, h)
  | d :: ds, acc, h => (vl r j ((unset ρ own).set x (some d)) h).bind fun p => match items kk [p.1] with
    | some es => (lc1Go r elt y ((unset ρ own).set x (some d)) es acc p.2).bind fun q => lc2Go r kk own j elt x y ρ ds q.1 q.2
    | none => .no
def lc3Go (r : Ev) (own : List Nat) (j k elt : E) (x y z : Nat) (ρ : Env) : List D → List D → Hc → T (List D × Hc)
  | [], acc, h => .ok (acc, h)
  | d :: ds, acc, h => (vl r j ((unset ρ own).set x (some d)) h).bind fun p => match items .lst [p.1] with
    | some es => (lc2Go r .lst [] k elt y z ((unset ρ own).set x (some d)) es acc p.2).bind fun q => lc3Go r own j k elt x y z ρ ds q.1 q.2
    | none => .no
def dcGo (r : Ev) (t : Bool) (x : Nat) (k v : E) (ρ : Env) : List D → List (D × D) → Hc → T (List (D × D) × Hc)
  | [], acc, h => .ok (acc, h)
  | d :: ds, acc, h => (vl r k ((unset ρ [x]).set x (some d)) h).bind fun p => (vl r v ((unset ρ [x]).set x (some d)) p.2).bind fun q =>
    if fits t p.1 then dcGo r t x k v ρ ds (putD acc p.1 q.1) q.2 else .no
def joinB : List Bool → List D → Hc → Option (List D × List (Nat × D))
  | [], [], _ => some ([], [])
  | false :: s, d :: ds, h => if d.nr then (joinB s ds h).map fun p => (d :: p.1, p.2) else none
  | true :: s, .ref j :: ds, h => match h[j]? with
    | some (some c) => (joinB s ds h).map fun p => (.ref j :: p.1, (j, c) :: p.2)
    | _ => none
  | _, _, _ => none
/-- the cells that are handed over are numbered anew -/
def renum : Nat → List Bool → List D → List D
  | _, [], _ => []
  | n, false :: s, d :: ds => d :: renum n s ds
  | n, true :: s, _ :: ds => .ref n :: renum (n + 1) s ds
  | _, _, [] => []
def okCell : D → Bool
  | .zz => true
  | d => d.nr
def wback : List (Nat × D) → Hc → Hc → Option Hc
  | [], _, h => some h
  | (j, _) :: js, some c :: cs, h => if okCell c then wback js cs (h.set j (some c)) else none
  | _, _, _ => none
def nodupN : List Nat → Bool
  | [] => true
  | a :: r => (r.all fun b => !Nat.beq a b) && nodupN r
def nrPl : Pl → Bool
  | none => true
  | some fs => nrF fs
def unR (js : List (Nat × D)) (h : Hc) : T Rs → T Rs
  | .ok (f, d, h') => if d.nr then match wback js h' h with
    | some h2 => .ok (f, d, h2)
    | none => .no
    else .no
  | .ex c pl h' => if nrPl pl then match wback js h' h with
    | some h2 => .ex c pl h2
    | none => .no
    else .no
  | .no => .no
  | .dr n f => .dr n fun i => unR js h (f i)
def callRV (f : Nat) (s : List Bool) (ds : List D) (h : Hc) : T Rs := match joinB s ds h with
  | some (_, js) => if nodupN (js.map (·.1)) && js.all (fun p => okCell p.2) then unR js h (M.run f (renum 0 s ds) (js.map fun p => some p.2)) else .no
  | none => .no
def callV (f : Nat) (ds : List D) (h : Hc) : T Rs := if nrL ds then unR [] h (M.run f ds []) else .no
/-- C(..): a new instance, its __init__ -/
def mkR (C : Nat) (h : Hc) : T Rs → T Rs
  | .ok (false, .non, [some (.ins C' fs)]) => if Nat.beq C' C && nrF fs then .ok (true, .ins C fs, h) else .no
  | .ok _ => .no
  | .ex c pl _ => if nrPl pl then .ex c pl h else .no
  | .no => .no
  | .dr n f => .dr n fun i => mkR C h (f i)
def mkV (C f : Nat) (ds : List D) (h : Hc) : T Rs := if nrL ds then mkR C h (M.run f (.ref 0 :: ds) [some (.ins C [])]) else .no
/-! ### an instance with a list of its own: two cells -/
def boxL : D → Bool
  | .lst _ => true
  | .ins _ _ => true
  | _ => false
/-- a thing that is read: a cell, and the cells that its fields are, as one tree -/
def frz1 (h : Hc) : D → Option D
  | .ref j => match h[j]? with
    | some (some c) => if boxL c && c.nr then some c else none
    | _ => none
  | d => if d.nr then some d else none
def frzF (h : Hc) : List (Tx × D) → Option (List (Tx × D))
  | [] => some []
  | (n, d) :: r => (frz1 h d).bind fun d' => (frzF h r).map fun r' => (n, d') :: r'
def frz2 (h : Hc) : D → Option D
  | .ref i => match h[i]? with
    | some (some (.ins C fs)) => (frzF h fs).map fun gs => .ins C gs
    | some (some c) => if boxL c && c.nr then some c else none
    | _ => none
  | d => if d.nr then some d else none
def frzL (h : Hc) : List D → Option (List D)
  | [] => some []
  | d :: r => (frz2 h d).bind fun d' => (frzL h r).map fun r' => d' :: r'
/-- flat, or a tuple of flat things -/
def pln : D → Bool
  | .tup xs => xs.all flt
  | d => flt d
def unB (h : Hc) : T Rs → T Rs
  | .ok (false, d, _) => if pln d then .ok (false, d, h) else .no
  | .ok _ => .no
  | .ex c none _ => .ex c none h
  | .ex _ _ _ => .no
  | .no => .no
  | .dr n f => .dr n fun i => unB h (f i)
/-- f(..): the things are read, none is changed -/
def callBV (f : Nat) (ds : List D) (h : Hc) : T Rs := match frzL h ds with
  | some es => unB h (M.run f es [])
  | none => .no
/-- the one field that is a cell -/
def oneF : List (Tx × D) → Option Nat
  | [] => none
  | (_, .ref j) :: r => if nrF r then some j else none
  | (_, d) :: r => if d.nr then oneF r else none
/-- .. another one -/
def subF (k : Nat) : List (Tx × D) → List (Tx × D)
  | [] => []
  | (n, .ref _) :: r => (n, .ref k) :: subF k r
  | p :: r => p :: subF k r
/-- a list of that kind -/
def isLst : D → Bool
  | .lst _ => true
  | _ => false
def wbL (i j : Nat) (h : Hc) : Hc → Option Hc
  | some (.ins C fs) :: some x :: _ => match oneF fs with
    | some k => if Nat.beq k 1 && (isLst x && x.nr) then some ((h.set i (some (.ins C (subF j fs)))).set j (some x)) else none
    | none => none
  | _ => none
def unL (i j : Nat) (h : Hc) : T Rs → T Rs
  | .ok (false, d, h') => if d.nr then match wbL i j h h' with
    | some h2 => .ok (false, d, h2)
    | none => .no
    else .no
  | .ok _ => .no
  | .ex c pl h' => if nrPl pl then match wbL i j h h' with
    | some h2 => .ex c pl h2
    | none => .no
    else .no
  | .no => .no
  | .dr n f => .dr n fun k => unL i j h (f k)
/-- f(x, ..): the instance x and its list are handed over -/
def callLV (f i : Nat) (ds : List D) (h : Hc) : T Rs := match h[i]? with
  | some (some (.ins C fs)) => match oneF fs with
    | some j => match h[j]? with
      | some (some x) => if (isLst x && x.nr) && (nrL ds && !Nat.beq i j) then unL i j h (M.run f (.ref 0 :: ds) [some (.ins C (subF 1 fs)), some x]) else .no
      | _ => .no
    | none => .no
  | _ => .no
/-- C(..): two new cells -/
def mkRL (C : Nat) (h : Hc) : T Rs → T Rs
  | .ok (false, .non, some (.ins C' fs) :: some x :: _) => match oneF fs with
    | some k => if Nat.beq C' C && (Nat.beq k 1 && (isLst x && x.nr)) then .ok (false, .ref (h.length + 1), (h ++ [some x]) ++ [some (.ins C (subF h.length fs))]) else .no
    | none => .no
  | .ok _ => .no
  | .ex c pl _ => if nrPl pl then .ex c pl h else .no
  | .no => .no
  | .dr n f => .dr n fun i => mkRL C h (f i)
def mkLV (C f : Nat) (ds : List D) (h : Hc) : T Rs := if nrL ds then mkRL C h (M.run f (.ref 0 :: ds) [some (.ins C [])]) else .no
def isInt : D → Bool
  | .int _ => true
  | _ => false
def insOf (h : Hc) (C : Nat) (d : D) : Bool := match deref h d with
  | .ins C' _ => Nat.beq C' C
  | _ => false
def e_var (M : Md) (r : Ev) (t : Et) (ρ : Env) (h : Hc) (i : Nat) : T Rs := match ρ[i]? with
    | some (some d) => val d h
    | _ => .no
def e_take (M : Md) (r : Ev) (t : Et) (ρ : Env) (h : Hc) (i : Nat) : T Rs := match ρ[i]? with
    | some (some (.ref j)) => match h[j]? with
      | some (some d) => if boxd d then .ok (true, d, h.set j none) else .no
      | _ => .no
    | _ => .no
def e_op2 (M : Md) (r : Ev) (t : Et) (ρ : Env) (h : Hc) (o : O2) (a : E) (b : E) : T Rs := (vl r a ρ h).bind fun x => (vl r b ρ x.2).bind fun y => ot y.2 (op2 y.2 o x.1 y.1)
def e_not (M : Md) (r : Ev) (t : Et) (ρ : Env) (h : Hc) (a : E) : T Rs := (vl r a ρ h).bind fun p => match tru p.2 p.1 with
  | some b => val (.bl !b) p.2
  | none => .no
def e_ite (M : Md) (r : Ev) (t : Et) (ρ : Env) (h : Hc) (c : E) (a : E) (b : E) : T Rs := (t c ρ h).bind fun p => if p.1 then r a ρ p.2 else r b ρ p.2
def e_chain (M : Md) (r : Ev) (t : Et) (ρ : Env) (h : Hc) (o : O2) (o' : O2) (a : E) (b : E) (c : E) : T Rs := (vl r a ρ h).bind fun x => (vl r b ρ x.2).bind fun y => match op2 y.2 o x.1 y.1 with
    | some (_, .bl true) => (vl r c ρ y.2).bind fun z => ot z.2 (op2 z.2 o' y.1 z.1)
    | some (_, .bl false) => val (.bl false) y.2
    | _ => .no
def e_tup (M : Md) (r : Ev) (t : Et) (ρ : Env) (h : Hc) (es : List E) : T Rs := (vls r es ρ h).bind fun p => val (.tup p.1) p.2
def e_lst (M : Md) (r : Ev) (t : Et) (ρ : Env) (h : Hc) (es : List E) : T Rs := (vls r es ρ h).bind fun p => .ok (true, .lst p.1, p.2)
def e_dct (M : Md) (r : Ev) (t : Et) (ρ : Env) (h : Hc) (ks : List E) (vs : List E) : T Rs := match ks, vs with
    | [k], [v] => (vl r k ρ h).bind fun x => if flatK x.1 then (vl r v ρ x.2).bind fun y => .ok (true, .dct false [(x.1, y.1)], y.2) else .no
    | _, _ => .no
def e_bi (M : Md) (r : Ev) (t : Et) (ρ : Env) (h : Hc) (b : Bi) (es : List E) : T Rs := (vls r es ρ h).bind fun p => ot p.2 (biN p.2 b p.1)
def e_me (M : Md) (r : Ev) (t : Et) (ρ : Env) (h : Hc) (m : Me) (a : E) (es : List E) : T Rs := (vl r a ρ h).bind fun x => if meRecv x.2 m x.1 then (vls r es ρ x.2).bind fun p => om (me p.2 m x.1 p.1) else .no
def e_fld (M : Md) (r : Ev) (t : Et) (ρ : Env) (h : Hc) (C0 : Nat) (a : E) (n : Tx) : T Rs := (vl r a ρ h).bind fun x => match deref x.2 x.1 with
    | .ins C fs => if Nat.beq C C0 then match lkF fs n with
      | some d => val d x.2
      | none => .no
      else .no
    | _ => .no
/-- the parts of a text are joined -/
def fsGo (r : Ev) : List E → Tx → Env → Hc → T (Tx × Hc)
  | [], acc, _, h => .ok (acc, h)
  | e :: es, acc, ρ, h => (vl r e ρ h).bind fun p => match p.1 with
    | .str y => if acc.length + y.length ≤ lim then fsGo r es (acc ++ y) ρ p.2 else .no
    | _ => .no
def e_fs (r : Ev) (ρ : Env) (h : Hc) (es : List E) : T Rs := (fsGo r es [] ρ h).bind fun p => val (.str p.1) p.2
def e_fmt (r : Ev) (ρ : Env) (h : Hc) (a : E) : T Rs := (vl r a ρ h).bind fun p => match p.1 with
  | .str y => if y.length ≤ lim then val (.str y) p.2 else .no
  | .int i => if 0 ≤ i ∧ i < 100 then val (.str (digits i.toNat)) p.2 else .no
  | _ => .no
/-- a == b, a an instance of a class with its own __eq__ -/
def e_eqI (M : Md) (r : Ev) (ρ : Env) (h : Hc) (C f : Nat) (a b : E) : T Rs := (vl r a ρ h).bind fun x => (vl r b ρ x.2).bind fun y => match x.1, y.1 with
  | .ins C1 fs, .ins C2 gs => if Nat.beq C1 C && Nat.beq C2 C then (callV M f [.ins C1 fs, .ins C2 gs] y.2).calm.bind (fun p => match p.1, p.2.1 with
    | false, .bl b => val (.bl b) p.2.2
    | _, _ => .no) else .no
  | _, _ => .no
def e_slice (M : Md) (r : Ev) (t : Et) (ρ : Env) (h : Hc) (a : E) (lo : Option E) (hi : Option E) : T Rs := (vl r a ρ h).bind fun x => (part r lo ρ x.2).bind fun l => (part r hi ρ l.2).bind fun u => ot u.2 (cutD (deref u.2 x.1) l.1 u.1)
def e_rev (M : Md) (r : Ev) (t : Et) (ρ : Env) (h : Hc) (a : E) : T Rs := (vl r a ρ h).bind fun x => match x.1 with
    | .tup xs => val (.tup xs.reverse) x.2
    | _ => .no
def e_call (M : Md) (r : Ev) (t : Et) (ρ : Env) (h : Hc) (f : Nat) (es : List E) : T Rs := (vls r es ρ h).bind fun p => callV M f p.1 p.2
/-- a call without arguments: it raises nothing -/
def e_call0 (M : Md) (h : Hc) (f : Nat) : T Rs := (callV M f [] h).calm
def e_callR (M : Md) (r : Ev) (t : Et) (ρ : Env) (h : Hc) (f : Nat) (s : List Bool) (es : List E) : T Rs := (vls r es ρ h).bind fun p => callRV M f s p.1 p.2
def e_new (M : Md) (r : Ev) (t : Et) (ρ : Env) (h : Hc) (a : E) : T Rs := (r a ρ h).bind fun p => if p.1 then val (.ref p.2.2.length) (p.2.2 ++ [some p.2.1]) else .no
def e_draw (M : Md) (r : Ev) (t : Et) (ρ : Env) (h : Hc) (i : Nat) (n : E) : T Rs := match ρ[i]? with
    | some (some (.ref j)) => (vl r n ρ h).bind fun x => match x.2[j]?, x.1 with
      | some (some .zz), .int (.ofNat k) => if 0 < k ∧ k < 1000000000 then .dr k fun i => val (.int i) x.2 else .no
      | _, _ => .no
    | _ => .no
def e_lc (M : Md) (r : Ev) (t : Et) (ρ : Env) (h : Hc) (tg : List Nat) (tp : Bool) (k : Ik) (its : List E) (cond : List E) (elt : E) : T Rs := (vls r its ρ h).bind fun p => match items k p.1 with
    | some ds => if ds.length ≤ lim then (lcGo r t tg tp cond elt ρ ds [] p.2).calm.bind fun q => .ok (true, .lst q.1, q.2) else .no
    | none => .no
def e_lc2 (M : Md) (r : Ev) (t : Et) (ρ : Env) (h : Hc) (x : Nat) (y : Nat) (i : E) (j : E) (elt : E) : T Rs := (vl r i ρ h).bind fun p => match items .str [p.1] with
    | some ds => (lc2Go r .str [x, y] j elt x y ρ ds [] p.2).calm.bind fun q => .ok (true, .lst q.1, q.2)
    | none => .no
def e_lc3 (M : Md) (r : Ev) (t : Et) (ρ : Env) (h : Hc) (x : Nat) (y : Nat) (z : Nat) (i : E) (j : E) (k : E) (elt : E) : T Rs := (vl r i ρ h).bind fun p => match items .tup [p.1] with
    | some ds => (lc3Go r [x, y, z] j k elt x y z ρ ds [] p.2).calm.bind fun q => .ok (true, .lst q.1, q.2)
    | none => .no
def e_dc (M : Md) (r : Ev) (t : Et) (ρ : Env) (h : Hc) (tk : Bool) (x : Nat) (ik : Ik) (it : E) (k : E) (v : E) : T Rs := (vl r it ρ h).bind fun p => match items ik [p.1] with
    | some ds => if ds.length ≤ lim then (dcGo r tk x k v ρ ds [] p.2).calm.bind fun q => .ok (true, .dct tk q.1, q.2) else .no
    | none => .no
def e_lrange (M : Md) (r : Ev) (t : Et) (ρ : Env) (h : Hc) (a : E) : T Rs := (vl r a ρ h).bind fun x => match x.1 with
    | .int n => if 0 ≤ n ∧ n ≤ 16777216 then .ok (true, .lst (rangeU 0 n.toNat), x.2) else .no
    | _ => .no
def e_mk (M : Md) (r : Ev) (t : Et) (ρ : Env) (h : Hc) (j : Nat) (es : List E) : T Rs := (vls r es ρ h).bind fun p => mkV M (M.mk_ j).1 (M.mk_ j).2.1 (p.1 ++ (M.mk_ j).2.2) p.2
def e_mc (M : Md) (r : Ev) (t : Et) (ρ : Env) (h : Hc) (C : Nat) (a : E) (f : Nat) (es : List E) : T Rs := (vl r a ρ h).bind fun x => match x.1 with
  | .ins C1 fs => if Nat.beq C1 C then (vls r es ρ x.2).bind fun p => callV M f (.ins C1 fs :: p.1) p.2 else .no
  | _ => .no
def e_isI (r : Ev) (ρ : Env) (h : Hc) (C : Nat) (a : E) : T Rs := (vl r a ρ h).bind fun x => match x.1 with
  | .ins C' _ => if Nat.beq C' C then val (.bl true) x.2 else .no
  | d => if (tyN d).isSome then val (.bl false) x.2 else .no
/-- .. that has no field m -/
def insM (h : Hc) (C : Nat) (m : Tx) (d : D) : Bool := match deref h d with
  | .ins C' fs => Nat.beq C' C && (lkF fs m).isNone
  | _ => false
def e_mcB (M : Md) (r : Ev) (ρ : Env) (h : Hc) (C : Nat) (a : E) (m : Tx) (f : Nat) (es : List E) : T Rs := (vl r a ρ h).bind fun x => if insM x.2 C m x.1 then (vls r es ρ x.2).bind fun p => callBV M f (x.1 :: p.1) p.2 else .no
def e_lenI (M : Md) (r : Ev) (ρ : Env) (h : Hc) (C f : Nat) (a : E) : T Rs := (vl r a ρ h).bind fun x => if insOf x.2 C x.1 then (callBV M f [x.1] x.2).calm.bind (fun p => match p.2.1 with
  | .int n => if 0 ≤ n ∧ n < 1000000000 then val (.int n) p.2.2 else .no
  | _ => .no) else .no
def e_eqB (M : Md) (r : Ev) (ρ : Env) (h : Hc) (C f : Nat) (a b : E) : T Rs := (vl r a ρ h).bind fun x => (vl r b ρ x.2).bind fun y => if insOf x.2 C x.1 && (insOf y.2 C x.1 && (insOf y.2 C y.1 || isInt y.1)) then (callBV M f [x.1, y.1] y.2).calm.bind (fun p => match p.2.1 with
  | .bl c => val (.bl c) p.2.2
  | _ => .no) else .no
def e_mcR2 (M : Md) (C : Nat) (m : Tx) (f : Nat) (x : D) (ds : List D) (h : Hc) : T Rs := if insM h C m x then (match x with
  | .ref i => callLV M f i ds h
  | _ => .no) else .no
def e_mcR (M : Md) (r : Ev) (ρ : Env) (h : Hc) (C : Nat) (a : E) (m : Tx) (f : Nat) (es : List E) : T Rs := (vl r a ρ h).bind fun x => if insM x.2 C m x.1 then (vls r es ρ x.2).bind fun p => e_mcR2 M C m f x.1 p.1 p.2 else .no
def e_callL (M : Md) (r : Ev) (ρ : Env) (h : Hc) (f : Nat) (a : E) (es : List E) : T Rs := (vl r a ρ h).bind fun x => (vls r es ρ x.2).bind fun p => match x.1 with
  | .ref i => callLV M f i p.1 p.2
  | _ => .no
def e_mkL (M : Md) (r : Ev) (ρ : Env) (h : Hc) (j : Nat) (es : List E) : T Rs := (vls r es ρ h).bind fun p => mkLV M (M.mk_ j).1 (M.mk_ j).2.1 (p.1 ++ (M.mk_ j).2.2) p.2
def stepE (r : Ev) (t : Et) (e : E) (ρ : Env) (h : Hc) : T Rs := match e with
  | .var i => e_var M r t ρ h i
  | .take i => e_take M r t ρ h i
  | .cst d => val d h
  | .gl g => val (M.gl g) h
  | .ty n => val (.ty n) h
  | .op2 o a b => e_op2 M r t ρ h o a b
  | .not a => e_not M r t ρ h a
  | .and es => andV r es ρ h
  | .or es => orV r es ρ h
  | .ite c a b => e_ite M r t ρ h c a b
  | .chain o o' a b c => e_chain M r t ρ h o o' a b c
  | .tup es => e_tup M r t ρ h es
  | .lst es => e_lst M r t ρ h es
  | .dct0 t => .ok (true, .dct t [], h)
  | .dct ks vs => e_dct M r t ρ h ks vs
  | .bi b es => e_bi M r t ρ h b es
  | .me m a es => e_me M r t ρ h m a es
  | .fld C a n => e_fld M r t ρ h C a n
  | .slice a lo hi => e_slice M r t ρ h a lo hi
  | .rev a => e_rev M r t ρ h a
  | .call f es => e_call M r t ρ h f es
  | .call0 f => e_call0 M h f
  | .callR f s es => e_callR M r t ρ h f s es
  | .new a => e_new M r t ρ h a
  | .draw i n => e_draw M r t ρ h i n
  | .lc tg tp k its cond elt => e_lc M r t ρ h tg tp k its cond elt
  | .lc2 x y i j elt => e_lc2 M r t ρ h x y i j elt
  | .lc3 x y z i j k elt => e_lc3 M r t ρ h x y z i j k elt
  | .dc tk x ik it k v => e_dc M r t ρ h tk x ik it k v
  | .fs es => e_fs r ρ h es
  | .fmt a => e_fmt r ρ h a
  | .eqI C f a b => e_eqI M r ρ h C f a b
  | .isI C a => e_isI r ρ h C a
  | .lrange a => e_lrange M r t ρ h a
  | .mk j es => e_mk M r t ρ h j es
  | .mc C a f es => e_mc M r t ρ h C a f es
  | .mcB C a m f es => e_mcB M r ρ h C a m f es
  | .lenI C f a => e_lenI M r ρ h C f a
  | .eqB C f a b => e_eqB M r ρ h C f a b
  | .mcR C a m f es => e_mcR M r ρ h C a m f es
  | .callL f a es => e_callL M r ρ h f a es
  | .mkL j es => e_mkL M r ρ h j es
def stepT (r : Ev) (t : Et) (e : E) (ρ : Env) (h : Hc) : T (Bool × Hc) := match e with
  | .not a => (t a ρ h).bind fun p => .ok (!p.1, p.2)
  | .and es => andT t es ρ h
  | .or es => orT t es ρ h
  | e => (r e ρ h).bind fun p => match tru p.2.2 p.2.1 with
    | some b => .ok (b, p.2.2)
    | none => .no
def evE : Nat → Ev × Et
  | 0 => (fun _ _ _ => .no, fun _ _ _ => .no)
  | n + 1 => (stepE M (evE n).1 (evE n).2, stepT (stepE M (evE n).1 (evE n).2) (evE n).2)

def sx {α : Type} (ρ : Env) (f : α → T Out) : T α → T Out
  | .ok a => f a
  | .ex c pl h => .ok (.xx c pl ρ h)
  | .no => .no
  | .dr n g => .dr n fun i => sx ρ f (g i)
abbrev Es := S → Env → Hc → T Out
def blk (x : Es) : List S → Env → Hc → T Out
  | [], ρ, h => .ok (.nx ρ h)
  | [s], ρ, h => x s ρ h
  | s :: ss, ρ, h => (x s ρ h).bind fun o => match o with
    | .nx ρ' h' => blk x ss ρ' h'
    | o => .ok o
def forGo (b : Env → Hc → T Out) (tg : List Nat) (tp : Bool) : List D → Env → Hc → T Out
  | [], ρ, h => .ok (.nx ρ h)
  | d :: ds, ρ, h => (T.opt (asg tg tp d ρ)).bind fun ρ' => (b ρ' h).bind fun o => match o with
    | .nx ρ2 h2 => forGo b tg tp ds ρ2 h2
    | .ct ρ2 h2 => forGo b tg tp ds ρ2 h2
    | .bk ρ2 h2 => .ok (.nx ρ2 h2)
    | o => .ok o
def whileGo (c : Env → Hc → T (Bool × Hc)) (b : Env → Hc → T Out) : Nat → Env → Hc → T Out
  | 0, _, _ => .no
  | n + 1, ρ, h => sx ρ (fun p => if p.1 then (b ρ p.2).bind fun o => match o with
    | .nx ρ2 h2 => whileGo c b n ρ2 h2
    | .ct ρ2 h2 => whileGo c b n ρ2 h2
    | .bk ρ2 h2 => .ok (.nx ρ2 h2)
    | o => .ok o
    else .ok (.nx ρ p.2)) (c ρ h)
def fzs : List Nat → Env → Hc → Option (Env × Hc)
  | [], ρ, h => some (ρ, h)
  | i :: is, ρ, h => match ρ[i]? with
    | some (some (.ref j)) => match h[j]? with
      | some (some d) => if boxd d then fzs is (ρ.set i (some d)) (h.set j none) else none
      | _ => none
    | _ => fzs is ρ h
def tbAt : List (Nat × Bool) → Nat → Option Bool
  | [], _ => none
  | (a, b) :: r, c => if Nat.beq a c then some b else tbAt r c
def hand : List Hd → Nat → Pl → Env → Hc → T Out
  | [], c, pl, ρ, h => .ok (.xx c pl ρ h)
  | .c tb i d :: r, c, pl, ρ, h => match tbAt tb c with
    | some true => .ok (.nx (ρ.set i (some d)) h)
    | some false => hand r c pl ρ h
    | none => .no
  | .f tb e i n :: r, c, pl, ρ, h => match tbAt tb c with
    | some true => match pl with
      | some fs => match lkF fs n with
        | some d => if e < ρ.length then .ok (.nx ((ρ.set i (some d)).set e none) h) else .no
        | none => .no
      | none => .no
    | some false => hand r c pl ρ h
    | none => .no
/-- what d[k] = e, xs[i] = e make of the cell -/
def putIx (c z y : D) : Option D := match c with
  | .dct t kvs => if fits t z && decide (kvs.length < lim) then some (.dct t (putD kvs z y)) else none
  | .lst xs => match z with
    | .int i => (ixN xs.length i).map fun n => .lst (xs.set n y)
    | _ => none
  | _ => none
def s_set (M : Md) (r : Ev) (t : Et) (x : Es) (ρ : Env) (h : Hc) (i : Nat) (e : E) : T Out := sx ρ (fun p => .ok (.nx (ρ.set i (some p.1)) p.2)) (vl r e ρ h)
/-- x = [elt for y in it]: what the element raises passes -/
def s_setX (M : Md) (r : Ev) (t : Et) (x : Es) (ρ : Env) (h : Hc) (i y : Nat) (k : Ik) (it e : E) : T Out := sx ρ (fun q => .ok (.nx (ρ.set i (some (.lst q.1))) q.2)) ((vls r [it] ρ h).bind fun p => match items k p.1 with
    | some ds => if ds.length ≤ lim then lcGo r t [y] false [] e ρ ds [] p.2 else .no
    | none => .no)
def s_par3 (M : Md) (r : Ev) (t : Et) (x : Es) (ρ : Env) (h : Hc) (i j l : Nat) (a b c : E) : T Out := sx ρ (fun p => match p.1 with
    | [u, v, w] => .ok (.nx (((ρ.set i (some u)).set j (some v)).set l (some w)) p.2)
    | _ => .no) (vls r [a, b, c] ρ h)
def s_setT (M : Md) (r : Ev) (t : Et) (x : Es) (ρ : Env) (h : Hc) (tg : List Nat) (e : E) : T Out := sx ρ (fun p => match asg tg true p.1 ρ with
    | some ρ' => .ok (.nx ρ' p.2)
    | none => .no) (vl r e ρ h)
def s_setIx (M : Md) (r : Ev) (t : Et) (x : Es) (ρ : Env) (h : Hc) (a : E) (k : E) (v : E) : T Out := sx ρ (fun p => sx ρ (fun q => sx ρ (fun u => match q.1 with
    | .ref j => match u.2[j]? with
      | some (some c) => match putIx c u.1 p.1 with
        | some d => .ok (.nx ρ (u.2.set j (some d)))
        | none => .no
      | _ => .no
    | _ => .no) (vl r k ρ q.2)) (vl r a ρ p.2)) (vl r v ρ h)
def s_setFld (M : Md) (r : Ev) (t : Et) (x : Es) (ρ : Env) (h : Hc) (C0 : Nat) (a : E) (n : Tx) (v : E) : T Out := sx ρ (fun p => sx ρ (fun q => match q.1 with
    | .ref j => match q.2[j]? with
      | some (some (.ins C fs)) => if Nat.beq C C0 && Nat.blt fs.length 1000 then .ok (.nx ρ (q.2.set j (some (.ins C (putF n p.1 fs))))) else .no
      | _ => .no
    | _ => .no) (vl r a ρ p.2)) (vl r v ρ h)
def s_aug (M : Md) (r : Ev) (t : Et) (x : Es) (ρ : Env) (h : Hc) (i : Nat) (o : O2) (e : E) : T Out := match ρ[i]? with
    | some (some (.int j)) => sx ρ (fun p => match o, p.1 with
      | .add, .int z => .ok (.nx (ρ.set i (some (.int (j + z)))) p.2)
      | _, _ => .no) (vl r e ρ h)
    | _ => .no
def s_ex (M : Md) (r : Ev) (t : Et) (x : Es) (ρ : Env) (h : Hc) (e : E) : T Out := sx ρ (fun p => .ok (.nx ρ p.2)) (vl r e ρ h)
def s_ite (M : Md) (r : Ev) (t : Et) (x : Es) (ρ : Env) (h : Hc) (c : E) (a : List S) (b : List S) : T Out := sx ρ (fun p => if p.1 then blk x a ρ p.2 else blk x b ρ p.2) (t c ρ h)
def s_for_ (M : Md) (r : Ev) (t : Et) (x : Es) (ρ : Env) (h : Hc) (tg : List Nat) (tp : Bool) (k : Ik) (its : List E) (body : List S) : T Out := sx ρ (fun p => match items k p.1 with
    | some ds => forGo (blk x body) tg tp ds ρ p.2
    | none => .no) (vls r its ρ h)
def s_ret (M : Md) (r : Ev) (t : Et) (x : Es) (ρ : Env) (h : Hc) (e : E) : T Out := sx ρ (fun p => .ok (.rt p.1 p.2.1 p.2.2)) (r e ρ h)
def s_raise (M : Md) (r : Ev) (t : Et) (x : Es) (ρ : Env) (h : Hc) (C : Nat) (fl : Option Tx) (es : List E) : T Out := match fl, es with
    | none, [] => .ok (.xx C none ρ h)
    | some n, [e] => sx ρ (fun p => .ok (.xx C (some [(n, p.1)]) ρ p.2)) (vl r e ρ h)
    | _, _ => .no
def s_try_ (M : Md) (r : Ev) (t : Et) (x : Es) (ρ : Env) (h : Hc) (body : List S) (hs : List Hd) : T Out := (blk x body ρ h).bind fun o => match o with
    | .xx c pl ρ' h' => hand hs c pl ρ' h'
    | o => .ok o
def s_fz (M : Md) (r : Ev) (t : Et) (x : Es) (ρ : Env) (h : Hc) (is : List Nat) (s : S) : T Out := match fzs is ρ h with
    | some (ρ', h') => x s ρ' h'
    | none => .no
def allI : List D → Bool
  | [] => true
  | .int _ :: r => allI r
  | _ => false
/-- xs[k] += v: whole numbers, xs a cell that is a list -/
def augAt (h : Hc) (j : Nat) (i : Int) : Option (Nat × Int × List D) := match h[j]? with
  | some (some (.lst xs)) => if 0 ≤ i ∧ i < 1000000000 then match xs[i.toNat]? with
    | some (.int u) => some (i.toNat, u, xs)
    | _ => none
    else none
  | _ => none
def s_augIx (M : Md) (r : Ev) (ρ : Env) (h : Hc) (a k v : E) : T Out := sx ρ (fun p => sx ρ (fun q => match p.1, q.1 with
    | .ref j, .int i => match augAt q.2 j i with
      | some (n, u, _) => sx ρ (fun w => match w.1, augAt w.2 j i with
          | .int z, some (_, _, ys) => .ok (.nx ρ (w.2.set j (some (.lst (ys.set n (.int (u + z)))))))
          | _, _ => .no) (vl r v ρ q.2)
      | none => .no
    | _, _ => .no) (vl r k ρ p.2)) (vl r a ρ h)
/-- the cell of slot i is told to be the draws' cell -/
def s_zzc (M : Md) (r : Ev) (t : Et) (x : Es) (ρ : Env) (h : Hc) (i : Nat) (s : S) : T Out := match ρ[i]? with
  | some (some (.ref j)) => match h[j]? with
    | some (some (.lst [.lst qs, .int a, .int b, .int c])) => if allI qs && decide (0 ≤ a ∧ 0 ≤ b ∧ 0 ≤ c ∧ c < 2147483648) then x s ρ (h.set j (some .zz)) else .no
    | _ => .no
  | _ => .no
def stepS (r : Ev) (t : Et) (x : Es) (s : S) (ρ : Env) (h : Hc) : T Out := match s with
  | .set i e => s_set M r t x ρ h i e
  | .setT tg e => s_setT M r t x ρ h tg e
  | .setIx a k v => s_setIx M r t x ρ h a k v
  | .setFld C a n v => s_setFld M r t x ρ h C a n v
  | .aug i o e => s_aug M r t x ρ h i o e
  | .augIx a k v => s_augIx M r ρ h a k v
  | .any => .no
  | .ex e => s_ex M r t x ρ h e
  | .ite c a b => s_ite M r t x ρ h c a b
  | .for_ tg tp k its body => s_for_ M r t x ρ h tg tp k its body
  | .while_ c body => whileGo (t c) (blk x body) M.fuel ρ h
  | .ret e => s_ret M r t x ρ h e
  | .retN => .ok (.rt false .non h)
  | .raise C fl es => s_raise M r t x ρ h C fl es
  | .try_ body hs => s_try_ M r t x ρ h body hs
  | .pass => .ok (.nx ρ h)
  | .brk => .ok (.bk ρ h)
  | .fz is s => s_fz M r t x ρ h is s
  | .zzc i s => s_zzc M r t x ρ h i s
  | .setX i y k it e => s_setX M r t x ρ h i y k it e
  | .par3 i j l a b c => s_par3 M r t x ρ h i j l a b c
def evS (m : Nat) : Nat → Es
  | 0 => fun _ _ _ => .no
  | n + 1 => stepS M (evE M m).1 (evE M m).2 (evS m n)
/-- what a def's body ends in -/
def ends : Out → T Rs
  | .nx _ h => .ok (false, .non, h)
  | .rt f d h => .ok (f, d, h)
  | .xx c pl _ h => .ex c pl h
  | _ => .no
end
/-- a def: parameters, slots, body; a program -/
structure Fn where
  ps : Nat
  ns : Nat
  body : List S
def run1 (M : Md) (m n : Nat) (F : Option Fn) (ds : List D) (h : Hc) : T Rs := match F with
  | some F => if Nat.beq ds.length F.ps then (blk (evS M m n) F.body (ds.map some ++ List.replicate (F.ns - F.ps) none) h).calm.bind ends else .no
  | none => .no
structure Pg where
  fns : List (Option Fn)
  gls : List D
  mks : List (Nat × Nat × List D)
def run (P : Pg) (m n fuel : Nat) : Nat → Nat → List D → Hc → T Rs
  | 0, _, _, _ => .no
  | k + 1, f, ds, h => run1 ⟨fun j => P.mks.getD j (0, 0, []), run P m n fuel k, fun g => P.gls.getD g .non, fuel⟩ m n (P.fns.getD f none) ds h
end Yl

set_option maxRecDepth 100000
set_option maxHeartbeats 1000000
/-! Y0s: the sorting of Y0 is the library's. -/
namespace Yl
theorem zs_xl_cons {a b : Nat} {x y : Tx} : txLt (a :: x) (b :: y) = true ↔ a < b ∨ (a = b ∧ txLt x y = true) := by
  show (if Nat.blt a b then true else if Nat.beq a b then txLt x y else false) = true ↔ _
  by_cases h : a < b
  · rw [if_pos (Nat.blt_eq.mpr h)]; simp [h]
  · have hb : ¬ Nat.blt a b = true := fun e => h (Nat.blt_eq.mp e)
    rw [if_neg hb]
    by_cases e : a = b
    · subst e; rw [if_pos (Nat.beq_refl a)]; simp
    · rw [if_neg fun g => e (Nat.eq_of_beq_eq_true g)]; simp [h, e]
theorem zs_xl_irr : ∀ a, txLt a a = false
  | [] => rfl
  | a :: x => by
    cases e : txLt (a :: x) (a :: x) with
    | false => rfl
    | true =>
      rcases zs_xl_cons.mp e with h | h
      · omega
      · rw [zs_xl_irr x] at h; cases h.2
theorem zs_xl_tr : ∀ a b c, txLt a b = true → txLt b c = true → txLt a c = true
  | [], [], _, h, _ => by cases h
  | [], _ :: _, [], _, g => by cases g
  | [], _ :: _, _ :: _, _, _ => rfl
  | _ :: _, [], _, h, _ => by cases h
  | _ :: _, _ :: _, [], _, g => by cases g
  | a :: x, b :: y, c :: z, h, g => by
    refine zs_xl_cons.mpr ?_
    rcases zs_xl_cons.mp h with h | ⟨h, h'⟩ <;> rcases zs_xl_cons.mp g with g | ⟨g, g'⟩
    · left; omega
    · left; omega
    · left; omega
    · exact .inr ⟨h.trans g, zs_xl_tr x y z h' g'⟩
theorem zs_xl_tri : ∀ a b, txLt a b = true ∨ a = b ∨ txLt b a = true
  | [], [] => .inr (.inl rfl)
  | [], _ :: _ => .inl rfl
  | _ :: _, [] => .inr (.inr rfl)
  | a :: x, b :: y => by
    rcases Nat.lt_trichotomy a b with h | h | h
    · exact .inl (zs_xl_cons.mpr (.inl h))
    · subst h
      rcases zs_xl_tri x y with h | h | h
      · exact .inl (zs_xl_cons.mpr (.inr ⟨rfl, h⟩))
      · exact .inr (.inl (by rw [h]))
      · exact .inr (.inr (zs_xl_cons.mpr (.inr ⟨rfl, h⟩)))
    · exact .inr (.inr (zs_xl_cons.mpr (.inl h)))
theorem zs_xb_eq : ∀ a b : Tx, txBeq a b = true ↔ a = b
  | [], [] => by simp [txBeq]
  | [], _ :: _ => by simp [txBeq]
  | _ :: _, [] => by simp [txBeq]
  | a :: x, b :: y => by
    show (Nat.beq a b && txBeq x y) = true ↔ _
    rw [Bool.and_eq_true_iff, zs_xb_eq x y]
    constructor
    · rintro ⟨h, rfl⟩; rw [Nat.eq_of_beq_eq_true h]
    · intro h; cases h; exact ⟨Nat.beq_refl a, rfl⟩
theorem zs_lf_eqv {a b : D} (ha : shF a ≠ 0) (h : shF a = shF b) : eqv a b = true ↔ a = b := by
  cases a <;> first | exact absurd rfl ha | skip
  all_goals cases b <;> first | (cases h; done) | skip
  · rename_i i j
    show (i == j) = true ↔ _
    rw [beq_iff_eq]
    constructor
    · rintro rfl; rfl
    · intro e; cases e; rfl
  · rename_i i j
    show txBeq i j = true ↔ _
    rw [zs_xb_eq]
    constructor
    · rintro rfl; rfl
    · intro e; cases e; rfl
theorem zs_lf_irr (a : D) : ltF a a = false := by
  cases a <;> first | rfl | skip
  · exact decide_eq_false (Int.lt_irrefl _)
  · exact zs_xl_irr _
theorem zs_lf_tr {a b c : D} (h : ltF a b = true) (g : ltF b c = true) : ltF a c = true := by
  cases a <;> first | (cases h; done) | skip
  all_goals cases b <;> first | (cases h; done) | skip
  all_goals cases c <;> first | (cases g; done) | skip
  · exact decide_eq_true (Int.lt_trans (of_decide_eq_true h) (of_decide_eq_true g))
  · exact zs_xl_tr _ _ _ h g
theorem zs_lf_tri {a b : D} (ha : shF a ≠ 0) (h : shF a = shF b) : ltF a b = true ∨ a = b ∨ ltF b a = true := by
  cases a <;> first | exact absurd rfl ha | skip
  all_goals cases b <;> first | (cases h; done) | skip
  · rename_i i j
    rcases Int.lt_trichotomy i j with e | e | e
    · exact .inl (decide_eq_true e)
    · exact .inr (.inl (by rw [e]))
    · exact .inr (.inr (decide_eq_true e))
  · rename_i i j
    rcases zs_xl_tri i j with e | e | e
    · exact .inl e
    · exact .inr (.inl (by rw [e]))
    · exact .inr (.inr e)
theorem zs_ls_irr : ∀ {x : List D}, (∀ d ∈ x, shF d ≠ 0) → ltFs x x = false
  | [], _ => rfl
  | a :: x, h => by
    show (if eqv a a then ltFs x x else ltF a a) = false
    rw [if_pos ((zs_lf_eqv (h a List.mem_cons_self) rfl).mpr rfl)]
    exact zs_ls_irr fun d hd => h d (List.mem_cons_of_mem _ hd)
theorem zs_ls_tr : ∀ {x y z : List D}, (∀ d ∈ x, shF d ≠ 0) → x.map shF = y.map shF → y.map shF = z.map shF → ltFs x y = true → ltFs y z = true → ltFs x z = true
  | [], [], _, _, _, _, h, _ => by cases h
  | [], b :: y, _, _, e, _, _, _ => by cases e
  | a :: x, [], _, _, e, _, _, _ => by cases e
  | a :: x, b :: y, [], _, _, e, _, _ => by cases e
  | a :: x, b :: y, c :: z, hn, e, e', h, g => by
    injection e with e1 e2
    injection e' with e3 e4
    have na := hn a List.mem_cons_self
    have nb : shF b ≠ 0 := by rw [← e1]; exact na
    have h : (if eqv a b then ltFs x y else ltF a b) = true := h
    have g : (if eqv b c then ltFs y z else ltF b c) = true := g
    show (if eqv a c then ltFs x z else ltF a c) = true
    by_cases ab : eqv a b = true
    · have := (zs_lf_eqv na e1).mp ab
      subst this
      rw [if_pos ab] at h
      by_cases bc : eqv a c = true
      · rw [if_pos bc] at g ⊢
        exact zs_ls_tr (fun d hd => hn d (List.mem_cons_of_mem _ hd)) e2 e4 h g
      · rw [if_neg bc] at g ⊢
        exact g
    · rw [if_neg ab] at h
      by_cases bc : eqv b c = true
      · have := (zs_lf_eqv nb e3).mp bc
        subst this
        rw [if_neg ab]; exact h
      · rw [if_neg bc] at g
        have t := zs_lf_tr h g
        have ac : ¬ eqv a c = true := fun ac => by
          have := (zs_lf_eqv na (e1.trans e3)).mp ac
          subst this
          rw [zs_lf_irr] at t; cases t
        rw [if_neg ac]; exact t
theorem zs_ls_tri : ∀ {x y : List D}, (∀ d ∈ x, shF d ≠ 0) → x.map shF = y.map shF → ltFs x y = true ∨ x = y ∨ ltFs y x = true
  | [], [], _, _ => .inr (.inl rfl)
  | [], b :: y, _, e => by cases e
  | a :: x, [], _, e => by cases e
  | a :: x, b :: y, hn, e => by
    injection e with e1 e2
    have na := hn a List.mem_cons_self
    have nb : shF b ≠ 0 := by rw [← e1]; exact na
    show (if eqv a b then ltFs x y else ltF a b) = true ∨ _ ∨ (if eqv b a then ltFs y x else ltF b a) = true
    by_cases ab : eqv a b = true
    · have := (zs_lf_eqv na e1).mp ab
      subst this
      rw [if_pos ab, if_pos ab]
      rcases zs_ls_tri (fun d hd => hn d (List.mem_cons_of_mem _ hd)) e2 with h | h | h
      · exact .inl h
      · exact .inr (.inl (by rw [h]))
      · exact .inr (.inr h)
    · have ba : ¬ eqv b a = true := fun z => ab ((zs_lf_eqv na e1).mpr ((zs_lf_eqv nb e1.symm).mp z).symm)
      rw [if_neg ab, if_neg ba]
      rcases zs_lf_tri na e1 with h | h | h
      · exact .inl h
      · exact absurd ((zs_lf_eqv na e1).mpr h) ab
      · exact .inr (.inr h)
/-- of one shape -/
theorem zs_shp_cases {d : D} (h : shp d ≠ []) : (∃ i, d = .int i) ∨ (∃ x, d = .str x) ∨ ∃ xs, d = .tup xs ∧ (∀ a ∈ xs, shF a ≠ 0) ∧ shp d = 3 :: xs.map shF := by
  cases d <;> first | exact absurd rfl h | skip
  · exact .inl ⟨_, rfl⟩
  · exact .inr (.inl ⟨_, rfl⟩)
  · rename_i xs
    cases xs with
    | nil => exact absurd rfl h
    | cons x r =>
      have e : shp (.tup (x :: r)) = if (x :: r).all (fun d => !Nat.beq (shF d) 0) then 3 :: (x :: r).map shF else [] := rfl
      by_cases q : (x :: r).all (fun d => !Nat.beq (shF d) 0) = true
      · rw [if_pos q] at e
        exact .inr (.inr ⟨_, rfl, (fun a ha z => by have := List.all_eq_true.mp q a ha; rw [z] at this; cases this), e⟩)
      · rw [if_neg q] at e
        exact absurd e h
theorem zs_lb_irr {a : D} (ha : shp a ≠ []) : ltB a a = false := by
  rcases zs_shp_cases ha with ⟨i, rfl⟩ | ⟨x, rfl⟩ | ⟨xs, rfl, h, _⟩
  · exact zs_lf_irr (.int i)
  · exact zs_lf_irr (.str x)
  · exact zs_ls_irr h
theorem zs_lb_tr {a b c : D} (ha : shp a ≠ []) (e : shp a = shp b) (e' : shp b = shp c) (h : ltB a b = true) (g : ltB b c = true) : ltB a c = true := by
  have hb : shp b ≠ [] := by rw [← e]; exact ha
  have hc : shp c ≠ [] := by rw [← e']; exact hb
  rcases zs_shp_cases ha with ⟨i, rfl⟩ | ⟨x, rfl⟩ | ⟨xs, rfl, h1, s1⟩ <;> rcases zs_shp_cases hb with ⟨j, rfl⟩ | ⟨y, rfl⟩ | ⟨ys, rfl, h2, s2⟩ <;> rcases zs_shp_cases hc with ⟨k, rfl⟩ | ⟨z, rfl⟩ | ⟨zs, rfl, h3, s3⟩ <;> first | exact zs_lf_tr (a := .int _) (b := .int _) (c := .int _) h g | exact zs_lf_tr (a := .str _) (b := .str _) (c := .str _) h g | (cases e; done) | (cases e'; done) | (rw [s2] at e; cases e; done) | (rw [s3] at e'; cases e'; done) | (rw [s1] at e; cases e; done) | (rw [s2] at e'; cases e'; done) | skip
  rw [s1, s2] at e
  rw [s2, s3] at e'
  injection e with _ e
  injection e' with _ e'
  exact zs_ls_tr h1 e e' h g
theorem zs_lb_tri {a b : D} (ha : shp a ≠ []) (e : shp a = shp b) : ltB a b = true ∨ a = b ∨ ltB b a = true := by
  have hb : shp b ≠ [] := by rw [← e]; exact ha
  rcases zs_shp_cases ha with ⟨i, rfl⟩ | ⟨x, rfl⟩ | ⟨xs, rfl, h1, s1⟩ <;> rcases zs_shp_cases hb with ⟨j, rfl⟩ | ⟨y, rfl⟩ | ⟨ys, rfl, h2, s2⟩ <;> first | (cases e; done) | (rw [s2] at e; cases e; done) | (rw [s1] at e; cases e; done) | exact zs_lf_tri (a := .int i) (b := .int j) Nat.one_ne_zero rfl | exact zs_lf_tri (a := .str x) (b := .str y) (Nat.succ_ne_zero 1) rfl | skip
  rw [s1, s2] at e
  injection e with _ e
  rcases zs_ls_tri h1 e with h | h | h
  · exact .inl h
  · exact .inr (.inl (by rw [h]))
  · exact .inr (.inr h)
abbrev zs_leB (a b : D) : Bool := !ltB b a
theorem zs_insD_perm (x : D) : ∀ xs : List D, (insD x xs).Perm (x :: xs)
  | [] => .refl _
  | y :: r => by
    unfold insD
    split
    · exact ((zs_insD_perm x r).cons y).trans (.swap x y r)
    · exact .refl _
theorem zs_isrt_perm : ∀ xs : List D, (isrt xs).Perm xs
  | [] => .refl _
  | x :: r => (zs_insD_perm x (isrt r)).trans ((zs_isrt_perm r).cons x)
section
variable {s : List Nat} (hs : s ≠ [])
include hs
theorem zs_le_tot {a b : D} (ha : shp a = s) (hb : shp b = s) : (zs_leB a b || zs_leB b a) = true := by
  have na : shp a ≠ [] := by rw [ha]; exact hs
  unfold zs_leB
  cases e : ltB b a with
  | false => rfl
  | true =>
    cases e2 : ltB a b with
    | false => rfl
    | true =>
      have := zs_lb_tr na (ha.trans hb.symm) (hb.trans ha.symm) e2 e
      rw [zs_lb_irr na] at this; cases this
theorem zs_le_tr {a b c : D} (ha : shp a = s) (hb : shp b = s) (hc : shp c = s) (h : zs_leB a b = true) (g : zs_leB b c = true) : zs_leB a c = true := by
  unfold zs_leB at *
  rw [Bool.not_eq_true'] at *
  have na : shp a ≠ [] := by rw [ha]; exact hs
  have nc : shp c ≠ [] := by rw [hc]; exact hs
  cases e : ltB c a with
  | false => rfl
  | true =>
    rcases zs_lb_tri na (ha.trans hb.symm) with x | x | x
    · have := zs_lb_tr nc (hc.trans ha.symm) (ha.trans hb.symm) e x
      rw [g] at this; cases this
    · subst x; rw [g] at e; cases e
    · rw [h] at x; cases x
theorem zs_le_anti {a b : D} (ha : shp a = s) (hb : shp b = s) (h : zs_leB a b = true) (g : zs_leB b a = true) : a = b := by
  unfold zs_leB at *
  rw [Bool.not_eq_true'] at *
  have na : shp a ≠ [] := by rw [ha]; exact hs
  rcases zs_lb_tri na (ha.trans hb.symm) with x | x | x
  · rw [g] at x; cases x
  · exact x
  · rw [h] at x; cases x
theorem zs_insD_pw {x : D} (hx : shp x = s) : ∀ {xs : List D}, (∀ d ∈ xs, shp d = s) → xs.Pairwise (fun a b => zs_leB a b = true) → (insD x xs).Pairwise (fun a b => zs_leB a b = true)
  | [], _, _ => List.pairwise_singleton _ _
  | y :: r, hn, hp => by
    rw [List.pairwise_cons] at hp
    have hy := hn y List.mem_cons_self
    have hr := fun d hd => hn d (List.mem_cons_of_mem y hd)
    unfold insD
    by_cases q : ltB y x = true
    · rw [if_pos q, List.pairwise_cons]
      refine ⟨fun d hd => ?_, zs_insD_pw hx hr hp.2⟩
      rcases List.mem_cons.mp ((zs_insD_perm x r).mem_iff.mp hd) with rfl | hd
      · have t := zs_le_tot hs hy hx
        unfold zs_leB at t ⊢
        cases e : ltB d y with
        | false => rfl
        | true =>
          have := zs_lb_tr (by rw [hy]; exact hs) (hy.trans hx.symm) (hx.trans hy.symm) q e
          rw [zs_lb_irr (by rw [hy]; exact hs)] at this; cases this
      · exact hp.1 d hd
    · rw [if_neg q, List.pairwise_cons, List.pairwise_cons]
      have xy : zs_leB x y = true := by unfold zs_leB; simpa using q
      refine ⟨fun d hd => ?_, hp.1, hp.2⟩
      rcases List.mem_cons.mp hd with rfl | hd
      · exact xy
      · exact zs_le_tr hs hx hy (hr d hd) xy (hp.1 d hd)
theorem zs_isrt_pw : ∀ {xs : List D}, (∀ d ∈ xs, shp d = s) → (isrt xs).Pairwise (fun a b => zs_leB a b = true)
  | [], _ => .nil
  | x :: r, hn => zs_insD_pw hs (hn x List.mem_cons_self) (fun d hd => hn d (List.mem_cons_of_mem x ((zs_isrt_perm r).mem_iff.mp hd))) (zs_isrt_pw fun d hd => hn d (List.mem_cons_of_mem x hd))
theorem zs_isrt_eq {xs : List D} (hn : ∀ d ∈ xs, shp d = s) : isrt xs = xs.mergeSort zs_leB := by
  obtain ⟨ys, rfl⟩ : ∃ ys : List {d : D // shp d = s}, xs = ys.map Subtype.val := ⟨xs.attach.map fun p => ⟨p.1, hn p.1 p.2⟩, by
    rw [List.map_map]
    show xs = xs.attach.map Subtype.val
    rw [List.attach_map_subtype_val]⟩
  have e := List.map_mergeSort (r := fun a b : {d : D // shp d = s} => zs_leB a.1 b.1) (s := zs_leB) (f := Subtype.val) (l := ys) (fun a _ b _ => rfl)
  have pw : (ys.mergeSort fun a b => zs_leB a.1 b.1).Pairwise (fun a b => zs_leB a.1 b.1 = true) := List.pairwise_mergeSort (le := fun a b : {d : D // shp d = s} => zs_leB a.1 b.1) (fun a b c h g => zs_le_tr hs a.2 b.2 c.2 h g) (fun a b => zs_le_tot hs a.2 b.2) ys
  rw [← e]
  refine List.Perm.eq_of_pairwise (le := fun a b => zs_leB a b = true) (fun a b ha hb h g => ?_) (zs_isrt_pw hs hn) ?_ ((zs_isrt_perm _).trans ((List.mergeSort_perm ys _).map _).symm)
  · obtain ⟨b', _, rfl⟩ := List.mem_map.mp hb
    exact zs_le_anti hs (hn a ((zs_isrt_perm _).mem_iff.mp ha)) b'.2 h g
  · exact List.pairwise_map.mpr pw
end
theorem sortD_merge (xs : List D) : sortD xs = if sortOk xs then some (xs.mergeSort fun a b => !ltB b a) else none := by
  unfold sortD
  cases e : sortOk xs with
  | false => rfl
  | true =>
    rw [if_pos rfl, if_pos rfl]
    cases xs with
    | nil => simp [isrt]
    | cons x r =>
      unfold sortOk at e
      rw [Bool.and_eq_true_iff] at e
      have hx : shp x ≠ [] := fun z => by rw [z] at e; cases e.1
      have := zs_isrt_eq (s := shp x) hx (xs := x :: r) fun d hd => by
        rcases List.mem_cons.mp hd with rfl | hd
        · rfl
        · exact eq_of_beq (List.all_eq_true.mp e.2 d hd)
      rw [this]
end Yl

set_option maxRecDepth 100000
set_option maxHeartbeats 4000000
/-! Y1: data; what a value stands for (F: what never changes; m: where the cells stand); worlds; readings on data. -/
namespace Yl
open PySem PySem.Spec PyProof.Rows L2
abbrev St := L2.St
structure Mx where
  P : Program
  w : World
  K : PySem.W.Frag
  mg : Str → Option Value
  base : Heap
  ca : Nat → Addr
def kD : Key → D
  | .inl i => .int i
  | .inr s => .str s.cps.toList
def ktD (ks : List Key) : D := .tup (ks.map kD)
def At {α β : Type} (R : α → β → Prop) (xs : List α) (ys : List β) : Prop := xs.length = ys.length ∧ ∀ (i : Nat) x y, xs[i]? = some x → ys[i]? = some y → R x y
section
variable {α β : Type} {R R' : α → β → Prop} {xs : List α} {ys : List β} {x : α} {y : β}
theorem At.mono (h : ∀ x y, R x y → R' x y) (a : At R xs ys) : At R' xs ys := ⟨a.1, fun i x y e f => h _ _ (a.2 i x y e f)⟩
theorem At.nil : At R [] [] := ⟨rfl, fun i x y e _ => by simp at e⟩
theorem At.cons (h : R x y) (a : At R xs ys) : At R (x :: xs) (y :: ys) := ⟨by simp [a.1], fun i u v e f => by
  cases i with
  | zero =>
    simp at e f
    subst e f
    exact h
  | succ i => exact a.2 i u v (by simpa using e) (by simpa using f)⟩
theorem At.head (a : At R (x :: xs) (y :: ys)) : R x y := a.2 0 x y rfl rfl
theorem At.tail (a : At R (x :: xs) (y :: ys)) : At R xs ys := ⟨by simpa using a.1, fun i u v e f => a.2 (i + 1) u v (by simpa using e) (by simpa using f)⟩
theorem At.nil_inv (a : At R xs []) : xs = [] := List.eq_nil_of_length_eq_zero a.1
theorem At.cons_inv (a : At R xs (y :: ys)) : ∃ u us, xs = u :: us ∧ R u y ∧ At R us ys := by
  cases xs with
  | nil => exact absurd a.1 (by simp)
  | cons u us => exact ⟨u, us, rfl, a.head, a.tail⟩
theorem At.append {zs : List α} {ws : List β} (a : At R xs ys) (b : At R zs ws) : At R (xs ++ zs) (ys ++ ws) := by
  refine ⟨by simp [a.1, b.1], fun i u v e f => ?_⟩
  by_cases hi : i < xs.length
  · rw [List.getElem?_append_left hi] at e
    rw [List.getElem?_append_left (by rw [← a.1]; exact hi)] at f
    exact a.2 i u v e f
  · rw [List.getElem?_append_right (by omega)] at e
    rw [List.getElem?_append_right (by rw [← a.1]; omega), ← a.1] at f
    exact b.2 _ u v e f
theorem At.get (a : At R xs ys) {i : Nat} {v : β} (f : ys[i]? = some v) : ∃ u, xs[i]? = some u ∧ R u v := by
  have hi : i < ys.length := (List.getElem?_eq_some_iff.mp f).1
  have hj : i < xs.length := by rw [a.1]; exact hi
  exact ⟨xs[i], by simp [hj], a.2 i _ v (by simp [hj]) f⟩
theorem At.take (a : At R xs ys) (n : Nat) : At R (xs.take n) (ys.take n) := ⟨by simp [a.1], fun i u v e f => by
  rw [List.getElem?_take] at e f
  split at e
  · rename_i h
    rw [if_pos h] at f
    exact a.2 i u v e f
  · cases e⟩
theorem At.drop (a : At R xs ys) (n : Nat) : At R (xs.drop n) (ys.drop n) := ⟨by simp [a.1], fun i u v e f => by
  rw [List.getElem?_drop] at e f
  exact a.2 _ u v e f⟩
theorem At.set (a : At R xs ys) (h : R x y) (n : Nat) : At R (xs.set n x) (ys.set n y) := ⟨by simp [a.1], fun i u v e f => by
  by_cases hi : n = i
  · subst hi
    rw [List.getElem?_set] at e f
    simp only [if_true] at e f
    split at e
    · split at f
      · cases e
        cases f
        exact h
      · cases f
    · cases e
  · rw [List.getElem?_set_ne hi] at e f
    exact a.2 i u v e f⟩
theorem At.map {γ δ : Type} {S : γ → δ → Prop} {f : α → γ} {g : β → δ} (a : At R xs ys) (h : ∀ x y, R x y → S (f x) (g y)) : At S (xs.map f) (ys.map g) := ⟨by simp [a.1], fun i u v e q => by
  rw [List.getElem?_map] at e q
  cases e1 : xs[i]? with
  | none => rw [e1] at e; cases e
  | some x =>
    cases e2 : ys[i]? with
    | none => rw [e2] at q; cases q
    | some y =>
      rw [e1] at e
      rw [e2] at q
      cases e
      cases q
      exact h _ _ (a.2 i x y e1 e2)⟩
theorem At.dropLast (a : At R xs ys) : At R xs.dropLast ys.dropLast := by
  rw [List.dropLast_eq_take, List.dropLast_eq_take, ← a.1]
  exact a.take _
theorem At.reverse (a : At R xs ys) : At R xs.reverse ys.reverse := ⟨by simp [a.1], fun i u v e f => by
  have hi : i < xs.length := by simpa using (List.getElem?_eq_some_iff.mp e).1
  rw [List.getElem?_reverse hi] at e
  rw [List.getElem?_reverse (by rw [← a.1]; exact hi), ← a.1] at f
  exact a.2 _ u v e f⟩
end

abbrev Sub (F F' : Hp) : Prop := ∀ a o, F a = some o → F' a = some o
/-- v stands for d -/
inductive Rep (M : Mx) (F : Hp) (m : List Addr) : V → D → Prop where
  | non : Rep M F m .non .non
  | bl (b : Bool) : Rep M F m (.bl b) (.bl b)
  | int (i : Int) : Rep M F m (.int i) (.int i)
  | str (x : Tx) : Rep M F m (.str (ts x)) (.str x)
  | ty (n : Nat) : Rep M F m (.ty (tyS n)) (.ty n)
  | cl (c : Nat) : Rep M F m (.ref (M.ca c)) (.cl c)
  | ref {i : Nat} {a : Addr} : m[i]? = some a → Rep M F m (.ref a) (.ref i)
  | kdct {a : Addr} {kvs : List (Tx × Int)} : (∃ es n, KDict M.K M.w a es n) → (∀ z : Tx, ∃ r, PySem.W.nsIn M.K a (ts z) = some r ∧ match kvs.lookup z with | some i => ∃ u, r = some u ∧ RelV (.int i) u | none => r = none) → Rep M F m (.ref a) (.kdct kvs)
  | tup {a : Addr} {vs : List V} {ds : List D} : F a = some (.tup vs) → vs.length = ds.length → (∀ (i : Nat) v d, vs[i]? = some v → ds[i]? = some d → Rep M F m v d) → Rep M F m (.ref a) (.tup ds)
  | ktup {a : Addr} {vs : List V} {ds : List D} : SqT M.K (fun _ => none) a vs → vs.length = ds.length → (∀ (i : Nat) v d, vs[i]? = some v → ds[i]? = some d → Rep M F m v d) → Rep M F m (.ref a) (.ktup ds)
  | lst {a : Addr} {vs : List V} {ds : List D} : F a = some (.lst vs) → vs.length = ds.length → (∀ (i : Nat) v d, vs[i]? = some v → ds[i]? = some d → Rep M F m v d) → Rep M F m (.ref a) (.lst ds)
  | dk {a : Addr} {vs : List (Key × V)} {ds : List (D × D)} : F a = some (.dK vs) → vs.length = ds.length → (∀ (i : Nat) v d, vs[i]? = some v → ds[i]? = some d → d.1 = kD v.1) → (∀ (i : Nat) v d, vs[i]? = some v → ds[i]? = some d → Rep M F m v.2 d.2) → Rep M F m (.ref a) (.dct false ds)
  | dt {a : Addr} {vs : List (List Key × V)} {ds : List (D × D)} : F a = some (.dT vs) → vs.length = ds.length → (∀ (i : Nat) v d, vs[i]? = some v → ds[i]? = some d → d.1 = ktD v.1) → (∀ (i : Nat) v d, vs[i]? = some v → ds[i]? = some d → Rep M F m v.2 d.2) → Rep M F m (.ref a) (.dct true ds)
  | ins {a dx : Addr} {C : Nat} {vs : List (Str × V)} {ds : List (Tx × D)} : F a = some (.ins (M.ca C) dx vs) → vs.length = ds.length → (∀ (i : Nat) v d, vs[i]? = some v → ds[i]? = some d → v.1 = ts d.1) → (∀ (i : Nat) v d, vs[i]? = some v → ds[i]? = some d → Rep M F m v.2 d.2) → Rep M F m (.ref a) (.ins C ds)
abbrev Pre (m m' : List Addr) : Prop := ∀ (i : Nat) (a : Addr), m[i]? = some a → m'[i]? = some a
theorem Rep.mono {M : Mx} {F F' : Hp} {m m' : List Addr} (s : Sub F F') (p : Pre m m') {v : V} {d : D} (r : Rep M F m v d) : Rep M F' m' v d := by
  induction r with
  | non => exact .non
  | bl b => exact .bl b
  | int i => exact .int i
  | str x => exact .str x
  | ty n => exact .ty n
  | cl c => exact .cl c
  | ref h => exact .ref (p _ _ h)
  | kdct h k => exact .kdct h k
  | tup h l _ ih => exact .tup (s _ _ h) l ih
  | ktup h l _ ih => exact .ktup h l ih
  | lst h l _ ih => exact .lst (s _ _ h) l ih
  | dk h l k _ ih => exact .dk (s _ _ h) l k ih
  | dt h l k _ ih => exact .dt (s _ _ h) l k ih
  | ins h l k _ ih => exact .ins (s _ _ h) l k ih
abbrev RepL (M : Mx) (F : Hp) (m : List Addr) : List V → List D → Prop := At (Rep M F m)
def KR (M : Mx) (F : Hp) (m : List Addr) (p : Key × V) (q : D × D) : Prop := q.1 = kD p.1 ∧ Rep M F m p.2 q.2
def TR (M : Mx) (F : Hp) (m : List Addr) (p : List Key × V) (q : D × D) : Prop := q.1 = ktD p.1 ∧ Rep M F m p.2 q.2
def FR (M : Mx) (F : Hp) (m : List Addr) (p : Str × V) (q : Tx × D) : Prop := p.1 = ts q.1 ∧ Rep M F m p.2 q.2
section
variable {M : Mx} {F F' : Hp} {m m' : List Addr} {a : Addr} {x : V} {ds : List D}
theorem RepL.mono {vs : List V} (s : Sub F F') (p : Pre m m') (h : RepL M F m vs ds) : RepL M F' m' vs ds := At.mono (fun _ _ r => r.mono s p) h
theorem Rep.tup_inv (r : Rep M F m x (.tup ds)) : ∃ a vs, x = .ref a ∧ F a = some (.tup vs) ∧ RepL M F m vs ds := by
  cases r with
  | tup h l p => exact ⟨_, _, rfl, h, l, p⟩
theorem Rep.ktup_inv (r : Rep M F m x (.ktup ds)) : ∃ a vs, x = .ref a ∧ SqT M.K (fun _ => none) a vs ∧ RepL M F m vs ds := by
  cases r with
  | ktup h l p => exact ⟨_, _, rfl, h, l, p⟩
theorem Rep.int_inv {i : Int} (r : Rep M F m x (.int i)) : x = .int i := by cases r; rfl
theorem Rep.bl_inv {i : Bool} (r : Rep M F m x (.bl i)) : x = .bl i := by cases r; rfl
theorem Rep.str_inv {i : Tx} (r : Rep M F m x (.str i)) : x = .str (ts i) := by cases r; rfl
theorem Rep.non_inv (r : Rep M F m x .non) : x = .non := by cases r; rfl
theorem Rep.ty_inv {i : Nat} (r : Rep M F m x (.ty i)) : x = .ty (tyS i) := by cases r; rfl
theorem Rep.cl_inv {i : Nat} (r : Rep M F m x (.cl i)) : x = .ref (M.ca i) := by cases r; rfl
theorem Rep.ref_inv {i : Nat} (r : Rep M F m x (.ref i)) : ∃ a, m[i]? = some a ∧ x = .ref a := by
  cases r with
  | ref h => exact ⟨_, h, rfl⟩
theorem SqT.k {K : PySem.W.Frag} {H : Hp} {vs : List V} (h : SqT K (fun _ => none) a vs) : SqT K H a vs := by
  rcases h with (h | ⟨o, h⟩) | h
  · cases h
  · cases h
  · exact .inr h
end
/-- the object o has the content d -/
def Cont (M : Mx) (F : Hp) (m : List Addr) : D → HO → Prop
  | .lst ds, .lst vs => RepL M F m vs ds
  | .dct t es, .dK vs => t = false ∧ At (KR M F m) vs es
  | .dct t es, .dT vs => t = true ∧ At (TR M F m) vs es
  | .ins C es, .ins C' _ vs => C' = M.ca C ∧ At (FR M F m) vs es
  | .zz, .lst vs => ∃ (q : Addr) (i c s : Int) (qs : List Int), vs = [.ref q, .int i, .int c, .int s] ∧ F q = some (.lst (qs.map V.int)) ∧ 0 ≤ i ∧ 0 ≤ c ∧ 0 ≤ s ∧ s < 2 ^ 31
  | _, _ => False
theorem Cont.mono {M : Mx} {F F' : Hp} {m m' : List Addr} (s : Sub F F') (p : Pre m m') {d : D} {o : HO} (h : Cont M F m d o) : Cont M F' m' d o := by
  cases d <;> cases o <;> first
    | exact h.elim
    | exact RepL.mono s p h
    | exact ⟨h.1, At.mono (fun _ _ r => ⟨r.1, r.2.mono s p⟩) h.2⟩
    | (obtain ⟨q, i, c, s', qs, a1, a2, a3⟩ := h; exact ⟨q, i, c, s', qs, a1, s _ _ a2, a3⟩)
theorem rep_box {M : Mx} {F : Hp} {m : List Addr} {a : Addr} {d : D} {u : HO} (b : boxd d = true) (h : F a = some u) (c : Cont M F m d u) : Rep M F m (.ref a) d := by
  cases d <;> first | (cases b; done) | skip
  all_goals cases u <;> first | exact c.elim | skip
  · exact .lst h c.1 c.2
  · obtain ⟨rfl, c⟩ := c
    exact .dk h c.1 (fun i v d e f => (c.2 i v d e f).1) fun i v d e f => (c.2 i v d e f).2
  · obtain ⟨rfl, c⟩ := c
    exact .dt h c.1 (fun i v d e f => (c.2 i v d e f).1) fun i v d e f => (c.2 i v d e f).2
  · obtain ⟨rfl, c⟩ := c
    exact .ins h c.1 (fun i v d e f => (c.2 i v d e f).1) fun i v d e f => (c.2 i v d e f).2
theorem rep_unbox {M : Mx} {F : Hp} {m : List Addr} {v : V} {d : D} (b : boxd d = true) (r : Rep M F m v d) : ∃ a u, v = .ref a ∧ F a = some u ∧ Cont M F m d u := by
  cases r <;> first | (cases b; done) | skip
  · rename_i h l p; exact ⟨_, _, rfl, h, l, p⟩
  · rename_i h l k p; exact ⟨_, _, rfl, h, rfl, l, fun i v d e f => ⟨k i v d e f, p i v d e f⟩⟩
  · rename_i h l k p; exact ⟨_, _, rfl, h, rfl, l, fun i v d e f => ⟨k i v d e f, p i v d e f⟩⟩
  · rename_i h l k p; exact ⟨_, _, rfl, h, rfl, l, fun i v d e f => ⟨k i v d e f, p i v d e f⟩⟩
/-! ### what may be read -/
def lk : HO → Bool
  | .dK _ => true
  | .dT _ => true
  | _ => false
def RdT (H : Hp) (a : Addr) (o : HO) : Prop := Rd H a o ∧ (lk o = false → H a = some o)
theorem RdT.of {H : Hp} {a : Addr} {o : HO} (h : H a = some o) : RdT H a o := ⟨.inl h, fun _ => h⟩
theorem RdT.upd {H : Hp} {a p : Addr} {o u : HO} (n : a ≠ p) (h : RdT H a o) : RdT (L2.upd H p u) a o := by
  refine ⟨?_, fun z => by rw [upd_ne n]; exact h.2 z⟩
  rcases h.1 with z | ⟨ob, z⟩
  · exact .inl (by rw [upd_ne n]; exact z)
  · exact .inr ⟨ob, by rw [upd_ne n]; exact z⟩
theorem RdT.ne {H : Hp} {a p : Addr} {o : HO} (h : RdT H a o) (hp : H p = none) : a ≠ p := fun e => by
  subst e
  rcases h.1 with z | ⟨_, z⟩ <;> (rw [hp] at z; cases z)
abbrev Le (F H : Hp) : Prop := ∀ a o, F a = some o → RdT H a o
theorem le_none {F H : Hp} {p : Addr} (le : Le F H) (h : H p = none) : F p = none := by
  cases q : F p with
  | none => rfl
  | some u => exact absurd rfl ((le _ _ q).ne h)
theorem sub_upd {F : Hp} {p : Addr} {o : HO} (h : F p = none) : Sub F (upd F p o) := fun a u e => by rw [upd_ne (ne_of_none e h)]; exact e
/-! ### worlds -/
structure Wd where
  F : Hp
  m : List Addr
  h : Hc
/-- the cell i lives, at a -/
def Live (w : Wd) (i : Nat) (a : Addr) : Prop := (∃ d, w.h[i]? = some (some d)) ∧ w.m[i]? = some a
structure WOk (M : Mx) (w : Wd) (H : Hp) : Prop where
  le : Le w.F H
  lm : w.m.length = w.h.length
  al : ∀ (i : Nat) d, w.h[i]? = some (some d) → ∃ a u, w.m[i]? = some a ∧ w.F a = none ∧ H a = some u ∧ Cont M w.F w.m d u
  inj : ∀ (i j : Nat) a, Live w i a → Live w j a → i = j
structure SOk (M : Mx) (w : Wd) (σ : St) (ρ : Env) : Prop where
  len : σ.length = ρ.length
  sl : ∀ (i : Nat) d, ρ[i]? = some (some d) → ∃ v, σ[i]? = some (some v) ∧ Rep M w.F w.m v d
/-- the thing at a stands as it stood, or it is a frozen dict that is locked now -/
def Kept (F H' : Hp) (a : Addr) (o : HO) : Prop := H' a = some o ∨ (lk o = true ∧ F a = some o ∧ ∃ ob, H' a = some (.frz ob o))
theorem Kept.no {F H' : Hp} {a : Addr} {o : HO} (k : Kept F H' a o) (h : F a = none) : H' a = some o := by
  rcases k with k | ⟨_, k, _⟩
  · exact k
  · rw [h] at k; cases k
theorem Kept.sub {F F' H' : Hp} {a : Addr} {o : HO} (s : Sub F F') (k : Kept F H' a o) : Kept F' H' a o := k.imp id fun ⟨a1, a2, a3⟩ => ⟨a1, s _ _ a2, a3⟩
theorem Kept.upd {F H' : Hp} {a p : Addr} {o u : HO} (n : a ≠ p) (k : Kept F H' a o) : Kept F (L2.upd H' p u) a o := by
  unfold Kept
  rw [upd_ne n]; exact k
/-- from one world to a later one -/
structure Ext (w : Wd) (H : Hp) (w' : Wd) (H' : Hp) : Prop where
  ff : Sub w.F w'.F
  mm : Pre w.m w'.m
  hh : ∀ a o, H a = some o → (∀ i, ¬ Live w i a) → Kept w'.F H' a o
  nn : ∀ a, H' a = none → H a = none
  fr : ∀ a o, w'.F a = some o → w.F a = some o ∨ H a = none ∨ (∃ vs, H a = some (.tup vs)) ∨ ∃ i, Live w i a
  cl : ∀ i a, Live w' i a → (∃ j, Live w j a) ∨ H a = none
section
variable {M : Mx} {w w' w1 w2 : Wd} {H H' H1 H2 : Hp} {σ : St} {ρ : Env}
theorem Ext.refl : Ext w H w H := ⟨fun _ _ h => h, fun _ _ h => h, fun _ _ h _ => .inl h, fun _ h => h, fun _ _ h => .inl h, fun i _ h => .inl ⟨i, h⟩⟩
theorem Ext.trans (a : Ext w H w1 H1) (b : Ext w1 H1 w2 H2) : Ext w H w2 H2 where
  ff := fun x o h => b.ff x o (a.ff x o h)
  mm := fun i x h => b.mm i x (a.mm i x h)
  hh := fun x o h n => by
    have nl : ∀ i, ¬ Live w1 i x := fun i l => by
      rcases a.cl i x l with ⟨j, l⟩ | l
      · exact n j l
      · rw [h] at l; cases l
    rcases a.hh x o h n with z | ⟨z1, z2, ob, z3⟩
    · exact b.hh x o z nl
    · rcases b.hh x _ z3 nl with y | ⟨y, _⟩
      · exact .inr ⟨z1, b.ff x o z2, ob, y⟩
      · cases y
  nn := fun x h => a.nn x (b.nn x h)
  fr := fun x o h => by
    rcases b.fr x o h with q | q | ⟨vs, q⟩ | ⟨i, q⟩
    · exact a.fr x o q
    · exact .inr (.inl (a.nn x q))
    · cases e : H x with
      | none => exact .inr (.inl rfl)
      | some u =>
        by_cases l : ∃ i, Live w i x
        · exact .inr (.inr (.inr l))
        · rcases a.hh x u e fun i z => l ⟨i, z⟩ with z | ⟨_, _, ob, z⟩
          · rw [q] at z; cases z
            exact .inr (.inr (.inl ⟨vs, rfl⟩))
          · rw [q] at z; cases z
    · rcases a.cl i x q with l | l
      · exact .inr (.inr (.inr l))
      · exact .inr (.inl l)
  cl := fun i x l => by
    rcases b.cl i x l with ⟨j, l⟩ | l
    · exact a.cl j x l
    · exact .inr (a.nn x l)
theorem SOk.ext (s : SOk M w σ ρ) (e : Ext w H w' H') : SOk M w' σ ρ := ⟨s.len, fun i d h => by
  obtain ⟨v, a, r⟩ := s.sl i d h
  exact ⟨v, a, r.mono e.ff e.mm⟩⟩
theorem WOk.at (k : WOk M w H) {i : Nat} {d : D} (h : w.h[i]? = some (some d)) : ∃ a u, w.m[i]? = some a ∧ w.F a = none ∧ H a = some u ∧ Cont M w.F w.m d u := k.al i d h
/-- what is frozen stays as it is, whatever else is written -/
structure Ltr (w : Wd) (H : Hp) (w' : Wd) (H' : Hp) : Prop where
  ff : Sub w.F w'.F
  mm : Pre w.m w'.m
  hf : ∀ a u o, w.F a = some u → H a = some o → Kept w'.F H' a o
theorem Ltr.refl : Ltr w H w H := ⟨fun _ _ h => h, fun _ _ h => h, fun _ _ _ _ h => .inl h⟩
theorem Ltr.trans (a : Ltr w H w1 H1) (b : Ltr w1 H1 w2 H2) : Ltr w H w2 H2 := ⟨fun x o h => b.ff x o (a.ff x o h), fun i x h => b.mm i x (a.mm i x h), fun x u o hx h => by
  rcases a.hf x u o hx h with z | ⟨z1, z2, ob, z3⟩
  · exact b.hf x u o (a.ff x u hx) z
  · rcases b.hf x o _ z2 z3 with y | ⟨y, _⟩
    · exact .inr ⟨z1, b.ff x o z2, ob, y⟩
    · cases y⟩
theorem Ltr.upd {p : Addr} {u : HO} (e : Ltr w H w' H') (fp : w.F p = none) : Ltr w H w' (upd H' p u) := ⟨e.ff, e.mm, fun a v o hf h => (e.hf a v o hf h).upd (fun q => by rw [q, fp] at hf; cases hf)⟩
theorem Ext.ltr (e : Ext w H w' H') (k : WOk M w H) : Ltr w H w' H' := ⟨e.ff, e.mm, fun a u o hf h => e.hh a o h fun i l => by
  obtain ⟨⟨d, hd⟩, hm⟩ := l
  obtain ⟨a', _, h1, h2, _⟩ := k.al i d hd
  rw [hm] at h1; cases h1
  rw [hf] at h2; cases h2⟩
theorem SOk.ltr (s : SOk M w σ ρ) (e : Ltr w H w' H') : SOk M w' σ ρ := ⟨s.len, fun i d h => by
  obtain ⟨v, a, r⟩ := s.sl i d h
  exact ⟨v, a, r.mono e.ff e.mm⟩⟩
/-- nothing but what is new -/
theorem WOk.keep (k : WOk M w H) (ff : Sub w.F w'.F) (em : w'.m = w.m) (eh : w'.h = w.h) (le : Le w'.F H') (hh : ∀ i a o, Live w i a → H a = some o → H' a = some o) (hf : ∀ i a, Live w i a → w'.F a = none) : WOk M w' H' := by
  refine ⟨le, by rw [em, eh]; exact k.lm, fun i d h => ?_, fun i j a x y => ?_⟩
  · rw [eh] at h
    obtain ⟨a, u, h1, h2, h3, h4⟩ := k.al i d h
    exact ⟨a, u, by rw [em]; exact h1, hf i a ⟨⟨d, h⟩, h1⟩, hh i a u ⟨⟨d, h⟩, h1⟩ h3, h4.mono ff (by rw [em]; exact fun _ _ z => z)⟩
  · unfold Live at x y
    rw [eh, em] at x y
    exact k.inj i j a x y
theorem live_some (k : WOk M w H) {i : Nat} {a : Addr} (l : Live w i a) : ∃ u, H a = some u ∧ w.F a = none := by
  obtain ⟨⟨d, h⟩, e⟩ := l
  obtain ⟨a', u, h1, h2, h3, _⟩ := k.al i d h
  rw [e] at h1; cases h1
  exact ⟨u, h3, h2⟩
/-- a new object laid, not yet told of -/
theorem ext_lay (k : WOk M w H) {p : Addr} {o : HO} (hp : H p = none) : Ext w H w (upd H p o) ∧ WOk M w (upd H p o) := by
  have fp := le_none k.le hp
  refine ⟨⟨fun _ _ h => h, fun _ _ h => h, fun a u h _ => .inl (by rw [upd_ne (ne_of_none h hp)]; exact h), fun a h => ?_, fun _ _ h => .inl h, fun i _ h => .inl ⟨i, h⟩⟩, ?_⟩
  · by_cases q : a = p
    · rw [q]; exact hp
    · rw [upd_ne q] at h; exact h
  · refine k.keep (fun _ _ h => h) rfl rfl (fun a u h => (k.le a u h).upd (ne_of_none h fp)) (fun i a u l h => by rw [upd_ne (ne_of_none h hp)]; exact h) fun i a l => (live_some k l).choose_spec.2
/-- a thing that is no cell is told to be frozen -/
abbrev Wd.fz (w : Wd) (p : Addr) (u : HO) : Wd := { w with F := upd w.F p u }
theorem ext_fz (k : WOk M w H) {p : Addr} {u : HO} (hp : H p = some u) (fp : w.F p = none) (nl : ∀ i, ¬ Live w i p) (h0 : H' p = none ∨ (∃ vs, H' p = some (.tup vs)) ∨ ∃ j, Live w' j p) (e0 : Ext w' H' w H) : Ext w' H' (w.fz p u) H ∧ WOk M (w.fz p u) H := by
  refine ⟨⟨fun a o h => sub_upd fp a o (e0.ff a o h), e0.mm, fun a o h n => (e0.hh a o h n).sub (sub_upd fp), e0.nn, fun a o h => ?_, e0.cl⟩, ?_⟩
  · by_cases q : a = p
    · subst q
      rcases h0 with h0 | h0 | h0
      · exact .inr (.inl h0)
      · exact .inr (.inr (.inl h0))
      · exact .inr (.inr (.inr h0))
    · have h : upd w.F p u a = some o := h
      rw [upd_ne q] at h; exact e0.fr a o h
  · refine k.keep (w' := w.fz p u) (sub_upd fp) rfl rfl (fun a o h => ?_) (fun i a o l h => h) fun i a l => ?_
    · by_cases q : a = p
      · subst q
        have h : upd w.F a u a = some o := h
        rw [upd_same] at h; cases h; exact .of hp
      · have h : upd w.F p u a = some o := h
        rw [upd_ne q] at h; exact k.le a o h
    · show upd w.F p u a = none
      rw [upd_ne (fun q => nl i (by rw [← q]; exact l))]
      exact (live_some k l).choose_spec.2
/-- .. or a new cell -/
abbrev Wd.new (w : Wd) (p : Addr) (d : D) : Wd := { w with m := w.m ++ [p], h := w.h ++ [some d] }
theorem live_new (lm : w.m.length = w.h.length) {p : Addr} {d : D} {i : Nat} {a : Addr} (l : Live (w.new p d) i a) : Live w i a ∨ (i = w.h.length ∧ a = p) := by
  obtain ⟨⟨d', h⟩, e⟩ := l
  by_cases hi : i < w.h.length
  · rw [List.getElem?_append_left hi] at h
    rw [List.getElem?_append_left (by rw [lm]; exact hi)] at e
    exact .inl ⟨⟨d', h⟩, e⟩
  · have h1 : i < (w.h ++ [some d]).length := (List.getElem?_eq_some_iff.mp h).1
    have : i = w.h.length := by simp at h1; omega
    subst this
    have e : (w.m ++ [p])[w.h.length]? = some a := e
    rw [← lm] at e
    simp at e
    exact .inr ⟨rfl, e.symm⟩
theorem pre_app {m : List Addr} {p : Addr} : Pre m (m ++ [p]) := fun i a h => by rw [List.getElem?_append_left (List.getElem?_eq_some_iff.mp h).1]; exact h
theorem ext_new (k : WOk M w H) {p : Addr} {u : HO} {d : D} (hp : H p = some u) (fp : w.F p = none) (nl : ∀ i, ¬ Live w i p) (h0 : H' p = none ∨ ∃ j, Live w' j p) (c : Cont M w.F w.m d u) (e0 : Ext w' H' w H) : Ext w' H' (w.new p d) H ∧ WOk M (w.new p d) H := by
  refine ⟨⟨e0.ff, fun i a h => pre_app i a (e0.mm i a h), e0.hh, e0.nn, e0.fr, fun i a l => ?_⟩, ⟨k.le, by simp [k.lm], fun i d' h => ?_, fun i j a x y => ?_⟩⟩
  · rcases live_new k.lm l with l | ⟨_, rfl⟩
    · exact e0.cl i a l
    · exact h0.symm
  · have h : (w.h ++ [some d])[i]? = some (some d') := h
    by_cases hi : i < w.h.length
    · rw [List.getElem?_append_left hi] at h
      obtain ⟨a, u', h1, h2, h3, h4⟩ := k.al i d' h
      exact ⟨a, u', pre_app i a h1, h2, h3, h4.mono (fun _ _ z => z) pre_app⟩
    · have h1 : i < (w.h ++ [some d]).length := (List.getElem?_eq_some_iff.mp h).1
      have : i = w.h.length := by simp at h1; omega
      subst this
      simp at h
      subst h
      exact ⟨p, u, by show (w.m ++ [p])[w.h.length]? = _; rw [← k.lm]; simp, fp, hp, c.mono (fun _ _ z => z) pre_app⟩
  · rcases live_new k.lm x with x | ⟨e1, e2⟩
    · rcases live_new k.lm y with y | ⟨f1, f2⟩
      · exact k.inj i j a x y
      · exact absurd x (by rw [f2]; exact nl i)
    · rcases live_new k.lm y with y | ⟨f1, f2⟩
      · exact absurd y (by rw [e2]; exact nl j)
      · rw [e1, f1]
/-- the cell i gets another content -/
abbrev Wd.put (w : Wd) (i : Nat) (o : Option D) : Wd := { w with h := w.h.set i o }
theorem live_put {i j : Nat} {o : Option D} {a : Addr} (l : Live (w.put i o) j a) : (∃ d, w.h[i]? = some (some d)) → Live w j a := fun ⟨d0, h0⟩ => by
  obtain ⟨⟨d', h⟩, e⟩ := l
  have h : (w.h.set i o)[j]? = some (some d') := h
  by_cases hj : i = j
  · subst hj; exact ⟨⟨d0, h0⟩, e⟩
  · rw [List.getElem?_set_ne hj] at h; exact ⟨⟨d', h⟩, e⟩
theorem ext_put (k : WOk M w H) {i : Nat} {a : Addr} {d0 d : D} {u : HO} (h0 : w.h[i]? = some (some d0)) (ha : w.m[i]? = some a) (c : Cont M w.F w.m d u) : Ext w H (w.put i (some d)) (upd H a u) ∧ WOk M (w.put i (some d)) (upd H a u) := by
  have la : Live w i a := ⟨⟨d0, h0⟩, ha⟩
  obtain ⟨a', u0, m1, fa, hp, _⟩ := k.al i d0 h0
  rw [ha] at m1; cases m1
  refine ⟨⟨fun _ _ h => h, fun _ _ h => h, fun b o h n => ?_, fun b h => ?_, fun _ _ h => .inl h, fun j b l => .inl ⟨j, live_put l ⟨d0, h0⟩⟩⟩, ⟨fun b o h => (k.le b o h).upd (ne_of_none h fa), by simp [k.lm], fun j d' h => ?_, fun j l b x y => k.inj j l b (live_put x ⟨d0, h0⟩) (live_put y ⟨d0, h0⟩)⟩⟩
  · left; rw [upd_ne (fun q => n i (by rw [q]; exact la))]; exact h
  · by_cases q : b = a
    · subst q; rw [upd_same] at h; cases h
    · rw [upd_ne q] at h; exact h
  · have h : (w.h.set i (some d))[j]? = some (some d') := h
    by_cases hj : i = j
    · subst hj
      rw [List.getElem?_set_self (List.getElem?_eq_some_iff.mp h0).1] at h
      cases h
      exact ⟨a, u, ha, fa, upd_same, c⟩
    · rw [List.getElem?_set_ne hj] at h
      obtain ⟨b, o, h1, h2, h3, h4⟩ := k.al j d' h
      exact ⟨b, o, h1, h2, by rw [upd_ne (fun q => hj (k.inj i j a la ⟨⟨d', h⟩, by rw [← q]; exact h1⟩))]; exact h3, h4⟩
/-- the cell i is no cell any more -/
theorem ext_dead (k : WOk M w H) {i : Nat} {d0 : D} (h0 : w.h[i]? = some (some d0)) : Ext w H (w.put i none) H ∧ WOk M (w.put i none) H := by
  refine ⟨⟨fun _ _ h => h, fun _ _ h => h, fun b o h n => .inl h, fun b h => h, fun _ _ h => .inl h, fun j b l => .inl ⟨j, live_put l ⟨d0, h0⟩⟩⟩, ⟨k.le, by simp [k.lm], fun j d' h => ?_, fun j l b x y => k.inj j l b (live_put x ⟨d0, h0⟩) (live_put y ⟨d0, h0⟩)⟩⟩
  have h : (w.h.set i none)[j]? = some (some d') := h
  by_cases hj : i = j
  · subst hj
    rw [List.getElem?_set_self (List.getElem?_eq_some_iff.mp h0).1] at h
    cases h
  · rw [List.getElem?_set_ne hj] at h
    exact k.al j d' h
theorem dead_live {i : Nat} {d0 : D} (k : WOk M w H) (h0 : w.h[i]? = some (some d0)) {a : Addr} (ha : w.m[i]? = some a) : ∀ j, ¬ Live (w.put i none) j a := fun j l => by
  have := k.inj i j a ⟨⟨d0, h0⟩, ha⟩ (live_put l ⟨d0, h0⟩)
  subst this
  obtain ⟨⟨d', h⟩, _⟩ := l
  have h : (w.h.set i none)[i]? = some (some d') := h
  rw [List.getElem?_set_self (List.getElem?_eq_some_iff.mp h0).1] at h
  cases h
end
/-- what an expression gives: a value (fr = false), or a thing that is new and not yet told of, its content d -/
def RR (M : Mx) (w0 : Wd) (H0 : Hp) (w : Wd) (H : Hp) (v : V) : Bool → D → Prop
  | false, d => Rep M w.F w.m v d
  | true, d => boxd d = true ∧ ∃ p u, v = .ref p ∧ H p = some u ∧ w.F p = none ∧ (∀ i, ¬ Live w i p) ∧ (H0 p = none ∨ ∃ j, Live w0 j p) ∧ Cont M w.F w.m d u
/-! ### wishes about exceptions -/
structure Gx where
  W : WX
  PX : Nat → Pl → Env → Hc → Prop
def PlRep (M : Mx) (w : Wd) (H : Hp) (d : Option Addr) : Pl → Prop
  | none => d = none
  | some es => ∃ dx vs, d = some dx ∧ H dx = some (.xd vs) ∧ At (FR M w.F w.m) vs es
def XC (M : Mx) (G : Gx) (w : Wd) (H : Hp) (σ : St) (ρ : Env) : Prop := ∀ c pl d w' H', G.PX c pl ρ w'.h → Ext w H w' H' → WOk M w' H' → PlRep M w' H' d pl → G.W (.ref (M.ca c)) d σ H'
theorem XC.ext {M : Mx} {G : Gx} {w w' : Wd} {H H' : Hp} {σ : St} {ρ : Env} (x : XC M G w H σ ρ) (e : Ext w H w' H') : XC M G w' H' σ ρ := fun c pl d w2 H2 p e2 k r => x c pl d w2 H2 p (e.trans e2) k r
/-! ### readings on data -/
def FV (M : Mx) (G : Gx) (t : TE) (ρ : Env) (h : Hc) (P : Bool → D → Hc → Prop) : Prop := ∀ σ w H (Q : VK), w.h = h → WOk M w H → SOk M w σ ρ → XC M G w H σ ρ → (∀ f d v w1 H1, P f d w1.h → Ext w H w1 H1 → WOk M w1 H1 → RR M w H w1 H1 v f d → Q v H1) → t σ H Q
def EV (M : Mx) (G : Gx) (t : TE) (ρ : Env) (h : Hc) (P : D → Hc → Prop) : Prop := ∀ σ w H (Q : VK), w.h = h → WOk M w H → SOk M w σ ρ → XC M G w H σ ρ → (∀ d v w1 H1, P d w1.h → Ext w H w1 H1 → WOk M w1 H1 → Rep M w1.F w1.m v d → Q v H1) → t σ H Q
def TV (M : Mx) (G : Gx) (t : TT) (ρ : Env) (h : Hc) (P : Bool → Hc → Prop) : Prop := ∀ σ w H (Q : Bool → Hp → Prop), w.h = h → WOk M w H → SOk M w σ ρ → XC M G w H σ ρ → (∀ b w1 H1, P b w1.h → Ext w H w1 H1 → WOk M w1 H1 → Q b H1) → t σ H Q
def AV (M : Mx) (G : Gx) (t : TA) (ρ : Env) (h : Hc) (P : List D → Hc → Prop) : Prop := ∀ σ w H (Q : List V → Hp → Prop), w.h = h → WOk M w H → SOk M w σ ρ → XC M G w H σ ρ → (∀ ds vs w1 H1, P ds w1.h → Ext w H w1 H1 → WOk M w1 H1 → RepL M w1.F w1.m vs ds → Q vs H1) → t σ H Q
/-- the weakest readings -/
def rdE (X : Cx) (e : Expr) : TE := fun σ H Q => ∀ pins s, Inv X pins σ H s → wpAny (model X.prog X.w) X.A (eval e X.env) (EP X pins σ Q) X.xe s
def rdT (X : Cx) (e : Expr) : TT := fun σ H Q => ∀ pins s, Inv X pins σ H s → wpAny (model X.prog X.w) X.A (isTrue e X.env (eval e X.env)) (TP X pins σ Q) X.xe s
def rdW (X : Cx) (e : Expr) : TT := fun σ H Q => ∀ whole pins s, Inv X pins σ H s → wpAny (model X.prog X.w) X.A (isTrue e X.env whole) (TP X pins σ Q) X.xe s
def rdA (X : Cx) (es : List Expr) : TA := fun σ H Q => ∀ pos pins s, Inv X pins σ H s → wpAny (model X.prog X.w) X.A (spliced (backTo pos (starEach es X.env))) (AP X pins σ Q) X.xe s
def rdS (X : Cx) (st : Stmt) : TS := fun D σ H => ∀ pins s, Inv X pins σ H s → wpAny (model X.prog X.w) X.A (exec st X.env) (SP X pins D) X.xe s
def rdB (X : Cx) (st : List Stmt) : TS := fun D σ H => ∀ pins s, Inv X pins σ H s → wpAny (model X.prog X.w) X.A (execs st X.env) (SP X pins D) X.xe s
def rdG (X : Cx) (tg : Expr) : TG := fun v σ H Q => ∀ pins s u, Inv X pins σ H s → RelV v u → wpAny (model X.prog X.w) X.A (assign tg X.env u) (fun _ s' => ∃ σ' H', Inv X pins σ' H' s' ∧ Q σ' H') X.xe s
section
variable {X : Cx} {e tg : Expr} {es : List Expr} {st : Stmt} {sts : List Stmt}
theorem pe_rd : PE X e (rdE X e) := ⟨fun pins s _ _ _ I h => h pins s I⟩
theorem pt_rd : PT X e (rdT X e) := ⟨fun pins s _ _ _ I h => h pins s I⟩
theorem pw_rd : PW X e (rdW X e) := ⟨fun wh pins s _ _ _ I h => h wh pins s I⟩
theorem pa_rd : PA X es (rdA X es) := ⟨fun pos pins s _ _ _ I h => h pos pins s I⟩
theorem ps_rd : PS X st (rdS X st) := ⟨fun pins s _ _ _ I h => h pins s I⟩
theorem pb_rd : PSs X sts (rdB X sts) := ⟨fun pins s _ _ _ I h => h pins s I⟩
theorem pg_rd : PG X tg (rdG X tg) := ⟨fun pins s _ _ _ u _ I r h => h pins s u I r⟩
end
def FX (X : Cx) (M : Mx) (G : Gx) (e : Expr) (ρ : Env) (h : Hc) (P : Bool → D → Hc → Prop) : Prop := FV M G (rdE X e) ρ h P
def EX (X : Cx) (M : Mx) (G : Gx) (e : Expr) (ρ : Env) (h : Hc) (P : D → Hc → Prop) : Prop := EV M G (rdE X e) ρ h P
def TX (X : Cx) (M : Mx) (G : Gx) (e : Expr) (ρ : Env) (h : Hc) (P : Bool → Hc → Prop) : Prop := TV M G (rdT X e) ρ h P
def WXX (X : Cx) (M : Mx) (G : Gx) (e : Expr) (ρ : Env) (h : Hc) (P : Bool → Hc → Prop) : Prop := TV M G (rdW X e) ρ h P
def AX (X : Cx) (M : Mx) (G : Gx) (es : List Expr) (ρ : Env) (h : Hc) (P : List D → Hc → Prop) : Prop := AV M G (rdA X es) ρ h P
section
variable {X : Cx} {M : Mx} {G : Gx} {e : Expr} {es : List Expr} {ρ : Env} {h : Hc} {PF : Bool → D → Hc → Prop} {P P' : D → Hc → Prop} {PT' PT'' : Bool → Hc → Prop} {PA' : List D → Hc → Prop} {t : TE} {tt : TT} {ta : TA}
theorem FX.of (p : PE X e t) (k : FV M G t ρ h PF) : FX X M G e ρ h PF := fun σ w H Q eh wk sk xc q pins s I => p.run pins s σ H Q I (k σ w H Q eh wk sk xc q)
theorem EX.of (p : PE X e t) (k : EV M G t ρ h P) : EX X M G e ρ h P := fun σ w H Q eh wk sk xc q pins s I => p.run pins s σ H Q I (k σ w H Q eh wk sk xc q)
theorem TX.of (p : PT X e tt) (k : TV M G tt ρ h PT') : TX X M G e ρ h PT' := fun σ w H Q eh wk sk xc q pins s I => p.run pins s σ H Q I (k σ w H Q eh wk sk xc q)
theorem WXX.of (p : PW X e tt) (k : TV M G tt ρ h PT') : WXX X M G e ρ h PT' := fun σ w H Q eh wk sk xc q wh pins s I => p.run wh pins s σ H Q I (k σ w H Q eh wk sk xc q)
theorem AX.of (p : PA X es ta) (k : AV M G ta ρ h PA') : AX X M G es ρ h PA' := fun σ w H Q eh wk sk xc q pos pins s I => p.run pos pins s σ H Q I (k σ w H Q eh wk sk xc q)
theorem WXX.tx (p : WXX X M G e ρ h PT') : TX X M G e ρ h PT' := fun σ w H Q eh wk sk xc q pins s I => p σ w H Q eh wk sk xc q _ pins s I
/-- a value is a value -/
theorem EX.fx (p : EX X M G e ρ h fun d h' => PF false d h') : FX X M G e ρ h PF := fun σ w H Q eh wk sk xc q => p σ w H Q eh wk sk xc fun d v w1 H1 pd e1 k1 r => q false d v w1 H1 pd e1 k1 r
/-- a new thing is told to be frozen -/
theorem FX.ex (p : FX X M G e ρ h fun _ d h' => P d h') : EX X M G e ρ h P := fun σ w H Q eh wk sk xc q => p σ w H Q eh wk sk xc fun f d v w1 H1 pd e1 k1 r => by
  cases f with
  | false => exact q d v w1 H1 pd e1 k1 r
  | true =>
    obtain ⟨b, p, u, rfl, hp, fp, nl, h0, c⟩ := r
    obtain ⟨e2, k2⟩ := ext_fz k1 hp fp nl (h0.imp id .inr) e1
    exact q d _ (w1.fz p u) H1 pd e2 k2 (rep_box b upd_same (c.mono (sub_upd fp) fun _ _ z => z))
/-- .. a new cell -/
theorem FX.new (p : FX X M G e ρ h fun f d h' => f = true ∧ P (.ref h'.length) (h' ++ [some d])) : EX X M G e ρ h P := fun σ w H Q eh wk sk xc q => p σ w H Q eh wk sk xc fun f d v w1 H1 pd e1 k1 r => by
  obtain ⟨rfl, pd⟩ := pd
  obtain ⟨b, p, u, rfl, hp, fp, nl, h0, c⟩ := r
  obtain ⟨e2, k2⟩ := ext_new k1 hp fp nl h0 c e1
  exact q _ _ (w1.new p d) H1 pd e2 k2 (.ref (by show (w1.m ++ [p])[w1.h.length]? = _; rw [← k1.lm]; simp))
theorem FX.mono {PF' : Bool → D → Hc → Prop} (p : FX X M G e ρ h PF) (k : ∀ f d h, PF f d h → PF' f d h) : FX X M G e ρ h PF' := fun σ w H Q eh wk sk xc q => p σ w H Q eh wk sk xc fun f d v w1 H1 pd => q f d v w1 H1 (k f d _ pd)
theorem EX.mono (p : EX X M G e ρ h P) (k : ∀ d h, P d h → P' d h) : EX X M G e ρ h P' := fun σ w H Q eh wk sk xc q => p σ w H Q eh wk sk xc fun d v w1 H1 pd => q d v w1 H1 (k d _ pd)
end
end Yl

set_option maxRecDepth 100000
set_option maxHeartbeats 4000000
/-! Y2: statements on data; a def's contract; names, constants, assignments, ifs, loops. -/
namespace Yl
open PySem PySem.Spec PyProof.Rows L2
section
variable {M : Mx} {w0 w w' : Wd} {H0 H H' : Hp} {σ : St} {ρ : Env}
theorem RR.back {w1 : Wd} {H1 : Hp} {v : V} {f : Bool} {d : D} (e : Ext w0 H0 w1 H1) (r : RR M w1 H1 w H v f d) : RR M w0 H0 w H v f d := by
  cases f with
  | false => exact r
  | true =>
    obtain ⟨b, p, u, rfl, hp, fp, nl, h0, c⟩ := r
    refine ⟨b, p, u, rfl, hp, fp, nl, ?_, c⟩
    rcases h0 with h0 | ⟨j, h0⟩
    · exact .inl (e.nn p h0)
    · exact (e.cl j p h0).symm
theorem SOk.set (s : SOk M w σ ρ) {i : Nat} {v : V} {d : D} (r : Rep M w.F w.m v d) : SOk M w (σ.set i (some v)) (ρ.set i (some d)) := ⟨by simp [s.len], fun j e h => by
  by_cases hj : i = j
  · subst hj
    have hi : i < ρ.length := by simpa using (List.getElem?_eq_some_iff.mp h).1
    rw [List.getElem?_set_self hi] at h
    cases h
    exact ⟨v, by rw [List.getElem?_set_self (by rw [s.len]; exact hi)], r⟩
  · rw [List.getElem?_set_ne hj] at h
    rw [List.getElem?_set_ne hj]
    exact s.sl j e h⟩
theorem SOk.unset (s : SOk M w σ ρ) (i : Nat) : SOk M w (σ.set i none) (ρ.set i none) := ⟨by simp [s.len], fun j e h => by
  by_cases hj : i = j
  · subst hj
    rw [List.getElem?_set] at h
    simp only [if_true] at h
    split at h <;> cases h
  · rw [List.getElem?_set_ne hj] at h
    rw [List.getElem?_set_ne hj]
    exact s.sl j e h⟩
/-- slot i is told anew: what stands in it stands for d -/
theorem SOk.reset (s : SOk M w σ ρ) {i : Nat} {d : D} (hr : ∀ v, σ[i]? = some (some v) → Rep M w.F w.m v d) (h : ∃ d0, ρ[i]? = some (some d0)) : SOk M w σ (ρ.set i (some d)) := ⟨by simp [s.len], fun j e h' => by
  by_cases hj : i = j
  · subst hj
    obtain ⟨d0, hd⟩ := h
    rw [List.getElem?_set_self (List.getElem?_eq_some_iff.mp hd).1] at h'
    cases h'
    obtain ⟨v, hv, _⟩ := s.sl i d0 hd
    exact ⟨v, hv, hr v hv⟩
  · rw [List.getElem?_set_ne hj] at h'
    exact s.sl j e h'⟩
end
def NxOk (M : Mx) (w0 : Wd) (H0 : Hp) (Q : St → Hp → Prop) (ρ : Env) (h : Hc) : Prop := ∀ σ w H, w.h = h → Ext w0 H0 w H → WOk M w H → SOk M w σ ρ → Q σ H
def OutOk (M : Mx) (w0 : Wd) (H0 : Hp) (Dn : Ends) : Out → Prop
  | .nx ρ h => NxOk M w0 H0 Dn.nx ρ h
  | .rt f d h => ∀ v w H, w.h = h → Ext w0 H0 w H → WOk M w H → RR M w0 H0 w H v f d → Dn.rt v H
  | .bk ρ h => NxOk M w0 H0 Dn.bk ρ h
  | .ct ρ h => NxOk M w0 H0 Dn.ct ρ h
  | .xx _ _ _ _ => True
def XCS (M : Mx) (G : Gx) (w0 : Wd) (H0 : Hp) : Prop := ∀ c pl d σ w H ρ, G.PX c pl ρ w.h → Ext w0 H0 w H → WOk M w H → SOk M w σ ρ → PlRep M w H d pl → G.W (.ref (M.ca c)) d σ H
theorem XCS.xc {M : Mx} {G : Gx} {w0 w : Wd} {H0 H : Hp} {σ : St} {ρ : Env} (x : XCS M G w0 H0) (e : Ext w0 H0 w H) (s : SOk M w σ ρ) : XC M G w H σ ρ := fun c pl d w' H' p e' k r => x c pl d σ w' H' ρ p (e.trans e') k (s.ext e') r
theorem XCS.up {M : Mx} {G : Gx} {w0 w1 : Wd} {H0 H1 : Hp} (x : XCS M G w0 H0) (a : Ext w0 H0 w1 H1) : XCS M G w1 H1 := fun c pl d σ w H ρ p e k s r => x c pl d σ w H ρ p (a.trans e) k s r
def SV (M : Mx) (G : Gx) (t : TS) (ρ : Env) (h : Hc) (P : Out → Prop) : Prop := ∀ w0 H0 σ w H (Dn : Ends), w.h = h → Ext w0 H0 w H → WOk M w H → SOk M w σ ρ → XCS M G w0 H0 → (∀ o, P o → OutOk M w0 H0 Dn o) → t Dn σ H
def SX (X : Cx) (M : Mx) (G : Gx) (st : Stmt) (ρ : Env) (h : Hc) (P : Out → Prop) : Prop := SV M G (rdS X st) ρ h P
def BX (X : Cx) (M : Mx) (G : Gx) (sts : List Stmt) (ρ : Env) (h : Hc) (P : Out → Prop) : Prop := SV M G (rdB X sts) ρ h P
/-- a target takes the data x; T: the slots that it stores -/
def Less (T : List Nat) (σ σ' : St) : Prop := σ'.length = σ.length ∧ ∀ j, j ∉ T → σ'[j]? = σ[j]?
def GX (X : Cx) (M : Mx) (T : List Nat) (tg : Expr) (x : D) (ρ : Env) (P : Env → Prop) : Prop := ∀ v σ w H (Q : St → Hp → Prop), WOk M w H → SOk M w σ ρ → Rep M w.F w.m v x → (∀ σ' ρ', P ρ' → SOk M w σ' ρ' → Less T σ σ' → Q σ' H) → rdG X tg v σ H Q

/-! ### where one stands -/
structure Bw (X : Cx) (M : Mx) (N : List Str) (sc : Scope) : Prop where
  hN : X.N = N
  nd : N.Nodup
  hsc : X.env.scope = sc
  hP : X.prog = M.P
  hw : X.w = M.w
  hK : X.K = M.K
  hmg : X.mg = M.mg
  hbase : X.base = M.base
structure Bx (X : Cx) (M : Mx) (N : List Str) (sc : Scope) (k : Nat) (W : WX) : Prop extends Bw X M N sc where
  calm : X.calm = true
  own : PassesOwn (model X.prog X.w) X.A X.env X.xe
  room : Room k X.A
  tk : Takes X W

section
variable {X : Cx} {M : Mx} {N : List Str} {sc : Scope} {k : Nat} {W : WX} {G : Gx} {ρ : Env} {hc : Hc} {P : D → Hc → Prop} {PF : Bool → D → Hc → Prop} {S : Out → Prop} {e : Expr} {x : Str} {pos : Pos}
theorem SX.of {st : Stmt} {t : TS} (h : PS X st t) (k : SV M G t ρ hc S) : SX X M G st ρ hc S := fun w0 H0 σ w H D eh ex wk sk xc q pins s' I => h.run pins s' σ H D I (k w0 H0 σ w H D eh ex wk sk xc q)
theorem BX.of {st : List Stmt} {t : TS} (h : PSs X st t) (k : SV M G t ρ hc S) : BX X M G st ρ hc S := fun w0 H0 σ w H D eh ex wk sk xc q pins s' I => h.run pins s' σ H D I (k w0 H0 σ w H D eh ex wk sk xc q)
theorem BX.mono {st : List Stmt} {S' : Out → Prop} (h : BX X M G st ρ hc S) (k : ∀ o, S o → S' o) : BX X M G st ρ hc S' := fun w0 H0 σ w H D eh ex wk sk xc q => h w0 H0 σ w H D eh ex wk sk xc fun o p => q o (k o p)
theorem Bw.gl (hb : Bw X M N sc) (hg : sc.names.lookup x = some .globalImplicit) : Gl X x := by unfold Gl; show X.env.scope.names.lookup x = _; rw [hb.hsc]; exact hg
/-! ### names, constants -/
theorem ex_var {d : D} (i : Nat) (hb : Bw X M N sc) (hd : ρ[i]? = some (some d)) (h : P d hc) (hN : N[i]? = some x) (hv : Vis sc x) (h1 : (x == ("__debug__" : Str)) = false) (h2 : (x == ("__classdict__" : Str)) = false) : EX X M G (.Name x pos) ρ hc P :=
  .of (pe_var (i := i) (by rw [hb.hN]; exact hN) (by rw [hb.hsc]; exact hv) h1 h2) fun σ w H Q eh wk sk xc q => by
    obtain ⟨v, hv, r⟩ := sk.sl i d hd
    exact ⟨v, hv, q d v w H (by rw [eh]; exact h) Ext.refl wk r⟩
/-- the cell that a name holds is taken: a new thing -/
theorem fx_take {d : D} {j : Nat} (i : Nat) (hb : Bw X M N sc) (hd : ρ[i]? = some (some (.ref j))) (hj : hc[j]? = some (some d)) (bd : boxd d = true) (h : PF true d (hc.set j none)) (hN : N[i]? = some x) (hv : Vis sc x) (h1 : (x == ("__debug__" : Str)) = false) (h2 : (x == ("__classdict__" : Str)) = false) : FX X M G (.Name x pos) ρ hc PF :=
  .of (pe_var (i := i) (by rw [hb.hN]; exact hN) (by rw [hb.hsc]; exact hv) h1 h2) fun σ w H Q eh wk sk xc q => by
    obtain ⟨v, hv, r⟩ := sk.sl i _ hd
    obtain ⟨a, ha, rfl⟩ := r.ref_inv
    rw [← eh] at hj
    obtain ⟨a', u, m1, fa, hp, c⟩ := wk.al j d hj
    rw [ha] at m1; cases m1
    obtain ⟨e1, k1⟩ := ext_dead wk hj
    exact ⟨_, hv, q true d _ (w.put j none) H (by show PF true d (w.h.set j none); rw [eh]; exact h) e1 k1 ⟨bd, a, u, rfl, hp, fa, dead_live wk hj ha, .inr ⟨j, ⟨d, hj⟩, ha⟩, c⟩⟩
theorem ev_c {d : D} {v : V} (h : P d hc) (r : ∀ F m, Rep M F m v d) : EV M G (tC v) ρ hc P := fun σ w H Q eh wk sk xc q => q d v w H (by rw [eh]; exact h) Ext.refl wk (r _ _)
theorem ex_int {i : Int} {j : Nat} (h : P (.int i) hc) : EX X M G (.Constant (.int i) j pos) ρ hc P := .of pe_int (ev_c h fun _ _ => .int i)
theorem ex_bl {i : Bool} {j : Nat} (h : P (.bl i) hc) : EX X M G (.Constant (.bool i) j pos) ρ hc P := .of pe_bl (ev_c h fun _ _ => .bl i)
theorem ex_str {i : Tx} {j : Nat} (h : P (.str i) hc) : EX X M G (.Constant (.str (ts i)) j pos) ρ hc P := .of pe_str (ev_c h fun _ _ => .str i)
theorem ex_non {j : Nat} (h : P .non hc) : EX X M G (.Constant .none j pos) ρ hc P := .of pe_non (ev_c h fun _ _ => .non)
/-- a module's name: a text, a class, a table -/
theorem ex_gl {d : D} {v : V} {u : Value} (hb : Bw X M N sc) (hm : M.mg x = some u) (r : RelV v u) (rd : ∀ F m, Rep M F m v d) (h : P d hc) (hg : sc.names.lookup x = some .globalImplicit) (h1 : (x == ("__debug__" : Str)) = false) : EX X M G (.Name x pos) ρ hc P :=
  .of (pe_glob (hb.gl hg) (by rw [hb.hmg]; exact hm) r h1) (ev_c h rd)
/-- a built-in class as a value -/
theorem ex_ty {n : Nat} (hb : Bw X M N sc) (hm : M.mg x = none) (hv : bootBuiltins x = some (.type (tyS n))) (h : P (.ty n) hc) (hg : sc.names.lookup x = some .globalImplicit) (hn : x ≠ "__name__") (h1 : (x == ("__debug__" : Str)) = false) : EX X M G (.Name x pos) ρ hc P :=
  .of (pe_bltn (v := .ty (tyS n)) (hb.gl hg) (by rw [hb.hmg]; exact hm) hv rfl hn h1) (ev_c h fun _ _ => .ty n)

/-! ### blocks -/
def seqO (k : Env → Hc → Prop) (S : Out → Prop) : Out → Prop
  | .nx ρ h => k ρ h
  | o => S o
theorem bx_nil (h : S (.nx ρ hc)) : BX X M G [] ρ hc S := .of pss_nil fun w0 H0 σ w H D eh ex wk sk xc q => q _ h σ w H eh ex wk sk
theorem bx_cons {st : Stmt} {rest : List Stmt} (h : SX X M G st ρ hc (seqO (fun ρ' h' => BX X M G rest ρ' h' S) S)) : BX X M G (st :: rest) ρ hc S :=
  .of (pss_cons ps_rd pb_rd) fun w0 H0 σ w H D eh ex wk sk xc q => by
    refine h w0 H0 σ w H _ eh ex wk sk xc fun o p => ?_
    cases o with
    | nx ρ' h' => exact fun σ' w' H' eh' ex' wk' sk' => p w0 H0 σ' w' H' D eh' ex' wk' sk' xc q
    | rt f d h' => exact q _ p
    | bk ρ' h' => exact q _ p
    | ct ρ' h' => exact q _ p
    | xx c pl ρ' h' => exact True.intro
theorem bx_one {st : Stmt} (h : SX X M G st ρ hc S) : BX X M G [st] ρ hc S := .of (pss_one ps_rd) h
/-! ### small statements -/
theorem sx_pass (h : S (.nx ρ hc)) : SX X M G (.Pass pos) ρ hc S := .of ps_pass fun w0 H0 σ w H D eh ex wk sk xc q => q _ h σ w H eh ex wk sk
theorem sx_break (h : S (.bk ρ hc)) : SX X M G (.Break pos) ρ hc S := .of ps_break fun w0 H0 σ w H D eh ex wk sk xc q => q _ h σ w H eh ex wk sk
theorem sx_ret (h : FX X M G e ρ hc fun f d h' => S (.rt f d h')) : SX X M G (.Return (some e) pos) ρ hc S := .of (ps_ret pe_rd) fun w0 H0 σ w H D eh ex wk sk xc q =>
  h σ w H _ eh wk sk (xc.xc ex sk) fun f d v w1 H1 p e1 k1 r => q _ p v w1 H1 rfl (ex.trans e1) k1 (r.back ex)
theorem sx_retN (h : S (.rt false .non hc)) : SX X M G (.Return none pos) ρ hc S := .of ps_retN fun w0 H0 σ w H D eh ex wk sk xc q => q _ h .non w H eh ex wk .non
theorem sx_expr (h : EX X M G e ρ hc fun _ h' => S (.nx ρ h')) (hs : swapsWith e none pos.line X.env = pure false) : SX X M G (.Expr e pos) ρ hc S := .of (ps_expr pe_rd hs) fun w0 H0 σ w H D eh ex wk sk xc q =>
  h σ w H _ eh wk sk (xc.xc ex sk) fun d v w1 H1 p e1 k1 r => q _ p σ w1 H1 rfl (ex.trans e1) k1 (sk.ext e1)
/-- a name of the frame that may be stored: a local one, or a cell of the def's own -/
def Sto (X : Cx) (sc : Scope) (x : Str) : Prop := sc.names.lookup x = some .local ∨ (sc.names.lookup x = some .cell ∧ X.fn x = true)
theorem loc_hf (hb : Bw X M N sc) (hl : Sto X sc x) : L2.Loc X.env.scope x ∧ (X.fn x = true ∨ X.env.scope.names.lookup x = some .local) := by
  unfold L2.Loc
  rw [hb.hsc]
  rcases hl with h | h
  · exact ⟨.inl h, .inr h⟩
  · exact ⟨.inr h.1, .inl h.2⟩
theorem sx_set (i : Nat) {pos' : Pos} (hb : Bw X M N sc) (h : EX X M G e ρ hc fun d h' => S (.nx (ρ.set i (some d)) h')) (hN : N[i]? = some x) (hl : Sto X sc x)
    (hs : swapsWith e (some (.Name x pos')) pos.line X.env = pure false) : SX X M G (.Assign [.Name x pos'] e pos) ρ hc S :=
  .of (ps_set (i := i) (by rw [hb.hN]; exact hb.nd) (by rw [hb.hN]; exact hN) (loc_hf hb hl).1 pe_rd hs (loc_hf hb hl).2) fun w0 H0 σ w H D eh ex wk sk xc q =>
    h σ w H _ eh wk sk (xc.xc ex sk) fun d v w1 H1 p e1 k1 r => q _ p _ w1 H1 rfl (ex.trans e1) k1 ((sk.ext e1).set r)
/-- the cell in slot i is frozen ahead of a statement -/
theorem sx_fz {st : Stmt} {d : D} (i : Nat) {j : Nat} (hi : ρ[i]? = some (some (.ref j))) (hj : hc[j]? = some (some d)) (bd : boxd d = true) (h : SX X M G st (ρ.set i (some d)) (hc.set j none) S) : SX X M G st ρ hc S := fun w0 H0 σ w H D eh ex wk sk xc q => by
  rw [← eh] at hj
  obtain ⟨a, u, ha, fa, hp, c⟩ := wk.al j d hj
  obtain ⟨e1, k1⟩ := ext_dead wk hj
  obtain ⟨e2, k2⟩ := ext_fz (w := w.put j none) k1 hp fa (dead_live wk hj ha) (.inr (.inr ⟨j, ⟨d, hj⟩, ha⟩)) e1
  refine h w0 H0 σ _ H D (by show w.h.set j none = _; rw [eh]) (ex.trans e2) k2 ((sk.ext e2).reset (fun v hv => ?_) ⟨_, hi⟩) xc q
  obtain ⟨v', hv', r⟩ := sk.sl i _ hi
  rw [hv] at hv'; cases hv'
  obtain ⟨a', ha', rfl⟩ := r.ref_inv
  rw [ha] at ha'; cases ha'
  exact rep_box bd upd_same (c.mono (sub_upd fa) fun _ _ z => z)
theorem sx_if {c : Expr} {a b : List Stmt} (h : TX X M G c ρ hc fun v h' => (v = true → BX X M G a ρ h' S) ∧ (v = false → BX X M G b ρ h' S)) : SX X M G (.If c a b pos) ρ hc S :=
  .of (ps_if pt_rd pb_rd pb_rd) fun w0 H0 σ w H D eh ex wk sk xc q =>
    h σ w H _ eh wk sk (xc.xc ex sk) fun v w1 H1 p e1 k1 => by
      cases v with
      | true => exact p.1 rfl w0 H0 σ w1 H1 D rfl (ex.trans e1) k1 (sk.ext e1) xc q
      | false => exact p.2 rfl w0 H0 σ w1 H1 D rfl (ex.trans e1) k1 (sk.ext e1) xc q
/-! ### targets -/
theorem Less.refl {T : List Nat} {σ : St} : Less T σ σ := ⟨rfl, fun _ _ => rfl⟩
theorem Less.trans {T : List Nat} {σ σ1 σ2 : St} (a : Less T σ σ1) (b : Less T σ1 σ2) : Less T σ σ2 := ⟨b.1.trans a.1, fun j h => (b.2 j h).trans (a.2 j h)⟩
theorem gx_name {T : List Nat} {d : D} {S' : Env → Prop} (i : Nat) (hb : Bw X M N sc) (h : S' (ρ.set i (some d))) (hT : i ∈ T) (hN : N[i]? = some x) (hl : Sto X sc x) : GX X M T (.Name x pos) d ρ S' :=
  fun v σ w H Q wk sk r q pins s' u I ru => (pg_name (i := i) (by rw [hb.hN]; exact hb.nd) (by rw [hb.hN]; exact hN) (loc_hf hb hl).1 (loc_hf hb hl).2).run pins s' σ H v u Q I ru (q _ _ h (sk.set r) ⟨by simp, fun j hj => List.getElem?_set_ne (fun (z : i = j) => hj (by rw [← z]; exact hT))⟩)
def rdGs (X : Cx) (ts : List Expr) : TGs := fun vs σ H Q => ∀ pins s us, Inv X pins σ H s → Vals vs us → wpAny (model X.prog X.w) X.A (assignInOrder ((assignEach ts X.env).map (·.2)) us) (fun _ s' => ∃ σ' H', Inv X pins σ' H' s' ∧ Q σ' H') X.xe s
theorem pgs_rd {ts : List Expr} : PGs X ts (rdGs X ts) := ⟨fun pins s σ H vs us Q I r h => h pins s us I r⟩
def GS (X : Cx) (M : Mx) (T : List Nat) (ts : List Expr) (xs : List D) (ρ : Env) (P : Env → Prop) : Prop := ∀ vs σ w H (Q : St → Hp → Prop), WOk M w H → SOk M w σ ρ → RepL M w.F w.m vs xs → (∀ σ' ρ', P ρ' → SOk M w σ' ρ' → Less T σ σ' → Q σ' H) → rdGs X ts vs σ H Q
theorem gs_nil {T : List Nat} {S' : Env → Prop} (h : S' ρ) : GS X M T [] [] ρ S' := fun vs σ w H Q wk sk r q pins s us I rv => by
  have e : vs = [] := r.nil_inv
  subst e
  exact pgs_nil.run pins s σ H [] us Q I rv ⟨rfl, q σ ρ h sk Less.refl⟩
theorem gs_cons {T : List Nat} {S' : Env → Prop} {t : Expr} {ts : List Expr} {d : D} {ds : List D} (h : GX X M T t d ρ fun ρ' => GS X M T ts ds ρ' S') (hs : (assignEach (t :: ts) X.env).map (·.2) = assign t X.env :: (assignEach ts X.env).map (·.2)) : GS X M T (t :: ts) (d :: ds) ρ S' :=
  fun vs σ w H Q wk sk r q pins s us I rv => by
    obtain ⟨v, vr, rfl, r1, r2⟩ := r.cons_inv
    refine (pgs_cons pg_rd pgs_rd hs).run pins s σ H _ us Q I rv ⟨v, vr, rfl, ?_⟩
    exact h v σ w H _ wk sk r1 fun σ1 ρ1 p1 sk1 l1 => p1 vr σ1 w H _ wk sk1 r2 fun σ2 ρ2 p2 sk2 l2 => q σ2 ρ2 p2 sk2 (l1.trans l2)
/-- (a, b, ..) takes a tuple -/
theorem gx_tup {T : List Nat} {S' : Env → Prop} {ts : List Expr} {n : Nat} {ds : List D} (hb : Bx X M N sc k W) (hl : ds.length = ts.length) (h : GS X M T ts ds ρ S')
    (hn : (assignEach ts X.env).length = ts.length) (hst : (assignEach ts X.env).findIdx? (·.1) = none) : GX X M T (.Tuple ts n pos) (.tup ds) ρ S' := fun v σ w H Q wk sk r q pins s u I ru => by
  obtain ⟨a, vs, rfl, ha, rl⟩ := r.tup_inv
  refine (pg_tup hb.calm pgs_rd hn hst).run pins s σ H _ u Q I ru ⟨a, vs, rfl, .inl (wk.le a _ ha).1, by rw [rl.1, hl], ?_⟩
  exact h vs σ w H Q wk sk rl q
theorem gx_lst {T : List Nat} {S' : Env → Prop} {ts : List Expr} {n : Nat} {ds : List D} (hb : Bx X M N sc k W) (hl : ds.length = ts.length) (h : GS X M T ts ds ρ S')
    (hn : (assignEach ts X.env).length = ts.length) (hst : (assignEach ts X.env).findIdx? (·.1) = none) : GX X M T (.Tuple ts n pos) (.lst ds) ρ S' := fun v σ w H Q wk sk r q pins s u I ru => by
  obtain ⟨a, o, rfl, fa, c⟩ := rep_unbox rfl r
  cases o <;> first | exact c.elim | skip
  rename_i vs
  refine (pg_lst hb.calm pgs_rd hn hst).run pins s σ H _ u Q I ru ⟨a, vs, rfl, ?_, by rw [c.1, hl], ?_⟩
  · exact .inl (.inl ((wk.le a _ fa).2 rfl))
  · exact h vs σ w H Q wk sk c q
/-! ### loops -/
structure ItOk (M : Mx) (J : It) (w1 : Wd) (H1 : Hp) (ds : List D) : Prop where
  go : ∀ i w H, Ltr w1 H1 w H → WOk M w H → i < ds.length → J.go i H
  stop : ∀ w H, Ltr w1 H1 w H → WOk M w H → J.stop ds.length H
  yld : ∀ (i : Nat) w H x H' d, Ltr w1 H1 w H → WOk M w H → J.yld i H x H' → ds[i]? = some d → ∃ w', w'.h = w.h ∧ Ext w H w' H' ∧ WOk M w' H' ∧ Rep M w'.F w'.m x d
def IV (M : Mx) (G : Gx) (t : TI) (ρ : Env) (h : Hc) (P : List D → Hc → Prop) : Prop := ∀ σ w H (R : It → Hp → Prop), w.h = h → WOk M w H → SOk M w σ ρ → XC M G w H σ ρ → (∀ ds J w1 H1, P ds w1.h → Ext w H w1 H1 → WOk M w1 H1 → ItOk M J w1 H1 ds → R J H1) → t σ H R
def IX (X : Cx) (M : Mx) (G : Gx) (tg iter : Expr) (ρ : Env) (h : Hc) (P : List D → Hc → Prop) : Prop := ∃ wi, PI X tg iter wi ∧ IV M G wi ρ h P
def loopO (I : Env → Hc → Prop) (S : Out → Prop) : Out → Prop
  | .nx ρ h => I ρ h
  | .ct ρ h => I ρ h
  | .bk ρ h => S (.nx ρ h)
  | .rt f d h => S (.rt f d h)
  | .xx c pl ρ h => S (.xx c pl ρ h)
theorem sx_for {T : List Nat} {tg iter : Expr} {body : List Stmt} (I : List D → Nat → Env → Hc → Prop) (hb : Bx X M N sc k W)
    (h : IX X M G tg iter ρ hc fun ds h0 => I ds 0 ρ h0 ∧ (∀ (i : Nat) d ρ' h', ds[i]? = some d → I ds i ρ' h' → GX X M T tg d ρ' fun ρ2 => BX X M G body ρ2 h' (loopO (I ds (i + 1)) S)) ∧ ∀ ρ' h', I ds ds.length ρ' h' → S (.nx ρ' h'))
    (hs : ∀ x, foldedSetIterable iter X.env x = pure x) : SX X M G (.For tg iter body [] pos) ρ hc S := by
  obtain ⟨wi, hi, iv⟩ := h
  refine .of (ps_for hb.own hb.calm hi pg_rd pb_rd hs) fun w0 H0 σ w H D eh ex wk sk xc q => ?_
  refine iv σ w H _ eh wk sk (xc.xc ex sk) fun ds J w1 H1 p e1 k1 it => ?_
  obtain ⟨p0, pt, pe⟩ := p
  have ex1 := ex.trans e1
  refine ⟨fun i m σ' H' => m = ds.length - i ∧ i ≤ ds.length ∧ ∃ w' ρ', I ds i ρ' w'.h ∧ Ext w1 H1 w' H' ∧ WOk M w' H' ∧ SOk M w' σ' ρ', ⟨_, rfl, Nat.zero_le _, w1, ρ, p0, Ext.refl, k1, sk.ext e1⟩, ?_⟩
  rintro i m σ' H' ⟨rfl, hi', w', ρ', pi, ss, kk, sl⟩
  have le1 : Le w1.F H' := fun a o z => kk.le a o (ss.ff a o z)
  by_cases hlt : i < ds.length
  · refine .inr ⟨it.go i w' H' (ss.ltr k1) kk hlt, fun σ2 H2 => ∃ w2 ρ2, I ds (i + 1) ρ2 w2.h ∧ Ext w1 H1 w2 H2 ∧ WOk M w2 H2 ∧ SOk M w2 σ2 ρ2, fun σ2 H2 ⟨w2, ρ2, a⟩ => ⟨_, by omega, rfl, hlt, w2, ρ2, a⟩, fun x H2 y => ?_⟩
    have hd : ds[i]? = some ds[i] := by simp [hlt]
    obtain ⟨w2, eh2, e2, k2, r2⟩ := it.yld i w' H' x H2 _ (ss.ltr k1) kk y hd
    refine pt i _ ρ' w'.h hd pi x σ' w2 H2 _ k2 (sl.ext e2) r2 fun σ3 ρ3 b3 sk3 l3 => ?_
    refine b3 w1 H1 σ3 w2 H2 _ eh2 (ss.trans e2) k2 sk3 (xc.up ex1) fun o po => ?_
    cases o with
    | nx ρ4 h4 => exact fun σ4 w4 H4 eh4 e4 k4 s4 => ⟨w4, ρ4, by rw [eh4]; exact po, e4, k4, s4⟩
    | ct ρ4 h4 => exact fun σ4 w4 H4 eh4 e4 k4 s4 => ⟨w4, ρ4, by rw [eh4]; exact po, e4, k4, s4⟩
    | bk ρ4 h4 => exact fun σ4 w4 H4 eh4 e4 k4 s4 => q _ po σ4 w4 H4 eh4 (ex1.trans e4) k4 s4
    | rt f d h4 => exact fun v w4 H4 eh4 e4 k4 r4 => q _ po v w4 H4 eh4 (ex1.trans e4) k4 (r4.back ex1)
    | xx _ _ _ _ => exact True.intro
  · have e : i = ds.length := by omega
    subst e
    exact .inl ⟨it.stop w' H' (ss.ltr k1) kk, q _ (pe ρ' w'.h pi) σ' w' H' rfl (ex1.trans ss) kk sl⟩
/-- a while: I by a measure -/
theorem sx_while {c : Expr} {body : List Stmt} (I : Nat → Env → Hc → Prop) (hb : Bx X M N sc k W) (m0 : Nat) (h0 : I m0 ρ hc)
    (h : ∀ m ρ' h', I m ρ' h' → TX X M G c ρ' h' fun v h2 => (v = true → BX X M G body ρ' h2 (loopO (fun ρ2 h3 => ∃ m', m' < m ∧ I m' ρ2 h3) S)) ∧ (v = false → S (.nx ρ' h2))) : SX X M G (.While c body [] pos) ρ hc S := by
  refine .of (ps_while hb.own pt_rd pb_rd) fun w0 H0 σ w H D eh ex wk sk xc q => ?_
  refine ⟨fun m σ' H' => ∃ w' ρ', I m ρ' w'.h ∧ Ext w0 H0 w' H' ∧ WOk M w' H' ∧ SOk M w' σ' ρ', ⟨m0, w, ρ, by rw [eh]; exact h0, ex, wk, sk⟩, ?_⟩
  rintro m σ' H' ⟨w', ρ', pi, ss, kk, sl⟩
  refine h m ρ' w'.h pi σ' w' H' _ rfl kk sl (xc.xc ss sl) fun v w1 H1 p e1 k1 => ?_
  cases v with
  | false => exact q _ (p.2 rfl) σ' w1 H1 rfl (ss.trans e1) k1 (sl.ext e1)
  | true =>
    refine ⟨fun σ2 H2 => ∃ w2 ρ2, (∃ m', m' < m ∧ I m' ρ2 w2.h) ∧ Ext w0 H0 w2 H2 ∧ WOk M w2 H2 ∧ SOk M w2 σ2 ρ2, fun σ2 H2 ⟨w2, ρ2, ⟨m', a, b⟩, c⟩ => ⟨m', a, w2, ρ2, b, c⟩, ?_⟩
    refine p.1 rfl w0 H0 σ' w1 H1 _ rfl (ss.trans e1) k1 (sl.ext e1) xc fun o po => ?_
    cases o with
    | nx ρ4 h4 => exact fun σ4 w4 H4 eh4 e4 k4 s4 => ⟨w4, ρ4, by rw [eh4]; exact po, e4, k4, s4⟩
    | ct ρ4 h4 => exact fun σ4 w4 H4 eh4 e4 k4 s4 => ⟨w4, ρ4, by rw [eh4]; exact po, e4, k4, s4⟩
    | bk ρ4 h4 => exact fun σ4 w4 H4 eh4 e4 k4 s4 => q _ po σ4 w4 H4 eh4 e4 k4 s4
    | rt f d h4 => exact fun v w4 H4 eh4 e4 k4 r4 => q _ po v w4 H4 eh4 e4 k4 r4
    | xx _ _ _ _ => exact True.intro
end
/-! ### a def's contract -/
/-- C ds h P PX: with the arguments ds and the cells h it hands back, or raises -/
abbrev Con := List D → Hc → (Bool → D → Hc → Prop) → (Nat → Pl → Hc → Prop) → Prop
def spC (M : Mx) (C : Con) : Sp := fun vs H Q E => ∃ w ds P PX, WOk M w H ∧ RepL M w.F w.m vs ds ∧ C ds w.h P PX ∧ (∀ f d v w1 H1, P f d w1.h → Ext w H w1 H1 → WOk M w1 H1 → RR M w H w1 H1 v f d → Q v H1) ∧ (∀ c pl dd w1 H1, PX c pl w1.h → Ext w H w1 H1 → WOk M w1 H1 → PlRep M w1 H1 dd pl → E (.ref (M.ca c)) dd H1)
def begin (N : List Str) (ds : List D) : Env := ds.map some ++ List.replicate (N.length - ds.length) none
theorem begin_ok {M : Mx} {w : Wd} {N : List Str} {vs : List V} {ds : List D} (r : RepL M w.F w.m vs ds) : SOk M w (L2.start N vs) (begin N ds) := by
  refine ⟨by simp [L2.start, begin, r.1], fun i d h => ?_⟩
  unfold begin at h
  by_cases hi : i < ds.length
  · rw [List.getElem?_append_left (by simpa using hi), List.getElem?_map] at h
    simp [hi] at h
    subst h
    obtain ⟨v, h1, h2⟩ := r.get (i := i) (v := ds[i]) (by simp [hi])
    refine ⟨v, ?_, h2⟩
    unfold L2.start
    rw [List.getElem?_append_left (by simpa using (List.getElem?_eq_some_iff.mp h1).1), List.getElem?_map, h1]
    rfl
  · rw [List.getElem?_append_right (by simpa using hi), List.getElem?_replicate] at h
    split at h <;> cases h
section
variable {M : Mx} {x qual : Str} {params : Arguments} {body : List Stmt} {scope : Scope} {dvs : List V} {kws : List (Str × V)} {f : Addr} {fd : FuncData} {N ps : List Str} {k : Nat}
theorem bx_of {A : Around} {cdv : Value} {outer : List PySem.Env} {s : Shared} {H : Hp} {E : XK} (S : FnScope N ps scope) (hr : Room k (A.deeper (envOfC qual scope s.heap.objs.size f cdv))) :
    Bx (cxOf (L2.CX M.P M.w) M.P M.w M.K M.mg M.base N qual scope f cdv A outer s H E) M N scope k (fun cls d _ H => E cls d H) where
  hN := rfl
  nd := S.nd
  hsc := rfl
  hP := rfl
  hw := rfl
  hK := rfl
  hmg := rfl
  hbase := rfl
  calm := rfl
  own := passes_of rfl
  room := hr
  tk := takes_of rfl rfl rfl rfl
/-- what a body must end in -/
def EndO (P : Bool → D → Hc → Prop) : Out → Prop
  | .nx _ h => P false .non h
  | .rt f d h => P f d h
  | .xx _ _ _ _ => True
  | _ => False
theorem def_ok {C : Con} (F : FunD M.K x qual params body scope dvs kws f fd) (S : FnScope N ps scope) (len : ∀ ds h P PX, C ds h P PX → ds.length = ps.length)
    (h : ∀ (X : Cx) (W : WX), Bx X M N scope k W → X.stack = X.env :: X.outer → X.env.frame = some X.env.locals → (∀ x, X.fn x = true) → ∀ ds hc P PX, C ds hc P PX → BX X M ⟨W, fun c pl _ h => PX c pl h⟩ body (begin N ds) hc (EndO P)) :
    FnOk M.P M.w M.K M.mg M.base (L2.CX M.P M.w) (k + 1) f fd ps (spC M C) := by
  refine F.ok S (fun vs H Q E hs => ?_) (fun cdv A outer s H vs Q E hr hs => ?_)
  · obtain ⟨w, ds, P, PX, wk, r, c, _⟩ := hs
    rw [r.1]
    exact len ds w.h P PX c
  · obtain ⟨w, ds, P, PX, wk, r, c, q, qx⟩ := hs
    refine ⟨_, pb_rd, ?_⟩
    refine h _ _ (bx_of S hr) rfl rfl (fun _ => rfl) ds w.h P PX c w H (L2.start N vs) w H _ rfl Ext.refl wk (begin_ok r) (fun c pl d σ w' H' ρ px e k s rp => qx c pl d w' H' px e k rp) fun o po => ?_
    cases o with
    | nx ρ h => exact fun σ w' H' eh e k s => q false .non .non w' H' (by rw [eh]; exact po) e k .non
    | rt f d h => exact fun v w' H' eh e k r => q f d v w' H' (by rw [eh]; exact po) e k r
    | bk ρ h => exact po.elim
    | ct ρ h => exact po.elim
    | xx _ _ _ _ => exact True.intro
end
end Yl

set_option maxRecDepth 100000
set_option maxHeartbeats 4000000
/-! Y3: operations on data. -/
namespace Yl
open PySem PySem.Spec PyProof.Rows L2
theorem lim_eq : lim = sizeLine := sizeLine_eq.symm
/-! ### texts -/
theorem txBeq_iff : ∀ a b : Tx, txBeq a b = decide (a = b)
  | [], [] => by simp [txBeq]
  | [], b :: y => by simp [txBeq]
  | a :: x, [] => by simp [txBeq]
  | a :: x, b :: y => by
    simp only [txBeq]
    rw [txBeq_iff x y]
    by_cases h : a = b
    · subst h
      by_cases h2 : x = y
      · subst h2; simp
      · simp [h2]
    · have : Nat.beq a b = false := by
        cases e : Nat.beq a b with
        | false => rfl
        | true => exact absurd (Nat.eq_of_beq_eq_true e) h
      simp [this, h]
theorem ts_inj {a b : Tx} (h : ts a = ts b) : a = b := by
  unfold ts at h
  injection h with h
  injection h with h
theorem ts_len (a : Tx) : (ts a).length = a.length := by simp [ts, Str.length]
theorem ts_list (a : Tx) : (ts a).cps.toList = a := by simp [ts]
theorem ts_of (s : Str) : ts s.cps.toList = s := by simp [ts]
theorem ts_app (a b : Tx) : ts a ++ ts b = ts (a ++ b) := by
  show Str.append (ts a) (ts b) = _
  simp [ts, Str.append]
theorem txLt_iff : ∀ a b : Tx, txLt a b = decide (a < b)
  | [], [] => by simp [txLt]
  | [], b :: y => by simp [txLt]
  | a :: x, [] => by simp [txLt]
  | a :: x, b :: y => by
    simp only [txLt]
    rw [txLt_iff x y]
    have hb : Nat.blt a b = decide (a < b) := by
      cases e : Nat.blt a b with
      | true => simp [Nat.blt_eq.mp e]
      | false =>
        have : ¬ a < b := fun h => by rw [Nat.blt_eq.mpr h] at e; cases e
        simp [this]
    rw [hb]
    rcases Nat.lt_trichotomy a b with h | h | h
    · simp [h, List.cons_lt_cons_iff]
    · subst h
      have : Nat.beq a a = true := Nat.beq_refl a
      simp [this, List.cons_lt_cons_iff]
    · have h1 : ¬ a < b := by omega
      have h2 : Nat.beq a b = false := by
        cases e : Nat.beq a b with
        | false => rfl
        | true => have := Nat.eq_of_beq_eq_true e; omega
      have h3 : ¬ a = b := by omega
      have h4 : ¬ (a :: x < b :: y) := by simp [List.cons_lt_cons_iff, h1, h3]
      simp [h1, h2, h4]
/-! ### data as the library's data -/
mutual
def toPy : D → PyData
  | .bl b => .bool b
  | .int i => .int i
  | .str x => .str (ts x)
  | .lst xs => .list (toPyL xs)
  | .tup xs => .tuple (toPyL xs)
  | .ktup xs => .tuple (toPyL xs)
  | _ => .none
def toPyL : List D → List PyData
  | [] => []
  | d :: ds => toPy d :: toPyL ds
end
theorem toPyL_map (ds : List D) : toPyL ds = ds.map toPy := by
  induction ds with
  | nil => rfl
  | cons d ds ih => simp [toPyL, ih]
theorem all_get {n : Nat} {ds : List D} (h : ds.all (depOk n) = true) {i : Nat} {d : D} (e : ds[i]? = some d) : depOk n d = true := List.all_eq_true.mp h d (List.mem_of_getElem? e)
section
variable {M : Mx} {F H : Hp} {m : List Addr}
theorem dpAll_of {vs : List V} {ds : List D} (l : vs.length = ds.length) (h : ∀ (i : Nat) v d, vs[i]? = some v → ds[i]? = some d → Dp M.K H v (toPy d)) : DpAll M.K H vs (toPyL ds) := by
  induction ds generalizing vs with
  | nil =>
    have := List.eq_nil_of_length_eq_zero (l.trans rfl)
    subst this
    exact .nil
  | cons d ds ih =>
    cases vs with
    | nil => cases l
    | cons v vs => exact .cons (h 0 v d rfl rfl) (ih (by simpa using l) fun i v' d' a b => h (i + 1) v' d' (by simpa using a) (by simpa using b))
theorem sqL_of (le : Le F H) {a : Addr} {vs : List V} (h : F a = some (.lst vs)) : SqL M.K H a vs := .inl (le a _ h).1
theorem sqT_of (le : Le F H) {a : Addr} {vs : List V} (h : F a = some (.tup vs)) : SqT M.K H a vs := .inl (le a _ h).1
theorem dp_of (le : Le F H) : ∀ (n : Nat) (d : D) (v : V), depOk n d = true → Rep M F m v d → Dp M.K H v (toPy d)
  | 0, _, _, h, _ => by simp [depOk] at h
  | n + 1, d, v, h, r => by
    cases r <;> first | (simp [depOk] at h; done) | skip
    · exact .non
    · exact .bl _
    · exact .int _
    · exact .str _
    · rename_i a vs ds hf l p
      exact .tup (sqT_of le hf) (dpAll_of l fun i v d e f => dp_of le n d v (all_get h f) (p i v d e f))
    · rename_i a vs ds hf l p
      exact .tup (SqT.k hf) (dpAll_of l fun i v d e f => dp_of le n d v (all_get h f) (p i v d e f))
    · rename_i a vs ds hf l p
      exact .lst (sqL_of le hf) (dpAll_of l fun i v d e f => dp_of le n d v (all_get h f) (p i v d e f))
end
theorem depthAll_le {n : Nat} : ∀ {ds : List D}, (∀ d ∈ ds, (toPy d).depth ≤ n) → PyData.depthAll (toPyL ds) ≤ n
  | [], _ => Nat.zero_le _
  | d :: ds, h => by
    show max _ _ ≤ n
    exact Nat.max_le.mpr ⟨h d (by simp), depthAll_le fun d' q => h d' (by simp [q])⟩
theorem depth_of : ∀ (n : Nat) (d : D), depOk n d = true → (toPy d).depth ≤ n
  | 0, _, h => by simp [depOk] at h
  | n + 1, d, h => by
    cases d <;> first | (simp [depOk] at h; done) | exact Nat.zero_le _ | skip
    all_goals
      show PyData.depthAll _ + 1 ≤ n + 1
      exact Nat.succ_le_succ (depthAll_le fun d q => depth_of n d (List.all_eq_true.mp h d q))
theorem lay0All {ds : List D} (h : ∀ d ∈ ds, (toPy d).canLay0 = true) : PyData.canLayAll0 (toPyL ds) = true := by
  induction ds with
  | nil => rfl
  | cons d ds ih =>
    show ((toPy d).canLay0 && PyData.canLayAll0 (toPyL ds)) = true
    rw [h d (by simp), ih fun d' q => h d' (by simp [q])]; rfl
theorem lay0_of : ∀ (n : Nat) (d : D), depOk n d = true → (toPy d).canLay0 = true
  | 0, _, h => by simp [depOk] at h
  | n + 1, d, h => by
    cases d <;> first | (simp [depOk] at h; done) | rfl | skip
    · rename_i x
      show PyData.strOk (ts x) = true
      unfold PyData.strOk ts
      simp only [depOk] at h
      rw [Array.all_eq_true']
      intro c hc
      have := List.all_eq_true.mp h c (by simpa using hc)
      simpa using Nat.blt_eq.mp this
    all_goals
      exact lay0All fun d q => lay0_of n d (List.all_eq_true.mp h d q)
theorem shaped_of {n : Nat} {d : D} (hn : n ≤ 64) (h : depOk n d = true) : SeqAt.shaped (toPy d) = true := by
  unfold SeqAt.shaped
  rw [lay0_of n d h, decide_eq_true (Nat.le_trans (depth_of n d h) hn)]; rfl
theorem eqvL_of {n : Nat} (ih : ∀ x y : D, depOk n x = true → depOk n y = true → eqv x y = PyData.eqv (toPy x) (toPy y)) : ∀ {xs ys : List D}, xs.all (depOk n) = true → ys.all (depOk n) = true → eqvL xs ys = PyData.eqvAll (toPyL xs) (toPyL ys)
  | [], [], _, _ => by simp [eqvL, toPyL, PyData.eqvAll]
  | [], y :: ys, _, _ => by simp [eqvL, toPyL, PyData.eqvAll]
  | x :: xs, [], _, _ => by simp [eqvL, toPyL, PyData.eqvAll]
  | x :: xs, y :: ys, hx, hy => by
    rw [List.all_cons, Bool.and_eq_true_iff] at hx hy
    simp only [eqvL, toPyL, PyData.eqvAll]
    rw [ih x y hx.1 hy.1, eqvL_of ih hx.2 hy.2]
theorem eqv_of : ∀ (n : Nat) (x y : D), depOk n x = true → depOk n y = true → eqv x y = PyData.eqv (toPy x) (toPy y)
  | 0, _, _, h, _ => by simp [depOk] at h
  | n + 1, x, y, hx, hy => by
    cases x <;> first | (simp [depOk] at hx; done) | skip
    all_goals cases y <;> first | (simp [depOk] at hy; done) | skip
    all_goals simp only [depOk] at hx hy
    all_goals simp only [eqv, toPy, PyData.eqv]
    all_goals first
      | rfl
      | exact eqvL_of (eqv_of n) hx hy
      | skip
    · rename_i a b
      rw [txBeq_iff]
      show _ = decide (ts a = ts b)
      by_cases h : a = b
      · subst h; simp
      · rw [decide_eq_false h, decide_eq_false fun q => h (ts_inj q)]
/-! ### what a value denotes, cells looked through -/
section
variable {M : Mx} {w : Wd} {H : Hp} {v : V} {d : D}
/-- v is the address of a thing of content d -/
def Ctn (M : Mx) (w : Wd) (H : Hp) (v : V) (d : D) : Prop := ∃ a u, v = .ref a ∧ RdT H a u ∧ Cont M w.F w.m d u
theorem cont_box {F : Hp} {m : List Addr} {u : HO} (c : Cont M F m d u) : boxd d = true ∨ d = .zz := by
  cases d <;> cases u <;> first | exact c.elim | exact .inl rfl | exact .inr rfl
theorem den (wk : WOk M w H) (r : Rep M w.F w.m v d) : (boxd (deref w.h d) = true ∧ Ctn M w H v (deref w.h d)) ∨ (boxd (deref w.h d) = false ∧ (deref w.h d = .zz ∨ (Rep M w.F w.m v (deref w.h d) ∧ deref w.h d = d))) := by
  by_cases bx : boxd d = true
  · have e : deref w.h d = d := by cases d <;> first | rfl | cases bx
    rw [e]
    obtain ⟨a, u, rfl, h, c⟩ := rep_unbox bx r
    exact .inl ⟨bx, a, u, rfl, wk.le a u h, c⟩
  · cases d with
    | ref j =>
      obtain ⟨a, ha, rfl⟩ := r.ref_inv
      cases h : w.h[j]? with
      | none => 
        have e : deref w.h (.ref j) = .zz := by simp [deref, h]
        rw [e]; exact .inr ⟨rfl, .inl rfl⟩
      | some o =>
        cases o with
        | none =>
          have e : deref w.h (.ref j) = .zz := by simp [deref, h]
          rw [e]; exact .inr ⟨rfl, .inl rfl⟩
        | some d' =>
          have e : deref w.h (.ref j) = d' := by simp [deref, h]
          rw [e]
          obtain ⟨a', u, h1, h2, h3, h4⟩ := wk.al j d' h
          rw [ha] at h1; cases h1
          rcases cont_box h4 with b | rfl
          · exact .inl ⟨b, a, u, rfl, .of h3, h4⟩
          · exact .inr ⟨rfl, .inl rfl⟩
    | _ => first | exact absurd rfl bx | exact .inr ⟨rfl, .inr ⟨r, rfl⟩⟩
theorem den_flat {d' : D} (wk : WOk M w H) (r : Rep M w.F w.m v d) (e : deref w.h d = d') (b : boxd d' = false) (z : d' ≠ .zz) : Rep M w.F w.m v d' := by
  subst e
  rcases den wk r with h | h
  · rw [b] at h; exact absurd h.1 Bool.false_ne_true
  · rcases h.2 with h | h
    · exact absurd h z
    · exact h.1
theorem den_box {d' : D} (wk : WOk M w H) (r : Rep M w.F w.m v d) (e : deref w.h d = d') (b : boxd d' = true) : Ctn M w H v d' := by
  subst e
  rcases den wk r with h | h
  · exact h.2
  · rw [b] at h; exact absurd h.1 (by simp)
theorem Ctn.lst {ds : List D} (c : Ctn M w H v (.lst ds)) : ∃ a vs, v = .ref a ∧ H a = some (.lst vs) ∧ RepL M w.F w.m vs ds := by
  obtain ⟨a, u, rfl, h, c⟩ := c
  cases u <;> first | exact c.elim | exact ⟨a, _, rfl, h.2 rfl, c⟩
theorem den_lst {ds : List D} (wk : WOk M w H) (r : Rep M w.F w.m v d) (e : deref w.h d = .lst ds) : ∃ a vs, v = .ref a ∧ H a = some (.lst vs) ∧ RepL M w.F w.m vs ds := (den_box wk r e rfl).lst
theorem den_tup {ds : List D} (wk : WOk M w H) (r : Rep M w.F w.m v d) (e : deref w.h d = .tup ds) : ∃ a vs, v = .ref a ∧ w.F a = some (.tup vs) ∧ H a = some (.tup vs) ∧ RepL M w.F w.m vs ds := by
  obtain ⟨a, vs, rfl, h, rl⟩ := (den_flat wk r e rfl (by simp)).tup_inv
  exact ⟨a, vs, rfl, h, (wk.le a _ h).2 rfl, rl⟩
theorem den_str {x : Tx} (wk : WOk M w H) (r : Rep M w.F w.m v d) (e : deref w.h d = .str x) : v = .str (ts x) := (den_flat wk r e rfl (by simp)).str_inv
theorem den_int {x : Int} (wk : WOk M w H) (r : Rep M w.F w.m v d) (e : deref w.h d = .int x) : v = .int x := (den_flat wk r e rfl (by simp)).int_inv
/-- a cell's content as frozen data, to be compared -/
theorem den_dp {n : Nat} (wk : WOk M w H) (r : Rep M w.F w.m v d) (h : depOk n (deref w.h d) = true) : Dp M.K H v (toPy (deref w.h d)) := by
  rcases den wk r with ⟨b, c⟩ | ⟨b, z | ⟨r', _⟩⟩
  · cases n with
    | zero => simp [depOk] at h
    | succ n =>
      generalize deref w.h d = e at h b c ⊢
      cases e <;> first | (exact absurd b Bool.false_ne_true) | (simp [depOk] at h; done) | skip
      rename_i ds
      obtain ⟨a, vs, rfl, ha, rl⟩ := Ctn.lst c
      exact .lst (.inl (.inl ha)) (dpAll_of rl.1 fun i v d e f => dp_of wk.le n d v (all_get h f) (rl.2 i v d e f))
  · rw [z] at h
    cases n <;> simp [depOk] at h
  · exact dp_of wk.le n _ _ h r'
end
/-! ### what an operation is followed by -/
/-- the cells stay -/
def Fin (M : Mx) (w : Wd) (H : Hp) (f : Bool) (d : D) (Q : VK) : Prop := ∀ v w1 H1, w1.h = w.h → Ext w H w1 H1 → WOk M w1 H1 → RR M w H w1 H1 v f d → Q v H1
section
variable {M : Mx} {w : Wd} {H : Hp} {d : D} {Q : VK}
theorem Fin.here {v : V} (k : Fin M w H false d Q) (wk : WOk M w H) (r : Rep M w.F w.m v d) : Q v H := k v w H rfl Ext.refl wk r
theorem Fin.box {p : Addr} {o : HO} (k : Fin M w H true d Q) (wk : WOk M w H) (b : boxd d = true) (hp : H p = none) (c : Cont M w.F w.m d o) : Q (.ref p) (upd H p o) := by
  obtain ⟨e, k1⟩ := ext_lay (o := o) wk hp
  have nl : ∀ i, ¬ Live w i p := fun i l => by
    obtain ⟨u, h, _⟩ := live_some wk l
    rw [hp] at h; cases h
  exact k _ w _ rfl e k1 ⟨b, p, o, rfl, upd_same, le_none wk.le hp, nl, .inl hp, c⟩
theorem Fin.tup {p : Addr} {vs : List V} {ds : List D} (k : Fin M w H false (.tup ds) Q) (wk : WOk M w H) (hp : H p = none) (r : RepL M w.F w.m vs ds) : Q (.ref p) (upd H p (.tup vs)) := by
  obtain ⟨e, k1⟩ := ext_lay (o := .tup vs) wk hp
  have fp := le_none wk.le hp
  have nl : ∀ i, ¬ Live w i p := fun i l => by
    obtain ⟨u, h, _⟩ := live_some wk l
    rw [hp] at h; cases h
  obtain ⟨e2, k2⟩ := ext_fz k1 upd_same fp nl (.inl hp) e
  have rr : RepL M (upd w.F p (.tup vs)) w.m vs ds := RepL.mono (sub_upd fp) (fun _ _ z => z) r
  exact k _ (w.fz p (.tup vs)) _ rfl e2 k2 (.tup upd_same rr.1 rr.2)
end
theorem opr_or {X : Cx} {f : Value → Value → Sem Value} {r r' : R2} (a : OpR X f r) (b : OpR X f r') : OpR X f (fun x y H Q => r x y H Q ∨ r' x y H Q) := fun pins s σ H x y v u Q I rx ry h => h.elim (a pins s σ H x y v u Q I rx ry) (b pins s σ H x y v u Q I rx ry)
/-! ### the operators' rules -/
abbrev rAddS : R2 := fun x y H Q => ∃ i j, x = .str i ∧ y = .str j ∧ i.length + j.length ≤ sizeLine ∧ Q (.str (i ++ j)) H
abbrev rLtS : R2 := fun x y H Q => ∃ i j, x = .str i ∧ y = .str j ∧ Q (.bl (decide (i.cps.toList < j.cps.toList))) H
abbrev rIsN' : R2 := fun x y H Q => y = .non ∧ Q (.bl (decide (x = .non))) H
abbrev rNotN' : R2 := fun x y H Q => y = .non ∧ Q (.bl (!decide (x = .non))) H
abbrev rSign : R2 := fun x y H Q => ∃ (c : Nat) (z : Str), x = .str ⟨#[c]⟩ ∧ y = .str z ∧ Q (.bl (decide (c ∈ z.cps.toList))) H
abbrev rNSign : R2 := fun x y H Q => ∃ (c : Nat) (z : Str), x = .str ⟨#[c]⟩ ∧ y = .str z ∧ Q (.bl (!decide (c ∈ z.cps.toList))) H
abbrev rInKd (K : PySem.W.Frag) (w : World) : R2 := fun x y H Q => ∃ (d : Addr) (es : Array DictEntry) (n : Nat) (z : Str) (r : Option Value), KDict K w d es n ∧ x = .str z ∧ y = .ref d ∧ PySem.W.nsIn K d z = some r ∧ Q (.bl r.isSome) H
abbrev rNinKd (K : PySem.W.Frag) (w : World) : R2 := fun x y H Q => ∃ (d : Addr) (es : Array DictEntry) (n : Nat) (z : Str) (r : Option Value), KDict K w d es n ∧ x = .str z ∧ y = .ref d ∧ PySem.W.nsIn K d z = some r ∧ Q (.bl (!r.isSome)) H
abbrev rDIn : R2 := fun x y H Q => ∃ a o, y = .ref a ∧ DGet H a x o ∧ Q (.bl o.isSome) H
abbrev rDNin : R2 := fun x y H Q => ∃ a o, y = .ref a ∧ DGet H a x o ∧ Q (.bl (!o.isSome)) H
abbrev rDIx : R2 := fun x y H Q => ∃ a v, x = .ref a ∧ DGet H a y (some v) ∧ Q v H
abbrev orR (r r' : R2) : R2 := fun x y H Q => r x y H Q ∨ r' x y H Q
def rO (K : PySem.W.Frag) (w : World) : O2 → R2
  | .add => orR (rI0 fun i j => .int (i + j)) (orR rAddS (orR rCat (rCatA K)))
  | .sub => rI0 fun i j => .int (i - j)
  | .mul => rI CMul fun i j => .int (i * j)
  | .fdiv => rI CDiv fun i j => .int (i / j)
  | .mod => rI (fun _ j => 0 < j) fun i j => .int (i % j)
  | .lt => orR (rI0 fun i j => .bl (decide (i < j))) rLtS
  | .le => rI0 fun i j => .bl (decide (i ≤ j))
  | .gt => rI0 fun i j => .bl (decide (j < i))
  | .ge => rI0 fun i j => .bl (decide (j ≤ i))
  | .eq => rEqD K
  | .ne => rNeD K
  | .isN => rIsN'
  | .notN => rNotN'
  | .isin => orR (rInD K) (orR rSign (orR (rInKd K w) (orR (rIn K false) rDIn)))
  | .nin => orR (rNotInD K) (orR rNSign (orR (rNinKd K w) (orR (rIn K true) rDNin)))
  | .ix => orR (rIx K) (orR (rIxD K w) rDIx)
  | .pow => rI CPow fun i j => .int (i ^ j.toNat)
def opOf : O2 → Value → Value → Sem Value
  | .add => binaryOp .Add
  | .sub => binaryOp .Sub
  | .mul => binaryOp .Mult
  | .fdiv => binaryOp .FloorDiv
  | .mod => binaryOp .Mod
  | .lt => compareOp .Lt
  | .le => compareOp .LtE
  | .gt => compareOp .Gt
  | .ge => compareOp .GtE
  | .eq => compareOp .Eq
  | .ne => compareOp .NotEq
  | .isN => compareOp .Is
  | .notN => compareOp .IsNot
  | .isin => compareOp .In
  | .nin => compareOp .NotIn
  | .ix => getItem
  | .pow => binaryOp .Pow
theorem opr_kd {X : Cx} : OpR X (compareOp .In) (rInKd X.K X.w) := fun pins s σ H x y v u Q I rx ry h => by
  obtain ⟨d, es, n, z, r, kd, h⟩ := h
  exact op_in_kd kd pins s σ H x y v u Q I rx ry ⟨z, r, h⟩
theorem opr_nkd {X : Cx} : OpR X (compareOp .NotIn) (rNinKd X.K X.w) := fun pins s σ H x y v u Q I rx ry h => by
  obtain ⟨d, es, n, z, r, kd, h⟩ := h
  exact op_notIn_kd kd pins s σ H x y v u Q I rx ry ⟨z, r, h⟩
theorem opr_din {X : Cx} (hu : X.A.units + 1 < cLine) : OpR X (compareOp .In) rDIn := fun pins s σ H x y v u Q I rx ry h => by
  obtain ⟨a, o, rfl, g, q⟩ := h
  obtain rfl : u = Value.ref a := ry
  exact d_in hu I g rx fun s' I' => ⟨.bl o.isSome, H, I', rfl, q⟩
theorem opr_dnin {X : Cx} (hu : X.A.units + 1 < cLine) : OpR X (compareOp .NotIn) rDNin := fun pins s σ H x y v u Q I rx ry h => by
  obtain ⟨a, o, rfl, g, q⟩ := h
  obtain rfl : u = Value.ref a := ry
  exact d_notIn hu I g rx fun s' I' => ⟨.bl (!o.isSome), H, I', rfl, q⟩
theorem ixr_d {X : Cx} (hu : X.A.units + 1 < cLine) : IxR X rDIx := fun value slice pins s σ H x y v u Q I rx ry h hs => by
  obtain ⟨a, z, rfl, g, q⟩ := h
  obtain rfl : v = Value.ref a := rx
  exact tail_any (dict_typeIs I g) PySem.F.slot_dict_getitem.lookup (d_getItem hu I g ry fun w' s' I' rw' => ⟨z, H, I', rw', q⟩) hs
theorem opr_of {X : Cx} {k : Nat} (hr : Room k X.A) : ∀ o : O2, o ≠ .ix → OpR X (opOf o) (rO X.K X.w o)
  | .add, _ => opr_or op_add (opr_or op_add_str (opr_or op_cat op_catA))
  | .sub, _ => op_sub
  | .mul, _ => op_mul
  | .fdiv, _ => op_fdiv
  | .mod, _ => op_mod
  | .lt, _ => opr_or op_lt op_lt_str
  | .le, _ => op_le
  | .gt, _ => op_gt
  | .ge, _ => op_ge
  | .eq, _ => op_eqD hr.units
  | .ne, _ => op_neD hr.units
  | .isN, _ => op_isN
  | .notN, _ => op_notN
  | .isin, _ => opr_or (op_inD (by have := hr.un; omega)) (opr_or op_in_sign (opr_or opr_kd (opr_or op_in_seq (opr_din (by have := hr.un; omega)))))
  | .nin, _ => opr_or (op_notInD (by have := hr.un; omega)) (opr_or op_notIn_sign (opr_or opr_nkd (opr_or op_notIn_seq (opr_dnin (by have := hr.un; omega)))))
  | .ix, h => absurd rfl h
  | .pow, _ => op_pow
theorem ixr_of {X : Cx} {k : Nat} (hr : Room k X.A) : IxR X (rO X.K X.w .ix) := ix_seq.or (ix_kdict.or (ixr_d (by have := hr.un; omega)))
end Yl

set_option maxRecDepth 100000
set_option maxHeartbeats 4000000
/-! Yz: zip of two texts. -/
namespace Yl
open PySem PySem.Spec PyProof.Rows L2
def Itzs (x y : Str) : It :=
  ⟨fun i _ => i < x.cps.size ∧ i < y.cps.size,
    fun i H v H' => ∃ T c d, v = .ref T ∧ H T = none ∧ H' = upd H T (.tup [.str ⟨#[c]⟩, .str ⟨#[d]⟩]) ∧ x.cps[i]? = some c ∧ y.cps[i]? = some d,
    fun i _ => i ≤ x.cps.size ∧ i ≤ y.cps.size ∧ (i = x.cps.size ∨ i = y.cps.size)⟩
theorem turn_zips {P : Program} {w : World} {K : PySem.W.Frag} {elts : List Expr} {kk : Nat} {tpos : Pos} {x y : Str} {t1 t2 : Tok} {z TI TO i1 i2 : Addr} (D : ZipSep2 z TI TO i1 i2 [i1] [i2]) :
    Turn P w K (.Tuple elts kk tpos) (Itzs x y) [z, TI, TO, i1, i2] z (fun i h => IsZip h z TI TO .none ∧ IsTupOf2 h TI (.ref i1) (.ref i2) ∧ (∃ x y, IsTupOf2 h TO x y) ∧ h.IsStrIter i1 (strIterType x) x t1 i ∧ h.IsStrIter i2 (strIterType y) y t2 i) where
  mem := by simp
  obj := fun i h st c hc => by
    obtain ⟨hz, hTI, ⟨x, y, hTO⟩, ⟨o1, e1, _, d1⟩, ⟨o2, e2, _, d2⟩⟩ := st
    have e' : c = z ∨ c = TI ∨ c = TO ∨ c = i1 ∨ c = i2 := by simpa using hc
    rcases e' with q | q | q | q | q
    · rw [q]; exact ⟨_, hz, fun v q => nomatch q⟩
    · rw [q]; exact ⟨_, hTI, fun v q => nomatch q⟩
    · rw [q]; exact ⟨_, hTO, fun v q => nomatch q⟩
    · rw [q]; exact ⟨o1, e1, fun v q => by rw [d1] at q; cases q⟩
    · rw [q]; exact ⟨o2, e2, fun v q => by rw [d2] at q; cases q⟩
  keep := fun i h h' st k => by
    obtain ⟨hz, hTI, ⟨x, y, hTO⟩, ⟨o1, e1, c1⟩, ⟨o2, e2, c2⟩⟩ := st
    exact ⟨k z (by simp) _ hz, k TI (by simp) _ hTI, ⟨x, y, k TO (by simp) _ hTO⟩, ⟨o1, k i1 (by simp) o1 e1, c1⟩, ⟨o2, k i2 (by simp) o2 e2, c2⟩⟩
  item := by
    intro X hP hw hK hc i pins s σ H E I hf st hg
    subst hP hw hK
    obtain ⟨hz, hTI, ⟨x0, y0, hTO⟩, h1, h2⟩ := st
    obtain ⟨l1, l2⟩ := hg
    have hzl : z < s.heap.objs.size := Heap.lt_size hz
    refine wpAny_pyNext_zipD2_item (St1 := fun i h => h.IsStrIter i1 (strIterType x) x t1 i) (St2 := fun i h => h.IsStrIter i2 (strIterType y) y t2 i) D (Draws.text (A := X.A.in1) (I.ok.hd hc) i1 x t1) (Draws.text (A := X.A.in1) (I.ok.hd hc) i2 y t2) hz hTI hTO h1 h2 l1 l2 fun x1 x2 h' tk p1 p2 z' TO' h1' h2' hT hsz hk => ?_
    obtain ⟨c, u, hc1, rfl⟩ := p1
    obtain ⟨d, u2, hc2, rfl⟩ := p2
    refine ⟨_, rfl, wpAny_letOwnedTupleGo_zip (s := { s with heap := h', toks := tk }) z' fun h'' z'' sb => ?_⟩
    have hT2 : h''.get? s.heap.objs.size = some { cls := .type "tuple", data := .seq #[.str ⟨#[c]⟩ u, .str ⟨#[d]⟩ u2] } := (sb.2 _ (Nat.ne_of_gt hzl)).trans hT
    have new : ObjOk X.prog X.w (upd H s.heap.objs.size (.tup [.str ⟨#[c]⟩, .str ⟨#[d]⟩])) h'' s.heap.objs.size (.tup [.str ⟨#[c]⟩, .str ⟨#[d]⟩]) :=
      ⟨by show 2 ≤ sizeLine; decide, [.str ⟨#[c]⟩ u, .str ⟨#[d]⟩ u2], .cons ⟨u, rfl⟩ (.cons ⟨u2, rfl⟩ .nil), ⟨_, hT2, rfl, _, rfl⟩⟩
    have I1 : Inv X pins σ (upd H s.heap.objs.size (.tup [.str ⟨#[c]⟩, .str ⟨#[d]⟩])) { s with heap := h'', toks := tk } :=
      I.turnedNew (t' := tk) (ch := [z, TI, TO, i1, i2]) (fun c o hb q => (sb.2 c (fun q' => hb (by simp [q']))).trans (hk c o (fun q' => hb (by simp [q'])) (fun q' => hb (by simp [q'])) (fun q' => hb (by simp [q'])) (fun q' => hb (by simp [q'])) q)) hf (Nat.le_refl _) new
    refine ⟨.ref s.heap.objs.size, _, I1, rfl, ⟨_, c, d, rfl, I.hok.fresh (Nat.le_refl _), rfl, hc1, hc2⟩, ⟨z'', ?_, ⟨.str ⟨#[c]⟩ u, .str ⟨#[d]⟩ u2, ?_⟩, ?_, ?_⟩, fun c hcm => ?_⟩
    · exact (sb.2 _ D.TIz).trans (hk _ _ D.TIz D.TITO D.TIi1 D.TIi2 hTI)
    · exact (sb.2 _ D.TOz).trans TO'
    · obtain ⟨o, e, r⟩ := h1'
      exact ⟨o, (sb.2 _ (fun q => D.zf1 (by rw [← q]; exact D.mem1))).trans e, r⟩
    · obtain ⟨o, e, r⟩ := h2'
      exact ⟨o, (sb.2 _ (fun q => D.zf2 (by rw [← q]; exact D.mem2))).trans e, r⟩
    · have hlt : c < s.heap.objs.size := by
        have e' : c = z ∨ c = TI ∨ c = TO ∨ c = i1 ∨ c = i2 := by simpa using hcm
        rcases e' with q | q | q | q | q
        · rw [q]; exact hzl
        · rw [q]; exact Heap.lt_size hTI
        · rw [q]; exact Heap.lt_size hTO
        · rw [q]; obtain ⟨_, e1, _⟩ := h1; exact Heap.lt_size e1
        · rw [q]; obtain ⟨_, e2, _⟩ := h2; exact Heap.lt_size e2
      rw [upd_ne (Nat.ne_of_lt hlt)]
      exact (hf c hcm).1
  done := by
    intro X hP hw hK hc i pins s σ H E I hf st hg
    subst hP hw hK
    obtain ⟨hz, hTI, ⟨x0, y0, hTO⟩, h1, h2⟩ := st
    obtain ⟨l1, l2, he⟩ := hg
    exact wpAny_pyNext_zipD2_end (St1 := fun i h => h.IsStrIter i1 (strIterType x) x t1 i) (St2 := fun i h => h.IsStrIter i2 (strIterType y) y t2 i) D (Draws.text (A := X.A.in1) (I.ok.hd hc) i1 x t1) (Draws.text (A := X.A.in1) (I.ok.hd hc) i2 y t2) hz hTI hTO h1 h2 l1 l2 he fun h' tk hk => ⟨rfl, I.turnedL (t' := tk) (ch := [z, TI, TO, i1, i2]) (fun c o hb q =>
      hk c o (fun q' => hb (by simp [q'])) (fun q' => hb (by simp [q'])) (fun q' => hb (by simp [q'])) (fun q' => hb (by simp [q'])) q) hf⟩
  self := fun A i s Q E st h => wpAny_pyIter_zip st.1 h
def iZips (ta : TA) : TI := fun σ H R => ta σ H fun vs H1 => ∃ x y, vs = [.str x, .str y] ∧ R (Itzs x y) H1
theorem pi_zips {X : Cx} {e e2 : Expr} {ta : TA} {p pos tpos : Pos} {elts : List Expr} {kk : Nat} (hg : Gl X "zip") (hm : X.mg "zip" = none) (ha : PA X [e, e2] ta)
    (hs : starEach [e, e2] X.env = (false, eval e X.env) :: starEach [e2] X.env := by rfl) (hpl : (backTo pos (starEach [e2] X.env)).any (·.1) = false := by rfl) :
    PI X (.Tuple elts kk tpos) (.Call (.Name "zip" p) [e, e2] [] pos) (iZips ta) := by
  refine ⟨fun pins s σ H R I h => ?_⟩
  refine Call_ (ld_blt I hg hm PyProof.Rows.boot_zip (PyProof.Rows.callWith_type1 (thn (ha.run pos pins s σ H _ I h) fun us s1 ⟨vs, H1, I1, r1, q1⟩ => ?_) hs hpl))
  obtain ⟨x, y, ex, q⟩ := q1
  subst ex
  cases r1 with
  | cons r rr =>
    cases rr with
    | cons r' rr =>
      cases rr
      obtain ⟨t1, rfl⟩ := r
      obtain ⟨t2, rfl⟩ := r'
      refine zip_begins2 (begins_text x t1) (begins_text y t2) True.intro True.intro fun h' hz hTI hTO h1 h2 hsz hk => wpAny_pyIter_zip hz ?_
      have I2 : Inv X pins σ H1 { s1 with heap := h' } := I1.kept (t' := s1.toks) hk
      have hsep : ZipSep2 (s1.heap.objs.size + 4) (s1.heap.objs.size + 2) (s1.heap.objs.size + 3) s1.heap.objs.size (s1.heap.objs.size + 1) [s1.heap.objs.size] [s1.heap.objs.size + 1] := zip_sep2 (fp1 := []) (fp2 := []) (by simp) (by simp)
      refine ⟨s1.heap.objs.size + 4, [s1.heap.objs.size + 4, s1.heap.objs.size + 2, s1.heap.objs.size + 3, s1.heap.objs.size, s1.heap.objs.size + 1], _, _, H1, rfl, I2, turn_zips (t1 := t1) (t2 := t2) hsep, ⟨hz, hTI, ⟨_, _, hTO⟩, ⟨_, h1, rfl, rfl⟩, ⟨_, h2, rfl, rfl⟩⟩, fun c hcm => ?_, q⟩
      have e' : c = s1.heap.objs.size + 4 ∨ c = s1.heap.objs.size + 2 ∨ c = s1.heap.objs.size + 3 ∨ c = s1.heap.objs.size ∨ c = s1.heap.objs.size + 1 := by simpa using hcm
      have hle : s1.heap.objs.size ≤ c := by
        rcases e' with z | z | z | z | z
        · rw [z]; exact Nat.le_add_right _ _
        · rw [z]; exact Nat.le_add_right _ _
        · rw [z]; exact Nat.le_add_right _ _
        · rw [z]; exact Nat.le_refl _
        · rw [z]; exact Nat.le_add_right _ _
      exact I1.fpOk hle (I1.hok.fresh hle)
end Yl

set_option maxRecDepth 100000
set_option maxHeartbeats 4000000
/-! Y4: what the small language's operations come to. -/
namespace Yl
open PySem PySem.Spec PyProof.Rows L2
def flV : D → V
  | .bl b => .bl b
  | .int i => .int i
  | .str s => .str (ts s)
  | _ => .non
section
variable {M : Mx} {F : Hp} {m : List Addr}
theorem flt_rep {v : V} {d : D} (r : Rep M F m v d) (h : flt d = true) : v = flV d := by
  cases r <;> first | rfl | (cases h; done)
theorem flt_flat {d : D} (h : flt d = true) : flatV (flV d) = true := by
  cases d <;> first | rfl | (cases h; done)
theorem flt_reps {vs : List V} {ds : List D} (r : RepL M F m vs ds) (h : ds.all flt = true) : vs = ds.map flV := by
  induction ds generalizing vs with
  | nil => exact r.nil_inv
  | cons d ds ih =>
    obtain ⟨v, us, rfl, r1, r2⟩ := r.cons_inv
    rw [List.all_cons, Bool.and_eq_true_iff] at h
    rw [List.map_cons, flt_rep r1 h.1, ih r2 h.2]
theorem eqV_of {x y : D} (hx : flt x = true) (hy : flt y = true) : eqV (flV x) (flV y) = eqv x y := by
  cases x <;> first | (cases hx; done) | skip
  all_goals cases y <;> first | (cases hy; done) | skip
  all_goals simp only [flV, eqV, eqv]
  rename_i a b
  rw [txBeq_iff]
  show decide (ts a = ts b) = _
  by_cases h : a = b
  · subst h; simp
  · rw [decide_eq_false h, decide_eq_false fun q => h (ts_inj q)]
theorem inV_of {x : D} {ds : List D} (hx : flt x = true) (h : ds.all flt = true) : inV (flV x) (ds.map flV) = ds.any fun z => eqv z x := by
  unfold inV
  rw [List.any_map]
  induction ds with
  | nil => rfl
  | cons d ds ih =>
    rw [List.all_cons, Bool.and_eq_true_iff] at h
    rw [List.any_cons, List.any_cons, ih h.2]
    show (eqV (flV d) (flV x) || _) = _
    rw [eqV_of h.1 hx]
theorem flat_all {ds : List D} (h : ds.all flt = true) : (ds.map flV).all flatV = true := by
  rw [List.all_map]
  exact List.all_eq_true.mpr fun d hd => flt_flat (List.all_eq_true.mp h d hd)
theorem ixN_of {n : Nat} {i : Int} : L2.ixN n i = ixN n i := by
  unfold L2.ixN ixN
  by_cases h : 0 ≤ i
  · rw [if_pos h, if_pos h]
    by_cases h2 : i < (n : Int)
    · rw [if_pos h2, if_pos (by omega)]
    · rw [if_neg h2, if_neg (by omega)]
  · rw [if_neg h, if_neg h]
    by_cases h2 : -(n : Int) ≤ i
    · rw [if_pos h2, if_pos (by omega)]
    · rw [if_neg h2, if_neg (by omega)]
theorem atI_of {α : Type} {xs : List α} {i : Int} : atI xs i = (ixN xs.length i).bind fun j => xs[j]? := by
  unfold atI
  rw [ixN_of]
theorem ix_rep {vs : List V} {ds : List D} {i : Int} {d : D} (r : RepL M F m vs ds) (h : ((ixN ds.length i).bind fun j => ds[j]?) = some d) : ∃ v, atI vs i = some v ∧ Rep M F m v d := by
  rw [atI_of, r.1]
  cases e : ixN ds.length i with
  | none => rw [e] at h; cases h
  | some j =>
    rw [e] at h
    exact r.get h
end
/-! ### dicts -/
theorem eqv_key : ∀ a b : Key, eqv (kD a) (kD b) = decide (a = b)
  | .inl i, .inl j => by
    show (i == j) = _
    by_cases h : i = j
    · subst h; simp
    · have : ¬ (Sum.inl i : Key) = .inl j := fun q => h (Sum.inl.inj q)
      rw [decide_eq_false this]; simpa using h
  | .inr x, .inr y => by
    show txBeq _ _ = _
    rw [txBeq_iff]
    by_cases h : x = y
    · subst h; simp
    · have h1 : ¬ (Sum.inr x : Key) = .inr y := fun q => h (Sum.inr.inj q)
      have h2 : ¬ x.cps.toList = y.cps.toList := fun q => h (by rw [← ts_of x, ← ts_of y, q])
      rw [decide_eq_false h1, decide_eq_false h2]
  | .inl i, .inr y => by rw [decide_eq_false (fun q => nomatch q)]; rfl
  | .inr y, .inl i => by rw [decide_eq_false (fun q => nomatch q)]; rfl
theorem eqv_keys : ∀ a b : List Key, eqvL (a.map kD) (b.map kD) = decide (a = b)
  | [], [] => rfl
  | [], b :: y => rfl
  | a :: x, [] => rfl
  | a :: x, b :: y => by
    show (eqv (kD a) (kD b) && eqvL (x.map kD) (y.map kD)) = _
    rw [eqv_key, eqv_keys x y]
    by_cases h : a = b
    · by_cases h2 : x = y
      · subst h h2; simp
      · simp [h2]
    · simp [h]
theorem eqv_tkey (a b : List Key) : eqv (ktD a) (ktD b) = decide (a = b) := eqv_keys a b
theorem getD_of {κ : Type} [DecidableEq κ] {M : Mx} {F : Hp} {m : List Addr} {R : κ × V → D × D → Prop} {kd : κ → D} (hR : ∀ p q, R p q → q.1 = kd p.1 ∧ Rep M F m p.2 q.2) (he : ∀ a b, eqv (kd a) (kd b) = decide (a = b)) {k : κ} :
    ∀ {vs : List (κ × V)} {es : List (D × D)}, At R vs es → (match getD es (kd k) with | some d => ∃ v', valV vs k = some v' ∧ Rep M F m v' d | none => valV vs k = none)
  | vs, [], r => by
    have := r.nil_inv
    subst this
    exact rfl
  | vs, (a, d) :: es, r => by
    obtain ⟨p, us, rfl, r1, r2⟩ := r.cons_inv
    obtain ⟨h1, h2⟩ := hR _ _ r1
    dsimp only at h1 h2
    have ih := getD_of hR he (k := k) r2
    unfold getD
    rw [h1, he]
    by_cases h : p.1 = k
    · rw [decide_eq_true h, if_pos rfl]
      exact ⟨p.2, valV_pos h, h2⟩
    · rw [decide_eq_false h, if_neg Bool.false_ne_true, valV_neg h]
      exact ih
theorem any_of {κ : Type} [DecidableEq κ] {R : κ × V → D × D → Prop} {kd : κ → D} (hR : ∀ p q, R p q → q.1 = kd p.1) (he : ∀ a b, eqv (kd a) (kd b) = decide (a = b)) {k : κ} :
    ∀ {vs : List (κ × V)} {es : List (D × D)}, At R vs es → (es.any fun q => eqv q.1 (kd k)) = vs.any fun p => decide (p.1 = k)
  | vs, [], r => by
    have := r.nil_inv
    subst this
    rfl
  | vs, q :: es, r => by
    obtain ⟨p, us, rfl, r1, r2⟩ := r.cons_inv
    rw [List.any_cons, List.any_cons, any_of hR he r2, hR _ _ r1, he]
theorem putD_of {κ : Type} [DecidableEq κ] {M : Mx} {F : Hp} {m : List Addr} {kd : κ → D} (he : ∀ a b, eqv (kd a) (kd b) = decide (a = b)) {k : κ} {v : V} {d : D} (r : Rep M F m v d) {vs : List (κ × V)} {es : List (D × D)}
    (h : At (fun p q => q.1 = kd p.1 ∧ Rep M F m p.2 q.2) vs es) : At (fun p q => q.1 = kd p.1 ∧ Rep M F m p.2 q.2) (putK vs k v) (putD es (kd k) d) := by
  unfold putK putD
  rw [any_of (fun p q z => z.1) he h]
  cases vs.any fun p => decide (p.1 = k) with
  | true =>
    rw [if_pos rfl, if_pos rfl]
    refine h.map fun p q z => ?_
    rw [z.1, he]
    by_cases h : p.1 = k
    · rw [decide_eq_true h, if_pos rfl, if_pos h]; exact ⟨rfl, r⟩
    · rw [decide_eq_false h, if_neg Bool.false_ne_true, if_neg h]; exact z
  | false =>
    rw [if_neg Bool.false_ne_true, if_neg Bool.false_ne_true]
    exact h.append (.cons ⟨rfl, r⟩ .nil)
theorem key_of {M : Mx} {F : Hp} {m : List Addr} {v : V} {x : D} (r : Rep M F m v x) (h : flatK x = true) : ∃ k : Key, x = kD k ∧ v = kV k := by
  cases r <;> first | (cases h; done) | skip
  · exact ⟨.inl _, rfl, rfl⟩
  · exact ⟨.inr (ts _), by show D.str _ = D.str (ts _).cps.toList; rw [ts_list], rfl⟩
theorem keys_of {M : Mx} {F : Hp} {m : List Addr} : ∀ {ds : List D} {vs : List V}, RepL M F m vs ds → ds.all flatK = true → ∃ ks : List Key, ds = ks.map kD ∧ vs = ks.map kV
  | [], vs, r, _ => ⟨[], rfl, r.nil_inv⟩
  | d :: ds, vs, r, h => by
    obtain ⟨v, us, rfl, r1, r2⟩ := r.cons_inv
    rw [List.all_cons, Bool.and_eq_true_iff] at h
    obtain ⟨k, rfl, rfl⟩ := key_of r1 h.1
    obtain ⟨ks, rfl, rfl⟩ := keys_of r2 h.2
    exact ⟨k :: ks, rfl, rfl⟩
theorem tkey_of {M : Mx} {w : Wd} {H : Hp} {v : V} {x : D} (wk : WOk M w H) (r : Rep M w.F w.m v x) (h : isTupKey x = true) : ∃ (ks : List Key) (b : Addr), x = ktD ks ∧ v = .ref b ∧ H b = some (.tup (ks.map kV)) := by
  cases r <;> first | (cases h; done) | skip
  rename_i a vs ds hf l p
  obtain ⟨ks, rfl, rfl⟩ := keys_of ⟨l, p⟩ h
  exact ⟨ks, a, rfl, rfl, (wk.le a _ hf).2 rfl⟩
theorem dget_of {M : Mx} {w : Wd} {H : Hp} {v u : V} {x y : D} {t : Bool} {kvs : List (D × D)} (wk : WOk M w H) (r2 : Rep M w.F w.m u y) (e : deref w.h y = .dct t kvs) (rk : Rep M w.F w.m v x) (hf : fits t x = true) :
    ∃ a o, u = .ref a ∧ DGet H a v o ∧ (match getD kvs x with | some d => ∃ v', o = some v' ∧ Rep M w.F w.m v' d | none => o = none) := by
  obtain ⟨a, ob, rfl, rd, c⟩ := den_box wk r2 e rfl
  cases ob <;> first | exact c.elim | skip
  · rename_i vs
    obtain ⟨rfl, c⟩ := c
    obtain ⟨k, rfl, rfl⟩ := key_of rk hf
    exact ⟨a, valV vs k, rfl, .inl ⟨vs, k, rd.1, rfl, rfl⟩, getD_of (kd := kD) (fun p q z => z) eqv_key c⟩
  · rename_i vs
    obtain ⟨rfl, c⟩ := c
    obtain ⟨ks, b, rfl, rfl, hb⟩ := tkey_of wk rk hf
    exact ⟨a, valV vs ks, rfl, .inr ⟨vs, ks, b, rd.1, rfl, hb, rfl⟩, getD_of (kd := ktD) (fun p q z => z) eqv_tkey c⟩
section
variable {M : Mx} {w : Wd} {H : Hp} {v u : V} {x y d : D} {f : Bool} {Q : VK}
theorem o_add_ok (wk : WOk M w H) (r1 : Rep M w.F w.m v x) (r2 : Rep M w.F w.m u y) (e : o_add w.h x y = some (f, d)) (k : Fin M w H f d Q) : rO M.K M.w .add v u H Q := by
  unfold o_add at e
  split at e
  · rename_i i j h1 h2
    cases e
    exact .inl ⟨i, j, den_int wk r1 h1, den_int wk r2 h2, k.here wk (.int _)⟩
  · rename_i a b h1 h2
    split at e
    · rename_i hl
      cases e
      exact .inr (.inl ⟨ts a, ts b, den_str wk r1 h1, den_str wk r2 h2, by rw [ts_len, ts_len, ← lim_eq]; exact hl, by rw [ts_app]; exact k.here wk (.str _)⟩)
    · cases e
  · rename_i a b h1 h2
    split at e
    · rename_i hl
      cases e
      obtain ⟨p, vs, rfl, hp, rl⟩ := den_lst wk r1 h1
      obtain ⟨q, us, rfl, hq, rl2⟩ := den_lst wk r2 h2
      exact .inr (.inr (.inl ⟨p, q, vs, us, rfl, rfl, hp, hq, by rw [rl.1, rl2.1, ← lim_eq]; exact hl, fun l hl => k.box wk rfl hl (At.append rl rl2)⟩))
    · cases e
  · rename_i a b h1 h2
    split at e
    · rename_i hl
      cases e
      obtain ⟨p, vs, rfl, fp, hp, rl⟩ := den_tup wk r1 h1
      obtain ⟨q, us, rfl, fq, hq, rl2⟩ := den_tup wk r2 h2
      refine .inr (.inr (.inr ⟨p, q, vs, us, rfl, rfl, sqT_of wk.le fp, sqT_of wk.le fq, by rw [rl.1, rl2.1, ← lim_eq]; exact hl, fun e => ?_, fun _ e => ?_, fun _ _ l hl => k.tup wk hl (rl.append rl2)⟩))
      · have : a = [] := List.eq_nil_of_length_eq_zero (by rw [← rl.1, e]; rfl)
        subst this
        exact k.here wk (.tup fq rl2.1 rl2.2)
      · have : b = [] := List.eq_nil_of_length_eq_zero (by rw [← rl2.1, e]; rfl)
        subst this
        rw [List.append_nil] at k
        exact k.here wk (.tup fp rl.1 rl.2)
    · cases e
  · cases e
theorem inD_ok {neg : Bool} (wk : WOk M w H) (r1 : Rep M w.F w.m v x) (r2 : Rep M w.F w.m u y) {b : Bool} (e : inD x (deref w.h y) = some b) (k : Q (.bl (if neg then !b else b)) H) : rO M.K M.w (if neg then .nin else .isin) v u H Q := by
  unfold inD at e
  split at e
  · rename_i ys hy
    split at e
    · rename_i hd
      cases e
      rw [Bool.and_eq_true_iff] at hd
      have hd2 := hd.2
      have d1 := dp_of wk.le 6 x v hd.1 r1
      have d2 := den_dp wk r2 hd2
      rw [hy] at d2 hd2
      have sx := shaped_of (by decide) hd.1
      have sy := shaped_of (by decide) hd2
      have e2 : (ys.any fun z => eqv z x) = (toPyL ys).any fun z => PyData.eqv z (toPy x) := by
        rw [toPyL_map, List.any_map]
        have all := hd2
        simp only [depOk] at all
        have : ∀ zs : List D, zs.all (depOk 5) = true → (zs.any fun z => eqv z x) = zs.any ((fun z => PyData.eqv z (toPy x)) ∘ toPy) := by
          intro zs
          induction zs with
          | nil => intro _; rfl
          | cons z zs ih =>
            intro ha
            rw [List.all_cons, Bool.and_eq_true_iff] at ha
            rw [List.any_cons, List.any_cons, ih ha.2]
            have h5 : ∀ (n : Nat) (d : D), depOk n d = true → depOk (n + 1) d = true := by
              intro n
              induction n with
              | zero => intro d h; simp [depOk] at h
              | succ n ih =>
                intro d h
                cases d <;> first | (simp [depOk] at h; done) | rfl | exact h | skip
                all_goals
                  simp only [depOk] at h ⊢
                  exact List.all_eq_true.mpr fun d q => ih d (List.all_eq_true.mp h d q)
            rw [eqv_of 6 z x (h5 5 z ha.1) hd.1]; rfl
        exact this ys all
      rw [e2] at k
      cases neg with
      | false => exact .inl ⟨toPy x, toPyL ys, d1, d2, sx, sy, k⟩
      | true => exact .inl ⟨toPy x, toPyL ys, d1, d2, sx, sy, k⟩
    · cases e
  · rename_i ys hy
    split at e
    · rename_i hd
      cases e
      rw [Bool.and_eq_true_iff] at hd
      obtain ⟨p, vs, rfl, fp, hp, rl⟩ := den_tup wk r2 hy
      have ex := flt_rep r1 hd.1
      have ev := flt_reps rl hd.2
      subst ex ev
      rw [← inV_of hd.1 hd.2] at k
      cases neg with
      | false => exact .inr (.inr (.inr (.inl ⟨p, _, rfl, .inr (sqT_of wk.le fp), flt_flat hd.1, flat_all hd.2, k⟩)))
      | true => exact .inr (.inr (.inr (.inl ⟨p, _, rfl, .inr (sqT_of wk.le fp), flt_flat hd.1, flat_all hd.2, k⟩)))
    · cases e
  · rename_i ys hy
    split at e
    · rename_i hd
      cases e
      rw [Bool.and_eq_true_iff] at hd
      obtain ⟨p, vs, rfl, sq, rl⟩ := (den_flat wk r2 hy rfl (by simp)).ktup_inv
      have ex := flt_rep r1 hd.1
      have ev := flt_reps rl hd.2
      subst ex ev
      rw [← inV_of hd.1 hd.2] at k
      cases neg with
      | false => exact .inr (.inr (.inr (.inl ⟨p, _, rfl, .inr (SqT.k sq), flt_flat hd.1, flat_all hd.2, k⟩)))
      | true => exact .inr (.inr (.inr (.inl ⟨p, _, rfl, .inr (SqT.k sq), flt_flat hd.1, flat_all hd.2, k⟩)))
    · cases e
  · rename_i t kvs hy
    split at e
    · rename_i hf
      cases e
      obtain ⟨a, o, rfl, g, hm⟩ := dget_of wk r2 hy r1 hf
      have : o.isSome = (getD kvs x).isSome := by
        cases q : getD kvs x with
        | none => rw [q] at hm; rw [hm]; rfl
        | some d => rw [q] at hm; obtain ⟨v', rfl, _⟩ := hm; rfl
      rw [← this] at k
      cases neg with
      | false => exact .inr (.inr (.inr (.inr ⟨a, o, rfl, g, k⟩)))
      | true => exact .inr (.inr (.inr (.inr ⟨a, o, rfl, g, k⟩)))
    · cases e
  · rename_i kvs hy
    split at e
    · rename_i s
      cases e
      have r2' := den_flat wk r2 hy rfl (by simp)
      cases r2' with
      | kdct kd h =>
        obtain ⟨es, n, kd⟩ := kd
        obtain ⟨r, hr, hm⟩ := h s
        have : r.isSome = (kvs.lookup s).isSome := by
          cases q : kvs.lookup s with
          | none => rw [q] at hm; rw [hm]; rfl
          | some i =>
            rw [q] at hm
            obtain ⟨u, rfl, _⟩ := hm
            rfl
        rw [← this] at k
        cases neg with
        | false => exact .inr (.inr (.inl ⟨_, es, n, ts s, r, kd, r1.str_inv, rfl, hr, k⟩))
        | true => exact .inr (.inr (.inl ⟨_, es, n, ts s, r, kd, r1.str_inv, rfl, hr, k⟩))
    · cases e
  · rename_i ys hy
    split at e
    · rename_i c
      cases e
      have hu := den_str wk r2 hy
      have : (ys.any fun b => Nat.beq b c) = decide (c ∈ (ts ys).cps.toList) := by
        rw [ts_list]
        by_cases h : c ∈ ys
        · rw [decide_eq_true h]
          exact List.any_eq_true.mpr ⟨c, h, Nat.beq_refl c⟩
        · rw [decide_eq_false h]
          rw [List.any_eq_false]
          intro b hb q
          have := Nat.eq_of_beq_eq_true q
          subst this
          exact h hb
      rw [this] at k
      cases neg with
      | false => exact .inr (.inl ⟨c, ts ys, r1.str_inv, hu, k⟩)
      | true => exact .inr (.inl ⟨c, ts ys, r1.str_inv, hu, k⟩)
    · cases e
  · cases e
theorem o_ix_ok (wk : WOk M w H) (r1 : Rep M w.F w.m v x) (r2 : Rep M w.F w.m u y) (e : o_ix w.h x y = some (f, d)) (k : Fin M w H f d Q) : rO M.K M.w .ix v u H Q := by
  unfold o_ix at e
  split at e
  · rename_i xs i h1
    obtain ⟨p, vs, rfl, hp, rl⟩ := den_lst wk r1 h1
    cases q : (ixN xs.length i).bind fun j => xs[j]? with
    | none => rw [q] at e; cases e
    | some d' =>
      rw [q] at e; cases e
      obtain ⟨w', hw, rr⟩ := ix_rep rl q
      exact .inl (.inl ⟨p, vs, i, w', rfl, r2.int_inv, .inl (.inl hp), hw, k.here wk rr⟩)
  · rename_i xs i h1
    obtain ⟨p, vs, rfl, fp, hp, rl⟩ := den_tup wk r1 h1
    cases q : (ixN xs.length i).bind fun j => xs[j]? with
    | none => rw [q] at e; cases e
    | some d' =>
      rw [q] at e; cases e
      obtain ⟨w', hw, rr⟩ := ix_rep rl q
      exact .inl (.inr (.inl ⟨p, vs, i, w', rfl, r2.int_inv, sqT_of wk.le fp, hw, k.here wk rr⟩))
  · rename_i s i h1
    split at e
    · rename_i hl
      cases q : (ixN s.length i).bind fun j => s[j]? with
      | none => rw [q] at e; cases e
      | some c =>
        rw [q] at e; cases e
        exact .inl (.inr (.inr ⟨ts s, i, c, den_str wk r1 h1, r2.int_inv, by rw [ts_len, ← lim_eq]; exact hl, by rw [ts_list, atI_of]; exact q, k.here wk (.str [c])⟩))
    · cases e
  · rename_i y _ _ t kvs h1
    split at e
    · rename_i hf
      obtain ⟨a, o, rfl, g, hm⟩ := dget_of wk r1 h1 r2 hf
      cases q : getD kvs y with
      | none => rw [q] at e; cases e
      | some d' =>
        rw [q] at e hm; cases e
        obtain ⟨v', rfl, rr⟩ := hm
        exact .inr (.inr ⟨a, v', rfl, g, k.here wk rr⟩)
    · cases e
  · rename_i kvs s h1
    cases q : kvs.lookup s with
    | none => rw [q] at e; cases e
    | some i =>
      rw [q] at e; cases e
      have r1' := den_flat wk r1 h1 rfl (by simp)
      cases r1' with
      | kdct kd h =>
        obtain ⟨es, n, kd⟩ := kd
        obtain ⟨r, hr, hm⟩ := h s
        rw [q] at hm
        obtain ⟨u', rfl, ru⟩ := hm
        exact .inr (.inl ⟨_, ts s, .int i, rfl, r2.str_inv, ⟨es, n, u', kd.at_, kd.lit, hr, ru⟩, k.here wk (.int i)⟩)
  · cases e
theorem op2_ok {o : O2} (wk : WOk M w H) (r1 : Rep M w.F w.m v x) (r2 : Rep M w.F w.m u y) (e : op2 w.h o x y = some (f, d)) (k : Fin M w H f d Q) : rO M.K M.w o v u H Q := by
  cases o with
  | add => exact o_add_ok wk r1 r2 e k
  | ix => exact o_ix_ok wk r1 r2 e k
  | isin =>
    have e : (inD x (deref w.h y)).map (fun b => (false, D.bl b)) = some (f, d) := e
    cases q : inD x (deref w.h y) with
    | none => rw [q] at e; cases e
    | some b =>
      rw [q] at e; cases e
      exact inD_ok (neg := false) wk r1 r2 q (k.here wk (.bl b))
  | nin =>
    have e : (inD x (deref w.h y)).map (fun b => (false, D.bl !b)) = some (f, d) := e
    cases q : inD x (deref w.h y) with
    | none => rw [q] at e; cases e
    | some b =>
      rw [q] at e; cases e
      exact inD_ok (neg := true) wk r1 r2 q (k.here wk (.bl _))
  | eq =>
    have e : o_eq w.h x y = some (f, d) := e
    unfold o_eq at e
    split at e
    · rename_i hd
      cases e
      rw [Bool.and_eq_true_iff] at hd
      refine ⟨_, _, den_dp wk r1 hd.1, den_dp wk r2 hd.2, shaped_of (by decide) hd.1, shaped_of (by decide) hd.2, ?_⟩
      rw [← eqv_of 6 _ _ hd.1 hd.2]
      exact k.here wk (.bl _)
    · cases e
  | ne =>
    have e : o_ne w.h x y = some (f, d) := e
    unfold o_ne at e
    split at e
    · rename_i hd
      cases e
      rw [Bool.and_eq_true_iff] at hd
      refine ⟨_, _, den_dp wk r1 hd.1, den_dp wk r2 hd.2, shaped_of (by decide) hd.1, shaped_of (by decide) hd.2, ?_⟩
      rw [← eqv_of 6 _ _ hd.1 hd.2]
      exact k.here wk (.bl _)
    · cases e
  | isN =>
    have e : o_isN w.h x y = some (f, d) := e
    unfold o_isN at e
    split at e
    · rename_i hy
      cases e
      cases y <;> first | (cases hy; done) | skip
      refine ⟨r2.non_inv, ?_⟩
      have : decide (v = .non) = isNon x := by cases r1 <;> simp [isNon]
      rw [this]
      exact k.here wk (.bl _)
    · cases e
  | notN =>
    have e : o_notN w.h x y = some (f, d) := e
    unfold o_notN at e
    split at e
    · rename_i hy
      cases e
      cases y <;> first | (cases hy; done) | skip
      refine ⟨r2.non_inv, ?_⟩
      have : decide (v = .non) = isNon x := by cases r1 <;> simp [isNon]
      rw [this]
      exact k.here wk (.bl _)
    · cases e
  | lt =>
    have e : o_lt w.h x y = some (f, d) := e
    unfold o_lt at e
    split at e
    · cases e
      exact .inl ⟨_, _, r1.int_inv, r2.int_inv, k.here wk (.bl _)⟩
    · cases e
      rw [txLt_iff] at k
      refine .inr ⟨_, _, r1.str_inv, r2.str_inv, ?_⟩
      rw [ts_list, ts_list]
      exact k.here wk (.bl _)
    · cases e
  | mul =>
    have e : o_mul w.h x y = some (f, d) := e
    unfold o_mul at e
    split at e
    · split at e
      · rename_i hc
        cases e
        exact ⟨_, _, r1.int_inv, r2.int_inv, .inr ⟨by omega, by omega⟩, k.here wk (.int _)⟩
      · cases e
    · cases e
  | fdiv =>
    have e : o_fdiv w.h x y = some (f, d) := e
    unfold o_fdiv at e
    split at e
    · split at e
      · rename_i hc
        cases e
        exact ⟨_, _, r1.int_inv, r2.int_inv, hc, k.here wk (.int _)⟩
      · cases e
    · cases e
  | mod =>
    have e : o_mod w.h x y = some (f, d) := e
    unfold o_mod at e
    split at e
    · split at e
      · rename_i hc
        cases e
        exact ⟨_, _, r1.int_inv, r2.int_inv, hc, k.here wk (.int _)⟩
      · cases e
    · cases e
  | pow =>
    have e : o_pow w.h x y = some (f, d) := e
    unfold o_pow at e
    split at e
    · split at e
      · rename_i hc
        obtain ⟨rfl, rfl⟩ := hc
        cases e
        exact ⟨10, 18, r1.int_inv, r2.int_inv, ⟨by decide, by decide, by decide⟩, k.here wk (.int _)⟩
      · cases e
    · cases e
  | sub =>
    have e : o_sub w.h x y = some (f, d) := e
    unfold o_sub at e
    split at e
    · cases e
      exact ⟨_, _, r1.int_inv, r2.int_inv, k.here wk (.int _)⟩
    · cases e
  | le =>
    have e : o_le w.h x y = some (f, d) := e
    unfold o_le at e
    split at e
    · cases e
      exact ⟨_, _, r1.int_inv, r2.int_inv, k.here wk (.bl _)⟩
    · cases e
  | gt =>
    have e : o_gt w.h x y = some (f, d) := e
    unfold o_gt at e
    split at e
    · cases e
      exact ⟨_, _, r1.int_inv, r2.int_inv, k.here wk (.bl _)⟩
    · cases e
  | ge =>
    have e : o_ge w.h x y = some (f, d) := e
    unfold o_ge at e
    split at e
    · cases e
      exact ⟨_, _, r1.int_inv, r2.int_inv, k.here wk (.bl _)⟩
    · cases e
end
end Yl

set_option maxRecDepth 100000
set_option maxHeartbeats 4000000
/-! Y5: expressions. -/
namespace Yl
open PySem PySem.Spec PyProof.Rows L2
section
variable {X : Cx} {M : Mx} {N : List Str} {sc : Scope} {k : Nat} {W : WX} {G : Gx} {ρ : Env} {hc : Hc} {P : D → Hc → Prop} {PF : Bool → D → Hc → Prop} {B : Bool → Hc → Prop} {a b c e : Expr} {es : List Expr} {x m : Str} {pos p apos : Pos}
/-! ### operators -/
theorem fx_bin {op : Operator} {o : O2} (ho : opOf o = binaryOp op) (no : o ≠ .ix) (hb : Bx X M N sc k W) (h : EX X M G a ρ hc fun x h1 => EX X M G b ρ h1 fun y h2 => ∃ f d, op2 h2 o x y = some (f, d) ∧ PF f d h2) : FX X M G (.BinOp a op b pos) ρ hc PF :=
  .of (pe_op (by rw [← ho]; exact opr_of hb.room o no) pe_rd pe_rd) fun σ w H Q eh wk sk xc q => h σ w H _ eh wk sk xc fun x v w1 H1 hp e1 k1 r1 => hp σ w1 H1 _ rfl k1 (sk.ext e1) (xc.ext e1) fun y u w2 H2 hq e2 k2 r2 => by
    obtain ⟨f, d, he, hp⟩ := hq
    rw [hb.hK, hb.hw]
    exact op2_ok k2 (r1.mono e2.ff e2.mm) r2 he fun v' w3 H3 eh3 e3 k3 rr => q f d v' w3 H3 (by rw [eh3]; exact hp) ((e1.trans e2).trans e3) k3 (rr.back (e1.trans e2))
theorem fx_cmp {op : CmpOp} {o : O2} (ho : opOf o = compareOp op) (no : o ≠ .ix) (hb : Bx X M N sc k W) (hm : behindInMarks op b = false) (h : EX X M G a ρ hc fun x h1 => EX X M G b ρ h1 fun y h2 => ∃ f d, op2 h2 o x y = some (f, d) ∧ PF f d h2) : FX X M G (.Compare a [op] [b] pos) ρ hc PF :=
  .of (pe_cmpR (by rw [← ho]; exact opr_of hb.room o no) pe_rd pe_rd hm) fun σ w H Q eh wk sk xc q => h σ w H _ eh wk sk xc fun x v w1 H1 hp e1 k1 r1 => hp σ w1 H1 _ rfl k1 (sk.ext e1) (xc.ext e1) fun y u w2 H2 hq e2 k2 r2 => by
    obtain ⟨f, d, he, hp⟩ := hq
    rw [hb.hK, hb.hw]
    exact op2_ok k2 (r1.mono e2.ff e2.mm) r2 he fun v' w3 H3 eh3 e3 k3 rr => q f d v' w3 H3 (by rw [eh3]; exact hp) ((e1.trans e2).trans e3) k3 (rr.back (e1.trans e2))
theorem tx_cmp {op : CmpOp} {o : O2} (ho : opOf o = compareOp op) (no : o ≠ .ix) (hb : Bx X M N sc k W) (hm : behindInMarks op b = false) (h : EX X M G a ρ hc fun x h1 => EX X M G b ρ h1 fun y h2 => ∃ v, op2 h2 o x y = some (false, .bl v) ∧ B v h2) : TX X M G (.Compare a [op] [b] pos) ρ hc B :=
  .of (pt_cmpR (by rw [← ho]; exact opr_of hb.room o no) pe_rd pe_rd hm) fun σ w H Q eh wk sk xc q => h σ w H _ eh wk sk xc fun x v w1 H1 hp e1 k1 r1 => hp σ w1 H1 _ rfl k1 (sk.ext e1) (xc.ext e1) fun y u w2 H2 hq e2 k2 r2 => by
    obtain ⟨z, he, hp⟩ := hq
    rw [hb.hK, hb.hw]
    exact op2_ok k2 (r1.mono e2.ff e2.mm) r2 he fun v' w3 H3 eh3 e3 k3 rr => ⟨z, Rep.bl_inv rr, q z w3 H3 (by rw [eh3]; exact hp) ((e1.trans e2).trans e3) k3⟩
theorem fx_ix (hb : Bx X M N sc k W) (hs : PlainIx b) (h : EX X M G a ρ hc fun x h1 => EX X M G b ρ h1 fun y h2 => ∃ f d, op2 h2 .ix x y = some (f, d) ∧ PF f d h2) : FX X M G (.Subscript a b pos) ρ hc PF :=
  .of (pe_ix (ixr_of hb.room) pe_rd pe_rd hs) fun σ w H Q eh wk sk xc q => h σ w H _ eh wk sk xc fun x v w1 H1 hp e1 k1 r1 => hp σ w1 H1 _ rfl k1 (sk.ext e1) (xc.ext e1) fun y u w2 H2 hq e2 k2 r2 => by
    obtain ⟨f, d, he, hp⟩ := hq
    rw [hb.hK, hb.hw]
    exact op2_ok k2 (r1.mono e2.ff e2.mm) r2 he fun v' w3 H3 eh3 e3 k3 rr => q f d v' w3 H3 (by rw [eh3]; exact hp) ((e1.trans e2).trans e3) k3 (rr.back (e1.trans e2))
/-- a <= b <= c and its like -/
def chainP (h : Hc) (o : O2) (x y : D) (A : Prop) (Z : Prop) : Prop := ∃ v, op2 h o x y = some (false, .bl v) ∧ if v = true then A else Z
theorem ex_chain {op op' : CmpOp} {o o' : O2} (ho : opOf o = compareOp op) (no : o ≠ .ix) (ho' : opOf o' = compareOp op') (no' : o' ≠ .ix) (hb : Bx X M N sc k W)
    (hs : ∀ {r r' : R2}, OpR X (compareOp op) r → OpR X (compareOp op') r' → PE X (.Compare a [op, op'] [b, c] pos) (tChain r r' (rdE X a) (rdE X b) (rdE X c)))
    (h : EX X M G a ρ hc fun x h1 => EX X M G b ρ h1 fun y h2 => chainP h2 o x y (EX X M G c ρ h2 fun z h3 => ∃ d, op2 h3 o' y z = some (false, d) ∧ P d h3) (P (.bl false) h2)) : EX X M G (.Compare a [op, op'] [b, c] pos) ρ hc P :=
  .of (hs (by rw [← ho]; exact opr_of hb.room o no) (by rw [← ho']; exact opr_of hb.room o' no')) fun σ w H Q eh wk sk xc q => h σ w H _ eh wk sk xc fun x v w1 H1 hp e1 k1 r1 => hp σ w1 H1 _ rfl k1 (sk.ext e1) (xc.ext e1) fun y u w2 H2 hq e2 k2 r2 => by
    obtain ⟨z, he, hp⟩ := hq
    rw [hb.hK, hb.hw]
    have e12 := e1.trans e2
    refine op2_ok k2 (r1.mono e2.ff e2.mm) r2 he fun v' w3 H3 eh3 e3 k3 rr => ⟨z, Rep.bl_inv rr, ?_⟩
    cases z with
    | true =>
      rw [if_pos rfl] at hp ⊢
      have e13 := e12.trans e3
      refine hp σ w3 H3 _ eh3 k3 (sk.ext e13) (xc.ext e13) fun z t w4 H4 hr e4 k4 r4 => ?_
      obtain ⟨d, he', hp'⟩ := hr
      refine op2_ok k4 (r2.mono (fun a o z => e4.ff a o (e3.ff a o z)) fun i a z => e4.mm i a (e3.mm i a z)) r4 he' fun v5 w5 H5 eh5 e5 k5 rr5 => ?_
      exact q d v5 w5 H5 (by rw [eh5]; exact hp') ((e13.trans e4).trans e5) k5 rr5
    | false =>
      rw [if_neg Bool.false_ne_true] at hp ⊢
      exact q _ _ w3 H3 (by rw [eh3]; exact hp) (e12.trans e3) k3 (.bl false)
theorem tx_chain {op op' : CmpOp} {o o' : O2} (ho : opOf o = compareOp op) (no : o ≠ .ix) (ho' : opOf o' = compareOp op') (no' : o' ≠ .ix) (hb : Bx X M N sc k W)
    (hs : ∀ {r r' : R2}, OpR X (compareOp op) r → OpR X (compareOp op') r' → PT X (.Compare a [op, op'] [b, c] pos) (tTest (tChain r r' (rdE X a) (rdE X b) (rdE X c))))
    (h : EX X M G a ρ hc fun x h1 => EX X M G b ρ h1 fun y h2 => chainP h2 o x y (EX X M G c ρ h2 fun z h3 => ∃ d, op2 h3 o' y z = some (false, .bl d) ∧ B d h3) (B false h2)) : TX X M G (.Compare a [op, op'] [b, c] pos) ρ hc B :=
  .of (hs (by rw [← ho]; exact opr_of hb.room o no) (by rw [← ho']; exact opr_of hb.room o' no')) fun σ w H Q eh wk sk xc q => h σ w H _ eh wk sk xc fun x v w1 H1 hp e1 k1 r1 => hp σ w1 H1 _ rfl k1 (sk.ext e1) (xc.ext e1) fun y u w2 H2 hq e2 k2 r2 => by
    obtain ⟨z, he, hp⟩ := hq
    rw [hb.hK, hb.hw]
    have e12 := e1.trans e2
    refine op2_ok k2 (r1.mono e2.ff e2.mm) r2 he fun v' w3 H3 eh3 e3 k3 rr => ⟨z, Rep.bl_inv rr, ?_⟩
    cases z with
    | true =>
      rw [if_pos rfl] at hp ⊢
      have e13 := e12.trans e3
      refine hp σ w3 H3 _ eh3 k3 (sk.ext e13) (xc.ext e13) fun z t w4 H4 hr e4 k4 r4 => ?_
      obtain ⟨d, he', hp'⟩ := hr
      refine op2_ok k4 (r2.mono (fun a o z => e4.ff a o (e3.ff a o z)) fun i a z => e4.mm i a (e3.mm i a z)) r4 he' fun v5 w5 H5 eh5 e5 k5 rr5 => ?_
      exact ⟨d, Rep.bl_inv rr5, q d w5 H5 (by rw [eh5]; exact hp') ((e13.trans e4).trans e5) k5⟩
    | false =>
      rw [if_neg Bool.false_ne_true] at hp ⊢
      exact ⟨false, rfl, q _ w3 H3 (by rw [eh3]; exact hp) (e12.trans e3) k3⟩
/-! ### truth -/
theorem truV_of {w : Wd} {H : Hp} {v : V} {d : D} {t : Bool} (wk : WOk M w H) (r : Rep M w.F w.m v d) (h : tru w.h d = some t) : TruV M.K v H t := by
  unfold tru at h
  split at h
  · rename_i e; cases h
    rw [(den_flat wk r e rfl (by simp)).non_inv]; exact rfl
  · rename_i e; cases h
    rw [(den_flat wk r e rfl (by simp)).bl_inv]; exact rfl
  · rename_i e; cases h
    rw [den_int wk r e]; exact rfl
  · rename_i s e
    split at h
    · rename_i hl
      cases h
      rw [den_str wk r e]
      refine ⟨by rw [ts_len, ← lim_eq]; exact hl, ?_⟩
      rw [ts_len]
      cases s with
      | nil => rfl
      | cons a s => simp; omega
    · cases h
  · rename_i xs e; cases h
    obtain ⟨a, vs, rfl, ha, rl⟩ := den_lst wk r e
    refine .inl ⟨vs, .inl (.inl ha), ?_⟩
    have := rl.1
    cases xs <;> cases vs <;> simp_all
  · rename_i xs e; cases h
    obtain ⟨a, vs, rfl, fa, ha, rl⟩ := den_tup wk r e
    refine .inr (.inl ⟨vs, sqT_of wk.le fa, ?_⟩)
    have := rl.1
    cases xs <;> cases vs <;> simp_all
  · cases h
theorem tx_tru (he : ∀ whole, isTrue e X.env whole = (do let v ← whole; standAt e.pos; holding [v] (truthy v))) (hb : Bw X M N sc) (h : EX X M G e ρ hc fun d h' => ∃ t, tru h' d = some t ∧ B t h') : TX X M G e ρ hc B :=
  .of (pt_truth pe_rd he) fun σ w H Q eh wk sk xc q => h σ w H _ eh wk sk xc fun d v w1 H1 hp e1 k1 r1 => by
    obtain ⟨t, ht, hp⟩ := hp
    exact ⟨t, by rw [hb.hK]; exact truV_of k1 r1 ht, q t w1 H1 hp e1 k1⟩
theorem tx_not (h : TX X M G a ρ hc fun v h' => B (!v) h') : TX X M G (.UnaryOp .Not a pos) ρ hc B := .of (pt_not pt_rd) fun σ w H Q eh wk sk xc q => h σ w H _ eh wk sk xc fun v w1 H1 p e1 k1 => q _ w1 H1 p e1 k1
theorem wx_and1 (h : TX X M G a ρ hc B) : WXX X M G (.BoolOp .And [a] pos) ρ hc B := .of (pw_and1 pt_rd) h
theorem wx_or1 (h : TX X M G a ρ hc B) : WXX X M G (.BoolOp .Or [a] pos) ρ hc B := .of (pw_or1 pt_rd) h
theorem wx_and (h : TX X M G a ρ hc fun v h' => (v = true → WXX X M G (.BoolOp .And (b :: es) pos) ρ h' B) ∧ (v = false → B false h')) : WXX X M G (.BoolOp .And (a :: b :: es) pos) ρ hc B :=
  .of (pw_and pt_rd pw_rd) fun σ w H Q eh wk sk xc q => h σ w H _ eh wk sk xc fun v w1 H1 p e1 k1 => by
    cases v with
    | true =>
      rw [if_pos rfl]
      exact p.1 rfl σ w1 H1 _ rfl k1 (sk.ext e1) (xc.ext e1) fun v w2 H2 p2 e2 k2 => q _ w2 H2 p2 (e1.trans e2) k2
    | false =>
      rw [if_neg Bool.false_ne_true]
      exact q _ w1 H1 (p.2 rfl) e1 k1
theorem wx_or (h : TX X M G a ρ hc fun v h' => (v = false → WXX X M G (.BoolOp .Or (b :: es) pos) ρ h' B) ∧ (v = true → B true h')) : WXX X M G (.BoolOp .Or (a :: b :: es) pos) ρ hc B :=
  .of (pw_or pt_rd pw_rd) fun σ w H Q eh wk sk xc q => h σ w H _ eh wk sk xc fun v w1 H1 p e1 k1 => by
    cases v with
    | true =>
      rw [if_pos rfl]
      exact q _ w1 H1 (p.2 rfl) e1 k1
    | false =>
      rw [if_neg Bool.false_ne_true]
      exact p.1 rfl σ w1 H1 _ rfl k1 (sk.ext e1) (xc.ext e1) fun v w2 H2 p2 e2 k2 => q _ w2 H2 p2 (e1.trans e2) k2
theorem ex_one {op : BoolOp} (h : EX X M G a ρ hc P) : EX X M G (.BoolOp op [a] pos) ρ hc P := .of (pe_one pe_rd) h
theorem fx_ite (h : TX X M G c ρ hc fun v h' => (v = true → FX X M G a ρ h' PF) ∧ (v = false → FX X M G b ρ h' PF)) : FX X M G (.IfExp c a b pos) ρ hc PF :=
  .of (pe_ifExp pt_rd pe_rd pe_rd) fun σ w H Q eh wk sk xc q => h σ w H _ eh wk sk xc fun v w1 H1 p e1 k1 => by
    cases v with
    | true =>
      rw [if_pos rfl]
      exact p.1 rfl σ w1 H1 _ rfl k1 (sk.ext e1) (xc.ext e1) fun f d z w2 H2 p2 e2 k2 r2 => q f d z w2 H2 p2 (e1.trans e2) k2 (r2.back e1)
    | false =>
      rw [if_neg Bool.false_ne_true]
      exact p.2 rfl σ w1 H1 _ rfl k1 (sk.ext e1) (xc.ext e1) fun f d z w2 H2 p2 e2 k2 r2 => q f d z w2 H2 p2 (e1.trans e2) k2 (r2.back e1)
/-! ### arguments, displays -/
theorem ax_nil {T : List D → Hc → Prop} (h : T [] hc) : AX X M G [] ρ hc T := .of pa_nil fun σ w H Q eh wk sk xc q => q [] [] w H (by rw [eh]; exact h) Ext.refl wk .nil
theorem ax_cons {T : List D → Hc → Prop} (hs : starEach (e :: es) X.env = (false, eval e X.env) :: starEach es X.env) (h : EX X M G e ρ hc fun d h1 => AX X M G es ρ h1 fun ds h2 => T (d :: ds) h2) : AX X M G (e :: es) ρ hc T :=
  .of (pa_cons pe_rd pa_rd hs) fun σ w H Q eh wk sk xc q => h σ w H _ eh wk sk xc fun d v w1 H1 p e1 k1 r1 => p σ w1 H1 _ rfl k1 (sk.ext e1) (xc.ext e1) fun ds vs w2 H2 p2 e2 k2 r2 => q _ _ w2 H2 p2 (e1.trans e2) k2 (.cons (r1.mono e2.ff e2.mm) r2)
theorem fin_of {w w1 : Wd} {H H1 : Hp} {f : Bool} {d : D} {Q : VK} (e1 : Ext w H w1 H1) (p : PF f d w1.h) (q : ∀ f d v w2 H2, PF f d w2.h → Ext w H w2 H2 → WOk M w2 H2 → RR M w H w2 H2 v f d → Q v H2) : Fin M w1 H1 f d Q := fun v w2 H2 eh e2 k2 r => q f d v w2 H2 (by rw [eh]; exact p) (e1.trans e2) k2 (r.back e1)
theorem ex_tup {n : Nat} (h : AX X M G es ρ hc fun ds h' => P (.tup ds) h' ∧ ds.length ≤ sizeLine) : EX X M G (.Tuple es n pos) ρ hc P :=
  .of (pe_tup pa_rd) fun σ w H Q eh wk sk xc q => h σ w H _ eh wk sk xc fun ds vs w1 H1 p e1 k1 r1 => ⟨by rw [r1.1]; exact p.2, fun a ha => Fin.tup (fin_of (PF := fun f d h => f = false ∧ P d h) e1 ⟨rfl, p.1⟩ fun f d v w2 H2 p2 e2 k2 r2 => by
    obtain ⟨rfl, p2⟩ := p2
    exact q d v w2 H2 p2 e2 k2 r2) k1 ha r1⟩
theorem fx_lst (h : AX X M G es ρ hc fun ds h' => PF true (.lst ds) h' ∧ ds.length ≤ sizeLine) : FX X M G (.List es pos) ρ hc PF :=
  .of (pe_lst pa_rd) fun σ w H Q eh wk sk xc q => h σ w H _ eh wk sk xc fun ds vs w1 H1 p e1 k1 r1 => ⟨by rw [r1.1]; exact p.2, fun a ha => Fin.box (fin_of e1 p.1 q) k1 rfl ha r1⟩
/-! ### calls of built-ins -/
theorem fx_callB {id : String} {r : List V → Hp → VK → Prop} (hcr : CallR X (.builtin id) r) (hb : Bw X M N sc) (hm : M.mg x = none) (hv : bootBuiltins x = some (.builtin id)) (hg : sc.names.lookup x = some .globalImplicit) (hn : x ≠ "__name__") (hdb : (x == ("__debug__" : Str)) = false)
    (he : starEach (e :: es) X.env = (false, eval e X.env) :: starEach es X.env) (hpl : (backTo pos (starEach es X.env)).any (·.1) = false)
    (h : AX X M G (e :: es) ρ hc fun ds h' => ∃ f d, PF f d h' ∧ ∀ vs w H (Q : VK), w.h = h' → WOk M w H → RepL M w.F w.m vs ds → Fin M w H f d Q → r vs H Q) : FX X M G (.Call (.Name x p) (e :: es) [] pos) ρ hc PF :=
  .of (pe_callB hcr (hb.gl hg) (by rw [hb.hmg]; exact hm) hv pa_rd hn hdb he hpl) fun σ w H Q eh wk sk xc q => h σ w H _ eh wk sk xc fun ds vs w1 H1 pd e1 k1 r1 => by
    obtain ⟨f, d, pf, pr⟩ := pd
    exact pr vs w1 H1 Q rfl k1 r1 (fin_of e1 pf q)
theorem fx_callTy {id : String} {r : List V → Hp → VK → Prop} (hcr : CallR X (.type id) r) (hb : Bw X M N sc) (hm : M.mg x = none) (hv : bootBuiltins x = some (.type id)) (hg : sc.names.lookup x = some .globalImplicit) (hn : x ≠ "__name__") (hdb : (x == ("__debug__" : Str)) = false)
    (he : starEach (e :: es) X.env = (false, eval e X.env) :: starEach es X.env) (hpl : (backTo pos (starEach es X.env)).any (·.1) = false)
    (h : AX X M G (e :: es) ρ hc fun ds h' => ∃ f d, PF f d h' ∧ ∀ vs w H (Q : VK), w.h = h' → WOk M w H → RepL M w.F w.m vs ds → Fin M w H f d Q → r vs H Q) : FX X M G (.Call (.Name x p) (e :: es) [] pos) ρ hc PF :=
  .of (pe_callTy hcr (hb.gl hg) (by rw [hb.hmg]; exact hm) hv pa_rd hn hdb he hpl) fun σ w H Q eh wk sk xc q => h σ w H _ eh wk sk xc fun ds vs w1 H1 pd e1 k1 r1 => by
    obtain ⟨f, d, pf, pr⟩ := pd
    exact pr vs w1 H1 Q rfl k1 r1 (fin_of e1 pf q)
end
end Yl

set_option maxRecDepth 100000
set_option maxHeartbeats 4000000
/-! Y6: calls of defs, fields, slices, what is walked, comprehensions, methods, instances. -/
namespace Yl
open PySem PySem.Spec PyProof.Rows L2
/-! ### data that names no cell -/
theorem nrL_get {ds : List D} (h : nrL ds = true) {i : Nat} {d : D} (e : ds[i]? = some d) : d.nr = true := by
  induction ds generalizing i with
  | nil => simp at e
  | cons a ds ih =>
    simp only [nrL, Bool.and_eq_true_iff] at h
    cases i with
    | zero => simp at e; subst e; exact h.1
    | succ i => exact ih h.2 (by simpa using e)
theorem nrK_get {ds : List (D × D)} (h : nrK ds = true) {i : Nat} {d : D × D} (e : ds[i]? = some d) : d.2.nr = true := by
  induction ds generalizing i with
  | nil => simp at e
  | cons a ds ih =>
    obtain ⟨a1, a2⟩ := a
    simp only [nrK, nrP, Bool.and_eq_true_iff] at h
    cases i with
    | zero => simp at e; subst e; exact h.1.2
    | succ i => exact ih h.2 (by simpa using e)
theorem nrF_get {ds : List (Tx × D)} (h : nrF ds = true) {i : Nat} {d : Tx × D} (e : ds[i]? = some d) : d.2.nr = true := by
  induction ds generalizing i with
  | nil => simp at e
  | cons a ds ih =>
    obtain ⟨a1, a2⟩ := a
    simp only [nrF, nrQ, Bool.and_eq_true_iff] at h
    cases i with
    | zero => simp at e; subst e; exact h.1
    | succ i => exact ih h.2 (by simpa using e)
section
variable {M : Mx} {F : Hp} {m m' : List Addr}
theorem rep_nr {v : V} {d : D} (r : Rep M F m v d) (h : d.nr = true) : Rep M F m' v d := by
  induction r with
  | non => exact .non
  | bl b => exact .bl b
  | int i => exact .int i
  | str x => exact .str x
  | ty n => exact .ty n
  | cl c => exact .cl c
  | ref _ => cases h
  | kdct a b => exact .kdct a b
  | tup hf l _ ih => exact .tup hf l fun i v d a b => ih i v d a b (nrL_get (by simpa [D.nr] using h) b)
  | ktup hf l _ ih => exact .ktup hf l fun i v d a b => ih i v d a b (nrL_get (by simpa [D.nr] using h) b)
  | lst hf l _ ih => exact .lst hf l fun i v d a b => ih i v d a b (nrL_get (by simpa [D.nr] using h) b)
  | dk hf l k _ ih => exact .dk hf l k fun i v d a b => ih i v d a b (nrK_get (by simpa [D.nr] using h) b)
  | dt hf l k _ ih => exact .dt hf l k fun i v d a b => ih i v d a b (nrK_get (by simpa [D.nr] using h) b)
  | ins hf l k _ ih => exact .ins hf l k fun i v d a b => ih i v d a b (nrF_get (by simpa [D.nr] using h) b)
theorem repL_nr {vs : List V} {ds : List D} (r : RepL M F m vs ds) (h : nrL ds = true) : RepL M F m' vs ds := ⟨r.1, fun i v d a b => rep_nr (r.2 i v d a b) (nrL_get h b)⟩
theorem frs_nr {vs : List (Str × V)} {fs : List (Tx × D)} (r : At (FR M F m) vs fs) (h : nrF fs = true) : At (FR M F m') vs fs := ⟨r.1, fun i v d a b => ⟨(r.2 i v d a b).1, rep_nr (r.2 i v d a b).2 (nrF_get h b)⟩⟩
theorem cont_nr {d : D} {u : HO} (c : Cont M F m d u) (h : okCell d = true) : Cont M F m' d u := by
  cases d <;> cases u <;> first | exact c.elim | skip
  · exact c
  · exact repL_nr c (by simpa [okCell, D.nr] using h)
  · exact ⟨c.1, ⟨c.2.1, fun i v d a b => ⟨(c.2.2 i v d a b).1, rep_nr (c.2.2 i v d a b).2 (nrK_get (by simpa [okCell, D.nr] using h) b)⟩⟩⟩
  · exact ⟨c.1, ⟨c.2.1, fun i v d a b => ⟨(c.2.2 i v d a b).1, rep_nr (c.2.2 i v d a b).2 (nrK_get (by simpa [okCell, D.nr] using h) b)⟩⟩⟩
  · exact ⟨c.1, frs_nr c.2 (by simpa [okCell, D.nr] using h)⟩
end
/-! ### a world without cells, and back -/
section
variable {M : Mx} {w w2 : Wd} {H H2 : Hp}
abbrev Wd.bare (w : Wd) : Wd := ⟨w.F, [], []⟩
theorem wok_bare (k : WOk M w H) : WOk M w.bare H := ⟨k.le, rfl, fun i d h => by simp at h, fun i j a x => by obtain ⟨⟨d, h⟩, _⟩ := x; simp at h⟩
theorem bare_live {i : Nat} {a : Addr} : ¬ Live w.bare i a := fun ⟨⟨d, h⟩, _⟩ => by simp at h
theorem cell_notup {F : Hp} {m : List Addr} {d : D} {vs : List V} : ¬ Cont M F m d (.tup vs) := fun c => by cases d <;> exact c
theorem bare_back (k : WOk M w H) (k2 : WOk M w2 H2) (e : Ext w.bare H w2 H2) : Ext w H { w with F := w2.F } H2 ∧ WOk M { w with F := w2.F } H2 := by
  have nf : ∀ i a, Live w i a → w2.F a = none := fun i a l => by
    obtain ⟨⟨d, h⟩, ha⟩ := l
    obtain ⟨a', u, h1, h2, h3, h4⟩ := k.al i d h
    rw [ha] at h1; cases h1
    cases q : w2.F a with
    | none => rfl
    | some o =>
      rcases e.fr a o q with z | z | ⟨vs, z⟩ | ⟨j, z⟩
      · have z : w.F a = some o := z
        rw [h2] at z; cases z
      · rw [h3] at z; cases z
      · rw [h3] at z; cases z; exact absurd h4 cell_notup
      · exact absurd z bare_live
  refine ⟨⟨e.ff, fun _ _ h => h, fun a o h _ => e.hh a o h fun i => bare_live, e.nn, fun a o h => ?_, fun i a l => .inl ⟨i, l⟩⟩, k.keep (w' := { w with F := w2.F }) e.ff rfl rfl k2.le (fun i a o l h => (e.hh a o h fun i => bare_live).no (nf i a l)) nf⟩
  rcases e.fr a o h with z | z | z | ⟨j, z⟩
  · exact .inl z
  · exact .inr (.inl z)
  · exact .inr (.inr (.inl z))
  · exact absurd z bare_live
theorem rr_back {v : V} {f : Bool} {d : D} (k : WOk M w H) (k2 : WOk M w2 H2) (e : Ext w.bare H w2 H2) (h : d.nr = true) (r : RR M w.bare H w2 H2 v f d) : RR M w H { w with F := w2.F } H2 v f d := by
  cases f with
  | false => exact rep_nr r h
  | true =>
    obtain ⟨b, p, u, rfl, hp, fp, nl, h0, c⟩ := r
    have hn : H p = none := by
      rcases h0 with h0 | ⟨j, h0⟩
      · exact h0
      · exact absurd h0 bare_live
    refine ⟨b, p, u, rfl, hp, fp, fun i l => ?_, .inl hn, cont_nr c (by cases d <;> first | exact h | cases b)⟩
    obtain ⟨⟨d', h'⟩, ha⟩ := l
    obtain ⟨a', u', h1, h2, h3, h4⟩ := k.al i d' h'
    have ha : w.m[i]? = some p := ha
    rw [ha] at h1; cases h1
    rw [hn] at h3; cases h3
theorem pl_back {dd : Option Addr} {pl : Pl} (h : nrPl pl = true) (r : PlRep M w2 H2 dd pl) : PlRep M { w with F := w2.F } H2 dd pl := by
  cases pl with
  | none => exact r
  | some fs =>
    obtain ⟨dx, vs, e1, e2, e3⟩ := r
    exact ⟨dx, vs, e1, e2, frs_nr e3 h⟩
end
/-! ### defs by their contracts -/
structure FnC (M : Mx) (x : Str) (ps : List Str) (k : Nat) (C : Con) : Prop where
  ex : ∃ f fd, FnOk M.P M.w M.K M.mg M.base (L2.CX M.P M.w) k f fd ps (spC M C) ∧ M.mg x = some (.ref f) ∧ PySem.W.keepIn M.K (.ref f) = true ∧ Binds M.K fd ps []
section
variable {X : Cx} {M : Mx} {N : List Str} {sc : Scope} {k k' : Nat} {W : WX} {G : Gx} {ρ : Env} {hc : Hc} {P : D → Hc → Prop} {PF : Bool → D → Hc → Prop} {B : Bool → Hc → Prop} {a b c e : Expr} {es : List Expr} {x m : Str} {pos p apos : Pos} {ps : List Str} {C : Con}
theorem fx_call (F : FnC M x ps k' C) (hb : Bx X M N sc k G.W) (hk : k' ≤ k) (hg : sc.names.lookup x = some .globalImplicit) (hdb : (x == ("__debug__" : Str)) = false) (he : starEach (e :: es) X.env = (false, eval e X.env) :: starEach es X.env) (hpl : (backTo pos (starEach es X.env)).any (·.1) = false)
    (h : AX X M G (e :: es) ρ hc fun ds h' => nrL ds = true ∧ C ds [] (fun f d _ => d.nr = true ∧ PF f d h') fun c pl _ => nrPl pl = true ∧ G.PX c pl ρ h') : FX X M G (.Call (.Name x p) (e :: es) [] pos) ρ hc PF := by
  obtain ⟨f, fd, F1, F2, F3, F4⟩ := F.ex
  rw [← hb.hP, ← hb.hw, ← hb.hK, ← hb.hmg, ← hb.hbase] at F1
  rw [← hb.hmg] at F2
  rw [← hb.hK] at F3 F4
  refine .of (pe_callS F1 (hb.room.mono hk) (hb.gl hg) F2 F3 F4 (fun σ => passAt hb.tk σ) pa_rd hdb he hpl) fun σ w H Q eh wk sk xc q => ?_
  refine h σ w H _ eh wk sk xc fun ds vs w1 H1 pd e1 k1 r1 => ⟨w1.bare, ds, _, _, wok_bare k1, repL_nr r1 pd.1, pd.2, fun f d v w2 H2 hp e2 k2 r2 => ?_, fun c pl dd w2 H2 hp e2 k2 r2 => ?_⟩
  · obtain ⟨e3, k3⟩ := bare_back k1 k2 e2
    exact q f d v { w1 with F := w2.F } H2 hp.2 (e1.trans e3) k3 ((rr_back k1 k2 e2 hp.1 r2).back e1)
  · obtain ⟨e3, k3⟩ := bare_back k1 k2 e2
    exact xc c pl dd { w1 with F := w2.F } H2 hp.2 (e1.trans e3) k3 (pl_back hp.1 r2)
theorem fx_call0 (F : FnC M x ps k' C) (hb : Bx X M N sc k G.W) (hk : k' ≤ k) (hg : sc.names.lookup x = some .globalImplicit) (hdb : (x == ("__debug__" : Str)) = false)
    (h : C [] [] (fun f d _ => d.nr = true ∧ PF f d hc) fun _ _ _ => False) : FX X M G (.Call (.Name x p) [] [] pos) ρ hc PF := by
  obtain ⟨f, fd, F1, F2, F3, F4⟩ := F.ex
  rw [← hb.hP, ← hb.hw, ← hb.hK, ← hb.hmg, ← hb.hbase] at F1
  rw [← hb.hmg] at F2
  rw [← hb.hK] at F3 F4
  refine .of (pe_call0 F1 (hb.room.mono hk) (hb.gl hg) F2 F3 F4 .nil passL hdb) fun σ w H Q eh wk sk xc q => ?_
  refine ⟨w.bare, [], _, _, wok_bare wk, .nil, h, fun f d v w2 H2 hp e2 k2 r2 => ?_, fun _ _ _ _ _ z => z.elim⟩
  obtain ⟨e3, k3⟩ := bare_back wk k2 e2
  exact q f d v { w with F := w2.F } H2 (by show PF f d w.h; rw [eh]; exact hp.2) e3 k3 (rr_back wk k2 e2 hp.1 r2)
/-! ### fields -/
theorem lkF_of {M : Mx} {F : Hp} {m : List Addr} {n : Tx} {d : D} : ∀ {vs : List (Str × V)} {fs : List (Tx × D)}, At (FR M F m) vs fs → lkF fs n = some d → ∃ v, vs.lookup (ts n) = some v ∧ Rep M F m v d
  | vs, [], r, h => by cases h
  | vs, (g, d') :: fs, r, h => by
    obtain ⟨⟨g', v⟩, us, rfl, r1, r2⟩ := r.cons_inv
    obtain ⟨e1, r3⟩ := r1
    dsimp only at e1 r3
    subst e1
    unfold lkF at h
    rw [List.lookup_cons, txBeq_iff] at *
    by_cases q : g = n
    · subst q
      rw [decide_eq_true rfl, if_pos rfl] at h
      cases h
      rw [beq_self_eq_true]
      exact ⟨v, rfl, r3⟩
    · rw [decide_eq_false q, if_neg Bool.false_ne_true] at h
      have : (ts n == ts g) = false := by simpa using fun z => q (ts_inj z).symm
      rw [this]
      exact lkF_of r2 h
theorem fx_fld (hb : Bw X M N sc) (hbase : attributeBase e (ts m') X.env (eval e X.env) = eval e X.env) (h : EX X M G e ρ hc fun d h' => ∃ C fs v, deref h' d = .ins C fs ∧ Cls M.K (M.ca C) ∧ NoAttr M.K (M.ca C) (ts m') ∧ lkF fs m' = some v ∧ P v h') : EX X M G (.Attribute e (ts m') pos) ρ hc P :=
  .of (pe_fld pe_rd hbase) fun σ w H Q eh wk sk xc q => h σ w H _ eh wk sk xc fun d z w1 H1 p e1 k1 r1 => by
    obtain ⟨C, fs, v, hd, c, n, hl, p⟩ := p
    obtain ⟨a, u, rfl, ha, ct⟩ := den_box k1 r1 hd rfl
    cases u <;> first | exact ct.elim | skip
    rename_i C' dx vs
    obtain ⟨rfl, ct⟩ := ct
    obtain ⟨v', hv, rv⟩ := lkF_of ct hl
    exact ⟨a, _, dx, vs, v', rfl, ha.2 rfl, by rw [hb.hK]; exact c, by rw [hb.hK]; exact n, hv, q v v' w1 H1 p e1 k1 rv⟩
end
end Yl

set_option maxRecDepth 100000
set_option maxHeartbeats 4000000
/-! Y7: slices, what is walked, comprehensions, methods, instances. -/
namespace Yl
open PySem PySem.Spec PyProof.Rows L2
section
variable {X : Cx} {M : Mx} {N : List Str} {sc : Scope} {k k' : Nat} {W : WX} {G : Gx} {ρ : Env} {hc : Hc} {P : D → Hc → Prop} {PF : Bool → D → Hc → Prop} {B : Bool → Hc → Prop} {a b c e : Expr} {es : List Expr} {x m : Str} {pos p apos : Pos} {ps : List Str} {C : Con}
/-! ### slices -/
def tO (X : Cx) : Option Expr → TO
  | none => tNoPart
  | some e => tPart (rdE X e)
theorem po_rd {oe : Option Expr} : PO X oe (tO X oe) := by
  cases oe with
  | none => exact po_none
  | some e => exact po_some pe_rd
def OX (X : Cx) (M : Mx) (G : Gx) (oe : Option Expr) (ρ : Env) (h : Hc) (P : Option Int → Hc → Prop) : Prop := ∀ σ w H (Q : Option Int → Hp → Prop), w.h = h → WOk M w H → SOk M w σ ρ → XC M G w H σ ρ → (∀ i w1 H1, P i w1.h → Ext w H w1 H1 → WOk M w1 H1 → Q i H1) → tO X oe σ H Q
theorem ox_none {P : Option Int → Hc → Prop} (h : P none hc) : OX X M G none ρ hc P := fun σ w H Q eh wk sk xc q => q none w H (by rw [eh]; exact h) Ext.refl wk
theorem ox_some {P : Option Int → Hc → Prop} (h : EX X M G e ρ hc fun d h' => ∃ i, d = .int i ∧ P (some i) h') : OX X M G (some e) ρ hc P := fun σ w H Q eh wk sk xc q => h σ w H _ eh wk sk xc fun d v w1 H1 p e1 k1 r1 => by
  obtain ⟨i, rfl, p⟩ := p
  exact ⟨i, r1.int_inv, q _ w1 H1 p e1 k1⟩
theorem slr_or {r r' : V → Option Int → Option Int → Hp → VK → Prop} (h : SlR X r) (h' : SlR X r') : SlR X (fun x lo hi H Q => r x lo hi H Q ∨ r' x lo hi H Q) := h.or h'
theorem cut_cut {n d : Nat} {o : Option Int} : cutN n d o = HT.sIx n d o := by
  cases o <;> rfl
theorem cutV_of {F : Hp} {m : List Addr} {vs : List V} {ds : List D} {lo hi : Option Int} (r : RepL M F m vs ds) : RepL M F m (cutV vs lo hi) (cutT ds lo hi) := by
  unfold cutV cutT
  rw [r.1, cut_cut, cut_cut]
  exact (r.drop _).take _
theorem cutS_of {s : Tx} {lo hi : Option Int} : cutS (ts s) lo hi = ts (cutT s lo hi) := by
  unfold cutS cutT
  rw [cut_cut, cut_cut, ts_list, ts_len]; rfl
def rCut (K : PySem.W.Frag) : V → Option Int → Option Int → Hp → VK → Prop := fun x lo hi H Q => rSlS x lo hi H Q ∨ rSlL K x lo hi H Q ∨ rSlA K x lo hi H Q
theorem fx_slice {lo hi : Option Expr} {p2 : Pos} (hb : Bw X M N sc) (h : EX X M G e ρ hc fun x h1 => OX X M G lo ρ h1 fun l h2 => OX X M G hi ρ h2 fun u h3 => ∃ f d, cutD (deref h3 x) l u = some (f, d) ∧ PF f d h3) : FX X M G (.Subscript e (.Slice lo hi none p2) pos) ρ hc PF :=
  .of (pe_slice (r := rCut X.K) (slr_or sl_str (slr_or sl_list sl_tupA)) pe_rd po_rd po_rd) fun σ w H Q eh wk sk xc q => h σ w H _ eh wk sk xc fun x v w1 H1 p1 e1 k1 r1 => p1 σ w1 H1 _ rfl k1 (sk.ext e1) (xc.ext e1) fun l w2 H2 p2 e2 k2 => p2 σ w2 H2 _ rfl k2 (sk.ext (e1.trans e2)) (xc.ext (e1.trans e2)) fun u w3 H3 p3 e3 k3 => by
    obtain ⟨f, d, he, hp⟩ := p3
    have r3 := r1.mono (fun a o z => e3.ff a o (e2.ff a o z)) fun i a z => e3.mm i a (e2.mm i a z)
    have fin := fin_of ((e1.trans e2).trans e3) hp q
    rw [hb.hK]
    unfold cutD at he
    split at he
    · rename_i s hd
      split at he
      · rename_i hl
        cases he
        exact .inl ⟨ts s, den_str k3 r3 hd, by rw [ts_len, ← lim_eq]; exact hl, by rw [cutS_of]; exact fin.here k3 (.str _)⟩
      · cases he
    · rename_i xs hd
      cases he
      obtain ⟨a, vs, rfl, ha, rl⟩ := den_lst k3 r3 hd
      exact .inr (.inl ⟨a, vs, rfl, .inl (.inl ha), fun p hp => fin.box k3 rfl hp (cutV_of rl)⟩)
    · rename_i xs hd
      cases he
      obtain ⟨a, vs, rfl, fa, ha, rl⟩ := den_tup k3 r3 hd
      refine .inr (.inr ⟨a, vs, rfl, sqT_of k3.le fa, fun h => ?_, fun _ p hp => fin.tup k3 hp (cutV_of rl)⟩)
      have ec : cutT xs l u = xs := by
        unfold cutT
        rw [cut_cut, cut_cut, ← rl.1, h.1, h.2, List.drop_zero, Nat.sub_zero, rl.1, List.take_length]
      rw [ec] at fin
      exact fin.here k3 (.tup fa rl.1 rl.2)
    · cases he
/-! ### what is walked -/
theorem it_lst {w : Wd} {H1 : Hp} {a : Addr} {vs : List V} {ds : List D} (h : w.F a = some (.lst vs)) (r : RepL M w.F w.m vs ds) : ItOk M (Itl M.K a) w H1 ds where
  go := fun i w' H ee kk hi => ⟨vs, vs[i]'(by rw [r.1]; exact hi), sqL_of kk.le (ee.ff _ _ h), by simp⟩
  stop := fun w' H ee kk => ⟨vs, sqL_of kk.le (ee.ff _ _ h), Nat.le_of_eq r.1⟩
  yld := fun i w1 H x H' d ee k y hd => by
    obtain ⟨e, y⟩ := y
    subst e
    obtain ⟨z, hz, rz⟩ := r.get hd
    have := y vs (sqL_of k.le (ee.ff _ _ h))
    rw [hz] at this
    cases this
    exact ⟨w1, rfl, Ext.refl, k, rz.mono ee.ff ee.mm⟩
theorem it_tup {w : Wd} {H1 : Hp} {a : Addr} {vs : List V} {ds : List D} (h : ∀ F H, Sub w.F F → Le F H → SqT M.K H a vs) (r : RepL M w.F w.m vs ds) : ItOk M (Itt M.K a) w H1 ds where
  go := fun i w' H ee kk hi => ⟨vs, vs[i]'(by rw [r.1]; exact hi), h _ H ee.ff kk.le, by simp⟩
  stop := fun w' H ee kk => ⟨vs, h _ H ee.ff kk.le, Nat.le_of_eq r.1⟩
  yld := fun i w1 H x H' d ee k y hd => by
    obtain ⟨e, y⟩ := y
    subst e
    obtain ⟨z, hz, rz⟩ := r.get hd
    have := y vs (h _ _ ee.ff k.le)
    rw [hz] at this
    cases this
    exact ⟨w1, rfl, Ext.refl, k, rz.mono ee.ff ee.mm⟩
theorem it_str {w : Wd} {H1 : Hp} {z : Tx} : ItOk M (Its (ts z)) w H1 (signs z) where
  go := fun i w' H ee kk hi => by show i < (ts z).cps.size; simpa [signs, ts] using hi
  stop := fun w' H ee kk => Nat.le_of_eq (by simp [signs, ts])
  yld := fun i w1 H x H' d ee k y hd => by
    obtain ⟨rfl, c, hc, rfl⟩ := y
    refine ⟨w1, rfl, Ext.refl, k, ?_⟩
    unfold signs at hd
    rw [List.getElem?_map] at hd
    have : z[i]? = some c := by rw [← Array.getElem?_toList, ts_list] at hc; exact hc
    rw [this] at hd
    cases hd
    exact .str [c]
theorem rangeU_len : ∀ (n : Nat) (lo : Int), (rangeU lo n).length = n
  | 0, _ => rfl
  | n + 1, lo => by simp [rangeU, rangeU_len n]
theorem rangeU_get : ∀ (n : Nat) (lo : Int) (i : Nat), i < n → (rangeU lo n)[i]? = some (.int (lo + i))
  | 0, _, _, h => by omega
  | n + 1, lo, 0, _ => by simp [rangeU]
  | n + 1, lo, i + 1, h => by
    rw [rangeU, List.getElem?_cons_succ, rangeU_get n (lo + 1) i (by omega)]
    congr 2
    omega
theorem it_rng {w : Wd} {H1 : Hp} {lo : Int} {n : Nat} : ItOk M (Itr lo n) w H1 (rangeU lo n) where
  go := fun i w' H ee kk hi => by show i < n; rw [rangeU_len] at hi; exact hi
  stop := fun w' H ee kk => by rw [rangeU_len]; exact Nat.le_refl _
  yld := fun i w1 H x H' d ee k y hd => by
    obtain ⟨rfl, rfl⟩ := y
    have hi : i < n := by
      have := (List.getElem?_eq_some_iff.mp hd).1
      rw [rangeU_len] at this; exact this
    rw [rangeU_get n lo i hi] at hd
    cases hd
    exact ⟨w1, rfl, Ext.refl, k, .int _⟩
theorem ext_lock {w : Wd} {H : Hp} {d : Addr} {u : HO} {od : Obj} (k : WOk M w H) (hf : w.F d = some u) (lu : lk u = true) (hd : H d = some u) : Ext w H w (upd H d (.frz od u)) ∧ WOk M w (upd H d (.frz od u)) := by
  have nl : ∀ i, ¬ Live w i d := fun i l => by
    obtain ⟨_, _, z⟩ := live_some k l
    rw [hf] at z; cases z
  refine ⟨⟨fun _ _ h => h, fun _ _ h => h, fun a o h _ => ?_, fun a h => ?_, fun _ _ h => .inl h, fun i _ h => .inl ⟨i, h⟩⟩, ?_⟩
  · by_cases q : a = d
    · subst q
      rw [hd] at h; cases h
      exact .inr ⟨lu, hf, od, upd_same⟩
    · left; rw [upd_ne q]; exact h
  · by_cases q : a = d
    · subst q; rw [upd_same] at h; cases h
    · rw [upd_ne q] at h; exact h
  · refine k.keep (fun _ _ h => h) rfl rfl (fun a o h => ?_) (fun i a o l h => by rw [upd_ne (fun q => nl i (by rw [← q]; exact l))]; exact h) fun i a l => (live_some k l).choose_spec.2
    by_cases q : a = d
    · subst q
      rw [hf] at h; cases h
      exact ⟨.inr ⟨od, upd_same⟩, fun z => by rw [lu] at z; cases z⟩
    · have := k.le a o h
      exact ⟨this.1.imp (fun z => by rw [upd_ne q]; exact z) (fun ⟨ob, z⟩ => ⟨ob, by rw [upd_ne q]; exact z⟩), fun z => by rw [upd_ne q]; exact this.2 z⟩
theorem frz_kept {w w' : Wd} {H H' : Hp} {d : Addr} {u : HO} {od : Obj} (k : WOk M w H) (hf : w.F d = some u) (hd : H d = some (.frz od u)) (e : Ltr w H w' H') : H' d = some (.frz od u) := by
  rcases e.hf d _ _ hf hd with z | ⟨z, _⟩
  · exact z
  · cases z
/-- behind an expression a thing may be locked -/
def tAndLock (te : TE) : TE := fun σ H Q => te σ H fun x H1 => Q x H1 ∨ ∃ d u, H1 d = some u ∧ Mut (some u) ∧ ∀ od, Q x (upd H1 d (.frz od u))
theorem pe_andLock {e : Expr} {te : TE} (he : PE X e te) : PE X e (tAndLock te) := ⟨fun pins s σ H Q I h => thn (he.run pins s σ H _ I h) fun v s1 q => by
  obtain ⟨x, H1, I1, rx, q⟩ := q
  rcases q with q | ⟨d, u, hd, mu, q⟩
  · exact ⟨x, H1, I1, rx, q⟩
  · obtain ⟨od, I2⟩ := I1.lock hd mu
    exact ⟨x, _, I2, rx, q od⟩⟩
variable {tg : Expr} {L : List D → Hc → Prop}
theorem ix_lst (hb : Bw X M N sc) (h : EX X M G e ρ hc fun d h' => ∃ ds, d = .lst ds ∧ L ds h') : IX X M G tg e ρ hc L := ⟨_, pi_list pe_rd, fun σ w H R eh wk sk xc q => h σ w H _ eh wk sk xc fun d v w1 H1 p e1 k1 r1 => by
  obtain ⟨ds, rfl, p⟩ := p
  obtain ⟨a, u, rfl, fa, c⟩ := rep_unbox rfl r1
  cases u <;> first | exact c.elim | skip
  rw [hb.hK]
  exact ⟨a, rfl, ⟨_, sqL_of k1.le fa⟩, q ds _ w1 H1 p e1 k1 (it_lst fa c)⟩⟩
theorem ix_tup (hb : Bw X M N sc) (h : EX X M G e ρ hc fun d h' => ∃ ds, (d = .tup ds ∨ d = .ktup ds) ∧ L ds h') : IX X M G tg e ρ hc L := ⟨_, pi_tup pe_rd, fun σ w H R eh wk sk xc q => h σ w H _ eh wk sk xc fun d v w1 H1 p e1 k1 r1 => by
  rw [hb.hK]
  obtain ⟨ds, rfl | rfl, p⟩ := p
  · obtain ⟨a, vs, rfl, ha, rl⟩ := r1.tup_inv
    exact ⟨a, rfl, ⟨vs, sqT_of k1.le ha⟩, q ds _ w1 H1 p e1 k1 (it_tup (fun F H s le => sqT_of le (s _ _ ha)) rl)⟩
  · obtain ⟨a, vs, rfl, ha, rl⟩ := r1.ktup_inv
    exact ⟨a, rfl, ⟨vs, SqT.k ha⟩, q ds _ w1 H1 p e1 k1 (it_tup (fun F H s le => SqT.k ha) rl)⟩⟩
theorem ix_str (h : EX X M G e ρ hc fun d h' => ∃ z, d = .str z ∧ L (signs z) h') : IX X M G tg e ρ hc L := ⟨_, pi_str pe_rd, fun σ w H R eh wk sk xc q => h σ w H _ eh wk sk xc fun d v w1 H1 p e1 k1 r1 => by
  obtain ⟨z, rfl, p⟩ := p
  exact ⟨ts z, r1.str_inv, q _ _ w1 H1 p e1 k1 it_str⟩⟩
theorem ix_range1 (hb : Bw X M N sc) (hm : M.mg "range" = none) (hg : sc.names.lookup ("range" : Str) = some .globalImplicit) (hs : starEach [a] X.env = [(false, eval a X.env)]) (h : AX X M G [a] ρ hc fun ds h' => ∃ j : Int, ds = [.int j] ∧ small j = true ∧ L (rangeU 0 j.toNat) h') : IX X M G tg (.Call (.Name "range" p) [a] [] pos) ρ hc L :=
  ⟨_, pi_range1 (hb.gl hg) (by rw [hb.hmg]; exact hm) pa_rd hs, fun σ w H R eh wk sk xc q => h σ w H _ eh wk sk xc fun ds vs w1 H1 pd e1 k1 r1 => by
    obtain ⟨j, rfl, hj, pd⟩ := pd
    obtain ⟨v, vs', rfl, r2, r3⟩ := r1.cons_inv
    obtain rfl := r3.nil_inv
    simp only [small, Bool.and_eq_true_iff, decide_eq_true_eq] at hj
    exact ⟨j, by rw [r2.int_inv], by omega, by omega, q _ _ w1 H1 pd e1 k1 it_rng⟩⟩
theorem ix_range2 (hb : Bw X M N sc) (hm : M.mg "range" = none) (hg : sc.names.lookup ("range" : Str) = some .globalImplicit) (hs : starEach [a, b] X.env = [(false, eval a X.env), (false, eval b X.env)]) (hs2 : starEach [b] X.env = [(false, eval b X.env)])
    (h : AX X M G [a, b] ρ hc fun ds h' => ∃ i j : Int, ds = [.int i, .int j] ∧ small i = true ∧ small j = true ∧ L (rangeU i (j - i).toNat) h') : IX X M G tg (.Call (.Name "range" p) [a, b] [] pos) ρ hc L :=
  ⟨_, pi_range2 (hb.gl hg) (by rw [hb.hmg]; exact hm) pa_rd hs hs2, fun σ w H R eh wk sk xc q => h σ w H _ eh wk sk xc fun ds vs w1 H1 pd e1 k1 r1 => by
    obtain ⟨i, j, rfl, hi, hj, pd⟩ := pd
    obtain ⟨v, vs', rfl, r2, r3⟩ := r1.cons_inv
    obtain ⟨v', vs'', rfl, r4, r5⟩ := r3.cons_inv
    obtain rfl := r5.nil_inv
    simp only [small, Bool.and_eq_true_iff, decide_eq_true_eq] at hi hj
    exact ⟨i, j, by rw [r2.int_inv, r4.int_inv], ⟨by omega, by omega, by omega, by omega⟩, q _ _ w1 H1 pd e1 k1 it_rng⟩⟩
theorem zipD_get : ∀ (x y : Tx) (i : Nat) (d : D), (zipD (signs x) (signs y))[i]? = some d → ∃ c e, x[i]? = some c ∧ y[i]? = some e ∧ d = .tup [.str [c], .str [e]]
  | [], _, _, _, h => by simp [signs, zipD] at h
  | a :: x, [], _, _, h => by simp [signs, zipD] at h
  | a :: x, b :: y, 0, d, h => by
    simp [signs, zipD] at h
    exact ⟨a, b, rfl, rfl, h.symm⟩
  | a :: x, b :: y, i + 1, d, h => by
    have h : (zipD (signs x) (signs y))[i]? = some d := h
    obtain ⟨c, e, h1, h2, h3⟩ := zipD_get x y i d h
    exact ⟨c, e, h1, h2, h3⟩
theorem zipD_len : ∀ (x y : Tx), (zipD (signs x) (signs y)).length = min x.length y.length
  | [], y => by simp [signs, zipD]
  | a :: x, [] => by simp [signs, zipD]
  | a :: x, b :: y => by
    show (zipD (signs x) (signs y)).length + 1 = _
    rw [zipD_len x y]
    simp only [List.length_cons]
    omega
theorem it_zip {w : Wd} {H1 : Hp} {x y : Tx} : ItOk M (Itzs (ts x) (ts y)) w H1 (zipD (signs x) (signs y)) where
  go := fun i w' H ee kk hi => by
    rw [zipD_len] at hi
    have h1 : (ts x).cps.size = x.length := by simp [ts]
    have h2 : (ts y).cps.size = y.length := by simp [ts]
    exact ⟨by omega, by omega⟩
  stop := fun w' H ee kk => by
    have h1 : (ts x).cps.size = x.length := by simp [ts]
    have h2 : (ts y).cps.size = y.length := by simp [ts]
    rw [zipD_len]
    refine ⟨by omega, by omega, by omega⟩
  yld := fun i w1 H z H' d ee k yy hd => by
    obtain ⟨T, c, e, rfl, hT, rfl, h1, h2⟩ := yy
    obtain ⟨c', e', h3, h4, rfl⟩ := zipD_get x y i d hd
    have h1 : x[i]? = some c := by rw [← Array.getElem?_toList, ts_list] at h1; exact h1
    have h2 : y[i]? = some e := by rw [← Array.getElem?_toList, ts_list] at h2; exact h2
    rw [h1] at h3; rw [h2] at h4; cases h3; cases h4
    obtain ⟨e1, k1⟩ := ext_lay (o := .tup [.str ⟨#[c]⟩, .str ⟨#[e]⟩]) k hT
    have fp := le_none k.le hT
    have nl : ∀ i, ¬ Live w1 i T := fun i l => by
      obtain ⟨u, h, _⟩ := live_some k l
      rw [hT] at h; cases h
    obtain ⟨e2, k2⟩ := ext_fz k1 upd_same fp nl (.inl hT) e1
    have rl : RepL M (upd w1.F T (.tup [.str ⟨#[c]⟩, .str ⟨#[e]⟩])) w1.m [.str ⟨#[c]⟩, .str ⟨#[e]⟩] [.str [c], .str [e]] := .cons (.str [c]) (.cons (.str [e]) .nil)
    exact ⟨w1.fz T _, rfl, e2, k2, .tup upd_same rl.1 rl.2⟩
theorem ix_zip {elts : List Expr} {kk : Nat} {tpos : Pos} (hb : Bw X M N sc) (hm : M.mg "zip" = none) (hg : sc.names.lookup ("zip" : Str) = some .globalImplicit) (hs : starEach [a, b] X.env = (false, eval a X.env) :: starEach [b] X.env) (hpl : (backTo pos (starEach [b] X.env)).any (·.1) = false)
    (h : AX X M G [a, b] ρ hc fun ds h' => ∃ x y, ds = [.str x, .str y] ∧ L (zipD (signs x) (signs y)) h') : IX X M G (.Tuple elts kk tpos) (.Call (.Name "zip" p) [a, b] [] pos) ρ hc L :=
  ⟨_, pi_zips (hb.gl hg) (by rw [hb.hmg]; exact hm) pa_rd hs hpl, fun σ w H R eh wk sk xc q => h σ w H _ eh wk sk xc fun ds vs w1 H1 pd e1 k1 r1 => by
    obtain ⟨x, y, rfl, pd⟩ := pd
    obtain ⟨v, vs', rfl, r2, r3⟩ := r1.cons_inv
    obtain ⟨v', vs'', rfl, r4, r5⟩ := r3.cons_inv
    obtain rfl := r5.nil_inv
    exact ⟨ts x, ts y, by rw [r2.str_inv, r4.str_inv], q _ _ w1 H1 pd e1 k1 it_zip⟩⟩
end
end Yl

set_option maxRecDepth 100000
set_option maxHeartbeats 4000000
/-! Y8: comprehensions. -/
namespace Yl
open PySem PySem.Spec PyProof.Rows L2
section
variable {M : Mx} {w w1 : Wd} {H H1 : Hp} {σ : St} {ρ : Env}
/-- a thing that only the walk knows is written -/
theorem wok_grow (k : WOk M w H) {p : Addr} {o : HO} (fp : w.F p = none) (nl : ∀ i, ¬ Live w i p) : WOk M w (upd H p o) :=
  k.keep (fun _ _ h => h) rfl rfl (fun a u h => (k.le a u h).upd (ne_of_none h fp)) (fun i a u l h => by rw [upd_ne (fun q => nl i (by rw [← q]; exact l))]; exact h) fun i a l => (live_some k l).choose_spec.2
theorem ext_grow (e : Ext w1 H1 w H) {p : Addr} {o : HO} (hp : H1 p = none) : Ext w1 H1 w (upd H p o) :=
  ⟨e.ff, e.mm, fun a u h n => (e.hh a u h n).upd (ne_of_none h hp), fun a h => by
    by_cases q : a = p
    · rw [q]; exact hp
    · rw [upd_ne q] at h; exact e.nn a h, e.fr, e.cl⟩
/-- what only the walk knows stays so -/
structure Mine (w : Wd) (H : Hp) (p : Addr) (o : HO) : Prop where
  at_ : H p = some o
  fp : w.F p = none
  nl : ∀ i, ¬ Live w i p
theorem Mine.ext {p : Addr} {o : HO} (m : Mine w H p o) (nt : ∀ vs, o ≠ .tup vs) (e : Ext w H w1 H1) : Mine w1 H1 p o where
  at_ := by
    rcases e.hh p o m.at_ m.nl with z | ⟨_, z, _⟩
    · exact z
    · rcases e.fr p o z with z | z | ⟨vs, z⟩ | ⟨i, z⟩
      · rw [m.fp] at z; cases z
      · rw [m.at_] at z; cases z
      · rw [m.at_] at z; cases z; exact absurd rfl (nt vs)
      · exact absurd z (m.nl i)
  fp := by
    cases q : w1.F p with
    | none => rfl
    | some u =>
      rcases e.fr p u q with z | z | ⟨vs, z⟩ | ⟨i, z⟩
      · rw [m.fp] at z; cases z
      · rw [m.at_] at z; cases z
      · rw [m.at_] at z; cases z; exact absurd rfl (nt vs)
      · exact absurd z (m.nl i)
  nl := fun i l => by
    rcases e.cl i p l with ⟨j, z⟩ | z
    · exact m.nl j z
    · rw [m.at_] at z; cases z
theorem Mine.new {p : Addr} {o : HO} (k : WOk M w H) (hp : H p = none) : Mine w (upd H p o) p o := ⟨upd_same, le_none k.le hp, fun i l => by
  obtain ⟨u, h, _⟩ := live_some k l
  rw [hp] at h; cases h⟩
theorem Mine.put {p : Addr} {o o' : HO} (m : Mine w H p o) : Mine w (upd H p o') p o' := ⟨upd_same, m.fp, m.nl⟩
theorem SOk.wiped (s : SOk M w σ ρ) : ∀ vs, SOk M w (wipe σ vs) (Yl.unset ρ vs)
  | [] => s
  | v :: vs => (s.wiped vs).unset v
theorem wipe_get (σ : St) (vs : List Nat) (j : Nat) : (wipe σ vs)[j]? = if j ∈ vs then (if j < σ.length then some none else none) else σ[j]? := by
  induction vs with
  | nil => simp [wipe]
  | cons v vs ih =>
    unfold wipe
    by_cases h : v = j
    · subst h
      rw [List.getElem?_set]
      simp [wipe_length]
    · rw [List.getElem?_set_ne h, ih]
      have : ¬ j = v := fun z => h z.symm
      simp [this]
theorem wipe_less {T vs : List Nat} {σ' : St} (hT : ∀ j ∈ T, j ∈ vs) (l : Less T (wipe σ vs) σ') : wipe σ' vs = wipe σ vs := by
  apply List.ext_getElem?
  intro j
  rw [wipe_get, wipe_get]
  have hl : σ'.length = σ.length := by rw [l.1, wipe_length]
  by_cases hj : j ∈ vs
  · rw [if_pos hj, if_pos hj, hl]
  · rw [if_neg hj, if_neg hj, l.2 j (fun z => hj (hT j z)), wipe_get, if_neg hj]
end
section
variable {X : Cx} {M : Mx} {N : List Str} {sc : Scope} {k k' : Nat} {W : WX} {G : Gx} {ρ : Env} {hc : Hc} {P : D → Hc → Prop} {PF : Bool → D → Hc → Prop} {B : Bool → Hc → Prop} {a b c e tg : Expr} {es : List Expr} {x m : Str} {pos p apos : Pos}
def Blk (X : Cx) (scope : Scope) (X' : Cx) : Prop := ∃ s H C cl fp, X' = X.blk s H scope (compEnvC scope cl C X.env) fp
theorem Blk.bx {X' : Cx} {scope : Scope} (h : Blk X scope X') (hb : Bx X M N sc k W) : Bx X' M N (relS scope sc) k (fun _ _ _ _ => False) := by
  obtain ⟨s, H, C, cl, fp, rfl⟩ := h
  exact ⟨⟨hb.hN, hb.nd, by rw [← hb.hsc]; rfl, hb.hP, hb.hw, hb.hK, hb.hmg, hb.hbase⟩, hb.calm, PassesOwn.never, hb.room, takes0⟩
abbrev InB (X : Cx) (M : Mx) (N : List Str) (scope sc : Scope) (k : Nat) (S : Cx → Prop) : Prop := ∀ X', Blk X scope X' → Bx X' M N (relS scope sc) k (fun _ _ _ _ => False) → S X'
abbrev Gn : Gx := ⟨fun _ _ _ _ => False, fun _ _ _ _ => False⟩
theorem xc_in {w : Wd} {H : Hp} {σ : St} : XC M Gn w H σ ρ := fun _ _ _ _ _ z => z.elim
def rdI (X : Cx) (ifs : List Expr) : TT := fun σ H Q => ∀ pins s, Inv X pins σ H s → wpAny (model X.prog X.w) X.A (forIn ifs true fun c r => if r = true then do let ok ← isTrue c X.env (eval c X.env); pure (ForInStep.yield ok) else pure (ForInStep.yield r)) (TP X pins σ Q) X.xe s
def IfX (X : Cx) (M : Mx) (ifs : List Expr) (ρ : Env) (h : Hc) (B : Bool → Hc → Prop) : Prop := TV M Gn (rdI X ifs) ρ h B
theorem if_nil (h : B true hc) : IfX X M [] ρ hc B := fun σ w H Q eh wk sk xc q pins s I => pts_nil.run pins s σ H Q I (q true w H (by rw [eh]; exact h) Ext.refl wk)
theorem if_one (h : TX X M Gn c ρ hc B) : IfX X M [c] ρ hc B := fun σ w H Q eh wk sk xc q pins s I => (pts_one pt_rd).run pins s σ H Q I (h σ w H Q eh wk sk xc q)
end
end Yl

set_option maxRecDepth 100000
set_option maxHeartbeats 4000000
/-! Y9: raise, try. -/
namespace Yl
open PySem PySem.Spec PyProof.Rows L2
def veB : List Value := [.type "ValueError", .type "Exception", .type "BaseException", .type "object"]
/-- an own exception class without own __init__ -/
structure ExcT (M : Mx) (C : Nat) (x : Str) : Prop where
  gC : M.mg x = some (.ref (M.ca C))
  q : PySem.W.excIn M.K (M.ca C) veB "ValueError.__new__" = true
  kC : PySem.W.keepIn M.K (.ref (M.ca C)) = true
  s1 : PySem.W.subIn M.K (.ref (M.ca C)) (.type "BaseException") = some true
  s2 : PySem.W.typeIn M.K (.ref (M.ca C)) = some (.type "type")
section
variable {X : Cx} {M : Mx} {N : List Str} {sc : Scope} {k k' : Nat} {W : WX} {G : Gx} {ρ : Env} {hc : Hc} {S : Out → Prop} {a b c e tg : Expr} {es : List Expr} {x m : Str} {pos p apos : Pos} {C : Nat}
theorem pmk_own0 {C : Addr} {bmB : List Value} {B newId initId : String} {x : Str} {p pos : Pos} (F : ExcBaseFacts B newId initId bmB) (q : PySem.W.excIn X.K C bmB newId = true) (gC : X.mg x = some (.ref C)) (kC : PySem.W.keepIn X.K (.ref C) = true) (r : Raises X (.ref C)) (hg : Gl X x)
    (hdb : (x == ("__debug__" : Str)) = false) : PMk X (.Call (.Name x p) [] [] pos) (fun _ H Q => Q (.ref C) none H) := by
  intro pins s σ H Q I h
  refine wpAny_Call_Name_kw (ld_glob I hg gC ?_ hdb)
  refine PySem.W.callWith_K0 I.kIn kC ?_
  obtain ⟨bm, N, nm, qn, bs, hdct, sn, sub, ab, col, dd, k0, k1, k2, k3, k5, mN, hC, hN, hni, T⟩ := exc_obj I.kIn q
  refine wpAny_call_exc_subT F T hC hN hni (fun h' e hm => ?_) (by show 0 ≤ sizeLine; exact Nat.zero_le _)
  exact mk_of I hm r h (I.hok.gone hm.new)
theorem sx_raise0 {p2 : Pos} (hb : Bx X M N sc k G.W) (T : ExcT M C x) (hg : sc.names.lookup x = some .globalImplicit) (hdb : (x == ("__debug__" : Str)) = false) (h : G.PX C none ρ hc) : SX X M G (.Raise (some (.Call (.Name x p) [] [] p2)) none pos) ρ hc S :=
  .of (ps_raise hb.calm hb.tk (pmk_own0 (F.excBase_ValueError) (by rw [hb.hK]; exact T.q) (by rw [hb.hmg]; exact T.gC) (by rw [hb.hK]; exact T.kC) (raises_own (by rw [hb.hK]; exact T.s1) (by rw [hb.hK]; exact T.s2)) (hb.gl hg) hdb)) fun w0 H0 σ w H D eh ex wk sk xc q => xc C none none σ w H ρ (by rw [eh]; exact h) ex wk sk rfl
/-! an own exception class whose __init__ is: self.f = x -/
def spOx (C : Addr) (f : Str) : Sp := fun vs H Q _ => ∃ (a : Addr) (v : V), vs = [.ref a, v] ∧ H a = some (exo a C none) ∧ ∀ dx, H dx = none → dx ≠ a → Q .non (upd (upd H dx (exd dx [(f, v)])) a (exo a C (some dx)))
structure ExcI (M : Mx) (C : Nat) (x : Str) (f : Str) (k1 : Nat) : Prop where
  gC : M.mg x = some (.ref (M.ca C))
  T : OexC M.K (M.ca C)
  ex : ∃ fI fd ps, PySem.W.findIn M.K (.ref (M.ca C)) "__init__" = some (some (.ref fI)) ∧ PySem.W.typeIn M.K (.ref fI) = some (.type "function") ∧ FnOk M.P M.w M.K M.mg M.base (L2.CX M.P M.w) k1 fI fd ps (spOx (M.ca C) f) ∧ Binds M.K fd ps []
theorem sx_raise1 {p2 : Pos} {n : Tx} {k1 : Nat} (hb : Bx X M N sc k G.W) (T : ExcI M C x (ts n) k1) (hk : k1 + 1 ≤ k) (hg : sc.names.lookup x = some .globalImplicit) (hdb : (x == ("__debug__" : Str)) = false) (he : starEach [e] X.env = (false, eval e X.env) :: starEach [] X.env)
    (h : EX X M G e ρ hc fun d h' => G.PX C (some [(n, d)]) ρ h') : SX X M G (.Raise (some (.Call (.Name x p) [e] [] p2)) none pos) ρ hc S := by
  obtain ⟨fI, fd, ps, i1, i2, F1, F2⟩ := T.ex
  rw [← hb.hP, ← hb.hw, ← hb.hK, ← hb.hmg, ← hb.hbase] at F1
  rw [← hb.hK] at F2 i1 i2
  have T1 := T.T
  have gC := T.gC
  rw [← hb.hK] at T1
  rw [← hb.hmg] at gC
  refine .of (ps_raise hb.calm hb.tk (pmk_oex T1 i1 i2 F1 (hb.room.mono hk) F2 .nil (by exact passL) (hb.gl hg) gC (pa_rd (es := [e])) hdb he (by rfl))) fun w0 H0 σ w H D eh ex wk sk xc q => ?_
  have pa : AX X M G [e] ρ hc fun ds h' => ∃ d, ds = [d] ∧ G.PX C (some [(n, d)]) ρ h' := ax_cons he (EX.mono h fun d h' pd => ax_nil ⟨d, rfl, pd⟩)
  refine pa σ w H _ eh wk sk (xc.xc ex sk) fun ds vs w1 H1 pd e1 k1 r1 => ?_
  obtain ⟨d, rfl, pd⟩ := pd
  obtain ⟨v, us, rfl, r2, r3⟩ := r1.cons_inv
  obtain rfl := r3.nil_inv
  refine ⟨by simp, fun a ha => ⟨a, v, rfl, upd_same, fun dx hdx ne => ?_⟩⟩
  have hn : H1 dx = none := by rw [upd_ne ne] at hdx; exact hdx
  refine ⟨rfl, dx, [(ts n, v)], upd_same, by rw [upd_ne ne, upd_same], hn, ?_⟩
  have eq : upd (del (upd (upd (upd H1 a (exo a (M.ca C) none)) dx (exd dx [(ts n, v)])) a (exo a (M.ca C) (some dx))) a) dx (.xd [(ts n, v)]) = upd H1 dx (.xd [(ts n, v)]) := by
    funext b
    by_cases hb1 : b = dx
    · subst hb1; rw [upd_same, upd_same]
    · rw [upd_ne hb1, upd_ne hb1]
      by_cases hb2 : b = a
      · subst hb2; rw [del_same, ha]
      · rw [del_ne hb2, upd_ne hb2, upd_ne hb1, upd_ne hb2]
  rw [eq]
  obtain ⟨e2, k2⟩ := ext_lay (o := .xd [(ts n, v)]) k1 hn
  exact xc C _ (some dx) σ w1 _ ρ pd ((ex.trans e1).trans e2) k2 (sk.ext (e1.trans e2)) ⟨dx, _, rfl, upd_same, .cons ⟨rfl, r2⟩ .nil⟩
/-! ### try -/
/-- where a frame stands -/
structure Frx (X : Cx) : Prop where
  st : X.stack = X.env :: X.outer
  fr : X.env.frame = some X.env.locals
  fn : ∀ x, X.fn x = true
/-- what is wished of an error of the body -/
def HandP (S : Out → Prop) (PX : Nat → Pl → Env → Hc → Prop) : List Hd → Nat → Pl → Env → Hc → Prop
  | [], c, pl, ρ, h => PX c pl ρ h
  | .c tb i d :: r, c, pl, ρ, h => ∃ b, tbAt tb c = some b ∧ (b = true → S (.nx (ρ.set i (some d)) h)) ∧ (b = false → HandP S PX r c pl ρ h)
  | .f tb e i n :: r, c, pl, ρ, h => ∃ b, tbAt tb c = some b ∧ (b = true → ∃ fs d, pl = some fs ∧ e < ρ.length ∧ lkF fs n = some d ∧ S (.nx ((ρ.set i (some d)).set e none) h)) ∧ (b = false → HandP S PX r c pl ρ h)
inductive HdOk (X : Cx) (M : Mx) (N : List Str) (sc : Scope) : List Hd → List ExceptHandler → Prop
  | nil : HdOk X M N sc [] []
  | c {tb : List (Nat × Bool)} {i : Nat} {d : D} {y : Str} {yc : Nat} {np p1 p2 pos' : Pos} {x : Str} {e : Expr} {hs : List Hd} {hds : List ExceptHandler} (hy : M.mg y = some (.ref (M.ca yc))) (hg : sc.names.lookup y = some .globalImplicit) (hdb : (y == ("__debug__" : Str)) = false)
      (ex : ∀ c b, tbAt tb c = some b → PySem.W.exmOne M.K (.ref (M.ca c)) (.ref (M.ca yc)) = some b) (he : ∀ (X' : Cx) (G : Gx) (ρ : Env) (hc : Hc) (P : D → Hc → Prop), P d hc → EX X' M G e ρ hc P) (hN : N[i]? = some x) (hl : Sto X sc x) (hsw : swapsWith e (some (.Name x p1)) p2.line X.env = pure false) (r : HdOk X M N sc hs hds) :
      HdOk X M N sc (.c tb i d :: hs) (.ExceptHandler (some (.Name y np)) none [.Assign [.Name x p1] e p2] pos' :: hds)
theorem names_of (hb : Bw X M N sc) {y : Str} {yc : Nat} (hy : M.mg y = some (.ref (M.ca yc))) (hg : sc.names.lookup y = some .globalImplicit) (hdb : (y == ("__debug__" : Str)) = false) : Names X y (.ref (M.ca yc)) := ⟨hb.gl hg, hdb, .inl (by rw [hb.hmg]; exact hy)⟩
abbrev tsOf (X : Cx) (b : List Stmt) : Addr → Value → Option Addr → TS := fun a _ _ D σ H => ∀ oe pn, rdB (X.suite a ((a, oe) :: pn)) b D σ H
theorem hds_of (hb : Bw X M N sc) {hs : List Hd} {hds : List ExceptHandler} (h : HdOk X M N sc hs hds) {D : Ends} {w0 : Wd} {H0 : Hp} {Wo : WX} (S : Out → Prop) (PX : Nat → Pl → Env → Hc → Prop) (q : ∀ o, S o → OutOk M w0 H0 D o) (xo : ∀ c pl d σ w H ρ, PX c pl ρ w.h → Ext w0 H0 w H → WOk M w H → SOk M w σ ρ → PlRep M w H d pl → Wo (.ref (M.ca c)) d σ H) :
    ∃ l, HdsOk X hds l ∧ ∀ c pl d σ w H ρ, HandP S PX hs c pl ρ w.h → Ext w0 H0 w H → WOk M w H → SOk M w σ ρ → PlRep M w H d pl → wMany X.K Wo D l (.ref (M.ca c)) d σ H := by
  induction h with
  | nil => exact ⟨[], .nil, xo⟩
  | @c tb i d y yc np p1 p2 pos' x e hs hds hy hg hdb ex he hN hl hsw r ih =>
    obtain ⟨l, h1, h2⟩ := ih
    refine ⟨(.ref (M.ca yc), tsOf X [.Assign [.Name x p1] e p2]) :: l, .cons (names_of hb hy hg hdb) (fun a oe cls dd pn _ _ => ⟨fun pins s σ H D I h => h oe pn pins s I⟩) h1, ?_⟩
    intro c pl dd σ w H ρ hp ew wk sk rp
    obtain ⟨b, hb1, hb2, hb3⟩ := hp
    refine ⟨b, by rw [hb.hK]; exact ex c b hb1, fun eb a ha oe pn => ?_, fun eb => h2 c pl dd σ w H ρ (hb3 eb) ew wk sk rp⟩
    have hbs : Bw (X.suite a ((a, oe) :: pn)) M N sc := ⟨hb.hN, hb.nd, hb.hsc, hb.hP, hb.hw, hb.hK, hb.hmg, hb.hbase⟩
    have := bx_one (X := X.suite a ((a, oe) :: pn)) (M := M) (G := Gn) (S := S) (ρ := ρ) (hc := w.h) (sx_set (pos := p2) (pos' := p1) i hbs (he _ Gn ρ w.h (fun d h' => S (.nx (ρ.set i (some d)) h')) (hb2 eb)) hN hl hsw)
    exact this w0 H0 σ w H D rfl ew wk sk (fun _ _ _ _ _ _ _ z => z.elim) q
theorem sx_try {body : List Stmt} {h0 : ExceptHandler} {hds : List ExceptHandler} {hs : List Hd} (hb : Bx X M N sc k G.W) (fx : Frx X) (ho : HdOk X M N sc hs (h0 :: hds)) (h : ∀ X' W', Bx X' M N sc k W' → Frx X' → BX X' M ⟨W', fun c pl ρ' h' => HandP S G.PX hs c pl ρ' h'⟩ body ρ hc S) : SX X M G (.Try body (h0 :: hds) [] [] pos) ρ hc S := by
  intro w0 H0 σ w H D eh ex wk sk xc q pins s I
  obtain ⟨l, h1, h2⟩ := hds_of hb.toBw ho (D := D) (Wo := G.W) S G.PX q xc
  refine (ps_try_many (tb := fun W D σ H => ∀ pn xe, Takes (X.tr pn xe) W → PassesOwn (model X.prog X.w) X.A X.env xe → rdB (X.tr pn xe) body D σ H) fx.st fx.fr hb.tk (fun W pn xe tk po => ⟨fun pins s σ H D I h => h pn xe tk po pins s I⟩) h1).run pins s σ H D I fun pn xe tk po => ?_
  have hbt : Bx (X.tr pn xe) M N sc k (wMany X.K G.W D l) := ⟨⟨hb.hN, hb.nd, hb.hsc, hb.hP, hb.hw, hb.hK, hb.hmg, hb.hbase⟩, hb.calm, po, hb.room, tk⟩
  exact h _ _ hbt ⟨fx.st, fx.fr, fx.fn⟩ w0 H0 σ w H D eh ex wk sk h2 q
/-- except C as e: x = e.n -/
theorem sx_try_as {body : List Stmt} {tb : List (Nat × Bool)} {ei i : Nat} {n : Tx} {y en x : Str} {yc : Nat} {np p1 p2 p3 p4 pos' : Pos} (hb : Bx X M N sc k G.W) (fx : Frx X) (hy : M.mg y = some (.ref (M.ca yc))) (hg : sc.names.lookup y = some .globalImplicit) (hdb : (y == ("__debug__" : Str)) = false)
    (exm : ∀ c b, tbAt tb c = some b → PySem.W.exmOne M.K (.ref (M.ca c)) (.ref (M.ca yc)) = some b) (one : ∀ c, tbAt tb c = some true → c = yc) (Tx' : XfC M.K (M.ca yc)) (no : PySem.W.findIn M.K (.ref (M.ca yc)) (ts n) = some none)
    (hE : N[ei]? = some en) (hEl : sc.names.lookup en = some .local) (hne : ei ≠ i) (en1 : (en == ("__debug__" : Str)) = false) (en2 : (en == ("__classdict__" : Str)) = false) (hN : N[i]? = some x) (hl : Sto X sc x)
    (h : ∀ X' W', Bx X' M N sc k W' → Frx X' → BX X' M ⟨W', fun c pl ρ' h' => HandP S G.PX [.f tb ei i n] c pl ρ' h'⟩ body ρ hc S) : SX X M G (.Try body [.ExceptHandler (some (.Name y np)) (some en) [.Assign [.Name x p1] (.Attribute (.Name en p2) (ts n) p3) p4] pos'] [] [] pos) ρ hc S := by
  intro w0 H0 σ w H D eh ex wk sk xc q pins s I
  have hK := hb.hK
  refine (ps_try_as (i := ei) (c := .ref (M.ca yc)) (Wout := G.W) (ts := fun a cls d => tAsg (tXf a cls d (M.ca yc) (ts n) (tVar ei)) (gName i)) (tb := fun W D σ H => ∀ pn xe, Takes (X.tr pn xe) W → PassesOwn (model X.prog X.w) X.A X.env xe → rdB (X.tr pn xe) body D σ H) fx.st fx.fr (by rw [hb.hN]; exact hb.nd) (by rw [hb.hN]; exact hE)
    (by show X.env.scope.names.lookup en = _; rw [hb.hsc]; exact hEl) (names_of hb.toBw hy hg hdb) hb.tk (fun W pn xe tk po => ⟨fun pins s σ H D I h => h pn xe tk po pins s I⟩) (fun a oe cls d pn z1 z2 => ?_)).run pins s σ H D I fun pn xe tk po => ?_
  · have hbs : Bw (X.suite a ((a, oe) :: pn)) M N sc := ⟨hb.hN, hb.nd, hb.hsc, hb.hP, hb.hw, hb.hK, hb.hmg, hb.hbase⟩
    exact pss_one (ps_set (i := i) (by rw [hb.hN]; exact hb.nd) (by rw [hb.hN]; exact hN) (loc_hf hbs hl).1 (pe_xf (by rw [hb.hK]; exact Tx') (by rw [hb.hK]; exact no) z1 z2 (pe_var (i := ei) (by rw [hb.hN]; exact hE) (by rw [hb.hsc]; exact .inl hEl) en1 en2)) (by rfl) (loc_hf hbs hl).2)
  · have hbt : Bx (X.tr pn xe) M N sc k (wAs X.K (.ref (M.ca yc)) ei (fun a cls d => tAsg (tXf a cls d (M.ca yc) (ts n) (tVar ei)) (gName i)) G.W D) := ⟨⟨hb.hN, hb.nd, hb.hsc, hb.hP, hb.hw, hb.hK, hb.hmg, hb.hbase⟩, hb.calm, po, hb.room, tk⟩
    refine h _ _ hbt ⟨fx.st, fx.fr, fx.fn⟩ w0 H0 σ w H D eh ex wk sk (fun c pl d σ' w' H' ρ' hp e' k' s' rp => ?_) q
    obtain ⟨b, b1, b2, b3⟩ := hp
    refine ⟨b, by rw [hK]; exact exm c b b1, fun eb a ha => ?_, fun eb => xc c pl d σ' w' H' ρ' (b3 eb) e' k' s' rp⟩
    subst eb
    obtain ⟨fs, v, rfl, hle, hl2, hS⟩ := b2 rfl
    have hc := one c b1
    subst hc
    obtain ⟨dx, vs, rfl, hx, rf⟩ := rp
    obtain ⟨v', hv', rv⟩ := lkF_of rf hl2
    have hlen : ei < σ'.length := by rw [s'.len]; exact hle
    refine ⟨_, List.getElem?_set_self hlen, rfl, rfl, dx, vs, v', rfl, hx, hv', ?_⟩
    have := (s'.set (i := i) rv).unset ei
    have eq : ((σ'.set ei (some (.ref a))).set i (some v')).set ei none = (σ'.set i (some v')).set ei none := by
      rw [List.set_comm _ _ hne, List.set_set]
    show D.nx (((σ'.set ei (some (.ref a))).set i (some v')).set ei none) H'
    rw [eq]
    exact q _ hS _ w' H' rfl e' k' this
end
end Yl

set_option maxRecDepth 100000
set_option maxHeartbeats 4000000
/-! Y10: methods, fields stored, instances made, cells handed over. -/
namespace Yl
open PySem PySem.Spec PyProof.Rows L2
open TL (pre spl tl split_spl)
/-! ### texts -/
theorem pre1 (c a : Nat) (x : Tx) : pre [c] (a :: x) = Nat.beq a c := by
  show ((a :: x).take 1 == [c]) = _
  by_cases h : a = c
  · subst h; simp
  · have : Nat.beq a c = false := by
      cases e : Nat.beq a c with
      | false => rfl
      | true => exact absurd (Nat.eq_of_beq_eq_true e) h
    rw [this]
    simpa using h
theorem spl_split (c : Nat) : ∀ (x acc : Tx), spl [c] 0 acc x = splitT c acc x
  | [], acc => rfl
  | a :: x, acc => by
    show (if pre [c] (a :: x) = true then acc :: spl [c] (([c] : Tx).length - 1) [] x else spl [c] 0 (acc ++ [a]) x) = _
    rw [pre1]
    show _ = (if Nat.beq a c then acc :: splitT c [] x else splitT c (acc ++ [a]) x)
    rw [← spl_split c x [], ← spl_split c x (acc ++ [a])]; rfl
theorem split_eq {s : Tx} {c : Nat} (h : c < 256) : Txt.split (ts s) (ts [c]) = (splitT c [] s).map ts := by
  have hk : ¬ Builtin.Str.strKind (ts s) < Builtin.Str.strKind (ts [c]) := by
    have e1 : Builtin.Str.strKind (ts [c]) = 1 := by
      unfold Builtin.Str.strKind ts
      simp [h]
    rw [e1]
    unfold Builtin.Str.strKind
    split
    · omega
    · split <;> omega
  have q := split_spl (ts s) (ts [c]) (by simp [tl, ts]) hk
  have e1 : tl (ts [c]) = [c] := rfl
  have e2 : tl (ts s) = s := ts_list s
  rw [e1, e2, spl_split] at q
  have q2 := congrArg (List.map ts) q
  rw [List.map_map] at q2
  have : (ts ∘ tl) = id := by
    funext z
    exact ts_of z
  rw [this, List.map_id] at q2
  exact q2
theorem join_eq {s : Tx} : ∀ ss : List Tx, Txt.join (ts s) (ss.map ts) = ts (joinT s ss)
  | [] => rfl
  | x :: r => by
    show (⟨((r.map ts)).foldl (fun acc p => acc ++ (ts s).cps ++ p.cps) (ts x).cps⟩ : Str) = ts (joinR s r x)
    have : ∀ (r : List Tx) (a : Tx), (r.map ts).foldl (fun acc p => acc ++ (ts s).cps ++ p.cps) a.toArray = (joinR s r a).toArray := by
      intro r
      induction r with
      | nil => intro a; rfl
      | cons y r ih =>
        intro a
        show (r.map ts).foldl _ (a.toArray ++ (ts s).cps ++ (ts y).cps) = (joinR s r (a ++ s ++ y)).toArray
        rw [← ih (a ++ s ++ y)]
        congr 1
        simp [ts]
    exact congrArg Str.mk (this r x)
theorem strs_map : ∀ {ds : List D} {ss : List Tx}, txsOf ds = some ss → ds = ss.map D.str
  | [], ss, h => by cases h; rfl
  | d :: ds, ss, h => by
    cases d <;> first | (cases h; done) | skip
    unfold txsOf at h
    cases e : txsOf ds with
    | none => rw [e] at h; cases h
    | some r =>
      rw [e] at h; cases h
      rw [strs_map e]; rfl
section
variable {M : Mx} {F : Hp} {m : List Addr}
theorem rep_strs : ∀ {ss : List Tx} {vs : List V}, RepL M F m vs (ss.map D.str) → vs = (ss.map ts).map V.str
  | [], vs, r => r.nil_inv
  | s :: ss, vs, r => by
    obtain ⟨v, us, rfl, r1, r2⟩ := At.cons_inv (ys := ss.map D.str) (y := .str s) r
    rw [r1.str_inv, rep_strs r2]; rfl
theorem strs_rep : ∀ {ss : List Tx}, RepL M F m ((ss.map ts).map V.str) (ss.map D.str)
  | [] => .nil
  | s :: ss => .cons (.str s) strs_rep
theorem sum_len (ss : List Tx) : ((ss.map ts).map (·.length)).sum = (ss.map List.length).sum := by
  rw [List.map_map]
  have : ((fun x : Str => x.length) ∘ ts) = List.length := by
    funext s
    exact ts_len s
  rw [this]
end
section
variable {X : Cx} {M : Mx} {N : List Str} {sc : Scope} {k k' : Nat} {W : WX} {G : Gx} {ρ : Env} {hc : Hc} {P : D → Hc → Prop} {PF : Bool → D → Hc → Prop} {S : Out → Prop} {a b c e o : Expr} {es : List Expr} {x m : Str} {pos p apos : Pos} {ps : List Str} {C : Con}
/-! ### methods of texts -/
theorem fx_m1 {id : String} {r : V → List V → Hp → VK → Prop} (slot : Slot "str" m id) (ty : typeOf (.builtin id) = pure (.type "method_descriptor")) (rule : MtR X id r) (hs : starEach [e] X.env = [(false, eval e X.env)]) (hbase : attributeBase o m X.env (eval o X.env) = eval o X.env) (hline : (apos.endLine == pos.line) = true)
    (h : EX X M G o ρ hc fun x h1 => ∃ z, x = .str z ∧ EX X M G e ρ h1 fun y h2 => ∃ f d, PF f d h2 ∧ ∀ u w H (Q : VK), w.h = h2 → WOk M w H → Rep M w.F w.m u y → Fin M w H f d Q → r (.str (ts z)) [u] H Q) : FX X M G (.Call (.Attribute o m apos) [e] [] pos) ρ hc PF :=
  .of (pe_m1 slot ty rule pe_rd pe_rd hs hbase hline) fun σ w H Q eh wk sk xc q => h σ w H _ eh wk sk xc fun s v w1 H1 hp e1 k1 r1 => by
    obtain ⟨z, rfl, hp⟩ := hp
    refine ⟨⟨ts z, r1.str_inv⟩, ?_⟩
    refine hp σ w1 H1 _ rfl k1 (sk.ext e1) (xc.ext e1) fun y u w2 H2 p2 e2 k2 r2 => ?_
    obtain ⟨f, d, pf, pr⟩ := p2
    rw [r1.str_inv]
    exact pr u w2 H2 Q rfl k2 r2 (fin_of (e1.trans e2) pf q)
/-- a.split(c) -/
theorem fx_split (hb : Bw X M N sc) (hs : starEach [e] X.env = [(false, eval e X.env)]) (hbase : attributeBase o "split" X.env (eval o X.env) = eval o X.env) (hline : (apos.endLine == pos.line) = true)
    (h : EX X M G o ρ hc fun x h1 => ∃ z, x = .str z ∧ EX X M G e ρ h1 fun y h2 => ∃ c, y = .str [c] ∧ z.length + 2 ≤ lim ∧ c < 256 ∧ PF true (.lst ((splitT c [] z).map .str)) h2) : FX X M G (.Call (.Attribute o "split" apos) [e] [] pos) ρ hc PF :=
  fx_m1 PySem.F.slot_str_split PySem.F.type_str_split mt_split hs hbase hline (EX.mono h fun x h1 p => by
    obtain ⟨z, rfl, p⟩ := p
    refine ⟨z, rfl, EX.mono p fun y h2 p => ?_⟩
    obtain ⟨c, rfl, hl, hc, pf⟩ := p
    refine ⟨true, _, pf, fun u w H Q eh wk r k => ⟨ts z, ts [c], rfl, by rw [r.str_inv], by simp [ts, Str.length], by rw [ts_len, ← lim_eq]; exact hl, fun q hq => ?_⟩⟩
    rw [split_eq hc]
    exact k.box wk rfl hq strs_rep)
/-- s.join(xs) -/
theorem fx_join (hb : Bw X M N sc) (hs : starEach [e] X.env = [(false, eval e X.env)]) (hbase : attributeBase o "join" X.env (eval o X.env) = eval o X.env) (hline : (apos.endLine == pos.line) = true)
    (h : EX X M G o ρ hc fun x h1 => ∃ z, x = .str z ∧ EX X M G e ρ h1 fun y h2 => ∃ ys ss, (deref h2 y = .lst ys ∨ deref h2 y = .tup ys) ∧ txsOf ys = some ss ∧ joinOk z ss = true ∧ PF false (.str (joinT z ss)) h2) : FX X M G (.Call (.Attribute o "join" apos) [e] [] pos) ρ hc PF :=
  fx_m1 PySem.F.slot_str_join PySem.F.type_str_join mt_join hs hbase hline (EX.mono h fun x h1 p => by
    obtain ⟨z, rfl, p⟩ := p
    refine ⟨z, rfl, EX.mono p fun y h2 p => ?_⟩
    obtain ⟨ys, ss, hy, he, hj, pf⟩ := p
    refine ⟨false, _, pf, fun u w H Q eh wk r k => ?_⟩
    rw [← eh] at hy
    have hz : ((ss.map ts).map (·.length)).sum + (ss.map ts).length * (ts z).length ≤ 16777216 := by
      rw [sum_len, ts_len, List.length_map]
      exact Nat.le_of_ble_eq_true hj
    have e2 := strs_map he
    subst e2
    rcases hy with hy | hy
    · obtain ⟨a, vs, rfl, ha, rl⟩ := den_lst wk r hy
      obtain rfl := rep_strs rl
      exact ⟨ts z, a, ss.map ts, rfl, rfl, .inl (.inl (.inl ha)), hz, by rw [join_eq]; exact k.here wk (.str _)⟩
    · obtain ⟨a, vs, rfl, fa, ha, rl⟩ := den_tup wk r hy
      obtain rfl := rep_strs rl
      exact ⟨ts z, a, ss.map ts, rfl, rfl, .inr (by rw [hb.hK]; exact sqT_of wk.le fa), hz, by rw [join_eq]; exact k.here wk (.str _)⟩)
/-- xs.append(e), xs a cell -/
theorem fx_app (hb : Bw X M N sc) (hbase : attributeBase o "append" X.env (eval o X.env) = eval o X.env) (hline : (apos.endLine == pos.line) = true) (hs : starEach [e] X.env = (false, eval e X.env) :: starEach [] X.env)
    (hfew : ((backTo pos (starEach [e] X.env)).all (fun x => !x.1) && (backToKw pos (keywordEach [] X.env)).all (fun x => x.1.isSome) && decide (([e] : List Expr).length + ([] : List Keyword).length + (if ([] : List Keyword).isEmpty then 0 else 1) < 30)) = true)
    (h : EX X M G o ρ hc fun x h1 => ∃ j ds0, x = .ref j ∧ h1[j]? = some (some (.lst ds0)) ∧ EX X M G e ρ h1 fun y h2 => ∃ ds, h2[j]? = some (some (.lst ds)) ∧ ds.length < lim ∧ PF false .non (h2.set j (some (.lst (ds ++ [y]))))) : FX X M G (.Call (.Attribute o "append" apos) [e] [] pos) ρ hc PF :=
  .of (pe_bm PySem.F.plainAttrs_list PySem.F.slot_list_append PySem.F.type_list_append mt_append pe_rd (pa_rd (es := [e])) hbase hfew hline hs (by rfl)) fun σ w H Q eh wk sk xc q => h σ w H _ eh wk sk xc fun s v w1 H1 hp e1 k1 r1 => by
    obtain ⟨j, ds0, rfl, hj, hp⟩ := hp
    obtain ⟨a, u, ha, fa, hu, c⟩ := k1.al j _ hj
    obtain ⟨a', ha', rfl⟩ := r1.ref_inv
    rw [ha] at ha'; cases ha'
    cases u <;> first | exact c.elim | skip
    refine ⟨.inl ⟨rfl, _, .inl (.inl hu)⟩, ?_⟩
    have pa : AX X M G [e] ρ w1.h fun ds h' => ∃ y, ds = [y] ∧ ∃ ds, h'[j]? = some (some (.lst ds)) ∧ ds.length < lim ∧ PF false .non (h'.set j (some (.lst (ds ++ [y])))) := ax_cons hs (EX.mono hp fun d h' pd => ax_nil ⟨d, rfl, pd⟩)
    refine pa σ w1 H1 _ rfl k1 (sk.ext e1) (xc.ext e1) fun ds vs w2 H2 pd e2 k2 r2 => ?_
    obtain ⟨y, rfl, ds, hj2, hl, pf⟩ := pd
    obtain ⟨z, us, rfl, rz, r3⟩ := r2.cons_inv
    obtain rfl := r3.nil_inv
    obtain ⟨a2, u2, ha2, fa2, hu2, c2⟩ := k2.al j _ hj2
    rw [e2.mm j a ha] at ha2; cases ha2
    cases u2 <;> first | exact c2.elim | skip
    rename_i vs2
    have c3 : Cont M w2.F w2.m (.lst (ds ++ [y])) (.lst (vs2 ++ [z])) := At.append c2 (.cons rz .nil)
    obtain ⟨e3, k3⟩ := ext_put k2 hj2 (e2.mm j a ha) c3
    exact ⟨a, vs2, z, rfl, rfl, hu2, by rw [c2.1, ← lim_eq]; exact hl, q false .non _ _ _ pf ((e1.trans e2).trans e3) k3 .non⟩
end
end Yl

set_option maxRecDepth 100000
set_option maxHeartbeats 4000000
/-! Y11: fields and items stored, instances made, cells handed over. -/
namespace Yl
open PySem PySem.Spec PyProof.Rows L2
theorem putF_of {M : Mx} {F : Hp} {m : List Addr} {n : Tx} {d : D} {v : V} (rv : Rep M F m v d) : ∀ {vs : List (Str × V)} {fs : List (Tx × D)}, At (FR M F m) vs fs → At (FR M F m) (L2.putF (ts n) v vs) (Yl.putF n d fs)
  | vs, [], r => by
    have := r.nil_inv
    subst this
    exact .cons ⟨rfl, rv⟩ .nil
  | vs, (g, d') :: fs, r => by
    obtain ⟨⟨g', v'⟩, us, rfl, r1, r2⟩ := r.cons_inv
    obtain ⟨e1, r3⟩ := r1
    dsimp only at e1 r3
    subst e1
    unfold L2.putF Yl.putF
    rw [txBeq_iff]
    by_cases q : g = n
    · subst q
      rw [decide_eq_true rfl, if_pos rfl, if_pos rfl]
      exact .cons ⟨rfl, rv⟩ r2
    · rw [decide_eq_false q, if_neg Bool.false_ne_true, if_neg (fun z => q (ts_inj z))]
      exact .cons ⟨rfl, r3⟩ (putF_of rv r2)
section
variable {X : Cx} {M : Mx} {N : List Str} {sc : Scope} {k k' : Nat} {W : WX} {G : Gx} {ρ : Env} {hc : Hc} {P : D → Hc → Prop} {PF : Bool → D → Hc → Prop} {S : Out → Prop} {a b c e o value : Expr} {es : List Expr} {x m : Str} {pos pos' p apos : Pos} {ps : List Str} {C : Con}
/-- o.n = e, o a cell -/
theorem sx_setFld {n : Tx} (hb : Bw X M N sc) (hs : swapsWith value (some (.Attribute o (ts n) pos')) pos.line X.env = pure false)
    (h : EX X M G value ρ hc fun y h1 => EX X M G o ρ h1 fun x h2 => ∃ j C fs, x = .ref j ∧ h2[j]? = some (some (.ins C fs)) ∧ Cls M.K (M.ca C) ∧ NoAttr M.K (M.ca C) (ts n) ∧ fs.length < 1000 ∧ S (.nx ρ (h2.set j (some (.ins C (Yl.putF n y fs)))))) : SX X M G (.Assign [.Attribute o (ts n) pos'] value pos) ρ hc S :=
  .of (ps_fld pe_rd pe_rd hs) fun w0 H0 σ w H D eh ex wk sk xc q => h σ w H _ eh wk sk (xc.xc ex sk) fun y v w1 H1 p1 e1 k1 r1 => p1 σ w1 H1 _ rfl k1 (sk.ext e1) (xc.xc (ex.trans e1) (sk.ext e1)) fun d z w2 H2 p2 e2 k2 r2 => by
    obtain ⟨j, C, fs, rfl, hj, hcl, hna, hl, pS⟩ := p2
    obtain ⟨a, u, ha, fa, hu, c⟩ := k2.al j _ hj
    obtain ⟨a', ha', rfl⟩ := r2.ref_inv
    rw [ha] at ha'; cases ha'
    cases u <;> first | exact c.elim | skip
    rename_i C' dx vs
    obtain ⟨rfl, c⟩ := c
    refine ⟨a, _, dx, vs, rfl, hu, by rw [hb.hK]; exact hcl, by rw [hb.hK]; exact hna, by rw [c.1]; exact hl, ?_⟩
    have c3 : Cont M w2.F w2.m (.ins C (Yl.putF n y fs)) (.ins (M.ca C) dx (L2.putF (ts n) v vs)) := ⟨rfl, putF_of (r1.mono e2.ff e2.mm) c⟩
    obtain ⟨e3, k3⟩ := ext_put k2 hj ha c3
    exact q _ pS σ _ _ rfl (((ex.trans e1).trans e2).trans e3) k3 (sk.ext ((e1.trans e2).trans e3))
/-- d[k] = e, d a cell -/
theorem sx_setIx {i : Expr} (hb : Bx X M N sc k W) (hs : swapsWith value (some (.Subscript o i pos')) pos.line X.env = pure false)
    (h : EX X M G value ρ hc fun y h1 => EX X M G o ρ h1 fun x h2 => EX X M G i ρ h2 fun z h3 => ∃ j t kvs, x = .ref j ∧ h3[j]? = some (some (.dct t kvs)) ∧ fits t z = true ∧ kvs.length < lim ∧ S (.nx ρ (h3.set j (some (.dct t (putD kvs z y)))))) : SX X M G (.Assign [.Subscript o i pos'] value pos) ρ hc S :=
  .of (ps_dput (by have := hb.room.un; omega) pe_rd pe_rd pe_rd hs) fun w0 H0 σ w H D eh ex wk sk xc q => h σ w H _ eh wk sk (xc.xc ex sk) fun y v w1 H1 p1 e1 k1 r1 => p1 σ w1 H1 _ rfl k1 (sk.ext e1) (xc.xc (ex.trans e1) (sk.ext e1)) fun d z w2 H2 p2 e2 k2 r2 => p2 σ w2 H2 _ rfl k2 (sk.ext (e1.trans e2)) (xc.xc ((ex.trans e1).trans e2) (sk.ext (e1.trans e2))) fun key kv w3 H3 p3 e3 k3 r3 => by
    obtain ⟨j, t, kvs, rfl, hj, hf, hl, pS⟩ := p3
    obtain ⟨a, u, ha, fa, hu, c⟩ := k3.al j _ hj
    obtain ⟨a', ha', rfl⟩ := (r2.mono e3.ff e3.mm).ref_inv
    rw [ha] at ha'; cases ha'
    have rv := r1.mono (fun a o z => e3.ff a o (e2.ff a o z)) fun i a z => e3.mm i a (e2.mm i a z)
    have e03 := (e1.trans e2).trans e3
    cases u <;> first | exact c.elim | skip
    · rename_i vs
      obtain ⟨rfl, c⟩ := c
      obtain ⟨ky, rfl, rfl⟩ := key_of r3 hf
      have c3 : Cont M w3.F w3.m (.dct false (putD kvs (kD ky) y)) (.dK (putK vs ky v)) := ⟨rfl, putD_of eqv_key rv c⟩
      obtain ⟨e4, k4⟩ := ext_put k3 hj ha c3
      exact ⟨a, _, rfl, .inl ⟨vs, ky, hu, rfl, by rw [c.1, ← lim_eq]; exact hl, rfl⟩, q _ pS σ _ _ rfl ((ex.trans e03).trans e4) k4 (sk.ext (e03.trans e4))⟩
    · rename_i vs
      obtain ⟨rfl, c⟩ := c
      obtain ⟨ks, b, rfl, rfl, hb'⟩ := tkey_of k3 r3 hf
      have c3 : Cont M w3.F w3.m (.dct true (putD kvs (ktD ks) y)) (.dT (putK vs ks v)) := ⟨rfl, putD_of eqv_tkey rv c⟩
      obtain ⟨e4, k4⟩ := ext_put k3 hj ha c3
      exact ⟨a, _, rfl, .inr ⟨vs, ks, b, hu, rfl, hb', by rw [c.1, ← lim_eq]; exact hl, rfl⟩, q _ pS σ _ _ rfl ((ex.trans e03).trans e4) k4 (sk.ext (e03.trans e4))⟩
theorem pset_or {t t' : TSet} (a : PSet X t) (b : PSet X t') : PSet X (fun o i v H Q => t o i v H Q ∨ t' o i v H Q) := fun pins s σ H o i v ov iv u Q I ro ri rv h => h.elim (a pins s σ H o i v ov iv u Q I ro ri rv) (b pins s σ H o i v ov iv u Q I ro ri rv)
theorem sx_putIx {i : Expr} (hb : Bx X M N sc k W) (hs : swapsWithSole [.Subscript o i pos'] value pos.line X.env = pure false) (hw : swappedStores [.Subscript o i pos'] value X.env = pure none) (ha : ∀ v, assign (.Subscript o i pos') X.env v = (do
      let ov ← holding [v] (eval o X.env)
      let iv ← holding [v, ov] (eval i X.env)
      standAt pos'
      holding [v, ov, iv] (setItem ov iv v)
      release [v, ov, iv] []))
    (h : EX X M G value ρ hc fun y h1 => EX X M G o ρ h1 fun x h2 => EX X M G i ρ h2 fun z h3 => ∃ j c d, x = .ref j ∧ h3[j]? = some (some c) ∧ putIx c z y = some d ∧ S (.nx ρ (h3.set j (some d)))) : SX X M G (.Assign [.Subscript o i pos'] value pos) ρ hc S :=
  .of (ps_asg pe_rd (pg_sub pe_rd pe_rd (pset_or set_list (set_dict (by have := hb.room.un; omega))) ha) hs hw) fun w0 H0 σ w H D eh ex wk sk xc q => h σ w H _ eh wk sk (xc.xc ex sk) fun y v w1 H1 p1 e1 k1 r1 => p1 σ w1 H1 _ rfl k1 (sk.ext e1) (xc.xc (ex.trans e1) (sk.ext e1)) fun d z w2 H2 p2 e2 k2 r2 => p2 σ w2 H2 _ rfl k2 (sk.ext (e1.trans e2)) (xc.xc ((ex.trans e1).trans e2) (sk.ext (e1.trans e2))) fun key kv w3 H3 p3 e3 k3 r3 => by
    obtain ⟨j, c0, d0, rfl, hj, hp, pS⟩ := p3
    obtain ⟨a, u, ha, fa, hu, c⟩ := k3.al j _ hj
    obtain ⟨a', ha', rfl⟩ := (r2.mono e3.ff e3.mm).ref_inv
    rw [ha] at ha'; cases ha'
    have rv := r1.mono (fun a o z => e3.ff a o (e2.ff a o z)) fun i a z => e3.mm i a (e2.mm i a z)
    have e03 := (e1.trans e2).trans e3
    unfold putIx at hp
    split at hp
    · rename_i t kvs
      split at hp
      · rename_i hfl
        cases hp
        rw [Bool.and_eq_true_iff, decide_eq_true_eq] at hfl
        obtain ⟨hf, hl⟩ := hfl
        cases u <;> first | exact c.elim | skip
        · rename_i vs
          obtain ⟨rfl, c⟩ := c
          obtain ⟨ky, rfl, rfl⟩ := key_of r3 hf
          have c3 : Cont M w3.F w3.m (.dct false (putD kvs (kD ky) y)) (.dK (putK vs ky v)) := ⟨rfl, putD_of eqv_key rv c⟩
          obtain ⟨e4, k4⟩ := ext_put k3 hj ha c3
          exact .inr ⟨a, _, rfl, .inl ⟨vs, ky, hu, rfl, by rw [c.1, ← lim_eq]; exact hl, rfl⟩, q _ pS σ _ _ rfl ((ex.trans e03).trans e4) k4 (sk.ext (e03.trans e4))⟩
        · rename_i vs
          obtain ⟨rfl, c⟩ := c
          obtain ⟨ks, b, rfl, rfl, hb'⟩ := tkey_of k3 r3 hf
          have c3 : Cont M w3.F w3.m (.dct true (putD kvs (ktD ks) y)) (.dT (putK vs ks v)) := ⟨rfl, putD_of eqv_tkey rv c⟩
          obtain ⟨e4, k4⟩ := ext_put k3 hj ha c3
          exact .inr ⟨a, _, rfl, .inr ⟨vs, ks, b, hu, rfl, hb', by rw [c.1, ← lim_eq]; exact hl, rfl⟩, q _ pS σ _ _ rfl ((ex.trans e03).trans e4) k4 (sk.ext (e03.trans e4))⟩
      · cases hp
    · rename_i xs
      split at hp
      · rename_i i
        cases e : Yl.ixN xs.length i with
        | none => rw [e] at hp; cases hp
        | some n =>
          rw [e] at hp; cases hp
          cases u <;> first | exact c.elim | skip
          rename_i vs
          have c3 : Cont M w3.F w3.m (.lst (xs.set n y)) (.lst (vs.set n v)) := At.set c rv n
          obtain ⟨e4, k4⟩ := ext_put k3 hj ha c3
          exact .inl ⟨a, vs, i, n, rfl, r3.int_inv, hu, by rw [ixN_of, c.1]; exact e, q _ pS σ _ _ rfl ((ex.trans e03).trans e4) k4 (sk.ext (e03.trans e4))⟩
      · cases hp
    · cases hp
/-! ### instances made -/
section
variable {w1 w2 : Wd} {H1 H2 : Hp} {x dx : Addr} {ob : HO}
/-- a world of one new cell, and back -/
theorem one_back {d0 : D} {o1 o2 : HO} (k1 : WOk M w1 H1) (hx : H1 x = none) (hdx : H1 dx = none) (ne : dx ≠ x) (n1 : ∀ vs, o1 ≠ .tup vs) (k2 : WOk M w2 H2) (e : Ext ⟨w1.F, [x], [some d0]⟩ (upd (upd H1 dx o1) x o2) w2 H2) : Ext w1 H1 { w1 with F := w2.F } H2 ∧ WOk M { w1 with F := w2.F } H2 := by
  have lv : ∀ i a, Live (⟨w1.F, [x], [some d0]⟩ : Wd) i a → a = x := fun i a l => by
    obtain ⟨⟨d, h⟩, h2⟩ := l
    cases i with
    | zero => simp at h2; exact h2.symm
    | succ i => simp at h
  have st : ∀ a u, H1 a = some u → Kept w2.F H2 a u := fun a u h => by
    have n1 := ne_of_none h hx
    have n2 := ne_of_none h hdx
    exact e.hh a u (by rw [upd_ne n1, upd_ne n2]; exact h) fun i l => n1 (lv i a l)
  have fr : ∀ a o, w2.F a = some o → w1.F a = some o ∨ H1 a = none ∨ ∃ vs, H1 a = some (.tup vs) := fun a o h => by
    rcases e.fr a o h with z | z | ⟨vs, z⟩ | ⟨i, z⟩
    · exact .inl z
    · by_cases q : a = x
      · subst q; exact .inr (.inl hx)
      · rw [upd_ne q] at z
        by_cases q2 : a = dx
        · subst q2; exact .inr (.inl hdx)
        · rw [upd_ne q2] at z; exact .inr (.inl z)
    · by_cases q : a = x
      · subst q; exact .inr (.inl hx)
      · rw [upd_ne q] at z
        by_cases q2 : a = dx
        · subst q2; exact .inr (.inl hdx)
        · rw [upd_ne q2] at z; exact .inr (.inr ⟨vs, z⟩)
    · have := lv i a z
      subst this; exact .inr (.inl hx)
  have nf : ∀ i a, Live w1 i a → w2.F a = none := fun i a l => by
    obtain ⟨⟨d, h⟩, ha⟩ := l
    obtain ⟨a', u, h1, h2, h3, h4⟩ := k1.al i d h
    rw [ha] at h1; cases h1
    cases q : w2.F a with
    | none => rfl
    | some o =>
      rcases fr a o q with z | z | ⟨vs, z⟩
      · rw [h2] at z; cases z
      · rw [h3] at z; cases z
      · rw [h3] at z; cases z; exact absurd h4 cell_notup
  refine ⟨⟨e.ff, fun _ _ h => h, fun a u h _ => st a u h, fun a h => ?_, fun a o h => ?_, fun i a l => .inl ⟨i, l⟩⟩, k1.keep (w' := { w1 with F := w2.F }) e.ff rfl rfl k2.le (fun i a o l h => (st a o h).no (nf i a l)) nf⟩
  · cases q : H1 a with
    | none => rfl
    | some u =>
      rcases st a u q with z | ⟨_, _, _, z⟩ <;> (rw [h] at z; cases z)
  · rcases fr a o h with z | z | z
    · exact .inl z
    · exact .inr (.inl z)
    · exact .inr (.inr (.inl z))
end
structure MkC (M : Mx) (x : Str) (Ci : Nat) (ps : List Str) (k : Nat) (dfl : List D) (C : Con) : Prop where
  gC : M.mg x = some (.ref (M.ca Ci))
  ex : ∃ f fd dvs dus, Mk M.K (M.ca Ci) f ∧ FnOk M.P M.w M.K M.mg M.base (L2.CX M.P M.w) k f fd ps (spC M C) ∧ Binds M.K fd ps dus ∧ Vals dvs dus ∧ ∀ F m, RepL M F m dvs dfl
section
variable {CX : CXT} {f C : Addr} {fd : FuncData} {sp : Sp} {dvs : List V} {ds : List Value} {E : St → XK} {t : TA}
def tMakeS (C : Addr) (sp : Sp) (dvs : List V) (E : St → XK) (t : TA) : TE := fun σ H Q => t σ H fun vs H1 => ∀ x dx, H1 x = none → H1 dx = none → dx ≠ x →
  sp (.ref x :: (vs ++ dvs)) (upd (upd H1 dx (.own x)) x (.ins C dx [])) (fun v H2 => v = .non ∧ Q (.ref x) H2) (E σ)
theorem run_makeS {pins : List (Addr × Obj)} {σ : St} {H : Hp} {s : Shared} {Q : VK} {us : List Value} {vs : List V} (M : Mk X.K C f) (F : FnOk X.prog X.w X.K X.mg X.base CX k f fd ps sp) (hr : Room (k + 1) X.A) (hb : Binds X.K fd ps ds) (hd : Vals dvs ds)
    (hx : PassesAt CX X σ (E σ)) (I : Inv X pins σ H s) (r : Vals vs us)
    (h : ∀ x dx, H x = none → H dx = none → dx ≠ x → sp (.ref x :: (vs ++ dvs)) (upd (upd H dx (.own x)) x (.ins C dx [])) (fun v H2 => v = .non ∧ Q (.ref x) H2) (E σ)) :
    wpAny (model X.prog X.w) X.A (call (.ref C) us) (EP X pins σ Q) X.xe s := by
  have hq := h (s.heap.objs.size + 1) s.heap.objs.size (I.hok.fresh (Nat.le_succ _)) (I.hok.fresh (Nat.le_refl _)) (Nat.ne_of_lt (Nat.lt_succ_self _))
  have I2 := Inv.made (C := C) I
  have r2 : Vals (V.ref (s.heap.objs.size + 1) :: (vs ++ dvs)) (Value.ref (s.heap.objs.size + 1) :: (us ++ ds)) := .cons rfl (r.append hd)
  have hl : (Value.ref (s.heap.objs.size + 1) :: us ++ ds).length = ps.length := by
    have e := r2.length
    rw [F.len _ _ _ _ hq] at e
    exact e.symm
  refine wpAny_call (make_map (f := f) I.kIn M.makes M.init (beq_iff_eq.mp M.fn) (codeAny_mono (F.run _ X.stack _ _ ⟨Value.ref (s.heap.objs.size + 1) :: us, []⟩ (Value.ref (s.heap.objs.size + 1) :: (us ++ ds)) _ _ (E σ) (hr.make C us [])
    (I2.env0.make C us []) (hb _ (Value.ref (s.heap.objs.size + 1) :: us) I2.kIn hl) r2 hq) fun r s' hq' => ?_))
  cases r with
  | error e => exact hx pins _ _ e s' I2 hq'
  | ok fl =>
    cases fl with
    | ret u =>
      obtain ⟨v, H', I3, rv, ev, q3⟩ := I2.after hq'
      subst ev
      exact ⟨rv, ⟨V.ref (s.heap.objs.size + 1), H', I3, rfl, q3⟩⟩
    | next => exact False.elim hq'
    | brk => exact False.elim hq'
    | cont => exact False.elim hq'
theorem pe_makeS (M : Mk X.K C f) (F : FnOk X.prog X.w X.K X.mg X.base CX k f fd ps sp) (hr : Room (k + 1) X.A) (hg : Gl X x) (hm : X.mg x = some (.ref C)) (hb : Binds X.K fd ps ds) (hd : Vals dvs ds) (hx : ∀ σ, PassesAt CX X σ (E σ))
    (ha : PA X (e :: es) t) (hdb : (x == ("__debug__" : Str)) = false) (he : starEach (e :: es) X.env = (false, eval e X.env) :: starEach es X.env) (hpl : (backTo pos (starEach es X.env)).any (·.1) = false) :
    PE X (.Call (.Name x p) (e :: es) [] pos) (tMakeS C sp dvs E t) := by
  refine ⟨fun pins s σ H Q I h => ?_⟩
  refine wpAny_Call_Name_kw (ld_glob I hg hm ?_ hdb)
  refine PySem.W.callWith_K (h₀ := X.base) I.ok.mod.kin M.kp (thn (ha.run pos pins s σ H _ I h) fun us s1 ⟨vs, H1, I1, r, q⟩ => ⟨I1.kIn, ?_⟩) he hpl
  exact run_makeS M F hr hb hd (hx σ) I1 r q
end
theorem fx_mk {Ci : Nat} {dfl : List D} (F : MkC M x Ci ps k' dfl C) (hb : Bx X M N sc k G.W) (hk : k' + 1 ≤ k) (hg : sc.names.lookup x = some .globalImplicit) (hdb : (x == ("__debug__" : Str)) = false) (he : starEach (e :: es) X.env = (false, eval e X.env) :: starEach es X.env) (hpl : (backTo pos (starEach es X.env)).any (·.1) = false)
    (h : AX X M G (e :: es) ρ hc fun ds h' => nrL (ds ++ dfl) = true ∧ C (.ref 0 :: (ds ++ dfl)) [some (.ins Ci [])] (fun f d h2 => f = false ∧ d = .non ∧ ∃ fs, h2 = [some (.ins Ci fs)] ∧ nrF fs = true ∧ PF true (.ins Ci fs) h') fun c pl _ => nrPl pl = true ∧ G.PX c pl ρ h') : FX X M G (.Call (.Name x p) (e :: es) [] pos) ρ hc PF := by
  obtain ⟨f, fd, dvs, dus, M1, F1, F4, F5, F6⟩ := F.ex
  have gC := F.gC
  rw [← hb.hP, ← hb.hw, ← hb.hK, ← hb.hmg, ← hb.hbase] at F1
  rw [← hb.hmg] at gC
  rw [← hb.hK] at M1 F4
  refine .of (pe_makeS M1 F1 (hb.room.mono hk) (hb.gl hg) gC F4 F5 (fun σ => passAt hb.tk σ) pa_rd hdb he hpl) fun σ w H Q eh wk sk xc q => ?_
  refine h σ w H _ eh wk sk xc fun ds vs w1 H1 pd e1 k1 r1 y dy hy hdy ne => ?_
  have fy := le_none k1.le hy
  have fdy := le_none k1.le hdy
  have hw : WOk M (⟨w1.F, [y], [some (.ins Ci [])]⟩ : Wd) (upd (upd H1 dy (.own y)) y (.ins (M.ca Ci) dy [])) := by
    refine ⟨fun a o h => (((k1.le a o h).upd (ne_of_none h fdy)).upd (ne_of_none h fy)), rfl, fun i d h => ?_, fun i j a l1 l2 => ?_⟩
    · cases i with
      | zero =>
        simp at h; subst h
        exact ⟨y, _, rfl, fy, upd_same, rfl, .nil⟩
      | succ i => simp at h
    · obtain ⟨⟨_, h1⟩, _⟩ := l1
      obtain ⟨⟨_, h2⟩, _⟩ := l2
      cases i with
      | zero => cases j with
        | zero => rfl
        | succ j => simp at h2
      | succ i => simp at h1
  have rl : RepL M w1.F [y] (.ref y :: (vs ++ dvs)) (.ref 0 :: (ds ++ dfl)) := .cons (.ref rfl) (repL_nr (m := w1.m) (r1.append (F6 _ _)) pd.1)
  refine ⟨⟨w1.F, [y], [some (.ins Ci [])]⟩, _, _, _, hw, rl, pd.2, fun f d v w2 H2 hp e2 k2 r2 => ?_, fun c pl dd w2 H2 hp e2 k2 r2 => ?_⟩
  · obtain ⟨rfl, rfl, fs, hh, hn, pf⟩ := hp
    obtain ⟨e3, k3⟩ := one_back (o1 := .own y) k1 hy hdy ne (fun vs z => by cases z) k2 e2
    refine ⟨Rep.non_inv r2, ?_⟩
    obtain ⟨a, u, ha, fa, hu, c⟩ := k2.al 0 (.ins Ci fs) (by rw [hh]; rfl)
    rw [e2.mm 0 y rfl] at ha; cases ha
    refine q true _ _ { w1 with F := w2.F } H2 pf (e1.trans e3) k3 (RR.back e1 ⟨rfl, y, u, rfl, hu, fa, fun i l => ?_, .inl hy, cont_nr c (by simpa [okCell, D.nr] using hn)⟩)
    obtain ⟨⟨d', h'⟩, ha⟩ := l
    obtain ⟨a', u', h1, h2, h3, h4⟩ := k1.al i d' h'
    have ha : w1.m[i]? = some y := ha
    rw [ha] at h1; cases h1
    rw [hy] at h3; cases h3
  · obtain ⟨e3, k3⟩ := one_back (o1 := .own y) k1 hy hdy ne (fun vs z => by cases z) k2 e2
    exact xc c pl dd { w1 with F := w2.F } H2 hp.2 (e1.trans e3) k3 (pl_back hp.1 r2)
end
end Yl

set_option maxRecDepth 100000
set_option maxHeartbeats 4000000
/-! Y11z: one cell handed over. -/
namespace Yl
open PySem PySem.Spec PyProof.Rows L2
section
variable {M : Mx} {w w2 : Wd} {H H2 : Hp} {j : Nat} {a : Addr} {d0 d2 : D} {u0 : HO}
abbrev Wd.one (w : Wd) (a : Addr) (d : D) : Wd := ⟨w.F, [a], [some d]⟩
theorem one_live {i : Nat} {b : Addr} (l : Live (w.one a d0) i b) : i = 0 ∧ b = a := by
  obtain ⟨⟨d, h⟩, h2⟩ := l
  cases i with
  | zero => simp at h2; exact ⟨rfl, h2.symm⟩
  | succ i => simp at h
/-- the world of the cell j alone -/
theorem wok_one (k : WOk M w H) (hj : w.h[j]? = some (some d0)) (ha : w.m[j]? = some a) (hc : okCell d0 = true) : WOk M (w.one a d0) H := by
  refine ⟨k.le, rfl, fun i d h => ?_, fun i l b x y => by rw [(one_live x).1, (one_live y).1]⟩
  cases i with
  | zero =>
    simp at h; subst h
    obtain ⟨a', u, h1, h2, h3, h4⟩ := k.al j d0 hj
    rw [ha] at h1; cases h1
    exact ⟨a, u, rfl, h2, h3, cont_nr h4 hc⟩
  | succ i => simp at h
/-- .. and back: the cell has the content d2 -/
theorem one_put (k : WOk M w H) (hj : w.h[j]? = some (some d0)) (ha : w.m[j]? = some a) (k2 : WOk M w2 H2) (e : Ext (w.one a d0) H w2 H2) (h2 : w2.h[0]? = some (some d2)) (hc : okCell d2 = true) :
    Ext w H { w with F := w2.F, h := w.h.set j (some d2) } H2 ∧ WOk M { w with F := w2.F, h := w.h.set j (some d2) } H2 := by
  have la : Live w j a := ⟨⟨d0, hj⟩, ha⟩
  obtain ⟨a', u2, q1, q2, q3, q4⟩ := k2.al 0 d2 h2
  rw [e.mm 0 a rfl] at q1; cases q1
  have st : ∀ b u, H b = some u → b ≠ a → Kept w2.F H2 b u := fun b u h n => e.hh b u h fun i l => n (one_live l).2
  have nf : ∀ i b, Live w i b → w2.F b = none := fun i b l => by
    by_cases hb : b = a
    · subst hb; exact q2
    · obtain ⟨⟨d, h⟩, hm⟩ := l
      obtain ⟨b', u, z1, z2, z3, z4⟩ := k.al i d h
      rw [hm] at z1; cases z1
      cases q : w2.F b with
      | none => rfl
      | some o =>
        rcases e.fr b o q with z | z | ⟨vs, z⟩ | ⟨i, z⟩
        · have z : w.F b = some o := z
          rw [z2] at z; cases z
        · rw [z3] at z; cases z
        · rw [z3] at z; cases z; exact absurd z4 cell_notup
        · exact absurd (one_live z).2 hb
  have lv : ∀ i b, Live ({ w with F := w2.F, h := w.h.set j (some d2) } : Wd) i b → Live w i b := fun i b l => live_put (w := w) (o := some d2) l ⟨d0, hj⟩
  refine ⟨⟨e.ff, fun _ _ h => h, fun b u h n => st b u h fun q => n j (by rw [q]; exact la), e.nn, fun b o h => ?_, fun i b l => .inl ⟨i, lv i b l⟩⟩, ⟨k2.le, by simp [k.lm], fun i d h => ?_, fun i l b x y => k.inj i l b (lv i b x) (lv l b y)⟩⟩
  · rcases e.fr b o h with z | z | z | ⟨i, z⟩
    · exact .inl z
    · exact .inr (.inl z)
    · exact .inr (.inr (.inl z))
    · have := (one_live z).2
      subst this
      exact .inr (.inr (.inr ⟨j, la⟩))
  · have h : (w.h.set j (some d2))[i]? = some (some d) := h
    by_cases hi : j = i
    · subst hi
      rw [List.getElem?_set_self (List.getElem?_eq_some_iff.mp hj).1] at h
      cases h
      exact ⟨a, u2, ha, q2, q3, cont_nr q4 hc⟩
    · rw [List.getElem?_set_ne hi] at h
      obtain ⟨b, u, z1, z2, z3, z4⟩ := k.al i d h
      have nb : b ≠ a := fun q => hi (k.inj j i a la ⟨⟨d, h⟩, by rw [← q]; exact z1⟩)
      exact ⟨b, u, z1, nf i b ⟨⟨d, h⟩, z1⟩, (st b u z3 nb).no (nf i b ⟨⟨d, h⟩, z1⟩), z4.mono e.ff fun _ _ z => z⟩
end
section
variable {X : Cx} {M : Mx} {N : List Str} {sc : Scope} {k k' : Nat} {G : Gx} {ρ : Env} {hc : Hc} {PF : Bool → D → Hc → Prop} {e : Expr} {es : List Expr} {x : Str} {pos p : Pos} {ps : List Str} {C : Con}
/-- f(c, ..), c the only cell handed over -/
theorem fx_callZ {j : Nat} (F : FnC M x ps k' C) (hb : Bx X M N sc k G.W) (hk : k' ≤ k) (hg : sc.names.lookup x = some .globalImplicit) (hdb : (x == ("__debug__" : Str)) = false) (he : starEach (e :: es) X.env = (false, eval e X.env) :: starEach es X.env) (hpl : (backTo pos (starEach es X.env)).any (·.1) = false)
    (h : AX X M G (e :: es) ρ hc fun ds h' => ∃ ds' d0, ds = .ref j :: ds' ∧ nrL ds' = true ∧ h'[j]? = some (some d0) ∧ okCell d0 = true ∧ C (.ref 0 :: ds') [some d0] (fun f d h2 => f = false ∧ d.nr = true ∧ ∃ d2, h2 = [some d2] ∧ okCell d2 = true ∧ PF false d (h'.set j (some d2))) fun c pl h2 => nrPl pl = true ∧ ∃ d2, h2 = [some d2] ∧ okCell d2 = true ∧ G.PX c pl ρ (h'.set j (some d2))) : FX X M G (.Call (.Name x p) (e :: es) [] pos) ρ hc PF := by
  obtain ⟨f, fd, F1, F2, F3, F4⟩ := F.ex
  rw [← hb.hP, ← hb.hw, ← hb.hK, ← hb.hmg, ← hb.hbase] at F1
  rw [← hb.hmg] at F2
  rw [← hb.hK] at F3 F4
  refine .of (pe_callS F1 (hb.room.mono hk) (hb.gl hg) F2 F3 F4 (fun σ => passAt hb.tk σ) pa_rd hdb he hpl) fun σ w H Q eh wk sk xc q => ?_
  refine h σ w H _ eh wk sk xc fun ds vs w1 H1 pd e1 k1 r1 => ?_
  obtain ⟨ds', d0, rfl, hn, hj, hok, pd⟩ := pd
  obtain ⟨v, us, rfl, r2, r3⟩ := r1.cons_inv
  obtain ⟨a, ha, rfl⟩ := r2.ref_inv
  refine ⟨w1.one a d0, .ref 0 :: ds', _, _, wok_one k1 hj ha hok, .cons (.ref rfl) (repL_nr r3 hn), pd, fun f d v w2 H2 hp e2 k2 rr => ?_, fun c pl dd w2 H2 hp e2 k2 rp => ?_⟩
  · obtain ⟨rfl, hnd, d2, h2, ho2, pf⟩ := hp
    obtain ⟨e3, k3⟩ := one_put k1 hj ha k2 e2 (by rw [h2]; rfl) ho2
    exact q false d v { w1 with F := w2.F, h := w1.h.set j (some d2) } H2 pf (e1.trans e3) k3 (rep_nr rr hnd)
  · obtain ⟨hnp, d2, h2, ho2, pf⟩ := hp
    obtain ⟨e3, k3⟩ := one_put k1 hj ha k2 e2 (by rw [h2]; rfl) ho2
    refine xc c pl dd { w1 with F := w2.F, h := w1.h.set j (some d2) } H2 pf (e1.trans e3) k3 ?_
    cases pl with
    | none => exact rp
    | some fs =>
      obtain ⟨dx, vs, z1, z2, z3⟩ := rp
      exact ⟨dx, vs, z1, z2, frs_nr z3 hnp⟩
end
/-- what _law_draw keeps: a number below n, the cell as it was told -/
def conDraw : Con := fun ds h P _ => ∃ n : Nat, ds = [.ref 0, .int n] ∧ h = [some .zz] ∧ 0 < n ∧ n < 1000000000 ∧ ∀ i : Nat, i < n → P false (.int i) [some .zz]
end Yl

set_option maxRecDepth 100000
set_option maxHeartbeats 4000000
/-! Y11a: own classes: isinstance, ==, methods; texts put together; a cell handed over at any place. -/
namespace Yl
open PySem PySem.Spec PyProof.Rows L2
/-! ### facts of a class -/
structure OwnC (M : Mx) (C : Nat) : Prop where
  cls : Cls M.K (M.ca C)
  ca : PySem.W.findIn M.K (.ref (M.ca C)) "__class__" = some (some (.builtin "object.__class__"))
  cn : PySem.W.specialIn M.K (.builtin "object.__class__") "__get__" = some (some (.builtin "getset_descriptor.__get__"))
  ct : PySem.W.takesIn M.K (.builtin "object.__class__") = some true
  cm : PySem.W.mroIn M.K (M.ca C) (.type "object") = some true
  k1 : PySem.W.kitOne M.K (.ref (M.ca C)) (.ref (M.ca C)) = some true
  k0 : ∀ n, n ≤ 6 → PySem.W.kitOne M.K (.type (tyS n)) (.ref (M.ca C)) = some false
  si : PySem.W.subIn M.K (.type "int") (.ref (M.ca C)) = some false
theorem ownB_ok {M : Mx} {C : Nat} (c : Cls M.K (M.ca C)) (h : ownB M.K (M.ca C) = true) : OwnC M C := by
  unfold ownB at h
  simp only [Bool.and_eq_true, decide_eq_true_eq, List.all_eq_true, List.mem_range] at h
  obtain ⟨h1, h2, h3, hs, h4, h5, h6⟩ := h
  exact ⟨c, h1, h2, h3, h4, h5, fun n hn => h6 n (by omega), hs⟩
/-- a method of a class, by its contract -/
structure MeC (M : Mx) (C : Nat) (m : Str) (ps : List Str) (k : Nat) (Cn : Con) : Prop where
  ex : ∃ f fd, FnOk M.P M.w M.K M.mg M.base (L2.CX M.P M.w) k f fd ps (spC M Cn) ∧ Meth M.K (M.ca C) m f ∧ Binds M.K fd ps []
  cls : Cls M.K (M.ca C)
section
variable {X : Cx} {M : Mx} {N : List Str} {sc : Scope} {k k' : Nat} {W : WX} {G : Gx} {ρ : Env} {hc : Hc} {P : D → Hc → Prop} {PF : Bool → D → Hc → Prop} {B : Bool → Hc → Prop} {a b c e o : Expr} {es : List Expr} {x m : Str} {pos p apos : Pos} {ps : List Str} {C : Con}
/-! ### isinstance(x, C), C an own class -/
theorem tyx_ins {w : Wd} {H : Hp} {v : V} {Ci : Nat} {fs : List (Tx × D)} (wk : WOk M w H) (O : OwnC M Ci) (r : Rep M w.F w.m v (.ins Ci fs)) : TyX M.K H v (.ref (M.ca Ci)) := by
  cases r with
  | ins h _ _ _ => exact .base (.ins ((wk.le _ _ h).2 rfl) O.cls O.ca O.cn O.ct O.cm)
/-! ### a == b by an own __eq__ -/
def rEqI (C : Addr) (sp : Sp) : R2 := fun x y H Q => ∃ p q dx dy fs gs, x = .ref p ∧ y = .ref q ∧ H p = some (.ins C dx fs) ∧ H q = some (.ins C dy gs) ∧ sp [x, y] H Q E0
theorem back_of {P : Value → Shared → Prop} {z : V} {v : Value} {s' : Shared} (r : RelV z v) (h : P v s') : PySem.W.CmpBack P v s' := by
  cases z <;> first
    | (obtain ⟨t, e⟩ := r; cases e; exact h)
    | (cases r; exact h)
theorem op_eqI {Ca f : Addr} {fd : FuncData} {sp : Sp} {kk : Nat} (F : FnOk X.prog X.w X.K X.mg X.base (L2.CX X.prog X.w) kk f fd ps sp) (hr : Room kk X.A) (hb : Binds X.K fd ps []) (hm : Meth X.K Ca "__eq__" f) : OpR X (compareOp .Eq) (rEqI Ca sp) := by
  intro pins s σ H x y v u Q I rx ry h
  obtain ⟨p, q, dx, dy, fs, gs, rfl, rfl, hp, hq, h⟩ := h
  cases (show v = Value.ref p from rx)
  cases (show u = Value.ref q from ry)
  obtain ⟨mA, O, _⟩ := ins_get I.hok hp
  obtain ⟨mB, O', _⟩ := ins_get I.hok hq
  obtain ⟨od, J, _⟩ := O.look
  obtain ⟨od', J', _⟩ := O'.look
  obtain ⟨m, hF⟩ := I.fr
  show wpAny (model X.prog X.w) X.A (richCompare .Eq (.ref p) (.ref q)) _ _ s
  refine PySem.W.cmp_K (op := .Eq) (tb := .ref Ca) hr.units0 hF I.ok.mod.kin J J'.type (by unfold PySem.W.notFirst; rw [beq_self_eq_true]; rfl) hm.at_ hm.fn ?_
  refine wpAny_mono (run_fnS (us := [.ref p, .ref q]) (vs := [.ref p, .ref q]) (E := fun _ => E0) F hr hb (fun pins H s e s' I c => passL pins σ H s e s' I c) I (.cons rfl (.cons rfl .nil)) h) (fun w s' z => ?_) fun _ _ x => x
  obtain ⟨z', H', I', rz, qz⟩ := z
  exact back_of rz ⟨z', H', I', rz, qz⟩
theorem ins_of {w : Wd} {H : Hp} {v : V} {Ci : Nat} {fs : List (Tx × D)} (wk : WOk M w H) (r : Rep M w.F w.m v (.ins Ci fs)) : ∃ a dx vs, v = .ref a ∧ H a = some (.ins (M.ca Ci) dx vs) ∧ At (FR M w.F w.m) vs fs := by
  cases r with
  | ins h l k r => exact ⟨_, _, _, rfl, (wk.le _ _ h).2 rfl, l, fun i v d e f => ⟨k i v d e f, r i v d e f⟩⟩
theorem fx_eqI {Ci : Nat} (F : MeC M Ci "__eq__" ps k' C) (hb : Bx X M N sc k G.W) (hk : k' ≤ k) (hm : behindInMarks .Eq b = false)
    (h : EX X M G a ρ hc fun x h1 => EX X M G b ρ h1 fun y h2 => ∃ fs gs, x = .ins Ci fs ∧ y = .ins Ci gs ∧ nrL [x, y] = true ∧ C [x, y] [] (fun f d _ => d.nr = true ∧ PF f d h2) fun _ _ _ => False) : FX X M G (.Compare a [.Eq] [b] pos) ρ hc PF := by
  obtain ⟨f, fd, F1, F2, F3⟩ := F.ex
  rw [← hb.hP, ← hb.hw, ← hb.hK, ← hb.hmg, ← hb.hbase] at F1
  rw [← hb.hK] at F2 F3
  refine .of (pe_cmpR (op_eqI F1 (hb.room.mono hk) F3 F2) pe_rd pe_rd hm) fun σ w H Q eh wk sk xc q => h σ w H _ eh wk sk xc fun x v w1 H1 hp e1 k1 r1 => hp σ w1 H1 _ rfl k1 (sk.ext e1) (xc.ext e1) fun y u w2 H2 hq e2 k2 r2 => ?_
  obtain ⟨fs, gs, rfl, rfl, hn, hC⟩ := hq
  have r1' := r1.mono e2.ff e2.mm
  obtain ⟨p, dx, vs, rfl, hp1, _⟩ := ins_of k2 r1'
  obtain ⟨p2, dy, vs2, rfl, hp2, _⟩ := ins_of k2 r2
  refine ⟨p, p2, dx, dy, vs, vs2, rfl, rfl, hp1, hp2, w2.bare, _, _, _, wok_bare k2, repL_nr (m := w2.m) (.cons r1' (.cons r2 .nil)) hn, hC, fun f d v w3 H3 hp e3 k3 r3 => ?_, fun c pl dd w3 H3 hp => hp.elim⟩
  obtain ⟨e4, k4⟩ := bare_back k2 k3 e3
  exact q f d v { w2 with F := w3.F } H3 hp.2 ((e1.trans e2).trans e4) k4 ((rr_back k2 k3 e3 hp.1 r3).back (e1.trans e2))
theorem tx_eqI {Ci : Nat} (F : MeC M Ci "__eq__" ps k' C) (hb : Bx X M N sc k G.W) (hk : k' ≤ k) (hm : behindInMarks .Eq b = false)
    (h : EX X M G a ρ hc fun x h1 => EX X M G b ρ h1 fun y h2 => ∃ fs gs, x = .ins Ci fs ∧ y = .ins Ci gs ∧ nrL [x, y] = true ∧ C [x, y] [] (fun f d _ => f = false ∧ ∃ v, d = .bl v ∧ B v h2) fun _ _ _ => False) : TX X M G (.Compare a [.Eq] [b] pos) ρ hc B := by
  obtain ⟨f, fd, F1, F2, F3⟩ := F.ex
  rw [← hb.hP, ← hb.hw, ← hb.hK, ← hb.hmg, ← hb.hbase] at F1
  rw [← hb.hK] at F2 F3
  refine .of (pt_cmpR (op_eqI F1 (hb.room.mono hk) F3 F2) pe_rd pe_rd hm) fun σ w H Q eh wk sk xc q => h σ w H _ eh wk sk xc fun x v w1 H1 hp e1 k1 r1 => hp σ w1 H1 _ rfl k1 (sk.ext e1) (xc.ext e1) fun y u w2 H2 hq e2 k2 r2 => ?_
  obtain ⟨fs, gs, rfl, rfl, hn, hC⟩ := hq
  have r1' := r1.mono e2.ff e2.mm
  obtain ⟨p, dx, vs, rfl, hp1, _⟩ := ins_of k2 r1'
  obtain ⟨p2, dy, vs2, rfl, hp2, _⟩ := ins_of k2 r2
  refine ⟨p, p2, dx, dy, vs, vs2, rfl, rfl, hp1, hp2, w2.bare, _, _, _, wok_bare k2, repL_nr (m := w2.m) (.cons r1' (.cons r2 .nil)) hn, hC, fun f d v w3 H3 hp e3 k3 r3 => ?_, fun c pl dd w3 H3 hp => hp.elim⟩
  obtain ⟨rfl, b, rfl, hB⟩ := hp
  obtain ⟨e4, k4⟩ := bare_back k2 k3 e3
  have r3 : Rep M w3.F w3.m v (.bl b) := r3
  exact ⟨b, r3.bl_inv, q b { w2 with F := w3.F } H3 hB ((e1.trans e2).trans e4) k4⟩
/-! ### o.m(e, ..), o an instance that is read -/
def tMethP (Ca : Addr) (m : Str) (sp : Sp) (E : St → XK) (to : TE) (t : TA) : TE := fun σ H Q => to σ H fun x H1 => ∃ a dx fs, x = .ref a ∧ H1 a = some (.ins Ca dx fs) ∧ fs.lookup m = none ∧ t σ H1 fun vs H2 => sp (x :: vs) H2 Q (E σ)
theorem pe_methP {pl : Sem Bool} {Ca f : Addr} {fd : FuncData} {sp : Sp} {kk : Nat} {E : St → XK} {to : TE} {t : TA} (ho : PE X o to) (c : Cls X.K Ca) (hm : Meth X.K Ca m f) (F : FnOk X.prog X.w X.K X.mg X.base (L2.CX X.prog X.w) kk f fd ps sp) (hr : Room kk X.A) (hb : Binds X.K fd ps []) (hx : ∀ σ, PassesAt (L2.CX X.prog X.w) X σ (E σ)) (ha : PA X (e :: es) t)
    (hst : starEach (e :: es) X.env = (false, eval e X.env) :: starEach es X.env) (hpl : (backTo pos (starEach es X.env)).any (·.1) = false)
    (ht : eval (.Call (.Attribute o m apos) (e :: es) [] pos) X.env = (do let ov ← eval o X.env; standAt apos.atName; let (f, first) ← holding [ov] (getMethod ov m pl); callWith pos f first (backTo pos (starEach (e :: es) X.env)) (backToKw pos (keywordEach [] X.env)))) :
    PE X (.Call (.Attribute o m apos) (e :: es) [] pos) (tMethP Ca m sp E to t) := ⟨fun pins s σ H Q I h => PySem.W.methodCall_KW (pl := pl) (thn (ho.run pins s σ H _ I h) fun u s1 z => by
  obtain ⟨x, H1, I1, rx, a, dx, fs, ex, ea, l, q⟩ := z
  subst ex
  obtain rfl : u = Value.ref a := rx
  refine getmeth_ok I1 ea c hm l (PySem.W.callWith_K (first := [.ref a]) (h₀ := X.base) I.ok.mod.kin hm.kp (thn (ha.run pos pins s1 σ H1 _ I1 q) fun us s2 y => ?_) hst hpl)
  obtain ⟨vs, H2, I2, r, q2⟩ := y
  exact ⟨I2.kIn, run_fnS (us := .ref a :: us) (vs := .ref a :: vs) F hr hb (hx σ) I2 (.cons rfl r) q2⟩) ht⟩
theorem pe_methP0 {pl : Sem Bool} {Ca f : Addr} {fd : FuncData} {sp : Sp} {kk : Nat} {E : St → XK} {to : TE} (ho : PE X o to) (c : Cls X.K Ca) (hm : Meth X.K Ca m f) (F : FnOk X.prog X.w X.K X.mg X.base (L2.CX X.prog X.w) kk f fd ps sp) (hr : Room kk X.A) (hb : Binds X.K fd ps []) (hx : ∀ σ, PassesAt (L2.CX X.prog X.w) X σ (E σ))
    (ht : eval (.Call (.Attribute o m apos) [] [] pos) X.env = (do let ov ← eval o X.env; standAt apos.atName; let (f, first) ← holding [ov] (getMethod ov m pl); callWith pos f first (backTo pos (starEach [] X.env)) (backToKw pos (keywordEach [] X.env)))) :
    PE X (.Call (.Attribute o m apos) [] [] pos) (tMethP Ca m sp E to tNil) := ⟨fun pins s σ H Q I h => PySem.W.methodCall_KW (pl := pl) (thn (ho.run pins s σ H _ I h) fun u s1 z => by
  obtain ⟨x, H1, I1, rx, a, dx, fs, ex, ea, l, q⟩ := z
  subst ex
  obtain rfl : u = Value.ref a := rx
  exact getmeth_ok I1 ea c hm l (PySem.W.callWith_K0 (first := [.ref a]) I1.kIn hm.kp (run_fnS (us := [.ref a]) (vs := [.ref a]) F hr hb (hx σ) I1 (.cons rfl .nil) q))) ht⟩
/-! ### texts put together -/
def JX (X : Cx) (M : Mx) (G : Gx) (es : List Expr) (acc : Tx) (ρ : Env) (h : Hc) (P : Tx → Hc → Prop) : Prop := ∀ σ w H (Q : Str → Hp → Prop), w.h = h → WOk M w H → SOk M w σ ρ → XC M G w H σ ρ → (∀ x w1 H1, P x w1.h → Ext w H w1 H1 → WOk M w1 H1 → Q (ts x) H1) → tJs (es.map (rdE X)) (ts acc) σ H Q
theorem jx_nil {acc : Tx} {P : Tx → Hc → Prop} (h : P acc hc) : JX X M G [] acc ρ hc P := fun σ w H Q eh wk sk xc q => q acc w H (by rw [eh]; exact h) Ext.refl wk
theorem jx_cons {acc : Tx} {P : Tx → Hc → Prop} (h : EX X M G e ρ hc fun d h1 => ∃ y, d = .str y ∧ acc.length + y.length ≤ lim ∧ JX X M G es (acc ++ y) ρ h1 P) : JX X M G (e :: es) acc ρ hc P := fun σ w H Q eh wk sk xc q => h σ w H _ eh wk sk xc fun d v w1 H1 p e1 k1 r1 => by
  obtain ⟨y, rfl, hl, p⟩ := p
  refine ⟨ts y, r1.str_inv, ?_, ?_⟩
  · rw [ts_app, ts_len, List.length_append, ← lim_eq]; exact hl
  · rw [ts_app]
    exact p σ w1 H1 Q rfl k1 (sk.ext e1) (xc.ext e1) fun x w2 H2 px e2 k2 => q x w2 H2 px (e1.trans e2) k2
theorem pj_rd : ∀ {es : List Expr}, PJ X es (es.map (rdE X))
  | [] => .nil
  | _ :: _ => .cons pe_rd pj_rd
theorem ex_joined {e2 : Expr} (h : JX X M G (e :: e2 :: es) [] ρ hc fun x h1 => P (.str x) h1) : EX X M G (.JoinedStr (e :: e2 :: es) pos) ρ hc P := .of (pe_joined pj_rd) fun σ w H Q eh wk sk xc q => h σ w H _ eh wk sk xc fun x w1 H1 p e1 k1 => q _ _ w1 H1 p e1 k1 (.str x)
theorem dig_eq : ∀ n, n < 100 → (Str.ofString (toString ((n : Nat) : Int))) = ts (digits n) := by
  have : (List.range 100).all (fun n => decide (Str.ofString (toString ((n : Nat) : Int)) = ts (digits n))) = true := by decide +kernel
  intro n hn
  exact of_decide_eq_true (List.all_eq_true.mp this n (List.mem_range.mpr hn))
theorem dig_int {i : Int} (h0 : 0 ≤ i) (h1 : i < 100) : (Str.ofString (toString i)) = ts (digits i.toNat) ∧ i.natAbs.log2 < 1920 := by
  obtain ⟨n, rfl⟩ := Int.eq_ofNat_of_zero_le h0
  refine ⟨dig_eq n (by omega), ?_⟩
  have : n.log2 ≤ n := Nat.log2_le_self n
  show Nat.log2 n < 1920
  omega
theorem ex_fmt (h : EX X M G e ρ hc fun d h1 => (∃ y, d = .str y ∧ y.length ≤ lim ∧ P (.str y) h1) ∨ ∃ i : Int, d = .int i ∧ 0 ≤ i ∧ i < 100 ∧ P (.str (digits i.toNat)) h1) : EX X M G (.FormattedValue e (-1) none pos) ρ hc P := .of (pe_fmt pe_rd) fun σ w H Q eh wk sk xc q => h σ w H _ eh wk sk xc fun d v w1 H1 p e1 k1 r1 => by
  rcases p with ⟨y, rfl, hl, p⟩ | ⟨i, rfl, h0, h1, p⟩
  · exact .inl ⟨ts y, r1.str_inv, by rw [ts_len, ← lim_eq]; exact hl, q _ _ w1 H1 p e1 k1 (.str y)⟩
  · refine .inr ⟨i, r1.int_inv, (dig_int h0 h1).2, ?_⟩
    have e := (dig_int h0 h1).1
    have e2 : (V.str (toString i) : V) = V.str (ts (digits i.toNat)) := congrArg V.str e
    rw [e2]
    exact q _ _ w1 H1 p e1 k1 (.str _)
/-! ### one cell handed over, at any place -/
theorem repL_one {F : Hp} {m : List Addr} {j : Nat} {aj : Addr} (hj : m[j]? = some aj) : ∀ {pre : List D} {vs : List V} {post : List D}, RepL M F m vs (pre ++ .ref j :: post) → nrL pre = true → nrL post = true → RepL M F [aj] vs (pre ++ .ref 0 :: post)
  | [], vs, post, r, _, h2 => by
    obtain ⟨v, us, rfl, r1, r2⟩ := At.cons_inv r
    obtain ⟨a', ha, rfl⟩ := r1.ref_inv
    rw [hj] at ha; cases ha
    exact .cons (.ref rfl) (repL_nr r2 h2)
  | d :: pre, vs, post, r, h1, h2 => by
    obtain ⟨v, us, rfl, r1, r2⟩ := At.cons_inv r
    simp only [nrL, Bool.and_eq_true_iff] at h1
    exact .cons (rep_nr r1 h1.1) (repL_one hj r2 h1.2 h2)
theorem rr_one {w w2 : Wd} {H H2 : Hp} {j : Nat} {aj : Addr} {d0 d2 d : D} {f : Bool} {v : V} (k : WOk M w H) (hj : w.h[j]? = some (some d0)) (ha : w.m[j]? = some aj) (k2 : WOk M w2 H2) (e : Ext (w.one aj d0) H w2 H2) (h2 : w2.h[0]? = some (some d2)) (hn : d.nr = true) (r : RR M (w.one aj d0) H w2 H2 v f d) : RR M w H { w with F := w2.F, h := w.h.set j (some d2) } H2 v f d := by
  cases f with
  | false => exact rep_nr r hn
  | true =>
    obtain ⟨b, p, u, rfl, hp, fp, nl, h0, c⟩ := r
    have hpn : H p = none := by
      rcases h0 with h0 | ⟨i, h0⟩
      · exact h0
      · have := (one_live h0).2
        subst this
        exact absurd ⟨⟨d2, h2⟩, e.mm 0 p rfl⟩ (nl 0)
    refine ⟨b, p, u, rfl, hp, fp, fun i l => ?_, .inl hpn, cont_nr c (by cases d <;> first | exact hn | cases b)⟩
    obtain ⟨u', z, _⟩ := live_some k (live_put (w := w) (o := some d2) l ⟨d0, hj⟩)
    rw [hpn] at z; cases z
theorem fx_callY (F : FnC M x ps k' C) (hb : Bx X M N sc k G.W) (hk : k' ≤ k) (hg : sc.names.lookup x = some .globalImplicit) (hdb : (x == ("__debug__" : Str)) = false) (he : starEach (e :: es) X.env = (false, eval e X.env) :: starEach es X.env) (hpl : (backTo pos (starEach es X.env)).any (·.1) = false)
    (h : AX X M G (e :: es) ρ hc fun ds h' => ∃ pre post j d0, ds = pre ++ .ref j :: post ∧ nrL pre = true ∧ nrL post = true ∧ h'[j]? = some (some d0) ∧ okCell d0 = true ∧ C (pre ++ .ref 0 :: post) [some d0] (fun f d h2 => d.nr = true ∧ ∃ d2 r, h2 = some d2 :: r ∧ okCell d2 = true ∧ PF f d (h'.set j (some d2))) fun c pl h2 => nrPl pl = true ∧ ∃ d2 r, h2 = some d2 :: r ∧ okCell d2 = true ∧ G.PX c pl ρ (h'.set j (some d2))) : FX X M G (.Call (.Name x p) (e :: es) [] pos) ρ hc PF := by
  obtain ⟨f, fd, F1, F2, F3, F4⟩ := F.ex
  rw [← hb.hP, ← hb.hw, ← hb.hK, ← hb.hmg, ← hb.hbase] at F1
  rw [← hb.hmg] at F2
  rw [← hb.hK] at F3 F4
  refine .of (pe_callS F1 (hb.room.mono hk) (hb.gl hg) F2 F3 F4 (fun σ => passAt hb.tk σ) pa_rd hdb he hpl) fun σ w H Q eh wk sk xc q => ?_
  refine h σ w H _ eh wk sk xc fun ds vs w1 H1 pd e1 k1 r1 => ?_
  obtain ⟨pre, post, j, d0, rfl, hn1, hn2, hj, hok, pd⟩ := pd
  obtain ⟨a, u, ha, fa, hu, cu⟩ := k1.al j d0 hj
  refine ⟨w1.one a d0, _, _, _, wok_one k1 hj ha hok, repL_one ha r1 hn1 hn2, pd, fun f d v w2 H2 hp e2 k2 rr => ?_, fun c pl dd w2 H2 hp e2 k2 rp => ?_⟩
  · obtain ⟨hnd, d2, rr2, h2, ho2, pf⟩ := hp
    obtain ⟨e3, k3⟩ := one_put k1 hj ha k2 e2 (by rw [h2]; rfl) ho2
    exact q f d v { w1 with F := w2.F, h := w1.h.set j (some d2) } H2 pf (e1.trans e3) k3 ((rr_one k1 hj ha k2 e2 (by rw [h2]; rfl) hnd rr).back e1)
  · obtain ⟨hnp, d2, rr2, h2, ho2, pf⟩ := hp
    obtain ⟨e3, k3⟩ := one_put k1 hj ha k2 e2 (by rw [h2]; rfl) ho2
    refine xc c pl dd { w1 with F := w2.F, h := w1.h.set j (some d2) } H2 pf (e1.trans e3) k3 ?_
    cases pl with
    | none => exact rp
    | some fs =>
      obtain ⟨dx, vs, z1, z2, z3⟩ := rp
      exact ⟨dx, vs, z1, z2, frs_nr z3 hnp⟩
end
end Yl

set_option maxRecDepth 100000
set_option maxHeartbeats 4000000
/-! Y11b: more forms: starts, ends, targets that are tuples, += on whole numbers. -/
namespace Yl
open PySem PySem.Spec PyProof.Rows L2
/-! ### texts -/
theorem startsT_pre : ∀ (x y : Tx), startsT x y = (x.take y.length == y)
  | x, [] => by cases x <;> rfl
  | [], b :: y => by
    show false = ([] == b :: y)
    rfl
  | a :: x, b :: y => by
    show (Nat.beq a b && startsT x y) = ((a :: x.take y.length) == (b :: y))
    rw [startsT_pre x y, List.cons_beq_cons]
    have : Nat.beq a b = (a == b) := by rw [Bool.eq_iff_iff]; simp
    rw [this]
theorem starts_eq (x y : Tx) : Txt.startswith (ts x) (ts y) = startsT x y := by
  rw [startsT_pre]
  unfold Txt.startswith
  rw [StrLaws.subAt_eq, ts_list, ts_list, ts_len, ts_len, List.drop_zero]
  by_cases h : y.length ≤ x.length
  · rw [decide_eq_true (by omega : 0 + y.length ≤ x.length)]; rfl
  · rw [decide_eq_false (by omega : ¬ 0 + y.length ≤ x.length)]
    have : (x.take y.length == y) = false := by
      rw [beq_eq_false_iff_ne]
      intro e
      have := congrArg List.length e
      rw [List.length_take] at this
      omega
    rw [this]; rfl
theorem ends_eq (x y : Tx) : Txt.endswith (ts x) (ts y) = endsT x y := by
  unfold endsT
  rw [startsT_pre]
  unfold Txt.endswith
  rw [StrLaws.subAt_eq, ts_list, ts_list, ts_len, ts_len]
  by_cases h : y.length ≤ x.length
  · rw [decide_eq_true (by omega : 0 + y.length ≤ x.length)]
    have e1 : (x.drop (x.length - y.length)).take y.length = x.drop (x.length - y.length) := List.take_of_length_le (by rw [List.length_drop]; omega)
    have e2 : x.reverse.take y.reverse.length = (x.drop (x.length - y.length)).reverse := by
      rw [List.length_reverse, List.take_reverse]
    rw [e1, e2, Bool.eq_iff_iff]
    simp
  · rw [decide_eq_false (by omega : ¬ 0 + y.length ≤ x.length)]
    have : (x.reverse.take y.reverse.length == y.reverse) = false := by
      rw [beq_eq_false_iff_ne]
      intro e
      have := congrArg List.length e
      rw [List.length_take, List.length_reverse, List.length_reverse] at this
      omega
    rw [this]; rfl
section
variable {X : Cx} {M : Mx} {N : List Str} {sc : Scope} {k k' : Nat} {W : WX} {G : Gx} {ρ : Env} {hc : Hc} {P : D → Hc → Prop} {PF : Bool → D → Hc → Prop} {S : Out → Prop} {a b c e o tg : Expr} {es : List Expr} {x m : Str} {pos p apos : Pos} {ps : List Str} {C : Con}
theorem fx_starts (hb : Bw X M N sc) (hs : starEach [e] X.env = [(false, eval e X.env)]) (hbase : attributeBase o "startswith" X.env (eval o X.env) = eval o X.env) (hline : (apos.endLine == pos.line) = true)
    (h : EX X M G o ρ hc fun x h1 => ∃ z, x = .str z ∧ EX X M G e ρ h1 fun y h2 => ∃ c, y = .str c ∧ PF false (.bl (startsT z c)) h2) : FX X M G (.Call (.Attribute o "startswith" apos) [e] [] pos) ρ hc PF :=
  fx_m1 PySem.F.slot_str_startswith PySem.F.type_str_startswith mt_startswith hs hbase hline (EX.mono h fun x h1 p => by
    obtain ⟨z, rfl, p⟩ := p
    refine ⟨z, rfl, EX.mono p fun y h2 p => ?_⟩
    obtain ⟨c, rfl, pf⟩ := p
    refine ⟨false, _, pf, fun u w H Q eh wk r k => ⟨ts z, ts c, rfl, by rw [r.str_inv], ?_⟩⟩
    rw [starts_eq]
    exact k.here wk (.bl _))
theorem fx_ends (hb : Bw X M N sc) (hs : starEach [e] X.env = [(false, eval e X.env)]) (hbase : attributeBase o "endswith" X.env (eval o X.env) = eval o X.env) (hline : (apos.endLine == pos.line) = true)
    (h : EX X M G o ρ hc fun x h1 => ∃ z, x = .str z ∧ EX X M G e ρ h1 fun y h2 => ∃ c, y = .str c ∧ PF false (.bl (endsT z c)) h2) : FX X M G (.Call (.Attribute o "endswith" apos) [e] [] pos) ρ hc PF :=
  fx_m1 PySem.F.slot_str_endswith PySem.F.type_str_endswith mt_endswith hs hbase hline (EX.mono h fun x h1 p => by
    obtain ⟨z, rfl, p⟩ := p
    refine ⟨z, rfl, EX.mono p fun y h2 p => ?_⟩
    obtain ⟨c, rfl, pf⟩ := p
    refine ⟨false, _, pf, fun u w H Q eh wk r k => ⟨ts z, ts c, rfl, by rw [r.str_inv], ?_⟩⟩
    rw [ends_eq]
    exact k.here wk (.bl _))
/-- a, b = e -/
theorem sx_setT {T : List Nat} (hs : swapsWithSole [tg] e pos.line X.env = pure false) (hw : swappedStores [tg] e X.env = pure none) (h1 : (assignEach [tg] X.env).map (·.2) = [assign tg X.env])
    (h : EX X M G e ρ hc fun d h' => GX X M T tg d ρ fun ρ' => S (.nx ρ' h')) : SX X M G (.Assign [tg] e pos) ρ hc S :=
  .of (ps_asg pe_rd pg_rd hs hw h1) fun w0 H0 σ w H D eh ex wk sk xc q =>
    h σ w H _ eh wk sk (xc.xc ex sk) fun d v w1 H1 p e1 k1 r => p v σ w1 H1 _ k1 (sk.ext e1) r fun σ' ρ' pS sk' l => q _ pS _ w1 H1 rfl (ex.trans e1) k1 sk'
/-- x += e, whole numbers -/
theorem sx_augI (i : Nat) {j : Int} {pos' : Pos} (hb : Bw X M N sc) (hi : ρ[i]? = some (some (.int j))) (h : EX X M G e ρ hc fun d h' => ∃ z, d = .int z ∧ S (.nx (ρ.set i (some (.int (j + z)))) h')) (hN : N[i]? = some x) (hl : Sto X sc x) :
    SX X M G (.AugAssign (.Name x pos') .Add e pos) ρ hc S :=
  .of (ps_aug (i := i) (by rw [hb.hN]; exact hb.nd) (by rw [hb.hN]; exact hN) (loc_hf hb hl).1 pe_rd ip_add (loc_hf hb hl).2) fun w0 H0 σ w H D eh ex wk sk xc q => by
    obtain ⟨v, hv, r0⟩ := sk.sl i _ hi
    refine ⟨v, hv, h σ w H _ eh wk sk (xc.xc ex sk) fun d u w1 H1 p e1 k1 r => ?_⟩
    obtain ⟨z, rfl, p⟩ := p
    exact ⟨j, z, r0.int_inv, r.int_inv, q _ p _ w1 H1 rfl (ex.trans e1) k1 ((sk.ext e1).set (.int _))⟩
end
end Yl

set_option maxRecDepth 100000
set_option maxHeartbeats 4000000
/-! Y11c: an instance with a list of its own: read as one tree; handed over with its list; made. -/
namespace Yl
open PySem PySem.Spec PyProof.Rows L2
/-! ### two cells read as one tree -/
open Classical in
noncomputable def Wd.brw (w : Wd) (H : Hp) : Wd := ⟨fun a => if (∃ i, Live w i a) ∧ ∃ u, H a = some u ∧ lk u = false then H a else w.F a, [], []⟩
open Classical in
noncomputable def Wd.rst (w : Wd) (F2 : Hp) : Wd := { w with F := fun a => if ∃ i, Live w i a then none else F2 a }
section
variable {M : Mx} {w w2 : Wd} {H H2 : Hp}
open Classical in
theorem brw_at {i : Nat} {a : Addr} {u : HO} (l : Live w i a) (h : H a = some u) (n : lk u = false) : (w.brw H).F a = some u := by
  show (if _ then _ else _) = _
  rw [if_pos ⟨⟨i, l⟩, u, h, n⟩]; exact h
open Classical in
theorem brw_no {a : Addr} (l : ∀ i, ¬ Live w i a) : (w.brw H).F a = w.F a := by
  show (if _ then _ else _) = _
  rw [if_neg (fun z => l _ z.1.choose_spec)]
open Classical in
theorem brw_lk {a : Addr} {u : HO} (h : H a = some u) (n : lk u = true) : (w.brw H).F a = w.F a := by
  show (if _ then _ else _) = _
  rw [if_neg]
  rintro ⟨_, u', h', n'⟩
  rw [h] at h'; cases h'
  rw [n] at n'; cases n'
theorem brw_sub (k : WOk M w H) : Sub w.F (w.brw H).F := fun a o h => by
  rw [brw_no (fun i l => by
    obtain ⟨_, _, z⟩ := live_some k l
    rw [h] at z; cases z)]
  exact h
theorem brw_nolive {i : Nat} {a : Addr} : ¬ Live (w.brw H) i a := fun ⟨⟨d, h⟩, _⟩ => by simp [Wd.brw] at h
open Classical in
theorem brw_ok (k : WOk M w H) : WOk M (w.brw H) H := by
  refine ⟨fun a o h => ?_, rfl, fun i d h => by simp [Wd.brw] at h, fun i j a x => absurd x brw_nolive⟩
  have h : (if (∃ i, Live w i a) ∧ ∃ u, H a = some u ∧ lk u = false then H a else w.F a) = some o := h
  split at h
  · exact .of h
  · exact k.le a o h
theorem lk_box {F : Hp} {m : List Addr} {d : D} {u : HO} (c : Cont M F m d u) (b : boxL d = true) : lk u = false ∧ boxd d = true := by
  cases d <;> first | (cases b; done) | skip
  all_goals cases u <;> first | exact c.elim | exact ⟨rfl, rfl⟩
theorem rep_frz1 (k : WOk M w H) {v : V} {d d' : D} (r : Rep M w.F w.m v d) (e : frz1 w.h d = some d') : Rep M (w.brw H).F [] v d' := by
  have flat : d.nr = true → d' = d → Rep M (w.brw H).F [] v d' := fun hn e => by
    rw [e]
    exact (rep_nr (m' := []) r hn).mono (brw_sub k) fun _ _ z => z
  unfold frz1 at e
  split at e
  · rename_i j
    split at e
    · rename_i c hj
      split at e
      · rename_i hc
        cases e
        rw [Bool.and_eq_true_iff] at hc
        obtain ⟨a, ha, rfl⟩ := r.ref_inv
        obtain ⟨a', u, h1, h2, h3, h4⟩ := k.al j d' hj
        rw [ha] at h1; cases h1
        obtain ⟨l, b⟩ := lk_box h4 hc.1
        exact rep_box b (brw_at ⟨⟨_, hj⟩, ha⟩ h3 l) ((cont_nr h4 (by cases d' <;> first | (cases b; done) | exact hc.2)).mono (brw_sub k) fun _ _ z => z)
      · cases e
    · cases e
  · split at e
    · rename_i hn
      cases e
      exact flat hn rfl
    · cases e
theorem frs_frz (k : WOk M w H) : ∀ {fs gs : List (Tx × D)} {vs : List (Str × V)}, At (FR M w.F w.m) vs fs → frzF w.h fs = some gs → At (FR M (w.brw H).F []) vs gs
  | [], gs, vs, r, e => by
    cases e
    rw [r.nil_inv]; exact .nil
  | (n, d) :: fs, gs, vs, r, e => by
    obtain ⟨⟨n', v⟩, us, rfl, r1, r2⟩ := r.cons_inv
    obtain ⟨e1, r3⟩ := r1
    unfold frzF at e
    cases e2 : frz1 w.h d with
    | none => rw [e2] at e; cases e
    | some d' =>
      cases e3 : frzF w.h fs with
      | none => rw [e2, e3] at e; cases e
      | some r' =>
        rw [e2, e3] at e; cases e
        exact .cons ⟨e1, rep_frz1 k r3 e2⟩ (frs_frz k r2 e3)
theorem rep_frz2 (k : WOk M w H) {v : V} {d d' : D} (r : Rep M w.F w.m v d) (e : frz2 w.h d = some d') : Rep M (w.brw H).F [] v d' := by
  unfold frz2 at e
  split at e
  · rename_i j
    split at e
    · rename_i C fs hj
      cases e2 : frzF w.h fs with
      | none => rw [e2] at e; cases e
      | some gs =>
        rw [e2] at e; cases e
        obtain ⟨a, ha, rfl⟩ := r.ref_inv
        obtain ⟨a', u, h1, h2, h3, h4⟩ := k.al j _ hj
        rw [ha] at h1; cases h1
        cases u <;> first | exact h4.elim | skip
        exact rep_box rfl (brw_at ⟨⟨_, hj⟩, ha⟩ h3 rfl) ⟨h4.1, frs_frz k h4.2 e2⟩
    · rename_i c _ hj
      have : frz1 w.h (.ref j) = some d' := by
        unfold frz1
        dsimp only
        rw [hj]; exact e
      exact rep_frz1 k r this
    · cases e
  · rename_i hd
    have : frz1 w.h d = some d' := by
      unfold frz1
      split
      · rename_i j; exact absurd rfl (hd j)
      · exact e
    exact rep_frz1 k r this
theorem repL_frz (k : WOk M w H) : ∀ {ds es : List D} {vs : List V}, RepL M w.F w.m vs ds → frzL w.h ds = some es → RepL M (w.brw H).F [] vs es
  | [], es, vs, r, e => by
    cases e
    rw [At.nil_inv r]; exact .nil
  | d :: ds, es, vs, r, e => by
    obtain ⟨v, us, rfl, r1, r2⟩ := At.cons_inv r
    unfold frzL at e
    cases e2 : frz2 w.h d with
    | none => rw [e2] at e; cases e
    | some d' =>
      cases e3 : frzL w.h ds with
      | none => rw [e2, e3] at e; cases e
      | some r' =>
        rw [e2, e3] at e; cases e
        exact .cons (rep_frz2 k r1 e2) (repL_frz k r2 e3)
open Classical in
theorem rst_no {F2 : Hp} {a : Addr} (l : ∀ i, ¬ Live w i a) : (w.rst F2).F a = F2 a := by
  show (if _ then _ else _) = _
  rw [if_neg (fun z => l _ z.choose_spec)]
open Classical in
theorem rst_at {F2 : Hp} {i : Nat} {a : Addr} (l : Live w i a) : (w.rst F2).F a = none := by
  show (if _ then _ else _) = _
  rw [if_pos ⟨i, l⟩]
open Classical in
theorem rst_some {F2 : Hp} {a : Addr} {o : HO} (h : (w.rst F2).F a = some o) : F2 a = some o ∧ ∀ i, ¬ Live w i a := by
  have h : (if ∃ i, Live w i a then none else F2 a) = some o := h
  split at h
  · cases h
  · rename_i n
    exact ⟨h, fun i l => n ⟨i, l⟩⟩
theorem brw_back (k : WOk M w H) (k2 : WOk M w2 H2) (e : Ext (w.brw H) H w2 H2) : Ext w H (w.rst w2.F) H2 ∧ WOk M (w.rst w2.F) H2 := by
  have nol : ∀ {a : Addr} {o : HO}, w.F a = some o → ∀ i, ¬ Live w i a := fun h i l => by
    obtain ⟨_, _, z⟩ := live_some k l
    rw [h] at z; cases z
  have ff : Sub w.F (w.rst w2.F).F := fun a o h => by
    rw [rst_no (nol h)]
    exact e.ff a o (brw_sub k a o h)
  have keep : ∀ i a o, Live w i a → H a = some o → H2 a = some o := fun i a o l h => by
    rcases e.hh a o h (fun _ => brw_nolive) with z | ⟨z1, z2, _⟩
    · exact z
    · exfalso
      obtain ⟨⟨d, hd⟩, hm⟩ := l
      obtain ⟨a', u, h1, h2, h3, h4⟩ := k.al i d hd
      rw [hm] at h1; cases h1
      rcases e.fr a o z2 with y | y | ⟨vs, y⟩ | ⟨i, y⟩
      · rw [brw_lk h z1] at y
        rw [h2] at y; cases y
      · rw [h] at y; cases y
      · rw [h] at y; cases y; cases z1
      · exact brw_nolive y
  refine ⟨⟨ff, fun _ _ h => h, fun a o h n => ?_, e.nn, fun a o h => ?_, fun i a l => .inl ⟨i, l⟩⟩, k.keep (w' := w.rst w2.F) ff rfl rfl (fun a o h => k2.le a o (rst_some h).1) keep fun i a l => rst_at l⟩
  · rcases e.hh a o h (fun _ => brw_nolive) with z | ⟨z1, z2, z3⟩
    · exact .inl z
    · exact .inr ⟨z1, by rw [rst_no n]; exact z2, z3⟩
  · obtain ⟨h1, n⟩ := rst_some h
    rcases e.fr a o h1 with y | y | y | ⟨i, y⟩
    · rw [brw_no n] at y; exact .inl y
    · exact .inr (.inl y)
    · exact .inr (.inr (.inl y))
    · exact absurd y brw_nolive
theorem rep_flt {F F' : Hp} {m m' : List Addr} {v : V} {d : D} (h : flt d = true) (r : Rep M F m v d) : Rep M F' m' v d := by
  cases d <;> first | (cases h; done) | skip
  · rw [r.non_inv]; exact .non
  · rw [r.bl_inv]; exact .bl _
  · rw [r.int_inv]; exact .int _
  · rw [r.str_inv]; exact .str _
theorem rep_pln (k : WOk M w H) (k2 : WOk M w2 H2) (e : Ext (w.brw H) H w2 H2) {v : V} {d : D} (h : pln d = true) (r : Rep M w2.F w2.m v d) : Rep M (w.rst w2.F).F w.m v d := by
  cases d <;> first | exact rep_flt h r | skip
  rename_i xs
  obtain ⟨a, vs, rfl, ha, rl⟩ := r.tup_inv
  have n : ∀ i, ¬ Live w i a := fun i l => by
    obtain ⟨⟨d, hd⟩, hm⟩ := l
    obtain ⟨a', u, h1, h2, h3, h4⟩ := k.al i d hd
    rw [hm] at h1; cases h1
    have z := (k2.le a _ ha).2 rfl
    rcases e.hh a u h3 (fun _ => brw_nolive) with y | ⟨_, _, ob, y⟩
    · rw [z] at y; cases y; exact cell_notup h4
    · rw [z] at y; cases y
  refine .tup (by rw [rst_no n]; exact ha) rl.1 fun i v d x y => rep_flt ?_ (rl.2 i v d x y)
  have h : xs.all flt = true := h
  exact List.all_eq_true.mp h d (List.mem_of_getElem? y)
end
/-! ### what the calls wish -/
/-- C reads the things ds in the world of the cells h -/
def ConB (C : Con) (ds : List D) (h : Hc) (P : D → Prop) (PX : Nat → Prop) : Prop := ∃ es, frzL h ds = some es ∧ C es [] (fun f d _ => f = false ∧ pln d = true ∧ P d) fun c pl _ => pl = none ∧ PX c
section
variable {M : Mx} {w : Wd} {H : Hp} {C : Con} {ds : List D} {vs : List V} {P : D → Prop} {PX : Nat → Prop} {Q : VK} {E : XK}
/-- a contract is asked: the things are read -/
theorem conB_run (k : WOk M w H) (r : RepL M w.F w.m vs ds) (c : ConB C ds w.h P PX) (q : ∀ d v w2 H2, P d → w2.h = w.h → Ext w H w2 H2 → WOk M w2 H2 → Rep M w2.F w2.m v d → Q v H2) (qx : ∀ cc w2 H2, PX cc → w2.h = w.h → Ext w H w2 H2 → WOk M w2 H2 → E (.ref (M.ca cc)) none H2) : spC M C vs H Q E := by
  obtain ⟨es, he, c⟩ := c
  refine ⟨w.brw H, es, _, _, brw_ok k, repL_frz k r he, c, fun f d v w2 H2 hp e2 k2 r2 => ?_, fun cc pl dd w2 H2 hp e2 k2 rp => ?_⟩
  · obtain ⟨rfl, hd, pd⟩ := hp
    obtain ⟨e3, k3⟩ := brw_back k k2 e2
    exact q d v (w.rst w2.F) H2 pd rfl e3 k3 (rep_pln k k2 e2 hd r2)
  · obtain ⟨rfl, pd⟩ := hp
    obtain ⟨e3, k3⟩ := brw_back k k2 e2
    have : dd = none := rp
    subst this
    exact qx cc (w.rst w2.F) H2 pd rfl e3 k3
end
end Yl

set_option maxRecDepth 100000
set_option maxHeartbeats 4000000
/-! Y11d: methods, len and == of an instance that is read as one tree. -/
namespace Yl
open PySem PySem.Spec PyProof.Rows L2
section
variable {X : Cx} {M : Mx} {N : List Str} {sc : Scope} {k k' : Nat} {W : WX} {G : Gx} {ρ : Env} {hc : Hc} {P : D → Hc → Prop} {PF : Bool → D → Hc → Prop} {B : Bool → Hc → Prop} {a b c e o u : Expr} {es : List Expr} {x m : Str} {pos p apos : Pos} {ps : List Str} {C : Con}
abbrev plm (o : Expr) (env : PySem.Env) : Sem Bool := do return (← importBound o env).getD true
theorem meth_eval {args : List Expr} {env : PySem.Env} (hbase : attributeBase o m env (eval o env) = eval o env) (hline : (apos.endLine == pos.line) = true) (hfew : methodCallForm (args.length + ([] : List Keyword).length) (backTo pos (starEach args env)) (backToKw pos (keywordEach [] env)) = true) :
    eval (.Call (.Attribute o m apos) args [] pos) env = (do let ov ← eval o env; standAt apos.atName; let (f, first) ← holding [ov] (getMethod ov m (plm o env)); callWith pos f first (backTo pos (starEach args env)) (backToKw pos (keywordEach [] env))) := by
  show (do let ov ← attributeBase o m env (eval o env); standAt apos.atName; methodCall o m apos pos env ov (args.length + ([] : List Keyword).length) (backTo pos (starEach args env)) (backToKw pos (keywordEach [] env))) = _
  rw [hbase]
  unfold methodCall
  rw [hfew]
  unfold methodCallPos
  rw [hline]
  rfl
/-- a field of the data that is none is none of the object -/
theorem lkF_none {M : Mx} {F : Hp} {mm : List Addr} {n : Tx} : ∀ {vs : List (Str × V)} {fs : List (Tx × D)}, At (FR M F mm) vs fs → lkF fs n = none → vs.lookup (ts n) = none
  | vs, [], r, h => by rw [r.nil_inv]; rfl
  | vs, (g, d') :: fs, r, h => by
    obtain ⟨⟨g', v⟩, us, rfl, r1, r2⟩ := r.cons_inv
    obtain ⟨e1, r3⟩ := r1
    dsimp only at e1 r3
    subst e1
    unfold lkF at h
    rw [List.lookup_cons, txBeq_iff] at *
    by_cases q : g = n
    · subst q
      rw [decide_eq_true rfl, if_pos rfl] at h
      cases h
    · rw [decide_eq_false q, if_neg Bool.false_ne_true] at h
      have : (ts n == ts g) = false := by simpa using fun z => q (ts_inj z).symm
      rw [this]
      exact lkF_none r2 h
/-- an instance, frozen or a cell -/
theorem ins_at {w : Wd} {H : Hp} {v : V} {Ci : Nat} {d : D} {fs : List (Tx × D)} (wk : WOk M w H) (r : Rep M w.F w.m v d) (hd : deref w.h d = .ins Ci fs) : ∃ a dx vs, v = .ref a ∧ H a = some (.ins (M.ca Ci) dx vs) ∧ At (FR M w.F w.m) vs fs := by
  obtain ⟨a, u, rfl, ha, ct⟩ := den_box wk r hd rfl
  cases u <;> first | exact ct.elim | skip
  obtain ⟨rfl, ct⟩ := ct
  exact ⟨a, _, _, rfl, ha.2 rfl, ct⟩
theorem insM_inv {h : Hc} {Ci : Nat} {n : Tx} {d : D} (i : insM h Ci n d = true) : ∃ fs, deref h d = .ins Ci fs ∧ lkF fs n = none := by
  unfold insM at i
  split at i
  · rename_i C' fs e
    rw [Bool.and_eq_true_iff] at i
    have := Nat.eq_of_beq_eq_true i.1
    subst this
    exact ⟨fs, e, by simpa using i.2⟩
  · cases i
theorem insOf_inv {h : Hc} {Ci : Nat} {d : D} (i : insOf h Ci d = true) : ∃ fs, deref h d = .ins Ci fs := by
  unfold insOf at i
  split at i
  · rename_i C' fs e
    have := Nat.eq_of_beq_eq_true i
    subst this
    exact ⟨fs, e⟩
  · cases i
/-- what is wished of o.m(..), x = o's value -/
theorem fx_mcBN {Ci f : Nat} {n : Tx} (F : MeC M Ci (ts n) ps k' C) (hb : Bx X M N sc k G.W) (hk : k' ≤ k) (hbase : attributeBase o (ts n) X.env (eval o X.env) = eval o X.env) (hline : (apos.endLine == pos.line) = true)
    (h : EX X M G o ρ hc fun x h1 => insM h1 Ci n x = true ∧ ConB C [x] h1 (fun d => PF false d h1) fun c => G.PX c none ρ h1) : FX X M G (.Call (.Attribute o (ts n) apos) [] [] pos) ρ hc PF := by
  obtain ⟨f, fd, F1, F2, F3⟩ := F.ex
  have F4 := F.cls
  rw [← hb.hP, ← hb.hw, ← hb.hK, ← hb.hmg, ← hb.hbase] at F1
  rw [← hb.hK] at F2 F3 F4
  refine .of (pe_methP0 (pl := plm o X.env) pe_rd F4 F2 F1 (hb.room.mono hk) F3 (fun σ => passAt hb.tk σ) (meth_eval hbase hline rfl)) fun σ w H Q eh wk sk xc q => h σ w H _ eh wk sk xc fun x v w1 H1 p1 e1 k1 r1 => ?_
  obtain ⟨p0, p1⟩ := p1
  obtain ⟨fs, hd, hl⟩ := insM_inv p0
  obtain ⟨a, dx, vs, rfl, ha, ct⟩ := ins_at k1 r1 hd
  refine ⟨a, dx, vs, rfl, ha, lkF_none ct hl, ?_⟩
  exact conB_run k1 (.cons r1 .nil) p1 (fun d v w2 H2 pd e2 eh2 k2 r2 => q false d v w2 H2 (by rw [e2]; exact pd) (e1.trans eh2) k2 r2) fun cc w2 H2 px e2 eh2 k2 => xc cc none none w2 H2 (by rw [e2]; exact px) (e1.trans eh2) k2 rfl
/-! ### a call out of a builtin -/
theorem run_fnI {f : Addr} {fd : FuncData} {sp : Sp} {kk : Nat} {pins : List (Addr × Obj)} {σ : St} {H : Hp} {s : Shared} {Q : VK} {us : List Value} {vs : List V} (F : FnOk X.prog X.w X.K X.mg X.base (L2.CX X.prog X.w) kk f fd ps sp) (hr : Room (kk + 1) X.A) (hb : Binds X.K fd ps [])
    (I : Inv X pins σ H s) (r : Vals vs us) (h : sp vs H Q L2.E0) : wpAny (model X.prog X.w) X.A.in1 (call (.ref f) us) (EP X pins σ Q) X.xe s := by
  have hl : us.length = ps.length := by rw [← r.length]; exact F.len _ _ _ _ h
  have b := hb s us I.kIn (by rw [List.append_nil]; exact hl)
  rw [List.append_nil] at b
  refine wpAny_call (codeAny_mono (F.run X.A.in1 X.stack s H ⟨us, []⟩ us vs Q L2.E0 hr.in1 I.env0.in1 b r h) fun r s' hq => ?_)
  cases r with
  | error e => exact passL pins σ H s e s' I hq
  | ok fl =>
    cases fl with
    | ret u => exact I.after hq
    | next => exact False.elim hq
    | brk => exact False.elim hq
    | cont => exact False.elim hq
/-- len(x), x of an own class -/
def rLenI (Ca : Addr) (sp : Sp) : List V → Hp → VK → Prop := fun xs H Q => ∃ a dx fs, xs = [.ref a] ∧ H a = some (.ins Ca dx fs) ∧ sp xs H (fun v H' => ∃ n : Int, v = .int n ∧ 0 ≤ n ∧ n < 2 ^ 63 ∧ Q (.int n) H') L2.E0
theorem call_lenI {Ca f : Addr} {fd : FuncData} {sp : Sp} {kk : Nat} (F : FnOk X.prog X.w X.K X.mg X.base (L2.CX X.prog X.w) kk f fd ps sp) (hr : Room (kk + 1) X.A) (hb : Binds X.K fd ps []) (hm : Meth X.K Ca "__len__" f) : CallR X (.builtin "len") (rLenI Ca sp) := by
  intro pins s σ H xs us Q I rv h
  obtain ⟨a, dx, fs, rfl, ha, h⟩ := h
  cases rv with
  | cons r1 r2 =>
    cases r2 with
    | nil =>
      rename_i u
      obtain rfl : u = Value.ref a := r1
      obtain ⟨mA, O, _⟩ := ins_get I.hok ha
      obtain ⟨od, J, _⟩ := O.look
      obtain ⟨m, hF⟩ := I.fr
      refine PySem.W.len_K hF I.ok.mod.kin J hm.at_ hm.fn ?_
      refine wpAny_mono (run_fnI (us := [.ref a]) (vs := [.ref a]) F hr hb I (.cons (show L2.RelV (.ref a) (.ref a) from rfl) .nil) h) (fun w s' z => ?_) fun _ _ x => x
      obtain ⟨z', H', I', rz, n, rfl, h0, h1, qz⟩ := z
      obtain ⟨t, rfl⟩ := rz
      exact ⟨⟨h0, h1⟩, .int n, H', I'.tok _, ⟨_, rfl⟩, qz⟩
theorem fx_lenI {Ci : Nat} (F : MeC M Ci "__len__" ps k' C) (hb : Bx X M N sc k G.W) (hk : k' + 1 ≤ k) (hm : M.mg "len" = none) (hg : sc.names.lookup ("len" : Str) = some .globalImplicit)
    (he : starEach [u] X.env = (false, eval u X.env) :: starEach [] X.env)
    (h : EX X M G u ρ hc fun x h1 => insOf h1 Ci x = true ∧ ConB C [x] h1 (fun d => ∃ n : Int, d = .int n ∧ 0 ≤ n ∧ n < 1000000000 ∧ PF false (.int n) h1) fun _ => False) : FX X M G (.Call (.Name "len" p) [u] [] pos) ρ hc PF := by
  obtain ⟨f, fd, F1, F2, F3⟩ := F.ex
  rw [← hb.hP, ← hb.hw, ← hb.hK, ← hb.hmg, ← hb.hbase] at F1
  rw [← hb.hK] at F2 F3
  refine .of (pe_callB (call_lenI F1 (hb.room.mono hk) F3 F2) (hb.gl hg) (by rw [hb.hmg]; exact hm) (by decide +kernel) (pa_rd (es := [u])) (by decide +kernel) (by decide +kernel) he rfl) fun σ w H Q eh wk sk xc q => ?_
  have pa : AX X M G [u] ρ hc fun ds h' => ∃ x, ds = [x] ∧ insOf h' Ci x = true ∧ ConB C [x] h' (fun d => ∃ n : Int, d = .int n ∧ 0 ≤ n ∧ n < 1000000000 ∧ PF false (.int n) h') fun _ => False := ax_cons he (EX.mono h fun d h' pd => ax_nil ⟨d, rfl, pd⟩)
  refine pa σ w H _ eh wk sk xc fun ds vs w1 H1 pd e1 k1 r1 => ?_
  obtain ⟨x, rfl, p0, p1⟩ := pd
  obtain ⟨fs, hd⟩ := insOf_inv p0
  obtain ⟨v, us, rfl, r2, r3⟩ := r1.cons_inv
  obtain rfl := r3.nil_inv
  obtain ⟨a, dx, vs, rfl, ha, ct⟩ := ins_at k1 r2 hd
  refine ⟨a, dx, vs, rfl, ha, ?_⟩
  rw [hb.hP, hb.hw] at *
  refine conB_run k1 (.cons r2 .nil) p1 (fun d v w2 H2 pd e2 eh2 k2 r2 => ?_) fun cc w2 H2 px => px.elim
  obtain ⟨n, rfl, h0, h1, pf⟩ := pd
  exact ⟨n, r2.int_inv, h0, by omega, q false _ _ w2 H2 (by rw [e2]; exact pf) (e1.trans eh2) k2 (.int n)⟩
/-! ### a == b -/
def rEqB (K : PySem.W.Frag) (C : Addr) (sp : Sp) : R2 := fun x y H Q => ∃ p dx fs, x = .ref p ∧ H p = some (.ins C dx fs) ∧ ((∃ q dy gs, y = .ref q ∧ H q = some (.ins C dy gs)) ∨ ((∃ i, y = .int i) ∧ PySem.W.subIn K (.type "int") (.ref C) = some false)) ∧ sp [x, y] H Q L2.E0
theorem op_eqB {Ca f : Addr} {fd : FuncData} {sp : Sp} {kk : Nat} (F : FnOk X.prog X.w X.K X.mg X.base (L2.CX X.prog X.w) kk f fd ps sp) (hr : Room kk X.A) (hb : Binds X.K fd ps []) (hm : Meth X.K Ca "__eq__" f) : OpR X (compareOp .Eq) (rEqB X.K Ca sp) := by
  intro pins s σ H x y v u Q I rx ry h
  obtain ⟨p, dx, fs, rfl, hp, hy, h⟩ := h
  cases (show v = Value.ref p from rx)
  obtain ⟨mA, O, _⟩ := ins_get I.hok hp
  obtain ⟨od, J, _⟩ := O.look
  obtain ⟨m, hF⟩ := I.fr
  have fin : wpAny (model X.prog X.w) X.A (call (.ref f) [.ref p, u]) (PySem.W.CmpBack (EP X pins σ Q)) X.xe s := by
    refine wpAny_mono (run_fnS (us := [.ref p, u]) (vs := [.ref p, y]) (E := fun _ => L2.E0) F hr hb (fun pins H s e s' I c => passL pins σ H s e s' I c) I (.cons rfl (.cons ry .nil)) h) (fun w s' z => ?_) fun _ _ x => x
    obtain ⟨z', H', I', rz, qz⟩ := z
    exact back_of rz ⟨z', H', I', rz, qz⟩
  show wpAny (model X.prog X.w) X.A (richCompare .Eq (.ref p) u) _ _ s
  rcases hy with ⟨q, dy, gs, rfl, hq⟩ | ⟨⟨i, rfl⟩, hs⟩
  · cases (show u = Value.ref q from ry)
    obtain ⟨mB, O', _⟩ := ins_get I.hok hq
    obtain ⟨od', J', _⟩ := O'.look
    exact PySem.W.cmp_K (op := .Eq) (tb := .ref Ca) hr.units0 hF I.ok.mod.kin J J'.type (by unfold PySem.W.notFirst; rw [beq_self_eq_true]; rfl) hm.at_ hm.fn fin
  · obtain ⟨t, rfl⟩ := ry
    exact PySem.W.cmp_K (op := .Eq) (tb := .type "int") hr.units0 hF I.ok.mod.kin J (PySem.W.Looks.of_pure rfl) (by unfold PySem.W.notFirst; rw [hs]; simp) hm.at_ hm.fn fin
theorem eqB_in {w1 w2 : Wd} {H1 H2 : Hp} {x y : D} {v u : V} {Ci : Nat} (k2 : WOk M w2 H2) (r1 : Rep M w2.F w2.m v x) (r2 : Rep M w2.F w2.m u y) (hx : insOf w2.h Ci x = true) (hy : insOf w2.h Ci y = true ∨ isInt y = true ∧ PySem.W.subIn M.K (.type "int") (.ref (M.ca Ci)) = some false) :
    ∃ p dx fs, v = .ref p ∧ H2 p = some (.ins (M.ca Ci) dx fs) ∧ ((∃ q dy gs, u = .ref q ∧ H2 q = some (.ins (M.ca Ci) dy gs)) ∨ ((∃ i, u = .int i) ∧ PySem.W.subIn M.K (.type "int") (.ref (M.ca Ci)) = some false)) := by
  obtain ⟨fs, hd⟩ := insOf_inv hx
  obtain ⟨a, dx, vs, rfl, ha, _⟩ := ins_at k2 r1 hd
  refine ⟨a, dx, vs, rfl, ha, ?_⟩
  rcases hy with hy | ⟨hy, hs⟩
  · obtain ⟨gs, hd2⟩ := insOf_inv hy
    obtain ⟨b, dy, us, rfl, hb, _⟩ := ins_at k2 r2 hd2
    exact .inl ⟨b, dy, us, rfl, hb⟩
  · refine .inr ⟨?_, hs⟩
    cases y <;> first | (cases hy; done) | skip
    exact ⟨_, r2.int_inv⟩
theorem fx_eqB {Ci : Nat} (F : MeC M Ci "__eq__" ps k' C) (hb : Bx X M N sc k G.W) (hk : k' ≤ k) (hm : behindInMarks .Eq b = false)
    (h : EX X M G a ρ hc fun x h1 => EX X M G b ρ h1 fun y h2 => insOf h2 Ci x = true ∧ (insOf h2 Ci y = true ∨ isInt y = true ∧ PySem.W.subIn M.K (.type "int") (.ref (M.ca Ci)) = some false) ∧ ConB C [x, y] h2 (fun d => ∃ v, d = .bl v ∧ PF false (.bl v) h2) fun _ => False) : FX X M G (.Compare a [.Eq] [b] pos) ρ hc PF := by
  obtain ⟨f, fd, F1, F2, F3⟩ := F.ex
  rw [← hb.hP, ← hb.hw, ← hb.hK, ← hb.hmg, ← hb.hbase] at F1
  rw [← hb.hK] at F2 F3
  refine .of (pe_cmpR (op_eqB F1 (hb.room.mono hk) F3 F2) pe_rd pe_rd hm) fun σ w H Q eh wk sk xc q => h σ w H _ eh wk sk xc fun x v w1 H1 hp e1 k1 r1 => hp σ w1 H1 _ rfl k1 (sk.ext e1) (xc.ext e1) fun y u w2 H2 hq e2 k2 r2 => ?_
  obtain ⟨hx, hy, hC⟩ := hq
  have r1' := r1.mono e2.ff e2.mm
  obtain ⟨p, dx, fs, rfl, hp1, hu⟩ := eqB_in (w1 := w1) (H1 := H1) k2 r1' r2 hx hy
  rw [← hb.hK] at hu
  refine ⟨p, dx, fs, rfl, hp1, hu, ?_⟩
  have := conB_run (Q := Q) (E := L2.E0) k2 (.cons r1' (.cons r2 .nil)) hC (fun d v w3 H3 pd e3 eh3 k3 r3 => ?_) fun cc w2 H2 px => px.elim
  · rw [hb.hP, hb.hw] at *; exact this
  · obtain ⟨c, rfl, pf⟩ := pd
    exact q false _ v w3 H3 (by rw [e3]; exact pf) ((e1.trans e2).trans eh3) k3 r3
end
end Yl

set_option maxRecDepth 100000
set_option maxHeartbeats 4000000
/-! Y11e: an instance and its list: handed over, made. -/
namespace Yl
open PySem PySem.Spec PyProof.Rows L2
theorem subF_nr {k : Nat} : ∀ {fs : List (Tx × D)}, nrF fs = true → subF k fs = fs
  | [], _ => rfl
  | (q1, q2) :: fs, h => by
    simp only [nrF, nrQ, Bool.and_eq_true_iff] at h
    have ih := subF_nr (k := k) h.2
    cases q2 <;> first | (cases h.1; done) | (unfold subF; rw [ih])
/-- the fields fs, but for one cell that is j: what the same fields are where that cell is k -/
theorem oneF_sub {M : Mx} {F : Hp} {m m' : List Addr} {b : Addr} {k : Nat} (hk : m'[k]? = some b) : ∀ {fs : List (Tx × D)} {j : Nat} {vs : List (Str × V)}, oneF fs = some j → m[j]? = some b → At (FR M F m) vs fs → At (FR M F m') vs (subF k fs)
  | [], j, vs, e, _, r => by cases e
  | (n, d) :: fs, j, vs, e, hj, r => by
    obtain ⟨⟨n', v⟩, us, rfl, r1, r2⟩ := r.cons_inv
    obtain ⟨e1, r3⟩ := r1
    unfold oneF at e
    split at e
    · cases e
    · rename_i n2 j2 fs2 heq
      cases heq
      split at e
      · rename_i hn
        cases e
        obtain ⟨a, ha, hv⟩ := r3.ref_inv
        dsimp only at hv e1
        subst hv
        rw [hj] at ha; cases ha
        have e5 : subF k fs = fs := subF_nr hn
        show At (FR M F m') _ ((n, .ref k) :: subF k fs)
        rw [e5]
        exact .cons ⟨e1, .ref hk⟩ (frs_nr r2 hn)
      · cases e
    · rename_i n2 d2 fs2 hd heq
      cases heq
      split at e
      · rename_i hn
        have e5 : subF k ((n, d) :: fs) = (n, d) :: subF k fs := by
          cases d <;> first | rfl | exact absurd rfl (hd _)
        rw [e5]
        exact .cons ⟨e1, rep_nr r3 hn⟩ (oneF_sub hk e hj r2)
      · cases e
/-! ### a world of two cells, and back -/
section
variable {M : Mx} {w w2 : Wd} {H H2 : Hp} {i j : Nat} {a b : Addr} {d0 d1 d2 d3 x : D} {fs gs : List (Tx × D)} {C : Nat}
abbrev Wd.two (w : Wd) (a b : Addr) (d e : D) : Wd := ⟨w.F, [a, b], [some d, some e]⟩
theorem two_live {i : Nat} {c : Addr} (l : Live (w.two a b d0 d1) i c) : (i = 0 ∧ c = a) ∨ (i = 1 ∧ c = b) := by
  obtain ⟨⟨d, h⟩, h2⟩ := l
  match i, h, h2 with
  | 0, h, h2 => simp at h2; exact .inl ⟨rfl, h2.symm⟩
  | 1, h, h2 => simp at h2; exact .inr ⟨rfl, h2.symm⟩
  | i + 2, h, h2 => simp at h
theorem wok_two (k : WOk M w H) (hi : w.h[i]? = some (some (.ins C fs))) (hj : w.h[j]? = some (some x)) (hf : oneF fs = some j) (hx : x.nr = true ∧ isLst x = true) (ne : i ≠ j) : ∃ a b, w.m[i]? = some a ∧ w.m[j]? = some b ∧ a ≠ b ∧ WOk M (w.two a b (.ins C (subF 1 fs)) x) H := by
  obtain ⟨a, u, ha, fa, hu, c⟩ := k.al i _ hi
  obtain ⟨b, u', hb, fb, hu', c'⟩ := k.al j _ hj
  have nab : a ≠ b := fun q => ne (k.inj i j a ⟨⟨_, hi⟩, ha⟩ ⟨⟨_, hj⟩, by rw [q]; exact hb⟩)
  refine ⟨a, b, ha, hb, nab, k.le, rfl, fun n d h => ?_, fun n l c x y => ?_⟩
  · match n, h with
    | 0, h =>
      simp at h; subst h
      cases u <;> first | exact c.elim | skip
      exact ⟨a, _, rfl, fa, hu, c.1, oneF_sub (b := b) rfl hf hb c.2⟩
    | 1, h =>
      simp at h; subst h
      exact ⟨b, u', rfl, fb, hu', cont_nr c' (by cases x <;> first | (cases hx.2; done) | exact hx.1)⟩
    | n + 2, h => simp at h
  · rcases two_live x with ⟨x1, x2⟩ | ⟨x1, x2⟩ <;> rcases two_live y with ⟨y1, y2⟩ | ⟨y1, y2⟩
    · rw [x1, y1]
    · exact absurd (x2.symm.trans y2) nab
    · exact absurd (y2.symm.trans x2) nab
    · rw [x1, y1]
theorem set_get {α : Type} {l : List α} {i j : Nat} {y z : α} {n : Nat} {v : α} (h : ((l.set i y).set j z)[n]? = some v) : (n = j ∧ v = z) ∨ (n ≠ j ∧ n = i ∧ v = y) ∨ (n ≠ j ∧ n ≠ i ∧ l[n]? = some v) := by
  by_cases q : j = n
  · subst q
    left
    rw [List.getElem?_set] at h
    simp only [if_true] at h
    split at h
    · cases h; exact ⟨rfl, rfl⟩
    · cases h
  · right
    rw [List.getElem?_set_ne q] at h
    by_cases q2 : i = n
    · subst q2
      left
      rw [List.getElem?_set] at h
      simp only [if_true] at h
      split at h
      · cases h; exact ⟨fun z => q z.symm, rfl, rfl⟩
      · cases h
    · rw [List.getElem?_set_ne q2] at h
      exact .inr ⟨fun z => q z.symm, fun z => q2 z.symm, h⟩
theorem two_put (k : WOk M w H) (hi : w.h[i]? = some (some d0)) (hj : w.h[j]? = some (some d1)) (ha : w.m[i]? = some a) (hb : w.m[j]? = some b) (ne : i ≠ j) (nab : a ≠ b) (k2 : WOk M w2 H2) (e : Ext (w.two a b d2 d3) H w2 H2)
    (h0 : w2.h[0]? = some (some (.ins C gs))) (h1 : w2.h[1]? = some (some x)) (hf : oneF gs = some 1) (hx : x.nr = true ∧ isLst x = true) :
    Ext w H { w with F := w2.F, h := (w.h.set i (some (.ins C (subF j gs)))).set j (some x) } H2 ∧ WOk M { w with F := w2.F, h := (w.h.set i (some (.ins C (subF j gs)))).set j (some x) } H2 := by
  have la : Live w i a := ⟨⟨d0, hi⟩, ha⟩
  have lb : Live w j b := ⟨⟨d1, hj⟩, hb⟩
  obtain ⟨a', u0, q1, q2, q3, q4⟩ := k2.al 0 _ h0
  rw [e.mm 0 a rfl] at q1; cases q1
  obtain ⟨b', u1, p1, p2, p3, p4⟩ := k2.al 1 _ h1
  rw [e.mm 1 b rfl] at p1; cases p1
  have st : ∀ c u, H c = some u → c ≠ a → c ≠ b → Kept w2.F H2 c u := fun c u h n n' => e.hh c u h fun i l => by
    rcases two_live l with ⟨_, z⟩ | ⟨_, z⟩
    · exact n z
    · exact n' z
  have nf : ∀ n c, Live w n c → w2.F c = none := fun n c l => by
    by_cases ca : c = a
    · subst ca; exact q2
    · by_cases cb : c = b
      · subst cb; exact p2
      · obtain ⟨⟨d, h⟩, hm⟩ := l
        obtain ⟨c', u, z1, z2, z3, z4⟩ := k.al n d h
        rw [hm] at z1; cases z1
        cases q : w2.F c with
        | none => rfl
        | some o =>
          rcases e.fr c o q with z | z | ⟨vs, z⟩ | ⟨n, z⟩
          · have z : w.F c = some o := z
            rw [z2] at z; cases z
          · rw [z3] at z; cases z
          · rw [z3] at z; cases z; exact absurd z4 cell_notup
          · rcases two_live z with ⟨_, z⟩ | ⟨_, z⟩
            · exact absurd z ca
            · exact absurd z cb
  have lv : ∀ n c, Live ({ w with F := w2.F, h := (w.h.set i (some (.ins C (subF j gs)))).set j (some x) } : Wd) n c → Live w n c := fun n c l => by
    obtain ⟨⟨d, h⟩, hm⟩ := l
    refine ⟨?_, hm⟩
    rcases set_get h with ⟨z, _⟩ | ⟨_, z, _⟩ | ⟨_, _, z⟩
    · subst z; exact ⟨_, hj⟩
    · subst z; exact ⟨_, hi⟩
    · exact ⟨d, z⟩
  refine ⟨⟨e.ff, fun _ _ h => h, fun c u h n => st c u h (fun q => n i (by rw [q]; exact la)) (fun q => n j (by rw [q]; exact lb)), e.nn, fun c o h => ?_, fun n c l => .inl ⟨n, lv n c l⟩⟩, ⟨k2.le, by simp [k.lm], fun n d h => ?_, fun n l c x y => k.inj n l c (lv n c x) (lv l c y)⟩⟩
  · rcases e.fr c o h with z | z | z | ⟨n, z⟩
    · exact .inl z
    · exact .inr (.inl z)
    · exact .inr (.inr (.inl z))
    · rcases two_live z with ⟨_, z⟩ | ⟨_, z⟩
      · subst z; exact .inr (.inr (.inr ⟨i, la⟩))
      · subst z; exact .inr (.inr (.inr ⟨j, lb⟩))
  · rcases set_get h with ⟨z, y⟩ | ⟨_, z, y⟩ | ⟨n1, n2, z⟩
    · subst z; cases y
      exact ⟨b, u1, hb, p2, p3, cont_nr p4 (by cases x <;> first | (cases hx.2; done) | exact hx.1)⟩
    · subst z; cases y
      cases u0 <;> first | exact q4.elim | skip
      exact ⟨a, _, ha, q2, q3, q4.1, oneF_sub (b := b) hb hf (e.mm 1 b rfl) q4.2⟩
    · obtain ⟨c, u, z1, z2, z3, z4⟩ := k.al n d z
      have l : Live w n c := ⟨⟨d, z⟩, z1⟩
      have na : c ≠ a := fun q => n2 (k.inj n i c l (by rw [q]; exact la))
      have nb : c ≠ b := fun q => n1 (k.inj n j c l (by rw [q]; exact lb))
      exact ⟨c, u, z1, nf n c l, (st c u z3 na nb).no (nf n c l), z4.mono e.ff fun _ _ z => z⟩
end
/-- the instance of the cell i and its list are handed over -/
def ConL (C : Con) (i : Nat) (ds : List D) (h : Hc) (P : D → Hc → Prop) (PX : Nat → Pl → Hc → Prop) : Prop := ∃ Ci fs j x, h[i]? = some (some (.ins Ci fs)) ∧ oneF fs = some j ∧ h[j]? = some (some x) ∧ (x.nr = true ∧ isLst x = true) ∧ nrL ds = true ∧ i ≠ j ∧
  C (.ref 0 :: ds) [some (.ins Ci (subF 1 fs)), some x] (fun f d h2 => f = false ∧ d.nr = true ∧ ∃ C' gs y r, h2 = some (.ins C' gs) :: some y :: r ∧ oneF gs = some 1 ∧ (y.nr = true ∧ isLst y = true) ∧ P d ((h.set i (some (.ins C' (subF j gs)))).set j (some y)))
    fun c pl h2 => nrPl pl = true ∧ ∃ C' gs y r, h2 = some (.ins C' gs) :: some y :: r ∧ oneF gs = some 1 ∧ (y.nr = true ∧ isLst y = true) ∧ PX c pl ((h.set i (some (.ins C' (subF j gs)))).set j (some y))
section
variable {M : Mx} {w : Wd} {H : Hp} {C : Con} {i : Nat} {ds : List D} {v : V} {vs : List V} {P : D → Hc → Prop} {PX : Nat → Pl → Hc → Prop} {Q : VK} {E : XK}
theorem conL_run (k : WOk M w H) (r0 : Rep M w.F w.m v (.ref i)) (r : RepL M w.F w.m vs ds) (c : ConL C i ds w.h P PX) (q : ∀ d v w2 H2, P d w2.h → Ext w H w2 H2 → WOk M w2 H2 → Rep M w2.F w2.m v d → Q v H2) (qx : ∀ cc pl dd w2 H2, PX cc pl w2.h → Ext w H w2 H2 → WOk M w2 H2 → PlRep M w2 H2 dd pl → E (.ref (M.ca cc)) dd H2) : spC M C (v :: vs) H Q E := by
  obtain ⟨Ci, fs, j, x, hi, hf, hj, hx, hn, ne, c⟩ := c
  obtain ⟨a, b, ha, hb, nab, wk⟩ := wok_two k hi hj hf hx ne
  obtain ⟨a', ha', rfl⟩ := r0.ref_inv
  rw [ha] at ha'; cases ha'
  refine ⟨w.two a b _ x, .ref 0 :: ds, _, _, wk, .cons (.ref rfl) (repL_nr r hn), c, fun f d v w2 H2 hp e2 k2 r2 => ?_, fun cc pl dd w2 H2 hp e2 k2 rp => ?_⟩
  · obtain ⟨rfl, hd, C', gs, y, rr, h2, hg, hy, pd⟩ := hp
    obtain ⟨e3, k3⟩ := two_put k hi hj ha hb ne nab k2 e2 (by rw [h2]; rfl) (by rw [h2]; rfl) hg hy
    exact q d v { w with F := w2.F, h := (w.h.set i (some (.ins C' (subF j gs)))).set j (some y) } H2 pd e3 k3 (rep_nr r2 hd)
  · obtain ⟨hd, C', gs, y, rr, h2, hg, hy, pd⟩ := hp
    obtain ⟨e3, k3⟩ := two_put k hi hj ha hb ne nab k2 e2 (by rw [h2]; rfl) (by rw [h2]; rfl) hg hy
    refine qx cc pl dd { w with F := w2.F, h := (w.h.set i (some (.ins C' (subF j gs)))).set j (some y) } H2 pd e3 k3 ?_
    cases pl with
    | none => exact rp
    | some fs =>
      obtain ⟨dx, vs, z1, z2, z3⟩ := rp
      exact ⟨dx, vs, z1, z2, frs_nr z3 hd⟩
end
section
variable {X : Cx} {M : Mx} {N : List Str} {sc : Scope} {k k' : Nat} {W : WX} {G : Gx} {ρ : Env} {hc : Hc} {P : D → Hc → Prop} {PF : Bool → D → Hc → Prop} {B : Bool → Hc → Prop} {a b c e o u : Expr} {es : List Expr} {x m : Str} {pos p apos : Pos} {ps : List Str} {C : Con}
/-- f(x, ..), x handed over with its list -/
theorem fx_callL (F : FnC M x ps k' C) (hb : Bx X M N sc k G.W) (hk : k' ≤ k) (hg : sc.names.lookup x = some .globalImplicit) (hdb : (x == ("__debug__" : Str)) = false) (he : starEach (e :: es) X.env = (false, eval e X.env) :: starEach es X.env) (hpl : (backTo pos (starEach es X.env)).any (·.1) = false)
    (h : AX X M G (e :: es) ρ hc fun ds h' => ∃ i ds', ds = .ref i :: ds' ∧ ConL C i ds' h' (fun d h2 => PF false d h2) fun c pl h2 => G.PX c pl ρ h2) : FX X M G (.Call (.Name x p) (e :: es) [] pos) ρ hc PF := by
  obtain ⟨f, fd, F1, F2, F3, F4⟩ := F.ex
  rw [← hb.hP, ← hb.hw, ← hb.hK, ← hb.hmg, ← hb.hbase] at F1
  rw [← hb.hmg] at F2
  rw [← hb.hK] at F3 F4
  refine .of (pe_callS F1 (hb.room.mono hk) (hb.gl hg) F2 F3 F4 (fun σ => passAt hb.tk σ) pa_rd hdb he hpl) fun σ w H Q eh wk sk xc q => ?_
  refine h σ w H _ eh wk sk xc fun ds vs w1 H1 pd e1 k1 r1 => ?_
  obtain ⟨i, ds', rfl, cl⟩ := pd
  obtain ⟨v, us, rfl, r2, r3⟩ := r1.cons_inv
  exact conL_run k1 r2 r3 cl (fun d v w2 H2 pd e2 k2 r2 => q false d v w2 H2 pd (e1.trans e2) k2 r2) fun cc pl dd w2 H2 px e2 k2 rp => xc cc pl dd w2 H2 px (e1.trans e2) k2 rp
/-- x.m(), x.m(e) -/
theorem fx_mcRN {Ci f : Nat} {n : Tx} (F : MeC M Ci (ts n) ps k' C) (hb : Bx X M N sc k G.W) (hk : k' ≤ k) (hbase : attributeBase o (ts n) X.env (eval o X.env) = eval o X.env) (hline : (apos.endLine == pos.line) = true)
    (h : EX X M G o ρ hc fun x h1 => insM h1 Ci n x = true ∧ ∃ i, x = .ref i ∧ ConL C i [] h1 (fun d h2 => PF false d h2) fun c pl h2 => G.PX c pl ρ h2) : FX X M G (.Call (.Attribute o (ts n) apos) [] [] pos) ρ hc PF := by
  obtain ⟨f, fd, F1, F2, F3⟩ := F.ex
  have F4 := F.cls
  rw [← hb.hP, ← hb.hw, ← hb.hK, ← hb.hmg, ← hb.hbase] at F1
  rw [← hb.hK] at F2 F3 F4
  refine .of (pe_methP0 (pl := plm o X.env) pe_rd F4 F2 F1 (hb.room.mono hk) F3 (fun σ => passAt hb.tk σ) (meth_eval hbase hline rfl)) fun σ w H Q eh wk sk xc q => h σ w H _ eh wk sk xc fun x v w1 H1 p1 e1 k1 r1 => ?_
  obtain ⟨p0, i, rfl, cl⟩ := p1
  obtain ⟨fs, hd, hl⟩ := insM_inv p0
  obtain ⟨a, dx, vs, rfl, ha, ct⟩ := ins_at k1 r1 hd
  refine ⟨a, dx, vs, rfl, ha, lkF_none ct hl, ?_⟩
  exact conL_run k1 r1 .nil cl (fun d v w2 H2 pd e2 k2 r2 => q false d v w2 H2 pd (e1.trans e2) k2 r2) fun cc pl dd w2 H2 px e2 k2 rp => xc cc pl dd w2 H2 px (e1.trans e2) k2 rp
theorem fx_mcR1 {Ci f : Nat} {n : Tx} (F : MeC M Ci (ts n) ps k' C) (hb : Bx X M N sc k G.W) (hk : k' ≤ k) (hbase : attributeBase o (ts n) X.env (eval o X.env) = eval o X.env) (hline : (apos.endLine == pos.line) = true) (hs : starEach [u] X.env = (false, eval u X.env) :: starEach [] X.env)
    (h : EX X M G o ρ hc fun x h1 => insM h1 Ci n x = true ∧ EX X M G u ρ h1 fun y h2 => insM h2 Ci n x = true ∧ ∃ i, x = .ref i ∧ ConL C i [y] h2 (fun d h2 => PF false d h2) fun c pl h2 => G.PX c pl ρ h2) : FX X M G (.Call (.Attribute o (ts n) apos) [u] [] pos) ρ hc PF := by
  obtain ⟨f, fd, F1, F2, F3⟩ := F.ex
  have F4 := F.cls
  rw [← hb.hP, ← hb.hw, ← hb.hK, ← hb.hmg, ← hb.hbase] at F1
  rw [← hb.hK] at F2 F3 F4
  refine .of (pe_methP (pl := plm o X.env) pe_rd F4 F2 F1 (hb.room.mono hk) F3 (fun σ => passAt hb.tk σ) (pa_rd (es := [u])) hs rfl (meth_eval hbase hline (by rw [hs]; rfl))) fun σ w H Q eh wk sk xc q => h σ w H _ eh wk sk xc fun x v w1 H1 p1 e1 k1 r1 => ?_
  obtain ⟨p0, p1⟩ := p1
  obtain ⟨fs, hd, hl⟩ := insM_inv p0
  obtain ⟨a, dx, vs, rfl, ha, ct⟩ := ins_at k1 r1 hd
  refine ⟨a, dx, vs, rfl, ha, lkF_none ct hl, ?_⟩
  have pa : AX X M G [u] ρ w1.h fun ds h' => ∃ y, ds = [y] ∧ insM h' Ci n x = true ∧ ∃ i, x = .ref i ∧ ConL C i [y] h' (fun d h2 => PF false d h2) fun c pl h2 => G.PX c pl ρ h2 := ax_cons hs (EX.mono p1 fun d h' pd => ax_nil ⟨d, rfl, pd⟩)
  refine pa σ w1 H1 _ rfl k1 (sk.ext e1) (xc.ext e1) fun ds vs w2 H2 pd e2 k2 r2 => ?_
  obtain ⟨y, rfl, p2, i, rfl, cl⟩ := pd
  have e12 := e1.trans e2
  exact conL_run k2 (r1.mono e2.ff e2.mm) r2 cl (fun d v w2 H2 pd e2 k2 r2 => q false d v w2 H2 pd (e12.trans e2) k2 r2) fun cc pl dd w2 H2 px e2 k2 rp => xc cc pl dd w2 H2 px (e12.trans e2) k2 rp
/-- C(..): an instance with a list of its own -/
theorem fx_mkL {Ci : Nat} {dfl : List D} (F : MkC M x Ci ps k' dfl C) (hb : Bx X M N sc k G.W) (hk : k' + 1 ≤ k) (hg : sc.names.lookup x = some .globalImplicit) (hdb : (x == ("__debug__" : Str)) = false) (he : starEach (e :: es) X.env = (false, eval e X.env) :: starEach es X.env) (hpl : (backTo pos (starEach es X.env)).any (·.1) = false)
    (h : AX X M G (e :: es) ρ hc fun ds h' => nrL (ds ++ dfl) = true ∧ C (.ref 0 :: (ds ++ dfl)) [some (.ins Ci [])] (fun f d h2 => f = false ∧ d = .non ∧ ∃ fs y r, h2 = some (.ins Ci fs) :: some y :: r ∧ oneF fs = some 1 ∧ (y.nr = true ∧ isLst y = true) ∧ PF false (.ref (h'.length + 1)) ((h' ++ [some y]) ++ [some (.ins Ci (subF h'.length fs))])) fun c pl _ => nrPl pl = true ∧ G.PX c pl ρ h') : FX X M G (.Call (.Name x p) (e :: es) [] pos) ρ hc PF := by
  obtain ⟨f, fd, dvs, dus, M1, F1, F4, F5, F6⟩ := F.ex
  have gC := F.gC
  rw [← hb.hP, ← hb.hw, ← hb.hK, ← hb.hmg, ← hb.hbase] at F1
  rw [← hb.hmg] at gC
  rw [← hb.hK] at M1 F4
  refine .of (pe_makeS M1 F1 (hb.room.mono hk) (hb.gl hg) gC F4 F5 (fun σ => passAt hb.tk σ) pa_rd hdb he hpl) fun σ w H Q eh wk sk xc q => ?_
  refine h σ w H _ eh wk sk xc fun ds vs w1 H1 pd e1 k1 r1 y dy hy hdy ne => ?_
  have fy := le_none k1.le hy
  have fdy := le_none k1.le hdy
  have hw : WOk M (⟨w1.F, [y], [some (.ins Ci [])]⟩ : Wd) (upd (upd H1 dy (.own y)) y (.ins (M.ca Ci) dy [])) := by
    refine ⟨fun a o h => (((k1.le a o h).upd (ne_of_none h fdy)).upd (ne_of_none h fy)), rfl, fun i d h => ?_, fun i j a l1 l2 => ?_⟩
    · cases i with
      | zero =>
        simp at h; subst h
        exact ⟨y, _, rfl, fy, upd_same, rfl, .nil⟩
      | succ i => simp at h
    · obtain ⟨⟨_, h1⟩, _⟩ := l1
      obtain ⟨⟨_, h2⟩, _⟩ := l2
      cases i with
      | zero => cases j with
        | zero => rfl
        | succ j => simp at h2
      | succ i => simp at h1
  have rl : RepL M w1.F [y] (.ref y :: (vs ++ dvs)) (.ref 0 :: (ds ++ dfl)) := .cons (.ref rfl) (repL_nr (m := w1.m) (r1.append (F6 _ _)) pd.1)
  refine ⟨⟨w1.F, [y], [some (.ins Ci [])]⟩, _, _, _, hw, rl, pd.2, fun f d v w2 H2 hp e2 k2 r2 => ?_, fun c pl dd w2 H2 hp e2 k2 r2 => ?_⟩
  · obtain ⟨rfl, rfl, fs, z, rr, hh, hn, hz, pf⟩ := hp
    obtain ⟨e3, k3⟩ := one_back (o1 := .own y) k1 hy hdy ne (fun vs z => by cases z) k2 e2
    refine ⟨Rep.non_inv r2, ?_⟩
    have h20 : w2.h[0]? = some (some (.ins Ci fs)) := by rw [hh]; rfl
    have h21 : w2.h[1]? = some (some z) := by rw [hh]; rfl
    obtain ⟨a, u, ha, fa, hu, c⟩ := k2.al 0 _ h20
    rw [e2.mm 0 y rfl] at ha; cases ha
    obtain ⟨b, u2, hb2, fb, hu2, c2⟩ := k2.al 1 _ h21
    have nb : b ≠ y := fun q => by
      subst q
      exact absurd (k2.inj 0 1 b ⟨⟨_, h20⟩, e2.mm 0 b rfl⟩ ⟨⟨_, h21⟩, hb2⟩) (by decide)
    have hb1 : H1 b = none := by
      rcases e2.cl 1 b ⟨⟨_, h21⟩, hb2⟩ with ⟨j, l⟩ | q
      · obtain ⟨⟨d', h'⟩, hm⟩ := l
        cases j with
        | zero => simp at hm; exact absurd hm.symm nb
        | succ j => simp at h'
      · rw [upd_ne nb] at q
        by_cases q2 : b = dy
        · subst q2; rw [upd_same] at q; cases q
        · rw [upd_ne q2] at q; exact q
    have nl : ∀ {c : Addr}, H1 c = none → ∀ i, ¬ Live ({ w1 with F := w2.F } : Wd) i c := fun hc i l => by
      obtain ⟨⟨d', h'⟩, hm⟩ := l
      obtain ⟨a', u', h1, h2, h3, h4⟩ := k1.al i d' h'
      have hm : w1.m[i]? = some _ := hm
      rw [hm] at h1; cases h1
      rw [hc] at h3; cases h3
    obtain ⟨e4, k4⟩ := ext_new (d := z) k3 hu2 fb (nl hb1) (.inl hb1) (cont_nr c2 (by cases z <;> first | (cases hz.2; done) | exact hz.1)) e3
    cases u <;> first | exact c.elim | skip
    have lm := k1.lm
    obtain ⟨e5, k5⟩ := ext_new (p := y) (d := .ins Ci (subF w1.h.length fs)) k4 hu fa (fun i l => by
      rcases live_new k3.lm l with l | ⟨_, q⟩
      · exact nl hy i l
      · exact nb q.symm) (.inl hy) ⟨c.1, oneF_sub (b := b) (by show (w1.m ++ [b])[w1.h.length]? = _; rw [← lm]; simp) hn hb2 c.2⟩ e4
    refine q false _ _ _ H2 pf (e1.trans e5) k5 (.ref ?_)
    show ((w1.m ++ [b]) ++ [y])[w1.h.length + 1]? = _
    rw [← lm]
    simp
  · obtain ⟨e3, k3⟩ := one_back (o1 := .own y) k1 hy hdy ne (fun vs z => by cases z) k2 e2
    exact xc c pl dd { w1 with F := w2.F } H2 hp.2 (e1.trans e3) k3 (pl_back hp.1 r2)
end
end Yl

set_option maxRecDepth 100000
set_option maxHeartbeats 4000000
/-! Y11f: xs.pop(); xs[k] += v. -/
namespace Yl
open PySem PySem.Spec PyProof.Rows L2
section
variable {X : Cx} {M : Mx} {N : List Str} {sc : Scope} {k k' : Nat} {W : WX} {G : Gx} {ρ : Env} {hc : Hc} {P : D → Hc → Prop} {PF : Bool → D → Hc → Prop} {S : Out → Prop} {a b c e o i : Expr} {es : List Expr} {x m : Str} {pos p apos tpos : Pos}
/-- xs.pop(), xs a cell -/
theorem fx_pop (hb : Bw X M N sc) (hbase : attributeBase o "pop" X.env (eval o X.env) = eval o X.env) (hline : (apos.endLine == pos.line) = true)
    (h : EX X M G o ρ hc fun x h1 => ∃ j ds d, x = .ref j ∧ h1[j]? = some (some (.lst ds)) ∧ ds.getLast? = some d ∧ PF false d (h1.set j (some (.lst ds.dropLast)))) : FX X M G (.Call (.Attribute o "pop" apos) [] [] pos) ρ hc PF :=
  .of (pe_bm0 PySem.F.plainAttrs_list PySem.F.slot_list_pop PySem.F.type_list_pop mt_pop pe_rd hbase hline) fun σ w H Q eh wk sk xc q => h σ w H _ eh wk sk xc fun s v w1 H1 hp e1 k1 r1 => by
    obtain ⟨j, ds, d, rfl, hj, hd, pf⟩ := hp
    obtain ⟨a, u, ha, fa, hu, c⟩ := k1.al j _ hj
    obtain ⟨a', ha', rfl⟩ := r1.ref_inv
    rw [ha] at ha'; cases ha'
    cases u <;> first | exact c.elim | skip
    rename_i vs
    have c : RepL M w1.F w1.m vs ds := c
    obtain ⟨y, hy, ry⟩ := At.get (i := ds.length - 1) c (by rw [List.getLast?_eq_getElem?] at hd; exact hd)
    refine ⟨.inl ⟨rfl, _, .inl (.inl hu)⟩, _, vs, y, rfl, rfl, hu, by rw [c.1]; exact hy, ?_⟩
    have c3 : Cont M w1.F w1.m (.lst ds.dropLast) (.lst vs.dropLast) := At.dropLast c
    obtain ⟨e3, k3⟩ := ext_put k1 hj ha c3
    exact q false d _ _ _ pf (e1.trans e3) k3 ry
theorem get_list : PGet X (fun o i H Q => ∃ p xs k v, o = .ref p ∧ i = .int k ∧ H p = some (.lst xs) ∧ 0 ≤ k ∧ k < 2 ^ 62 ∧ xs[k.toNat]? = some v ∧ Q v H) := by
  intro pins s σ H o i ov iv Q I ro ri h
  obtain ⟨p, xs, k, v, rfl, rfl, hp, h0, h1, hv, q⟩ := h
  cases ro
  obtain ⟨t, rfl⟩ := ri
  obtain ⟨its, n, r, ho, hz⟩ := I.lst hp
  obtain ⟨u, hu, ru⟩ := r.get hv
  obtain ⟨its2, r2, pl, hz2⟩ := I.list (.inl (.inl hp))
  obtain ⟨u2, hu2, ru2⟩ := r2.get hv
  exact wpAny_getItem_list pl.isList h0 (by omega) (by simpa using hu2) ⟨v, H, I, ru2, q⟩
/-- xs[i] += e, whole numbers -/
theorem sx_augIx (hb : Bx X M N sc k W) (hsl : ∀ ov iv new, augStore i ov iv new = (do holding [new, ov, iv] (setItem ov iv new); release [new, ov, iv] []; pure .next))
    (h : EX X M G o ρ hc fun x h1 => EX X M G i ρ h1 fun y h2 => ∃ j n z u xs, x = .ref j ∧ y = .int n ∧ 0 ≤ n ∧ n < 1000000000 ∧ h2[j]? = some (some (.lst xs)) ∧ xs[n.toNat]? = some (.int u) ∧ z = n.toNat ∧
      EX X M G e ρ h2 fun v h3 => ∃ s ys w, v = .int s ∧ h3[j]? = some (some (.lst ys)) ∧ ys[n.toNat]? = some w ∧ S (.nx ρ (h3.set j (some (.lst (ys.set z (.int (u + s)))))))) : SX X M G (.AugAssign (.Subscript o i tpos) .Add e pos) ρ hc S :=
  .of (ps_augS (op := .Add) pe_rd pe_rd get_list pe_rd ip_add set_list hsl) fun w0 H0 σ w H D eh ex wk sk xc q => h σ w H _ eh wk sk (xc.xc ex sk) fun x v w1 H1 p1 e1 k1 r1 => p1 σ w1 H1 _ rfl k1 (sk.ext e1) (xc.xc (ex.trans e1) (sk.ext e1)) fun y z w2 H2 p2 e2 k2 r2 => by
    obtain ⟨j, n, zz, u, xs, rfl, rfl, h0, h1, hj, hu, rfl, p3⟩ := p2
    obtain ⟨a, ob, ha, fa, hob, c⟩ := k2.al j _ hj
    obtain ⟨a', ha', rfl⟩ := (r1.mono e2.ff e2.mm).ref_inv
    rw [ha] at ha'; cases ha'
    cases ob <;> first | exact c.elim | skip
    rename_i vs
    have c : RepL M w2.F w2.m vs xs := c
    obtain ⟨v0, hv0, rv0⟩ := At.get c hu
    refine ⟨a, vs, n, v0, rfl, r2.int_inv, hob, h0, by omega, hv0, ?_⟩
    have e12 := e1.trans e2
    refine p3 σ w2 H2 _ rfl k2 (sk.ext e12) (xc.xc (ex.trans e12) (sk.ext e12)) fun s vv w3 H3 p4 e3 k3 r3 => ?_
    obtain ⟨s, ys, ww, rfl, hj3, hw3, pS⟩ := p4
    refine ⟨u, s, rv0.int_inv, r3.int_inv, ?_⟩
    obtain ⟨a3, ob3, ha3, fa3, hob3, c3⟩ := k3.al j _ hj3
    rw [e3.mm j a ha] at ha3; cases ha3
    cases ob3 <;> first | exact c3.elim | skip
    rename_i vs3
    have c3 : RepL M w3.F w3.m vs3 ys := c3
    have hlen : n.toNat < ys.length := (List.getElem?_eq_some_iff.mp hw3).1
    have c4 : Cont M w3.F w3.m (.lst (ys.set n.toNat (.int (u + s)))) (.lst (vs3.set n.toNat (.int (u + s)))) := At.set c3 (.int _) n.toNat
    obtain ⟨e4, k4⟩ := ext_put k3 hj3 (e3.mm j a ha) c4
    have e13 := e12.trans e3
    refine ⟨a, vs3, n, n.toNat, rfl, r2.int_inv, hob3, ?_, q _ pS σ _ _ rfl ((ex.trans e13).trans e4) k4 (sk.ext (e13.trans e4))⟩
    rw [ixN_of, c3.1]
    unfold Yl.ixN
    rw [if_pos h0, if_pos hlen]
end
end Yl

set_option maxRecDepth 100000
set_option maxHeartbeats 4000000
/-! Y8b: comprehensions that are stored at once. -/
namespace Yl
open PySem PySem.Spec PyProof.Rows L2
/-- a comprehension: as a value, and stored in a name -/
def LCX (X : Cx) (M : Mx) (G : Gx) (a : Expr) (ρ : Env) (hc : Hc) (PF : Bool → D → Hc → Prop) : Prop := ∃ t, FV M G t ρ hc PF ∧ PE X a t ∧ ∀ (i : Nat) (y : Str) (py spos : Pos), X.N[i]? = some y → X.env.scope.names.lookup y = some .local → swapsWith a (some (.Name y py)) spos.line X.env = pure true → PS X (.Assign [.Name y py] a spos) (tAsg t (gName i))
section
variable {X : Cx} {M : Mx} {N : List Str} {sc : Scope} {k k' : Nat} {W : WX} {G : Gx} {ρ : Env} {hc : Hc} {P : D → Hc → Prop} {PF : Bool → D → Hc → Prop} {B : Bool → Hc → Prop} {S : Out → Prop} {a b c e tg : Expr} {es : List Expr} {x m : Str} {pos p apos : Pos}
theorem LCX.fx (h : LCX X M G e ρ hc PF) : FX X M G e ρ hc PF := by
  obtain ⟨t, fv, pe, _⟩ := h
  exact .of pe fv
theorem LCX.set (i : Nat) {pos' : Pos} (hb : Bw X M N sc) (h : LCX X M G e ρ hc fun _ d h' => S (.nx (ρ.set i (some d)) h')) (hN : N[i]? = some x) (hl : sc.names.lookup x = some .local)
    (hs : swapsWith e (some (.Name x pos')) pos.line X.env = pure true) : SX X M G (.Assign [.Name x pos'] e pos) ρ hc S := by
  obtain ⟨t, fv, _, st⟩ := h
  refine .of (st i x pos' pos (by rw [hb.hN]; exact hN) (by rw [hb.hsc]; exact hl) hs) fun w0 H0 σ w H D eh ex wk sk xc q => ?_
  refine fv σ w H _ eh wk sk (xc.xc ex sk) fun f d v w1 H1 p e1 k1 r => ?_
  cases f with
  | false => exact q _ p _ w1 H1 rfl (ex.trans e1) k1 ((sk.ext e1).set r)
  | true =>
    obtain ⟨b, p0, u, rfl, hp, fp, nl, h0, c⟩ := r
    obtain ⟨e2, k2⟩ := ext_fz k1 hp fp nl (h0.imp id .inr) e1
    exact q _ p _ (w1.fz p0 u) H1 rfl (ex.trans e2) k2 ((sk.ext e2).set (rep_box b upd_same (c.mono (sub_upd fp) fun _ _ z => z)))
/-- [elt for tg in iter if ..]: I by what has been taken and what stands in the list -/
theorem lcx_lc {T : List Nat} {elt iter : Expr} {ifs : List Expr} {scope : Scope} (own : List (Str × Nat)) (I : List D → Nat → List D → Hc → Prop) (hb : Bx X M N sc k G.W) (ok : BlkOk N sc scope own) (hT : ∀ j ∈ T, j ∈ own.map (·.2)) (hs : ∀ x, foldedSetIterable iter X.env x = pure x)
    (h : IX X M G tg iter ρ hc fun ds h0 => ds.length ≤ sizeLine ∧ I ds 0 [] h0 ∧ (∀ (i : Nat) d acc h', ds[i]? = some d → I ds i acc h' → InB X M N scope sc k fun X' => GX X' M T tg d (unset ρ (own.map (·.2))) fun ρ2 => InB X M N scope sc k fun X' => IfX X' M ifs ρ2 h' fun b h2 => (b = true → InB X M N scope sc k fun X' => EX X' M Gn elt ρ2 h2 fun y h3 => I ds (i + 1) (acc ++ [y]) h3) ∧ (b = false → I ds (i + 1) acc h2)) ∧
      ∀ acc h', I ds ds.length acc h' → PF true (.lst acc) h') : LCX X M G (.ListComp elt [⟨tg, iter, ifs, 0⟩] scope pos) ρ hc PF := by
  obtain ⟨wi, hi, iv⟩ := h
  refine ⟨_, ?_, pe_lc (own := own) (g := fun v σ H Q => ∀ X', Blk X scope X' → rdG X' tg v σ H Q) (tt := fun σ H Q => ∀ X', Blk X scope X' → rdI X' ifs σ H Q) (te := fun σ H Q => ∀ X', Blk X scope X' → rdE X' elt σ H Q)
    hb.calm (by rw [hb.hN]; exact hb.nd) hi (by rw [hb.hN, hb.hsc]; exact ok) (fun s H C cl fp => ⟨fun pins s' σ H v u Q I r q => q _ ⟨s, _, C, cl, fp, rfl⟩ pins s' u I r⟩) (fun s H C cl fp => ⟨fun pins s' σ H Q I q => q _ ⟨s, _, C, cl, fp, rfl⟩ pins s' I⟩)
    (fun s H C cl fp => ⟨fun pins s' σ H Q I q => q _ ⟨s, _, C, cl, fp, rfl⟩ pins s' I⟩) hs, fun i y py spos hy hyl hsw => ps_setLc (own := own) (g := fun v σ H Q => ∀ X', Blk X scope X' → rdG X' tg v σ H Q) (tt := fun σ H Q => ∀ X', Blk X scope X' → rdI X' ifs σ H Q) (te := fun σ H Q => ∀ X', Blk X scope X' → rdE X' elt σ H Q)
    hb.calm (by rw [hb.hN]; exact hb.nd) hy hyl hsw hi (by rw [hb.hN, hb.hsc]; exact ok) (fun s H C cl fp => ⟨fun pins s' σ H v u Q I r q => q _ ⟨s, _, C, cl, fp, rfl⟩ pins s' u I r⟩) (fun s H C cl fp => ⟨fun pins s' σ H Q I q => q _ ⟨s, _, C, cl, fp, rfl⟩ pins s' I⟩)
    (fun s H C cl fp => ⟨fun pins s' σ H Q I q => q _ ⟨s, _, C, cl, fp, rfl⟩ pins s' I⟩) hs⟩
  intro σ w H Q eh wk sk xc q
  refine iv σ w H _ eh wk sk xc fun ds J w1 H1 pd e1 k1 it => ?_
  obtain ⟨hlen, p0, pt, pe⟩ := pd
  intro Da hD
  refine ⟨fun i m H' => m = ds.length - i ∧ i ≤ ds.length ∧ ∃ w' acc vs, I ds i acc w'.h ∧ acc.length ≤ i ∧ WOk M w' H' ∧ Ext w1 H1 w' H' ∧ Mine w' H' Da (.lst vs) ∧ RepL M w'.F w'.m vs acc, ⟨_, rfl, Nat.zero_le _, w1, [], [], p0, Nat.le_refl _, (ext_lay k1 hD).2, (ext_lay k1 hD).1, Mine.new k1 hD, .nil⟩, ?_⟩
  rintro i m H' ⟨rfl, hi', w', acc, vs, pi, hacc, kk, ee, mn, rl⟩
  have le1 : Le w1.F H' := fun a o z => kk.le a o (ee.ff a o z)
  have nt : ∀ (us : List V) (vs : List V), HO.lst us ≠ .tup vs := fun _ _ z => nomatch z
  by_cases hlt : i < ds.length
  · refine .inr ⟨it.go i w' H' (ee.ltr k1) kk hlt, fun H2 => i + 1 ≤ ds.length ∧ ∃ w' acc vs, I ds (i + 1) acc w'.h ∧ acc.length ≤ i + 1 ∧ WOk M w' H2 ∧ Ext w1 H1 w' H2 ∧ Mine w' H2 Da (.lst vs) ∧ RepL M w'.F w'.m vs acc, fun H2 ⟨a, b⟩ => ⟨_, by omega, rfl, a, b⟩, fun x H2 y => ?_⟩
    have hd : ds[i]? = some ds[i] := by simp [hlt]
    obtain ⟨w2, eh2, e2, k2, r2⟩ := it.yld i w' H' x H2 _ (ee.ltr k1) kk y hd
    have mn2 := mn.ext (nt vs) e2
    have sk2 := (sk.ext e1).ext (ee.trans e2)
    intro X' bk
    refine pt i _ acc w'.h hd pi X' bk (bk.bx hb) x (wipe σ (own.map (·.2))) w2 H2 _ k2 (sk2.wiped _) r2 fun σ3 ρ3 p3 sk3 l3 => ?_
    refine And.intro (wipe_less hT l3) fun X'' bk' => ?_
    refine p3 X'' bk' (bk'.bx hb) σ3 w2 H2 _ eh2 k2 sk3 xc_in fun b w3 H3 p4 e3 k3 => ?_
    have mn3 := mn2.ext (nt vs) e3
    have e13 := (ee.trans e2).trans e3
    cases b with
    | false =>
      rw [if_neg Bool.false_ne_true]
      exact ⟨hlt, w3, acc, vs, p4.2 rfl, by omega, k3, e13, mn3, RepL.mono (fun a o z => e3.ff _ _ (e2.ff _ _ z)) (fun i a z => e3.mm i a (e2.mm i a z)) rl⟩
    | true =>
      rw [if_pos rfl]
      intro X3 bk3
      refine p4.1 rfl X3 bk3 (bk3.bx hb) σ3 w3 H3 _ rfl k3 (sk3.ext e3) xc_in fun y v w4 H4 p5 e4 k4 r4 => ?_
      have mn4 := mn3.ext (nt vs) e4
      have rl4 : RepL M w4.F w4.m vs acc := RepL.mono (fun a o z => e4.ff _ _ (e3.ff _ _ (e2.ff _ _ z))) (fun i a z => e4.mm i a (e3.mm i a (e2.mm i a z))) rl
      refine ⟨vs, mn4.at_, by rw [rl.1]; omega, hlt, w4, acc ++ [y], vs ++ [v], p5, by simp; omega, wok_grow k4 mn4.fp mn4.nl, ext_grow (e13.trans e4) hD, mn4.put, rl4.append (.cons r4 .nil)⟩
  · have e : i = ds.length := by omega
    subst e
    exact .inl ⟨it.stop w' H' (ee.ltr k1) kk, q true _ _ w' H' (pe acc _ pi) (e1.trans ee) kk ⟨rfl, Da, .lst vs, rfl, mn.at_, mn.fp, mn.nl, .inl (e1.nn Da hD), rl⟩⟩
end
end Yl

set_option maxRecDepth 100000
set_option maxHeartbeats 4000000
/-! Y8c: comprehensions of three clauses. -/
namespace Yl
open PySem PySem.Spec PyProof.Rows L2
/-- what one clause does behind its target's store -/
def TurnIs (e : Expr) (k : Nat) (p : Pos) (t : Expr) (it acc : Value) (env : PySem.Env) (b : Sem PySem.Fin → Sem PySem.Fin) : Prop :=
  compTurn e k it acc env = (do
    standAt p
    match ← pyNext it with
    | none => pure (.done .next)
    | some v =>
      letOwnedTupleGo t it v
      assign t env v
      b (again (.compLoop e k it acc env)))
abbrev LC3 (elt t0 i0 t1 i1 t2 i2 : Expr) (scope : Scope) (pos : Pos) : Expr := .ListComp elt [⟨t0, i0, [], 0⟩, ⟨t1, i1, [], 0⟩, ⟨t2, i2, [], 0⟩] scope pos
/-- the next clause is begun and run -/
def nextC (e : Expr) (k : Nat) (i : Expr) (acc : Value) (env : PySem.Env) (fin : Sem PySem.Fin) : Sem PySem.Fin := do
  let x ← eval i env
  standAt i.pos
  let x ← foldedSetIterable i env x
  let _ ← runOwn (.compStart e k (← holding [x] (pyIter x)) acc env) env
  fin
/-- the element is put to the list -/
def lastC (elt : Expr) (acc : Value) (env : PySem.Env) (fin : Sem PySem.Fin) : Sem PySem.Fin := do
  (do let _ ← call (.builtin "list.append") [acc, ← eval elt env])
  fin
section
variable {elt t0 i0 t1 i1 t2 i2 : Expr} {scope : Scope} {pos : Pos} {it acc : Value} {env : PySem.Env}
theorem turn3_0 : TurnIs (LC3 elt t0 i0 t1 i1 t2 i2 scope pos) 0 i0.pos t0 it acc env (nextC (LC3 elt t0 i0 t1 i1 t2 i2 scope pos) 1 i1 acc env) := by rfl
theorem turn3_1 : TurnIs (LC3 elt t0 i0 t1 i1 t2 i2 scope pos) 1 i1.pos t1 it acc env (nextC (LC3 elt t0 i0 t1 i1 t2 i2 scope pos) 2 i2 acc env) := by rfl
theorem turn3_2 : TurnIs (LC3 elt t0 i0 t1 i1 t2 i2 scope pos) 2 i2.pos t2 it acc env (lastC elt acc env) := by rfl
end
section
variable {prog : Program} {w : World} {A : Around} {R : Result → Shared → Prop} {s : Shared} {e t : Expr} {p : Pos} {k : Nat} {it acc : Value} {env : PySem.Env} {b : Sem PySem.Fin → Sem PySem.Fin}
theorem loopT (hq : (Code.compLoop e k it acc env).quiet = true) (hden : ∀ A : Around, A.under (.compLoop e k it acc env) = A ∧ (model prog w).den (.compLoop e k it acc env) = (compTurn e k it acc env).onRaise (fun x => do noteFrame x env; theTreesLotGoes x))
    (ht : TurnIs e k p t it acc env b) (I : Nat → Shared → Prop)
    (turn : ∀ n s, I n s → wpAny (model prog w) A (pyNext it) (fun r s1 => match r with
      | none => R (.ok .next) s1
      | some v => wpAny (model prog w) A (letOwnedTupleGo t it v) (fun _ s2 => wpAny (model prog w) A (assign t env v) (fun _ s3 => ∀ (fin : Sem PySem.Fin) (Q : PySem.Fin → Shared → Prop) (E : Value → Shared → Prop), (∀ s4, (∃ m, m < n ∧ I m s4) → wpAny (model prog w) A fin Q E s4) → wpAny (model prog w) A (b fin) Q E s3) (fun _ _ => False) s2) (fun _ _ => False) s1) (fun _ _ => False) s)
    (n : Nat) (h : I n s) : codeAny (model prog w) A (.compLoop e k it acc env) R s := by
  refine codeAny_loop hq I (fun n s hI => ?_) n h
  rw [(hden A).1, (hden A).2]
  refine wpAny_noted ?_
  rw [ht]
  refine wpAny_bind (wpAny_standAt (wpAny_bind (thnF (turn n s hI) fun r s1 h1 => ?_)))
  cases r with
  | none => exact wpAny_pure h1
  | some v => exact wpAny_bind (thnF h1 fun _ s2 h2 => wpAny_bind (thnF h2 fun _ s3 h3 => h3 _ _ _ fun s4 h4 => wpAny_pure ⟨rfl, h4⟩))
/-- the start of a clause behind the first -/
theorem start3 {elt t0 i0 t1 i1 t2 i2 : Expr} {scope : Scope} {pos : Pos} (hk : k = 1 ∨ k = 2) (h0 : codeAny (model prog w) A (.compLoop (LC3 elt t0 i0 t1 i1 t2 i2 scope pos) k it acc env) R s)
    (h : wpAny (model prog w) A (pyIter it) (fun j s' => codeAny (model prog w) A (.compLoop (LC3 elt t0 i0 t1 i1 t2 i2 scope pos) k j acc env) R s') (notedBy (model prog w) A env fun x s' => R (.error x) s') s) :
    codeAny (model prog w) A (.compStart (LC3 elt t0 i0 t1 i1 t2 i2 scope pos) k it acc env) R s := by
  rcases hk with rfl | rfl
  all_goals
    refine codeAny_of_tree ?_
    show wpAny _ _ ((compStart (LC3 elt t0 i0 t1 i1 t2 i2 scope pos) _ it acc env).onRaise (fun x => do noteFrame x env; standAt theWindowsPlace)) _ _ s
    refine wpAny_notedAt ?_
    unfold compStart
    show wpAny _ _ (ask >>= _) _ _ s
    refine wpAny_bind (wpAny_askSetting (wpAny_ite ?_))
    split
    · first
        | exact wpAny_bind (wpAny_pure (wpAny_pure (And.intro rfl h0)))
        | exact wpAny_pure (And.intro rfl h0)
    · refine wpAny_bind (wpAny_rule ?_)
      first
        | exact wpAny_bind (wpAny_standAt (wpAny_bind (wpAny_mono h (fun j s' z => wpAny_pure ⟨rfl, z⟩) fun _ _ z => z)))
        | (refine wpAny_bind (wpAny_standAt ?_); exact wpAny_bind (wpAny_mono h (fun j s' z => wpAny_pure ⟨rfl, z⟩) fun _ _ z => z))
        | (show wpAny _ _ (standAt _ >>= _) _ _ s; exact wpAny_bind (wpAny_standAt (wpAny_bind (wpAny_mono h (fun j s' z => wpAny_pure ⟨rfl, z⟩) fun _ _ z => z))))
end
/-! ### one clause, in its block -/
def Knows (σ0 σ1 : St) : Prop := σ0.length = σ1.length ∧ ∀ (j : Nat) v, σ0[j]? = some (some v) → σ1[j]? = some (some v)
abbrev TB := St → Hp → (St → Hp → Prop) → Prop
def tLoop (J : It) (g : TG) (tb : TB) (σ0 : St) (H : Hp) (Done : Hp → Prop) : Prop := ∃ W : Nat → Nat → Hp → Prop, (∃ m, W 0 m H) ∧ ∀ i m H, W i m H →
  (J.stop i H ∧ Done H) ∨ (J.go i H ∧ ∃ Nx : Hp → Prop, (∀ H', Nx H' → ∃ n, n < m ∧ W (i + 1) n H') ∧ ∀ x H', J.yld i H x H' → g x σ0 H' fun σ2 H2 => tb σ2 H2 fun σ3 H3 => Knows σ0 σ3 ∧ Nx H3)
section
variable {B : Cx} {pins : List (Addr × Obj)} {σ0 : St} {H : Hp} {R : Result → Shared → Prop} {s : Shared} {e t : Expr} {p : Pos} {k : Nat} {it : Addr} {acc : Value} {b : Sem PySem.Fin → Sem PySem.Fin} {g : TG} {tb : TB} {J : It} {fp : List Addr} {tn : Nat → Heap → Prop} {Done : Hp → Prop}
def BodyOk (B : Cx) (b : Sem PySem.Fin → Sem PySem.Fin) (tb : TB) : Prop := ∀ (pins : List (Addr × Obj)) (s : Shared) (σ : St) (H : Hp) (Q : St → Hp → Prop), Inv B pins σ H s → tb σ H Q → ∀ (fin : Sem PySem.Fin) (Q' : PySem.Fin → Shared → Prop) (E : Value → Shared → Prop), (∀ s4 σ3 H3, Inv B pins σ3 H3 s4 → Q σ3 H3 → wpAny (model B.prog B.w) B.A fin Q' E s4) → wpAny (model B.prog B.w) B.A (b fin) Q' E s
theorem clause_run (hc : B.calm = true) (hx : B.xe = fun _ _ => False) (hq : (Code.compLoop e k (.ref it) acc B.env).quiet = true) (hden : ∀ A : Around, A.under (.compLoop e k (.ref it) acc B.env) = A ∧ (model B.prog B.w).den (.compLoop e k (.ref it) acc B.env) = (compTurn e k (.ref it) acc B.env).onRaise (fun x => do noteFrame x B.env; theTreesLotGoes x))
    (ht : TurnIs e k p t (.ref it) acc B.env b) (pg : PG B t g) (T : Turn B.prog B.w B.K t J fp it tn) (bo : BodyOk B b tb) (I : Inv B pins σ0 H s) (st : tn 0 s.heap) (fo : ∀ b ∈ fp, FpOk B pins H b) (h : tLoop J g tb σ0 H Done)
    (hR : ∀ s' H', Inv B pins σ0 H' s' → Done H' → R (.ok .next) s') : codeAny (model B.prog B.w) B.A (.compLoop e k (.ref it) acc B.env) R s := by
  obtain ⟨W, ⟨m0, w0⟩, turn⟩ := h
  have fo' : ∀ {H' : Hp}, (∀ b ∈ fp, H' b = none) → ∀ b ∈ fp, FpOk B pins H' b := fun hn b hb => ⟨hn b hb, (fo b hb).2⟩
  refine loopT hq hden ht (fun n s' => ∃ i H', Inv B pins σ0 H' s' ∧ tn i s'.heap ∧ (∀ b ∈ fp, H' b = none) ∧ W i n H') ?_ m0 ⟨0, H, I, st, fun b hb => (fo b hb).1, w0⟩
  rintro n s1 ⟨i, H1, I1, st1, n1, w1⟩
  rcases turn i n H1 w1 with ⟨stp, dn⟩ | ⟨go, Nx, hNx, step⟩
  · refine thnF (T.done B rfl rfl rfl hc i pins s1 σ0 H1 (fun _ _ => False) I1 (fo' n1) st1 stp) fun r s2 z => ?_
    obtain ⟨rfl, I2⟩ := z
    exact hR s2 H1 I2 dn
  · refine thnF (T.item B rfl rfl rfl hc i pins s1 σ0 H1 (fun _ _ => False) I1 (fo' n1) st1 go) fun r s2 z => ?_
    obtain ⟨u, rfl, z⟩ := z
    refine thnF z fun _ s3 z => ?_
    obtain ⟨x, H3, I3, r3, y3, st3, n3⟩ := z
    have P3 := I3.pinned (fo' n3) (T.obj _ _ st3)
    have asg := pg.run _ s3 _ H3 x u _ P3 r3 (step x H3 y3)
    rw [hx] at asg
    refine thnF asg fun _ s4 z => ?_
    obtain ⟨σ4, H4, I4, q4⟩ := z
    intro fin Q' E hf
    refine bo _ s4 σ4 H4 _ I4 q4 fin Q' E fun s5 σ5 H5 I5 z => hf s5 ?_
    obtain ⟨kn, nx⟩ := z
    obtain ⟨n', hn', w'⟩ := hNx H5 nx
    have keep : ∀ b ∈ fp, ∀ o, s3.heap.get? b = some o → s5.heap.get? b = some o ∧ H5 b = none := fun b hb o e => by
      have z := I5.pin (b, o) (List.mem_append_right _ (List.mem_append_right _ (mem_pinsAt hb e)))
      exact ⟨z.1, z.2.1⟩
    refine ⟨n', hn', i + 1, H5, (I5.unpinned (pins := pins)).weak kn.1 kn.2, T.keep _ _ _ st3 fun b hb o e => (keep b hb o e).1, fun b hb => ?_, w'⟩
    obtain ⟨o, e, _⟩ := T.obj _ _ st3 b hb
    exact (keep b hb o e).2
/-- the element, put to the list at D -/
def tbLast (te : TE) (D : Addr) : TB := fun σ H Q => te σ H fun y H1 => ∃ xs, H1 D = some (.lst xs) ∧ xs.length < sizeLine ∧ Q σ (upd H1 D (.lst (xs ++ [y])))
theorem body_last {elt : Expr} {te : TE} {D : Addr} (hx : B.xe = fun _ _ => False) (pe : PE B elt te) : BodyOk B (lastC elt (.ref D) B.env) (tbLast te D) := fun pins s σ H Q I h fin Q' E hf => by
  have ev := pe.run pins s σ H _ I h
  rw [hx] at ev
  refine wpAny_bind (wpAny_bind (thnF ev fun v s1 z => ?_))
  obtain ⟨y, H1, I1, r1, xs, hD, hz, q⟩ := z
  exact wpAny_bind (app_ok I1 hD hz r1 fun s2 I2 => wpAny_pure (hf s2 _ _ I2 q))
/-- the next clause's own loop -/
def tbNext (wi : TI) (g : TG) (tb : TB) (vs : List Nat) : TB := fun σ H Q => wi σ H fun J H1 => tLoop J g tb (wipe σ vs) H1 fun H2 => Q (wipe σ vs) H2
theorem body_next {elt t0 i0 t1 i1 t2 i2 : Expr} {scope : Scope} {pos : Pos} {iter : Expr} {wi : TI} {vs : List Nat} {b1 : Value → Sem PySem.Fin → Sem PySem.Fin} (hk : k = 1 ∨ k = 2) (hc : B.calm = true) (hx : B.xe = fun _ _ => False) (hs : ∀ x, foldedSetIterable iter B.env x = pure x)
    (hq : ∀ it, (Code.compLoop (LC3 elt t0 i0 t1 i1 t2 i2 scope pos) k it acc B.env).quiet = true) (hden : ∀ (it : Value) (A : Around), A.under (.compLoop (LC3 elt t0 i0 t1 i1 t2 i2 scope pos) k it acc B.env) = A ∧ (model B.prog B.w).den (.compLoop (LC3 elt t0 i0 t1 i1 t2 i2 scope pos) k it acc B.env) = (compTurn (LC3 elt t0 i0 t1 i1 t2 i2 scope pos) k it acc B.env).onRaise (fun x => do noteFrame x B.env; theTreesLotGoes x))
    (ht : ∀ it, TurnIs (LC3 elt t0 i0 t1 i1 t2 i2 scope pos) k p t it acc B.env (b1 it)) (pi : PI B t iter wi) (pg : PG B t g) (bo : ∀ it, BodyOk B (b1 it) tb) :
    BodyOk B (nextC (LC3 elt t0 i0 t1 i1 t2 i2 scope pos) k iter acc B.env) (tbNext wi g tb vs) := fun pins s σ H Q I h fin Q' E hf => by
  have ev := pi.run pins s σ H _ I h
  rw [hx] at ev
  refine wpAny_bind (thnF ev fun xv s1 z1 => wpAny_bind (wpAny_standAt (wpAny_bind (wpAny_of_eq (hs xv) (wpAny_bind (wpAny_holding (thnF z1 fun iv s2 z2 => ?_)))))))
  obtain ⟨it, fp, tn, J, H2, rfl, I2, T, st, fo, lp⟩ := z2
  refine wpAny_bind (wpAny_runOwn ?_)
  rw [Around.mark_none]
  have I3 : Inv B pins (wipe σ vs) H2 s2 := I2.weak (wipe_length _ _) fun j v e => (wipe_some e).1
  have go : ∀ {R : Result → Shared → Prop}, (∀ s' H', Inv B pins (wipe σ vs) H' s' → Q (wipe σ vs) H' → R (.ok .next) s') → codeAny (model B.prog B.w) B.A (.compStart (LC3 elt t0 i0 t1 i1 t2 i2 scope pos) k (.ref it) acc B.env) R s2 := fun {R} hR => by
    have cl := clause_run (R := R) hc hx (hq _) (hden _) (ht (.ref it)) pg T (bo _) I3 st fo lp hR
    exact start3 hk cl (T.self B.A 0 s2 _ _ st cl)
  exact go fun s' H' I' q => hf s' _ _ I' q
end
section
variable {X : Cx}
def tLc3 (wi0 : TI) (g0 : TG) (wi1 : TI) (g1 : TG) (wi2 : TI) (g2 : TG) (te : TE) (vs vs1 vs2 : List Nat) : TE := fun σ H Q => wi0 σ H fun J H1 => ∀ D, H1 D = none →
  tLoop J g0 (tbNext wi1 g1 (tbNext wi2 g2 (tbLast te D) vs2) vs1) (wipe σ vs) (upd H1 D (.lst [])) fun H2 => Q (.ref D) H2
theorem pe_lc3 {elt t0 i0 t1 i1 t2 i2 : Expr} {scope : Scope} {own : List (Str × Nat)} {pos : Pos} {wi0 wi1 wi2 : TI} {g0 g1 g2 : TG} {te : TE} {vs1 vs2 : List Nat} (hc : X.calm = true) (hN : X.N.Nodup) (hi : PI X t0 i0 wi0) (ok : BlkOk X.N X.env.scope scope own)
    (blk : ∀ (s : Shared) (H : Hp) (C : Addr) (cl : List (Str × Addr)) (fp : List Addr), PG (X.blk s H scope (compEnvC scope cl C X.env) fp) t0 g0 ∧ PI (X.blk s H scope (compEnvC scope cl C X.env) fp) t1 i1 wi1 ∧ PG (X.blk s H scope (compEnvC scope cl C X.env) fp) t1 g1 ∧ PI (X.blk s H scope (compEnvC scope cl C X.env) fp) t2 i2 wi2 ∧ PG (X.blk s H scope (compEnvC scope cl C X.env) fp) t2 g2 ∧ PE (X.blk s H scope (compEnvC scope cl C X.env) fp) elt te)
    (h0 : ∀ env x, foldedSetIterable i0 env x = pure x) (h1 : ∀ env x, foldedSetIterable i1 env x = pure x) (h2 : ∀ env x, foldedSetIterable i2 env x = pure x) : PE X (LC3 elt t0 i0 t1 i1 t2 i2 scope pos) (tLc3 wi0 g0 wi1 g1 wi2 g2 te (own.map (·.2)) vs1 vs2) := by
  refine ⟨fun pins s σ H Q I h => ?_⟩
  rw [eval_ListComp]
  have free : ∀ y ∈ scope.names, y.2 = .free → ∃ c, X.env.cells.lookup y.1 = some c := fun y hy e => (ok.free y hy e).elim (fun z => I.ok.has _ (.inl z)) (fun z => I.ok.has _ (.inr z))
  refine wpAny_comprehension_free (use := none) rfl (h0 X.env) (closure_ok free) ok.kind (fun y hy e => by rw [ok.uniq y hy, e]) (thn (hi.run pins s σ H _ I h) fun xv s1 z1 => thn z1 fun iv s2 z2 => ?_)
  obtain ⟨it, fp, tn, J, H2, rfl, I2, T, st, fo, lp⟩ := z2
  refine wpAny_newObj_type (newEnv_comp ?_) (by show 0 ≤ sizeLine; decide)
  have hD : H2 s2.heap.objs.size = none := I2.hok.fresh (Nat.le_refl _)
  have lp := lp _ hD
  have I3 : Inv X pins σ (upd H2 s2.heap.objs.size (.lst [])) { s2 with heap := s2.heap.push { cls := .type "list", data := .seq #[] } } :=
    I2.laid (t' := s2.toks) (o := .lst []) (fun b o e => Heap.get?_push_of_some _ e) (Nat.le_refl _) ⟨Nat.zero_le _, [], 0, .nil, Heap.get?_push_size _ rfl⟩
  have lt : ∀ b ∈ fp, b < s2.heap.objs.size := fun b hb => by
    obtain ⟨o, e, _⟩ := T.obj _ _ st b hb
    exact Heap.lt_size e
  have f3 : ∀ b ∈ fp, FpOk X pins (upd H2 s2.heap.objs.size (.lst [])) b ∧ b < (s2.heap.push { cls := .type "list", data := .seq #[] }).objs.size := fun b hb =>
    ⟨⟨by rw [upd_ne (Nat.ne_of_lt (lt b hb))]; exact (fo b hb).1, (fo b hb).2⟩, by rw [Heap.size_push]; exact Nat.lt_succ_of_lt (lt b hb)⟩
  generalize e3 : ({ s2 with heap := s2.heap.push { cls := .type "list", data := .seq #[] } } : Shared) = s3 at I3
  have h3 : s3.heap = s2.heap.push { cls := .type "list", data := .seq #[] } := by rw [← e3]
  rw [← h3] at f3
  have st3 : tn 0 s3.heap := T.keep _ _ _ st fun b _ o e => by rw [h3]; exact Heap.get?_push_of_some _ e
  have I4 := block_start I3 ok hN f3
  have fc := blk s3 (upd H2 s2.heap.objs.size (.lst [])) s3.heap.objs.size (cellsFrom (s3.heap.objs.size + 1) scope.names (cloFrom X.env.cells scope.names [])) fp
  generalize eB : X.blk s3 (upd H2 s2.heap.objs.size (.lst [])) scope (compEnvC scope (cellsFrom (s3.heap.objs.size + 1) scope.names (cloFrom X.env.cells scope.names [])) s3.heap.objs.size X.env) fp = B at I4 fc
  have bP : B.prog = X.prog := by first | (rw [← eB]; done) | (rw [← eB]; rfl)
  have bw : B.w = X.w := by first | (rw [← eB]; done) | (rw [← eB]; rfl)
  have bK : B.K = X.K := by first | (rw [← eB]; done) | (rw [← eB]; rfl)
  have bA : B.A = X.A := by first | (rw [← eB]; done) | (rw [← eB]; rfl)
  have bc : B.calm = true := by rw [← eB]; exact hc
  have bx : B.xe = fun _ _ => False := by first | (rw [← eB]; done) | (rw [← eB]; rfl)
  have be : B.env = compEnvC scope (cellsFrom (s3.heap.objs.size + 1) scope.names (cloFrom X.env.cells scope.names [])) s3.heap.objs.size X.env := by first | (rw [← eB]; done) | (rw [← eB]; rfl)
  have bl : B.env.locals = s3.heap.objs.size := by rw [be]; rfl
  have bex : ∀ b ∈ fp, b ∈ B.ex := fun b hb => by rw [← eB]; exact hb
  have bpn : B.pn = [] := by first | (rw [← eB]; done) | (rw [← eB]; rfl)
  generalize e4 : ({ s3 with heap := pushCells (s3.heap.push { cls := .type "dict", data := .dict #[] }) scope.names } : Shared) = s4 at I4
  have st4 : tn 0 s4.heap := T.keep _ _ _ st3 fun b _ o e => by rw [← e4]; exact pushCells_keeps _ _ _ _ (Heap.get?_push_of_some _ e)
  have fo4 : ∀ b ∈ fp, FpOk B [] (upd H2 s2.heap.objs.size (.lst [])) b := fun b hb =>
    ⟨(f3 b hb).1.1, (I4.ok.exf b (bex b hb)).1, I4.ok.exfs b (bex b hb), .inl (bex b hb), fun x c z => (I4.ok.exf b (bex b hb)).2 x c z, fun p hp => by rw [bpn] at hp; cases hp⟩
  obtain ⟨pg0, pi1, pg1, pi2, pg2, pe⟩ := fc
  have b2 := fun it2 : Value => body_last (B := B) (elt := elt) (D := s2.heap.objs.size) bx pe
  have b1 := fun it1 : Value => body_next (B := B) (acc := .ref s2.heap.objs.size) (elt := elt) (t0 := t0) (i0 := i0) (t1 := t1) (i1 := i1) (t2 := t2) (i2 := i2) (scope := scope) (pos := pos) (vs := vs2) (.inr rfl) bc bx (h2 B.env) (fun _ => rfl) (fun _ _ => ⟨rfl, rfl⟩) (fun _ => turn3_2) pi2 pg2 b2
  have b0 := body_next (B := B) (acc := .ref s2.heap.objs.size) (elt := elt) (t0 := t0) (i0 := i0) (t1 := t1) (i1 := i1) (t2 := t2) (i2 := i2) (scope := scope) (pos := pos) (vs := vs1) (.inl rfl) bc bx (h1 B.env) (fun _ => rfl) (fun _ _ => ⟨rfl, rfl⟩) (fun _ => turn3_1) pi1 pg1 b1
  have T' : Turn B.prog B.w B.K t0 J fp it tn := by rw [bP, bw, bK]; exact T
  have run : ∀ {R : Result → Shared → Prop}, (∀ s' H', Inv B [] (wipe σ (own.map (·.2))) H' s' → Q (.ref s2.heap.objs.size) H' → R (.ok .next) s') → codeAny (model B.prog B.w) B.A (.compLoop (LC3 elt t0 i0 t1 i1 t2 i2 scope pos) 0 (.ref it) (.ref s2.heap.objs.size) B.env) R s4 := fun {R} hR =>
    clause_run (R := R) bc bx rfl (fun _ => ⟨rfl, rfl⟩) turn3_0 pg0 T' b0 I4 st4 fo4 lp hR
  rw [bP, bw, bA, be] at run
  have start : ∀ {R : Result → Shared → Prop}, (∀ s' H', Inv B [] (wipe σ (own.map (·.2))) H' s' → Q (.ref s2.heap.objs.size) H' → R (.ok .next) s') → codeAny (model X.prog X.w) X.A (.compStart (LC3 elt t0 i0 t1 i1 t2 i2 scope pos) 0 (.ref it) (.ref s2.heap.objs.size) (compEnvC scope (cellsFrom (s3.heap.objs.size + 1) scope.names (cloFrom X.env.cells scope.names [])) s3.heap.objs.size X.env)) R s4 := fun {R} hR =>
    codeAny_compStart_list (run hR) (T.self X.A 0 _ _ _ st4 (run hR))
  subst eB e4
  refine start fun s' H' I' q => ?_
  have I7 : Inv X pins σ H' s' := I3.call' (ch := fp) I'.os I'.base I'.hok I'.bare fun b hb => ⟨(f3 b hb).1.2.2.2.1, (f3 b hb).1.2.1, (f3 b hb).1.2.2.2.2.1, (f3 b hb).1.2.2.2.2.2⟩
  have nC : H' s3.heap.objs.size = none := I'.free
  obtain ⟨m, hn, _⟩ := I'.loc
  have hn : s'.heap.Ns s3.heap.objs.size m := hn
  obtain ⟨f0, f1, f2, f3, f4, f5⟩ := I3.fpOk (Nat.le_refl _) nC
  exact ⟨m, hn, fun h'' sb => ⟨.ref _, H', I7.turned (t' := s'.toks) (fun b o hb z => (sb.2 b hb).trans z) f0 f1 f3 f4 f5, rfl, q⟩⟩
end
end Yl

set_option maxRecDepth 100000
set_option maxHeartbeats 4000000
/-! Y8d: comprehensions of three clauses, on data. -/
namespace Yl
open PySem PySem.Spec PyProof.Rows L2
section
variable {X : Cx} {M : Mx} {N : List Str} {sc : Scope} {k k' : Nat} {W : WX} {G : Gx} {ρ : Env} {hc : Hc} {P : D → Hc → Prop} {PF : Bool → D → Hc → Prop} {a b c e tg iter elt : Expr} {scope : Scope} {wb : Wd} {Hb : Hp} {D0 : Addr} {tb : TB}
/-- the reading of an iterator that is weakest -/
def rdIt (X : Cx) (tg iter : Expr) : TI := fun σ H R => ∀ pins s, Inv X pins σ H s → wpAny (model X.prog X.w) X.A (eval iter X.env) (fun v s1 => wpAny (model X.prog X.w) X.A (pyIter v) (PIE X pins σ tg R) X.xe s1) X.xe s
/-- a clause's body, on data: the new list stands at D0 with acc -/
def TBX (M : Mx) (wb : Wd) (Hb : Hp) (D0 : Addr) (Z : List Nat) (tb : TB) (ρ : Env) (acc : List D) (h : Hc) (Pn : List D → Hc → Prop) : Prop := ∀ σ w H (Q : St → Hp → Prop) us, w.h = h → WOk M w H → SOk M w σ ρ → (∀ j ∈ Z, ∀ v, σ[j]? ≠ some (some v)) → Ext wb Hb w H → Mine w H D0 (.lst us) → RepL M w.F w.m us acc →
  (∀ acc' w' H' us', Pn acc' w'.h → Ext wb Hb w' H' → Ltr w H w' H' → WOk M w' H' → Mine w' H' D0 (.lst us') → RepL M w'.F w'.m us' acc' → Q σ H') → tb σ H Q
theorem nt_lst {us : List V} : ∀ vs, HO.lst us ≠ .tup vs := fun _ z => nomatch z
theorem tbx_last {Z : List Nat} {acc : List D} {Pn : List D → Hc → Prop} (hb : Bx X M N sc k W) (hD : Hb D0 = none) (h : InB X M N scope sc k fun X' => EX X' M Gn elt ρ hc fun y h' => acc.length < lim ∧ Pn (acc ++ [y]) h') : TBX M wb Hb D0 Z (tbLast (fun σ H Q => ∀ X', Blk X scope X' → rdE X' elt σ H Q) D0) ρ acc hc Pn := fun σ w H Q us eh wk sk z0 eb mn rl q => by
  intro X' bk
  refine h X' bk (bk.bx hb) σ w H _ eh wk sk xc_in fun y v w1 H1 p e1 k1 r1 => ?_
  have mn1 := mn.ext nt_lst e1
  have rl1 : RepL M w1.F w1.m us acc := RepL.mono e1.ff e1.mm rl
  refine ⟨us, mn1.at_, by rw [rl1.1]; rw [lim_eq] at p; exact p.1, ?_⟩
  exact q (acc ++ [y]) w1 _ (us ++ [v]) p.2 (ext_grow (eb.trans e1) hD) ((e1.ltr wk).upd mn.fp) (wok_grow k1 mn1.fp mn1.nl) mn1.put (rl1.append (.cons r1 .nil))
theorem tloop_of {T Z : List Nat} {J : It} {wi w1 : Wd} {Hi H1 : Hp} {ds acc0 : List D} {us0 : List V} {σ0 : St} {Done : Hp → Prop} (Pi : Nat → List D → Hc → Prop) (hb : Bx X M N sc k W) (hD : Hb D0 = none) (it : ItOk M J wi Hi ds) (lt : Ltr wi Hi w1 H1) (fp : wi.F D0 = none) (k1 : WOk M w1 H1) (e1 : Ext wb Hb w1 H1) (mn0 : Mine w1 H1 D0 (.lst us0)) (r0 : RepL M w1.F w1.m us0 acc0) (p0 : Pi 0 acc0 w1.h) (sk : SOk M w1 σ0 ρ)
    (hT : ∀ j ∈ T, ∀ v, σ0[j]? ≠ some (some v)) (hZ : ∀ j ∈ Z, j ∉ T ∧ ∀ v, σ0[j]? ≠ some (some v)) (step : ∀ (i : Nat) d acc h, ds[i]? = some d → Pi i acc h → InB X M N scope sc k fun X' => GX X' M T tg d ρ fun ρ2 => TBX M wb Hb D0 Z tb ρ2 acc h (Pi (i + 1)))
    (done : ∀ acc w H us, Pi ds.length acc w.h → Ext wb Hb w H → Ltr w1 H1 w H → WOk M w H → Mine w H D0 (.lst us) → RepL M w.F w.m us acc → Done H) : tLoop J (fun v σ H Q => ∀ X', Blk X scope X' → rdG X' tg v σ H Q) tb σ0 H1 Done := by
  refine ⟨fun i m H' => m = ds.length - i ∧ i ≤ ds.length ∧ ∃ w acc us, Pi i acc w.h ∧ Ext wb Hb w H' ∧ Ltr w1 H1 w H' ∧ WOk M w H' ∧ Mine w H' D0 (.lst us) ∧ RepL M w.F w.m us acc, ⟨_, rfl, Nat.zero_le _, w1, acc0, us0, p0, e1, Ltr.refl, k1, mn0, r0⟩, ?_⟩
  rintro i m H' ⟨rfl, hi, w, acc, us, pi, eb, l1, kk, mn, rl⟩
  have li := lt.trans l1
  by_cases hlt : i < ds.length
  · refine .inr ⟨it.go i w H' li kk hlt, fun H2 => i + 1 ≤ ds.length ∧ ∃ w acc us, Pi (i + 1) acc w.h ∧ Ext wb Hb w H2 ∧ Ltr w1 H1 w H2 ∧ WOk M w H2 ∧ Mine w H2 D0 (.lst us) ∧ RepL M w.F w.m us acc, fun H2 z => ⟨ds.length - (i + 1), by omega, rfl, z.1, z.2⟩, fun x H2 y => ?_⟩
    have hd : ds[i]? = some ds[i] := by simp [hlt]
    obtain ⟨w2, eh2, e2, k2, r2⟩ := it.yld i w H' x H2 _ li kk y hd
    have mn2 := mn.ext nt_lst e2
    have l2 := l1.trans (e2.ltr kk)
    intro X' bk
    refine step i _ acc w.h hd pi X' bk (bk.bx hb) x σ0 w2 H2 _ k2 (sk.ltr l2) r2 fun σ3 ρ3 p3 sk3 l3 => ?_
    refine p3 σ3 w2 H2 _ us eh2 k2 sk3 (fun j hj v => by rw [l3.2 j (hZ j hj).1]; exact (hZ j hj).2 v) (eb.trans e2) mn2 (RepL.mono e2.ff e2.mm rl) fun acc' w4 H4 us4 p4 eb4 l4 k4 mn4 r4 => ?_
    refine ⟨⟨l3.1.symm, fun j v hj => ?_⟩, hlt, w4, acc', us4, p4, eb4, l2.trans l4, k4, mn4, r4⟩
    rw [l3.2 j (fun z => hT j z v hj)]; exact hj
  · have e : i = ds.length := by omega
    subst e
    exact .inl ⟨it.stop w H' li kk, done acc w H' us pi eb l1 kk mn rl⟩
theorem tbx_next {T Z : List Nat} {acc : List D} {Pn : List D → Hc → Prop} (Pd : List D → Nat → List D → Hc → Prop) (hb : Bx X M N sc k W) (hD : Hb D0 = none) (hZ : ∀ j ∈ Z, j ∉ T)
    (h : InB X M N scope sc k fun X' => IX X' M Gn tg iter ρ hc fun ds h1 => Pd ds 0 acc h1 ∧ (∀ (i : Nat) d acc' h', ds[i]? = some d → Pd ds i acc' h' → InB X M N scope sc k fun X' => GX X' M T tg d ρ fun ρ2 => TBX M wb Hb D0 Z tb ρ2 acc' h' (Pd ds (i + 1))) ∧ ∀ acc' h', Pd ds ds.length acc' h' → Pn acc' h') :
    TBX M wb Hb D0 (T ++ Z) (tbNext (fun σ H R => ∀ X', Blk X scope X' → rdIt X' tg iter σ H R) (fun v σ H Q => ∀ X', Blk X scope X' → rdG X' tg v σ H Q) tb []) ρ acc hc Pn := fun σ w H Q us eh wk sk z0 eb mn rl q => by
  intro X' bk pins s I
  obtain ⟨wi, pi, iv⟩ := h X' bk (bk.bx hb)
  refine pi.run pins s σ H _ I (iv σ w H _ eh wk sk xc_in fun ds J w1 H1 p e1 k1 it => ?_)
  obtain ⟨p0, ps, pe⟩ := p
  have mn1 := mn.ext nt_lst e1
  refine tloop_of (Pd ds) hb hD it Ltr.refl mn1.fp k1 (eb.trans e1) mn1 (RepL.mono e1.ff e1.mm rl) p0 (sk.ext e1) (fun j hj v => z0 j (List.mem_append_left _ hj) v) (fun j hj => ⟨hZ j hj, fun v => z0 j (List.mem_append_right _ hj) v⟩) ps fun acc' w2 H2 us2 p2 e2 l2 k2 m2 r2 => ?_
  exact q acc' w2 H2 us2 (pe _ _ p2) e2 ((e1.ltr wk).trans l2) k2 m2 r2
theorem wipe_none {σ : St} {vs : List Nat} {j : Nat} (hj : j ∈ vs) (v : V) : (wipe σ vs)[j]? ≠ some (some v) := by
  rw [wipe_get, if_pos hj]
  split <;> simp
/-- [elt for x in i for y in j for z in k] -/
theorem fx_lc3 {t0 i0 t1 i1 t2 i2 : Expr} {T0 T1 T2 : List Nat} (own : List (Str × Nat)) (I0 : List D → Nat → List D → Hc → Prop) (hb : Bx X M N sc k G.W) (ok : BlkOk N sc scope own) (ho : own.map (·.2) = T0 ++ (T1 ++ (T2 ++ []))) (d0 : ∀ j ∈ T1 ++ (T2 ++ []), j ∉ T0)
    (h0 : ∀ env x, foldedSetIterable i0 env x = pure x) (h1 : ∀ env x, foldedSetIterable i1 env x = pure x) (h2 : ∀ env x, foldedSetIterable i2 env x = pure x) {pos : Pos}
    (h : IX X M G t0 i0 ρ hc fun ds h' => I0 ds 0 [] h' ∧ (∀ wb Hb D0, Hb D0 = none → ∀ (i : Nat) d acc h', ds[i]? = some d → I0 ds i acc h' → InB X M N scope sc k fun X' => GX X' M T0 t0 d (unset ρ (own.map (·.2))) fun ρ2 =>
      TBX M wb Hb D0 (T1 ++ (T2 ++ [])) (tbNext (fun σ H R => ∀ X', Blk X scope X' → rdIt X' t1 i1 σ H R) (fun v σ H Q => ∀ X', Blk X scope X' → rdG X' t1 v σ H Q) (tbNext (fun σ H R => ∀ X', Blk X scope X' → rdIt X' t2 i2 σ H R) (fun v σ H Q => ∀ X', Blk X scope X' → rdG X' t2 v σ H Q) (tbLast (fun σ H Q => ∀ X', Blk X scope X' → rdE X' elt σ H Q) D0) []) []) ρ2 acc h' (I0 ds (i + 1))) ∧
      ∀ acc h', I0 ds ds.length acc h' → PF true (.lst acc) h') : FX X M G (LC3 elt t0 i0 t1 i1 t2 i2 scope pos) ρ hc PF := by
  obtain ⟨wi, hi, iv⟩ := h
  refine .of (pe_lc3 (own := own) (vs1 := []) (vs2 := []) (g0 := fun v σ H Q => ∀ X', Blk X scope X' → rdG X' t0 v σ H Q) (wi1 := fun σ H R => ∀ X', Blk X scope X' → rdIt X' t1 i1 σ H R) (g1 := fun v σ H Q => ∀ X', Blk X scope X' → rdG X' t1 v σ H Q) (wi2 := fun σ H R => ∀ X', Blk X scope X' → rdIt X' t2 i2 σ H R) (g2 := fun v σ H Q => ∀ X', Blk X scope X' → rdG X' t2 v σ H Q) (te := fun σ H Q => ∀ X', Blk X scope X' → rdE X' elt σ H Q) hb.calm (by rw [hb.hN]; exact hb.nd) hi (by rw [hb.hN, hb.hsc]; exact ok) (fun s H C cl fp => ⟨⟨fun pins s' σ H v u Q I r q => q _ ⟨s, _, C, cl, fp, rfl⟩ pins s' u I r⟩, ⟨fun pins s' σ H R I q => q _ ⟨s, _, C, cl, fp, rfl⟩ pins s' I⟩, ⟨fun pins s' σ H v u Q I r q => q _ ⟨s, _, C, cl, fp, rfl⟩ pins s' u I r⟩, ⟨fun pins s' σ H R I q => q _ ⟨s, _, C, cl, fp, rfl⟩ pins s' I⟩, ⟨fun pins s' σ H v u Q I r q => q _ ⟨s, _, C, cl, fp, rfl⟩ pins s' u I r⟩, ⟨fun pins s' σ H Q I q => q _ ⟨s, _, C, cl, fp, rfl⟩ pins s' I⟩⟩) h0 h1 h2) fun σ w H Q eh wk sk xc q => ?_
  refine iv σ w H _ eh wk sk xc fun ds J w1 H1 pd e1 k1 it D0 hD => ?_
  obtain ⟨p0, pt, pe⟩ := pd
  obtain ⟨e2, k2⟩ := ext_lay (o := .lst []) k1 hD
  have mn := Mine.new (o := .lst []) k1 hD
  refine tloop_of (wb := w1) (Hb := H1) (I0 ds) hb hD it (e2.ltr k1) mn.fp k2 e2 mn .nil p0 (((sk.ext e1).ext e2).wiped _) (fun j hj v => wipe_none (by rw [ho]; exact List.mem_append_left _ hj) v) (fun j hj => ⟨d0 j hj, fun v => wipe_none (by rw [ho]; exact List.mem_append_right _ hj) v⟩) (pt w1 H1 D0 hD) fun acc w3 H3 us p3 e3 l3 k3 m3 r3 => ?_
  exact q true _ _ w3 H3 (pe _ _ p3) (e1.trans e3) k3 ⟨rfl, D0, .lst us, rfl, m3.at_, m3.fp, m3.nl, .inl (e1.nn D0 hD), r3⟩
end
end Yl

set_option maxRecDepth 100000
set_option maxHeartbeats 4000000
/-! Y8e: dict comprehensions, keys of either kind; as a value, and stored at once. -/
namespace Yl
open PySem PySem.Spec PyProof.Rows L2
abbrev DC1 (kx vx t0 i0 : Expr) (scope : Scope) (pos : Pos) : Expr := .DictComp kx vx [⟨t0, i0, [], 0⟩] scope pos
/-- the pair is put to the dict -/
def putC (kx vx : Expr) (D : Addr) (env : PySem.Env) (fin : Sem PySem.Fin) : Sem PySem.Fin := do
  (do
    let kv ← eval kx env
    let vv ← holding [kv] (eval vx env)
    standAt { kx.pos with endLine := vx.pos.endLine, endCol := vx.pos.endCol }
    holding [kv, vv] (dictSet D kv vv))
  fin
theorem turnD {kx vx t0 i0 : Expr} {scope : Scope} {pos : Pos} {it : Value} {D : Addr} {env : PySem.Env} : TurnIs (DC1 kx vx t0 i0 scope pos) 0 i0.pos t0 it (.ref D) env (putC kx vx D env) := by rfl
def e0 : Bool → HO
  | true => .dT []
  | false => .dK []
theorem e0_ok {P : Program} {w : World} {H : Hp} (h : Heap) (hb : sysModules < h.objs.size) : ∀ t : Bool, ObjOk P w H (h.push { cls := .type "dict", data := .dict #[] }) h.objs.size (e0 t)
  | true => dt_empty h hb
  | false => dk_empty h hb
/-- d[y] = v by a comprehension, keys of either kind -/
theorem dset_ok {X : Cx} {pins : List (Addr × Obj)} {σ : St} {H H' : Hp} {s : Shared} {E : Value → Shared → Prop} {D : Addr} {y v : V} {u r : Value} {Q : Unit → Shared → Prop} (hu : X.A.units + 1 < cLine) (I : Inv X pins σ H s) (g : DPut H D y v H') (ry : RelV y u) (rv : RelV v r)
    (h : ∀ s', Inv X pins σ H' s' → Q () s') : wpAny (model X.prog X.w) X.A (dictSet D u r) Q E s := by
  rcases g with ⟨kvs, k, e, rfl, l, rfl⟩ | ⟨kvs, k, b, e, rfl, eb, l, rfl⟩
  · exact d_dictSet I e l ry rv h
  · cases (show u = Value.ref b from ry)
    obtain ⟨z, hd, xs, rel, dd⟩ := dt_of I.hok e
    have l2 : (putK kvs k v).length ≤ sizeLine := by have := length_putK kvs k v; omega
    refine wpAny_dictSet_heap (show X.A.units < cLine by omega) (L2.key_of I.hok eb) dd (fun h' d2 hs => h _ ?_) (by rw [← Paired.length rel]; exact z)
    obtain ⟨q, es, ep, hq, a2, a3, a4, _, a5⟩ := d2
    refine d_write I (by rw [e]; exact trivial) hs ⟨q, hq⟩ ⟨l2, hd, _, (rel.put k eb rv).keeps fun c ys ec => ?_, q, es, ep, hq, a2, a3, a4, a5⟩
    rw [upd_ne (ne_of ec e (fun z => nomatch z))]; exact ec
def tbPut (tk tv : TE) (D : Addr) : TB := fun σ H Q => tk σ H fun y H1 => tv σ H1 fun z H2 => ∃ H3, DPut H2 D y z H3 ∧ Q σ H3
theorem body_put {B : Cx} {kx vx : Expr} {tk tv : TE} {D : Addr} (hx : B.xe = fun _ _ => False) (hu : B.A.units + 1 < cLine) (pk : PE B kx tk) (pv : PE B vx tv) : BodyOk B (putC kx vx D B.env) (tbPut tk tv D) := fun pins s σ H Q I h fin Q' E hf => by
  have ev := pk.run pins s σ H _ I h
  rw [hx] at ev
  refine wpAny_bind (wpAny_bind (thnF ev fun u s1 z1 => wpAny_bind (wpAny_holding ?_)))
  obtain ⟨y, H1, I1, r1, q1⟩ := z1
  have ev2 := pv.run pins s1 σ H1 _ I1 q1
  rw [hx] at ev2
  refine thnF ev2 fun u2 s2 z2 => wpAny_bind (wpAny_standAt (wpAny_holding ?_))
  obtain ⟨z, H2, I2, r2, H3, g, q⟩ := z2
  exact dset_ok hu I2 g r1 r2 fun s3 I3 => hf s3 _ _ I3 q
section
variable {X : Cx}
def tDct (t : Bool) (wi : TI) (g : TG) (tk tv : TE) (vs : List Nat) : TE := fun σ H Q => wi σ H fun J H1 => ∀ D, H1 D = none → tLoop J g (tbPut tk tv D) (wipe σ vs) (upd H1 D (e0 t)) fun H2 => Q (.ref D) H2
theorem dct_core {pins : List (Addr × Obj)} {s : Shared} {σ : St} {H : Hp} {Q : VK} {use : Option (Value → Sem Unit)} {Qf : Value → Shared → Prop} {kx vx t0 i0 : Expr} {scope : Scope} {own : List (Str × Nat)} {pos pos' : Pos} {t : Bool} {wi : TI} {g : TG} {tk tv : TE} (hc : X.calm = true) (hN : X.N.Nodup) (hu : X.A.units + 1 < cLine) (I : Inv X pins σ H s) (hi : PI X t0 i0 wi) (ok : BlkOk X.N X.env.scope scope own)
    (blk : ∀ (s : Shared) (H : Hp) (C : Addr) (cl : List (Str × Addr)) (fp : List Addr), PG (X.blk s H scope (compEnvC scope cl C X.env) fp) t0 g ∧ PE (X.blk s H scope (compEnvC scope cl C X.env) fp) kx tk ∧ PE (X.blk s H scope (compEnvC scope cl C X.env) fp) vx tv)
    (h0 : ∀ x, foldedSetIterable i0 X.env x = pure x) (h : tDct t wi g tk tv (own.map (·.2)) σ H Q)
    (fin : ∀ D C s' m H', Inv X pins σ H' s' → Q (.ref D) H' → s'.heap.Ns C m → FpOk X pins H' C → compPost (model X.prog X.w) X.A X.xe use Qf (.ref D) C (.ok .next) s') :
    wpAny (model X.prog X.w) X.A (comprehension (DC1 kx vx t0 i0 scope pos) scope X.env pos' newDict false (eval i0 X.env) use) Qf X.xe s := by
  have free : ∀ y ∈ scope.names, y.2 = .free → ∃ c, X.env.cells.lookup y.1 = some c := fun y hy e => (ok.free y hy e).elim (fun z => I.ok.has _ (.inl z)) (fun z => I.ok.has _ (.inr z))
  refine wpAny_comprehension_free (use := use) rfl h0 (closure_ok free) ok.kind (fun y hy e => by rw [ok.uniq y hy, e]) (thn (hi.run pins s σ H _ I h) fun xv s1 z1 => thn z1 fun iv s2 z2 => ?_)
  obtain ⟨it, fp, tn, J, H2, rfl, I2, T, st, fo, lp⟩ := z2
  refine wpAny_newObj_type (newEnv_comp ?_)
  have hD : H2 s2.heap.objs.size = none := I2.hok.fresh (Nat.le_refl _)
  have lp := lp _ hD
  have I3 : Inv X pins σ (upd H2 s2.heap.objs.size (e0 t)) { s2 with heap := s2.heap.push { cls := .type "dict", data := .dict #[] } } :=
    I2.laid (t' := s2.toks) (o := e0 t) (fun b o e => Heap.get?_push_of_some _ e) (Nat.le_refl _) (e0_ok s2.heap I2.big t)
  have lt : ∀ b ∈ fp, b < s2.heap.objs.size := fun b hb => by
    obtain ⟨o, e, _⟩ := T.obj _ _ st b hb
    exact Heap.lt_size e
  have f3 : ∀ b ∈ fp, FpOk X pins (upd H2 s2.heap.objs.size (e0 t)) b ∧ b < (s2.heap.push { cls := .type "dict", data := .dict #[] }).objs.size := fun b hb =>
    ⟨⟨by rw [upd_ne (Nat.ne_of_lt (lt b hb))]; exact (fo b hb).1, (fo b hb).2⟩, by rw [Heap.size_push]; exact Nat.lt_succ_of_lt (lt b hb)⟩
  generalize e3 : ({ s2 with heap := s2.heap.push { cls := .type "dict", data := .dict #[] } } : Shared) = s3 at I3
  have h3 : s3.heap = s2.heap.push { cls := .type "dict", data := .dict #[] } := by rw [← e3]
  rw [← h3] at f3
  have st3 : tn 0 s3.heap := T.keep _ _ _ st fun b _ o e => by rw [h3]; exact Heap.get?_push_of_some _ e
  have I4 := block_start I3 ok hN f3
  have fc := blk s3 (upd H2 s2.heap.objs.size (e0 t)) s3.heap.objs.size (cellsFrom (s3.heap.objs.size + 1) scope.names (cloFrom X.env.cells scope.names [])) fp
  generalize eB : X.blk s3 (upd H2 s2.heap.objs.size (e0 t)) scope (compEnvC scope (cellsFrom (s3.heap.objs.size + 1) scope.names (cloFrom X.env.cells scope.names [])) s3.heap.objs.size X.env) fp = B at I4 fc
  have bP : B.prog = X.prog := by first | (rw [← eB]; done) | (rw [← eB]; rfl)
  have bw : B.w = X.w := by first | (rw [← eB]; done) | (rw [← eB]; rfl)
  have bK : B.K = X.K := by first | (rw [← eB]; done) | (rw [← eB]; rfl)
  have bA : B.A = X.A := by first | (rw [← eB]; done) | (rw [← eB]; rfl)
  have bc : B.calm = true := by rw [← eB]; exact hc
  have bx : B.xe = fun _ _ => False := by first | (rw [← eB]; done) | (rw [← eB]; rfl)
  have be : B.env = compEnvC scope (cellsFrom (s3.heap.objs.size + 1) scope.names (cloFrom X.env.cells scope.names [])) s3.heap.objs.size X.env := by first | (rw [← eB]; done) | (rw [← eB]; rfl)
  have bex : ∀ b ∈ fp, b ∈ B.ex := fun b hb => by rw [← eB]; exact hb
  have bpn : B.pn = [] := by first | (rw [← eB]; done) | (rw [← eB]; rfl)
  generalize e4 : ({ s3 with heap := pushCells (s3.heap.push { cls := .type "dict", data := .dict #[] }) scope.names } : Shared) = s4 at I4
  have st4 : tn 0 s4.heap := T.keep _ _ _ st3 fun b _ o e => by rw [← e4]; exact pushCells_keeps _ _ _ _ (Heap.get?_push_of_some _ e)
  have fo4 : ∀ b ∈ fp, FpOk B [] (upd H2 s2.heap.objs.size (e0 t)) b := fun b hb =>
    ⟨(f3 b hb).1.1, (I4.ok.exf b (bex b hb)).1, I4.ok.exfs b (bex b hb), .inl (bex b hb), fun x c z => (I4.ok.exf b (bex b hb)).2 x c z, fun p hp => by rw [bpn] at hp; cases hp⟩
  obtain ⟨pg0, pk, pv⟩ := fc
  have b0 := body_put (B := B) (kx := kx) (vx := vx) (D := s2.heap.objs.size) bx (by rw [bA]; exact hu) pk pv
  have T' : Turn B.prog B.w B.K t0 J fp it tn := by rw [bP, bw, bK]; exact T
  have run : ∀ {R : Result → Shared → Prop}, (∀ s' H', Inv B [] (wipe σ (own.map (·.2))) H' s' → Q (.ref s2.heap.objs.size) H' → R (.ok .next) s') → codeAny (model B.prog B.w) B.A (.compLoop (DC1 kx vx t0 i0 scope pos) 0 (.ref it) (.ref s2.heap.objs.size) B.env) R s4 := fun {R} hR =>
    clause_run (R := R) bc bx rfl (fun _ => ⟨rfl, rfl⟩) turnD pg0 T' b0 I4 st4 fo4 lp hR
  rw [bP, bw, bA, be] at run
  have start : ∀ {R : Result → Shared → Prop}, (∀ s' H', Inv B [] (wipe σ (own.map (·.2))) H' s' → Q (.ref s2.heap.objs.size) H' → R (.ok .next) s') → codeAny (model X.prog X.w) X.A (.compStart (DC1 kx vx t0 i0 scope pos) 0 (.ref it) (.ref s2.heap.objs.size) (compEnvC scope (cellsFrom (s3.heap.objs.size + 1) scope.names (cloFrom X.env.cells scope.names [])) s3.heap.objs.size X.env)) R s4 := fun {R} hR =>
    codeAny_compStart_dict (run hR) (T.self X.A 0 _ _ _ st4 (run hR))
  subst eB e4
  refine start fun s' H' I' q => ?_
  have I7 : Inv X pins σ H' s' := I3.call' (ch := fp) I'.os I'.base I'.hok I'.bare fun b hb => ⟨(f3 b hb).1.2.2.2.1, (f3 b hb).1.2.1, (f3 b hb).1.2.2.2.2.1, (f3 b hb).1.2.2.2.2.2⟩
  have nC : H' s3.heap.objs.size = none := I'.free
  obtain ⟨m, hn, _⟩ := I'.loc
  have hn : s'.heap.Ns s3.heap.objs.size m := hn
  exact fin _ _ _ _ _ I7 q hn (I3.fpOk (Nat.le_refl _) nC)
theorem pe_dct1 {kx vx t0 i0 : Expr} {scope : Scope} {own : List (Str × Nat)} {pos : Pos} {t : Bool} {wi : TI} {g : TG} {tk tv : TE} (hc : X.calm = true) (hN : X.N.Nodup) (hu : X.A.units + 1 < cLine) (hi : PI X t0 i0 wi) (ok : BlkOk X.N X.env.scope scope own)
    (blk : ∀ (s : Shared) (H : Hp) (C : Addr) (cl : List (Str × Addr)) (fp : List Addr), PG (X.blk s H scope (compEnvC scope cl C X.env) fp) t0 g ∧ PE (X.blk s H scope (compEnvC scope cl C X.env) fp) kx tk ∧ PE (X.blk s H scope (compEnvC scope cl C X.env) fp) vx tv)
    (h0 : ∀ x, foldedSetIterable i0 X.env x = pure x) : PE X (DC1 kx vx t0 i0 scope pos) (tDct t wi g tk tv (own.map (·.2))) := by
  refine ⟨fun pins s σ H Q I h => ?_⟩
  rw [arm_eval_DictComp]
  refine dct_core hc hN hu I hi ok blk h0 h fun D C s' m H' I7 q hn f => ?_
  obtain ⟨f0, f1, f2, f3, f4, f5⟩ := f
  exact ⟨m, hn, fun h'' sb => ⟨.ref _, H', I7.turned (t' := s'.toks) (fun b o hb z => (sb.2 b hb).trans z) f0 f1 f3 f4 f5, rfl, q⟩⟩
theorem ps_setDc {i : Nat} {y : Str} {py spos : Pos} {kx vx t0 i0 : Expr} {scope : Scope} {own : List (Str × Nat)} {pos : Pos} {t : Bool} {wi : TI} {g : TG} {tk tv : TE} (hc : X.calm = true) (hN : X.N.Nodup) (hu : X.A.units + 1 < cLine) (hy : X.N[i]? = some y) (hyl : X.env.scope.names.lookup y = some .local)
    (hsw : swapsWith (DC1 kx vx t0 i0 scope pos) (some (.Name y py)) spos.line X.env = pure true) (hi : PI X t0 i0 wi) (ok : BlkOk X.N X.env.scope scope own)
    (blk : ∀ (s : Shared) (H : Hp) (C : Addr) (cl : List (Str × Addr)) (fp : List Addr), PG (X.blk s H scope (compEnvC scope cl C X.env) fp) t0 g ∧ PE (X.blk s H scope (compEnvC scope cl C X.env) fp) kx tk ∧ PE (X.blk s H scope (compEnvC scope cl C X.env) fp) vx tv)
    (h0 : ∀ x, foldedSetIterable i0 X.env x = pure x) : PS X (.Assign [.Name y py] (DC1 kx vx t0 i0 scope pos) spos) (tAsg (tDct t wi g tk tv (own.map (·.2))) (gName i)) := by
  refine ⟨fun pins s σ H D I h => ?_⟩
  rw [exec_Assign_Name_used _ _ _ _ hsw]
  refine wpAny_bind (wpAny_standAt (wpAny_bind ?_))
  rw [arm_evalThenUse_DictComp]
  have h : tDct t wi g tk tv (own.map (·.2)) σ H (fun x H1 => gName i x σ H1 D.nx) := h
  refine wpAny_bind (thn (dct_core (use := some (assign (.Name y py) X.env)) (Qf := fun _ s' => SP X pins D .next s') hc hN hu I hi ok blk h0 h fun L C s' m H' I' q hn f => ?_) fun _ s' hq => wpAny_pure (wpAny_pure hq))
  show wpAny _ _ (assign (.Name y py) X.env (.ref L)) _ _ _
  refine wpAny_assign_Name (store_ok2 (v := V.ref L) I' hN hy (.inl hyl) rfl (fun s2 I2 z => ?_) (.inr hyl))
  obtain ⟨a, sb, ha⟩ := z
  obtain ⟨f0, f1, f2, f3, f4, f5⟩ := f
  have ne : C ≠ a := ha.elim (fun z => by rw [z]; exact f1) fun z e => f4 y a z e.symm
  exact ⟨m, hn.sameBut sb ne, fun h3 sb3 => ⟨_, H', I2.turned (t' := s2.toks) (fun b o hb e => (sb3.2 b hb).trans e) f0 f1 f3 f4 f5, q⟩⟩
end
end Yl

set_option maxRecDepth 100000
set_option maxHeartbeats 4000000
/-! Y8f: dict comprehensions, keys of either kind: what they make. -/
namespace Yl
open PySem PySem.Spec PyProof.Rows L2
section
variable {X : Cx} {M : Mx} {N : List Str} {sc : Scope} {k k' : Nat} {W : WX} {G : Gx} {ρ : Env} {hc : Hc} {PF : Bool → D → Hc → Prop} {tg kx vx iter : Expr} {pos : Pos} {w w1 w2 : Wd} {H H1 : Hp}
theorem cont_e0 {F : Hp} {m : List Addr} : ∀ t : Bool, Cont M F m (.dct t []) (e0 t)
  | true => ⟨rfl, .nil⟩
  | false => ⟨rfl, .nil⟩
theorem dct_nt {F : Hp} {m : List Addr} {t : Bool} {es : List (D × D)} {o : HO} (c : Cont M F m (.dct t es) o) : ∀ vs, o ≠ .tup vs := fun vs e => by subst e; exact c.elim
/-- a pair is put to the new dict -/
theorem put_any {Da : Addr} {o : HO} {t : Bool} {acc : List (D × D)} {y z : D} {kv v : V} (wk : WOk M w H) (mn : Mine w H Da o) (c : Cont M w.F w.m (.dct t acc) o) (rk : Rep M w.F w.m kv y) (hf : fits t y = true) (rv : Rep M w.F w.m v z) (hl : acc.length < lim) :
    ∃ o', DPut H Da kv v (upd H Da o') ∧ Cont M w.F w.m (.dct t (putD acc y z)) o' ∧ (putD acc y z).length ≤ acc.length + 1 := by
  cases o <;> first | exact c.elim | skip
  · rename_i vs
    obtain ⟨rfl, c⟩ := c
    obtain ⟨ky, rfl, rfl⟩ := key_of rk hf
    have c2 := putD_of (k := ky) eqv_key rv c
    have l2 := length_putK vs ky v
    exact ⟨_, .k mn.at_ (by rw [c.1, ← lim_eq]; exact hl), ⟨rfl, c2⟩, by rw [← c2.1, ← c.1]; omega⟩
  · rename_i vs
    obtain ⟨rfl, c⟩ := c
    obtain ⟨ks, b, rfl, rfl, hb⟩ := tkey_of wk rk hf
    have c2 := putD_of (k := ks) eqv_tkey rv c
    have l2 := length_putK vs ks v
    exact ⟨_, .t mn.at_ hb (by rw [c.1, ← lim_eq]; exact hl), ⟨rfl, c2⟩, by rw [← c2.1, ← c.1]; omega⟩
theorem lcx_dct {t : Bool} {T : List Nat} {scope : Scope} (own : List (Str × Nat)) (I : List D → Nat → List (D × D) → Hc → Prop) (hb : Bx X M N sc k G.W) (ok : BlkOk N sc scope own) (hT : ∀ j ∈ T, j ∈ own.map (·.2)) (hs : ∀ x, foldedSetIterable iter X.env x = pure x)
    (h : IX X M G tg iter ρ hc fun ds h0 => ds.length ≤ sizeLine ∧ I ds 0 [] h0 ∧ (∀ (i : Nat) d acc h', ds[i]? = some d → I ds i acc h' → InB X M N scope sc k fun X' => GX X' M T tg d (unset ρ (own.map (·.2))) fun ρ2 => InB X M N scope sc k fun X' => EX X' M Gn kx ρ2 h' fun y h3 => InB X M N scope sc k fun X' => EX X' M Gn vx ρ2 h3 fun z h4 => fits t y = true ∧ I ds (i + 1) (putD acc y z) h4) ∧
      ∀ acc h', I ds ds.length acc h' → PF true (.dct t acc) h') : LCX X M G (DC1 kx vx tg iter scope pos) ρ hc PF := by
  obtain ⟨wi, hi, iv⟩ := h
  have hu : X.A.units + 1 < cLine := by have := hb.room.un; omega
  have blk : ∀ (s : Shared) (H : Hp) (C : Addr) (cl : List (Str × Addr)) (fp : List Addr), PG (X.blk s H scope (compEnvC scope cl C X.env) fp) tg (fun v σ H Q => ∀ X', Blk X scope X' → rdG X' tg v σ H Q) ∧ PE (X.blk s H scope (compEnvC scope cl C X.env) fp) kx (fun σ H Q => ∀ X', Blk X scope X' → rdE X' kx σ H Q) ∧ PE (X.blk s H scope (compEnvC scope cl C X.env) fp) vx (fun σ H Q => ∀ X', Blk X scope X' → rdE X' vx σ H Q) :=
    fun s H C cl fp => ⟨⟨fun pins s' σ H v u Q I r q => q _ ⟨s, _, C, cl, fp, rfl⟩ pins s' u I r⟩, ⟨fun pins s' σ H Q I q => q _ ⟨s, _, C, cl, fp, rfl⟩ pins s' I⟩, ⟨fun pins s' σ H Q I q => q _ ⟨s, _, C, cl, fp, rfl⟩ pins s' I⟩⟩
  have nd : X.N.Nodup := by rw [hb.hN]; exact hb.nd
  have bo : BlkOk X.N X.env.scope scope own := by rw [hb.hN, hb.hsc]; exact ok
  refine ⟨_, ?_, pe_dct1 (t := t) hb.calm nd hu hi bo blk hs, fun i y py spos hy hyl hsw => ps_setDc (t := t) hb.calm nd hu hy hyl hsw hi bo blk hs⟩
  intro σ w H Q eh wk sk xc q
  refine iv σ w H _ eh wk sk xc fun ds J w1 H1 pd e1 k1 it => ?_
  obtain ⟨hlen, p0, pt, pe⟩ := pd
  intro Da hD
  refine ⟨fun i m H' => m = ds.length - i ∧ i ≤ ds.length ∧ ∃ w' acc o, I ds i acc w'.h ∧ acc.length ≤ i ∧ WOk M w' H' ∧ Ext w1 H1 w' H' ∧ Mine w' H' Da o ∧ Cont M w'.F w'.m (.dct t acc) o, ⟨_, rfl, Nat.zero_le _, w1, [], _, p0, Nat.le_refl _, (ext_lay k1 hD).2, (ext_lay k1 hD).1, Mine.new k1 hD, cont_e0 t⟩, ?_⟩
  rintro i m H' ⟨rfl, hi', w', acc, o, pi, hacc, kk, ee, mn, ct⟩
  by_cases hlt : i < ds.length
  · refine .inr ⟨it.go i w' H' (ee.ltr k1) kk hlt, fun H2 => i + 1 ≤ ds.length ∧ ∃ w' acc o, I ds (i + 1) acc w'.h ∧ acc.length ≤ i + 1 ∧ WOk M w' H2 ∧ Ext w1 H1 w' H2 ∧ Mine w' H2 Da o ∧ Cont M w'.F w'.m (.dct t acc) o, fun H2 ⟨a, b⟩ => ⟨_, by omega, rfl, a, b⟩, fun x H2 y => ?_⟩
    have hd : ds[i]? = some ds[i] := by simp [hlt]
    obtain ⟨w2, eh2, e2, k2, r2⟩ := it.yld i w' H' x H2 _ (ee.ltr k1) kk y hd
    have nt := dct_nt ct
    have mn2 := mn.ext nt e2
    have sk2 := (sk.ext e1).ext (ee.trans e2)
    intro X' bk
    refine pt i _ acc w'.h hd pi X' bk (bk.bx hb) x (wipe σ (own.map (·.2))) w2 H2 _ k2 (sk2.wiped _) r2 fun σ3 ρ3 p3 sk3 l3 => ?_
    have wl := wipe_less hT l3
    intro X2 bk2
    refine p3 X2 bk2 (bk2.bx hb) σ3 w2 H2 _ eh2 k2 sk3 xc_in fun ky kv w3 H3 p4 e3 k3 rk => ?_
    intro X3 bk3
    refine p4 X3 bk3 (bk3.bx hb) σ3 w3 H3 _ rfl k3 (sk3.ext e3) xc_in fun y v w4 H4 p5 e4 k4 r4 => ?_
    obtain ⟨fk, p5⟩ := p5
    have mn4 := (mn2.ext nt e3).ext nt e4
    have e14 := ((ee.trans e2).trans e3).trans e4
    have ct4 : Cont M w4.F w4.m (.dct t acc) o := ct.mono (fun a o z => e4.ff _ _ (e3.ff _ _ (e2.ff _ _ z))) (fun i a z => e4.mm i a (e3.mm i a (e2.mm i a z)))
    obtain ⟨o', dp, c5, l5⟩ := put_any k4 mn4 ct4 (rk.mono e4.ff e4.mm) fk r4 (by rw [lim_eq]; omega)
    refine ⟨_, dp, ⟨?_, ?_⟩, hlt, w4, putD acc ky y, o', p5, by omega, wok_grow k4 mn4.fp mn4.nl, ext_grow e14 hD, mn4.put, c5⟩
    · have := congrArg List.length wl
      rw [wipe_length, wipe_length] at this
      rw [wipe_length]; exact this.symm
    · intro j v hj
      rw [← wl] at hj
      exact (wipe_some hj).1
  · have e : i = ds.length := by omega
    subst e
    exact .inl ⟨it.stop w' H' (ee.ltr k1) kk, q true _ _ w' H' (pe acc _ pi) (e1.trans ee) kk ⟨rfl, Da, o, rfl, mn.at_, mn.fp, mn.nl, .inl (e1.nn Da hD), ct⟩⟩
end
end Yl

set_option maxRecDepth 100000
set_option maxHeartbeats 4000000
/-! Y8g: comprehensions of two clauses. -/
namespace Yl
open PySem PySem.Spec PyProof.Rows L2
abbrev LC2 (elt t0 i0 t1 i1 : Expr) (scope : Scope) (pos : Pos) : Expr := .ListComp elt [⟨t0, i0, [], 0⟩, ⟨t1, i1, [], 0⟩] scope pos
section
variable {elt t0 i0 t1 i1 : Expr} {scope : Scope} {pos : Pos} {it acc : Value} {env : PySem.Env}
theorem turn2_0 : TurnIs (LC2 elt t0 i0 t1 i1 scope pos) 0 i0.pos t0 it acc env (nextC (LC2 elt t0 i0 t1 i1 scope pos) 1 i1 acc env) := by rfl
theorem turn2_1 : TurnIs (LC2 elt t0 i0 t1 i1 scope pos) 1 i1.pos t1 it acc env (lastC elt acc env) := by rfl
end
section
variable {prog : Program} {w : World} {A : Around} {R : Result → Shared → Prop} {s : Shared} {e t : Expr} {p : Pos} {k : Nat} {it acc : Value} {env : PySem.Env} {b : Sem PySem.Fin → Sem PySem.Fin}
/-- the start of the second of two clauses -/
theorem start2 {elt t0 i0 t1 i1 : Expr} {scope : Scope} {pos : Pos} (hk : k = 1) (h0 : codeAny (model prog w) A (.compLoop (LC2 elt t0 i0 t1 i1 scope pos) k it acc env) R s)
    (h : wpAny (model prog w) A (pyIter it) (fun j s' => codeAny (model prog w) A (.compLoop (LC2 elt t0 i0 t1 i1 scope pos) k j acc env) R s') (notedBy (model prog w) A env fun x s' => R (.error x) s') s) :
    codeAny (model prog w) A (.compStart (LC2 elt t0 i0 t1 i1 scope pos) k it acc env) R s := by
  subst hk
  all_goals
    refine codeAny_of_tree ?_
    show wpAny _ _ ((compStart (LC2 elt t0 i0 t1 i1 scope pos) _ it acc env).onRaise (fun x => do noteFrame x env; standAt theWindowsPlace)) _ _ s
    refine wpAny_notedAt ?_
    unfold compStart
    show wpAny _ _ (ask >>= _) _ _ s
    refine wpAny_bind (wpAny_askSetting (wpAny_ite ?_))
    split
    · first
        | exact wpAny_bind (wpAny_pure (wpAny_pure (And.intro rfl h0)))
        | exact wpAny_pure (And.intro rfl h0)
    · refine wpAny_bind (wpAny_rule ?_)
      first
        | exact wpAny_bind (wpAny_standAt (wpAny_bind (wpAny_mono h (fun j s' z => wpAny_pure ⟨rfl, z⟩) fun _ _ z => z)))
        | (refine wpAny_bind (wpAny_standAt ?_); exact wpAny_bind (wpAny_mono h (fun j s' z => wpAny_pure ⟨rfl, z⟩) fun _ _ z => z))
        | (show wpAny _ _ (standAt _ >>= _) _ _ s; exact wpAny_bind (wpAny_standAt (wpAny_bind (wpAny_mono h (fun j s' z => wpAny_pure ⟨rfl, z⟩) fun _ _ z => z))))
end
section
variable {B : Cx} {pins : List (Addr × Obj)} {σ0 : St} {H : Hp} {R : Result → Shared → Prop} {s : Shared} {e t : Expr} {p : Pos} {k : Nat} {it : Addr} {acc : Value} {b : Sem PySem.Fin → Sem PySem.Fin} {g : TG} {tb : TB} {J : It} {fp : List Addr} {tn : Nat → Heap → Prop} {Done : Hp → Prop}
theorem body_next2 {elt t0 i0 t1 i1 : Expr} {scope : Scope} {pos : Pos} {iter : Expr} {wi : TI} {vs : List Nat} {b1 : Value → Sem PySem.Fin → Sem PySem.Fin} (hk : k = 1) (hc : B.calm = true) (hx : B.xe = fun _ _ => False) (hs : ∀ x, foldedSetIterable iter B.env x = pure x)
    (hq : ∀ it, (Code.compLoop (LC2 elt t0 i0 t1 i1 scope pos) k it acc B.env).quiet = true) (hden : ∀ (it : Value) (A : Around), A.under (.compLoop (LC2 elt t0 i0 t1 i1 scope pos) k it acc B.env) = A ∧ (model B.prog B.w).den (.compLoop (LC2 elt t0 i0 t1 i1 scope pos) k it acc B.env) = (compTurn (LC2 elt t0 i0 t1 i1 scope pos) k it acc B.env).onRaise (fun x => do noteFrame x B.env; theTreesLotGoes x))
    (ht : ∀ it, TurnIs (LC2 elt t0 i0 t1 i1 scope pos) k p t it acc B.env (b1 it)) (pi : PI B t iter wi) (pg : PG B t g) (bo : ∀ it, BodyOk B (b1 it) tb) :
    BodyOk B (nextC (LC2 elt t0 i0 t1 i1 scope pos) k iter acc B.env) (tbNext wi g tb vs) := fun pins s σ H Q I h fin Q' E hf => by
  have ev := pi.run pins s σ H _ I h
  rw [hx] at ev
  refine wpAny_bind (thnF ev fun xv s1 z1 => wpAny_bind (wpAny_standAt (wpAny_bind (wpAny_of_eq (hs xv) (wpAny_bind (wpAny_holding (thnF z1 fun iv s2 z2 => ?_)))))))
  obtain ⟨it, fp, tn, J, H2, rfl, I2, T, st, fo, lp⟩ := z2
  refine wpAny_bind (wpAny_runOwn ?_)
  rw [Around.mark_none]
  have I3 : Inv B pins (wipe σ vs) H2 s2 := I2.weak (wipe_length _ _) fun j v e => (wipe_some e).1
  have go : ∀ {R : Result → Shared → Prop}, (∀ s' H', Inv B pins (wipe σ vs) H' s' → Q (wipe σ vs) H' → R (.ok .next) s') → codeAny (model B.prog B.w) B.A (.compStart (LC2 elt t0 i0 t1 i1 scope pos) k (.ref it) acc B.env) R s2 := fun {R} hR => by
    have cl := clause_run (R := R) hc hx (hq _) (hden _) (ht (.ref it)) pg T (bo _) I3 st fo lp hR
    exact start2 hk cl (T.self B.A 0 s2 _ _ st cl)
  exact go fun s' H' I' q => hf s' _ _ I' q
end
section
variable {X : Cx}
def tLc2 (wi0 : TI) (g0 : TG) (wi1 : TI) (g1 : TG) (te : TE) (vs vs1 : List Nat) : TE := fun σ H Q => wi0 σ H fun J H1 => ∀ D, H1 D = none →
  tLoop J g0 (tbNext wi1 g1 (tbLast te D) vs1) (wipe σ vs) (upd H1 D (.lst [])) fun H2 => Q (.ref D) H2
theorem pe_lc2 {elt t0 i0 t1 i1 : Expr} {scope : Scope} {own : List (Str × Nat)} {pos : Pos} {wi0 wi1 : TI} {g0 g1 : TG} {te : TE} {vs1 : List Nat} (hc : X.calm = true) (hN : X.N.Nodup) (hi : PI X t0 i0 wi0) (ok : BlkOk X.N X.env.scope scope own)
    (blk : ∀ (s : Shared) (H : Hp) (C : Addr) (cl : List (Str × Addr)) (fp : List Addr), PG (X.blk s H scope (compEnvC scope cl C X.env) fp) t0 g0 ∧ PI (X.blk s H scope (compEnvC scope cl C X.env) fp) t1 i1 wi1 ∧ PG (X.blk s H scope (compEnvC scope cl C X.env) fp) t1 g1 ∧ PE (X.blk s H scope (compEnvC scope cl C X.env) fp) elt te)
    (h0 : ∀ env x, foldedSetIterable i0 env x = pure x) (h1 : ∀ env x, foldedSetIterable i1 env x = pure x) : PE X (LC2 elt t0 i0 t1 i1 scope pos) (tLc2 wi0 g0 wi1 g1 te (own.map (·.2)) vs1) := by
  refine ⟨fun pins s σ H Q I h => ?_⟩
  rw [eval_ListComp]
  have free : ∀ y ∈ scope.names, y.2 = .free → ∃ c, X.env.cells.lookup y.1 = some c := fun y hy e => (ok.free y hy e).elim (fun z => I.ok.has _ (.inl z)) (fun z => I.ok.has _ (.inr z))
  refine wpAny_comprehension_free (use := none) rfl (h0 X.env) (closure_ok free) ok.kind (fun y hy e => by rw [ok.uniq y hy, e]) (thn (hi.run pins s σ H _ I h) fun xv s1 z1 => thn z1 fun iv s2 z2 => ?_)
  obtain ⟨it, fp, tn, J, H2, rfl, I2, T, st, fo, lp⟩ := z2
  refine wpAny_newObj_type (newEnv_comp ?_) (by show 0 ≤ sizeLine; decide)
  have hD : H2 s2.heap.objs.size = none := I2.hok.fresh (Nat.le_refl _)
  have lp := lp _ hD
  have I3 : Inv X pins σ (upd H2 s2.heap.objs.size (.lst [])) { s2 with heap := s2.heap.push { cls := .type "list", data := .seq #[] } } :=
    I2.laid (t' := s2.toks) (o := .lst []) (fun b o e => Heap.get?_push_of_some _ e) (Nat.le_refl _) ⟨Nat.zero_le _, [], 0, .nil, Heap.get?_push_size _ rfl⟩
  have lt : ∀ b ∈ fp, b < s2.heap.objs.size := fun b hb => by
    obtain ⟨o, e, _⟩ := T.obj _ _ st b hb
    exact Heap.lt_size e
  have f3 : ∀ b ∈ fp, FpOk X pins (upd H2 s2.heap.objs.size (.lst [])) b ∧ b < (s2.heap.push { cls := .type "list", data := .seq #[] }).objs.size := fun b hb =>
    ⟨⟨by rw [upd_ne (Nat.ne_of_lt (lt b hb))]; exact (fo b hb).1, (fo b hb).2⟩, by rw [Heap.size_push]; exact Nat.lt_succ_of_lt (lt b hb)⟩
  generalize e3 : ({ s2 with heap := s2.heap.push { cls := .type "list", data := .seq #[] } } : Shared) = s3 at I3
  have h3 : s3.heap = s2.heap.push { cls := .type "list", data := .seq #[] } := by rw [← e3]
  rw [← h3] at f3
  have st3 : tn 0 s3.heap := T.keep _ _ _ st fun b _ o e => by rw [h3]; exact Heap.get?_push_of_some _ e
  have I4 := block_start I3 ok hN f3
  have fc := blk s3 (upd H2 s2.heap.objs.size (.lst [])) s3.heap.objs.size (cellsFrom (s3.heap.objs.size + 1) scope.names (cloFrom X.env.cells scope.names [])) fp
  generalize eB : X.blk s3 (upd H2 s2.heap.objs.size (.lst [])) scope (compEnvC scope (cellsFrom (s3.heap.objs.size + 1) scope.names (cloFrom X.env.cells scope.names [])) s3.heap.objs.size X.env) fp = B at I4 fc
  have bP : B.prog = X.prog := by first | (rw [← eB]; done) | (rw [← eB]; rfl)
  have bw : B.w = X.w := by first | (rw [← eB]; done) | (rw [← eB]; rfl)
  have bK : B.K = X.K := by first | (rw [← eB]; done) | (rw [← eB]; rfl)
  have bA : B.A = X.A := by first | (rw [← eB]; done) | (rw [← eB]; rfl)
  have bc : B.calm = true := by rw [← eB]; exact hc
  have bx : B.xe = fun _ _ => False := by first | (rw [← eB]; done) | (rw [← eB]; rfl)
  have be : B.env = compEnvC scope (cellsFrom (s3.heap.objs.size + 1) scope.names (cloFrom X.env.cells scope.names [])) s3.heap.objs.size X.env := by first | (rw [← eB]; done) | (rw [← eB]; rfl)
  have bl : B.env.locals = s3.heap.objs.size := by rw [be]; rfl
  have bex : ∀ b ∈ fp, b ∈ B.ex := fun b hb => by rw [← eB]; exact hb
  have bpn : B.pn = [] := by first | (rw [← eB]; done) | (rw [← eB]; rfl)
  generalize e4 : ({ s3 with heap := pushCells (s3.heap.push { cls := .type "dict", data := .dict #[] }) scope.names } : Shared) = s4 at I4
  have st4 : tn 0 s4.heap := T.keep _ _ _ st3 fun b _ o e => by rw [← e4]; exact pushCells_keeps _ _ _ _ (Heap.get?_push_of_some _ e)
  have fo4 : ∀ b ∈ fp, FpOk B [] (upd H2 s2.heap.objs.size (.lst [])) b := fun b hb =>
    ⟨(f3 b hb).1.1, (I4.ok.exf b (bex b hb)).1, I4.ok.exfs b (bex b hb), .inl (bex b hb), fun x c z => (I4.ok.exf b (bex b hb)).2 x c z, fun p hp => by rw [bpn] at hp; cases hp⟩
  obtain ⟨pg0, pi1, pg1, pe⟩ := fc
  have b2 := fun it2 : Value => body_last (B := B) (elt := elt) (D := s2.heap.objs.size) bx pe
  have b0 := body_next2 (B := B) (acc := .ref s2.heap.objs.size) (elt := elt) (t0 := t0) (i0 := i0) (t1 := t1) (i1 := i1) (scope := scope) (pos := pos) (vs := vs1) rfl bc bx (h1 B.env) (fun _ => rfl) (fun _ _ => ⟨rfl, rfl⟩) (fun _ => turn2_1) pi1 pg1 b2
  have T' : Turn B.prog B.w B.K t0 J fp it tn := by rw [bP, bw, bK]; exact T
  have run : ∀ {R : Result → Shared → Prop}, (∀ s' H', Inv B [] (wipe σ (own.map (·.2))) H' s' → Q (.ref s2.heap.objs.size) H' → R (.ok .next) s') → codeAny (model B.prog B.w) B.A (.compLoop (LC2 elt t0 i0 t1 i1 scope pos) 0 (.ref it) (.ref s2.heap.objs.size) B.env) R s4 := fun {R} hR =>
    clause_run (R := R) bc bx rfl (fun _ => ⟨rfl, rfl⟩) turn2_0 pg0 T' b0 I4 st4 fo4 lp hR
  rw [bP, bw, bA, be] at run
  have start : ∀ {R : Result → Shared → Prop}, (∀ s' H', Inv B [] (wipe σ (own.map (·.2))) H' s' → Q (.ref s2.heap.objs.size) H' → R (.ok .next) s') → codeAny (model X.prog X.w) X.A (.compStart (LC2 elt t0 i0 t1 i1 scope pos) 0 (.ref it) (.ref s2.heap.objs.size) (compEnvC scope (cellsFrom (s3.heap.objs.size + 1) scope.names (cloFrom X.env.cells scope.names [])) s3.heap.objs.size X.env)) R s4 := fun {R} hR =>
    codeAny_compStart_list (run hR) (T.self X.A 0 _ _ _ st4 (run hR))
  subst eB e4
  refine start fun s' H' I' q => ?_
  have I7 : Inv X pins σ H' s' := I3.call' (ch := fp) I'.os I'.base I'.hok I'.bare fun b hb => ⟨(f3 b hb).1.2.2.2.1, (f3 b hb).1.2.1, (f3 b hb).1.2.2.2.2.1, (f3 b hb).1.2.2.2.2.2⟩
  have nC : H' s3.heap.objs.size = none := I'.free
  obtain ⟨m, hn, _⟩ := I'.loc
  have hn : s'.heap.Ns s3.heap.objs.size m := hn
  obtain ⟨f0, f1, f2, f3, f4, f5⟩ := I3.fpOk (Nat.le_refl _) nC
  exact ⟨m, hn, fun h'' sb => ⟨.ref _, H', I7.turned (t' := s'.toks) (fun b o hb z => (sb.2 b hb).trans z) f0 f1 f3 f4 f5, rfl, q⟩⟩
end
section
variable {X : Cx} {M : Mx} {N : List Str} {sc : Scope} {k k' : Nat} {W : WX} {G : Gx} {ρ : Env} {hc : Hc} {P : D → Hc → Prop} {PF : Bool → D → Hc → Prop} {a b c e tg iter elt : Expr} {scope : Scope} {wb : Wd} {Hb : Hp} {D0 : Addr} {tb : TB}
/-- [elt for x in i for y in j] -/
theorem fx_lc2 {t0 i0 t1 i1 : Expr} {T0 T1 : List Nat} (own : List (Str × Nat)) (I0 : List D → Nat → List D → Hc → Prop) (hb : Bx X M N sc k G.W) (ok : BlkOk N sc scope own) (ho : own.map (·.2) = T0 ++ (T1 ++ [])) (d0 : ∀ j ∈ T1 ++ [], j ∉ T0)
    (h0 : ∀ env x, foldedSetIterable i0 env x = pure x) (h1 : ∀ env x, foldedSetIterable i1 env x = pure x) {pos : Pos}
    (h : IX X M G t0 i0 ρ hc fun ds h' => I0 ds 0 [] h' ∧ (∀ wb Hb D0, Hb D0 = none → ∀ (i : Nat) d acc h', ds[i]? = some d → I0 ds i acc h' → InB X M N scope sc k fun X' => GX X' M T0 t0 d (unset ρ (own.map (·.2))) fun ρ2 =>
      TBX M wb Hb D0 (T1 ++ []) (tbNext (fun σ H R => ∀ X', Blk X scope X' → rdIt X' t1 i1 σ H R) (fun v σ H Q => ∀ X', Blk X scope X' → rdG X' t1 v σ H Q) (tbLast (fun σ H Q => ∀ X', Blk X scope X' → rdE X' elt σ H Q) D0) []) ρ2 acc h' (I0 ds (i + 1))) ∧
      ∀ acc h', I0 ds ds.length acc h' → PF true (.lst acc) h') : FX X M G (LC2 elt t0 i0 t1 i1 scope pos) ρ hc PF := by
  obtain ⟨wi, hi, iv⟩ := h
  refine .of (pe_lc2 (own := own) (vs1 := []) (g0 := fun v σ H Q => ∀ X', Blk X scope X' → rdG X' t0 v σ H Q) (wi1 := fun σ H R => ∀ X', Blk X scope X' → rdIt X' t1 i1 σ H R) (g1 := fun v σ H Q => ∀ X', Blk X scope X' → rdG X' t1 v σ H Q) (te := fun σ H Q => ∀ X', Blk X scope X' → rdE X' elt σ H Q) hb.calm (by rw [hb.hN]; exact hb.nd) hi (by rw [hb.hN, hb.hsc]; exact ok) (fun s H C cl fp => ⟨⟨fun pins s' σ H v u Q I r q => q _ ⟨s, _, C, cl, fp, rfl⟩ pins s' u I r⟩, ⟨fun pins s' σ H R I q => q _ ⟨s, _, C, cl, fp, rfl⟩ pins s' I⟩, ⟨fun pins s' σ H v u Q I r q => q _ ⟨s, _, C, cl, fp, rfl⟩ pins s' u I r⟩, ⟨fun pins s' σ H Q I q => q _ ⟨s, _, C, cl, fp, rfl⟩ pins s' I⟩⟩) h0 h1) fun σ w H Q eh wk sk xc q => ?_
  refine iv σ w H _ eh wk sk xc fun ds J w1 H1 pd e1 k1 it D0 hD => ?_
  obtain ⟨p0, pt, pe⟩ := pd
  obtain ⟨e2, k2⟩ := ext_lay (o := .lst []) k1 hD
  have mn := Mine.new (o := .lst []) k1 hD
  refine tloop_of (wb := w1) (Hb := H1) (I0 ds) hb hD it (e2.ltr k1) mn.fp k2 e2 mn .nil p0 (((sk.ext e1).ext e2).wiped _) (fun j hj v => wipe_none (by rw [ho]; exact List.mem_append_left _ hj) v) (fun j hj => ⟨d0 j hj, fun v => wipe_none (by rw [ho]; exact List.mem_append_right _ hj) v⟩) (pt w1 H1 D0 hD) fun acc w3 H3 us p3 e3 l3 k3 m3 r3 => ?_
  exact q true _ _ w3 H3 (pe _ _ p3) (e1.trans e3) k3 ⟨rfl, D0, .lst us, rfl, m3.at_, m3.fp, m3.nl, .inl (e1.nn D0 hD), r3⟩
end
end Yl

set_option maxRecDepth 100000
set_option maxHeartbeats 4000000
/-! Y8h: an exception out of a comprehension. -/
namespace Yl
open PySem PySem.Spec PyProof.Rows L2
section
variable {prog : Program} {w : World} {A : Around} {E : Value → Shared → Prop} {s : Shared} {Bg : Heap} {env : PySem.Env} {outer : List PySem.Env} {a L C : Addr} {Z : Obj → Prop}
/-- held by another, then noted by this frame -/
theorem looks_other {Q : Unit → Shared → Prop} (hZ : HandSPX.Steady Z) (hfr : A.frames = some (env :: outer)) (hf : env.frame = some L) (hne : C ≠ L) (hfl : HandSPX.HeldZ Bg (env :: outer) a Z C s.heap)
    (hQ : ∀ h', HandSPX.HeldZ Bg (env :: outer) a Z L h' → s.heap.UpToSlots h' → Q () { s with heap := h' }) : wpAny (model prog w) A (noteFrame (.ref a) env) Q E s := by
  obtain ⟨hkb, hen, hl, oe, vs, T, oT, ts, he, hz, hd, h1, hnT, hTe, hT, hdT, h3⟩ := hfl
  unfold noteFrame
  simp only [hf]
  refine wpAny_bind (wpAny_field he hd h1 ?_)
  rw [if_pos (show (Value.ref T != Value.none) = true from by simp)]
  refine wpAny_bind (wpAny_field hT hdT h3 ?_)
  have hri : ¬ ((rawInt C == rawInt L) = true) := fun z => by
    have z : (C : Int) = (L : Int) := by simpa [rawInt] using z
    exact hne (Int.ofNat.inj z)
  rw [if_neg hri]
  refine wpAny_bind (wpAny_setField hT hdT (Array.getElem?_eq_some_iff.mp h3).1 ?_)
  have other : ∀ b, b ≠ T → (s.heap.update T (Obj.mapFields (·.setIfInBounds 3 Value.none))).get? b = s.heap.get? b := fun b hb => Heap.get?_update_other _ _ (Ne.symm hb)
  have noRecord : ∀ b o, s.heap.get? b = some o → (∀ vs, o.data ≠ .fields vs) → b ≠ T := fun b o hb hnf q => by
    rw [q, hT] at hb; injection hb with hb; subst hb; exact hnf ts hdT
  refine HandSPX.wpAny_entryZ hZ hfr (hl.of_keeps fun b o hb hnf => ⟨o, (other b (noRecord b o hb hnf)).trans hb, rfl⟩) hf ((other a (Ne.symm hTe)).trans he)
    (fun b o hbo => (other b fun q => by rw [q, hnT] at hbo; cases hbo).trans (hkb b o hbo)) hen hd (Array.getElem?_eq_some_iff.mp h1).1 hz fun h' hN => ?_
  obtain ⟨x1, x2, x3, x4⟩ := hN
  exact hQ h' ⟨x1, hen, x2, x3⟩ fun b o hb hnf => x4 b o ((other b (noRecord b o hb hnf)).trans hb) hnf
theorem sky_note {Q : Unit → Shared → Prop} (hZ : HandSPX.Steady Z) (hfr : A.frames = some (env :: outer)) (hf : env.frame = some L) (hne : C ≠ L) (x : Sky Bg (env :: outer) a Z C s.heap)
    (hQ : ∀ h', HandSPX.HeldZ Bg (env :: outer) a Z L h' → s.heap.UpToSlots h' → Q () { s with heap := h' }) : wpAny (model prog w) A (noteFrame (.ref a) env) Q E s := by
  rcases x with ⟨hB, hn, hl, oe, vs, he, hz, hd, h1⟩ | fl | hh
  · exact HandSPX.look_newZ hZ hfr hl hf he hB hn hd h1 hz hQ
  · exact HandSPX.looks_onZ hZ hfr hf fl hQ
  · exact looks_other hZ hfr hf hne hh hQ
end
/-- what an exception in a comprehension's block owes -/
def xeB (X : Cx) (cenv : PySem.Env) : Value → Shared → Prop := notedBy (model X.prog X.w) X.A cenv (CompFails (model X.prog X.w) X.A X.xe cenv)
theorem xeB_own {X : Cx} {cenv : PySem.Env} : PassesOwn (model X.prog X.w) X.A cenv (xeB X cenv) := PassesOwn.looking
section
variable {X : Cx} {W : WX} {pins : List (Addr × Obj)} {σ : St} {H0 : Hp} {s3 : Shared} {scope : Scope} {cenv : PySem.Env} {fp : List Addr}
theorem takes_blk (tk : Takes X W) (hs : X.stack = X.env :: X.outer) (hf : X.env.frame = some X.env.locals) (I3 : Inv X pins σ H0 s3) (hcf : cenv.frame = X.env.frame) (hC : cenv.locals = s3.heap.objs.size) (f3 : ∀ b ∈ fp, FpOk X pins H0 b) :
    Takes ((X.blk s3 H0 scope cenv fp).wish (xeB X cenv)) (fun c d _ H => W c d σ H) := fun u s' x => by
  obtain ⟨a, Bg, sI, pB, σB, H, cls, d, rfl, I, nb, up, sky, na, os, ag, w⟩ := x
  have hfr : X.A.frames = some (X.env :: X.outer) := by rw [I3.ok.frames, hs]
  have sky' : Sky Bg (X.env :: X.outer) a (Zc cls d) cenv.locals s'.heap := by rw [← hs]; exact sky
  have hCL : cenv.locals ≠ X.env.locals := by rw [hC]; exact Nat.ne_of_gt I3.lt
  -- the def's own state
  have I7 : Inv X pins σ H sI := I3.call' (ch := fp) I.os I.base I.hok I.bare fun b hb => ⟨(f3 b hb).2.2.2.1, (f3 b hb).2.1, (f3 b hb).2.2.2.2.1, (f3 b hb).2.2.2.2.2⟩
  have nC : H cenv.locals = none := I.free
  obtain ⟨f0, f1, f2, f3', f4, f5⟩ := I3.fpOk (H' := H) (b := cenv.locals) (by rw [hC]; exact Nat.le_refl _) nC
  obtain ⟨m, hn, _⟩ := I.loc
  have hn : sI.heap.Ns cenv.locals m := hn
  show wpAny (model X.prog X.w) X.A (noteFrame (.ref a) cenv) _ _ s'
  rw [noteFrame_env _ hcf]
  refine sky_note (C := cenv.locals) Zc.steady hfr hf hCL sky' fun h1 hh up1 => ?_
  have up2 := up.trans up1
  refine ⟨m, hn.upToSlots fun b o e hnf => up2 b o e hnf, fun h' m' hn' sb => ?_⟩
  obtain ⟨hB, hBn, hFF, oe, vs, T, oT, ts, he, hz, hd, h1', hnT, hTe, hT, hdT, h3⟩ := hh
  have hn1 : h1.Ns cenv.locals m := hn.upToSlots fun b o e hnf => up2 b o e hnf
  have nrec : ∀ (b : Addr) (o : Obj) (fs : Array Value), h1.get? b = some o → o.data = .fields fs → b ≠ cenv.locals := fun b o fs e dd z => by
    obtain ⟨oL, es, ep, hoL, hdL, _⟩ := hn1
    rw [z, hoL] at e; cases e
    rw [hdL] at dd; cases dd
  have sb2 : ∀ b, b ≠ cenv.locals → h'.get? b = h1.get? b := sb.2
  have ha' : h'.get? a = some oe := (sb2 a (nrec a oe vs he hd)).trans he
  have hT' : h'.get? T = some oT := (sb2 T (nrec T oT ts hT hdT)).trans hT
  have hide : ∀ {h : Heap} {b : Addr} {o : Obj}, (PySem.W.hideAll h [cenv.locals]).get? b = some o → b ≠ cenv.locals ∧ h.get? b = some o := fun {h b o} e =>
    have hz : b ≠ cenv.locals := fun z => by
      rw [PySem.W.hideAll_none [cenv.locals] (by rw [z]; exact List.mem_cons_self)] at e
      cases e
    ⟨hz, PySem.W.of_hideAll _ e⟩
  have hide2 : ∀ {h : Heap} {b : Addr} {o : Obj}, h.get? b = some o → b ≠ cenv.locals → (PySem.W.hideAll h [cenv.locals]).get? b = some o := fun {h b o} e z => PySem.W.hideAll_get _ e (by simpa using z)
  have hide0 : ∀ {h : Heap} {b : Addr}, h.get? b = none → (PySem.W.hideAll h [cenv.locals]).get? b = none := fun {h b} e => by
    cases q : (PySem.W.hideAll h [cenv.locals]).get? b with
    | none => rfl
    | some o => rw [(hide q).2] at e; cases e
  have ff : h'.FunFrames (PySem.W.hideAll Bg [cenv.locals]) (X.env :: X.outer) := funFrames_none (Heap.FunFrames.sameBut sb hn' hFF) fun b hb => hide0 (hFF.mem hb).1
  unfold PySem.passOn
  refine wpAny_bind (wpAny_field ha' hd h1' ?_)
  rw [if_neg (show ¬ ((Value.ref T == Value.none) = true) from by simp)]
  rw [hcf.trans hf]
  refine wpAny_bind (HandSPX.setFlight_anyZ (base := PySem.W.hideAll Bg [cenv.locals]) (l := X.env :: X.outer) (Z := Zc cls d) (fl := rawInt X.env.locals) (fun b o e => (sb2 b (hide e).1).trans (hB b o (hide e).2)) ff ⟨oe, vs, T, oT, ts, ha', hz, hd, h1', hide0 hnT, hTe, hT', hdT, h3⟩ fun h4 b4 ff4 t4 up4 => ?_)
  refine wpAny_throw (tk _ _ ⟨a, PySem.W.hideAll Bg [cenv.locals], { sI with heap := PySem.W.hideAll sI.heap [cenv.locals] }, pins, σ, H, cls, d, rfl, ?_, fun b o e hb => ?_, fun b o e hnf => ?_, .inr (.inr ?_), na, os, ag, w⟩)
  · exact I7.turned (it := cenv.locals) (t' := sI.toks) (fun b o hb e => hide2 e hb) f0 f1 f3' f4 f5
  · exact hide2 (nb b o (hide e).2 hb) (hide e).1
  · obtain ⟨sl, e1⟩ := up2 b o (hide e).2 hnf
    obtain ⟨sl2, e2⟩ := up4 b _ ((sb2 b (hide e).1).trans e1) hnf
    exact ⟨sl2, e2⟩
  · rw [hs]
    exact ⟨b4, hide0 hBn, ff4, t4⟩
end
section
variable {X : Cx}
theorem lc_coreE {pins : List (Addr × Obj)} {s : Shared} {σ : St} {H : Hp} {Q : VK} {elt tg iter : Expr} {ifs : List Expr} {scope : Scope} {own : List (Str × Nat)} {pos pos' : Pos} {wi : TI} {g : TG} {tt : TT} {te : TE} {use : Option (Value → Sem Unit)} {Qf : Value → Shared → Prop}
    (hc : X.calm = true) (hN : X.N.Nodup) (I : Inv X pins σ H s) (hi : PI X tg iter wi) (ok : BlkOk X.N X.env.scope scope own)
    (hg : ∀ (s : Shared) (H : Hp) (C : Addr) (cl : List (Str × Addr)) (fp : List Addr), PG (X.blk s H scope (compEnvC scope cl C X.env) fp) tg g) (ht : ∀ (s : Shared) (H : Hp) (C : Addr) (cl : List (Str × Addr)) (fp : List Addr), PTs (X.blk s H scope (compEnvC scope cl C X.env) fp) ifs tt)
    (he : ∀ (pins : List (Addr × Obj)) (s : Shared) (H : Hp) (C : Addr) (cl : List (Str × Addr)) (fp : List Addr), Inv X pins σ H s → C = s.heap.objs.size → (∀ b ∈ fp, FpOk X pins H b) → PE ((X.blk s H scope (compEnvC scope cl C X.env) fp).wish (xeB X (compEnvC scope cl C X.env))) elt te) (hs : ∀ x, foldedSetIterable iter X.env x = pure x)
    (h : tLc wi g tt te (own.map (·.2)) σ H Q)
    (hRR : ∀ D (ce : PySem.Env) s' m H', Inv X pins σ H' s' → Q (.ref D) H' → s'.heap.Ns ce.locals m → FpOk X pins H' ce.locals → compEnds (model X.prog X.w) X.A X.xe use Qf (.ref D) ce (.ok .next) s') :
    wpAny (model X.prog X.w) X.A (comprehension (.ListComp elt [⟨tg, iter, ifs, 0⟩] scope pos) scope X.env pos' (newList []) false (eval iter X.env) use) Qf X.xe s := by
  have hfree : ∀ y ∈ scope.names, y.2 = .free → ∃ c, X.env.cells.lookup y.1 = some c := fun y hy e => by
    rcases ok.free y hy e with k | k
    · exact I.ok.has _ (.inl k)
    · exact I.ok.has _ (.inr k)
  refine comprehension_at (use := use) rfl hs (closure_ok hfree) ok.kind (fun y hy e => by rw [ok.uniq y hy, e])
    (thn (hi.run pins s σ H _ I h) fun xv s1 hx => thn hx fun itv s2 h2 => ?_)
  obtain ⟨it, fp, tn, J, H2, e, I2, T, st2, f2, q⟩ := h2
  subst e
  refine wpAny_newObj_type (newEnv_comp ?_) (by show 0 ≤ sizeLine; decide)
  generalize hD : s2.heap.objs.size = D
  have hDn : H2 D = none := I2.hok.fresh (Nat.le_of_eq hD)
  obtain ⟨W, ⟨m0, w0⟩, turn⟩ := q D hDn
  -- the new list
  generalize hs3 : ({ s2 with heap := s2.heap.push { cls := .type "list", data := .seq ([] : List Value).toArray } } : Shared) = s3
  have I3 : Inv X pins σ (upd H2 D (.lst [])) s3 := by
    rw [← hs3]
    refine I2.laid (t' := s2.toks) (fun b o e => Heap.get?_push_of_some _ e) (Nat.le_of_eq hD) ⟨Nat.zero_le _, [], 0, .nil, ?_⟩
    rw [← hD]
    exact Heap.get?_push_size _ rfl
  have h3 : s3.heap = s2.heap.push { cls := .type "list", data := .seq ([] : List Value).toArray } := by rw [← hs3]
  have sz : ∀ b ∈ fp, b < s2.heap.objs.size := fun b hb => by
    obtain ⟨o, e, _⟩ := T.obj _ _ st2 b hb
    exact Heap.lt_size e
  have f3 : ∀ b ∈ fp, FpOk X pins (upd H2 D (.lst [])) b ∧ b < s3.heap.objs.size := fun b hb => by
    have hlt := sz b hb
    refine ⟨⟨?_, (f2 b hb).2⟩, by rw [h3, Heap.size_push]; exact Nat.lt_succ_of_lt hlt⟩
    rw [upd_ne (by rw [← hD]; exact Nat.ne_of_lt hlt)]
    exact (f2 b hb).1
  have st3 : tn 0 s3.heap := T.keep _ _ _ st2 fun b _ o e => by rw [h3]; exact Heap.get?_push_of_some _ e
  have I4 := block_start I3 ok hN f3
  have pg := hg s3 (upd H2 D (.lst [])) s3.heap.objs.size (cellsFrom (s3.heap.objs.size + 1) scope.names (cloFrom X.env.cells scope.names [])) fp
  have pt := ht s3 (upd H2 D (.lst [])) s3.heap.objs.size (cellsFrom (s3.heap.objs.size + 1) scope.names (cloFrom X.env.cells scope.names [])) fp
  have pe := he pins s3 (upd H2 D (.lst [])) s3.heap.objs.size (cellsFrom (s3.heap.objs.size + 1) scope.names (cloFrom X.env.cells scope.names [])) fp I3 rfl fun b hb => (f3 b hb).1
  show codeAny _ _ (.compStart (.ListComp elt [⟨tg, iter, ifs, 0⟩] scope pos) 0 (.ref it) (.ref D) (compEnvC scope (cellsFrom (s3.heap.objs.size + 1) scope.names (cloFrom X.env.cells scope.names [])) s3.heap.objs.size X.env)) (compEnds (model X.prog X.w) X.A X.xe use Qf (.ref D) (compEnvC scope (cellsFrom (s3.heap.objs.size + 1) scope.names (cloFrom X.env.cells scope.names [])) s3.heap.objs.size X.env)) { s3 with heap := pushCells (s3.heap.push { cls := .type "dict", data := .dict #[] }) scope.names }
  have nfp : ∀ b ∈ fp, (upd H2 D (.lst [])) b = none := fun b hb => (f3 b hb).1.1
  generalize hce : compEnvC scope (cellsFrom (s3.heap.objs.size + 1) scope.names (cloFrom X.env.cells scope.names [])) s3.heap.objs.size X.env = ce at I4 pg pt pe ⊢
  have cL : ce.locals = s3.heap.objs.size := by subst hce; rfl
  generalize hH3 : upd H2 D (.lst []) = H3 at I3 I4 pg pt pe w0 nfp f3
  generalize hs4 : ({ s3 with heap := pushCells (s3.heap.push { cls := .type "dict", data := .dict #[] }) scope.names } : Shared) = s4 at I4 ⊢
  have st4 : tn 0 s4.heap := T.keep _ _ _ st3 fun b _ o e => by rw [← hs4]; exact pushCells_keeps _ _ _ _ (Heap.get?_push_of_some _ e)
  have stat : ∀ {σ' : St} {H' : Hp} {s' : Shared}, Inv (X.blk s3 H3 scope ce fp) [] σ' H' s' → (∀ b ∈ fp, H' b = none) → ∀ b ∈ fp, FpOk (X.blk s3 H3 scope ce fp) [] H' b := fun {σ' H' s'} I' hn b hb =>
    ⟨hn b hb, (I'.ok.exf b hb).1, I'.ok.exfs b hb, .inl hb, fun x c e => (I'.ok.exf b hb).2 x c e, fun p hp => absurd (show p ∈ ([] : List (Addr × Obj)) ++ [] from hp) (by simp)⟩
  have loop : codeAny (model X.prog X.w) X.A (.compLoop (.ListComp elt [⟨tg, iter, ifs, 0⟩] scope pos) 0 (.ref it) (.ref D) ce) (compEnds (model X.prog X.w) X.A X.xe use Qf (.ref D) ce) s4 := by
    refine compLoop_any (fun n s' => ∃ i H', Inv (X.blk s3 H3 scope ce fp) [] (wipe σ (own.map (·.2))) H' s' ∧ tn i s'.heap ∧ (∀ b ∈ fp, H' b = none) ∧ W i n H') ?_ m0 ⟨0, H3, I4, st4, nfp, w0⟩
    rintro n s5 ⟨i, H5, I5, st5, n5, w5⟩
    rcases turn i n H5 w5 with ⟨stop, qq⟩ | ⟨go, Nx, hNx, step⟩
    · have td := T.done (X.blk s3 H3 scope ce fp) rfl rfl rfl hc i [] s5 _ H5 (fun _ _ => False) I5 (stat I5 n5) st5 stop
      refine thnF td fun r s6 ⟨hr, I6⟩ => ?_
      subst hr
      -- back in the def's context
      have I7 : Inv X pins σ H5 s6 := I3.call' (ch := fp) I6.os I6.base I6.hok I6.bare fun b hb => ⟨(f3 b hb).1.2.2.2.1, (f3 b hb).1.2.1, (f3 b hb).1.2.2.2.2.1, (f3 b hb).1.2.2.2.2.2⟩
      have nC : H5 s3.heap.objs.size = none := by
        have z : H5 ce.locals = none := I6.free
        rw [cL] at z
        exact z
      obtain ⟨m, hn, _⟩ := I6.loc
      have hn : s6.heap.Ns ce.locals m := hn
      exact hRR D ce s6 m H5 I7 qq hn (I3.fpOk (by rw [cL]; exact Nat.le_refl _) (by rw [cL]; exact nC))
    · have ti := T.item (X.blk s3 H3 scope ce fp) rfl rfl rfl hc i [] s5 _ H5 (fun _ _ => False) I5 (stat I5 n5) st5 go
      refine thnF ti fun r s6 ⟨u, hr, h6⟩ => ?_
      subst hr
      refine thnF h6 fun _ s7 ⟨x, H7, I7, r7, y7, st7, n7⟩ => ?_
      have I7' := I7.pinned (stat I7 n7) (T.obj _ _ st7)
      refine thnF (pg.run _ s7 _ H7 x u _ I7' r7 (step x H7 y7)) fun _ s8 ⟨σ8, H8, I8, hw8, q8⟩ => ?_
      refine thnF (pt.run _ s8 σ8 H8 _ I8 q8) fun b s9 ⟨H9, I9, q9⟩ => ?_
      -- the turn's end
      have fin : ∀ {s' : Shared} {H' : Hp}, Inv (X.blk s3 H3 scope ce fp) ([] ++ pinsAt fp s7.heap) σ8 H' s' → Nx H' → ∃ m, m < n ∧ ∃ i H', Inv (X.blk s3 H3 scope ce fp) [] (wipe σ (own.map (·.2))) H' s' ∧ tn i s'.heap ∧ (∀ b ∈ fp, H' b = none) ∧ W i m H' := fun {s' H'} I' nx => by
        obtain ⟨m', hm, w'⟩ := hNx H' nx
        have pin' : ∀ b ∈ fp, ∀ o, s7.heap.get? b = some o → s'.heap.get? b = some o ∧ H' b = none := fun b hb o e =>
          let z := I'.pin (b, o) (List.mem_append_right _ (List.mem_append_right _ (mem_pinsAt hb e)))
          ⟨z.1, z.2.1⟩
        have hl : (wipe σ (own.map (·.2))).length = σ8.length := by rw [← hw8, wipe_length]
        refine ⟨m', hm, i + 1, H', (I'.unpinned (pins := [])).weak hl (fun j v e => ?_), T.keep _ _ _ st7 fun b hb o e => (pin' b hb o e).1, fun b hb => ?_, w'⟩
        · rw [← hw8] at e
          exact (wipe_some e).1
        · obtain ⟨o, e, _⟩ := T.obj _ _ st7 b hb
          exact (pin' b hb o e).2
      cases b with
      | false =>
        simp only [Bool.false_eq_true, if_false] at q9 ⊢
        exact fin I9 q9
      | true =>
        simp only [if_true] at q9 ⊢
        refine wpAny_mono (pe.run _ s9 σ8 H9 _ (I9.wish _) q9) (fun z s10 ⟨yv, H10, I10, r10, acc, hD10, hz10, nx⟩ => ?_) fun _ _ z => z
        exact app_ok (X := X.blk s3 H3 scope ce fp) I10.unwish hD10 hz10 r10 fun s11 I11 => fin I11 nx
  exact codeAny_compStart_list loop (T.self X.A 0 _ _ _ st4 loop)
/-- what is read of an element that may raise: by the slots of the def -/
def tLcE (wi : TI) (g : TG) (tt : TT) (te : L2.St → TE) (vs : List Nat) : TE := fun σ H Q => tLc wi g tt (te σ) vs σ H Q
theorem ps_setLcE {i : Nat} {y : Str} {py : Pos} {elt tg iter : Expr} {ifs : List Expr} {scope : Scope} {own : List (Str × Nat)} {pos spos : Pos} {wi : TI} {g : TG} {tt : TT} {te : L2.St → TE} (hc : X.calm = true) (hN : X.N.Nodup) (hy : X.N[i]? = some y) (hyl : X.env.scope.names.lookup y = some .local)
    (hsw : swapsWith (.ListComp elt [⟨tg, iter, ifs, 0⟩] scope pos) (some (.Name y py)) spos.line X.env = pure true) (hi : PI X tg iter wi) (ok : BlkOk X.N X.env.scope scope own)
    (hg : ∀ (s : Shared) (H : Hp) (C : Addr) (cl : List (Str × Addr)) (fp : List Addr), PG (X.blk s H scope (compEnvC scope cl C X.env) fp) tg g) (ht : ∀ (s : Shared) (H : Hp) (C : Addr) (cl : List (Str × Addr)) (fp : List Addr), PTs (X.blk s H scope (compEnvC scope cl C X.env) fp) ifs tt)
    (he : ∀ (σ : L2.St) (pins : List (Addr × Obj)) (s : Shared) (H : Hp) (C : Addr) (cl : List (Str × Addr)) (fp : List Addr), Inv X pins σ H s → C = s.heap.objs.size → (∀ b ∈ fp, FpOk X pins H b) → PE ((X.blk s H scope (compEnvC scope cl C X.env) fp).wish (xeB X (compEnvC scope cl C X.env))) elt (te σ)) (hs : ∀ x, foldedSetIterable iter X.env x = pure x := by intro _; rfl) :
    PS X (.Assign [.Name y py] (.ListComp elt [⟨tg, iter, ifs, 0⟩] scope pos) spos) (tAsg (tLcE wi g tt te (own.map (·.2))) (gName i)) := by
  refine ⟨fun pins s σ H D I h => ?_⟩
  rw [exec_Assign_Name_used _ _ _ _ hsw]
  refine wpAny_bind (wpAny_standAt (wpAny_bind ?_))
  show wpAny _ X.A (do let _ ← comprehension (.ListComp elt [⟨tg, iter, ifs, 0⟩] scope pos) scope X.env (firstIterPos [⟨tg, iter, ifs, 0⟩] pos) (newList []) false (eval iter X.env) (some (assign (.Name y py) X.env))) _ _ s
  have h : tLc wi g tt (te σ) (own.map (·.2)) σ H (fun x H1 => gName i x σ H1 D.nx) := h
  refine wpAny_bind (thn (lc_coreE (Qf := fun _ s' => SP X pins D .next s') hc hN I hi ok hg ht (he σ) hs h fun L ce s' m H' I' q hn f => ?_) fun _ s' hq => wpAny_pure (wpAny_pure hq))
  show wpAny _ _ (assign (.Name y py) X.env (.ref L)) _ _ _
  refine wpAny_assign_Name (store_ok2 (v := V.ref L) I' hN hy (.inl hyl) rfl (fun s2 I2 ⟨a, sb, ha⟩ => ?_) (.inr hyl))
  obtain ⟨f0, f1, f2, f3, f4, f5⟩ := f
  have haC : ce.locals ≠ a := by
    rcases ha with z | z
    · rw [z]; exact f1
    · exact fun e => f4 y a z e.symm
  refine ⟨m, hn.sameBut sb haC, fun h3 sb3 => ?_⟩
  exact ⟨_, H', I2.turned (t' := s2.toks) (fun b o hb e => (sb3.2 b hb).trans e) f0 f1 f3 f4 f5, q⟩
end
end Yl

set_option maxRecDepth 100000
set_option maxHeartbeats 4000000
/-! Y8i: x = [elt for tg in iter] whose element may raise. -/
namespace Yl
open PySem PySem.Spec PyProof.Rows L2
section
variable {X : Cx} {M : Mx} {N : List Str} {sc : Scope} {k k' : Nat} {W : WX} {G : Gx} {ρ : Env} {hc : Hc} {P : D → Hc → Prop} {S : Out → Prop} {elt iter tg : Expr} {es : List Expr} {x m : Str} {pos pos' spos : Pos}
/-- the block where the element stands: what it raises is the def's -/
def BlkE (X : Cx) (scope : Scope) (σ : L2.St) (X' : Cx) : Prop := ∃ pins s H C cl fp, Inv X pins σ H s ∧ C = s.heap.objs.size ∧ (∀ b ∈ fp, FpOk X pins H b) ∧ X' = (X.blk s H scope (compEnvC scope cl C X.env) fp).wish (xeB X (compEnvC scope cl C X.env))
/-- the wish of the element -/
abbrev GxB (G : Gx) (σ : L2.St) (ρ : Env) : Gx := ⟨fun c d _ H => G.W c d σ H, fun c pl _ h => G.PX c pl ρ h⟩
theorem BlkE.bx {X' : Cx} {scope : Scope} {σ : L2.St} (h : BlkE X scope σ X') (hb : Bx X M N sc k G.W) (fx : Frx X) : Bx X' M N (relS scope sc) k (GxB G σ ρ).W := by
  obtain ⟨pins, s, H, C, cl, fp, I, hC, hf, rfl⟩ := h
  exact ⟨⟨hb.hN, hb.nd, by rw [← hb.hsc]; rfl, hb.hP, hb.hw, hb.hK, hb.hmg, hb.hbase⟩, hb.calm, xeB_own, hb.room, takes_blk hb.tk fx.st fx.fr I rfl hC hf⟩
theorem xc_blk {w : Wd} {H : Hp} {σ σ' : L2.St} {ρ' : Env} (xc : XC M G w H σ ρ) : XC M (GxB G σ ρ) w H σ' ρ' := fun c pl d w' H' p e k r => xc c pl d w' H' p e k r
theorem sx_setLcE {i : Nat} {T : List Nat} {scope : Scope} (own : List (Str × Nat)) (I : List D → Nat → List D → Hc → Prop) (hb : Bx X M N sc k G.W) (fx : Frx X) (ok : BlkOk N sc scope own) (hT : ∀ j ∈ T, j ∈ own.map (·.2)) (hs : ∀ x, foldedSetIterable iter X.env x = pure x)
    (hN : N[i]? = some x) (hl : sc.names.lookup x = some .local) (hsw : swapsWith (.ListComp elt [⟨tg, iter, [], 0⟩] scope pos) (some (.Name x pos')) spos.line X.env = pure true)
    (h : IX X M G tg iter ρ hc fun ds h0 => ds.length ≤ sizeLine ∧ I ds 0 [] h0 ∧ (∀ (j : Nat) d acc h', ds[j]? = some d → I ds j acc h' → InB X M N scope sc k fun X' => GX X' M T tg d (unset ρ (own.map (·.2))) fun ρ2 => ∀ σ X', BlkE X scope σ X' → Bx X' M N (relS scope sc) k (GxB G σ ρ).W → EX X' M (GxB G σ ρ) elt ρ2 h' fun y h3 => I ds (j + 1) (acc ++ [y]) h3) ∧
      ∀ acc h', I ds ds.length acc h' → S (.nx (ρ.set i (some (.lst acc))) h')) : SX X M G (.Assign [.Name x pos'] (.ListComp elt [⟨tg, iter, [], 0⟩] scope pos) spos) ρ hc S := by
  obtain ⟨wi, hi, iv⟩ := h
  refine .of (ps_setLcE (i := i) (own := own) (ifs := []) (g := fun v σ H Q => ∀ X', Blk X scope X' → rdG X' tg v σ H Q) (tt := fun σ H Q => ∀ X', Blk X scope X' → rdI X' [] σ H Q) (te := fun σ0 σ H Q => ∀ X', BlkE X scope σ0 X' → rdE X' elt σ H Q)
    hb.calm (by rw [hb.hN]; exact hb.nd) (by rw [hb.hN]; exact hN) (by rw [hb.hsc]; exact hl) hsw hi (by rw [hb.hN, hb.hsc]; exact ok) (fun s H C cl fp => ⟨fun pins s' σ H v u Q I r q => q _ ⟨s, _, C, cl, fp, rfl⟩ pins s' u I r⟩) (fun s H C cl fp => ⟨fun pins s' σ H Q I q => q _ ⟨s, _, C, cl, fp, rfl⟩ pins s' I⟩)
    (fun σ0 pins0 s H C cl fp I0 hC hf => ⟨fun pins s' σ H' Q I q => q _ ⟨pins0, s, H, C, cl, fp, I0, hC, hf, rfl⟩ pins s' I⟩) hs) fun w0 H0 σ w H D eh ex wk sk xcs q => ?_
  have xc := xcs.xc ex sk
  unfold tAsg tLcE tLc
  refine iv σ w H _ eh wk sk xc fun ds J w1 H1 pd e1 k1 it => ?_
  obtain ⟨hlen, p0, pt, pe⟩ := pd
  intro Da hD
  refine ⟨fun i m H' => m = ds.length - i ∧ i ≤ ds.length ∧ ∃ w' acc vs, I ds i acc w'.h ∧ acc.length ≤ i ∧ WOk M w' H' ∧ Ext w1 H1 w' H' ∧ Mine w' H' Da (.lst vs) ∧ RepL M w'.F w'.m vs acc, ⟨_, rfl, Nat.zero_le _, w1, [], [], p0, Nat.le_refl _, (ext_lay k1 hD).2, (ext_lay k1 hD).1, Mine.new k1 hD, .nil⟩, ?_⟩
  rintro j m H' ⟨rfl, hi', w', acc, vs, pi, hacc, kk, ee, mn, rl⟩
  have le1 : Le w1.F H' := fun a o z => kk.le a o (ee.ff a o z)
  have nt : ∀ (us : List V) (vs : List V), HO.lst us ≠ .tup vs := fun _ _ z => nomatch z
  by_cases hlt : j < ds.length
  · refine .inr ⟨it.go j w' H' (ee.ltr k1) kk hlt, fun H2 => j + 1 ≤ ds.length ∧ ∃ w' acc vs, I ds (j + 1) acc w'.h ∧ acc.length ≤ j + 1 ∧ WOk M w' H2 ∧ Ext w1 H1 w' H2 ∧ Mine w' H2 Da (.lst vs) ∧ RepL M w'.F w'.m vs acc, fun H2 ⟨a, b⟩ => ⟨_, by omega, rfl, a, b⟩, fun x H2 y => ?_⟩
    have hd : ds[j]? = some ds[j] := by simp [hlt]
    obtain ⟨w2, eh2, e2, k2, r2⟩ := it.yld j w' H' x H2 _ (ee.ltr k1) kk y hd
    have mn2 := mn.ext (nt vs) e2
    have sk2 := (sk.ext e1).ext (ee.trans e2)
    intro X' bk
    refine pt j _ acc w'.h hd pi X' bk (bk.bx hb) x (wipe σ (own.map (·.2))) w2 H2 _ k2 (sk2.wiped _) r2 fun σ3 ρ3 p3 sk3 l3 => ?_
    refine And.intro (wipe_less hT l3) fun X1 bk1 pins s I => pts_nil.run pins s σ3 H2 _ I ?_
    dsimp only [tYes]
    try rw [if_pos rfl]
    intro X3 bk3
    refine p3 σ X3 bk3 (bk3.bx hb fx) σ3 w2 H2 _ eh2 k2 sk3 (xc_blk (((xc.ext e1).ext ee).ext e2)) fun y v w4 H4 p5 e4 k4 r4 => ?_
    have mn4 := mn2.ext (nt vs) e4
    have rl4 : RepL M w4.F w4.m vs acc := RepL.mono (fun a o z => e4.ff _ _ (e2.ff _ _ z)) (fun i a z => e4.mm i a (e2.mm i a z)) rl
    refine ⟨vs, mn4.at_, by rw [rl.1]; omega, hlt, w4, acc ++ [y], vs ++ [v], p5, by simp; omega, wok_grow k4 mn4.fp mn4.nl, ext_grow ((ee.trans e2).trans e4) hD, mn4.put, rl4.append (.cons r4 .nil)⟩
  · have e : j = ds.length := by omega
    subst e
    refine .inl ⟨it.stop w' H' (ee.ltr k1) kk, ?_⟩
    obtain ⟨e2, k2⟩ := ext_fz kk mn.at_ mn.fp mn.nl (.inl (e1.nn Da hD)) (e1.trans ee)
    exact q _ (pe acc _ pi) _ (w'.fz Da (.lst vs)) H' rfl (ex.trans e2) k2 ((sk.ext e2).set (rep_box (d := .lst acc) rfl upd_same (RepL.mono (sub_upd mn.fp) (fun _ _ z => z) rl)))
end
end Yl

set_option maxRecDepth 100000
set_option maxHeartbeats 4000000
/-! Y11g: .get of a dict, with what is told else. -/
namespace Yl
open PySem PySem.Spec PyProof.Rows L2
section
variable {X : Cx} {M : Mx} {N : List Str} {sc : Scope} {k k' : Nat} {W : WX} {G : Gx} {ρ : Env} {hc : Hc} {P : D → Hc → Prop} {PF : Bool → D → Hc → Prop} {o e f : Expr} {pos apos : Pos}
theorem isD_of {w : Wd} {H : Hp} {v : V} {x : D} (wk : WOk M w H) (r : Rep M w.F w.m v x) (h : isDct (deref w.h x) = true) : ∃ a, v = .ref a ∧ IsD H a := by
  cases e : deref w.h x <;> rw [e] at h <;> first | (cases h; done) | skip
  obtain ⟨a, ob, rfl, rd, c⟩ := den_box wk r e rfl
  cases ob <;> first | exact c.elim | skip
  · exact ⟨a, rfl, .inl ⟨_, rd.1⟩⟩
  · exact ⟨a, rfl, .inr ⟨_, rd.1⟩⟩
theorem fx_get (hb : Bx X M N sc k W) (hs : starEach [e, f] X.env = [(false, eval e X.env), (false, eval f X.env)]) (hbase : attributeBase o "get" X.env (eval o X.env) = eval o X.env) (hline : (apos.endLine == pos.line) = true)
    (h : EX X M G o ρ hc fun x h1 => isDct (deref h1 x) = true ∧ EX X M G e ρ h1 fun y h2 => EX X M G f ρ h2 fun z h3 => ∃ t kvs, deref h3 x = .dct t kvs ∧ fits t y = true ∧ PF false ((getD kvs y).getD z) h3) : FX X M G (.Call (.Attribute o "get" apos) [e, f] [] pos) ρ hc PF :=
  .of (pe_dget2 (by have := hb.room.un; omega) pe_rd pe_rd pe_rd ⟨hbase, by rw [hs]; rfl, hline, by rw [hs]; rfl⟩) fun σ w H Q eh wk sk xc q => h σ w H _ eh wk sk xc fun x v w1 H1 hp e1 k1 r1 => by
    obtain ⟨hd, hp⟩ := hp
    obtain ⟨a, rfl, id⟩ := isD_of k1 r1 hd
    refine ⟨a, rfl, id, ?_⟩
    refine hp σ w1 H1 _ rfl k1 (sk.ext e1) (xc.ext e1) fun y u w2 H2 p2 e2 k2 r2 => ?_
    refine p2 σ w2 H2 _ rfl k2 (sk.ext (e1.trans e2)) (xc.ext (e1.trans e2)) fun z u2 w3 H3 p3 e3 k3 r3 => ?_
    obtain ⟨t, kvs, hk, hf, pf⟩ := p3
    have rx := r1.mono (fun a o z => e3.ff a o (e2.ff a o z)) fun i a z => e3.mm i a (e2.mm i a z)
    obtain ⟨a', o', hv, g, hm⟩ := dget_of k3 rx hk (r2.mono e3.ff e3.mm) hf
    cases hv
    refine ⟨o', g, ?_⟩
    cases hg : getD kvs y with
    | some d =>
      rw [hg] at hm pf
      obtain ⟨v', rfl, rv⟩ := hm
      exact q false _ _ _ _ pf ((e1.trans e2).trans e3) k3 rv
    | none =>
      rw [hg] at hm pf
      subst hm
      exact q false _ _ _ _ pf ((e1.trans e2).trans e3) k3 r3
end
end Yl

set_option maxRecDepth 100000
set_option maxHeartbeats 4000000
/-! Y11r: a tuple from behind, xs[::-1]. -/
namespace Yl
open PySem PySem.Spec PyProof.Rows L2
section
variable {prog : Program} {w : World} {A : Around} {E : Value → Shared → Prop} {s : Shared}
theorem adj_rev (n : Nat) : Builtin.Slice.sliceAdjust none none (-1) (n : Int) = ((n : Int) - 1, -1) := rfl
theorem plc_rev (n : Nat) : Builtin.Slice.slicePlaces ((n : Int) - 1) (-1) (-1) = n := by
  unfold Builtin.Slice.slicePlaces
  rw [if_neg (by decide)]
  have e1 : (-(-1 : Int)) = 1 := by decide
  rw [e1, Int.ediv_one]
  split <;> omega
theorem sa_rev {a : Addr} {vk : Value} {n : Nat} {Q : Int × Int × Nat → Shared → Prop} (hs : s.heap.IsSliceOf a .none .none vk) (pk : IsPart vk (some (-1))) (h : Q ((n : Int) - 1, -1, n) s) : wpAny (model prog w) A (Builtin.Slice.sliceApplied (.ref a) (pure (n : Int))) Q E s := by
  obtain ⟨ob, ho, hcl, hda⟩ := id hs
  unfold Builtin.Slice.sliceApplied
  unfold Builtin.Slice.sliceFields
  have f0 := fun {Q : Value → Shared → Prop} (q : Q .none s) => wpAny_field (M := model prog w) (A := A) (E := E) ho hda (i := 0) (x := .none) rfl q
  have f1 := fun {Q : Value → Shared → Prop} (q : Q .none s) => wpAny_field (M := model prog w) (A := A) (E := E) ho hda (i := 1) (x := .none) rfl q
  have f2 := fun {Q : Value → Shared → Prop} (q : Q vk s) => wpAny_field (M := model prog w) (A := A) (E := E) ho hda (i := 2) (x := vk) rfl q
  refine wpAny_bind (wpAny_bind (f0 (wpAny_bind (f1 (wpAny_bind (f2 (wpAny_pure ?_)))))))
  refine wpAny_bind (HT.slicePart_ pk ?_)
  show wpAny _ _ (if ((-1 : Int) == 0) = true then _ else _) _ _ s
  rw [if_neg (by decide)]
  refine wpAny_bind (HT.slicePart_ .none (wpAny_bind (HT.slicePart_ .none (wpAny_bind (wpAny_pure ?_)))))
  show wpAny _ _ (match Builtin.Slice.sliceAdjust none none (-1) (n : Int) with | (i, j) => pure (i, (-1 : Int), Builtin.Slice.slicePlaces i j (-1))) _ _ s
  rw [adj_rev]
  show wpAny _ _ (pure ((n : Int) - 1, (-1 : Int), Builtin.Slice.slicePlaces ((n : Int) - 1) (-1) (-1))) _ _ s
  rw [plc_rev]
  exact wpAny_pure h
theorem fm_congr {f g : Nat → Option Value} : ∀ {l : List Nat}, (∀ x ∈ l, f x = g x) → l.filterMap f = l.filterMap g
  | [], _ => rfl
  | a :: l, h => by
    rw [List.filterMap_cons, List.filterMap_cons, h a List.mem_cons_self, fm_congr (l := l) (fun x hx => h x (List.mem_cons_of_mem _ hx))]
theorem pick_rev (xs : Array Value) : (List.range xs.size).filterMap (fun (k : Nat) => xs[((xs.size : Int) - 1 + (k : Int) * -1).toNat]?) = xs.toList.reverse := by
  have e : (List.range xs.size).filterMap (fun (k : Nat) => xs[((xs.size : Int) - 1 + (k : Int) * -1).toNat]?) = (List.range xs.size).filterMap (fun k => xs.toList.reverse[k]?) := by
    apply fm_congr
    intro k hk
    have hk := List.mem_range.mp hk
    have hk2 : k < xs.toList.length := by rw [Array.length_toList]; exact hk
    rw [List.getElem?_reverse hk2, Array.getElem?_toList, Array.length_toList]
    congr 1
    omega
  rw [e]
  apply List.ext_getElem?
  intro i
  have : ∀ (l : List Value), (List.range l.length).filterMap (fun k => l[k]?) = l := by
    intro l
    induction l with
    | nil => rfl
    | cons a l ih =>
      rw [List.length_cons, List.range_succ_eq_map, List.filterMap_cons]
      simp only [List.getElem?_cons_zero, List.filterMap_map]
      congr 1
  have := this xs.toList.reverse
  rw [List.length_reverse, Array.length_toList] at this
  rw [this]
theorem gi_rev {t a : Addr} {xs : Array Value} {vk : Value} {Q : Value → Shared → Prop} (ht : IsTup s.heap t xs) (hs : s.heap.IsSliceOf a .none .none vk) (pk : IsPart vk (some (-1)))
    (h : Q (.ref s.heap.objs.size) { s with heap := s.heap.push { cls := .type "tuple", data := .seq xs.toList.reverse.toArray } }) (hz : xs.size ≤ sizeLine) : wpAny (model prog w) A (getItem (.ref t) (.ref a)) Q E s := by
  have ok : sizeOk (.seq xs.toList.reverse.toArray) := by
    show xs.toList.reverse.toArray.size ≤ sizeLine
    rw [List.size_toArray, List.length_reverse, Array.length_toList]; exact hz
  obtain ⟨ob, ho, hcl, hda⟩ := id hs
  have hT : s.TypeIs (.ref a) "slice" := ⟨ob, ho, hcl⟩
  unfold getItem
  try with_reducible refine wpAny_holding ?_
  refine wpAny_bind (wpAny_sequenceKey (M := model prog w) ht.typeIs (by decide) ?_)
  refine wpAny_bind (wpAny_callSpecial?_slot (name := Str.ofString "__getitem__") ht.typeIs PyProof.Rows.slot_tuple_getitem (wpAny_call_entry PyProof.Rows.slot_tuple_getitem ht.typeIs entry_tuple_getitem ?_ (args_tuple_getitem _ _)))
  show wpAny _ _ (Builtin.Tuple.tupleItemsOf (.ref t) >>= fun ys => _) _ _ s
  refine wpAny_bind (tupleItemsOf_ ht (wpAny_bind (wpAny_typeOf hT ?_)))
  rw [if_pos (by decide)]
  refine wpAny_bind (sa_rev hs pk ?_)
  have no : ¬ (((xs.size : Int) - 1 == 0 && (-1 : Int) == 1 && xs.size == xs.size) = true) := by simp
  show wpAny _ _ (if ((xs.size : Int) - 1 == 0 && (-1 : Int) == 1 && xs.size == xs.size) = true then _ else _) _ _ s
  rw [if_neg no, pick_rev]
  first
    | exact wpAny_bind (m := Builtin.Tuple.tupleExact _) (wpAny_newObj_type (wpAny_pure ⟨_, rfl, wpAny_pure h⟩) ok)
    | exact wpAny_bind (m := Builtin.Tuple.tupleExact _) (wpAny_newObj_type (wpAny_bind (wpAny_pure (wpAny_pure ⟨_, rfl, wpAny_pure h⟩))) ok)
    | exact wpAny_bind (wpAny_bind (m := Builtin.Tuple.tupleExact _) (wpAny_newObj_type (wpAny_pure (wpAny_pure ⟨_, rfl, wpAny_pure h⟩)) ok))
    | exact wpAny_bind (wpAny_bind (m := Builtin.Tuple.tupleExact _) (wpAny_newObj_type (wpAny_pure ⟨_, rfl, wpAny_pure h⟩) ok))
end
section
variable {X : Cx} {M : Mx} {N : List Str} {sc : Scope} {k k' : Nat} {W : WX} {G : Gx} {ρ : Env} {hc : Hc} {P : D → Hc → Prop} {PF : Bool → D → Hc → Prop} {a b c e o tg : Expr} {pos p apos : Pos}
def tRevT (K : PySem.W.Frag) (te : TE) : TE := fun σ H Q => te σ H fun x H1 => ∃ a xs, x = .ref a ∧ SqT K H1 a xs ∧ ∀ p, H1 p = none → Q (.ref p) (upd H1 p (.tup xs.reverse))
theorem pe_revT {te : TE} {j : Nat} {p1 p2 p3 : Pos} (he : PE X e te) : PE X (.Subscript e (.Slice none none (some (.UnaryOp .USub (.Constant (.int 1) j p1) p2)) p3) pos) (tRevT X.K te) := by
  refine ⟨fun pins s σ H Q I h => ?_⟩
  refine Subscript_ (thn (he.run pins s σ H _ I h) fun v s1 z => ?_)
  obtain ⟨x, H1, I1, r1, a, xs, ex, hx, q⟩ := z
  subst ex
  obtain rfl : v = Value.ref a := r1
  have step : PO X (some (.UnaryOp .USub (.Constant (.int 1) j p1) p2)) (tPart (tUn (rU fun i => .int (-i)) (tC (.int 1)))) := po_some (pe_un un_neg pe_int)
  have n1 := po_none.run pins s1 σ H1 (fun o H2 => o = none ∧ H2 = H1) I1 ⟨rfl, rfl⟩
  refine wpAny_Slice (thn n1 fun vl s2 z => ?_)
  obtain ⟨l, H2, I2, pl, rfl, rfl⟩ := z
  have n2 := po_none.run pins s2 σ H2 (fun o H3 => o = none ∧ H3 = H2) I2 ⟨rfl, rfl⟩
  refine thn n2 fun vu s3 z => ?_
  obtain ⟨u, H3, I3, pu, rfl, rfl⟩ := z
  have n3 := step.run pins s3 σ H3 (fun o H4 => o = some (-1) ∧ H4 = H3) I3 ⟨1, rfl, -1, rfl, rfl, rfl⟩
  refine thn n3 fun vs s4 z => ?_
  obtain ⟨o, H4, I4, ps, rfl, rfl⟩ := z
  cases pl
  cases pu
  have I5 : Inv X pins σ H4 { s4 with heap := s4.heap.push { cls := .type "slice", data := .fields #[.none, .none, vs] } } := I4.kept (t' := s4.toks) fun b ob z => Heap.get?_push_of_some _ z
  obtain ⟨its, r, ht, hz⟩ := I5.tuple hx
  have hlen := r.length
  show wpAny (model X.prog X.w) X.A (subscriptTail e _ (.ref a) (.ref s4.heap.objs.size)) (EP X pins σ Q) X.xe _
  refine tail_any (ops := [.ref a, .ref s4.heap.objs.size]) ht.typeIs PyProof.Rows.slot_tuple_getitem.lookup ?_ (by with_unfolding_all rfl)
  refine gi_rev ht (Heap.IsSliceOf.new _ .none .none vs) ps ?_ (by rw [List.size_toArray]; omega)
  refine ⟨.ref _, _, I5.laid (t' := s4.toks) (o := .tup xs.reverse) (fun b ob z => Heap.get?_push_of_some _ z) (Nat.le_refl _) ?_, rfl, q _ (I5.hok.fresh (Nat.le_refl _))⟩
  exact ⟨by rw [List.length_reverse]; exact hz, _, r.reverse, IsTup.new _ _⟩
theorem fx_rev {j : Nat} {p1 p2 p3 : Pos} (hb : Bw X M N sc) (h : EX X M G e ρ hc fun d h' => ∃ ds, d = .tup ds ∧ PF false (.tup ds.reverse) h') : FX X M G (.Subscript e (.Slice none none (some (.UnaryOp .USub (.Constant (.int 1) j p1) p2)) p3) pos) ρ hc PF :=
  .of (pe_revT pe_rd) fun σ w H Q eh wk sk xc q => h σ w H _ eh wk sk xc fun d v w1 H1 p1 e1 k1 r1 => by
    obtain ⟨ds, rfl, p1⟩ := p1
    obtain ⟨a, vs, rfl, ha, rl⟩ := r1.tup_inv
    refine ⟨a, vs, rfl, by rw [hb.hK]; exact sqT_of k1.le ha, fun p hp => Fin.tup (fin_of e1 p1 q) k1 hp rl.reverse⟩
end
end Yl

set_option maxRecDepth 100000
set_option maxHeartbeats 4000000
/-! Y12: the program's text against the small language: a check, and what it is good for. -/
namespace Yl
open PySem PySem.Spec PyProof.Rows L2
/-! ### forms of the text -/
def noStar : Expr → Bool
  | .Starred _ _ => false
  | _ => true
def noSet : Expr → Bool
  | .Set _ _ _ => false
  | _ => true
def noSlice : Expr → Bool
  | .Slice _ _ _ _ => false
  | _ => true
def noComp : Expr → Bool
  | .ListComp _ _ _ _ => false
  | .SetComp _ _ _ _ => false
  | .DictComp _ _ _ _ _ => false
  | _ => true
def noCall0 : Expr → Bool
  | .Call _ [] _ _ => false
  | _ => true
def noTest : Expr → Bool
  | .UnaryOp _ _ _ => false
  | .BoolOp _ _ _ => false
  | .IfExp _ _ _ _ => false
  | .Compare _ _ _ _ => false
  | _ => true
theorem star_cons {e : Expr} (es : List Expr) {env : PySem.Env} (h : noStar e = true) : starEach (e :: es) env = (false, eval e env) :: starEach es env := by
  cases e <;> first | rfl | cases h
theorem star_all {es : List Expr} {env : PySem.Env} {pos : Pos} (h : es.all noStar = true) : (backTo pos (starEach es env)).any (·.1) = false := by
  induction es with
  | nil => rfl
  | cons e es ih =>
    rw [List.all_cons, Bool.and_eq_true_iff] at h
    rw [star_cons es h.1]
    show (false || _) = false
    exact ih h.2
theorem star_one {e : Expr} {env : PySem.Env} (h : noStar e = true) : starEach [e] env = [(false, eval e env)] := star_cons [] h
theorem mark_no {op : CmpOp} {e : Expr} (h : noSet e = true) : behindInMarks op e = false := by
  cases e <;> first | rfl | cases h
theorem fold_no {e : Expr} {env : PySem.Env} (h : noSet e = true) : ∀ x, foldedSetIterable e env x = pure x := by
  intro x
  cases e <;> first | rfl | cases h
theorem ix_no {e : Expr} (h : noSlice e = true) : PlainIx e := by
  intro o i
  cases e <;> first | rfl | cases h
theorem swap_no {e : Expr} {t : Option Expr} {l : Nat} {env : PySem.Env} (h : noComp e = true) : swapsWith e t l env = pure false := by
  cases e <;> first | rfl | cases h
theorem base_no {e : Expr} {m : Str} {env : PySem.Env} {w : Sem Value} (h : noCall0 e = true) : attributeBase e m env w = w := by
  cases e with
  | Call f args kw pos =>
    cases args with
    | nil => cases h
    | cons a args => cases f <;> rfl
  | _ => rfl
theorem test_no {e : Expr} {env : PySem.Env} (h : noTest e = true) : ∀ whole, isTrue e env whole = (do let v ← whole; standAt e.pos; holding [v] (truthy v)) := by
  intro whole
  cases e <;> first | rfl | cases h
theorem assign_no {o i : Expr} {pos : Pos} {env : PySem.Env} (h : noSlice i = true) : ∀ v, assign (.Subscript o i pos) env v = (do
      let ov ← holding [v] (eval o env)
      let iv ← holding [v, ov] (eval i env)
      standAt pos
      holding [v, ov, iv] (setItem ov iv v)
      release [v, ov, iv] []) := by
  intro v
  cases i <;> first | rfl | cases h
theorem aug_no {i : Expr} (h : noSlice i = true) : ∀ ov iv new, augStore i ov iv new = (do holding [new, ov, iv] (setItem ov iv new); release [new, ov, iv] []; pure .next) := by
  intro ov iv new
  cases i <;> first | rfl | cases h
theorem stores_no {o i e : Expr} {pos : Pos} {env : PySem.Env} : swappedStores [.Subscript o i pos] e env = pure none := by
  cases e <;> rfl
def kindV (sc : Scope) (x : Str) : Bool := match sc.names.lookup x with
  | some .local => true
  | some .cell => true
  | some .free => true
  | _ => false
def kindS (sc : Scope) (x : Str) : Bool := match sc.names.lookup x with
  | some .local => true
  | some .cell => true
  | _ => false
def kindG (sc : Scope) (x : Str) : Bool := decide (sc.names.lookup x = some .globalImplicit)
theorem kindV_ok {sc : Scope} {x : Str} (h : kindV sc x = true) : Vis sc x := by
  unfold kindV at h
  split at h
  · exact .inl (by assumption)
  · exact .inr (.inl (by assumption))
  · exact .inr (.inr (by assumption))
  · cases h
theorem kindS_ok {X : Cx} {sc : Scope} {x : Str} (fn : ∀ x, X.fn x = true) (h : kindS sc x = true) : Sto X sc x := by
  unfold kindS at h
  split at h
  · exact .inl (by assumption)
  · exact .inr ⟨by assumption, fn x⟩
  · cases h
def nmB (x : Str) : Bool := !(x == ("__debug__" : Str)) && !(x == ("__classdict__" : Str)) && !decide (x = "__name__")
theorem nmB_ok {x : Str} (h : nmB x = true) : (x == ("__debug__" : Str)) = false ∧ (x == ("__classdict__" : Str)) = false ∧ x ≠ "__name__" := by
  unfold nmB at h
  simp only [Bool.and_eq_true, Bool.not_eq_true', decide_eq_false_iff_not] at h
  exact ⟨h.1.1, h.1.2, h.2⟩
def bopOf : Operator → Option O2
  | .Add => some .add
  | .Sub => some .sub
  | .Mult => some .mul
  | .FloorDiv => some .fdiv
  | .Mod => some .mod
  | .Pow => some .pow
  | _ => none
def copOf : CmpOp → Option O2
  | .Lt => some .lt
  | .LtE => some .le
  | .Gt => some .gt
  | .GtE => some .ge
  | .Eq => some .eq
  | .NotEq => some .ne
  | .Is => some .isN
  | .IsNot => some .notN
  | .In => some .isin
  | .NotIn => some .nin
theorem bop_ok {op : Operator} {o : O2} (h : bopOf op = some o) : opOf o = binaryOp op ∧ o ≠ .ix := by
  cases op <;> cases h <;> exact ⟨rfl, fun z => nomatch z⟩
theorem cop_ok {op : CmpOp} {o : O2} (h : copOf op = some o) : opOf o = compareOp op ∧ o ≠ .ix := by
  cases op <;> cases h <;> exact ⟨rfl, fun z => nomatch z⟩
theorem cop_bl {op : CmpOp} {o : O2} {hh : Hc} {x y d : D} {f : Bool} (h : copOf op = some o) (e : op2 hh o x y = some (f, d)) : ∃ b, f = false ∧ d = .bl b := by
  cases op <;> cases h
  all_goals first
    | (have e : (inD x (deref hh y)).map _ = some (f, d) := e
       cases q : inD x (deref hh y) with
       | none => rw [q] at e; cases e
       | some b => rw [q] at e; cases e; exact ⟨_, rfl, rfl⟩)
    | skip
  all_goals
    simp only [op2, o_lt, o_le, o_gt, o_ge, o_eq, o_ne, o_isN, o_notN] at e
    split at e <;> first | (cases e; done) | (cases e; exact ⟨_, rfl, rfl⟩)
/-! ### tables -/
structure Lw where
  pg : Pg
  fnm : List (Option Str)
  gnm : List (Option Str)
  free : List Str
  plain : List Nat
  noat : List (Nat × Tx)
  cnm : List (Nat × Str)
  exc0 : List Nat
  exc1 : List (Nat × Tx)
  exm : List (Nat × Nat × Bool)
  xf : List (Nat × Tx)
  dr : Bool
  meth : List (Nat × Str × Nat)
/-- what the head says of the module -/
structure Fac (M : Mx) (L : Lw) : Prop where
  gl : ∀ g x, L.gnm[g]? = some (some x) → ∃ v u, M.mg x = some u ∧ RelV v u ∧ ∀ F m, Rep M F m v (L.pg.gls.getD g .non)
  free : ∀ x, x ∈ L.free → M.mg x = none
  plain : ∀ C, C ∈ L.plain → Cls M.K (M.ca C)
  noat : ∀ p, p ∈ L.noat → NoAttr M.K (M.ca p.1) (ts p.2)
  cnm : ∀ p, p ∈ L.cnm → M.mg p.2 = some (.ref (M.ca p.1))
  exc0 : ∀ C, C ∈ L.exc0 → ∀ x, (C, x) ∈ L.cnm → ExcT M C x
  exc1 : ∀ p, p ∈ L.exc1 → ∀ x, (p.1, x) ∈ L.cnm → ExcI M p.1 x (ts p.2) 1
  exm : ∀ p, p ∈ L.exm → PySem.W.exmOne M.K (.ref (M.ca p.1)) (.ref (M.ca p.2.1)) = some p.2.2
  xf : ∀ p, p ∈ L.xf → XfC M.K (M.ca p.1) ∧ PySem.W.findIn M.K (.ref (M.ca p.1)) (ts p.2) = some none
  own : ∀ C, C ∈ L.plain → OwnC M C
/-- the defs that may be called, in room k -/
structure Cls2 (M : Mx) (L : Lw) (cl : Md) (k : Nat) : Prop where
  fn : ∀ f x, L.fnm[f]? = some (some x) → ∃ ps, FnC M x ps k (fun ds h P PX => (cl.run f ds h).good (fun p => P p.1 p.2.1 p.2.2) PX)
  draw : L.dr = true → ∃ ps, FnC M "_law_draw" ps k conDraw
  meth : ∀ C m f, (C, m, f) ∈ L.meth → ∃ ps, MeC M C m ps k (fun ds h P PX => (cl.run f ds h).good (fun p => P p.1 p.2.1 p.2.2) PX)
  make : ∀ (j C f : Nat) (dfl : List D), L.pg.mks[j]? = some (C, f, dfl) → ∀ x, (C, x) ∈ L.cnm → ∃ ps, MkC M x C ps k dfl (fun ds h P PX => (cl.run f ds h).good (fun p => P p.1 p.2.1 p.2.2) PX)
/-- a comprehension that is stored at once in a local name -/
def swOk (sc : Scope) (x : Str) (py : Pos) : Expr → Bool
  | .DictComp _ _ _ scope pos => (match sc.kind with | .function => true | _ => false) && (decide (sc.names.lookup x = some .local) && ((py.line == pos.line) && !(scope.names.any fun (n, k) => n == x && (k == .local || k == .cell))))
  | .ListComp _ _ scope pos => (match sc.kind with | .function => true | _ => false) && (decide (sc.names.lookup x = some .local) && ((py.line == pos.line) && !(scope.names.any fun (n, k) => n == x && (k == .local || k == .cell))))
  | _ => false
theorem sw_dc {kx vx : Expr} {gs : List Comprehension} {scope : Scope} {pos py : Pos} {y : Str} {l : Nat} {env : PySem.Env} (hk : env.scope.kind = .function) (hy : env.scope.names.lookup y = some .local) (hl : (py.line == pos.line) = true)
    (ha : (scope.names.any fun (n, k) => n == y && (k == .local || k == .cell)) = false) : swapsWith (.DictComp kx vx gs scope pos) (some (.Name y py)) l env = pure true := by
  have e1 : env.kindOf y = some .local := hy
  have e2 : env.blockKind = .function := by unfold PySem.Env.blockKind; rw [hk]; rfl
  unfold swapsWith
  simp only [e2, e1, ha, Expr.pos, hl]; rfl
theorem swOk_ok {sc : Scope} {x : Str} {py : Pos} {e : Expr} {l : Nat} {env : PySem.Env} (hsc : env.scope = sc) (h : swOk sc x py e = true) : sc.names.lookup x = some .local ∧ swapsWith e (some (.Name x py)) l env = pure true := by
  unfold swOk at h
  split at h
  · simp only [Bool.and_eq_true, decide_eq_true_eq, Bool.not_eq_true'] at h
    obtain ⟨h1, h2, h3, h4⟩ := h
    refine ⟨h2, sw_dc ?_ (by rw [hsc]; exact h2) h3 h4⟩
    rw [hsc]
    split at h1
    · assumption
    · cases h1
  · simp only [Bool.and_eq_true, decide_eq_true_eq, Bool.not_eq_true'] at h
    obtain ⟨h1, h2, h3, h4⟩ := h
    refine ⟨h2, sw_true ?_ (by rw [hsc]; exact h2) h3 h4⟩
    rw [hsc]
    split at h1
    · assumption
    · cases h1
  · cases h
theorem sole_sub {o i e : Expr} {p : Pos} {l : Nat} {env : PySem.Env} : swapsWithSole [.Subscript o i p] e l env = pure false := by
  cases e <;> rfl
def noTup : Expr → Bool
  | .Tuple _ _ _ => false
  | _ => true
theorem stores_noT {t e : Expr} {env : PySem.Env} (h : noTup e = true) : swappedStores [t] e env = pure none := by
  cases e <;> first | (cases h; done) | (cases t <;> rfl)
def isLc : E → Bool
  | .lc _ _ _ _ _ _ => true
  | .dc _ _ _ _ _ _ => true
  | _ => false
/-! ### the check of expressions -/
abbrev CkE := Scope → E → Expr → Bool
def all2 {α β : Type} (f : α → β → Bool) : List α → List β → Bool
  | [], [] => true
  | a :: as, b :: bs => f a b && all2 f as bs
  | _, _ => false
section
variable (L : Lw) (N : List Str)
def slotV (sc : Scope) (i : Nat) (x : Str) : Bool := decide (N[i]? = some x) && (kindV sc x && nmB x)
def glob (sc : Scope) (x : Str) : Bool := kindG sc x && nmB x
def ckConst (d : D) (c : Const) : Bool := match d, c with
  | .non, .none => true
  | .bl a, .bool b => a == b
  | .int a, .int b => decide (a = b)
  | .str a, .str b => decide (b.cps.toList = a)
  | _, _ => false
def ckCst (d : D) : Expr → Bool
  | .Constant c _ _ => ckConst d c
  | .UnaryOp .USub (.Constant (.int j) _ _) _ => match d with
    | .int i => decide (i = -j)
    | _ => false
  | _ => false
def ckArgs (r : CkE) (sc : Scope) (es : List E) (as : List Expr) : Bool := all2 (r sc) es as && as.all noStar
def biNm : Bi → Str
  | .all => "all" | .any => "any" | .len => "len" | .int => "int" | .str => "str" | .list => "list" | .tuple => "tuple" | .sorted => "sorted" | .min => "min" | .max => "max" | .isi => "isinstance" | .dict => "dict"
def biIn : Bi → Bool
  | .all => true
  | .len => true
  | .int => true
  | .isi => true
  | .tuple => true
  | .list => true
  | .any => true
  | .str => true
  | .sorted => true
  | .min => true
  | .max => true
  | .dict => true
/-- one cell is handed over -/
def oneT : List Bool → Bool
  | [] => false
  | true :: s => s.all (!·)
  | false :: s => oneT s
/-- kk: which names may be stored -/
def ckTgK (kk : Str → Bool) (tg : List Nat) (tp : Bool) : Expr → Bool
  | .Name x _ => match tp, tg with
    | false, [i] => decide (N[i]? = some x) && kk x
    | _, _ => false
  | .Tuple ts _ _ => tp && all2 (fun i (e : Expr) => match e with | .Name x _ => decide (N[i]? = some x) && kk x | _ => false) tg ts && decide (tg.length ≤ 4)
  | _ => false
def ckTg (sc : Scope) (tg : List Nat) (tp : Bool) (e : Expr) : Bool := ckTgK N (fun x => decide (sc.names.lookup x = some .local)) tg tp e
def ckTgS (sc : Scope) (tg : List Nat) (tp : Bool) (e : Expr) : Bool := ckTgK N (kindS sc) tg tp e
def ckIt (r : CkE) (sc : Scope) (k : Ik) (its : List E) (tgt : Expr) (it : Expr) : Bool := match k, its with
  | .lst, [e] => r sc e it && noSet it
  | .tup, [e] => r sc e it && noSet it
  | .str, [e] => r sc e it && noSet it
  | .dct, [e] => r sc e it && noSet it
  | .enum, [a] => match it, tgt with
    | .Call (.Name x _) [u] [] _, .Tuple _ _ _ => decide (x = "enumerate") && (glob sc x && (L.free.contains "enumerate" && (r sc a u && noStar u)))
    | _, _ => false
  | .rng, es => match it with
    | .Call (.Name x _) as [] _ => decide (x = "range") && (glob sc x && (L.free.contains "range" && (ckArgs r sc es as && decide (1 ≤ as.length ∧ as.length ≤ 3))))
    | _ => false
  | .zip, [a, b] => match it, tgt with
    | .Call (.Name x _) [u, v] [] _, .Tuple _ _ _ => decide (x = "zip") && (glob sc x && (L.free.contains "zip" && (ckArgs r sc [a, b] [u, v])))
    | _, _ => false
  | _, _ => false
def ownOf (tg : List Nat) : List (Str × Nat) := tg.map fun i => ((N[i]?).getD "", i)
def ckLc (r rt : CkE) (sc : Scope) (tg : List Nat) (tp : Bool) (k : Ik) (its cond : List E) (elt : E) : Expr → Bool
  | .ListComp e [⟨t, it, ifs, 0⟩] scope _ => blkC N sc scope (ownOf N tg) && (ckTg N (relS scope sc) tg tp t && (ckIt L r sc k its t it && (noSet it && (all2 (rt (relS scope sc)) cond ifs && (decide (ifs.length ≤ 1) && r (relS scope sc) elt e)))))
  | _ => false
def ckLc3 (r : CkE) (sc : Scope) (x y z : Nat) (i j k elt : E) : Expr → Bool
  | .ListComp e [⟨t0, i0, [], 0⟩, ⟨t1, i1, [], 0⟩, ⟨t2, i2, [], 0⟩] scope _ => blkC N sc scope (ownOf N [x, y, z]) && ((ckTg N (relS scope sc) [x] false t0 && (ckTg N (relS scope sc) [y] false t1 && ckTg N (relS scope sc) [z] false t2)) && ((noSet i0 && (noSet i1 && noSet i2)) && (r sc i i0 && (r (relS scope sc) j i1 && (r (relS scope sc) k i2 && (r (relS scope sc) elt e && (!Nat.beq x y && (!Nat.beq x z && !Nat.beq y z))))))))
  | _ => false
def ckLc2 (r : CkE) (sc : Scope) (x y : Nat) (i j elt : E) : Expr → Bool
  | .ListComp e [⟨t0, i0, [], 0⟩, ⟨t1, i1, [], 0⟩] scope _ => blkC N sc scope (ownOf N [x, y]) && ((ckTg N (relS scope sc) [x] false t0 && ckTg N (relS scope sc) [y] false t1) && ((noSet i0 && noSet i1) && (r sc i i0 && (r (relS scope sc) j i1 && (r (relS scope sc) elt e && !Nat.beq x y)))))
  | _ => false
def ckDc (r : CkE) (sc : Scope) (x : Nat) (ik : Ik) (it kx vx : E) : Expr → Bool
  | .DictComp k v [⟨t, i, [], 0⟩] scope _ => blkC N sc scope (ownOf N [x]) && (ckTg N (relS scope sc) [x] false t && ((match ik with | .tup => r sc it i | .lst => r sc it i | _ => false) && (noSet i && (r (relS scope sc) kx k && r (relS scope sc) vx v))))
  | _ => false
def ckSome (r : CkE) (sc : Scope) : Option E → Option Expr → Bool
  | none, none => true
  | some e, some a => r sc e a
  | _, _ => false
def ckE1 (r rt : CkE) (sc : Scope) (e : E) (a : Expr) : Bool := match e with
  | .var i => match a with | .Name x _ => slotV N sc i x | _ => false
  | .take i => match a with | .Name x _ => slotV N sc i x | _ => false
  | .cst d => ckCst d a
  | .gl g => match a with | .Name x _ => decide (L.gnm[g]? = some (some x)) && glob sc x | _ => false
  | .ty n => match a with | .Name x _ => decide (bootBuiltins x = some (.type (tyS n))) && (glob sc x && L.free.contains x) | _ => false
  | .op2 o x y => match a with
    | .BinOp l op w _ => decide (bopOf op = some o) && (r sc x l && r sc y w)
    | .Compare l [op] [w] _ => decide (copOf op = some o) && (r sc x l && (r sc y w && noSet w))
    | .Subscript l w _ => decide (o = .ix) && (r sc x l && (r sc y w && noSlice w))
    | _ => false
  | .not x => match a with | .UnaryOp .Not w _ => r sc x w | _ => false
  | .and xs => match a with | .BoolOp .And ws _ => all2 (r sc) xs ws | _ => false
  | .or xs => match a with | .BoolOp .Or ws _ => all2 (r sc) xs ws | _ => false
  | .ite c x y => match a with | .IfExp w u v _ => rt sc c w && (r sc x u && r sc y v) | _ => false
  | .chain o o' x y z => match a with | .Compare l [p, q] [u, v] _ => decide (copOf p = some o) && (decide (copOf q = some o') && (r sc x l && (r sc y u && (r sc z v && noSet v)))) | _ => false
  | .tup es => match a with | .Tuple as _ _ => ckArgs r sc es as && decide (es.length ≤ 1000) | _ => false
  | .lst es => match a with | .List as _ => ckArgs r sc es as && decide (es.length ≤ 1000) | _ => false
  | .bi b es => match a with | .Call (.Name x _) (u :: us) [] _ => biIn b && (decide (x = biNm b) && (glob sc x && (L.free.contains x && ckArgs r sc es (u :: us)))) | _ => false
  | .me m x es => match a with
    | .Call (.Attribute o n ap) [u] [] pos => match m, es with
      | .split, [y] => decide (n = "split") && (r sc x o && (r sc y u && (noStar u && (noCall0 o && (ap.endLine == pos.line)))))
      | .join, [y] => decide (n = "join") && (r sc x o && (r sc y u && (noStar u && (noCall0 o && (ap.endLine == pos.line)))))
      | .starts, [y] => decide (n = "startswith") && (r sc x o && (r sc y u && (noStar u && (noCall0 o && (ap.endLine == pos.line)))))
      | .ends, [y] => decide (n = "endswith") && (r sc x o && (r sc y u && (noStar u && (noCall0 o && (ap.endLine == pos.line)))))
      | .app, [y] => decide (n = "append") && (r sc x o && (r sc y u && (noStar u && (noCall0 o && (ap.endLine == pos.line)))))
      | _, _ => false
    | .Call (.Attribute o n ap) [u, v] [] pos => match m, es with
      | .get, [y, z] => decide (n = "get") && (r sc x o && (r sc y u && (r sc z v && (noStar u && (noStar v && (noCall0 o && (ap.endLine == pos.line)))))))
      | _, _ => false
    | .Call (.Attribute o n ap) [] [] pos => match m, es with
      | .pop, [] => decide (n = "pop") && (r sc x o && (noCall0 o && (ap.endLine == pos.line)))
      | _, _ => false
    | _ => false
  | .slice x lo hi => match a with | .Subscript w (.Slice l u none _) _ => r sc x w && (ckSome r sc lo l && ckSome r sc hi u) | _ => false
  | .call f es => match a with
    | .Call (.Name x _) (u :: us) [] _ => decide (L.fnm[f]? = some (some x)) && (glob sc x && ckArgs r sc es (u :: us))
    | _ => false
  | .call0 f => match a with
    | .Call (.Name x _) [] [] _ => decide (L.fnm[f]? = some (some x)) && glob sc x
    | _ => false
  | .callR f s es => match a with
    | .Call (.Name x _) (u :: us) [] _ => decide (L.fnm[f]? = some (some x)) && (glob sc x && (ckArgs r sc es (u :: us) && oneT s))
    | _ => false
  | .fld C x n => match a with | .Attribute o f _ => decide (f = ts n) && (r sc x o && (noCall0 o && (L.plain.contains C && L.noat.contains (C, n)))) | _ => false
  | .fs es => match a with | .JoinedStr (u :: v :: us) _ => all2 (r sc) es (u :: v :: us) | _ => false
  | .fmt x => match a with | .FormattedValue w (-1) none _ => r sc x w | _ => false
  | .eqI C f x y => match a with | .Compare l [.Eq] [w] _ => L.meth.contains (C, "__eq__", f) && (r sc x l && (r sc y w && noSet w)) | _ => false
  | .isI C x => match a with
    | .Call (.Name z _) [u, .Name y _] [] _ => decide (z = "isinstance") && (glob sc z && (L.free.contains z && (r sc x u && (noStar u && (L.cnm.contains (C, y) && (glob sc y && L.plain.contains C))))))
    | _ => false
  | .lc tg tp k its cond elt => ckLc L N r rt sc tg tp k its cond elt a
  | .lc2 x y i j elt => ckLc2 N r sc x y i j elt a
  | .lc3 x y z i j k elt => ckLc3 N r sc x y z i j k elt a
  | .dc _ x k it kx vx => ckDc N r sc x k it kx vx a
  | .mk j es => match a with
    | .Call (.Name x _) (u :: us) [] _ => (match L.pg.mks[j]? with | some p => L.cnm.contains (p.1, x) | none => false) && (glob sc x && ckArgs r sc es (u :: us))
    | _ => false
  | .mcB C x m f es => match a with
    | .Call (.Attribute o n ap) [] [] pos => match es with
      | [] => decide (n = ts m) && (L.meth.contains (C, n, f) && (r sc x o && (noCall0 o && (ap.endLine == pos.line))))
      | _ => false
    | _ => false
  | .mcR C x m f es => match a with
    | .Call (.Attribute o n ap) [] [] pos => match es with
      | [] => decide (n = ts m) && (L.meth.contains (C, n, f) && (r sc x o && (noCall0 o && (ap.endLine == pos.line))))
      | _ => false
    | .Call (.Attribute o n ap) [u] [] pos => match es with
      | [y] => decide (n = ts m) && (L.meth.contains (C, n, f) && (r sc x o && (r sc y u && (noStar u && (noCall0 o && (ap.endLine == pos.line))))))
      | _ => false
    | _ => false
  | .lenI C f x => match a with
    | .Call (.Name z _) [u] [] _ => decide (z = "len") && (glob sc z && (L.free.contains "len" && (L.meth.contains (C, "__len__", f) && (r sc x u && noStar u))))
    | _ => false
  | .eqB C f x y => match a with | .Compare l [.Eq] [w] _ => L.meth.contains (C, "__eq__", f) && (r sc x l && (r sc y w && (noSet w && L.plain.contains C))) | _ => false
  | .callL f x es => match a with
    | .Call (.Name z _) (u :: us) [] _ => decide (L.fnm[f]? = some (some z)) && (glob sc z && ckArgs r sc (x :: es) (u :: us))
    | _ => false
  | .mkL j es => match a with
    | .Call (.Name x _) (u :: us) [] _ => (match L.pg.mks[j]? with | some p => L.cnm.contains (p.1, x) | none => false) && (glob sc x && ckArgs r sc es (u :: us))
    | _ => false
  | .new x => r sc x a
  | .rev x => match a with | .Subscript w (.Slice none none (some (.UnaryOp .USub (.Constant (.int 1) _ _) _)) _) _ => r sc x w | _ => false
  | .dct0 _ => match a with | .Dict [] [] _ => true | _ => false
  | .dct ks vs => match a, ks, vs with | .Dict [some u] [w] _, [x], [y] => r sc x u && r sc y w | _, _, _ => false
  | .lrange x => match a with
    | .Call (.Name y _) [.Call (.Name z _) [u] [] _] [] _ => decide (y = "list") && (glob sc y && (L.free.contains "list" && (decide (z = "range") && (glob sc z && (L.free.contains "range" && (r sc x u && noStar u))))))
    | _ => false
  | .draw i n => match a with
    | .Call (.Name x _) [.Name y _, u] [] _ => L.dr && (decide (x = "_law_draw") && (glob sc x && (slotV N sc i y && (r sc n u && noStar u))))
    | _ => false
  | _ => false
def isOp2 : E → Bool
  | .op2 _ _ _ => true
  | _ => false
def isEqI : E → Bool
  | .eqI _ _ _ _ => true
  | _ => false
def isChain : E → Bool
  | .chain _ _ _ _ _ => true
  | _ => false
def ckT0 (r : CkE) (sc : Scope) (e : E) (a : Expr) : Bool := match a with
  | .Compare l [op] [w] p => r sc e (.Compare l [op] [w] p) && (isOp2 e || isEqI e)
  | .Compare l [p, q] [u, v] z => r sc e (.Compare l [p, q] [u, v] z) && isChain e
  | a => r sc e a && noTest a
def ckT1 (r rt : CkE) (sc : Scope) (e : E) (a : Expr) : Bool := match e with
  | .not x => match a with | .UnaryOp .Not w _ => rt sc x w | _ => false
  | .and xs => match a with | .BoolOp .And ws _ => all2 (rt sc) xs ws | _ => false
  | .or xs => match a with | .BoolOp .Or ws _ => all2 (rt sc) xs ws | _ => false
  | e => ckT0 r sc e a
def ckEE : Nat → CkE × CkE
  | 0 => (fun _ _ _ => false, fun _ _ _ => false)
  | n + 1 => (ckE1 L N (ckEE n).1 (ckEE n).2, ckT1 (ckE1 L N (ckEE n).1 (ckEE n).2) (ckEE n).2)
end
end Yl

set_option maxRecDepth 100000
set_option maxHeartbeats 4000000
/-! Y8j: three names stored at once. -/
namespace Yl
open PySem PySem.Spec PyProof.Rows L2
/-- x, y, z = a, b, c is stored from the right -/
def par3Ok (sc : Scope) (x y z : Str) (px py pz : Pos) (es : List Expr) : Bool := (match sc.kind with | .function => true | _ => false) && ((decide (sc.names.lookup x = some .local) && (decide (sc.names.lookup y = some .local) && decide (sc.names.lookup z = some .local))) && (((py.line == px.line) && (pz.line == px.line)) && (decide ([x, y, z].eraseDups.length = 3) && (es.all noStar && (!es.all (foldedForSure 8) && !es.all (constantsAlone 8))))))
theorem any_star {es : List Expr} (h : es.all noStar = true) : (es.any fun | .Starred .. => true | _ => false) = false := by
  induction es with
  | nil => rfl
  | cons e es ih =>
    rw [List.all_cons, Bool.and_eq_true_iff] at h
    rw [List.any_cons, ih h.2, Bool.or_false]
    cases e <;> first | rfl | exact absurd h.1 Bool.false_ne_true
theorem par3_ok {env : PySem.Env} {sc : Scope} {x y z : Str} {px py pz pt pt2 : Pos} {kt k2} {a b c : Expr} (hsc : env.scope = sc) (h : par3Ok sc x y z px py pz [a, b, c] = true) :
    (sc.names.lookup x = some .local ∧ sc.names.lookup y = some .local ∧ sc.names.lookup z = some .local) ∧ swappedStores [.Tuple [.Name x px, .Name y py, .Name z pz] kt pt] (.Tuple [a, b, c] k2 pt2) env = pure (some [x, y, z]) := by
  unfold par3Ok at h
  simp only [Bool.and_eq_true, decide_eq_true_eq] at h
  obtain ⟨h1, ⟨h2, h3, h4⟩, ⟨h5, h6⟩, h7, h8, h9, h10⟩ := h
  rw [Bool.not_eq_true'] at h9 h10
  refine ⟨⟨h2, h3, h4⟩, ?_⟩
  have hk : sc.kind = .function := by
    split at h1
    · assumption
    · cases h1
  have e2 : env.blockKind = .function := by unfold PySem.Env.blockKind; rw [hsc, hk]; rfl
  have kx : env.kindOf x = some .local := by rw [← hsc] at h2; exact h2
  have ky : env.kindOf y = some .local := by rw [← hsc] at h3; exact h3
  have kz : env.kindOf z = some .local := by rw [← hsc] at h4; exact h4
  unfold swappedStores
  simp only [pure_bind, bind_pure_comp, e2]
  simp only [List.filterMap, kx, ky, kz, List.head?, Option.map, Option.getD, Expr.pos, h5, h6, beq_self_eq_true, Bool.and_self, if_true]
  refine (if_neg (ne_true_of_eq_false rfl)).trans ?_
  refine (if_neg (ne_true_of_eq_false (any_star h8))).trans ?_
  refine (if_neg (ne_true_of_eq_false ?_)).trans ?_
  · rw [h7]; rfl
  rw [h9, h10]
  rfl
theorem par3Ok_star {sc : Scope} {x y z : Str} {px py pz : Pos} {es : List Expr} (h : par3Ok sc x y z px py pz es = true) : es.all noStar = true := by
  unfold par3Ok at h
  simp only [Bool.and_eq_true] at h
  exact h.2.2.2.2.1
section
variable {X : Cx} {M : Mx} {N : List Str} {sc : Scope} {k k' : Nat} {G : Gx} {ρ : Env} {hc : Hc} {S : Out → Prop} {a b c : Expr} {x y z : Str} {px py pz pt pt2 pos : Pos} {kt k2}
theorem sx_par3 {i j l : Nat} (hb : Bx X M N sc k G.W) (hi : N[i]? = some x) (hj : N[j]? = some y) (hl : N[l]? = some z) (hij : i ≠ j) (hil : i ≠ l) (hjl : j ≠ l) (hp : par3Ok sc x y z px py pz [a, b, c] = true)
    (h : AX X M G [a, b, c] ρ hc fun ds h' => ∃ u v w, ds = [u, v, w] ∧ S (.nx (((ρ.set i (some u)).set j (some v)).set l (some w)) h')) : SX X M G (.Assign [.Tuple [.Name x px, .Name y py, .Name z pz] kt pt] (.Tuple [a, b, c] k2 pt2) pos) ρ hc S := by
  obtain ⟨⟨l1, l2, l3⟩, hw⟩ := par3_ok (pt := pt) (pt2 := pt2) (kt := kt) (k2 := k2) hb.hsc hp
  refine .of (ps_par3 hb.calm (by rw [hb.hN]; exact hb.nd) (by rw [hb.hN]; exact hi) (by rw [hb.hN]; exact hj) (by rw [hb.hN]; exact hl) hij hil hjl (by rw [hb.hsc]; exact l1) (by rw [hb.hsc]; exact l2) (by rw [hb.hsc]; exact l3) pa_rd hw) fun w0 H0 σ w H D eh ex wk sk xc q => ?_
  refine h σ w H _ eh wk sk (xc.xc ex sk) fun ds vs w1 H1 p e1 k1 r => ?_
  obtain ⟨u, v, t, rfl, p⟩ := p
  obtain ⟨v0, r0, rfl, p0, q0⟩ := At.cons_inv r
  obtain ⟨v1, r1, rfl, p1, q1⟩ := q0.cons_inv
  obtain ⟨v2, r2, rfl, p2, q2⟩ := q1.cons_inv
  obtain rfl := q2.nil_inv
  exact ⟨v0, v1, v2, rfl, q _ p _ w1 H1 rfl (ex.trans e1) k1 ((((sk.ext e1).set p0).set p1).set p2)⟩
end
end Yl

set_option maxRecDepth 100000
set_option maxHeartbeats 4000000
/-! Y13: what is checked is computed: expressions. -/
namespace Yl
open PySem PySem.Spec PyProof.Rows L2
open T (good_bind)
def SE (M : Mx) (N : List Str) (k : Nat) (ck : CkE) (r : Ev) : Prop := ∀ (X : Cx) (sc : Scope) (G : Gx) (e : E) (a : Expr) (ρ : Env) (h : Hc) (PF : Bool → D → Hc → Prop), Bx X M N sc k G.W → ck sc e a = true → (r e ρ h).good (fun p => PF p.1 p.2.1 p.2.2) (fun c pl h' => G.PX c pl ρ h') → FX X M G a ρ h PF
def STe (M : Mx) (N : List Str) (k : Nat) (ck : CkE) (t : Et) : Prop := ∀ (X : Cx) (sc : Scope) (G : Gx) (e : E) (a : Expr) (ρ : Env) (h : Hc) (B : Bool → Hc → Prop), Bx X M N sc k G.W → ck sc e a = true → (t e ρ h).good (fun p => B p.1 p.2) (fun c pl h' => G.PX c pl ρ h') → TX X M G a ρ h B
section
variable {M : Mx} {L : Lw} {N : List Str} {k : Nat} {ck ckt : CkE} {r : Ev} {t : Et} {X : Cx} {sc : Scope} {G : Gx} {ρ : Env} {h : Hc} {PF : Bool → D → Hc → Prop} {P : D → Hc → Prop} {B : Bool → Hc → Prop}
theorem vl_ex (s : SE M N k ck r) {e : E} {a : Expr} (hb : Bx X M N sc k G.W) (c : ck sc e a = true) (g : (vl r e ρ h).good (fun p => P p.1 p.2) (fun c pl h' => G.PX c pl ρ h')) : EX X M G a ρ h P :=
  FX.ex (s X sc G e a ρ h (fun _ d h' => P d h') hb c (good_bind.mp g))
theorem vls_ax (s : SE M N k ck r) (hb : Bx X M N sc k G.W) : ∀ {es : List E} {as : List Expr} {h : Hc} {U : List D → Hc → Prop}, all2 (ck sc) es as = true → as.all noStar = true → (vls r es ρ h).good (fun p => U p.1 p.2) (fun c pl h' => G.PX c pl ρ h') → AX X M G as ρ h U
  | [], [], h, U, _, _, g => ax_nil g
  | [], _ :: _, h, U, c, _, _ => by cases c
  | _ :: _, [], h, U, c, _, _ => by cases c
  | e :: es, a :: as, h, U, c, st, g => by
    simp only [all2, Bool.and_eq_true_iff] at c
    rw [List.all_cons, Bool.and_eq_true_iff] at st
    refine ax_cons (star_cons as st.1) (vl_ex s hb c.1 (T.good_mono (fun p q => ?_) (fun _ _ _ q => q) (good_bind.mp g)))
    exact vls_ax s hb (U := fun ds h2 => U (p.1 :: ds) h2) c.2 st.2 (good_bind.mp q)
theorem part_ox (s : SE M N k ck r) (hb : Bx X M N sc k G.W) {oe : Option E} {oa : Option Expr} {P : Option Int → Hc → Prop} (c : ckSome ck sc oe oa = true) (g : (part r oe ρ h).good (fun p => P p.1 p.2) (fun c pl h' => G.PX c pl ρ h')) : OX X M G oa ρ h P := by
  cases oe with
  | none => cases oa with
    | none => exact ox_none g
    | some a => cases c
  | some e => cases oa with
    | none => cases c
    | some a =>
      refine ox_some (vl_ex s hb c (T.good_mono (fun p q => ?_) (fun _ _ _ q => q) (good_bind.mp g)))
      split at q
      · exact ⟨_, by assumption, q⟩
      · exact q.elim
theorem ot_good {h : Hc} {o : Option (Bool × D)} {PX : Nat → Pl → Hc → Prop} (g : (ot h o).good (fun p => PF p.1 p.2.1 p.2.2) PX) : ∃ f d, o = some (f, d) ∧ PF f d h := by
  cases o with
  | none => exact g.elim
  | some p => exact ⟨p.1, p.2, rfl, g⟩
theorem om_good {o : Option (Bool × D × Hc)} {PX : Nat → Pl → Hc → Prop} (g : (om o).good (fun p => PF p.1 p.2.1 p.2.2) PX) : ∃ f d h, o = some (f, d, h) ∧ PF f d h := by
  cases o with
  | none => exact g.elim
  | some p => exact ⟨p.1, p.2.1, p.2.2, rfl, g⟩
/-! ### operators -/
theorem s_op2' (s : SE M N k ck r) (hb : Bx X M N sc k G.W) {o : O2} {x y : E} {a : Expr} (c : ckE1 L N ck ckt sc (.op2 o x y) a = true) {Md : Md} (g : (e_op2 Md r t ρ h o x y).good (fun p => PF p.1 p.2.1 p.2.2) (fun c pl h' => G.PX c pl ρ h')) : FX X M G a ρ h PF := by
  have g1 := good_bind.mp g
  have two : ∀ {l w : Expr}, ck sc x l = true → ck sc y w = true → EX X M G l ρ h fun x h1 => EX X M G w ρ h1 fun y h2 => ∃ f d, op2 h2 o x y = some (f, d) ∧ PF f d h2 := fun c1 c2 =>
    vl_ex s hb c1 (T.good_mono (fun p q => vl_ex s hb c2 (T.good_mono (fun p2 q2 => ot_good q2) (fun _ _ _ q => q) (good_bind.mp q))) (fun _ _ _ q => q) g1)
  simp only [ckE1] at c
  split at c
  · simp only [Bool.and_eq_true, decide_eq_true_eq] at c
    obtain ⟨c1, c2, c3⟩ := c
    exact fx_bin (bop_ok c1).1 (bop_ok c1).2 hb (two c2 c3)
  · simp only [Bool.and_eq_true, decide_eq_true_eq] at c
    obtain ⟨c1, c2, c3, c4⟩ := c
    exact fx_cmp (cop_ok c1).1 (cop_ok c1).2 hb (mark_no c4) (two c2 c3)
  · simp only [Bool.and_eq_true, decide_eq_true_eq] at c
    obtain ⟨rfl, c2, c3, c4⟩ := c
    exact fx_ix hb (ix_no c4) (two c2 c3)
  · cases c
/-- a comparison as a test -/
theorem t_cmp (s : SE M N k ck r) (hb : Bx X M N sc k G.W) {o : O2} {x y : E} {l w : Expr} {op : CmpOp} {pos : Pos} (c : ckE1 L N ck ckt sc (.op2 o x y) (.Compare l [op] [w] pos) = true) {Md : Md}
    (g : ((e_op2 Md r t ρ h o x y).bind fun p => match tru p.2.2 p.2.1 with | some b => T.ok (b, p.2.2) | none => .no).good (fun p => B p.1 p.2) (fun c pl h' => G.PX c pl ρ h')) : TX X M G (.Compare l [op] [w] pos) ρ h B := by
  have g1 := good_bind.mp (good_bind.mp g)
  simp only [ckE1, Bool.and_eq_true, decide_eq_true_eq] at c
  obtain ⟨c1, c2, c3, c4⟩ := c
  refine tx_cmp (cop_ok c1).1 (cop_ok c1).2 hb (mark_no c4) (vl_ex s hb c2 (T.good_mono (fun p q => vl_ex s hb c3 (T.good_mono (fun p2 q2 => ?_) (fun _ _ _ q => q) (good_bind.mp q))) (fun _ _ _ q => q) g1))
  obtain ⟨f, d, e1, e2⟩ := ot_good (PF := fun f d h2 => (match tru h2 d with | some b => T.ok (b, h2) | none => .no : T (Bool × Hc)).good (fun p => B p.1 p.2) (fun c pl h' => G.PX c pl ρ h')) q2
  obtain ⟨b, rfl, rfl⟩ := cop_bl c1 e1
  exact ⟨b, e1, e2⟩
theorem s_chain' (s : SE M N k ck r) (hb : Bx X M N sc k G.W) {o o' : O2} {x y z : E} {a : Expr} (c : ckE1 L N ck ckt sc (.chain o o' x y z) a = true) {Md : Md} (g : (e_chain Md r t ρ h o o' x y z).good (fun p => PF p.1 p.2.1 p.2.2) (fun c pl h' => G.PX c pl ρ h')) : FX X M G a ρ h PF := by
  simp only [ckE1] at c
  split at c
  · simp only [Bool.and_eq_true, decide_eq_true_eq] at c
    obtain ⟨c1, c2, c3, c4, c5, c6⟩ := c
    refine EX.fx (ex_chain (cop_ok c1).1 (cop_ok c1).2 (cop_ok c2).1 (cop_ok c2).2 hb (fun ho ho' => pe_chain ho ho' pe_rd pe_rd pe_rd (mark_no c6)) ?_)
    refine vl_ex s hb c3 (T.good_mono (fun p q => vl_ex s hb c4 (T.good_mono (fun p2 q2 => ?_) (fun _ _ _ q => q) (good_bind.mp q))) (fun _ _ _ q => q) (good_bind.mp g))
    split at q2
    · rename_i f e
      obtain ⟨b, rfl, hb2⟩ := cop_bl c1 e
      cases hb2
      refine ⟨true, e, ?_⟩
      rw [if_pos rfl]
      refine vl_ex s hb c5 (T.good_mono (fun p3 q3 => ?_) (fun _ _ _ q => q) (good_bind.mp q2))
      obtain ⟨f, d, e1, e2⟩ := ot_good q3
      obtain ⟨b, rfl, rfl⟩ := cop_bl c2 e1
      exact ⟨_, e1, e2⟩
    · rename_i f e
      obtain ⟨b, rfl, hb2⟩ := cop_bl c1 e
      cases hb2
      refine ⟨false, e, ?_⟩
      rw [if_neg Bool.false_ne_true]
      exact q2
    · exact q2.elim
  · cases c
theorem t_chain (s : SE M N k ck r) (hb : Bx X M N sc k G.W) {o o' : O2} {x y z : E} {a : Expr} (c : ckE1 L N ck ckt sc (.chain o o' x y z) a = true) {Md : Md}
    (g : ((e_chain Md r t ρ h o o' x y z).bind fun p => match tru p.2.2 p.2.1 with | some b => T.ok (b, p.2.2) | none => .no).good (fun p => B p.1 p.2) (fun c pl h' => G.PX c pl ρ h')) : TX X M G a ρ h B := by
  simp only [ckE1] at c
  split at c
  · simp only [Bool.and_eq_true, decide_eq_true_eq] at c
    obtain ⟨c1, c2, c3, c4, c5, c6⟩ := c
    refine tx_chain (cop_ok c1).1 (cop_ok c1).2 (cop_ok c2).1 (cop_ok c2).2 hb (fun ho ho' => pt_chain ho ho' pe_rd pe_rd pe_rd (mark_no c6)) ?_
    refine vl_ex s hb c3 (T.good_mono (fun p q => vl_ex s hb c4 (T.good_mono (fun p2 q2 => ?_) (fun _ _ _ q => q) (good_bind.mp q))) (fun _ _ _ q => q) (good_bind.mp (good_bind.mp g)))
    split at q2
    · rename_i f e
      obtain ⟨b, rfl, hb2⟩ := cop_bl c1 e
      cases hb2
      refine ⟨true, e, ?_⟩
      rw [if_pos rfl]
      refine vl_ex s hb c5 (T.good_mono (fun p3 q3 => ?_) (fun _ _ _ q => q) (good_bind.mp q2))
      obtain ⟨f, d, e1, e2⟩ := ot_good (PF := fun f d h2 => (match tru h2 d with | some b => T.ok (b, h2) | none => .no : T (Bool × Hc)).good (fun p => B p.1 p.2) (fun c pl h' => G.PX c pl ρ h')) q3
      obtain ⟨b, rfl, rfl⟩ := cop_bl c2 e1
      exact ⟨_, e1, e2⟩
    · rename_i f e
      obtain ⟨b, rfl, hb2⟩ := cop_bl c1 e
      cases hb2
      refine ⟨false, e, ?_⟩
      rw [if_neg Bool.false_ne_true]
      exact q2
    · exact q2.elim
  · cases c
/-! ### and, or, not -/
theorem ex_notT {a : Expr} {pos : Pos} (hb : Bw X M N sc) (q : EX X M G a ρ h fun d h' => ∃ b, tru h' d = some b ∧ P (.bl !b) h') : EX X M G (.UnaryOp .Not a pos) ρ h P :=
  .of (pe_notT pe_rd) fun σ w H Q eh wk sk xc k => q σ w H _ eh wk sk xc fun d z w1 H1 p e1 k1 r1 => by
    obtain ⟨b, hb1, p⟩ := p
    exact ⟨b, by rw [hb.hK]; exact truV_of k1 r1 hb1, k _ _ w1 H1 p e1 k1 (.bl _)⟩
theorem ex_andT {a b : Expr} {es : List Expr} {pos : Pos} (hb : Bw X M N sc) (q : EX X M G a ρ h fun d h' => ∃ b', tru h' d = some b' ∧ if b' = true then EX X M G (.BoolOp .And (b :: es) pos) ρ h' P else P d h') : EX X M G (.BoolOp .And (a :: b :: es) pos) ρ h P :=
  .of (pe_andT pe_rd pe_rd) fun σ w H Q eh wk sk xc k => q σ w H _ eh wk sk xc fun d z w1 H1 p e1 k1 r1 => by
    obtain ⟨b', hb1, p⟩ := p
    refine ⟨b', by rw [hb.hK]; exact truV_of k1 r1 hb1, ?_⟩
    cases b' with
    | true =>
      rw [if_pos rfl] at p ⊢
      exact p σ w1 H1 _ rfl k1 (sk.ext e1) (xc.ext e1) fun d z w2 H2 p2 e2 k2 r2 => k d z w2 H2 p2 (e1.trans e2) k2 r2
    | false =>
      rw [if_neg Bool.false_ne_true] at p ⊢
      exact k d z w1 H1 p e1 k1 r1
theorem ex_orT {a b : Expr} {es : List Expr} {pos : Pos} (hb : Bw X M N sc) (q : EX X M G a ρ h fun d h' => ∃ b', tru h' d = some b' ∧ if b' = true then P d h' else EX X M G (.BoolOp .Or (b :: es) pos) ρ h' P) : EX X M G (.BoolOp .Or (a :: b :: es) pos) ρ h P :=
  .of (pe_orT pe_rd pe_rd) fun σ w H Q eh wk sk xc k => q σ w H _ eh wk sk xc fun d z w1 H1 p e1 k1 r1 => by
    obtain ⟨b', hb1, p⟩ := p
    refine ⟨b', by rw [hb.hK]; exact truV_of k1 r1 hb1, ?_⟩
    cases b' with
    | false =>
      rw [if_neg Bool.false_ne_true] at p ⊢
      exact p σ w1 H1 _ rfl k1 (sk.ext e1) (xc.ext e1) fun d z w2 H2 p2 e2 k2 r2 => k d z w2 H2 p2 (e1.trans e2) k2 r2
    | true =>
      rw [if_pos rfl] at p ⊢
      exact k d z w1 H1 p e1 k1 r1
theorem andV_ex (s : SE M N k ck r) (hb : Bx X M N sc k G.W) {pos : Pos} : ∀ {es : List E} {as : List Expr} {h : Hc}, all2 (ck sc) es as = true → (andV r es ρ h).good (fun p => PF p.1 p.2.1 p.2.2) (fun c pl h' => G.PX c pl ρ h') → EX X M G (.BoolOp .And as pos) ρ h fun d h' => PF false d h'
  | [], as, h, c, g => g.elim
  | _ :: _, [], h, c, g => by cases c
  | [e], [a], h, c, g => by
    simp only [all2, Bool.and_true] at c
    exact ex_one (vl_ex s hb c (T.good_mono (fun p q => q) (fun _ _ _ q => q) (good_bind.mp g)))
  | [e], a :: b :: as, h, c, g => by simp [all2] at c
  | e :: e2 :: es, [a], h, c, g => by simp [all2] at c
  | e :: e2 :: es, a :: b :: as, h, c, g => by
    have c' := c
    rw [all2, Bool.and_eq_true_iff] at c'
    refine ex_andT hb.toBw (vl_ex s hb c'.1 (T.good_mono (fun p q => ?_) (fun _ _ _ q => q) (good_bind.mp g)))
    split at q
    · rename_i e1
      refine ⟨true, e1, ?_⟩
      rw [if_pos rfl]
      exact andV_ex s hb c'.2 q
    · rename_i e1
      refine ⟨false, e1, ?_⟩
      rw [if_neg Bool.false_ne_true]
      exact q
    · exact q.elim
theorem orV_ex (s : SE M N k ck r) (hb : Bx X M N sc k G.W) {pos : Pos} : ∀ {es : List E} {as : List Expr} {h : Hc}, all2 (ck sc) es as = true → (orV r es ρ h).good (fun p => PF p.1 p.2.1 p.2.2) (fun c pl h' => G.PX c pl ρ h') → EX X M G (.BoolOp .Or as pos) ρ h fun d h' => PF false d h'
  | [], as, h, c, g => g.elim
  | _ :: _, [], h, c, g => by cases c
  | [e], [a], h, c, g => by
    simp only [all2, Bool.and_true] at c
    exact ex_one (vl_ex s hb c (T.good_mono (fun p q => q) (fun _ _ _ q => q) (good_bind.mp g)))
  | [e], a :: b :: as, h, c, g => by simp [all2] at c
  | e :: e2 :: es, [a], h, c, g => by simp [all2] at c
  | e :: e2 :: es, a :: b :: as, h, c, g => by
    have c' := c
    rw [all2, Bool.and_eq_true_iff] at c'
    refine ex_orT hb.toBw (vl_ex s hb c'.1 (T.good_mono (fun p q => ?_) (fun _ _ _ q => q) (good_bind.mp g)))
    split at q
    · rename_i e1
      refine ⟨false, e1, ?_⟩
      rw [if_neg Bool.false_ne_true]
      exact orV_ex s hb c'.2 q
    · rename_i e1
      refine ⟨true, e1, ?_⟩
      rw [if_pos rfl]
      exact q
    · exact q.elim
theorem andT_wx (s : STe M N k ckt t) (hb : Bx X M N sc k G.W) {pos : Pos} : ∀ {es : List E} {as : List Expr} {h : Hc}, all2 (ckt sc) es as = true → (andT t es ρ h).good (fun p => B p.1 p.2) (fun c pl h' => G.PX c pl ρ h') → WXX X M G (.BoolOp .And as pos) ρ h B
  | [], as, h, c, g => g.elim
  | _ :: _, [], h, c, g => by cases c
  | [e], [a], h, c, g => by
    simp only [all2, Bool.and_true] at c
    exact wx_and1 (s X sc G e a ρ h B hb c g)
  | [e], a :: b :: as, h, c, g => by simp [all2] at c
  | e :: e2 :: es, [a], h, c, g => by simp [all2] at c
  | e :: e2 :: es, a :: b :: as, h, c, g => by
    have c' := c
    rw [all2, Bool.and_eq_true_iff] at c'
    refine wx_and (s X sc G e a ρ h _ hb c'.1 (T.good_mono (fun p q => ?_) (fun _ _ _ q => q) (good_bind.mp g)))
    refine ⟨fun e1 => ?_, fun e1 => ?_⟩
    · rw [if_pos e1] at q
      exact andT_wx s hb c'.2 q
    · rw [if_neg (by rw [e1]; exact Bool.false_ne_true)] at q
      exact q
theorem orT_wx (s : STe M N k ckt t) (hb : Bx X M N sc k G.W) {pos : Pos} : ∀ {es : List E} {as : List Expr} {h : Hc}, all2 (ckt sc) es as = true → (orT t es ρ h).good (fun p => B p.1 p.2) (fun c pl h' => G.PX c pl ρ h') → WXX X M G (.BoolOp .Or as pos) ρ h B
  | [], as, h, c, g => g.elim
  | _ :: _, [], h, c, g => by cases c
  | [e], [a], h, c, g => by
    simp only [all2, Bool.and_true] at c
    exact wx_or1 (s X sc G e a ρ h B hb c g)
  | [e], a :: b :: as, h, c, g => by simp [all2] at c
  | e :: e2 :: es, [a], h, c, g => by simp [all2] at c
  | e :: e2 :: es, a :: b :: as, h, c, g => by
    have c' := c
    rw [all2, Bool.and_eq_true_iff] at c'
    refine wx_or (s X sc G e a ρ h _ hb c'.1 (T.good_mono (fun p q => ?_) (fun _ _ _ q => q) (good_bind.mp g)))
    refine ⟨fun e1 => ?_, fun e1 => ?_⟩
    · rw [if_neg (by rw [e1]; exact Bool.false_ne_true)] at q
      exact orT_wx s hb c'.2 q
    · rw [if_pos e1] at q
      exact q
end
end Yl

set_option maxRecDepth 100000
set_option maxHeartbeats 4000000
/-! Y13s: sorted. -/
namespace Yl
open PySem PySem.Spec PyProof.Rows L2
section
variable {prog : Program} {w : World} {A : Around} {E : Value → Shared → Prop} {s : Shared} {β : Type}
open PySem.W PySem.Calls PyProof.V in
theorem sorted_gen {R : Value → β → Prop} {enc : β → PyData} {bs : List β} {r : Value} {Q : Value → Shared → Prop}
    (coll : ∀ (R' : List Value → Shared → Prop), (∀ (h' : Heap) (tk : Nat) (vs : List Value), (∀ b o, s.heap.get? b = some o → h'.get? b = some o) → EachIs R vs bs → R' vs { s with heap := h', toks := tk }) → wpAny (model prog w) A.in1 (collect r) R' E s)
    (hr : ∀ v b, b ∈ bs → R v b → Reads s.heap v (enc b) []) (hal : AllAlike (bs.map enc)) (hk : Sortable (bs.map enc)) (hL : bs.length ≤ sizeLine) (hu : ∀ b, b ∈ bs → A.in1.units + 1 + (enc b).depth < cLine)
    (h : ∀ (h1 h' : Heap) (tk : Nat) (out : List Value) (e : Nat), (∀ b o, s.heap.get? b = some o → h1.get? b = some o) → (∀ b o, h1.get? b = some o → h'.get? b = some o) → h'.get? h1.objs.size = some { cls := .type "list", dict := none, data := .seq out.toArray e, slots := #[] } → EachIs R out (bs.mergeSort (dataLe false enc)) → Q (.ref h1.objs.size) { s with heap := h', toks := tk }) :
    wpAny (model prog w) A (call (.builtin "sorted") [r]) Q E s := by
  refine call_function_entry kind_sorted plain_sorted entry_sorted (args_sorted1 _) ?_
  unfold Builtin.«sorted»
  refine wpAny_bind (m := checkCount "sorted" 1 1 _) (wpAny_pure (wpAny_bind (coll _ fun h1 tk vs kp ev => ?_)))
  have hl : vs.length = bs.length := ev.length
  refine wpAny_bind (wpAny_newList ?_ (by rw [hl]; exact hL))
  have kp2 : ∀ b o, s.heap.get? b = some o → (h1.push { cls := .type "list", data := .seq vs.toArray }).get? b = some o := fun b o e => Heap.get?_push_of_some _ (kp b o e)
  have hD : (h1.push { cls := .type "list", data := .seq vs.toArray }).get? h1.objs.size = some (seqObj "list" vs.toArray 0) := Heap.get?_push_size _ rfl
  have er : EachIs (fun v b => ∃ as, Reads (h1.push { cls := .type "list", data := .seq vs.toArray }) v (enc b) as ∧ h1.objs.size ∉ as) vs bs := (each_mem ev).mono fun v b z => ⟨[], PyProof.Rows.Reads.keeps kp2 (hr v b z.2 z.1), by simp⟩
  have key := list_sort_data (prog := prog) (w := w) (A := A.in1) (E := E) (s := { s with heap := h1.push { cls := .type "list", data := .seq vs.toArray }, toks := tk }) (a := h1.objs.size) (n := 0) (vs := vs) (bs := bs) (enc := enc) (R := R)
    (Q := fun _ s' => Q (.ref h1.objs.size) s') hD ev er hal hk hL hu (fun out ho eo => by
      obtain ⟨e, he⟩ := sortedHeap_at (out := out.toArray) hD
      refine h h1 _ tk out e kp (fun b o q => ?_) he eo
      have q2 := Heap.get?_push_of_some ({ cls := .type "list", data := .seq vs.toArray } : Obj) q
      rw [sortedHeap_old (Nat.ne_of_lt (Heap.lt_size q)) (Heap.lt_size q2)]
      exact q2)
  refine wpAny_bind (wpAny_holding (wpAny_mono key (fun _ s' x => ?_) fun _ _ e => e))
  exact wpAny_pure ⟨_, rfl, x⟩
end
/-! ### the order -/
open PySem.W in
theorem alikeF {a b : D} (h : shF a = shF b) (hn : shF a ≠ 0) : alike (toPy a) (toPy b) = true := by
  cases a <;> first | (exact absurd rfl hn) | skip
  all_goals cases b <;> first | (cases h; done) | simp [toPy, alike]
open PySem.W in
theorem alikeFs : ∀ {xs ys : List D}, xs.map shF = ys.map shF → (∀ d ∈ xs, shF d ≠ 0) → alikeAll (toPyL xs) (toPyL ys) = true
  | [], [], _, _ => by simp [toPyL, alikeAll]
  | [], _ :: _, h, _ => by cases h
  | _ :: _, [], h, _ => by cases h
  | x :: xs, y :: ys, h, hn => by
    simp only [List.map_cons, List.cons.injEq] at h
    simp only [toPyL, alikeAll, Bool.and_eq_true]
    exact ⟨alikeF h.1 (hn x (by simp)), alikeFs h.2 fun d hd => hn d (by simp [hd])⟩
theorem shp_eq (x : D) (xs : List D) : shp (.tup (x :: xs)) = if (x :: xs).all (fun d => !Nat.beq (shF d) 0) then 3 :: (x :: xs).map shF else [] := rfl
theorem shp_tup {x : D} {xs : List D} (hn : shp (.tup (x :: xs)) ≠ []) : (∀ d ∈ x :: xs, shF d ≠ 0) ∧ shp (.tup (x :: xs)) = 3 :: (x :: xs).map shF := by
  rw [shp_eq] at hn ⊢
  by_cases h : (x :: xs).all (fun d => !Nat.beq (shF d) 0) = true
  · rw [if_pos h]
    refine ⟨fun d hd e => ?_, rfl⟩
    have := List.all_eq_true.mp h d hd
    rw [e] at this
    cases this
  · rw [if_neg h] at hn
    exact absurd rfl hn
theorem shp_cases (d : D) (hn : shp d ≠ []) : (∃ i, d = .int i) ∨ (∃ x, d = .str x) ∨ ∃ x xs, d = .tup (x :: xs) := by
  cases d <;> first | exact (hn rfl).elim | skip
  · exact .inl ⟨_, rfl⟩
  · exact .inr (.inl ⟨_, rfl⟩)
  · rename_i xs
    cases xs with
    | nil => exact absurd rfl hn
    | cons x xs => exact .inr (.inr ⟨x, xs, rfl⟩)
open PySem.W in
theorem alike_shp {a b : D} (h : shp a = shp b) (hn : shp a ≠ []) : alike (toPy a) (toPy b) = true := by
  have hm : shp b ≠ [] := by rw [← h]; exact hn
  rcases shp_cases a hn with ⟨i, rfl⟩ | ⟨x, rfl⟩ | ⟨x, xs, rfl⟩ <;> rcases shp_cases b hm with ⟨j, rfl⟩ | ⟨y, rfl⟩ | ⟨y, ys, rfl⟩
  · simp [toPy, alike]
  · cases h
  · rw [(shp_tup hm).2] at h; cases h
  · cases h
  · simp [toPy, alike]
  · rw [(shp_tup hm).2] at h; cases h
  · rw [(shp_tup hn).2] at h; cases h
  · rw [(shp_tup hn).2] at h; cases h
  · rw [(shp_tup hn).2, (shp_tup hm).2] at h
    injection h with _ h
    show alikeAll (toPyL (x :: xs)) (toPyL (y :: ys)) = true
    exact alikeFs h (shp_tup hn).1
open PySem.W in
theorem ltF_of {a b : D} (h : shF a = shF b) (hn : shF a ≠ 0) : dataLt (toPy a) (toPy b) = ltF a b := by
  cases a <;> first | (exact absurd rfl hn) | skip
  all_goals cases b <;> first | (cases h; done) | skip
  · exact dataLt_int _ _
  · rename_i x y
    show dataLt (.str (ts x)) (.str (ts y)) = _
    rw [dataLt_str, ts_list, ts_list]
    exact (txLt_iff x y).symm
theorem eqvF_of {a b : D} (h : shF a = shF b) (hn : shF a ≠ 0) : eqv a b = PyData.eqv (toPy a) (toPy b) := by
  cases a <;> first | (exact absurd rfl hn) | skip
  all_goals cases b <;> first | (cases h; done) | skip
  · simp [eqv, toPy, PyData.eqv]
  · rename_i x y
    show txBeq x y = PyData.eqv (.str (ts x)) (.str (ts y))
    rw [txBeq_iff]
    simp only [PyData.eqv]
    by_cases q : x = y
    · subst q; simp
    · rw [decide_eq_false q]
      symm
      simpa using fun z => q (ts_inj z)
open PySem.W in
theorem ltFs_of : ∀ {xs ys : List D}, xs.map shF = ys.map shF → (∀ d ∈ xs, shF d ≠ 0) → PyProof.Rows.lexLt itemOrd (keyToksAll (toPyL xs)) (keyToksAll (toPyL ys)) = ltFs xs ys
  | [], [], _, _ => by simp [toPyL, ltFs, lex_irrefl]
  | [], _ :: _, h, _ => by cases h
  | _ :: _, [], h, _ => by cases h
  | x :: xs, y :: ys, h, hn => by
    simp only [List.map_cons, List.cons.injEq] at h
    have hx := hn x (by simp)
    simp only [toPyL]
    rw [dataLt_cons (alikeF h.1 hx), ltFs_of h.2 fun d hd => hn d (by simp [hd]), ltF_of h.1 hx, ← eqvF_of h.1 hx]
    rfl
open PySem.W in
theorem lt_of {a b : D} (h : shp a = shp b) (hn : shp a ≠ []) : dataLt (toPy a) (toPy b) = ltB a b := by
  have hm : shp b ≠ [] := by rw [← h]; exact hn
  rcases shp_cases a hn with ⟨i, rfl⟩ | ⟨x, rfl⟩ | ⟨x, xs, rfl⟩ <;> rcases shp_cases b hm with ⟨j, rfl⟩ | ⟨y, rfl⟩ | ⟨y, ys, rfl⟩
  · exact ltF_of (a := .int i) (b := .int j) rfl (Nat.one_ne_zero)
  · cases h
  · rw [(shp_tup hm).2] at h; cases h
  · cases h
  · exact ltF_of (a := .str x) (b := .str y) rfl (Nat.succ_ne_zero 1)
  · rw [(shp_tup hm).2] at h; cases h
  · rw [(shp_tup hn).2] at h; cases h
  · rw [(shp_tup hn).2] at h; cases h
  · rw [(shp_tup hn).2, (shp_tup hm).2] at h
    injection h with _ h
    show dataLt (.tuple (toPyL (x :: xs))) (.tuple (toPyL (y :: ys))) = ltFs (x :: xs) (y :: ys)
    rw [dataLt_tuple]
    exact ltFs_of h (shp_tup hn).1
/-! ### the data of values, by the heap -/
def RdF : V → D → Prop
  | .int i, .int j => i = j
  | .str x, .str y => x = ts y
  | _, _ => False
def RdS (K : PySem.W.Frag) (H : Hp) : V → D → Prop
  | .int i, .int j => i = j
  | .str x, .str y => x = ts y
  | .ref t, .tup ds => ∃ vs, SqT K H t vs ∧ At RdF vs ds
  | _, _ => False

theorem reads_F {h : Heap} {x : V} {d : D} {u : Value} (r : RdF x d) (ru : RelV x u) : Reads h u (toPy d) [] := by
  cases x <;> cases d <;> first | exact r.elim | skip
  · have e : _ = _ := r
    subst e
    obtain ⟨t, rfl⟩ := ru
    exact .int _ _
  · have e : _ = _ := r
    subst e
    obtain ⟨t, rfl⟩ := ru
    exact .str _ _
theorem reads_Fs {h : Heap} : ∀ {xs : List V} {us : List Value} {ds : List D}, At RdF xs ds → Vals xs us → ReadsAll h us (toPyL ds) []
  | xs, us, [], a, rv => by
    obtain rfl := a.nil_inv
    cases rv
    exact .nil
  | xs, us, d :: ds, a, rv => by
    obtain ⟨v, vs, rfl, r1, r2⟩ := a.cons_inv
    cases rv with
    | cons h1 h2 => exact .cons (as := []) (bs := []) (reads_F r1 h1) (reads_Fs r2 h2)
section
variable {X : Cx}
theorem reads_S {pins : List (Addr × Obj)} {σ : L2.St} {H : Hp} {s : Shared} (I : Inv X pins σ H s) {x : V} {d : D} {u : Value} (r : RdS X.K H x d) (ru : RelV x u) : Reads s.heap u (toPy d) [] := by
  cases x <;> cases d <;> first | exact r.elim | skip
  · exact reads_F (x := .int _) (d := .int _) r ru
  · exact reads_F (x := .str _) (d := .str _) r ru
  · obtain ⟨vs, hq, a⟩ := r
    obtain ⟨its, rv, ⟨o, ho, hc, n, hd⟩, _⟩ := I.tuple hq
    obtain rfl : u = .ref _ := ru
    exact .tuple ho hc hd (by simpa using reads_Fs a rv)
abbrev cmpZ : V × D → V × D → Bool := fun a b => !ltB b.2 a.2
def SrcOk (K : PySem.W.Frag) (H : Hp) (zs : List (V × D)) : Prop := (∀ p ∈ zs, RdS K H p.1 p.2) ∧ sortOk (zs.map (·.2)) = true ∧ zs.length ≤ sizeLine
def rSort1 (K : PySem.W.Frag) : List V → Hp → VK → Prop := fun vs H Q => ∃ (a : Addr) (zs : List (V × D)), vs = [.ref a] ∧ (SqL K H a (zs.map (·.1)) ∨ SqT K H a (zs.map (·.1))) ∧ SrcOk K H zs ∧ ∀ p, H p = none → Q (.ref p) (upd H p (.lst ((zs.mergeSort cmpZ).map (·.1))))
def rSortT (K : PySem.W.Frag) : List V → Hp → VK → Prop := fun vs H Q => ∃ (a : Addr) (kvs : List (List Key × V)), vs = [.ref a] ∧ Rd H a (.dT kvs) ∧ ∀ bs, IsKeys H kvs bs → ∃ zs : List (V × D), zs.map (·.1) = bs.map V.ref ∧ SrcOk K H zs ∧ ∀ p, H p = none → Q (.ref p) (upd H p (.lst ((zs.mergeSort cmpZ).map (·.1))))
theorem each_vals : ∀ {zs : List (V × D)} {us : List Value}, Vals (zs.map (·.1)) us → PySem.W.EachIs (fun u p => RelV p.1 u) us zs
  | [], us, r => by cases r; exact .nil
  | z :: zs, us, r => by
    cases r with
    | cons h t => exact .cons h (each_vals t)
theorem vals_each : ∀ {zs : List (V × D)} {us : List Value}, PySem.W.EachIs (fun u (p : V × D) => RelV p.1 u) us zs → Vals (zs.map (·.1)) us
  | [], us, r => by cases r; exact .nil
  | z :: zs, us, r => by
    cases r with
    | cons h t => exact .cons h (vals_each t)
theorem sortOk_all {xs : List D} (h : sortOk xs = true) : (∀ a ∈ xs, ∀ b ∈ xs, shp a = shp b) ∧ ∀ a ∈ xs, shp a ≠ [] := by
  cases xs with
  | nil => exact ⟨fun a h => by simp at h, fun a h => by simp at h⟩
  | cons x r =>
    unfold sortOk at h
    rw [Bool.and_eq_true_iff] at h
    have h1 : shp x ≠ [] := fun e => by rw [e] at h; exact absurd h.1 (by decide)
    have h2 : ∀ a ∈ x :: r, shp a = shp x := fun a ha => by
      rcases List.mem_cons.mp ha with e | ha
      · rw [e]
      · exact eq_of_beq (List.all_eq_true.mp h.2 a ha)
    exact ⟨fun a ha b hb => (h2 a ha).trans (h2 b hb).symm, fun a ha => by rw [h2 a ha]; exact h1⟩
theorem depth_F {d : D} (h : shF d ≠ 0) : (toPy d).depth = 0 := by
  cases d <;> first | exact (h rfl).elim | simp [toPy, PyData.depth]
theorem depth_Fs : ∀ {ds : List D}, (∀ d ∈ ds, shF d ≠ 0) → PyData.depthAll (toPyL ds) = 0
  | [], _ => by simp [toPyL, PyData.depthAll]
  | d :: ds, h => by
    simp only [toPyL, PyData.depthAll]
    rw [depth_F (h d (by simp)), depth_Fs fun x hx => h x (by simp [hx])]
    rfl
theorem depth_shp {d : D} (h : shp d ≠ []) : (toPy d).depth ≤ 1 := by
  rcases shp_cases d h with ⟨i, rfl⟩ | ⟨x, rfl⟩ | ⟨x, xs, rfl⟩
  · simp [toPy, PyData.depth]
  · simp [toPy, PyData.depth]
  · show (PyData.tuple (toPyL (x :: xs))).depth ≤ 1
    simp only [PyData.depth]
    rw [depth_Fs (shp_tup h).1]
    exact Nat.le_refl _
theorem sort_core {pins : List (Addr × Obj)} {σ : L2.St} {H : Hp} {s : Shared} {Q : VK} {r : Value} {zs : List (V × D)} (I : Inv X pins σ H s) (hr : Room 0 X.A) (ok : SrcOk X.K H zs)
    (coll : ∀ (R' : List Value → Shared → Prop), (∀ (h' : Heap) (tk : Nat) (vs : List Value), (∀ b o, s.heap.get? b = some o → h'.get? b = some o) → PySem.W.EachIs (fun u (p : V × D) => RelV p.1 u) vs zs → R' vs { s with heap := h', toks := tk }) → wpAny (model X.prog X.w) X.A.in1 (collect r) R' X.xe s)
    (q : ∀ p, H p = none → Q (.ref p) (upd H p (.lst ((zs.mergeSort cmpZ).map (·.1))))) : wpAny (model X.prog X.w) X.A (call (.builtin "sorted") [r]) (EP X pins σ Q) X.xe s := by
  obtain ⟨ok1, ok2, ok3⟩ := ok
  obtain ⟨sh1, sh2⟩ := sortOk_all ok2
  have mem : ∀ p ∈ zs, p.2 ∈ zs.map (·.2) := fun p hp => List.mem_map.mpr ⟨p, hp, rfl⟩
  have hal : PySem.W.AllAlike (zs.map fun p => toPy p.2) := fun d hd d' hd' => by
    obtain ⟨p, hp, rfl⟩ := List.mem_map.mp hd
    obtain ⟨p', hp', rfl⟩ := List.mem_map.mp hd'
    exact alike_shp (sh1 _ (mem p hp) _ (mem p' hp')) (sh2 _ (mem p hp))
  have hk : PySem.W.Sortable (zs.map fun p => toPy p.2) := by
    cases zs with
    | nil => exact .inl fun d hd => by simp at hd
    | cons p0 zs =>
      rcases shp_cases p0.2 (sh2 _ (mem p0 (by simp))) with ⟨i, e⟩ | ⟨x, e⟩ | ⟨x, xs, e⟩
      · refine .inr fun d hd => ?_
        obtain ⟨p, hp, rfl⟩ := List.mem_map.mp hd
        have h1 := sh1 _ (mem p hp) _ (mem p0 (by simp))
        rw [e] at h1
        rcases shp_cases p.2 (sh2 _ (mem p hp)) with ⟨j, e2⟩ | ⟨y, e2⟩ | ⟨y, ys, e2⟩
        · rw [e2]; exact ⟨(fun z => nomatch z), (fun xs z => nomatch z)⟩
        · rw [e2]; exact ⟨(fun z => nomatch z), (fun xs z => nomatch z)⟩
        · have h2 := sh2 _ (mem p hp)
          rw [e2] at h1 h2
          rw [(shp_tup h2).2] at h1
          cases h1
      · refine .inr fun d hd => ?_
        obtain ⟨p, hp, rfl⟩ := List.mem_map.mp hd
        have h1 := sh1 _ (mem p hp) _ (mem p0 (by simp))
        rw [e] at h1
        rcases shp_cases p.2 (sh2 _ (mem p hp)) with ⟨j, e2⟩ | ⟨y, e2⟩ | ⟨y, ys, e2⟩
        · rw [e2]; exact ⟨(fun z => nomatch z), (fun xs z => nomatch z)⟩
        · rw [e2]; exact ⟨(fun z => nomatch z), (fun xs z => nomatch z)⟩
        · have h2 := sh2 _ (mem p hp)
          rw [e2] at h1 h2
          rw [(shp_tup h2).2] at h1
          cases h1
      · refine .inl fun d hd => ?_
        obtain ⟨p, hp, rfl⟩ := List.mem_map.mp hd
        have h1 := sh1 _ (mem p hp) _ (mem p0 (by simp))
        have h0 := sh2 _ (mem p0 (by simp))
        rw [e] at h1 h0
        rw [(shp_tup h0).2] at h1
        rcases shp_cases p.2 (sh2 _ (mem p hp)) with ⟨j, e2⟩ | ⟨y, e2⟩ | ⟨y, ys, e2⟩
        · rw [e2] at h1; cases h1
        · rw [e2] at h1; cases h1
        · rw [e2]; exact ⟨_, _, rfl⟩
  have hu := hr.un
  refine sorted_gen (R := fun u (p : V × D) => RelV p.1 u) (enc := fun p => toPy p.2) (bs := zs) coll (fun v p hp rv => reads_S I (ok1 p hp) rv) hal hk ok3 (fun p hp => ?_) (fun h1 h' tk out e kp1 kp2 hD eo => ?_)
  · have := depth_shp (sh2 _ (mem p hp))
    show X.A.in1.units + 1 + _ < cLine
    have e1 : X.A.in1.units ≤ X.A.units + 1 := by first | exact Nat.le_refl _ | (show X.A.units + 1 ≤ _; exact Nat.le_refl _)
    omega
  · have ec : zs.mergeSort (PySem.W.dataLe false fun p => toPy p.2) = zs.mergeSort cmpZ := by
      have := List.map_mergeSort (r := PySem.W.dataLe false fun p : V × D => toPy p.2) (s := cmpZ) (f := id) (l := zs) fun a ha b hb => by
        rw [PySem.W.dataLe_eq]
        show (!PySem.W.dataLt (toPy b.2) (toPy a.2)) = !ltB b.2 a.2
        rw [lt_of (sh1 _ (mem b hb) _ (mem a ha)) (sh2 _ (mem b hb))]
      simpa using this
    rw [ec] at eo
    have rv := vals_each eo
    have hl : (zs.mergeSort cmpZ).length = zs.length := List.length_mergeSort _
    have J : Inv X pins σ H { s with heap := h1, toks := tk } := I.kept kp1
    exact ⟨.ref h1.objs.size, _, J.laid (t' := tk) kp2 (Nat.le_refl _) (show ObjOk X.prog X.w _ h' _ (.lst _) from ⟨by rw [List.length_map, hl]; exact ok3, out, e, rv, hD⟩), rfl, q _ (J.hok.fresh (Nat.le_refl _))⟩

theorem cr_sort1 (hr : Room 0 X.A) (hcalm : X.calm = true) : CallR X (.builtin "sorted") (rSort1 X.K) := by
  intro pins s σ H vs us Q I rv h
  obtain ⟨a, zs, rfl, hs, ok, q⟩ := h
  obtain ⟨u, rfl, ru⟩ := vals1 rv
  obtain rfl : u = Value.ref a := ru
  refine sort_core I hr ok (fun R' hR => ?_) q
  rcases hs with hs | hs
  · obtain ⟨its, rv, pl, hz⟩ := I.list hs
    obtain ⟨o, ho, hc, n, hd⟩ := pl.isList
    refine wpAny_collect_seq a (.inl rfl) ho hc hd (fun h' kp => ?_) (by simpa [← rv.length] using ok.2.2)
    have := hR h' s.toks its kp (each_vals rv)
    simpa using this
  · obtain ⟨its, rv, pl, hz⟩ := I.tuple hs
    obtain ⟨o, ho, hc, n, hd⟩ := pl
    refine wpAny_collect_seq a (.inr rfl) ho hc hd (fun h' kp => ?_) (by simpa [← rv.length] using ok.2.2)
    have := hR h' s.toks its kp (each_vals rv)
    simpa using this

theorem acc_refs {es : Array DictEntry} {ks : List (List Key × Addr × Value)} {acc : Array Value} (he : True) (l1 : es.size = ks.length) (ea : ∀ (j : Nat) en, es[j]? = some en → ∃ b, ks[j]? = some b ∧ en.key = Value.ref b.2.1)
    (it : ItemsOf (fun i v => ∃ en : DictEntry, es[i]? = some en ∧ v = en.key) acc es.size) : acc.toList = (ks.map fun x => x.2.1).map Value.ref := by
  refine List.ext_getElem? fun j => ?_
  rw [List.getElem?_map, List.getElem?_map]
  cases hj : acc.toList[j]? with
  | none =>
    have h1 := List.getElem?_eq_none_iff.mp hj
    rw [Array.length_toList, it.1, l1] at h1
    rw [List.getElem?_eq_none h1]; rfl
  | some v =>
    obtain ⟨en, h1, rfl⟩ := it.2 j v (by rw [← Array.getElem?_toList]; exact hj)
    obtain ⟨b, h2, h3⟩ := ea j en h1
    rw [h2, h3]; rfl
theorem cr_sortT (hr : Room 0 X.A) (hcalm : X.calm = true) : CallR X (.builtin "sorted") (rSortT X.K) := by
  intro pins s σ H vs us Q I rv h
  obtain ⟨a, kvs, rfl, hd, hz⟩ := h
  obtain ⟨u, rfl, ru⟩ := vals1 rv
  obtain rfl : u = Value.ref a := ru
  obtain ⟨z, lo, ks, pr, o, es, ep, ho, hx, hdt, he, hn⟩ := (show ObjOk X.prog X.w H s.heap a (.dT kvs) from hd.ok I.hok)
  have hl : es.size = ks.length := size_of_entries he
  have hk : kvs.length = ks.length := Paired.length pr
  obtain ⟨zs, e1, ok, q⟩ := hz _ (isKeys_of pr)
  refine sort_core I hr ok (fun R' hR => PySem.W.kdu_collect (A := X.A.in1) (kdl_raw lo hx hdt) (I.ok.hd hcalm) ho (by omega) fun h' tk acc kp it => ?_) q
  have ea := acc_refs True.intro hl (fun j en hj => by
    have z := entry_at he j
    rw [hj] at z
    cases hb : ks[j]? with
    | none => rw [hb] at z; cases z
    | some b => rw [hb] at z; cases z; exact ⟨b, rfl, rfl⟩) it
  refine hR h' tk acc.toList kp (each_vals ?_)
  rw [e1, ea]
  exact vals_refs _
end
/-! ### from data -/
theorem rdF_of {M : Mx} {F : Hp} {m : List Addr} {v : V} {d : D} (r : Rep M F m v d) (h : shF d ≠ 0) : RdF v d := by
  cases r <;> first | exact (h rfl).elim | exact rfl
theorem rdS_of {M : Mx} {w : Wd} {H : Hp} {v : V} {d : D} (wk : WOk M w H) (r : Rep M w.F w.m v d) (h : shp d ≠ []) : RdS M.K H v d := by
  rcases shp_cases d h with ⟨i, rfl⟩ | ⟨x, rfl⟩ | ⟨x, xs, rfl⟩
  · rw [r.int_inv]; exact rfl
  · rw [r.str_inv]; exact rfl
  · obtain ⟨a, vs, rfl, ha, rl⟩ := r.tup_inv
    refine ⟨vs, sqT_of wk.le ha, rl.1, fun i v d e f => rdF_of (rl.2 i v d e f) ((shp_tup h).1 d (List.mem_of_getElem? f))⟩
theorem zip_fst {vs : List V} {ds : List D} (h : vs.length = ds.length) : (vs.zip ds).map (·.1) = vs := List.map_fst_zip (by omega)
theorem zip_snd {vs : List V} {ds : List D} (h : vs.length = ds.length) : (vs.zip ds).map (·.2) = ds := List.map_snd_zip (by omega)
theorem rep_zip {M : Mx} {F : Hp} {m : List Addr} {vs : List V} {ds : List D} (rl : RepL M F m vs ds) {p : V × D} (hp : p ∈ vs.zip ds) : Rep M F m p.1 p.2 := by
  obtain ⟨i, hi, e⟩ := List.getElem_of_mem hp
  have h1 : (vs.zip ds)[i]? = some p := by rw [List.getElem?_eq_getElem hi, e]
  rw [List.getElem?_zip_eq_some] at h1
  exact rl.2 i p.1 p.2 h1.1 h1.2
theorem srcOk_of {M : Mx} {w : Wd} {H : Hp} {vs : List V} {ds : List D} (wk : WOk M w H) (rl : RepL M w.F w.m vs ds) (h : sortOk ds = true) (hl : ds.length ≤ lim) : SrcOk M.K H (vs.zip ds) := by
  have e2 := zip_snd rl.1
  refine ⟨fun p hp => ?_, by rw [e2]; exact h, by rw [List.length_zip, ← lim_eq]; omega⟩
  have hm : p.2 ∈ ds := by rw [← e2]; exact List.mem_map.mpr ⟨p, hp, rfl⟩
  exact rdS_of wk (rep_zip rl hp) ((sortOk_all h).2 _ hm)
theorem sort_rep {M : Mx} {F : Hp} {m : List Addr} {vs : List V} {ds : List D} (rl : RepL M F m vs ds) : RepL M F m (((vs.zip ds).mergeSort cmpZ).map (·.1)) (ds.mergeSort fun a b => !ltB b a) := by
  have e : ds.mergeSort (fun a b => !ltB b a) = ((vs.zip ds).mergeSort cmpZ).map (·.2) := by
    rw [List.map_mergeSort (s := fun a b => !ltB b a) (fun a _ b _ => rfl), zip_snd rl.1]
  rw [e]
  have : ∀ l : List (V × D), (∀ p ∈ l, Rep M F m p.1 p.2) → RepL M F m (l.map (·.1)) (l.map (·.2)) := by
    intro l
    induction l with
    | nil => intro _; exact .nil
    | cons p l ih => intro h; exact .cons (h p (by simp)) (ih fun q hq => h q (by simp [hq]))
  exact this _ fun p hp => rep_zip rl (List.mem_mergeSort.mp hp)
end Yl

set_option maxRecDepth 100000
set_option maxHeartbeats 4000000
/-! Y14: built-ins. -/
namespace Yl
open PySem PySem.Spec PyProof.Rows L2
open T (good_bind)
theorem kit_ok (K : PySem.W.Frag) (m n : Nat) (hm : m ≤ 6) (h1 : 1 ≤ n) (h2 : n ≤ 6) : PySem.W.kitOne K (.type (tyS m)) (.type (tyS n)) = some (if Nat.beq n 2 then (Nat.beq m 2 || Nat.beq m 1) else Nat.beq m n) := by
  have em : m = 0 ∨ m = 1 ∨ m = 2 ∨ m = 3 ∨ m = 4 ∨ m = 5 ∨ m = 6 := by omega
  have en : n = 1 ∨ n = 2 ∨ n = 3 ∨ n = 4 ∨ n = 5 ∨ n = 6 := by omega
  rcases em with rfl | rfl | rfl | rfl | rfl | rfl | rfl <;> rcases en with rfl | rfl | rfl | rfl | rfl | rfl <;> first | rfl | kernel_rfl
theorem callr_or {X : Cx} {f : Value} {r r' : List V → Hp → VK → Prop} (a : CallR X f r) (b : CallR X f r') : CallR X f (fun xs H Q => r xs H Q ∨ r' xs H Q) := fun pins s σ H xs us Q I rv h => h.elim (a pins s σ H xs us Q I rv) (b pins s σ H xs us Q I rv)
abbrev rLen1 (K : PySem.W.Frag) : List V → Hp → VK → Prop := fun xs H Q => ∃ x n, xs = [x] ∧ LenV K x H n ∧ Q (.int n) H
abbrev rLenK : List V → Hp → VK → Prop := fun xs H Q => ∃ (a : Addr) (kvs : List (Key × V)), xs = [V.ref a] ∧ Rd H a (.dK kvs) ∧ Q (.int kvs.length) H
abbrev rLenT' : List V → Hp → VK → Prop := fun xs H Q => ∃ (a : Addr) (kvs : List (List Key × V)), xs = [V.ref a] ∧ Rd H a (.dT kvs) ∧ Q (.int kvs.length) H
theorem call_lenK {X : Cx} : CallR X (.builtin "len") rLenK := by
  intro pins s σ H xs us Q I r h
  obtain ⟨a, kvs, rfl, ha, q⟩ := h
  obtain ⟨u, rfl, ru⟩ := vals1 r
  cases ru
  exact d_len I ha fun t s' I' => ⟨.int kvs.length, H, I', ⟨t, rfl⟩, q⟩
theorem call_lenT {X : Cx} : CallR X (.builtin "len") rLenT' := by
  intro pins s σ H xs us Q I r h
  obtain ⟨p, kvs, rfl, hp, q⟩ := h
  obtain ⟨u, rfl, rx⟩ := vals1 r
  obtain rfl : u = .ref p := rx
  obtain ⟨z, hd, ys, rel, dd⟩ := dt_rd I.hok hp
  have hl : kvs.length = ys.length := Paired.length rel
  refine call_len_dictH hd dd (by rw [← hl]; rw [sizeLine_eq] at z; omega) ?_
  rw [← hl]
  exact ⟨.int ((kvs.length : Nat) : Int), H, I.tok _, ⟨_, rfl⟩, q⟩
abbrev rListK : List V → Hp → VK → Prop := fun xs H Q => ∃ (a : Addr) (kvs : List (Key × V)), xs = [.ref a] ∧ Rd H a (.dK kvs) ∧ ∀ p, H p = none → Q (.ref p) (upd H p (.lst (kvs.map fun kv => kV kv.1)))
abbrev rListT : List V → Hp → VK → Prop := fun xs H Q => ∃ d kvs, xs = [V.ref d] ∧ Rd H d (.dT kvs) ∧ ∀ p bs, H p = none → IsKeys H kvs bs → Q (.ref p) (upd H p (.lst (bs.map V.ref)))
abbrev rListS : List V → Hp → VK → Prop := fun xs H Q => ∃ z : Str, xs = [V.str z] ∧ z.length ≤ sizeLine ∧ ∀ p, H p = none → Q (.ref p) (upd H p (.lst (z.cps.toList.map fun c => V.str ⟨#[c]⟩)))
theorem call_listS {X : Cx} (hcalm : X.calm = true) : CallR X (.type "list") rListS := by
  intro pins s σ H xs us Q I r q
  obtain ⟨z, rfl, hz, q⟩ := q
  obtain ⟨u, rfl, ru⟩ := vals1 r
  obtain ⟨t, rfl⟩ := ru
  refine PySem.call_list_str (I.ok.hd hcalm) z t (fun h' tk acc' c' kp e it => ?_) (by exact hz)
  have hv : Vals (z.cps.toList.map fun c => V.str ⟨#[c]⟩) acc'.toList := by
    refine vals_of_at (by rw [List.length_map, Array.length_toList, Array.length_toList, it.1]) fun j x u h1 h2 => ?_
    obtain ⟨c, t', hc, rfl⟩ := it.2 j u (by rw [← Array.getElem?_toList]; exact h2)
    rw [List.getElem?_map] at h1
    have : z.cps.toList[j]? = some c := by rw [Array.getElem?_toList]; exact hc
    rw [this] at h1
    cases h1
    exact ⟨t', rfl⟩
  exact ⟨.ref s.heap.objs.size, _, I.laid (t' := tk) kp (Nat.le_refl _) (show ObjOk X.prog X.w _ h' _ (.lst _) from ⟨by rw [List.length_map]; exact hz, acc'.toList, c', hv, by rw [Array.toArray_toList]; exact e⟩), rfl, q _ (I.hok.fresh (Nat.le_refl _))⟩
abbrev rTupO (K : PySem.W.Frag) : List V → Hp → VK → Prop := fun xs H Q => ∃ p ys, xs = [.ref p] ∧ ((SqL K H p ys ∧ ∀ l, H l = none → Q (.ref l) (upd H l (.tup ys))) ∨ (SqT K H p ys ∧ Q (.ref p) H))
/-- isinstance of a locked dict of tuple keys -/
def rIsiF (K : PySem.W.Frag) : List V → Hp → VK → Prop := fun xs H Q => ∃ (a : Addr) (o : Obj) (kvs : List (List Key × V)) (c : V) (u : Value) (b : Bool), xs = [.ref a, c] ∧ H a = some (.frz o (.dT kvs)) ∧ ClsV c u ∧ PySem.W.kitOne K (.type "dict") u = some b ∧ Q (.bl b) H
theorem call_isiF {X : Cx} : CallR X (.builtin "isinstance") (rIsiF X.K) := by
  intro pins s σ H xs us Q I r h
  obtain ⟨a, o, kvs, c, u, b, rfl, hd, k, e, q⟩ := h
  obtain ⟨u1, u2, rfl, ra, rc⟩ := vals2 r
  have e2 := k.eq rc
  subst e2
  obtain rfl : u1 = Value.ref a := ra
  obtain ⟨_, hgd, hx, _⟩ := I.frzT hd
  exact PySem.W.kia_one PySem.W.kitx_dict I.kIn ⟨o, hgd, hx.1⟩ e (fun z => nomatch z) fun tk => ⟨.bl b, H, I.tok tk, rfl, q⟩
/-- dict of a list of pairs -/
def rDictP (K : PySem.W.Frag) : List V → Hp → VK → Prop := fun xs H Q => ∃ (a : Addr) (ps : List Addr) (kvs : List (Key × V)), xs = [.ref a] ∧ SqL K H a (ps.map V.ref) ∧ Paired (fun p kv => SqT K H p [kV kv.1, kv.2]) ps kvs ∧ ∀ p, H p = none → Q (.ref p) (upd H p (.dK (mergeK [] kvs)))
/-- a built-in, by name -/
def rB (K : PySem.W.Frag) : Bi → List V → Hp → VK → Prop
  | .all => rAll K
  | .len => fun xs H Q => rLen1 K xs H Q ∨ rLenK xs H Q ∨ rLenT' xs H Q
  | .int => fun xs H Q => (∃ i, xs = [.int i] ∧ Q (.int i) H) ∨ ∃ k, xs = [.bl k] ∧ Q (.int (if k then 1 else 0)) H
  | .isi => fun xs H Q => rIsi K xs H Q ∨ rIsiF K xs H Q
  | .tuple => rTupO K
  | .any => rAny K
  | .sorted => fun xs H Q => rSort1 K xs H Q ∨ rSortT K xs H Q
  | .min => fun xs H Q => rMin K xs H Q ∨ ∃ i j, xs = [.int i, .int j] ∧ Q (.int (if j < i then j else i)) H
  | .max => fun xs H Q => rMax K xs H Q ∨ ∃ i j, xs = [.int i, .int j] ∧ Q (.int (if j > i then j else i)) H
  | .str => fun xs H Q => ∃ i, xs = [.int i] ∧ i.natAbs.log2 < 1920 ∧ Q (.str (toString i)) H
  | .list => fun xs H Q => (∃ p ys, xs = [.ref p] ∧ (SqL K H p ys ∨ SqT K H p ys) ∧ ∀ l, H l = none → Q (.ref l) (upd H l (.lst ys))) ∨ rListK xs H Q ∨ rListT xs H Q ∨ rListS xs H Q
  | .dict => rDictP K
theorem bools_map : ∀ {ds : List D} {bs : List Bool}, bools ds = some bs → ds = bs.map D.bl
  | [], bs, h => by cases h; rfl
  | d :: ds, bs, h => by
    cases d <;> first | (cases h; done) | skip
    unfold bools at h
    cases e : bools ds with
    | none => rw [e] at h; cases h
    | some r =>
      rw [e] at h; cases h
      rw [bools_map e]; rfl
section
variable {M : Mx} {w : Wd} {H : Hp} {v : V} {vs : List V} {ds : List D} {d : D} {f : Bool} {Q : VK}
theorem rep_bls {F : Hp} {m : List Addr} : ∀ {bs : List Bool} {vs : List V}, RepL M F m vs (bs.map D.bl) → vs = bs.map V.bl
  | [], vs, r => r.nil_inv
  | s :: ss, vs, r => by
    obtain ⟨v, us, rfl, r1, r2⟩ := At.cons_inv (ys := ss.map D.bl) (y := .bl s) r
    rw [r1.bl_inv, rep_bls r2]; rfl
theorem rep_ints' {F : Hp} {m : List Addr} : ∀ {qs : List Int} {vs : List V}, RepL M F m vs (qs.map D.int) → vs = qs.map V.int
  | [], vs, r => r.nil_inv
  | s :: ss, vs, r => by
    obtain ⟨v, us, rfl, r1, r2⟩ := At.cons_inv (ys := ss.map D.int) (y := .int s) r
    rw [r1.int_inv, rep_ints' r2]; rfl
theorem minI_ints : ∀ {xs : List D} {i : Int}, minI xs = some i → ∃ ns : List Int, xs = ns.map D.int ∧ ns ≠ [] ∧ i ∈ ns ∧ ∀ n ∈ ns, i ≤ n
  | [], i, h => by cases h
  | [x], i, h => by
    cases x <;> first | (cases h; done) | skip
    cases h
    exact ⟨[i], rfl, by simp, by simp, by simp⟩
  | x :: y :: r, i, h => by
    cases x <;> first | (cases h; done) | skip
    rename_i j
    have h : (minI (y :: r)).map (fun k => if j ≤ k then j else k) = some i := h
    cases q : minI (y :: r) with
    | none => rw [q] at h; cases h
    | some k =>
      rw [q] at h
      obtain ⟨ns, e, h1, h2, h3⟩ := minI_ints q
      have h : (if j ≤ k then j else k) = i := Option.some.inj h
      refine ⟨j :: ns, by rw [e]; rfl, by simp, ?_, fun n hn => ?_⟩
      · split at h
        · subst h; simp
        · subst h; simp [h2]
      · rcases List.mem_cons.mp hn with e | hn
        · subst e; split at h <;> omega
        · have := h3 n hn; split at h <;> omega
theorem maxI_ints : ∀ {xs : List D} {i : Int}, maxI xs = some i → ∃ ns : List Int, xs = ns.map D.int ∧ ns ≠ [] ∧ i ∈ ns ∧ ∀ n ∈ ns, n ≤ i
  | [], i, h => by cases h
  | [x], i, h => by
    cases x <;> first | (cases h; done) | skip
    cases h
    exact ⟨[i], rfl, by simp, by simp, by simp⟩
  | x :: y :: r, i, h => by
    cases x <;> first | (cases h; done) | skip
    rename_i j
    have h : (maxI (y :: r)).map (fun k => if k ≤ j then j else k) = some i := h
    cases q : maxI (y :: r) with
    | none => rw [q] at h; cases h
    | some k =>
      rw [q] at h
      obtain ⟨ns, e, h1, h2, h3⟩ := maxI_ints q
      have h : (if k ≤ j then j else k) = i := Option.some.inj h
      refine ⟨j :: ns, by rw [e]; rfl, by simp, ?_, fun n hn => ?_⟩
      · split at h
        · subst h; simp
        · subst h; simp [h2]
      · rcases List.mem_cons.mp hn with e | hn
        · subst e; split at h <;> omega
        · have := h3 n hn; split at h <;> omega
theorem tyx_of {x : D} {n : Nat} (wk : WOk M w H) (r : Rep M w.F w.m v x) (h : tyN x = some n) : n ≤ 6 ∧ (TyX M.K H v (.type (tyS n)) ∨ (n = 6 ∧ ∃ a o kvs, v = .ref a ∧ H a = some (.frz o (.dT kvs)))) := by
  cases r <;> first | (cases h; done) | skip
  · cases h; exact ⟨by decide, .inl (.base .non)⟩
  · cases h; exact ⟨by decide, .inl (.base (.bl _))⟩
  · cases h; exact ⟨by decide, .inl (.base (.int _))⟩
  · cases h; exact ⟨by decide, .inl (.base (.str _))⟩
  · rename_i hf _ _; cases h; exact ⟨by decide, .inl (.base (.tup ((wk.le _ _ hf).2 rfl)))⟩
  · rename_i hf _ _; cases h; exact ⟨by decide, .inl (.base (.lst ((wk.le _ _ hf).2 rfl)))⟩
  · rename_i hf _ _ _
    cases h
    rcases (wk.le _ _ hf).1 with z | ⟨o, z⟩
    · exact ⟨by decide, .inl (.base (.dK z))⟩
    · exact ⟨by decide, .inl (.fDict z)⟩
  · rename_i hf _ _ _
    cases h
    rcases (wk.le _ _ hf).1 with z | ⟨o, z⟩
    · exact ⟨by decide, .inl (.base (.dT z))⟩
    · exact ⟨by decide, .inr ⟨rfl, _, o, _, rfl, z⟩⟩
theorem signs_rep {F : Hp} {m : List Addr} {z : Tx} : RepL M F m ((ts z).cps.toList.map fun c => V.str ⟨#[c]⟩) (signs z) := by
  rw [ts_list]
  induction z with
  | nil => exact .nil
  | cons c z ih => exact .cons (.str [c]) ih
theorem keys_rep {F : Hp} {m : List Addr} : ∀ {kvs : List (D × D)} {vs : List (Key × V)}, At (KR M F m) vs kvs → RepL M F m (vs.map fun kv => kV kv.1) (keysOf kvs)
  | [], vs, r => by rw [r.nil_inv]; exact .nil
  | (a, b) :: kvs, vs, r => by
    obtain ⟨⟨x, y⟩, us, rfl, r1, r2⟩ := r.cons_inv
    refine .cons ?_ (keys_rep r2)
    have : a = kD x := r1.1
    subst this
    cases x with
    | inl i => exact .int i
    | inr s =>
      show Rep M F m (.str s) (.str s.cps.toList)
      have := Rep.str (M := M) (F := F) (m := m) s.cps.toList
      rw [ts_of] at this
      exact this
theorem kDs_rep {F : Hp} {m : List Addr} : ∀ {ks : List Key}, RepL M F m (ks.map kV) (ks.map kD)
  | [] => .nil
  | x :: ks => by
    refine .cons ?_ kDs_rep
    cases x with
    | inl i => exact .int i
    | inr s =>
      show Rep M F m (.str s) (.str s.cps.toList)
      have := Rep.str (M := M) (F := F) (m := m) s.cps.toList
      rw [ts_of] at this
      exact this
/-- tuples that stand in the heap are frozen -/
theorem fz_keys : ∀ {ks : List (List Key × V)} {bs : List Addr} {kvs : List (D × D)} {w : Wd}, WOk M w H → IsKeys H ks bs → (∀ (i : Nat) v d, ks[i]? = some v → kvs[i]? = some d → d.1 = ktD v.1) → ks.length = kvs.length → ∃ w', w'.h = w.h ∧ Ext w H w' H ∧ WOk M w' H ∧ RepL M w'.F w'.m (bs.map V.ref) (keysOf kvs)
  | [], bs, kvs, w, wk, ik, hk, hl => by
    cases ik
    have : kvs = [] := List.eq_nil_of_length_eq_zero hl.symm
    subst this
    exact ⟨w, rfl, Ext.refl, wk, .nil⟩
  | k :: ks, bs, kvs, w, wk, ik, hk, hl => by
    cases ik with
    | cons h ik =>
      rename_i b bs
      cases kvs with
      | nil => cases hl
      | cons kv kvs =>
        have e1 : kv.1 = ktD k.1 := hk 0 k kv rfl rfl
        have one : ∃ w', w'.h = w.h ∧ Ext w H w' H ∧ WOk M w' H ∧ Rep M w'.F w'.m (.ref b) kv.1 := by
          rw [e1]
          cases q : w.F b with
          | some o =>
            have := (wk.le b o q).1
            have : o = .tup (k.1.map kV) := by
              rcases (wk.le b o q).1 with z | ⟨_, z⟩
              · rw [h] at z; cases z; rfl
              · rw [h] at z; cases z
            subst this
            have rr : RepL M w.F w.m (k.1.map kV) (k.1.map kD) := kDs_rep
            exact ⟨w, rfl, Ext.refl, wk, .tup q rr.1 rr.2⟩
          | none =>
            have nl : ∀ i, ¬ Live w i b := fun i l => by
              obtain ⟨⟨d, hd⟩, hm⟩ := l
              obtain ⟨a, u, h1, h2, h3, h4⟩ := wk.al i d hd
              rw [hm] at h1; cases h1
              rw [h] at h3; cases h3
              exact cell_notup h4
            obtain ⟨e, k2⟩ := ext_fz wk h q nl (.inr (.inl ⟨_, h⟩)) Ext.refl
            have rr : RepL M (upd w.F b (.tup (k.1.map kV))) w.m (k.1.map kV) (k.1.map kD) := kDs_rep
            exact ⟨w.fz b _, rfl, e, k2, .tup upd_same rr.1 rr.2⟩
        obtain ⟨w1, a1, a2, a3, a4⟩ := one
        obtain ⟨w2, b1, b2, b3, b4⟩ := fz_keys (kvs := kvs) a3 ik (fun i v d x y => hk (i + 1) v d (by simpa using x) (by simpa using y)) (by simpa using hl)
        exact ⟨w2, b1.trans a1, a2.trans b2, b3, .cons (a4.mono b2.ff b2.mm) b4⟩
theorem Fin.keysT {p : Addr} {ks : List (List Key × V)} {bs : List Addr} {kvs : List (D × D)} (k : Fin M w H true (.lst (keysOf kvs)) Q) (wk : WOk M w H) (hp : H p = none) (ik : IsKeys H ks bs) (c : At (TR M w.F w.m) ks kvs) : Q (.ref p) (upd H p (.lst (bs.map V.ref))) := by
  obtain ⟨w1, a1, a2, a3, a4⟩ := fz_keys wk ik (fun i v d x y => (c.2 i v d x y).1) c.1
  obtain ⟨e, k1⟩ := ext_lay (o := .lst (bs.map V.ref)) a3 hp
  have nl : ∀ i, ¬ Live w1 i p := fun i l => by
    obtain ⟨u, h, _⟩ := live_some a3 l
    rw [hp] at h; cases h
  exact k _ w1 _ a1 (a2.trans e) k1 ⟨rfl, p, _, rfl, upd_same, le_none a3.le hp, nl, .inl hp, a4⟩
theorem pairs_rep (wk : WOk M w H) : ∀ {xs : List D} {ps : List (D × D)} {us : List V}, pairsOf xs = some ps → ps.all (fun p => flatK p.1) = true → RepL M w.F w.m us xs →
    ∃ (as : List Addr) (kvs : List (Key × V)), us = as.map V.ref ∧ Paired (fun p kv => SqT M.K H p [kV kv.1, kv.2]) as kvs ∧ At (KR M w.F w.m) kvs ps
  | [], ps, us, h, _, r => by
    cases h
    rw [r.nil_inv]
    exact ⟨[], [], rfl, .nil, .nil⟩
  | x :: xs, ps, us, h, hk, r => by
    unfold pairsOf at h
    split at h
    · rename_i h0; cases h0
    · rename_i k v r' h0
      cases h0
      cases e : pairsOf xs with
      | none => rw [e] at h; cases h
      | some ps' =>
        rw [e] at h; cases h
        rw [List.all_cons, Bool.and_eq_true] at hk
        obtain ⟨u, us', rfl, r1, r2⟩ := At.cons_inv r
        obtain ⟨as, kvs, rfl, p1, a1⟩ := pairs_rep wk e hk.2 r2
        obtain ⟨a, vs, rfl, fa, _, rl⟩ := den_tup wk r1 (ds := [k, v]) rfl
        obtain ⟨v1, t1, rfl, q1, t1r⟩ := At.cons_inv rl
        obtain ⟨v2, t2, rfl, q2, t2r⟩ := t1r.cons_inv
        obtain rfl := t2r.nil_inv
        obtain ⟨key, rfl, rfl⟩ := key_of q1 hk.1
        exact ⟨a :: as, (key, v2) :: kvs, rfl, .cons (sqT_of wk.le fa) p1, .cons ⟨rfl, q2⟩ a1⟩
    · cases h
theorem merge_rep {F : Hp} {m : List Addr} : ∀ {kvs : List (Key × V)} {ps : List (D × D)} {acc : List (Key × V)} {ac : List (D × D)}, At (KR M F m) kvs ps → At (KR M F m) acc ac → At (KR M F m) (mergeK acc kvs) (ps.foldl (fun acc p => putD acc p.1 p.2) ac)
  | [], [], acc, ac, _, h => h
  | [], _ :: _, _, _, z, _ => absurd z.1 (by simp)
  | _ :: _, [], _, _, z, _ => absurd z.1 (by simp)
  | kv :: kvs, p :: ps, acc, ac, z, h => by
    obtain ⟨kv', kvs', e, r1, r2⟩ := At.cons_inv z
    cases e
    obtain ⟨e1, r1⟩ := r1
    have := putD_of eqv_key (k := kv.1) r1 h
    rw [← e1] at this
    show At (KR M F m) (mergeK (L2.putK acc kv.1 kv.2) kvs) (ps.foldl (fun acc p => putD acc p.1 p.2) (putD ac p.1 p.2))
    exact merge_rep r2 this
theorem dictP_ok (wk : WOk M w H) {x : D} (r1 : Rep M w.F w.m v x) (e : b_dict w.h x = some (f, d)) (k : Fin M w H f d Q) : rDictP M.K [v] H Q := by
  obtain ⟨xs, hd⟩ : ∃ xs, deref w.h x = .lst xs := by
    unfold b_dict at e
    split at e
    · exact ⟨_, by assumption⟩
    · cases e
  unfold b_dict at e
  rw [hd] at e
  have e : (pairsOf xs).bind (fun ps => if ps.all (fun p => flatK p.1) then some (true, D.dct false (ps.foldl (fun acc p => putD acc p.1 p.2) [])) else none) = some (f, d) := e
  cases q : pairsOf xs with
  | none => rw [q] at e; cases e
  | some ps =>
    rw [q] at e
    have e : (if ps.all (fun p => flatK p.1) = true then some (true, D.dct false (ps.foldl (fun acc p => putD acc p.1 p.2) [])) else none) = some (f, d) := e
    split at e
    · rename_i hk
      cases e
      obtain ⟨a, vs, rfl, ha, rl⟩ := den_lst wk r1 hd
      obtain ⟨as, kvs, rfl, p1, a1⟩ := pairs_rep wk q hk rl
      refine ⟨a, as, kvs, rfl, .inl (.inl ha), p1, fun p hp => ?_⟩
      exact k.box wk rfl hp (show Cont M w.F w.m (.dct false _) (.dK _) from ⟨rfl, merge_rep a1 .nil⟩)
    · cases e
theorem bi_ok {b : Bi} (hb : biIn b = true) (wk : WOk M w H) (rl : RepL M w.F w.m vs ds) (e : biN w.h b ds = some (f, d)) (k : Fin M w H f d Q) : rB M.K b vs H Q := by
  cases b <;> first | (cases hb; done) | skip
  · -- all
    cases ds with
    | nil => simp [biN] at e
    | cons x ds => cases ds with
      | cons y ds => simp [biN] at e
      | nil =>
        obtain ⟨v, us, rfl, r1, r2⟩ := rl.cons_inv
        obtain rfl := r2.nil_inv
        replace e : b_all w.h x = some (f, d) := e
        unfold b_all at e
        split at e
        · rename_i xs
          cases q : bools xs with
          | none => rw [q] at e; cases e
          | some bs =>
            rw [q] at e; cases e
            obtain ⟨a, u, rfl, fa, c⟩ := rep_unbox rfl r1
            cases u <;> first | exact c.elim | skip
            have := bools_map q
            subst this
            have := rep_bls c
            subst this
            exact ⟨a, bs, rfl, sqL_of wk.le fa, k.here wk (.bl _)⟩
        · cases e
  · -- any
    cases ds with
    | nil => simp [biN] at e
    | cons x ds => cases ds with
      | cons y ds => simp [biN] at e
      | nil =>
        obtain ⟨v, us, rfl, r1, r2⟩ := rl.cons_inv
        obtain rfl := r2.nil_inv
        replace e : b_any w.h x = some (f, d) := e
        unfold b_any at e
        split at e
        · rename_i xs
          cases q : bools xs with
          | none => rw [q] at e; cases e
          | some bs =>
            rw [q] at e; cases e
            obtain ⟨a, u, rfl, fa, c⟩ := rep_unbox rfl r1
            cases u <;> first | exact c.elim | skip
            have := bools_map q
            subst this
            have := rep_bls c
            subst this
            exact ⟨a, bs, rfl, sqL_of wk.le fa, k.here wk (.bl _)⟩
        · cases e
  · -- len
    cases ds with
    | nil => simp [biN] at e
    | cons x ds => cases ds with
      | cons y ds => simp [biN] at e
      | nil =>
        obtain ⟨v, us, rfl, r1, r2⟩ := rl.cons_inv
        obtain rfl := r2.nil_inv
        replace e : b_len w.h x = some (f, d) := e
        unfold b_len at e
        split at e
        · rename_i s hd
          split at e
          · rename_i hl
            cases e
            refine .inl ⟨v, s.length, rfl, ?_, k.here wk (.int _)⟩
            rw [den_str wk r1 hd]
            exact ⟨by rw [ts_len, ← lim_eq]; exact hl, (ts_len s).symm⟩
          · cases e
        · rename_i xs hd
          cases e
          obtain ⟨a, vs, rfl, ha, rl⟩ := den_lst wk r1 hd
          exact .inl ⟨_, _, rfl, .inl ⟨vs, .inl (.inl ha), rl.1.symm⟩, k.here wk (.int _)⟩
        · rename_i xs hd
          cases e
          obtain ⟨a, vs, rfl, fa, ha, rl⟩ := den_tup wk r1 hd
          exact .inl ⟨_, _, rfl, .inr ⟨vs, sqT_of wk.le fa, rl.1.symm⟩, k.here wk (.int _)⟩
        · rename_i t kvs hd
          cases e
          obtain ⟨a, u, rfl, rd, c⟩ := den_box wk r1 hd rfl
          cases u <;> first | exact c.elim | skip
          · exact .inr (.inl ⟨a, _, rfl, rd.1, by rw [c.2.1]; exact k.here wk (.int _)⟩)
          · exact .inr (.inr ⟨a, _, rfl, rd.1, by rw [c.2.1]; exact k.here wk (.int _)⟩)
        · cases e
  · -- int
    cases ds with
    | nil => simp [biN] at e
    | cons x ds => cases ds with
      | cons y ds => simp [biN] at e
      | nil =>
        obtain ⟨v, us, rfl, r1, r2⟩ := rl.cons_inv
        obtain rfl := r2.nil_inv
        replace e : b_int w.h x = some (f, d) := e
        unfold b_int at e
        split at e
        · cases e
          exact .inl ⟨_, by rw [r1.int_inv], k.here wk (.int _)⟩
        · cases e
          exact .inr ⟨_, by rw [r1.bl_inv], k.here wk (.int _)⟩
        · cases e
  · -- str
    cases ds with
    | nil => simp [biN] at e
    | cons x ds => cases ds with
      | cons y ds => simp [biN] at e
      | nil =>
        obtain ⟨v, us, rfl, r1, r2⟩ := rl.cons_inv
        obtain rfl := r2.nil_inv
        replace e : b_str w.h x = some (f, d) := e
        unfold b_str at e
        split at e
        · rename_i i
          split at e
          · rename_i hi
            cases e
            refine ⟨i, by rw [r1.int_inv], (dig_int hi.1 hi.2).2, ?_⟩
            have e2 : (V.str (toString i) : V) = V.str (ts (digits i.toNat)) := congrArg V.str (dig_int hi.1 hi.2).1
            rw [e2]
            exact k.here wk (.str _)
          · cases e
        · cases e
  · -- list
    cases ds with
    | nil => simp [biN] at e
    | cons x ds => cases ds with
      | cons y ds => simp [biN] at e
      | nil =>
        obtain ⟨v, us, rfl, r1, r2⟩ := rl.cons_inv
        obtain rfl := r2.nil_inv
        replace e : b_list w.h x = some (f, d) := e
        unfold b_list at e
        split at e
        · rename_i xs hd
          cases e
          obtain ⟨a, vs, rfl, ha, rl⟩ := den_lst wk r1 hd
          exact .inl ⟨a, vs, rfl, .inl (.inl (.inl ha)), fun p hp => k.box wk rfl hp rl⟩
        · rename_i xs hd
          cases e
          obtain ⟨a, vs, rfl, fa, ha, rl⟩ := den_tup wk r1 hd
          exact .inl ⟨a, vs, rfl, .inr (sqT_of wk.le fa), fun p hp => k.box wk rfl hp rl⟩
        · rename_i s hd
          split at e
          · rename_i hl
            cases e
            refine .inr (.inr (.inr ⟨ts s, by rw [den_str wk r1 hd], by rw [ts_len, ← lim_eq]; exact hl, fun p hp => k.box wk rfl hp (signs_rep)⟩))
          · cases e
        · rename_i t kvs hd
          cases e
          obtain ⟨a, u, rfl, rd, c⟩ := den_box wk r1 hd rfl
          cases u <;> first | exact c.elim | skip
          · exact .inr (.inl ⟨a, _, rfl, rd.1, fun p hp => k.box wk rfl hp (keys_rep c.2)⟩)
          · exact .inr (.inr (.inl ⟨a, _, rfl, rd.1, fun p bs hp ik => k.keysT wk hp ik c.2⟩))
        · cases e
  · -- tuple
    cases ds with
    | nil => simp [biN] at e
    | cons x ds => cases ds with
      | cons y ds => simp [biN] at e
      | nil =>
        obtain ⟨v, us, rfl, r1, r2⟩ := rl.cons_inv
        obtain rfl := r2.nil_inv
        replace e : b_tuple w.h x = some (f, d) := e
        unfold b_tuple at e
        split at e
        · rename_i xs hd
          cases e
          obtain ⟨a, vs, rfl, ha, rl⟩ := den_lst wk r1 hd
          exact ⟨a, vs, rfl, .inl ⟨.inl (.inl ha), fun l hl => k.tup wk hl rl⟩⟩
        · rename_i xs hd
          cases e
          obtain ⟨a, vs, rfl, fa, ha, rl⟩ := den_tup wk r1 hd
          exact ⟨a, vs, rfl, .inr ⟨sqT_of wk.le fa, k.here wk (.tup fa rl.1 rl.2)⟩⟩
        · cases e
  · -- sorted
    cases ds with
    | nil => simp [biN] at e
    | cons x ds => cases ds with
      | cons y ds => simp [biN] at e
      | nil =>
        obtain ⟨v, us, rfl, r1, r2⟩ := rl.cons_inv
        obtain rfl := r2.nil_inv
        replace e : b_sorted w.h x = some (f, d) := e
        unfold b_sorted at e
        split at e
        · rename_i xs hd
          split at e
          · rename_i hl
            rw [sortD_merge] at e
            split at e
            · rename_i hs
              cases e
              obtain ⟨a, vs, rfl, ha, rl⟩ := den_lst wk r1 hd
              exact .inl ⟨a, vs.zip xs, rfl, .inl (by rw [zip_fst rl.1]; exact .inl (.inl ha)), srcOk_of wk rl hs hl, fun p hp => k.box wk rfl hp (sort_rep rl)⟩
            · cases e
          · cases e
        · rename_i xs hd
          split at e
          · rename_i hl
            rw [sortD_merge] at e
            split at e
            · rename_i hs
              cases e
              obtain ⟨a, vs, rfl, fa, ha, rl⟩ := den_tup wk r1 hd
              exact .inl ⟨a, vs.zip xs, rfl, .inr (by rw [zip_fst rl.1]; exact sqT_of wk.le fa), srcOk_of wk rl hs hl, fun p hp => k.box wk rfl hp (sort_rep rl)⟩
            · cases e
          · cases e
        · rename_i kvs hd
          split at e
          · rename_i hl
            rw [sortD_merge] at e
            split at e
            · rename_i hs
              cases e
              obtain ⟨a, u, rfl, rd, c⟩ := den_box wk r1 hd rfl
              cases u <;> first | exact c.elim | skip
              · exact absurd c.1 (by decide)
              · refine .inr ⟨a, _, rfl, rd.1, fun bs ik => ?_⟩
                obtain ⟨w1, a1, a2, a3, a4⟩ := fz_keys wk ik (fun i v d x y => (c.2.2 i v d x y).1) c.2.1
                have e2 := zip_fst a4.1
                refine ⟨(bs.map V.ref).zip (keysOf kvs), e2, srcOk_of a3 a4 hs (by simpa [keysOf] using hl), fun p hp => ?_⟩
                obtain ⟨e3, k1⟩ := ext_lay (o := .lst ((((bs.map V.ref).zip (keysOf kvs)).mergeSort cmpZ).map (·.1))) a3 hp
                have nl : ∀ i, ¬ Live w1 i p := fun i l => by
                  obtain ⟨u, h, _⟩ := live_some a3 l
                  rw [hp] at h; cases h
                exact k _ w1 _ a1 (a2.trans e3) k1 ⟨rfl, p, _, rfl, upd_same, le_none a3.le hp, nl, .inl hp, sort_rep a4⟩
            · cases e
          · cases e
        · cases e
  · -- min
    have main1 : ∀ {x : D}, ds = [x] → b_min w.h x = some (f, d) → rB M.K .min vs H Q := by
      intro x e0 em
      subst e0
      obtain ⟨v, us, rfl, r1, r2⟩ := rl.cons_inv
      obtain rfl := r2.nil_inv
      unfold b_min at em
      split at em
      · rename_i xs hd
        cases q : minI xs with
        | none => rw [q] at em; cases em
        | some i =>
          rw [q] at em; cases em
          obtain ⟨a, vs, rfl, ha, rl⟩ := den_lst wk r1 hd
          obtain ⟨ns, rfl, hne, hm, hle⟩ := minI_ints q
          obtain rfl := rep_ints' rl
          refine .inl ⟨a, ns, rfl, .inl (.inl ha), List.length_pos_iff.mpr hne, fun m h1 h2 => ?_⟩
          have : m = i := by
            have z1 := hle m h1
            have z2 := h2 i hm
            omega
          subst this
          exact k.here wk (.int _)
      · cases em
    cases ds with
    | nil => simp [biN] at e
    | cons x ds => cases ds with
      | nil => exact main1 rfl e
      | cons y ds => cases ds with
        | cons z ds => simp [biN] at e
        | nil =>
          cases x <;> cases y <;> first | (simp [biN] at e; done) | skip
          rename_i i j
          simp only [biN, Option.some.injEq, Prod.mk.injEq] at e
          obtain ⟨rfl, rfl⟩ := e
          obtain ⟨v, us, rfl, r1, r2⟩ := rl.cons_inv
          obtain ⟨u, us, rfl, r3, r4⟩ := r2.cons_inv
          obtain rfl := r4.nil_inv
          refine .inr ⟨i, j, by rw [r1.int_inv, r3.int_inv], ?_⟩
          have := k.here wk (.int _)
          by_cases h : j < i
          · rw [if_pos h]; rw [if_neg (by omega)] at this; exact this
          · rw [if_neg h]; rw [if_pos (by omega)] at this; exact this
  · -- max
    have main1 : ∀ {x : D}, ds = [x] → b_max w.h x = some (f, d) → rB M.K .max vs H Q := by
      intro x e0 em
      subst e0
      obtain ⟨v, us, rfl, r1, r2⟩ := rl.cons_inv
      obtain rfl := r2.nil_inv
      unfold b_max at em
      split at em
      · rename_i xs hd
        cases q : maxI xs with
        | none => rw [q] at em; cases em
        | some i =>
          rw [q] at em; cases em
          obtain ⟨a, vs, rfl, ha, rl⟩ := den_lst wk r1 hd
          obtain ⟨ns, rfl, hne, hm, hle⟩ := maxI_ints q
          obtain rfl := rep_ints' rl
          refine .inl ⟨a, ns, rfl, .inl (.inl ha), List.length_pos_iff.mpr hne, fun m h1 h2 => ?_⟩
          have : m = i := by
            have z1 := hle m h1
            have z2 := h2 i hm
            omega
          subst this
          exact k.here wk (.int _)
      · cases em
    cases ds with
    | nil => simp [biN] at e
    | cons x ds => cases ds with
      | nil => exact main1 rfl e
      | cons y ds => cases ds with
        | cons z ds => simp [biN] at e
        | nil =>
          cases x <;> cases y <;> first | (simp [biN] at e; done) | skip
          rename_i i j
          simp only [biN, Option.some.injEq, Prod.mk.injEq] at e
          obtain ⟨rfl, rfl⟩ := e
          obtain ⟨v, us, rfl, r1, r2⟩ := rl.cons_inv
          obtain ⟨u, us, rfl, r3, r4⟩ := r2.cons_inv
          obtain rfl := r4.nil_inv
          refine .inr ⟨i, j, by rw [r1.int_inv, r3.int_inv], ?_⟩
          have := k.here wk (.int _)
          by_cases h : j > i
          · rw [if_pos h]; rw [if_neg (by omega)] at this; exact this
          · rw [if_neg h]; rw [if_pos (by omega)] at this; exact this
  · -- isinstance
    cases ds with
    | nil => simp [biN] at e
    | cons x ds => cases ds with
      | nil => simp [biN, bi1] at e
      | cons y ds => cases ds with
        | cons z ds => simp [biN] at e
        | nil =>
          obtain ⟨v, us, rfl, r1, r2⟩ := rl.cons_inv
          obtain ⟨u, us, rfl, r3, r4⟩ := r2.cons_inv
          obtain rfl := r4.nil_inv
          replace e : (isi x y).map (fun b => (false, D.bl b)) = some (f, d) := e
          cases q : isi x y with
          | none => rw [q] at e; cases e
          | some b =>
            rw [q] at e; cases e
            unfold isi at q
            split at q
            · rename_i n
              have main : ∀ (m : Nat), tyN x = some m → (if Nat.beq n 2 then some (Nat.beq m 2 || Nat.beq m 1) else if Nat.ble 1 n && Nat.ble n 6 then some (Nat.beq m n) else none) = some b → rIsi M.K [v, u] H Q ∨ rIsiF M.K [v, u] H Q := by
                intro m hm hq
                obtain ⟨m6, tx⟩ := tyx_of wk r1 hm
                have hn : 1 ≤ n ∧ n ≤ 6 ∧ b = (if Nat.beq n 2 then (Nat.beq m 2 || Nat.beq m 1) else Nat.beq m n) := by
                  by_cases h2 : Nat.beq n 2 = true
                  · rw [if_pos h2] at hq ⊢
                    have := Nat.eq_of_beq_eq_true h2
                    subst this
                    exact ⟨by omega, by omega, (Option.some.inj hq).symm⟩
                  · rw [if_neg h2] at hq ⊢
                    split at hq
                    · rename_i h3
                      rw [Bool.and_eq_true_iff] at h3
                      exact ⟨Nat.le_of_ble_eq_true h3.1, Nat.le_of_ble_eq_true h3.2, (Option.some.inj hq).symm⟩
                    · cases hq
                rcases tx with tx | ⟨rfl, a, o, kvs, rfl, hd⟩
                · refine .inl ⟨v, u, .type (tyS m), .type (tyS n), b, rfl, by rw [r3.ty_inv]; exact .ty _, tx, ?_, k.here wk (.bl b)⟩
                  rw [kit_ok M.K m n m6 hn.1 hn.2.1, hn.2.2]
                · refine .inr ⟨a, o, kvs, u, .type (tyS n), b, rfl, hd, by rw [r3.ty_inv]; exact .ty _, ?_, k.here wk (.bl b)⟩
                  have := kit_ok M.K 6 n (by decide) hn.1 hn.2.1
                  rw [← hn.2.2] at this
                  exact this
              cases hm : tyN x with
              | none => rw [hm] at q; cases q
              | some m => rw [hm] at q; exact main m hm q
            · cases q
  · -- dict
    cases ds with
    | nil => simp [biN] at e
    | cons x ds => cases ds with
      | cons y ds => simp [biN] at e
      | nil =>
        obtain ⟨v, us, rfl, r1, r2⟩ := rl.cons_inv
        obtain rfl := r2.nil_inv
        exact dictP_ok wk r1 e k
end
end Yl

set_option maxRecDepth 100000
set_option maxHeartbeats 4000000
/-! Y14b: more that is walked and made: keys of dicts, range with three arguments, enumerate, dict displays, list(range()). -/
namespace Yl
open PySem PySem.Spec PyProof.Rows L2
section
variable {M : Mx} {w : Wd} {H : Hp}
theorem key_rep {F : Hp} {m : List Addr} (x : Key) : Rep M F m (kV x) (kD x) := by
  cases x with
  | inl i => exact .int i
  | inr s =>
    show Rep M F m (.str s) (.str s.cps.toList)
    have := Rep.str (M := M) (F := F) (m := m) s.cps.toList
    rw [ts_of] at this
    exact this
theorem fz_key1 {ks : List Key} {b : Addr} (wk : WOk M w H) (h : H b = some (.tup (ks.map kV))) : ∃ w', w'.h = w.h ∧ Ext w H w' H ∧ WOk M w' H ∧ Rep M w'.F w'.m (.ref b) (ktD ks) := by
  cases q : w.F b with
  | some o =>
    have : o = .tup (ks.map kV) := by
      rcases (wk.le b o q).1 with z | ⟨_, z⟩
      · rw [h] at z; cases z; rfl
      · rw [h] at z; cases z
    subst this
    have rr : RepL M w.F w.m (ks.map kV) (ks.map kD) := kDs_rep
    exact ⟨w, rfl, Ext.refl, wk, .tup q rr.1 rr.2⟩
  | none =>
    have nl : ∀ i, ¬ Live w i b := fun i l => by
      obtain ⟨⟨d, hd⟩, hm⟩ := l
      obtain ⟨a, u, h1, h2, h3, h4⟩ := wk.al i d hd
      rw [hm] at h1; cases h1
      rw [h] at h3; cases h3
      exact cell_notup h4
    obtain ⟨e, k2⟩ := ext_fz wk h q nl (.inr (.inl ⟨_, h⟩)) Ext.refl
    have rr : RepL M (upd w.F b (.tup (ks.map kV))) w.m (ks.map kV) (ks.map kD) := kDs_rep
    exact ⟨w.fz b _, rfl, e, k2, .tup upd_same rr.1 rr.2⟩
theorem keysOf_get {kvs : List (D × D)} {i : Nat} {d : D} (h : (keysOf kvs)[i]? = some d) : ∃ p, kvs[i]? = some p ∧ d = p.1 := by
  unfold keysOf at h
  rw [List.getElem?_map] at h
  cases e : kvs[i]? with
  | none => rw [e] at h; cases h
  | some p => rw [e] at h; cases h; exact ⟨p, rfl, rfl⟩
theorem it_keysK {d : Addr} {o : Obj} {vs : List (Key × V)} {kvs : List (D × D)} (k : WOk M w H) (hf : w.F d = some (.dK vs)) (hd : H d = some (.frz o (.dK vs))) (c : At (KR M w.F w.m) vs kvs) : ItOk M (Itk d o vs) w H (keysOf kvs) where
  go := fun i w' H' ee kk hi => ⟨frz_kept k hf hd ee, by rw [c.1]; simpa [keysOf] using hi⟩
  stop := fun w' H' ee kk => ⟨frz_kept k hf hd ee, by rw [c.1]; simp [keysOf]⟩
  yld := fun i w' H' x H2 d' ee kk y hd' => by
    obtain ⟨rfl, key, v, hk, rfl⟩ := y
    obtain ⟨p, hp, rfl⟩ := keysOf_get hd'
    have := (c.2 i _ _ hk hp).1
    rw [this]
    exact ⟨w', rfl, Ext.refl, kk, key_rep key⟩
theorem it_keysT {d : Addr} {o : Obj} {vs : List (List Key × V)} {kvs : List (D × D)} (k : WOk M w H) (hf : w.F d = some (.dT vs)) (hd : H d = some (.frz o (.dT vs))) (c : At (TR M w.F w.m) vs kvs) : ItOk M (Itkt d o vs) w H (keysOf kvs) where
  go := fun i w' H' ee kk hi => ⟨frz_kept k hf hd ee, by rw [c.1]; simpa [keysOf] using hi⟩
  stop := fun w' H' ee kk => ⟨frz_kept k hf hd ee, by rw [c.1]; simp [keysOf]⟩
  yld := fun i w' H' x H2 d' ee kk y hd' => by
    obtain ⟨rfl, key, v, q, hk, rfl, hq⟩ := y
    obtain ⟨p, hp, rfl⟩ := keysOf_get hd'
    have := (c.2 i _ _ hk hp).1
    rw [this]
    exact fz_key1 kk hq
theorem rangeD_len : ∀ (n : Nat) (lo : Int), (rangeD lo n).length = n
  | 0, _ => rfl
  | n + 1, lo => by simp [rangeD, rangeD_len n]
theorem rangeD_get : ∀ (n : Nat) (lo : Int) (i : Nat), i < n → (rangeD lo n)[i]? = some (.int (lo - i))
  | 0, _, _, h => by omega
  | n + 1, lo, 0, _ => by simp [rangeD]
  | n + 1, lo, i + 1, h => by
    rw [rangeD, List.getElem?_cons_succ, rangeD_get n (lo - 1) i (by omega)]
    congr 2
    omega
theorem it_rngD {lo : Int} {n : Nat} : ItOk M (Itc lo (-1) n) w H (rangeD lo n) where
  go := fun i w' H' ee kk hi => by show i < n; rw [rangeD_len] at hi; exact hi
  stop := fun w' H' ee kk => by rw [rangeD_len]; exact Nat.le_refl _
  yld := fun i w1 H' x H2 d ee k y hd => by
    obtain ⟨rfl, rfl⟩ := y
    have hi : i < n := by
      have := (List.getElem?_eq_some_iff.mp hd).1
      rw [rangeD_len] at this; exact this
    rw [rangeD_get n lo i hi] at hd
    cases hd
    have e : lo + (i : Nat) * -1 = lo - i := by omega
    rw [e]
    exact ⟨w1, rfl, Ext.refl, k, .int _⟩
theorem enumD_len : ∀ (xs : List D) (n : Int), (enumD n xs).length = xs.length
  | [], _ => rfl
  | x :: xs, n => by simp [enumD, enumD_len xs]
theorem enumD_get : ∀ (xs : List D) (n : Int) (i : Nat) (d : D), (enumD n xs)[i]? = some d → ∃ x, xs[i]? = some x ∧ d = .tup [.int (n + i), x]
  | [], _, _, _, h => by cases h
  | x :: xs, n, 0, d, h => by
    simp [enumD] at h
    exact ⟨x, rfl, by rw [← h]; simp⟩
  | x :: xs, n, i + 1, d, h => by
    simp only [enumD, List.getElem?_cons_succ] at h
    obtain ⟨y, hy, e⟩ := enumD_get xs (n + 1) i d h
    refine ⟨y, by simpa using hy, ?_⟩
    rw [e]
    congr 3
    omega
theorem it_enum {a : Addr} {vs : List V} {ds : List D} (h : w.F a = some (.lst vs)) (r : RepL M w.F w.m vs ds) : ItOk M (Ite M.K a) w H (enumD 0 ds) where
  go := fun i w' H' ee kk hi => ⟨vs, vs[i]'(by rw [r.1]; rw [enumD_len] at hi; exact hi), sqL_of kk.le (ee.ff _ _ h), by simp⟩
  stop := fun w' H' ee kk => ⟨vs, sqL_of kk.le (ee.ff _ _ h), by rw [enumD_len]; exact Nat.le_of_eq r.1⟩
  yld := fun i w1 H' z H2 d ee k yy hd => by
    obtain ⟨T, x, rfl, hT, rfl, hx⟩ := yy
    obtain ⟨y, hy, rfl⟩ := enumD_get ds 0 i d hd
    have hx := hx vs (sqL_of k.le (ee.ff _ _ h))
    obtain ⟨x', hx', rx⟩ := r.get hy
    rw [hx] at hx'; cases hx'
    obtain ⟨e1, k1⟩ := ext_lay (o := .tup [.int (i : Nat), x]) k hT
    have fp := le_none k.le hT
    have nl : ∀ i, ¬ Live w1 i T := fun i l => by
      obtain ⟨u, h, _⟩ := live_some k l
      rw [hT] at h; cases h
    obtain ⟨e2, k2⟩ := ext_fz k1 upd_same fp nl (.inl hT) e1
    have e0 : (0 : Int) + (i : Nat) = (i : Nat) := by omega
    rw [e0]
    have rl : RepL M (upd w1.F T (.tup [.int (i : Nat), x])) w1.m [.int (i : Nat), x] [.int (i : Nat), y] := .cons (.int _) (.cons (rx.mono (fun a o z => sub_upd fp a o (ee.ff a o z)) ee.mm) .nil)
    exact ⟨w1.fz T _, rfl, e2, k2, .tup upd_same rl.1 rl.2⟩
end
section
variable {X : Cx} {M : Mx} {N : List Str} {sc : Scope} {k k' : Nat} {W : WX} {G : Gx} {ρ : Env} {hc : Hc} {P : D → Hc → Prop} {PF : Bool → D → Hc → Prop} {S : Out → Prop} {a b c e o tg : Expr} {es : List Expr} {x m : Str} {pos p apos : Pos} {L : List D → Hc → Prop}
theorem ix_keys (h : EX X M G e ρ hc fun d h' => ∃ t kvs, d = .dct t kvs ∧ L (keysOf kvs) h') : IX X M G tg e ρ hc L := ⟨_, pi_keys (pe_andLock pe_rd), fun σ w H R eh wk sk xc q => h σ w H _ eh wk sk xc fun d v w1 H1 p e1 k1 r1 => by
  obtain ⟨t, kvs, rfl, p⟩ := p
  obtain ⟨a, u, rfl, fa, c⟩ := rep_unbox rfl r1
  cases u <;> first | exact c.elim | skip
  · rcases (k1.le a _ fa).1 with z | ⟨ob, z⟩
    · refine .inr ⟨a, _, z, True.intro, fun od => ?_⟩
      obtain ⟨e2, k2⟩ := ext_lock (od := od) k1 fa rfl z
      exact ⟨a, od, rfl, .inl ⟨_, upd_same, q _ _ w1 _ p (e1.trans e2) k2 (it_keysK k2 fa upd_same c.2)⟩⟩
    · exact .inl ⟨a, ob, rfl, .inl ⟨_, z, q _ _ w1 H1 p e1 k1 (it_keysK k1 fa z c.2)⟩⟩
  · rcases (k1.le a _ fa).1 with z | ⟨ob, z⟩
    · refine .inr ⟨a, _, z, True.intro, fun od => ?_⟩
      obtain ⟨e2, k2⟩ := ext_lock (od := od) k1 fa rfl z
      exact ⟨a, od, rfl, .inr ⟨_, upd_same, q _ _ w1 _ p (e1.trans e2) k2 (it_keysT k2 fa upd_same c.2)⟩⟩
    · exact .inl ⟨a, ob, rfl, .inr ⟨_, z, q _ _ w1 H1 p e1 k1 (it_keysT k1 fa z c.2)⟩⟩⟩
theorem ix_range3 (hb : Bw X M N sc) (hm : M.mg "range" = none) (hg : sc.names.lookup ("range" : Str) = some .globalImplicit) (hs : starEach [a, b, c] X.env = (false, eval a X.env) :: starEach [b, c] X.env) (hpl : (backTo pos (starEach [b, c] X.env)).any (·.1) = false)
    (h : AX X M G [a, b, c] ρ hc fun ds h' => ∃ i j : Int, ds = [.int i, .int j, .int (-1)] ∧ small i = true ∧ small j = true ∧ L (rangeD i (i - j).toNat) h') : IX X M G tg (.Call (.Name "range" p) [a, b, c] [] pos) ρ hc L :=
  ⟨_, pi_range3 (hb.gl hg) (by rw [hb.hmg]; exact hm) pa_rd hs hpl, fun σ w H R eh wk sk xc q => h σ w H _ eh wk sk xc fun ds vs w1 H1 pd e1 k1 r1 => by
    obtain ⟨i, j, rfl, hi, hj, pd⟩ := pd
    obtain ⟨v1, us, rfl, r2, r1⟩ := r1.cons_inv
    obtain ⟨v2, us, rfl, r3, r1⟩ := r1.cons_inv
    obtain ⟨v3, us, rfl, r4, r1⟩ := r1.cons_inv
    obtain rfl := r1.nil_inv
    unfold small at hi hj
    simp only [Bool.and_eq_true, decide_eq_true_eq] at hi hj
    exact ⟨i, j, -1, (i - j).toNat, by rw [r2.int_inv, r3.int_inv, r4.int_inv], RgC.neg (by omega) (by omega) (by omega) (by omega), q _ _ w1 H1 pd e1 k1 it_rngD⟩⟩
theorem ix_enum {elts : List Expr} {kk : Nat} {tpos : Pos} (hb : Bw X M N sc) (hm : M.mg "enumerate" = none) (hg : sc.names.lookup ("enumerate" : Str) = some .globalImplicit) (hs : starEach [e] X.env = [(false, eval e X.env)])
    (h : EX X M G e ρ hc fun d h' => ∃ ds, d = .lst ds ∧ L (enumD 0 ds) h') : IX X M G (.Tuple elts kk tpos) (.Call (.Name "enumerate" p) [e] [] pos) ρ hc L :=
  ⟨_, pi_enum (hb.gl hg) (by rw [hb.hmg]; exact hm) (pa_rd (es := [e])) hs, fun σ w H R eh wk sk xc q => by
    have ax : AX X M G [e] ρ hc fun ds h' => ∃ d, ds = [d] ∧ ∃ ds, d = .lst ds ∧ L (enumD 0 ds) h' := ax_cons (by rw [hs]; rfl) (EX.mono h fun d h' pd => ax_nil ⟨d, rfl, pd⟩)
    refine ax σ w H _ eh wk sk xc fun ds vs w1 H1 pd e1 k1 r1 => ?_
    obtain ⟨d, rfl, zs, rfl, pd⟩ := pd
    obtain ⟨v, us, rfl, r2, r3⟩ := r1.cons_inv
    obtain rfl := r3.nil_inv
    obtain ⟨a, u, rfl, fa, c⟩ := rep_unbox rfl r2
    cases u <;> first | exact c.elim | skip
    rw [hb.hK]
    exact ⟨a, _, rfl, sqL_of k1.le fa, q _ _ w1 H1 pd e1 k1 (it_enum fa c)⟩⟩
/-! ### displays -/
theorem fx_dct0 {t : Bool} (h : PF true (.dct t []) hc) : FX X M G (.Dict [] [] pos) ρ hc PF := by
  cases t with
  | false => exact .of pe_dnewK fun σ w H Q eh wk sk xc q p hp => Fin.box (d := .dct false []) (fin_of (w1 := w) (H1 := H) Ext.refl (by rw [eh]; exact h) q) wk rfl hp (o := .dK []) ⟨rfl, .nil⟩
  | true => exact .of pe_dnewT fun σ w H Q eh wk sk xc q p hp => Fin.box (d := .dct true []) (fin_of (w1 := w) (H1 := H) Ext.refl (by rw [eh]; exact h) q) wk rfl hp (o := .dT []) ⟨rfl, .nil⟩
/-- {k: v}, the key flat -/
theorem fx_dct1 (h : EX X M G a ρ hc fun x h1 => flatK x = true ∧ EX X M G b ρ h1 fun y h2 => PF true (.dct false [(x, y)]) h2) : FX X M G (.Dict [some a] [b] pos) ρ hc PF :=
  .of (pe_disp (pps_cons pe_rd pe_rd pps_nil) rfl rfl (by simp) (by simp)) fun σ w H Q eh wk sk xc q p hp => by
    obtain ⟨e0, k0⟩ := ext_lay (o := .dK []) wk hp
    have m0 : Mine w (upd H p (.dK [])) p (.dK []) := Mine.new wk hp
    refine h σ w _ _ eh k0 (sk.ext e0) (xc.ext e0) fun x v w1 H1 p1 e1 k1 r1 => ?_
    obtain ⟨fk, p1⟩ := p1
    obtain ⟨key, rfl, rfl⟩ := key_of r1 fk
    refine p1 σ w1 H1 _ rfl k1 ((sk.ext e0).ext e1) ((xc.ext e0).ext e1) fun y u w2 H2 p2 e2 k2 r2 => ?_
    have nt : ∀ vs : List V, HO.dK [] ≠ .tup vs := fun _ z => nomatch z
    have m2 := (m0.ext nt e1).ext nt e2
    refine ⟨m2.at_, [(key, u)], rfl, by simp, ?_⟩
    have mm : mergeK [] [(key, u)] = [(key, u)] := rfl
    rw [mm]
    have e3 : Ext w H w2 (upd H2 p (.dK [(key, u)])) := ext_grow (e0.trans (e1.trans e2)) hp
    exact q true _ _ w2 _ p2 e3 (wok_grow k2 m2.fp m2.nl) ⟨rfl, p, _, rfl, upd_same, m2.fp, m2.nl, .inl hp, rfl, .cons ⟨rfl, r2⟩ .nil⟩
/-- list(range(n)) -/
theorem fx_lrange {p2 pos2 : Pos} (hb : Bx X M N sc k W) (hm : M.mg "list" = none) (hg : sc.names.lookup ("list" : Str) = some .globalImplicit) (hm2 : M.mg "range" = none) (hg2 : sc.names.lookup ("range" : Str) = some .globalImplicit)
    (hs : starEach [a] X.env = (false, eval a X.env) :: starEach [] X.env) (h : EX X M G a ρ hc fun d h' => ∃ n, d = .int n ∧ 0 ≤ n ∧ n ≤ 16777216 ∧ PF true (.lst (rangeU 0 n.toNat)) h') : FX X M G (.Call (.Name "list" p) [.Call (.Name "range" p2) [a] [] pos2] [] pos) ρ hc PF :=
  .of (pe_listRg hb.calm (hb.toBw.gl hg) (by rw [hb.hmg]; exact hm) (prg_1 (hb.toBw.gl hg2) (by rw [hb.hmg]; exact hm2) pe_rd hs) rfl) fun σ w H Q eh wk sk xc q => h σ w H _ eh wk sk xc fun d v w1 H1 pd e1 k1 r1 => by
    obtain ⟨n, rfl, h0, h1, pd⟩ := pd
    refine ⟨n, r1.int_inv, RgOk.of_le (by omega) h1 (by omega) h0, fun p hp => Fin.box (fin_of e1 pd q) k1 rfl hp ?_⟩
    refine ⟨by rw [rgV_length, rangeU_len]; simp, fun i x y hx hy => ?_⟩
    have hi : i < n.toNat := by
      have := (List.getElem?_eq_some_iff.mp hy).1
      rw [rangeU_len] at this; exact this
    rw [rangeU_get _ _ _ hi] at hy
    cases hy
    unfold rgV at hx
    rw [List.getElem?_map] at hx
    have : (List.range (n - 0).toNat)[i]? = some i := by
      rw [List.getElem?_range]
      rw [Int.sub_zero]; exact hi
    rw [this] at hx
    cases hx
    exact .int _
end
end Yl

set_option maxRecDepth 100000
set_option maxHeartbeats 4000000
/-! Y15: what is checked is computed: all expressions. -/
namespace Yl
open PySem PySem.Spec PyProof.Rows L2
open T (good_bind)
section
variable {M : Mx} {L : Lw} {N : List Str} {k : Nat} {ck ckt : CkE} {r : Ev} {t : Et} {X : Cx} {sc : Scope} {G : Gx} {ρ : Env} {h : Hc} {PF : Bool → D → Hc → Prop} {P : D → Hc → Prop} {B : Bool → Hc → Prop} {a : Expr} {md : Md}
theorem glob_ok {x : Str} (h : glob sc x = true) : sc.names.lookup x = some .globalImplicit ∧ (x == ("__debug__" : Str)) = false ∧ (x == ("__classdict__" : Str)) = false ∧ x ≠ "__name__" := by
  unfold glob kindG at h
  rw [Bool.and_eq_true_iff, decide_eq_true_eq] at h
  exact ⟨h.1, nmB_ok h.2⟩
theorem s_bi (F : Fac M L) (s : SE M N k ck r) (hb : Bx X M N sc k G.W) {b : Bi} {es : List E} (c : ckE1 L N ck ckt sc (.bi b es) a = true) (g : (e_bi md r t ρ h b es).good (fun p => PF p.1 p.2.1 p.2.2) (fun c pl h' => G.PX c pl ρ h')) : FX X M G a ρ h PF := by
  simp only [ckE1] at c
  split at c
  · rename_i x p u us pos
    simp only [Bool.and_eq_true, decide_eq_true_eq] at c
    obtain ⟨c1, c2, c3, c4, c5⟩ := c
    obtain ⟨g1, g2, g3, g4⟩ := glob_ok c3
    have hm := F.free x (by simpa using c4)
    unfold ckArgs at c5
    rw [Bool.and_eq_true_iff] at c5
    have st := c5.2
    rw [List.all_cons, Bool.and_eq_true_iff] at st
    have ax := vls_ax (U := fun ds h' => ∃ f d, PF f d h' ∧ ∀ vs w H (Q : VK), w.h = h' → WOk M w H → RepL M w.F w.m vs ds → Fin M w H f d Q → rB X.K b vs H Q) s hb c5.1 c5.2 (T.good_mono (fun p q => by
      obtain ⟨f, d, e1, e2⟩ := ot_good q
      refine ⟨f, d, e2, fun vs w H Q eh wk rl fin => ?_⟩
      rw [hb.hK]
      exact bi_ok c1 wk rl (by rw [eh]; exact e1) fin) (fun _ _ _ q => q) (good_bind.mp g))
    subst c2
    cases b <;> first | (cases c1; done) | skip
    · exact fx_callB (cr_all hb.calm) hb.toBw hm (by decide +kernel) g1 g4 g2 (star_cons us st.1) (star_all st.2) ax
    · exact fx_callB (cr_any hb.calm) hb.toBw hm (by decide +kernel) g1 g4 g2 (star_cons us st.1) (star_all st.2) ax
    · exact fx_callB (callr_or call_len (callr_or call_lenK call_lenT)) hb.toBw hm (by decide +kernel) g1 g4 g2 (star_cons us st.1) (star_all st.2) ax
    · exact fx_callTy call_int1 hb.toBw hm (by decide +kernel) g1 g4 g2 (star_cons us st.1) (star_all st.2) ax
    · exact fx_callTy call_str_int hb.toBw hm (by decide +kernel) g1 g4 g2 (star_cons us st.1) (star_all st.2) ax
    · exact fx_callTy (callr_or call_list_of (callr_or (call_listD hb.calm) (callr_or (call_list_dT hb.calm) (call_listS hb.calm)))) hb.toBw hm (by decide +kernel) g1 g4 g2 (star_cons us st.1) (star_all st.2) ax
    · exact fx_callTy call_tuple_of hb.toBw hm (by decide +kernel) g1 g4 g2 (star_cons us st.1) (star_all st.2) ax
    · exact fx_callB (callr_or (cr_sort1 (hb.room.mono (Nat.zero_le k)) hb.calm) (cr_sortT (hb.room.mono (Nat.zero_le k)) hb.calm)) hb.toBw hm (by decide +kernel) g1 g4 g2 (star_cons us st.1) (star_all st.2) ax
    · exact fx_callB (callr_or (cr_min hb.calm) (call_min2 hb.calm)) hb.toBw hm (by decide +kernel) g1 g4 g2 (star_cons us st.1) (star_all st.2) ax
    · exact fx_callB (callr_or (cr_max hb.calm) (call_max2 hb.calm)) hb.toBw hm (by decide +kernel) g1 g4 g2 (star_cons us st.1) (star_all st.2) ax
    · exact fx_callB (callr_or call_isi call_isiF) hb.toBw hm (by decide +kernel) g1 g4 g2 (star_cons us st.1) (star_all st.2) ax
    · exact fx_callTy (L2.call_dictP hb.calm) hb.toBw hm (by decide +kernel) g1 g4 g2 (star_cons us st.1) (star_all st.2) ax
  · cases c
theorem cst_ok {d : D} (c : ckCst d a = true) (p : P d h) : EX X M G a ρ h P := by
  unfold ckCst at c
  split at c
  · unfold ckConst at c
    split at c <;> first | (cases c; done) | skip
    · exact ex_non p
    · have := eq_of_beq c
      subst this
      exact ex_bl p
    · have := of_decide_eq_true c
      subst this
      exact ex_int p
    · have := of_decide_eq_true c
      subst this
      rename_i b
      have e := ts_of b
      have p2 : ∀ (j : Nat) (pos : Pos), EX X M G (.Constant (.str b) j pos) ρ h P := fun j pos => by
        have := ex_str (X := X) (M := M) (G := G) (ρ := ρ) (j := j) (pos := pos) (hc := h) (P := P) (i := b.cps.toList) p
        rw [e] at this
        exact this
      exact p2 _ _
  · split at c
    · have := of_decide_eq_true c
      subst this
      exact .of (pe_un un_neg pe_int) (fun σ w H Q eh wk sk xc q => ⟨_, rfl, q _ _ w H (by rw [eh]; exact p) Ext.refl wk (.int _)⟩)
    · cases c
  · cases c
theorem isStrD_ok {x : D} (h : isStrD x = true) : ∃ z, x = .str z := by
  cases x <;> first | (cases h; done) | exact ⟨_, rfl⟩
theorem cellL_ok {h : Hc} {x : D} (q : cellL h x = true) : ∃ j ds, x = .ref j ∧ h[j]? = some (some (.lst ds)) := by
  cases x with
  | ref j =>
    have q' : (match h[j]? with | some (some (.lst _)) => true | _ => false) = true := q
    cases e : h[j]? with
    | none => rw [e] at q'; cases q'
    | some o =>
      cases o with
      | none => rw [e] at q'; cases q'
      | some d =>
        rw [e] at q'
        cases d <;> first | (cases q'; done) | exact ⟨j, _, rfl, e⟩
  | _ => cases q
theorem s_me (s : SE M N k ck r) (hb : Bx X M N sc k G.W) {m : Me} {x : E} {es : List E} (c : ckE1 L N ck ckt sc (.me m x es) a = true) (g : (e_me md r t ρ h m x es).good (fun p => PF p.1 p.2.1 p.2.2) (fun c pl h' => G.PX c pl ρ h')) : FX X M G a ρ h PF := by
  simp only [ckE1] at c
  split at c
  · rename_i o n ap u pos
    have one : ∀ {m : Me} {y : E} {p : D × Hc} {Z : D → Hc → Prop}, ck sc y u = true → ((vls r [y] ρ p.2).bind fun p2 => om (me p2.2 m p.1 p2.1)).good (fun p => PF p.1 p.2.1 p.2.2) (fun c pl h' => G.PX c pl ρ h') → (∀ d h2, (∃ f d' h3, me h2 m p.1 [d] = some (f, d', h3) ∧ PF f d' h3) → Z d h2) → EX X M G u ρ p.2 Z := by
      intro m y p Z cy q z
      refine vl_ex s hb cy (T.good_mono (fun p2 q2 => ?_) (fun _ _ _ q => q) (good_bind.mp (good_bind.mp q)))
      have q3 := good_bind.mp q2
      exact z _ _ (om_good q3)
    split at c
    · simp only [Bool.and_eq_true, decide_eq_true_eq] at c
      obtain ⟨rfl, c1, c2, c3, c4, c5⟩ := c
      refine fx_split hb.toBw (star_one c3) (base_no c4) c5 (vl_ex s hb c1 (T.good_mono (fun p q => ?_) (fun _ _ _ q => q) (good_bind.mp g)))
      split at q
      · rename_i mr
        obtain ⟨z, hz⟩ := isStrD_ok mr
        refine ⟨z, hz, one c2 q fun d h2 hm => ?_⟩
        obtain ⟨f, d', h3, e1, e2⟩ := hm
        rw [hz] at e1
        replace e1 : m_split h2 (.str z) [d] = some (f, d', h3) := e1
        unfold m_split at e1
        split at e1
        · rename_i s' c' _ hx hy
          cases hx
          injection hy with hy _
          subst hy
          split at e1
          · rename_i hl
            cases e1
            exact ⟨_, rfl, hl.1, hl.2, e2⟩
          · cases e1
        · cases e1
      · exact q.elim
    · simp only [Bool.and_eq_true, decide_eq_true_eq] at c
      obtain ⟨rfl, c1, c2, c3, c4, c5⟩ := c
      refine fx_join hb.toBw (star_one c3) (base_no c4) c5 (vl_ex s hb c1 (T.good_mono (fun p q => ?_) (fun _ _ _ q => q) (good_bind.mp g)))
      split at q
      · rename_i mr
        obtain ⟨z, hz⟩ := isStrD_ok mr
        refine ⟨z, hz, one c2 q fun d h2 hm => ?_⟩
        obtain ⟨f, d', h3, e1, e2⟩ := hm
        rw [hz] at e1
        replace e1 : ((seqOf (deref h2 d)).bind txsOf).bind (fun ss => if joinOk z ss then some (false, D.str (joinT z ss), h2) else none) = some (f, d', h3) := e1
        cases e3 : seqOf (deref h2 d) with
        | none => rw [e3] at e1; cases e1
        | some ys =>
          rw [e3] at e1
          replace e1 : (txsOf ys).bind (fun ss => if joinOk z ss then some (false, D.str (joinT z ss), h2) else none) = some (f, d', h3) := e1
          cases e4 : txsOf ys with
          | none => rw [e4] at e1; cases e1
          | some ss =>
            rw [e4] at e1
            replace e1 : (if joinOk z ss then some (false, D.str (joinT z ss), h2) else none) = some (f, d', h3) := e1
            split at e1
            · rename_i hj
              cases e1
              refine ⟨ys, ss, ?_, e4, hj, e2⟩
              unfold seqOf at e3
              split at e3 <;> cases e3
              · exact .inl (by assumption)
              · exact .inr (by assumption)
            · cases e1
      · exact q.elim
    · simp only [Bool.and_eq_true, decide_eq_true_eq] at c
      obtain ⟨rfl, c1, c2, c3, c4, c5⟩ := c
      refine fx_starts hb.toBw (star_one c3) (base_no c4) c5 (vl_ex s hb c1 (T.good_mono (fun p q => ?_) (fun _ _ _ q => q) (good_bind.mp g)))
      split at q
      · rename_i mr
        obtain ⟨z, hz⟩ := isStrD_ok mr
        refine ⟨z, hz, one c2 q fun d h2 hm => ?_⟩
        obtain ⟨f, d', h3, e1, e2⟩ := hm
        rw [hz] at e1
        replace e1 : m_starts h2 (.str z) [d] = some (f, d', h3) := e1
        cases d <;> first | (cases e1; done) | skip
        cases e1
        exact ⟨_, rfl, e2⟩
      · exact q.elim
    · simp only [Bool.and_eq_true, decide_eq_true_eq] at c
      obtain ⟨rfl, c1, c2, c3, c4, c5⟩ := c
      refine fx_ends hb.toBw (star_one c3) (base_no c4) c5 (vl_ex s hb c1 (T.good_mono (fun p q => ?_) (fun _ _ _ q => q) (good_bind.mp g)))
      split at q
      · rename_i mr
        obtain ⟨z, hz⟩ := isStrD_ok mr
        refine ⟨z, hz, one c2 q fun d h2 hm => ?_⟩
        obtain ⟨f, d', h3, e1, e2⟩ := hm
        rw [hz] at e1
        replace e1 : m_ends h2 (.str z) [d] = some (f, d', h3) := e1
        cases d <;> first | (cases e1; done) | skip
        cases e1
        exact ⟨_, rfl, e2⟩
      · exact q.elim
    · simp only [Bool.and_eq_true, decide_eq_true_eq] at c
      obtain ⟨rfl, c1, c2, c3, c4, c5⟩ := c
      refine fx_app hb.toBw (base_no c4) c5 (star_cons [] c3) ?_ (vl_ex s hb c1 (T.good_mono (fun p q => ?_) (fun _ _ _ q => q) (good_bind.mp g)))
      · rw [star_one c3]; rfl
      · split at q
        · rename_i mr
          obtain ⟨j, ds0, hz, hj⟩ := cellL_ok mr
          refine ⟨j, ds0, hz, hj, one c2 q fun d h2 hm => ?_⟩
          obtain ⟨f, d', h3, e1, e2⟩ := hm
          rw [hz] at e1
          replace e1 : (match h2[j]? with | some (some (.lst xs)) => if xs.length < lim then some (false, D.non, h2.set j (some (.lst (xs ++ [d])))) else none | _ => none) = some (f, d', h3) := e1
          split at e1
          · rename_i xs hx
            split at e1
            · rename_i hl
              cases e1
              exact ⟨xs, hx, hl, e2⟩
            · cases e1
          · cases e1
        · exact q.elim
    · cases c
  · rename_i o n ap u v pos
    split at c
    · rename_i y z
      simp only [Bool.and_eq_true, decide_eq_true_eq] at c
      obtain ⟨rfl, c1, c2, c3, c4, c5, c6, c7⟩ := c
      refine fx_get hb (by rw [star_cons [v] c4, star_one c5]) (base_no c6) c7 (vl_ex s hb c1 (T.good_mono (fun p q => ?_) (fun _ _ _ q => q) (good_bind.mp g)))
      split at q
      · rename_i mr
        refine ⟨mr, vl_ex s hb c2 (T.good_mono (fun p2 q2 => ?_) (fun _ _ _ q => q) (good_bind.mp (good_bind.mp q)))⟩
        refine vl_ex s hb c3 (T.good_mono (fun p3 q3 => ?_) (fun _ _ _ q => q) (good_bind.mp (good_bind.mp q2)))
        obtain ⟨f, d', h3, e1, e2⟩ := om_good (show (om (me p3.2 Me.get p.1 [p2.1, p3.1])).good (fun p => PF p.1 p.2.1 p.2.2) (fun c pl h' => G.PX c pl ρ h') from q3)
        replace e1 : m_get p3.2 p.1 [p2.1, p3.1] = some (f, d', h3) := e1
        unfold m_get at e1
        split at e1
        · rename_i t kvs k' v' hx hy
          injection hy with h1 h2
          injection h2 with h2 _
          subst h1 h2
          split at e1
          · cases e1
            exact ⟨_, _, hx, by assumption, e2⟩
          · cases e1
        · cases e1
      · exact q.elim
    · cases c
  · rename_i o n ap pos
    split at c
    · simp only [Bool.and_eq_true, decide_eq_true_eq] at c
      obtain ⟨rfl, c1, c2, c3⟩ := c
      refine fx_pop hb.toBw (base_no c2) c3 (vl_ex s hb c1 (T.good_mono (fun p q => ?_) (fun _ _ _ q => q) (good_bind.mp g)))
      split at q
      · rename_i mr
        obtain ⟨f, d', h3, e1, e2⟩ := om_good (show (om (me p.2 Me.pop p.1 [])).good (fun p => PF p.1 p.2.1 p.2.2) (fun c pl h' => G.PX c pl ρ h') from q)
        replace e1 : m_pop p.2 p.1 [] = some (f, d', h3) := e1
        unfold m_pop at e1
        split at e1
        · rename_i j hx _
          split at e1
          · rename_i xs hj
            cases e5 : xs.getLast? with
            | none => rw [e5] at e1; cases e1
            | some d5 =>
              rw [e5] at e1; cases e1
              exact ⟨j, xs, _, hx, hj, e5, e2⟩
          · cases e1
        · cases e1
      · exact q.elim
    · cases c
  · cases c
theorem s_slice (s : SE M N k ck r) (hb : Bx X M N sc k G.W) {x : E} {lo hi : Option E} (c : ckE1 L N ck ckt sc (.slice x lo hi) a = true) (g : (e_slice md r t ρ h x lo hi).good (fun p => PF p.1 p.2.1 p.2.2) (fun c pl h' => G.PX c pl ρ h')) : FX X M G a ρ h PF := by
  simp only [ckE1] at c
  split at c
  · simp only [Bool.and_eq_true] at c
    obtain ⟨c1, c2, c3⟩ := c
    refine fx_slice hb.toBw (vl_ex s hb c1 (T.good_mono (fun p q => part_ox s hb c2 (T.good_mono (fun p2 q2 => part_ox s hb c3 (T.good_mono (fun p3 q3 => ot_good q3) (fun _ _ _ q => q) (good_bind.mp q2))) (fun _ _ _ q => q) (good_bind.mp q))) (fun _ _ _ q => q) (good_bind.mp g)))
  · cases c
/-- behind a call of a pure def -/
theorem unR_good {h : Hc} {x : T Rs} {PX : Nat → Pl → Hc → Prop} (g : (unR [] h x).good (fun p => PF p.1 p.2.1 p.2.2) PX) : x.good (fun p => p.2.1.nr = true ∧ PF p.1 p.2.1 h) (fun c pl _ => nrPl pl = true ∧ PX c pl h) := by
  induction x with
  | ok p =>
    obtain ⟨f, d, h'⟩ := p
    have g' : (if d.nr then (match wback [] h' h with | some h2 => T.ok (f, d, h2) | none => .no) else .no : T Rs).good (fun p => PF p.1 p.2.1 p.2.2) PX := g
    split at g'
    · rename_i hn
      cases h' <;> exact ⟨hn, g'⟩
    · exact g'.elim
  | ex c pl h' =>
    have g' : (if nrPl pl then (match wback [] h' h with | some h2 => T.ex c pl h2 | none => .no) else .no : T Rs).good (fun p => PF p.1 p.2.1 p.2.2) PX := g
    split at g'
    · rename_i hn
      cases h' <;> exact ⟨hn, g'⟩
    · exact g'.elim
  | no => exact g
  | dr n f ih => exact fun i hi => ih i (g i hi)
theorem s_call (A : Cls2 M L md k') (hk : k' ≤ k) (s : SE M N k ck r) (hb : Bx X M N sc k G.W) {f : Nat} {es : List E} (c : ckE1 L N ck ckt sc (.call f es) a = true) (g : (e_call md r t ρ h f es).good (fun p => PF p.1 p.2.1 p.2.2) (fun c pl h' => G.PX c pl ρ h')) : FX X M G a ρ h PF := by
  simp only [ckE1] at c
  split at c
  · rename_i x p u us pos
    simp only [Bool.and_eq_true, decide_eq_true_eq] at c
    obtain ⟨c1, c2, c3⟩ := c
    obtain ⟨g1, g2, g3, g4⟩ := glob_ok c2
    obtain ⟨ps, fc⟩ := A.fn f x c1
    unfold ckArgs at c3
    rw [Bool.and_eq_true_iff] at c3
    have st := c3.2
    rw [List.all_cons, Bool.and_eq_true_iff] at st
    refine fx_call fc hb hk g1 g2 (star_cons us st.1) (star_all st.2) (vls_ax s hb c3.1 c3.2 (T.good_mono (fun p q => ?_) (fun _ _ _ q => q) (good_bind.mp g)))
    unfold callV at q
    split at q
    · rename_i hn
      exact ⟨hn, unR_good q⟩
    · exact q.elim
  · cases c
theorem mkR_good {h : Hc} {x : T Rs} {PX : Nat → Pl → Hc → Prop} {C : Nat} (g : (mkR C h x).good (fun p => PF p.1 p.2.1 p.2.2) PX) :
    x.good (fun p => p.1 = false ∧ p.2.1 = .non ∧ ∃ fs, p.2.2 = [some (.ins C fs)] ∧ nrF fs = true ∧ PF true (.ins C fs) h) (fun c pl _ => nrPl pl = true ∧ PX c pl h) := by
  induction x with
  | ok p =>
    unfold mkR at g
    split at g
    · rename_i C' fs e
      cases e
      split at g
      · rename_i hc
        rw [Bool.and_eq_true_iff] at hc
        have := Nat.eq_of_beq_eq_true hc.1
        subst this
        exact ⟨rfl, rfl, fs, rfl, hc.2, g⟩
      · exact g.elim
    · exact g.elim
    · rename_i e; cases e
    · rename_i e; cases e
    · rename_i e; cases e
  | ex c pl h' =>
    have g' : (if nrPl pl then T.ex c pl h else .no : T Rs).good (fun p => PF p.1 p.2.1 p.2.2) PX := g
    split at g'
    · rename_i hn
      exact ⟨hn, g'⟩
    · exact g'.elim
  | no => exact g
  | dr n f ih => exact fun i hi => ih i (g i hi)
theorem calm_good {α : Type} {P : α → Prop} {PX : Nat → Pl → Hc → Prop} : ∀ {x : T α}, x.calm.good P PX → x.good P (fun _ _ _ => False)
  | .ok a, g => g
  | .ex c pl h, g => g
  | .no, g => g
  | .dr n f, g => fun i hi => calm_good (g i hi)
/-! ### targets -/
theorem gs_names {kk : Str → Bool} (hkk : ∀ x, kk x = true → Sto X sc x) (hb : Bw X M N sc) {U : List Nat} {S' : Env → Prop} : ∀ {is : List Nat} {ts : List Expr} {ds : List D} {ρ : Env}, all2 (fun i (e : Expr) => match e with | .Name x _ => decide (N[i]? = some x) && kk x | _ => false) is ts = true → (∀ i ∈ is, i ∈ U) → ds.length = is.length → S' ((is.zip ds).foldl (fun ρ p => ρ.set p.1 (some p.2)) ρ) → GS X M U ts ds ρ S'
  | [], [], ds, ρ, c, hU, hl, p => by
    have := List.eq_nil_of_length_eq_zero hl
    subst this
    exact gs_nil p
  | [], _ :: _, ds, ρ, c, hU, hl, p => by cases c
  | _ :: _, [], ds, ρ, c, hU, hl, p => by cases c
  | i :: is, t :: ts, [], ρ, c, hU, hl, p => by cases hl
  | i :: is, t :: ts, d :: ds, ρ, c, hU, hl, p => by
    rw [all2, Bool.and_eq_true_iff] at c
    obtain ⟨c1, c2⟩ := c
    split at c1
    · rename_i x pos
      simp only [Bool.and_eq_true, decide_eq_true_eq] at c1
      exact gs_cons (gx_name i hb (gs_names hkk hb c2 (fun j hj => hU j (by simp [hj])) (by simpa using hl) p) (hU i (by simp)) c1.1 (hkk _ c1.2)) rfl
    · cases c1
theorem names_star {kk : Str → Bool} {is : List Nat} : ∀ {ts : List Expr}, all2 (fun i (e : Expr) => match e with | .Name x _ => decide (N[i]? = some x) && kk x | _ => false) is ts = true → ∀ env : PySem.Env, (assignEach ts env).length = ts.length ∧ (assignEach ts env).findIdx? (·.1) = none := by
  induction is with
  | nil =>
    intro ts c env
    cases ts with
    | nil => exact ⟨rfl, rfl⟩
    | cons t ts => cases c
  | cons i is ih =>
    intro ts c env
    cases ts with
    | nil => cases c
    | cons t ts =>
      rw [all2, Bool.and_eq_true_iff] at c
      obtain ⟨c1, c2⟩ := c
      split at c1
      · rename_i x pos
        obtain ⟨h1, h2⟩ := ih c2 env
        refine ⟨?_, ?_⟩
        · show (assignEach ts env).length + 1 = _
          rw [h1]; rfl
        · show List.findIdx? (·.1) ((false, assign (.Name x pos) env) :: assignEach ts env) = none
          rw [List.findIdx?_cons, h2]; rfl
      · cases c1
theorem tg_gxK {W : WX} {kk : Str → Bool} (hkk : ∀ x, kk x = true → Sto X sc x) (hb : Bx X M N sc k W) {tg : List Nat} {tp : Bool} {te : Expr} {d : D} {ρ' : Env} {S' : Env → Prop} (c : ckTgK N kk tg tp te = true) (e : asg tg tp d ρ = some ρ') (p : S' ρ') : GX X M tg te d ρ S' := by
  unfold ckTgK at c
  split at c
  · split at c
    · simp only [Bool.and_eq_true, decide_eq_true_eq] at c
      cases e
      exact gx_name _ hb.toBw p (by simp) c.1 (hkk _ c.2)
    · cases c
  · rename_i ts n pos
    simp only [Bool.and_eq_true, decide_eq_true_eq] at c
    obtain ⟨⟨rfl, c2⟩, c3⟩ := c
    have hlen : tg.length = ts.length := by
      have : ∀ {is : List Nat} {ts : List Expr} {f : Nat → Expr → Bool}, all2 f is ts = true → is.length = ts.length := by
        intro is
        induction is with
        | nil => intro ts f c; cases ts with
          | nil => rfl
          | cons t ts => cases c
        | cons i is ih => intro ts f c; cases ts with
          | nil => cases c
          | cons t ts =>
            rw [all2, Bool.and_eq_true_iff] at c
            simp [ih c.2]
      exact this c2
    have st := names_star c2 X.env
    cases d <;> first | (cases tg <;> cases e; done) | skip
    rotate_left
    · rename_i ds
      have e' : (if ds.length == tg.length then some ((tg.zip ds).foldl (fun ρ p => ρ.set p.1 (some p.2)) ρ) else none) = some ρ' := by
        cases tg <;> exact e
      split at e'
      · rename_i hl
        cases e'
        have hl : ds.length = tg.length := by simpa using hl
        exact gx_lst hb (by rw [hl, hlen]) (gs_names hkk hb.toBw c2 (fun _ h => h) hl p) st.1 st.2
      · cases e'
    rename_i ds
    have e' : (if ds.length == tg.length then some ((tg.zip ds).foldl (fun ρ p => ρ.set p.1 (some p.2)) ρ) else none) = some ρ' := by
      cases tg <;> exact e
    split at e'
    · rename_i hl
      cases e'
      have hl : ds.length = tg.length := by simpa using hl
      have hlen : tg.length = ts.length := by
        have : ∀ {is : List Nat} {ts : List Expr} {f : Nat → Expr → Bool}, all2 f is ts = true → is.length = ts.length := by
          intro is
          induction is with
          | nil => intro ts f c; cases ts with
            | nil => rfl
            | cons t ts => cases c
          | cons i is ih => intro ts f c; cases ts with
            | nil => cases c
            | cons t ts =>
              rw [all2, Bool.and_eq_true_iff] at c
              simp [ih c.2]
        exact this c2
      have st := names_star c2 X.env
      exact gx_tup hb (by rw [hl, hlen]) (gs_names hkk hb.toBw c2 (fun _ h => h) hl p) st.1 st.2
    · cases e'
  · cases c
theorem tg_gx {W : WX} (hb : Bx X M N sc k W) {tg : List Nat} {tp : Bool} {te : Expr} {d : D} {ρ' : Env} {S' : Env → Prop} (c : ckTg N sc tg tp te = true) (e : asg tg tp d ρ = some ρ') (p : S' ρ') : GX X M tg te d ρ S' :=
  tg_gxK (kk := fun x => decide (sc.names.lookup x = some .local)) (fun x h => .inl (of_decide_eq_true h)) hb c e p
theorem tg_gxS {W : WX} (fn : ∀ x, X.fn x = true) (hb : Bx X M N sc k W) {tg : List Nat} {tp : Bool} {te : Expr} {d : D} {ρ' : Env} {S' : Env → Prop} (c : ckTgS N sc tg tp te = true) (e : asg tg tp d ρ = some ρ') (p : S' ρ') : GX X M tg te d ρ S' :=
  tg_gxK (kk := kindS sc) (fun x h => kindS_ok fn h) hb c e p
end
end Yl

set_option maxRecDepth 100000
set_option maxHeartbeats 4000000
/-! Y15b: what is checked is computed: own classes, texts put together, cells handed over. -/
namespace Yl
open PySem PySem.Spec PyProof.Rows L2
open T (good_bind)
section
variable {M : Mx} {L : Lw} {N : List Str} {k k' : Nat} {ck ckt : CkE} {r : Ev} {t : Et} {X : Cx} {sc : Scope} {G : Gx} {ρ : Env} {h : Hc} {PF : Bool → D → Hc → Prop} {P : D → Hc → Prop} {B : Bool → Hc → Prop} {a : Expr} {md : Md}
theorem ofT {α : Type} {x : T α} {A A' : α → Prop} {E E' : Nat → Pl → Hc → Prop} (g : x.good A E) (h : ∀ a, A a → A' a) (h' : ∀ c pl h, E c pl h → E' c pl h) : x.good A' E' := T.good_mono h h' g
theorem s_fld (F : Fac M L) (s : SE M N k ck r) (hb : Bx X M N sc k G.W) {C : Nat} {x : E} {n : Tx} (c : ckE1 L N ck ckt sc (.fld C x n) a = true) (g : (e_fld md r t ρ h C x n).good (fun p => PF p.1 p.2.1 p.2.2) (fun c pl h' => G.PX c pl ρ h')) : FX X M G a ρ h PF := by
  simp only [ckE1] at c
  split at c
  · simp only [Bool.and_eq_true, decide_eq_true_eq] at c
    obtain ⟨rfl, c1, c2, c3, c4⟩ := c
    refine EX.fx (fx_fld hb.toBw (base_no c2) (vl_ex s hb c1 (ofT (good_bind.mp g) (fun p q => ?_) (fun _ _ _ q => q))))
    split at q
    · rename_i C1 fs hd
      split at q
      · rename_i hC
        have := Nat.eq_of_beq_eq_true hC
        subst this
        split at q
        · exact ⟨_, fs, _, hd, F.plain _ (by simpa using c3), F.noat (_, n) (by simpa using c4), by assumption, q⟩
        · exact q.elim
      · exact q.elim
    · exact q.elim
  · cases c
theorem fs_jx (s : SE M N k ck r) (hb : Bx X M N sc k G.W) {U : Tx → Hc → Prop} : ∀ {es : List E} {as : List Expr} {acc : Tx} {h : Hc}, all2 (ck sc) es as = true → (fsGo r es acc ρ h).good (fun p => U p.1 p.2) (fun c pl h' => G.PX c pl ρ h') → JX X M G as acc ρ h U
  | [], [], acc, h, _, g => jx_nil g
  | [], _ :: _, _, _, c, _ => by cases c
  | _ :: _, [], _, _, c, _ => by cases c
  | e :: es, a :: as, acc, h, c, g => by
    rw [all2, Bool.and_eq_true_iff] at c
    refine jx_cons (vl_ex s hb c.1 (ofT (good_bind.mp g) (fun p q => ?_) (fun _ _ _ q => q)))
    split at q
    · rename_i y hy
      split at q
      · rename_i hl
        exact ⟨y, hy, hl, fs_jx s hb c.2 q⟩
      · exact q.elim
    · exact q.elim
theorem s_fs (s : SE M N k ck r) (hb : Bx X M N sc k G.W) {es : List E} (c : ckE1 L N ck ckt sc (.fs es) a = true) (g : (e_fs r ρ h es).good (fun p => PF p.1 p.2.1 p.2.2) (fun c pl h' => G.PX c pl ρ h')) : FX X M G a ρ h PF := by
  simp only [ckE1] at c
  split at c
  · exact EX.fx (ex_joined (fs_jx s hb (U := fun x h1 => PF false (.str x) h1) c (ofT (good_bind.mp g) (fun p q => q) (fun _ _ _ q => q))))
  · cases c
theorem s_fmt (s : SE M N k ck r) (hb : Bx X M N sc k G.W) {x : E} (c : ckE1 L N ck ckt sc (.fmt x) a = true) (g : (e_fmt r ρ h x).good (fun p => PF p.1 p.2.1 p.2.2) (fun c pl h' => G.PX c pl ρ h')) : FX X M G a ρ h PF := by
  simp only [ckE1] at c
  split at c
  · refine EX.fx (ex_fmt (vl_ex s hb c (ofT (good_bind.mp g) (fun p q => ?_) (fun _ _ _ q => q))))
    split at q
    · split at q
      · exact .inl ⟨_, by assumption, by assumption, q⟩
      · exact q.elim
    · split at q
      · rename_i hi
        exact .inr ⟨_, by assumption, hi.1, hi.2, q⟩
      · exact q.elim
    · exact q.elim
  · cases c
theorem calm_bind_good {α β : Type} {x : T α} {f : α → T β} {P : β → Prop} {PX : Nat → Pl → Hc → Prop} (g : (x.calm.bind f).good P PX) : x.good (fun a => (f a).good P PX) (fun _ _ _ => False) := calm_good (good_bind.mp g)
theorem eqI_good {h : Hc} {f : Nat} {ds : List D} {PF : Bool → D → Hc → Prop} {PX : Nat → Pl → Hc → Prop} (g : ((callV md f ds h).calm.bind (fun p => match p.1, p.2.1 with | false, .bl b => val (.bl b) p.2.2 | _, _ => .no)).good (fun p => PF p.1 p.2.1 p.2.2) PX) :
    nrL ds = true ∧ (md.run f ds []).good (fun p => p.2.1.nr = true ∧ p.1 = false ∧ ∃ b, p.2.1 = .bl b ∧ PF false (.bl b) h) (fun _ _ _ => False) := by
  have g1 := calm_bind_good g
  unfold callV at g1
  split at g1
  · rename_i hn
    refine ⟨hn, ofT (unR_good (PF := fun f d h' => (match f, d with | false, .bl b => val (.bl b) h' | _, _ => .no : T Rs).good (fun p => PF p.1 p.2.1 p.2.2) PX) g1) (fun p q => ⟨q.1, ?_⟩) (fun _ _ _ q => q.2)⟩
    have q2 := q.2
    split at q2
    · exact ⟨by assumption, _, by assumption, q2⟩
    · exact q2.elim
  · exact g1.elim
theorem s_eqI (A : Cls2 M L md k') (hk : k' ≤ k) (s : SE M N k ck r) (hb : Bx X M N sc k G.W) {C f : Nat} {x y : E} (c : ckE1 L N ck ckt sc (.eqI C f x y) a = true) (g : (e_eqI md r ρ h C f x y).good (fun p => PF p.1 p.2.1 p.2.2) (fun c pl h' => G.PX c pl ρ h')) : FX X M G a ρ h fun f d h' => f = false ∧ (∃ b, d = .bl b) ∧ PF false d h' := by
  simp only [ckE1] at c
  split at c
  · simp only [Bool.and_eq_true] at c
    obtain ⟨c1, c2, c3, c4⟩ := c
    obtain ⟨ps, mc⟩ := A.meth C "__eq__" f (by simpa using c1)
    refine FX.mono (PF := fun f d h' => (∃ b, d = .bl b) ∧ PF false d h' ∧ f = false) (fx_eqI mc hb hk (mark_no c4) (vl_ex s hb c2 (ofT (good_bind.mp g) (fun p q => vl_ex s hb c3 (ofT (good_bind.mp q) (fun p2 q2 => ?_) (fun _ _ _ q => q))) (fun _ _ _ q => q)))) (fun f d h z => ⟨z.2.2, z.1, z.2.1⟩)
    split at q2
    · rename_i C1 fs C2 gs e1 e2
      split at q2
      · rename_i hC
        rw [Bool.and_eq_true_iff] at hC
        have := Nat.eq_of_beq_eq_true hC.1
        subst this
        have := Nat.eq_of_beq_eq_true hC.2
        subst this
        obtain ⟨hn, g2⟩ := eqI_good q2
        refine ⟨fs, gs, e1, e2, by rw [e1, e2]; exact hn, ?_⟩
        rw [e1, e2]
        refine ofT g2 (fun p q => ⟨q.1, ?_⟩) (fun _ _ _ q => q)
        obtain ⟨ef, b, eb, q3⟩ := q.2
        exact ⟨⟨b, eb⟩, by rw [eb]; exact q3, ef⟩
      · exact q2.elim
    · exact q2.elim
  · cases c
theorem t_eqI (A : Cls2 M L md k') (hk : k' ≤ k) (s : SE M N k ck r) (hb : Bx X M N sc k G.W) {C f : Nat} {x y : E} (c : ckE1 L N ck ckt sc (.eqI C f x y) a = true) (g : ((e_eqI md r ρ h C f x y).bind fun p => match tru p.2.2 p.2.1 with | some b => T.ok (b, p.2.2) | none => .no).good (fun p => B p.1 p.2) (fun c pl h' => G.PX c pl ρ h')) : TX X M G a ρ h B := by
  simp only [ckE1] at c
  split at c
  · simp only [Bool.and_eq_true] at c
    obtain ⟨c1, c2, c3, c4⟩ := c
    obtain ⟨ps, mc⟩ := A.meth C "__eq__" f (by simpa using c1)
    refine tx_eqI mc hb hk (mark_no c4) (vl_ex s hb c2 (ofT (good_bind.mp (good_bind.mp g)) (fun p q => vl_ex s hb c3 (ofT (good_bind.mp q) (fun p2 q2 => ?_) (fun _ _ _ q => q))) (fun _ _ _ q => q)))
    split at q2
    · rename_i C1 fs C2 gs e1 e2
      split at q2
      · rename_i hC
        rw [Bool.and_eq_true_iff] at hC
        have := Nat.eq_of_beq_eq_true hC.1
        subst this
        have := Nat.eq_of_beq_eq_true hC.2
        subst this
        obtain ⟨hn, g2⟩ := eqI_good (PF := fun f d h2 => (match tru h2 d with | some b => T.ok (b, h2) | none => .no : T (Bool × Hc)).good (fun p => B p.1 p.2) (fun c pl h' => G.PX c pl ρ h')) q2
        refine ⟨fs, gs, e1, e2, by rw [e1, e2]; exact hn, ?_⟩
        rw [e1, e2]
        exact ofT g2 (fun p q => ⟨q.2.1, q.2.2⟩) (fun _ _ _ q => q)
      · exact q2.elim
    · exact q2.elim
  · cases c
theorem s_isI (F : Fac M L) (s : SE M N k ck r) (hb : Bx X M N sc k G.W) {C : Nat} {x : E} (c : ckE1 L N ck ckt sc (.isI C x) a = true) (g : (e_isI r ρ h C x).good (fun p => PF p.1 p.2.1 p.2.2) (fun c pl h' => G.PX c pl ρ h')) : FX X M G a ρ h PF := by
  simp only [ckE1] at c
  split at c
  · simp only [Bool.and_eq_true, decide_eq_true_eq] at c
    obtain ⟨rfl, c1, c2, c3, c4, c5, c6, c7⟩ := c
    obtain ⟨g1, g2, g3, g4⟩ := glob_ok c1
    obtain ⟨h1, h2, h3, h4⟩ := glob_ok c6
    have O := F.own C (by simpa using c7)
    have gC := F.cnm (C, _) (by simpa using c5)
    refine fx_callB (callr_or call_isi call_isiF) hb.toBw (F.free _ (by simpa using c2)) (by decide +kernel) g1 g4 g2 (star_cons _ c4) (star_all (es := [.Name _ _]) rfl) (ax_cons (star_cons _ c4) (vl_ex s hb c3 (ofT (good_bind.mp g) (fun p q => ?_) (fun _ _ _ q => q))))
    refine ax_cons rfl (ex_gl (d := .cl C) (v := .ref (M.ca C)) hb.toBw gC rfl (fun _ _ => .cl C) (ax_nil ?_) h1 h2)
    have one : ∀ (n : Nat), tyN p.1 = some n → (if true then val (.bl false) p.2 else .no : T Rs).good (fun p => PF p.1 p.2.1 p.2.2) (fun c pl h' => G.PX c pl ρ h') → ∃ f d, PF f d p.2 ∧ ∀ vs w H (Q : VK), w.h = p.2 → WOk M w H → RepL M w.F w.m vs [p.1, .cl C] → Fin M w H f d Q → rIsi X.K vs H Q ∨ rIsiF X.K vs H Q := by
      intro n hn q
      refine ⟨false, .bl false, q, fun vs w H Q eh wk rl fin => ?_⟩
      obtain ⟨v, us, rfl, r1, r2⟩ := rl.cons_inv
      obtain ⟨u, us, rfl, r3, r4⟩ := r2.cons_inv
      obtain rfl := r4.nil_inv
      obtain ⟨n6, tx⟩ := tyx_of wk r1 hn
      rw [hb.hK]
      rcases tx with tx | ⟨rfl, a, o, kvs, rfl, hd⟩
      · exact .inl ⟨v, u, .type (tyS n), .ref (M.ca C), false, rfl, by rw [r3.cl_inv]; exact .own _, tx, O.k0 n n6, fin.here wk (.bl false)⟩
      · exact .inr ⟨a, o, kvs, u, .ref (M.ca C), false, rfl, hd, by rw [r3.cl_inv]; exact .own _, O.k0 6 n6, fin.here wk (.bl false)⟩
    split at q
    · rename_i C' fs e
      split at q
      · rename_i hC
        have := Nat.eq_of_beq_eq_true hC
        subst this
        refine ⟨false, .bl true, q, fun vs w H Q eh wk rl fin => ?_⟩
        obtain ⟨v, us, rfl, r1, r2⟩ := rl.cons_inv
        obtain ⟨u, us, rfl, r3, r4⟩ := r2.cons_inv
        obtain rfl := r4.nil_inv
        rw [e] at r1
        rw [hb.hK]
        exact .inl ⟨v, u, .ref (M.ca C'), .ref (M.ca C'), true, rfl, by rw [r3.cl_inv]; exact .own _, tyx_ins wk O r1, O.k1, fin.here wk (.bl true)⟩
      · exact q.elim
    · cases hn : tyN p.1 with
      | none => rw [hn] at q; exact q.elim
      | some n => rw [hn] at q; exact one n hn q
  · cases c
/-! ### one cell handed over -/
theorem noT_join : ∀ {s : List Bool} {ds : List D} {h : Hc} {p : List D × List (Nat × D)} {n : Nat}, s.all (!·) = true → joinB s ds h = some p → nrL ds = true ∧ p.2 = [] ∧ renum n s ds = ds
  | [], [], h, p, n, _, e => by cases e; exact ⟨rfl, rfl, rfl⟩
  | [], _ :: _, h, p, n, _, e => by cases e
  | true :: s, ds, h, p, n, c, e => by simp at c
  | false :: s, [], h, p, n, c, e => by cases e
  | false :: s, d :: ds, h, p, n, c, e => by
    unfold joinB at e
    split at e
    · rename_i hd
      cases e1 : joinB s ds h with
      | none => rw [e1] at e; cases e
      | some q =>
        rw [e1] at e; cases e
        obtain ⟨i1, i2, i3⟩ := noT_join (n := n) (by simpa using c) e1
        exact ⟨by simp only [nrL, hd, i1]; rfl, i2, by unfold renum; rw [i3]⟩
    · cases e
theorem oneT_join : ∀ {s : List Bool} {ds : List D} {h : Hc} {p : List D × List (Nat × D)}, oneT s = true → joinB s ds h = some p → ∃ pre post j d0, ds = pre ++ .ref j :: post ∧ nrL pre = true ∧ nrL post = true ∧ h[j]? = some (some d0) ∧ p.2 = [(j, d0)] ∧ renum 0 s ds = pre ++ .ref 0 :: post
  | [], ds, h, p, c, e => by cases c
  | true :: s, [], h, p, c, e => by cases e
  | true :: s, d :: ds, h, p, c, e => by
    cases d <;> first | (cases e; done) | skip
    rename_i j
    unfold joinB at e
    split at e
    · rename_i d0 hj
      cases e1 : joinB s ds h with
      | none => rw [e1] at e; cases e
      | some q =>
        rw [e1] at e; cases e
        obtain ⟨i1, i2, i3⟩ := noT_join (n := 1) (by exact c) e1
        exact ⟨[], ds, j, d0, rfl, rfl, i1, hj, by show (j, d0) :: q.2 = _; rw [i2], by unfold renum; rw [i3]; rfl⟩
    · cases e
  | false :: s, [], h, p, c, e => by cases e
  | false :: s, d :: ds, h, p, c, e => by
    unfold joinB at e
    split at e
    · rename_i hd
      cases e1 : joinB s ds h with
      | none => rw [e1] at e; cases e
      | some q =>
        rw [e1] at e; cases e
        obtain ⟨pre, post, j, d0, i1, i2, i3, i4, i5, i6⟩ := oneT_join (by exact c) e1
        exact ⟨d :: pre, post, j, d0, by rw [i1]; rfl, by simp only [nrL, hd, i2]; rfl, i3, i4, i5, by unfold renum; rw [i6]; rfl⟩
    · cases e
theorem unR1_good {j : Nat} {d0 : D} {h : Hc} {x : T Rs} {PX : Nat → Pl → Hc → Prop} (g : (unR [(j, d0)] h x).good (fun p => PF p.1 p.2.1 p.2.2) PX) : x.good (fun p => p.2.1.nr = true ∧ ∃ d2 r, p.2.2 = some d2 :: r ∧ okCell d2 = true ∧ PF p.1 p.2.1 (h.set j (some d2))) (fun c pl h2 => nrPl pl = true ∧ ∃ d2 r, h2 = some d2 :: r ∧ okCell d2 = true ∧ PX c pl (h.set j (some d2))) := by
  have wb : ∀ {h' : Hc} {h2 : Hc}, wback [(j, d0)] h' h = some h2 → ∃ d2, okCell d2 = true ∧ h2 = h.set j (some d2) ∧ ∃ r, h' = some d2 :: r := by
    intro h' h2 e
    cases h' with
    | nil => cases e
    | cons o r =>
      cases o with
      | none => cases e
      | some c =>
        unfold wback at e
        split at e
        · rename_i hc
          cases r <;> cases e <;> exact ⟨c, hc, rfl, _, rfl⟩
        · cases e
  induction x with
  | ok p =>
    obtain ⟨f, d, h'⟩ := p
    unfold unR at g
    split at g
    · rename_i hn
      split at g
      · rename_i h2 e
        obtain ⟨d2, o2, rfl, r, rfl⟩ := wb e
        exact ⟨hn, d2, r, rfl, o2, g⟩
      · exact g.elim
    · exact g.elim
  | ex c pl h' =>
    unfold unR at g
    split at g
    · rename_i hn
      split at g
      · rename_i h2 e
        obtain ⟨d2, o2, rfl, r, rfl⟩ := wb e
        exact ⟨hn, d2, r, rfl, o2, g⟩
      · exact g.elim
    · exact g.elim
  | no => exact g
  | dr n f ih => exact fun i hi => ih i (g i hi)
theorem s_callR (A : Cls2 M L md k') (hk : k' ≤ k) (s : SE M N k ck r) (hb : Bx X M N sc k G.W) {f : Nat} {sl : List Bool} {es : List E} (c : ckE1 L N ck ckt sc (.callR f sl es) a = true) (g : (e_callR md r t ρ h f sl es).good (fun p => PF p.1 p.2.1 p.2.2) (fun c pl h' => G.PX c pl ρ h')) : FX X M G a ρ h PF := by
  simp only [ckE1] at c
  split at c
  · rename_i x p u us pos
    simp only [Bool.and_eq_true, decide_eq_true_eq] at c
    obtain ⟨c1, c2, c3, c4⟩ := c
    obtain ⟨g1, g2, g3, g4⟩ := glob_ok c2
    obtain ⟨ps, fc⟩ := A.fn f x c1
    unfold ckArgs at c3
    rw [Bool.and_eq_true_iff] at c3
    have st := c3.2
    rw [List.all_cons, Bool.and_eq_true_iff] at st
    refine fx_callY fc hb hk g1 g2 (star_cons us st.1) (star_all st.2) (vls_ax s hb c3.1 c3.2 (ofT (good_bind.mp g) (fun p q => ?_) (fun _ _ _ q => q)))
    unfold callRV at q
    split at q
    · rename_i xs js ej
      obtain ⟨pre, post, j, d0, i1, i2, i3, i4, i5, i6⟩ := oneT_join c4 ej
      dsimp only at i5
      subst i5
      split at q
      · rename_i hok
        rw [Bool.and_eq_true_iff] at hok
        have ho : okCell d0 = true := by simpa using hok.2
        refine ⟨pre, post, j, d0, i1, i2, i3, i4, ho, ?_⟩
        have q2 := unR1_good q
        rw [i6] at q2
        exact q2
      · exact q.elim
    · exact q.elim
  · cases c
end
end Yl

set_option maxRecDepth 100000
set_option maxHeartbeats 4000000
/-! Y15c: what is checked is computed: instances with a list of their own. -/
namespace Yl
open PySem PySem.Spec PyProof.Rows L2
open T (good_bind)
section
variable {M : Mx} {L : Lw} {N : List Str} {k k' : Nat} {ck ckt : CkE} {r : Ev} {t : Et} {X : Cx} {sc : Scope} {G : Gx} {ρ : Env} {h : Hc} {PF : Bool → D → Hc → Prop} {P : D → Hc → Prop} {B : Bool → Hc → Prop} {a : Expr} {md : Md}
theorem unB_good {h : Hc} {x : T Rs} {PX : Nat → Pl → Hc → Prop} (g : (unB h x).good (fun p => PF p.1 p.2.1 p.2.2) PX) : x.good (fun p => p.1 = false ∧ pln p.2.1 = true ∧ PF false p.2.1 h) (fun c pl _ => pl = none ∧ PX c none h) := by
  induction x with
  | ok p =>
    obtain ⟨f, d, h'⟩ := p
    cases f with
    | true => exact g.elim
    | false =>
      have g' : (if pln d then val d h else .no : T Rs).good (fun p => PF p.1 p.2.1 p.2.2) PX := g
      split at g'
      · exact ⟨rfl, by assumption, g'⟩
      · exact g'.elim
  | ex c pl h' =>
    cases pl with
    | none => exact ⟨rfl, g⟩
    | some _ => exact g.elim
  | no => exact g
  | dr n f ih => exact fun i hi => ih i (g i hi)
abbrev runC (md : Md) (f : Nat) : Con := fun ds h P PX => (md.run f ds h).good (fun p => P p.1 p.2.1 p.2.2) PX
theorem callB_good {f : Nat} {ds : List D} {h : Hc} {PX : Nat → Pl → Hc → Prop} (g : (callBV md f ds h).good (fun p => PF p.1 p.2.1 p.2.2) PX) : ConB (runC md f) ds h (fun d => PF false d h) fun c => PX c none h := by
  unfold callBV at g
  split at g
  · rename_i es he
    exact ⟨es, he, unB_good g⟩
  · exact g.elim
theorem ConB.mono {C : Con} (hC : ∀ ds h P P' PX PX', (∀ f d h, P f d h → P' f d h) → (∀ c pl h, PX c pl h → PX' c pl h) → C ds h P PX → C ds h P' PX') {ds : List D} {h : Hc} {P P' : D → Prop} {PX PX' : Nat → Prop} (c : ConB C ds h P PX) (p : ∀ d, P d → P' d) (q : ∀ c, PX c → PX' c) : ConB C ds h P' PX' := by
  obtain ⟨es, he, c⟩ := c
  exact ⟨es, he, hC _ _ _ _ _ _ (fun f d h z => ⟨z.1, z.2.1, p _ z.2.2⟩) (fun c pl h z => ⟨z.1, q _ z.2⟩) c⟩
theorem runC_mono {f : Nat} : ∀ ds h (P P' : Bool → D → Hc → Prop) (PX PX' : Nat → Pl → Hc → Prop), (∀ f d h, P f d h → P' f d h) → (∀ c pl h, PX c pl h → PX' c pl h) → runC md f ds h P PX → runC md f ds h P' PX' := fun ds h P P' PX PX' p q c => T.good_mono (fun a z => p _ _ _ z) q c
theorem s_mcB (A : Cls2 M L md k') (hk : k' ≤ k) (s : SE M N k ck r) (hb : Bx X M N sc k G.W) {C f : Nat} {m : Tx} {x : E} {es : List E} (c : ckE1 L N ck ckt sc (.mcB C x m f es) a = true) (g : (e_mcB md r ρ h C x m f es).good (fun p => PF p.1 p.2.1 p.2.2) (fun c pl h' => G.PX c pl ρ h')) : FX X M G a ρ h PF := by
  simp only [ckE1] at c
  split at c
  · split at c
    · simp only [Bool.and_eq_true, decide_eq_true_eq] at c
      obtain ⟨rfl, c1, c2, c3, c4⟩ := c
      obtain ⟨ps, mc⟩ := A.meth C _ f (by simpa using c1)
      refine fx_mcBN (f := f) mc hb hk (base_no c3) c4 (vl_ex s hb c2 (ofT (good_bind.mp g) (fun p q => ?_) (fun _ _ _ q => q)))
      split at q
      · exact ⟨by assumption, callB_good q⟩
      · exact q.elim
    · cases c
  · cases c
theorem s_lenI (F : Fac M L) (A : Cls2 M L md k') (hk : k' + 1 ≤ k) (s : SE M N k ck r) (hb : Bx X M N sc k G.W) {C f : Nat} {x : E} (c : ckE1 L N ck ckt sc (.lenI C f x) a = true) (g : (e_lenI md r ρ h C f x).good (fun p => PF p.1 p.2.1 p.2.2) (fun c pl h' => G.PX c pl ρ h')) : FX X M G a ρ h PF := by
  simp only [ckE1] at c
  split at c
  · simp only [Bool.and_eq_true, decide_eq_true_eq] at c
    obtain ⟨rfl, c1, c2, c3, c4, c5⟩ := c
    obtain ⟨g1, g2, g3, g4⟩ := glob_ok c1
    obtain ⟨ps, mc⟩ := A.meth C _ f (by simpa using c3)
    refine fx_lenI mc hb hk (F.free _ (by simpa using c2)) g1 (star_cons [] c5) (vl_ex s hb c4 (ofT (good_bind.mp g) (fun p q => ?_) (fun _ _ _ q => q)))
    split at q
    · have q1 := callB_good (PF := fun f d h' => (match d with | .int n => if 0 ≤ n ∧ n < 1000000000 then val (.int n) h' else .no | _ => .no : T Rs).good (fun p => PF p.1 p.2.1 p.2.2) (fun c pl h' => G.PX c pl ρ h')) (calm_bind_good q)
      refine ⟨by assumption, ConB.mono runC_mono q1 (fun d z => ?_) (fun _ z => z)⟩
      split at z
      · split at z
        · rename_i hn
          exact ⟨_, rfl, hn.1, hn.2, z⟩
        · exact z.elim
      · exact z.elim
    · exact q.elim
  · cases c
theorem s_eqB (F : Fac M L) (A : Cls2 M L md k') (hk : k' ≤ k) (s : SE M N k ck r) (hb : Bx X M N sc k G.W) {C f : Nat} {x y : E} (c : ckE1 L N ck ckt sc (.eqB C f x y) a = true) (g : (e_eqB md r ρ h C f x y).good (fun p => PF p.1 p.2.1 p.2.2) (fun c pl h' => G.PX c pl ρ h')) : FX X M G a ρ h PF := by
  simp only [ckE1] at c
  split at c
  · simp only [Bool.and_eq_true] at c
    obtain ⟨c1, c2, c3, c4, c5⟩ := c
    obtain ⟨ps, mc⟩ := A.meth C "__eq__" f (by simpa using c1)
    refine fx_eqB mc hb hk (mark_no c4) (vl_ex s hb c2 (ofT (good_bind.mp g) (fun p q => vl_ex s hb c3 (ofT (good_bind.mp q) (fun p2 q2 => ?_) (fun _ _ _ q => q))) (fun _ _ _ q => q)))
    split at q2
    · rename_i hi
      simp only [Bool.and_eq_true, Bool.or_eq_true] at hi
      have q1 := callB_good (PF := fun f d h' => (match d with | .bl n => val (.bl n) h' | _ => .no : T Rs).good (fun p => PF p.1 p.2.1 p.2.2) (fun c pl h' => G.PX c pl ρ h')) (calm_bind_good q2)
      refine ⟨hi.2.1, hi.2.2.imp id (fun z => ⟨z, (F.own C (by simpa using c5)).si⟩), ConB.mono runC_mono q1 (fun d z => ?_) (fun _ z => z)⟩
      split at z
      · exact ⟨_, rfl, z⟩
      · exact z.elim
    · exact q2.elim
  · cases c
theorem wbL_inv {i j : Nat} {h h' h2 : Hc} (e : wbL i j h h' = some h2) : ∃ C' gs y r, h' = some (.ins C' gs) :: some y :: r ∧ oneF gs = some 1 ∧ (y.nr = true ∧ isLst y = true) ∧ h2 = (h.set i (some (.ins C' (subF j gs)))).set j (some y) := by
  unfold wbL at e
  split at e
  · rename_i C fs x r
    split at e
    · rename_i kk hk
      split at e
      · rename_i hc
        simp only [Bool.and_eq_true] at hc
        have := Nat.eq_of_beq_eq_true hc.1
        subst this
        cases e
        exact ⟨C, fs, x, r, rfl, hk, ⟨hc.2.2, hc.2.1⟩, rfl⟩
      · cases e
    · cases e
  · cases e
theorem unL_good {i j : Nat} {h : Hc} {x : T Rs} {PX : Nat → Pl → Hc → Prop} (g : (unL i j h x).good (fun p => PF p.1 p.2.1 p.2.2) PX) : x.good (fun p => p.1 = false ∧ p.2.1.nr = true ∧ ∃ C' gs y r, p.2.2 = some (.ins C' gs) :: some y :: r ∧ oneF gs = some 1 ∧ (y.nr = true ∧ isLst y = true) ∧ PF false p.2.1 ((h.set i (some (.ins C' (subF j gs)))).set j (some y)))
    (fun c pl h2 => nrPl pl = true ∧ ∃ C' gs y r, h2 = some (.ins C' gs) :: some y :: r ∧ oneF gs = some 1 ∧ (y.nr = true ∧ isLst y = true) ∧ PX c pl ((h.set i (some (.ins C' (subF j gs)))).set j (some y))) := by
  induction x with
  | ok p =>
    obtain ⟨f, d, h'⟩ := p
    cases f with
    | true => exact g.elim
    | false =>
      unfold unL at g
      split at g
      · rename_i hn
        split at g
        · rename_i h2 e
          obtain ⟨C', gs, y, r, e1, e2, e3, rfl⟩ := wbL_inv e
          exact ⟨rfl, hn, C', gs, y, r, e1, e2, e3, g⟩
        · exact g.elim
      · exact g.elim
  | ex c pl h' =>
    unfold unL at g
    split at g
    · rename_i hn
      split at g
      · rename_i h2 e
        obtain ⟨C', gs, y, r, e1, e2, e3, rfl⟩ := wbL_inv e
        exact ⟨hn, C', gs, y, r, e1, e2, e3, g⟩
      · exact g.elim
    · exact g.elim
  | no => exact g
  | dr n f ih => exact fun i hi => ih i (g i hi)
theorem callL_good {f i : Nat} {ds : List D} {h : Hc} {PX : Nat → Pl → Hc → Prop} (g : (callLV md f i ds h).good (fun p => PF p.1 p.2.1 p.2.2) PX) : ConL (runC md f) i ds h (fun d h2 => PF false d h2) PX := by
  unfold callLV at g
  split at g
  · rename_i C fs hi
    split at g
    · rename_i j hj
      split at g
      · rename_i x hx
        split at g
        · rename_i hc
          simp only [Bool.and_eq_true, Bool.not_eq_true'] at hc
          obtain ⟨⟨h1, h2⟩, h3, h4⟩ := hc
          exact ⟨C, fs, j, x, hi, hj, hx, ⟨h2, h1⟩, h3, (fun e => by rw [e, Nat.beq_refl] at h4; cases h4), unL_good g⟩
        · exact g.elim
      · exact g.elim
    · exact g.elim
  · exact g.elim
theorem mcR2_good {C f : Nat} {m : Tx} {x : D} {ds : List D} {h : Hc} {PX : Nat → Pl → Hc → Prop} (g : (e_mcR2 md C m f x ds h).good (fun p => PF p.1 p.2.1 p.2.2) PX) : insM h C m x = true ∧ ∃ i, x = .ref i ∧ ConL (runC md f) i ds h (fun d h2 => PF false d h2) PX := by
  unfold e_mcR2 at g
  by_cases hi : insM h C m x = true
  · rw [if_pos hi] at g
    refine ⟨hi, ?_⟩
    cases x <;> first | exact g.elim | skip
    exact ⟨_, rfl, callL_good g⟩
  · rw [if_neg hi] at g
    exact g.elim
theorem s_mcR (A : Cls2 M L md k') (hk : k' ≤ k) (s : SE M N k ck r) (hb : Bx X M N sc k G.W) {C f : Nat} {m : Tx} {x : E} {es : List E} (c : ckE1 L N ck ckt sc (.mcR C x m f es) a = true) (g : (e_mcR md r ρ h C x m f es).good (fun p => PF p.1 p.2.1 p.2.2) (fun c pl h' => G.PX c pl ρ h')) : FX X M G a ρ h PF := by
  simp only [ckE1] at c
  split at c
  · split at c
    · simp only [Bool.and_eq_true, decide_eq_true_eq] at c
      obtain ⟨rfl, c1, c2, c3, c4⟩ := c
      obtain ⟨ps, mc⟩ := A.meth C _ f (by simpa using c1)
      refine fx_mcRN (f := f) mc hb hk (base_no c3) c4 (vl_ex s hb c2 (ofT (good_bind.mp g) (fun p q => ?_) (fun _ _ _ q => q)))
      split at q
      · have q : (e_mcR2 md C m f p.1 [] p.2).good (fun p => PF p.1 p.2.1 p.2.2) (fun c pl h' => G.PX c pl ρ h') := q
        exact mcR2_good q
      · exact q.elim
    · cases c
  · split at c
    · simp only [Bool.and_eq_true, decide_eq_true_eq] at c
      obtain ⟨rfl, c1, c2, c3, c4, c5, c6⟩ := c
      obtain ⟨ps, mc⟩ := A.meth C _ f (by simpa using c1)
      refine fx_mcR1 (f := f) mc hb hk (base_no c5) c6 (star_cons [] c4) (vl_ex s hb c2 (ofT (good_bind.mp g) (fun p q => ?_) (fun _ _ _ q => q)))
      split at q
      · rename_i hi
        refine ⟨hi, vl_ex s hb c3 (ofT (good_bind.mp (good_bind.mp q)) (fun p2 q2 => ?_) (fun _ _ _ q => q))⟩
        have q2 : (e_mcR2 md C m f p.1 [p2.1] p2.2).good (fun p => PF p.1 p.2.1 p.2.2) (fun c pl h' => G.PX c pl ρ h') := q2
        exact mcR2_good q2
      · exact q.elim
    · cases c
  · cases c
theorem s_callL (A : Cls2 M L md k') (hk : k' ≤ k) (s : SE M N k ck r) (hb : Bx X M N sc k G.W) {f : Nat} {x : E} {es : List E} (c : ckE1 L N ck ckt sc (.callL f x es) a = true) (g : (e_callL md r ρ h f x es).good (fun p => PF p.1 p.2.1 p.2.2) (fun c pl h' => G.PX c pl ρ h')) : FX X M G a ρ h PF := by
  simp only [ckE1] at c
  split at c
  · rename_i z p u us pos
    simp only [Bool.and_eq_true, decide_eq_true_eq] at c
    obtain ⟨c1, c2, c3⟩ := c
    obtain ⟨g1, g2, g3, g4⟩ := glob_ok c2
    obtain ⟨ps, fc⟩ := A.fn f z c1
    unfold ckArgs at c3
    rw [Bool.and_eq_true_iff] at c3
    obtain ⟨c4, st⟩ := c3
    rw [List.all_cons, Bool.and_eq_true_iff] at st
    rw [all2, Bool.and_eq_true_iff] at c4
    refine fx_callL fc hb hk g1 g2 (star_cons us st.1) (star_all st.2) (ax_cons (star_cons us st.1) (vl_ex s hb c4.1 (ofT (good_bind.mp g) (fun p q => ?_) (fun _ _ _ q => q))))
    refine vls_ax s hb c4.2 st.2 (ofT (good_bind.mp q) (fun p2 q2 => ?_) (fun _ _ _ q => q))
    split at q2
    · rename_i i hi
      exact ⟨i, p2.1, by rw [hi], callL_good q2⟩
    · exact q2.elim
  · cases c
theorem mkRL_good {C : Nat} {h : Hc} {x : T Rs} {PX : Nat → Pl → Hc → Prop} (g : (mkRL C h x).good (fun p => PF p.1 p.2.1 p.2.2) PX) : x.good (fun p => p.1 = false ∧ p.2.1 = .non ∧ ∃ fs y r, p.2.2 = some (.ins C fs) :: some y :: r ∧ oneF fs = some 1 ∧ (y.nr = true ∧ isLst y = true) ∧ PF false (.ref (h.length + 1)) ((h ++ [some y]) ++ [some (.ins C (subF h.length fs))]))
    (fun c pl _ => nrPl pl = true ∧ PX c pl h) := by
  induction x with
  | ok p =>
    unfold mkRL at g
    split at g
    · rename_i C' fs y r heq
      cases heq
      split at g
      · rename_i kk hk
        split at g
        · rename_i hc
          simp only [Bool.and_eq_true] at hc
          have := Nat.eq_of_beq_eq_true hc.1
          subst this
          have := Nat.eq_of_beq_eq_true hc.2.1
          subst this
          exact ⟨rfl, rfl, fs, y, r, rfl, hk, ⟨hc.2.2.2, hc.2.2.1⟩, g⟩
        · exact g.elim
      · exact g.elim
    · exact g.elim
    · rename_i heq; cases heq
    · rename_i heq; cases heq
    · rename_i heq; cases heq
  | ex c pl h' =>
    have g' : (if nrPl pl then T.ex c pl h else .no : T Rs).good (fun p => PF p.1 p.2.1 p.2.2) PX := g
    split at g'
    · exact ⟨by assumption, g'⟩
    · exact g'.elim
  | no => exact g
  | dr n f ih => exact fun i hi => ih i (g i hi)
theorem s_mkL (A : Cls2 M L md k') (hk : k' + 1 ≤ k) (hmk : ∀ j, md.mk_ j = L.pg.mks.getD j (0, 0, [])) (s : SE M N k ck r) (hb : Bx X M N sc k G.W) {j : Nat} {es : List E} (c : ckE1 L N ck ckt sc (.mkL j es) a = true)
    (g : (e_mkL md r ρ h j es).good (fun p => PF p.1 p.2.1 p.2.2) (fun c pl h' => G.PX c pl ρ h')) : FX X M G a ρ h PF := by
  simp only [ckE1] at c
  split at c
  · rename_i x p u us pos
    rw [Bool.and_eq_true_iff, Bool.and_eq_true_iff] at c
    obtain ⟨c1, c2, c3⟩ := c
    obtain ⟨gl1, g2, g3, g4⟩ := glob_ok c2
    split at c1
    · rename_i q hq
      obtain ⟨C, f, dfl⟩ := q
      obtain ⟨ps, mc⟩ := A.make j C f dfl hq x (by simpa using c1)
      have e : md.mk_ j = (C, f, dfl) := by rw [hmk, List.getD_eq_getElem?_getD, hq]; rfl
      unfold ckArgs at c3
      rw [Bool.and_eq_true_iff] at c3
      have st := c3.2
      rw [List.all_cons, Bool.and_eq_true_iff] at st
      refine fx_mkL mc hb hk gl1 g2 (star_cons us st.1) (star_all st.2) (vls_ax s hb c3.1 c3.2 (T.good_mono (fun p q => ?_) (fun _ _ _ q => q) (good_bind.mp g)))
      rw [e] at q
      unfold mkLV at q
      split at q
      · rename_i hn
        exact ⟨hn, mkRL_good q⟩
      · exact q.elim
    · cases c1
  · cases c
end
end Yl

set_option maxRecDepth 100000
set_option maxHeartbeats 4000000
/-! Y16: comprehensions, instances; all expressions together. -/
namespace Yl
open PySem PySem.Spec PyProof.Rows L2
open T (good_bind)
section
variable {M : Mx} {L : Lw} {N : List Str} {k k' : Nat} {ck ckt : CkE} {r : Ev} {t : Et} {X : Cx} {sc : Scope} {G : Gx} {ρ : Env} {h : Hc} {PF : Bool → D → Hc → Prop} {P : D → Hc → Prop} {B : Bool → Hc → Prop} {a : Expr} {md : Md} {U : List D → Hc → Prop}
theorem one_good {e : E} {PX : Nat → Pl → Hc → Prop} {Z : List D × Hc → Prop} (g : (vls r [e] ρ h).good Z PX) : (vl r e ρ h).good (fun p => Z ([p.1], p.2)) PX := T.good_mono (fun p q => good_bind.mp q) (fun _ _ _ q => q) (good_bind.mp g)
theorem vls_len {PX : Nat → Pl → Hc → Prop} : ∀ {es : List E} {h : Hc} {Z : List D × Hc → Prop}, (vls r es ρ h).good Z PX → (vls r es ρ h).good (fun p => p.1.length = es.length ∧ Z p) PX
  | [], h, Z, g => ⟨rfl, g⟩
  | e :: es, h, Z, g => good_bind.mpr (T.good_mono (fun p q => good_bind.mpr (T.good_mono (fun p2 q2 => ⟨by show p2.1.length + 1 = _; rw [q2.1]; rfl, q2.2⟩) (fun _ _ _ q => q) (vls_len (good_bind.mp q)))) (fun _ _ _ q => q) (good_bind.mp g))
theorem items_r1 {l ds : List D} (e : items .rng l = some ds) (hl : l.length = 1) : ∃ n, l = [.int n] ∧ small n = true ∧ ds = rangeU 0 n.toNat := by
  cases l with
  | nil => cases hl
  | cons x l => cases l with
    | cons _ _ => simp at hl
    | nil =>
      cases x <;> first | (cases e; done) | skip
      rename_i n
      have e' : (if small n then some (rangeU 0 n.toNat) else none) = some ds := e
      split at e'
      · cases e'; exact ⟨n, rfl, by assumption, rfl⟩
      · cases e'
theorem items_r2 {l ds : List D} (e : items .rng l = some ds) (hl : l.length = 2) : ∃ n m, l = [.int n, .int m] ∧ small n = true ∧ small m = true ∧ ds = rangeU n (m - n).toNat := by
  cases l with
  | nil => cases hl
  | cons x l => cases l with
    | nil => simp at hl
    | cons y l => cases l with
      | cons _ _ => simp at hl
      | nil =>
        cases x <;> first | (cases e; done) | skip
        cases y <;> first | (cases e; done) | skip
        rename_i n m
        have e' : (if small n && small m then some (rangeU n (m - n).toNat) else none) = some ds := e
        split at e'
        · rename_i hs
          rw [Bool.and_eq_true_iff] at hs
          cases e'; exact ⟨n, m, rfl, hs.1, hs.2, rfl⟩
        · cases e'
theorem items_z {l ds : List D} (e : items .zip l = some ds) (hl : l.length = 2) : ∃ x y, l = [.str x, .str y] ∧ ds = zipD (signs x) (signs y) := by
  cases l with
  | nil => cases hl
  | cons x l => cases l with
    | nil => simp at hl
    | cons y l => cases l with
      | cons _ _ => simp at hl
      | nil =>
        cases x <;> first | (cases e; done) | skip
        cases y <;> first | (cases e; done) | skip
        rename_i n m
        have e' : (if n.length ≤ lim ∧ m.length ≤ lim then some (zipD (signs n) (signs m)) else none) = some ds := e
        split at e'
        · cases e'; exact ⟨n, m, rfl, rfl⟩
        · cases e'
theorem items_r3 {l ds : List D} (e : items .rng l = some ds) (hl : l.length = 3) : ∃ n m, l = [.int n, .int m, .int (-1)] ∧ small n = true ∧ small m = true ∧ ds = rangeD n (n - m).toNat := by
  have main : ∀ (n m c : Int), items .rng [.int n, .int m, .int c] = some ds → ∃ n' m', [D.int n, D.int m, D.int c] = [.int n', .int m', .int (-1)] ∧ small n' = true ∧ small m' = true ∧ ds = rangeD n' (n' - m').toNat := by
    intro n m c e
    cases c with
    | ofNat k => cases e
    | negSucc k => cases k with
      | succ k => cases e
      | zero =>
        have e' : (if small n && small m then some (rangeD n (n - m).toNat) else none) = some ds := e
        split at e'
        · rename_i hs
          rw [Bool.and_eq_true_iff] at hs
          cases e'; exact ⟨n, m, rfl, hs.1, hs.2, rfl⟩
        · cases e'
  cases l with
  | nil => cases hl
  | cons x l => cases l with
    | nil => simp at hl
    | cons y l => cases l with
      | nil => simp at hl
      | cons z l => cases l with
        | cons _ _ => simp at hl
        | nil =>
          cases x <;> first | (cases e; done) | skip
          cases y <;> first | (cases e; done) | skip
          cases z <;> first | (cases e; done) | skip
          exact main _ _ _ e
theorem all2_len {α β : Type} {f : α → β → Bool} : ∀ {as : List α} {bs : List β}, all2 f as bs = true → as.length = bs.length
  | [], [], _ => rfl
  | [], _ :: _, c => by cases c
  | _ :: _, [], c => by cases c
  | a :: as, b :: bs, c => by
    rw [all2, Bool.and_eq_true_iff] at c
    simp [all2_len c.2]
theorem it_ix (F : Fac M L) (s : SE M N k ck r) (hb : Bx X M N sc k G.W) {ik : Ik} {its : List E} {te it : Expr} (c : ckIt L ck sc ik its te it = true) (g : (vls r its ρ h).good (fun p => ∃ ds, items ik p.1 = some ds ∧ U ds p.2) (fun c pl h' => G.PX c pl ρ h')) : IX X M G te it ρ h U := by
  unfold ckIt at c
  split at c
  · rw [Bool.and_eq_true_iff] at c
    refine ix_lst hb.toBw (vl_ex s hb c.1 (T.good_mono (fun p q => ?_) (fun _ _ _ q => q) (one_good g)))
    obtain ⟨ds, e, u⟩ := q
    generalize p.1 = d at e
    cases d <;> cases e
    exact ⟨_, rfl, u⟩
  · rw [Bool.and_eq_true_iff] at c
    refine ix_tup hb.toBw (vl_ex s hb c.1 (T.good_mono (fun p q => ?_) (fun _ _ _ q => q) (one_good g)))
    obtain ⟨ds, e, u⟩ := q
    generalize p.1 = d at e
    cases d <;> cases e
    · exact ⟨_, .inl rfl, u⟩
    · exact ⟨_, .inr rfl, u⟩
  · rw [Bool.and_eq_true_iff] at c
    refine ix_str (vl_ex s hb c.1 (T.good_mono (fun p q => ?_) (fun _ _ _ q => q) (one_good g)))
    obtain ⟨ds, e, u⟩ := q
    generalize p.1 = d at e
    cases d <;> first | (cases e; done) | skip
    rename_i z
    have e' : (if z.length ≤ lim then some (signs z) else none) = some ds := e
    split at e'
    · cases e'; exact ⟨z, rfl, u⟩
    · cases e'
  · rw [Bool.and_eq_true_iff] at c
    refine ix_keys (vl_ex s hb c.1 (T.good_mono (fun p q => ?_) (fun _ _ _ q => q) (one_good g)))
    obtain ⟨ds, e, u⟩ := q
    generalize p.1 = d at e
    cases d <;> first | (cases e; done) | skip
    cases e
    exact ⟨_, _, rfl, u⟩
  · split at c
    · simp only [Bool.and_eq_true, decide_eq_true_eq] at c
      obtain ⟨rfl, c2, c3, c4, c5⟩ := c
      obtain ⟨g1, g2, g3, g4⟩ := glob_ok c2
      refine ix_enum hb.toBw (F.free "enumerate" (by simpa using c3)) g1 (star_one c5) (vl_ex s hb c4 (T.good_mono (fun p q => ?_) (fun _ _ _ q => q) (one_good g)))
      obtain ⟨ds, e, u⟩ := q
      generalize p.1 = d at e
      cases d <;> first | (cases e; done) | skip
      cases e
      exact ⟨_, rfl, u⟩
    · cases c
  · split at c
    · rename_i x p as pos
      simp only [Bool.and_eq_true, decide_eq_true_eq] at c
      obtain ⟨rfl, c2, c3, c4, c5⟩ := c
      obtain ⟨g1, g2, g3, g4⟩ := glob_ok c2
      have hm := F.free "range" (by simpa using c3)
      unfold ckArgs at c4
      rw [Bool.and_eq_true_iff] at c4
      cases as with
      | nil => simp at c5
      | cons u as =>
        have st := c4.2
        rw [List.all_cons, Bool.and_eq_true_iff] at st
        cases as with
        | nil =>
          refine ix_range1 hb.toBw hm g1 (star_one st.1) (vls_ax s hb c4.1 c4.2 (T.good_mono (fun p q => ?_) (fun _ _ _ q => q) (vls_len g)))
          obtain ⟨hl, ds, e, uu⟩ := q
          obtain ⟨n, e1, e2, rfl⟩ := items_r1 e (hl.trans (all2_len c4.1))
          exact ⟨n, e1, e2, uu⟩
        | cons v as => cases as with
          | nil =>
            have st2 := st.2
            rw [List.all_cons, Bool.and_eq_true_iff] at st2
            refine ix_range2 hb.toBw hm g1 (by rw [star_cons _ st.1, star_one st2.1]) (star_one st2.1) (vls_ax s hb c4.1 c4.2 (T.good_mono (fun p q => ?_) (fun _ _ _ q => q) (vls_len g)))
            obtain ⟨hl, ds, e, uu⟩ := q
            obtain ⟨n, m, e1, e2, e3, rfl⟩ := items_r2 e (hl.trans (all2_len c4.1))
            exact ⟨n, m, e1, e2, e3, uu⟩
          | cons z as => cases as with
            | nil =>
              have st2 := st.2
              rw [List.all_cons, Bool.and_eq_true_iff] at st2
              refine ix_range3 hb.toBw hm g1 (by rw [star_cons _ st.1]) (star_all st.2) (vls_ax s hb c4.1 c4.2 (T.good_mono (fun p q => ?_) (fun _ _ _ q => q) (vls_len g)))
              obtain ⟨hl, ds, e, uu⟩ := q
              obtain ⟨n, m, e1, e2, e3, rfl⟩ := items_r3 e (hl.trans (all2_len c4.1))
              exact ⟨n, m, e1, e2, e3, uu⟩
            | cons z2 as => simp at c5
    · cases c
  · split at c
    · rename_i x p u v pos ts n tpos
      simp only [Bool.and_eq_true, decide_eq_true_eq] at c
      obtain ⟨rfl, c2, c3, c4⟩ := c
      obtain ⟨g1, g2, g3, g4⟩ := glob_ok c2
      have hm := F.free "zip" (by simpa using c3)
      unfold ckArgs at c4
      rw [Bool.and_eq_true_iff] at c4
      have st := c4.2
      rw [List.all_cons, Bool.and_eq_true_iff] at st
      refine ix_zip hb.toBw hm g1 (star_cons _ st.1) (star_all st.2) (vls_ax s hb c4.1 c4.2 (T.good_mono (fun p q => ?_) (fun _ _ _ q => q) (vls_len g)))
      obtain ⟨hl, ds, e, uu⟩ := q
      obtain ⟨x, y, e1, rfl⟩ := items_z e hl
      exact ⟨x, y, e1, uu⟩
    · cases c
  · cases c
theorem in_block (s : SE M N k ck r) {scope : Scope} {e : E} {b : Expr} (hb : Bx X M N sc k G.W) (c : ck (relS scope sc) e b = true) (g : (vl r e ρ h).good (fun p => P p.1 p.2) (fun _ _ _ => False)) : InB X M N scope sc k fun X' => EX X' M Gn b ρ h P := fun X' _ bx => vl_ex (G := Gn) s bx c g
theorem s_lcx (F : Fac M L) (s : SE M N k ck r) (st : STe M N k ckt t) (hb : Bx X M N sc k G.W) {tg : List Nat} {tp : Bool} {ik : Ik} {its cond : List E} {elt : E}
    (c : ckE1 L N ck ckt sc (.lc tg tp ik its cond elt) a = true) (g : (e_lc md r t ρ h tg tp ik its cond elt).good (fun p => PF p.1 p.2.1 p.2.2) (fun c pl h' => G.PX c pl ρ h')) : LCX X M G a ρ h PF := by
  have c : ckLc L N ck ckt sc tg tp ik its cond elt a = true := c
  unfold ckLc at c
  split at c
  · rename_i eb te it ifs scope pos _
    simp only [Bool.and_eq_true, decide_eq_true_eq] at c
    obtain ⟨c1, c2, c3, c4, c5, c6, c7⟩ := c
    have ow : (ownOf N tg).map (·.2) = tg := by unfold ownOf; rw [List.map_map]; simp [Function.comp_def]
    refine lcx_lc (T := tg) (ownOf N tg) (fun ds i acc h' => (lcGo r t tg tp cond elt ρ (ds.drop i) acc.reverse h').good (fun q => PF true (.lst q.1) q.2) (fun _ _ _ => False)) hb (blkOk_by c1) (fun j hj => by rw [ow]; exact hj) (fold_no c4)
      (it_ix F s hb c3 (T.good_mono (fun p q => ?_) (fun _ _ _ q => q) (good_bind.mp g)))
    split at q
    · rename_i ds hds
      split at q
      · rename_i hl
        refine ⟨ds, hds, by rw [← lim_eq]; exact hl, ?_, fun i d acc h' hd hi => ?_, fun acc h' hi => ?_⟩
        · rw [List.drop_zero]
          exact calm_good (T.good_mono (fun q z => z) (fun _ _ _ z => z) (good_bind.mp q))
        · have hdrop : ds.drop i = d :: ds.drop (i + 1) := by
            obtain ⟨hlt, e⟩ := List.getElem?_eq_some_iff.mp hd
            rw [← e, List.drop_eq_getElem_cons hlt]
          rw [hdrop] at hi
          have h1 := good_bind.mp hi
          cases ha : asg tg tp d (unset ρ tg) with
          | none => rw [ha] at h1; exact h1.elim
          | some ρ' =>
            rw [ha] at h1
            have h2 := good_bind.mp h1
            intro X' bk bx
            rw [ow]
            refine tg_gx bx c2 ha fun X'' bk2 bx2 => ?_
            have body : ∀ (b : Bool) (h2 : Hc), (if b then (vl r elt ρ' h2).bind fun p => lcGo r t tg tp cond elt ρ (ds.drop (i + 1)) (p.1 :: acc.reverse) p.2 else lcGo r t tg tp cond elt ρ (ds.drop (i + 1)) acc.reverse h2).good (fun q => PF true (.lst q.1) q.2) (fun _ _ _ => False) →
                (b = true → InB X M N scope sc k fun X' => EX X' M Gn eb ρ' h2 fun y h3 => (lcGo r t tg tp cond elt ρ (ds.drop (i + 1)) (acc ++ [y]).reverse h3).good (fun q => PF true (.lst q.1) q.2) (fun _ _ _ => False)) ∧ (b = false → (lcGo r t tg tp cond elt ρ (ds.drop (i + 1)) acc.reverse h2).good (fun q => PF true (.lst q.1) q.2) (fun _ _ _ => False)) := by
              intro b h2 hb2
              refine ⟨fun e => ?_, fun e => ?_⟩
              · rw [if_pos e] at hb2
                refine in_block s hb c7 (T.good_mono (fun p q => ?_) (fun _ _ _ q => q) (good_bind.mp hb2))
                rw [List.reverse_append]
                exact q
              · rw [if_neg (by rw [e]; exact Bool.false_ne_true)] at hb2
                exact hb2
            cases cond with
            | nil =>
              cases ifs with
              | nil => exact if_nil (body true h' h2)
              | cons _ _ => cases c5
            | cons e1 cond =>
              cases ifs with
              | nil => cases c5
              | cons f1 ifs =>
                cases ifs with
                | cons _ _ => simp at c6
                | nil =>
                  cases cond with
                  | cons _ _ => simp [all2] at c5
                  | nil =>
                    have c5' := c5
                    simp only [all2, Bool.and_true] at c5'
                    exact if_one (st X'' _ Gn e1 f1 ρ' h' _ bx2 c5' (T.good_mono (fun p q => body p.1 p.2 q) (fun _ _ _ q => q) h2))
        · have : ds.drop ds.length = [] := List.drop_length
          rw [this] at hi
          have hi : PF true (.lst acc.reverse.reverse) h' := hi
          rw [List.reverse_reverse] at hi
          exact hi
      · exact q.elim
    · exact q.elim
  · cases c
theorem drop_at {α : Type} {ds : List α} {i : Nat} {d : α} (hd : ds[i]? = some d) : ds.drop i = d :: ds.drop (i + 1) := by
  obtain ⟨hlt, e⟩ := List.getElem?_eq_some_iff.mp hd
  rw [← e, List.drop_eq_getElem_cons hlt]
theorem lst_ix {k0 : Nat} {X' : Cx} {sc' : Scope} {te it : Expr} {e : E} {ρ : Env} {h : Hc} {U : List D → Hc → Prop} (s : SE M N k ck r) (bx : Bx X' M N sc' k Gn.W) (c : ck sc' e it = true) (g : (vl r e ρ h).good (fun p => ∃ ds, items .lst [p.1] = some ds ∧ U ds p.2) (fun _ _ _ => False)) : IX X' M Gn te it ρ h U :=
  ix_lst bx.toBw (vl_ex (G := Gn) s bx c (T.good_mono (fun p q => by
    obtain ⟨ds, e, u⟩ := q
    generalize p.1 = d at e
    cases d <;> first | (cases e; done) | skip
    cases e
    exact ⟨_, rfl, u⟩) (fun _ _ _ q => q) g))
theorem s_lc3 (s : SE M N k ck r) (hb : Bx X M N sc k G.W) {x y z : Nat} {i j kk elt : E} (c : ckLc3 N ck sc x y z i j kk elt a = true) (g : (e_lc3 md r t ρ h x y z i j kk elt).good (fun p => PF p.1 p.2.1 p.2.2) (fun c pl h' => G.PX c pl ρ h')) : FX X M G a ρ h PF := by
  unfold ckLc3 at c
  split at c
  · rename_i eb t0 i0 t1 i1 t2 i2 scope pos
    simp only [Bool.and_eq_true, Bool.not_eq_true'] at c
    obtain ⟨c1, ⟨c2, c3, c4⟩, ⟨n0, n1, n2⟩, c5, c6, c7, c8, xy, xz, yz⟩ := c
    have nxy : x ≠ y := fun e => by rw [e, Nat.beq_refl] at xy; cases xy
    have nxz : x ≠ z := fun e => by rw [e, Nat.beq_refl] at xz; cases xz
    have nyz : y ≠ z := fun e => by rw [e, Nat.beq_refl] at yz; cases yz
    have ow : (ownOf N [x, y, z]).map (·.2) = [x, y, z] := rfl
    refine fx_lc3 (T0 := [x]) (T1 := [y]) (T2 := [z]) (ownOf N [x, y, z]) (fun ds n acc h' => (lc3Go r [x, y, z] j kk elt x y z ρ (ds.drop n) acc h').good (fun q => PF true (.lst q.1) q.2) (fun _ _ _ => False)) hb (blkOk_by c1) rfl (by simp; exact ⟨fun e => nxy e.symm, fun e => nxz e.symm⟩) (fun env => fold_no n0) (fun env => fold_no n1) (fun env => fold_no n2) ?_
    refine ix_tup hb.toBw (vl_ex s hb c5 (T.good_mono (fun p q => ?_) (fun _ _ _ q => q) (good_bind.mp g)))
    split at q
    · rename_i ds hds
      refine ⟨ds, ?_, ?_, fun wb Hb D0 hD n d acc h' hd hi => ?_, fun acc h' hi => ?_⟩
      · generalize p.1 = d at hds
        cases d <;> cases hds
        · exact .inl rfl
        · exact .inr rfl
      · rw [List.drop_zero]
        exact calm_good (T.good_mono (fun q z => z) (fun _ _ _ z => z) (good_bind.mp q))
      · rw [drop_at hd] at hi
        intro X' bk bx
        rw [ow]
        refine tg_gx (d := d) (ρ' := (unset ρ [x, y, z]).set x (some d)) bx c2 rfl ?_
        refine tbx_next (T := [y]) (Z := [z] ++ []) (fun es n2 acc2 h2 => (lc2Go r .lst [] kk elt y z ((unset ρ [x, y, z]).set x (some d)) (es.drop n2) acc2 h2).good (fun q => (lc3Go r [x, y, z] j kk elt x y z ρ (ds.drop (n + 1)) q.1 q.2).good (fun q => PF true (.lst q.1) q.2) (fun _ _ _ => False)) (fun _ _ _ => False)) hb hD (by simp; exact fun e => nyz e.symm) fun X2 bk2 bx2 => ?_
        refine lst_ix (k0 := 0) s bx2 c6 (T.good_mono (fun p2 q2 => ?_) (fun _ _ _ q => q) (good_bind.mp hi))
        split at q2
        · rename_i es hes
          refine ⟨es, hes, good_bind.mp q2, fun n2 d2 acc2 h2 hd2 hi2 => ?_, fun acc2 h2 hi2 => ?_⟩
          · rw [drop_at hd2] at hi2
            intro X3 bk3 bx3
            refine tg_gx (d := d2) (ρ' := ((unset ρ [x, y, z]).set x (some d)).set y (some d2)) bx3 c3 rfl ?_
            refine tbx_next (T := [z]) (Z := []) (fun fs n3 acc3 h3 => (lc1Go r elt z (((unset ρ [x, y, z]).set x (some d)).set y (some d2)) (fs.drop n3) acc3 h3).good (fun q => (lc2Go r .lst [] kk elt y z ((unset ρ [x, y, z]).set x (some d)) (es.drop (n2 + 1)) q.1 q.2).good (fun q => (lc3Go r [x, y, z] j kk elt x y z ρ (ds.drop (n + 1)) q.1 q.2).good (fun q => PF true (.lst q.1) q.2) (fun _ _ _ => False)) (fun _ _ _ => False)) (fun _ _ _ => False)) hb hD (fun _ h => by cases h) fun X4 bk4 bx4 => ?_
            refine lst_ix (k0 := 0) s bx4 c7 (T.good_mono (fun p3 q3 => ?_) (fun _ _ _ q => q) (good_bind.mp hi2))
            split at q3
            · rename_i fs hfs
              refine ⟨fs, hfs, good_bind.mp q3, fun n3 d3 acc3 h3 hd3 hi3 => ?_, fun acc3 h3 hi3 => ?_⟩
              · rw [drop_at hd3] at hi3
                intro X5 bk5 bx5
                refine tg_gx (d := d3) (ρ' := (((unset ρ [x, y, z]).set x (some d)).set y (some d2)).set z (some d3)) bx5 c4 rfl ?_
                refine tbx_last hb hD (in_block s hb c8 (T.good_mono (fun p4 q4 => ?_) (fun _ _ _ q => q) (good_bind.mp hi3)))
                split at q4
                · exact ⟨by assumption, q4⟩
                · exact q4.elim
              · have : fs.drop fs.length = [] := List.drop_length
                rw [this] at hi3
                exact hi3
            · exact q3.elim
          · have : es.drop es.length = [] := List.drop_length
            rw [this] at hi2
            exact hi2
        · exact q2.elim
      · have : ds.drop ds.length = [] := List.drop_length
        rw [this] at hi
        exact hi
    · exact q.elim
  · cases c
theorem s_call0 (A : Cls2 M L md k') (hk : k' ≤ k) (hb : Bx X M N sc k G.W) {f : Nat} (c : ckE1 L N ck ckt sc (.call0 f) a = true) (g : (e_call0 md h f).good (fun p => PF p.1 p.2.1 p.2.2) (fun c pl h' => G.PX c pl ρ h')) : FX X M G a ρ h PF := by
  simp only [ckE1] at c
  split at c
  · rename_i x p pos
    simp only [Bool.and_eq_true, decide_eq_true_eq] at c
    obtain ⟨c1, c2⟩ := c
    obtain ⟨g1, g2, g3, g4⟩ := glob_ok c2
    obtain ⟨ps, fc⟩ := A.fn f x c1
    have g := calm_good g
    unfold callV at g
    rw [if_pos (show nrL [] = true from rfl)] at g
    refine fx_call0 fc hb hk g1 g2 ?_
    exact T.good_mono (fun _ z => z) (fun _ _ _ z => z.2) (unR_good g)
  · cases c
theorem str_ix {X' : Cx} {sc' : Scope} {te it : Expr} {e : E} {ρ : Env} {h : Hc} {U : List D → Hc → Prop} (s : SE M N k ck r) (bx : Bx X' M N sc' k G.W) (c : ck sc' e it = true) (g : (vl r e ρ h).good (fun p => ∃ ds, items .str [p.1] = some ds ∧ U ds p.2) (fun c pl h' => G.PX c pl ρ h')) : IX X' M G te it ρ h U :=
  ix_str (vl_ex (G := G) s bx c (T.good_mono (fun p q => by
    obtain ⟨ds, e, u⟩ := q
    generalize p.1 = d at e
    cases d <;> first | (cases e; done) | skip
    rename_i z
    have e' : (if z.length ≤ lim then some (signs z) else none) = some ds := e
    split at e'
    · cases e'; exact ⟨z, rfl, u⟩
    · cases e') (fun _ _ _ q => q) g))
theorem s_lc2 (s : SE M N k ck r) (hb : Bx X M N sc k G.W) {x y : Nat} {i j elt : E} (c : ckLc2 N ck sc x y i j elt a = true) (g : (e_lc2 md r t ρ h x y i j elt).good (fun p => PF p.1 p.2.1 p.2.2) (fun c pl h' => G.PX c pl ρ h')) : FX X M G a ρ h PF := by
  unfold ckLc2 at c
  split at c
  · rename_i eb t0 i0 t1 i1 scope pos
    simp only [Bool.and_eq_true, Bool.not_eq_true'] at c
    obtain ⟨c1, ⟨c2, c3⟩, ⟨n0, n1⟩, c5, c6, c8, xy⟩ := c
    have nxy : x ≠ y := fun e => by rw [e, Nat.beq_refl] at xy; cases xy
    have ow : (ownOf N [x, y]).map (·.2) = [x, y] := rfl
    refine fx_lc2 (T0 := [x]) (T1 := [y]) (ownOf N [x, y]) (fun ds n acc h' => (lc2Go r .str [x, y] j elt x y ρ (ds.drop n) acc h').good (fun q => PF true (.lst q.1) q.2) (fun _ _ _ => False)) hb (blkOk_by c1) rfl (by simp; exact fun e => nxy e.symm) (fun env => fold_no n0) (fun env => fold_no n1) ?_
    refine str_ix s hb c5 (T.good_mono (fun p q => ?_) (fun _ _ _ q => q) (good_bind.mp g))
    split at q
    · rename_i ds hds
      refine ⟨ds, hds, ?_, fun wb Hb D0 hD n d acc h' hd hi => ?_, fun acc h' hi => ?_⟩
      · rw [List.drop_zero]
        exact calm_good (T.good_mono (fun q z => z) (fun _ _ _ z => z) (good_bind.mp q))
      · rw [drop_at hd] at hi
        intro X' bk bx
        rw [ow]
        refine tg_gx (d := d) (ρ' := (unset ρ [x, y]).set x (some d)) bx c2 rfl ?_
        refine tbx_next (T := [y]) (Z := []) (fun es n2 acc2 h2 => (lc1Go r elt y ((unset ρ [x, y]).set x (some d)) (es.drop n2) acc2 h2).good (fun q => (lc2Go r .str [x, y] j elt x y ρ (ds.drop (n + 1)) q.1 q.2).good (fun q => PF true (.lst q.1) q.2) (fun _ _ _ => False)) (fun _ _ _ => False)) hb hD (fun _ h => by cases h) fun X2 bk2 bx2 => ?_
        refine str_ix (G := Gn) s bx2 c6 (T.good_mono (fun p2 q2 => ?_) (fun _ _ _ q => q) (good_bind.mp hi))
        split at q2
        · rename_i es hes
          refine ⟨es, hes, good_bind.mp q2, fun n2 d2 acc2 h2 hd2 hi2 => ?_, fun acc2 h2 hi2 => ?_⟩
          · rw [drop_at hd2] at hi2
            intro X3 bk3 bx3
            refine tg_gx (d := d2) (ρ' := ((unset ρ [x, y]).set x (some d)).set y (some d2)) bx3 c3 rfl ?_
            refine tbx_last hb hD (in_block s hb c8 (T.good_mono (fun p4 q4 => ?_) (fun _ _ _ q => q) (good_bind.mp hi2)))
            split at q4
            · exact ⟨by assumption, q4⟩
            · exact q4.elim
          · have : es.drop es.length = [] := List.drop_length
            rw [this] at hi2
            exact hi2
        · exact q2.elim
      · have : ds.drop ds.length = [] := List.drop_length
        rw [this] at hi
        exact hi
    · exact q.elim
  · cases c
theorem s_dc (F : Fac M L) (s : SE M N k ck r) (hb : Bx X M N sc k G.W) {t0 : Bool} {x : Nat} {ik : Ik} {it kx vx : E} (c : ckDc N ck sc x ik it kx vx a = true) (g : (e_dc md r t ρ h t0 x ik it kx vx).good (fun p => PF p.1 p.2.1 p.2.2) (fun c pl h' => G.PX c pl ρ h')) : LCX X M G a ρ h PF := by
  unfold ckDc at c
  split at c
  · rename_i ke ve te ie scope pos _
    simp only [Bool.and_eq_true] at c
    obtain ⟨c1, c2, c3, c4, c5, c6⟩ := c
    have ow : (ownOf N [x]).map (·.2) = [x] := rfl
    refine lcx_dct (t := t0) (T := [x]) (ownOf N [x]) (fun ds i acc h' => (dcGo r t0 x kx vx ρ (ds.drop i) acc h').good (fun q => PF true (.dct t0 q.1) q.2) (fun _ _ _ => False)) hb (blkOk_by c1) (fun j hj => by rw [ow]; exact hj) (fold_no c4) ?_
    split at c3 <;> first | (cases c3; done) | skip
    · refine ix_tup hb.toBw (vl_ex s hb c3 (T.good_mono (fun p q => ?_) (fun _ _ _ q => q) (good_bind.mp g)))
      split at q
      · rename_i ds hds
        split at q
        · rename_i hl
          have q2 : (dcGo r t0 x kx vx ρ ds [] p.2).good (fun q => PF true (.dct t0 q.1) q.2) (fun _ _ _ => False) := calm_good (T.good_mono (fun q z => z) (fun _ _ _ z => z) (good_bind.mp q))
          refine ⟨ds, ?_, by rw [← lim_eq]; exact hl, by rw [List.drop_zero]; exact q2, fun i d acc h' hd hi => ?_, fun acc h' hi => ?_⟩
          · generalize p.1 = d at hds
            cases d <;> cases hds
            · exact .inl rfl
            · exact .inr rfl
          · have hdrop : ds.drop i = d :: ds.drop (i + 1) := by
              obtain ⟨hlt, e⟩ := List.getElem?_eq_some_iff.mp hd
              rw [← e, List.drop_eq_getElem_cons hlt]
            rw [hdrop] at hi
            intro X' bk bx
            rw [ow]
            refine tg_gx (d := d) (ρ' := (unset ρ [x]).set x (some d)) bx c2 rfl ?_
            refine in_block s hb c5 (T.good_mono (fun p1 q1 => ?_) (fun _ _ _ q => q) (good_bind.mp hi))
            refine in_block s hb c6 (T.good_mono (fun p2 q2 => ?_) (fun _ _ _ q => q) (good_bind.mp q1))
            split at q2
            · rename_i hf
              exact ⟨hf, q2⟩
            · exact q2.elim
          · have : ds.drop ds.length = [] := List.drop_length
            rw [this] at hi
            exact hi
        · exact q.elim
      · exact q.elim
    · refine ix_lst hb.toBw (vl_ex s hb c3 (T.good_mono (fun p q => ?_) (fun _ _ _ q => q) (good_bind.mp g)))
      split at q
      · rename_i ds hds
        split at q
        · rename_i hl
          have q2 : (dcGo r t0 x kx vx ρ ds [] p.2).good (fun q => PF true (.dct t0 q.1) q.2) (fun _ _ _ => False) := calm_good (T.good_mono (fun q z => z) (fun _ _ _ z => z) (good_bind.mp q))
          refine ⟨ds, ?_, by rw [← lim_eq]; exact hl, by rw [List.drop_zero]; exact q2, fun i d acc h' hd hi => ?_, fun acc h' hi => ?_⟩
          · generalize p.1 = d at hds
            cases d <;> cases hds
            rfl
          · have hdrop : ds.drop i = d :: ds.drop (i + 1) := by
              obtain ⟨hlt, e⟩ := List.getElem?_eq_some_iff.mp hd
              rw [← e, List.drop_eq_getElem_cons hlt]
            rw [hdrop] at hi
            intro X' bk bx
            rw [ow]
            refine tg_gx (d := d) (ρ' := (unset ρ [x]).set x (some d)) bx c2 rfl ?_
            refine in_block s hb c5 (T.good_mono (fun p1 q1 => ?_) (fun _ _ _ q => q) (good_bind.mp hi))
            refine in_block s hb c6 (T.good_mono (fun p2 q2 => ?_) (fun _ _ _ q => q) (good_bind.mp q1))
            split at q2
            · rename_i hf
              exact ⟨hf, q2⟩
            · exact q2.elim
          · have : ds.drop ds.length = [] := List.drop_length
            rw [this] at hi
            exact hi
        · exact q.elim
      · exact q.elim
  · cases c
theorem s_mk (A : Cls2 M L md k') (hk : k' + 1 ≤ k) (hmk : ∀ j, md.mk_ j = L.pg.mks.getD j (0, 0, [])) (s : SE M N k ck r) (hb : Bx X M N sc k G.W) {j : Nat} {es : List E} (c : ckE1 L N ck ckt sc (.mk j es) a = true)
    (g : (e_mk md r t ρ h j es).good (fun p => PF p.1 p.2.1 p.2.2) (fun c pl h' => G.PX c pl ρ h')) : FX X M G a ρ h PF := by
  simp only [ckE1] at c
  split at c
  · rename_i x p u us pos
    rw [Bool.and_eq_true_iff, Bool.and_eq_true_iff] at c
    obtain ⟨c1, c2, c3⟩ := c
    obtain ⟨gl1, g2, g3, g4⟩ := glob_ok c2
    split at c1
    · rename_i q hq
      obtain ⟨C, f, dfl⟩ := q
      obtain ⟨ps, mc⟩ := A.make j C f dfl hq x (by simpa using c1)
      have e : md.mk_ j = (C, f, dfl) := by rw [hmk, List.getD_eq_getElem?_getD, hq]; rfl
      unfold ckArgs at c3
      rw [Bool.and_eq_true_iff] at c3
      have st := c3.2
      rw [List.all_cons, Bool.and_eq_true_iff] at st
      refine fx_mk mc hb hk gl1 g2 (star_cons us st.1) (star_all st.2) (vls_ax s hb c3.1 c3.2 (T.good_mono (fun p q => ?_) (fun _ _ _ q => q) (good_bind.mp g)))
      rw [e] at q
      unfold mkV at q
      split at q
      · rename_i hn
        exact ⟨hn, mkR_good q⟩
      · exact q.elim
    · cases c1
  · cases c
end
section
variable {M : Mx} {L : Lw} {N : List Str} {k k' : Nat} {ck ckt : CkE} {r : Ev} {t : Et} {X : Cx} {sc : Scope} {G : Gx} {ρ : Env} {h : Hc} {PF : Bool → D → Hc → Prop} {a : Expr} {md : Md}
theorem set_self {h : Hc} {j : Nat} {d : D} (e : h[j]? = some (some d)) : h.set j (some d) = h := by
  apply List.ext_getElem?
  intro i
  by_cases hi : j = i
  · subst hi
    rw [List.getElem?_set_self (List.getElem?_eq_some_iff.mp e).1, e]
  · rw [List.getElem?_set_ne hi]
theorem s_draw (A : Cls2 M L md k') (hk : k' ≤ k) (s : SE M N k ck r) (hb : Bx X M N sc k G.W) {i : Nat} {n : E} (c : ckE1 L N ck ckt sc (.draw i n) a = true) (g : (e_draw md r t ρ h i n).good (fun p => PF p.1 p.2.1 p.2.2) (fun c pl h' => G.PX c pl ρ h')) : FX X M G a ρ h PF := by
  simp only [ckE1] at c
  split at c
  · rename_i x p y p2 u pos
    simp only [Bool.and_eq_true, decide_eq_true_eq, slotV] at c
    obtain ⟨c0, rfl, c2, ⟨c3, c4, c5⟩, c6, c7⟩ := c
    obtain ⟨g1, g2, g3, g4⟩ := glob_ok c2
    obtain ⟨n1, n2, n3⟩ := nmB_ok c5
    obtain ⟨ps, fc⟩ := A.draw c0
    unfold e_draw at g
    split at g
    · rename_i j hj
      refine fx_callZ (j := j) fc hb hk g1 g2 rfl (star_all (es := [u]) (by simp [c7])) (ax_cons rfl (ex_var i hb.toBw hj ?_ c3 (kindV_ok c4) n1 n2))
      refine ax_cons (star_cons [] c7) (vl_ex s hb c6 (T.good_mono (fun p q => ax_nil ?_) (fun _ _ _ q => q) (good_bind.mp g)))
      split at q
      · rename_i m hm hz
        split at q
        · rename_i hl
          refine ⟨[.int m], .zz, by rw [hz]; rfl, rfl, hm, rfl, m, rfl, rfl, hl.1, hl.2, fun i hi => ⟨rfl, rfl, .zz, rfl, rfl, ?_⟩⟩
          rw [set_self hm]
          exact q i hi
        · exact q.elim
      · exact q.elim
    · exact g.elim
  · cases c
end
/-! ### all together -/
section
variable {M : Mx} {L : Lw} {N : List Str} {k k' : Nat} {md : Md}
theorem stepE_ok (F : Fac M L) (A : Cls2 M L md k') (hk : k' + 1 ≤ k) (hgl : ∀ g, md.gl g = L.pg.gls.getD g .non) {ck ckt : CkE} {r : Ev} {t : Et} (s : SE M N k ck r) (st : STe M N k ckt t) (hmk : ∀ j, md.mk_ j = L.pg.mks.getD j (0, 0, [])) : SE M N k (ckE1 L N ck ckt) (stepE md r t) := by
  intro X sc G e a ρ h PF hb c g
  cases e with
  | var i =>
    simp only [ckE1] at c
    split at c
    · simp only [slotV, Bool.and_eq_true, decide_eq_true_eq] at c
      obtain ⟨c1, c2, c3⟩ := c
      obtain ⟨n1, n2, n3⟩ := nmB_ok c3
      have g : (e_var md r t ρ h i).good (fun p => PF p.1 p.2.1 p.2.2) (fun c pl h' => G.PX c pl ρ h') := g
      unfold e_var at g
      split at g
      · exact EX.fx (ex_var i hb.toBw (by assumption) g c1 (kindV_ok c2) n1 n2)
      · exact g.elim
    · cases c
  | take i =>
    simp only [ckE1] at c
    split at c
    · simp only [slotV, Bool.and_eq_true, decide_eq_true_eq] at c
      obtain ⟨c1, c2, c3⟩ := c
      obtain ⟨n1, n2, n3⟩ := nmB_ok c3
      have g : (e_take md r t ρ h i).good (fun p => PF p.1 p.2.1 p.2.2) (fun c pl h' => G.PX c pl ρ h') := g
      unfold e_take at g
      split at g
      · split at g
        · split at g
          · exact fx_take i hb.toBw (by assumption) (by assumption) (by assumption) g c1 (kindV_ok c2) n1 n2
          · exact g.elim
        · exact g.elim
      · exact g.elim
    · cases c
  | cst d => exact EX.fx (cst_ok c g)
  | gl n =>
    simp only [ckE1] at c
    split at c
    · simp only [Bool.and_eq_true, decide_eq_true_eq] at c
      obtain ⟨g1, g2, g3, g4⟩ := glob_ok c.2
      obtain ⟨v, u, h1, h2, h3⟩ := F.gl n _ c.1
      have g : PF false (md.gl n) h := g
      rw [hgl] at g
      exact EX.fx (ex_gl hb.toBw h1 h2 h3 g g1 g2)
    · cases c
  | ty n =>
    simp only [ckE1] at c
    split at c
    · simp only [Bool.and_eq_true, decide_eq_true_eq] at c
      obtain ⟨c1, c2, c3⟩ := c
      obtain ⟨g1, g2, g3, g4⟩ := glob_ok c2
      exact EX.fx (ex_ty hb.toBw (F.free _ (by simpa using c3)) c1 g g1 g4 g2)
    · cases c
  | op2 o x y => exact s_op2' (t := t) (Md := md) s hb c g
  | not x =>
    simp only [ckE1] at c
    split at c
    · refine EX.fx (ex_notT hb.toBw (vl_ex s hb c (T.good_mono (fun p q => ?_) (fun _ _ _ q => q) (good_bind.mp g))))
      split at q
      · exact ⟨_, by assumption, q⟩
      · exact q.elim
    · cases c
  | and xs =>
    simp only [ckE1] at c
    split at c
    · exact EX.fx (andV_ex s hb c g)
    · cases c
  | or xs =>
    simp only [ckE1] at c
    split at c
    · exact EX.fx (orV_ex s hb c g)
    · cases c
  | ite c1 x y =>
    simp only [ckE1] at c
    split at c
    · simp only [Bool.and_eq_true] at c
      refine fx_ite (st X sc G _ _ ρ h _ hb c.1 (T.good_mono (fun p q => ⟨fun e => ?_, fun e => ?_⟩) (fun _ _ _ q => q) (good_bind.mp g)))
      · rw [if_pos e] at q
        exact s X sc G _ _ ρ _ PF hb c.2.1 q
      · rw [if_neg (by rw [e]; exact Bool.false_ne_true)] at q
        exact s X sc G _ _ ρ _ PF hb c.2.2 q
    · cases c
  | chain o o' x y z => exact s_chain' (t := t) (Md := md) s hb c g
  | tup es =>
    simp only [ckE1] at c
    split at c
    · simp only [Bool.and_eq_true, decide_eq_true_eq, ckArgs] at c
      refine EX.fx (ex_tup (vls_ax s hb c.1.1 c.1.2 (T.good_mono (fun p q => ⟨q.2, ?_⟩) (fun _ _ _ q => q) (vls_len (good_bind.mp g)))))
      rw [q.1, ← lim_eq]
      exact Nat.le_trans c.2 (by decide)
    · cases c
  | lst es =>
    simp only [ckE1] at c
    split at c
    · simp only [Bool.and_eq_true, decide_eq_true_eq, ckArgs] at c
      refine fx_lst (vls_ax s hb c.1.1 c.1.2 (T.good_mono (fun p q => ⟨q.2, ?_⟩) (fun _ _ _ q => q) (vls_len (good_bind.mp g))))
      rw [q.1, ← lim_eq]
      exact Nat.le_trans c.2 (by decide)
    · cases c
  | bi b es => exact s_bi (md := md) (t := t) F s hb c g
  | me m x es => exact s_me (md := md) (t := t) s hb c g
  | slice x lo hi => exact s_slice (md := md) (t := t) s hb c g
  | call f es => exact s_call (md := md) (t := t) A (Nat.le_of_succ_le hk) s hb c g
  | lc tg tp ik its cond elt => exact LCX.fx (s_lcx (md := md) (t := t) F s st hb c g)
  | lc2 x y i j elt => exact s_lc2 (md := md) (t := t) s hb c g
  | lc3 x y z i j kk elt => exact s_lc3 (md := md) (t := t) s hb c g
  | call0 f => exact s_call0 (md := md) A (Nat.le_of_succ_le hk) hb c g
  | dc t0 x ik it kx vx =>
    simp only [ckE1] at c
    exact LCX.fx (s_dc (md := md) (t := t) F s hb c g)
  | rev x =>
    simp only [ckE1] at c
    split at c
    · refine fx_rev hb.toBw (vl_ex s hb c (T.good_mono (fun p q => ?_) (fun _ _ _ q => q) (good_bind.mp g)))
      split at q
      · exact ⟨_, by assumption, q⟩
      · exact q.elim
    · cases c
  | dct0 t0 =>
    simp only [ckE1] at c
    split at c
    · exact fx_dct0 g
    · cases c
  | dct ks vs =>
    simp only [ckE1] at c
    split at c
    · simp only [Bool.and_eq_true] at c
      refine fx_dct1 (vl_ex s hb c.1 (T.good_mono (fun p q => ?_) (fun _ _ _ q => q) (good_bind.mp g)))
      split at q
      · exact ⟨by assumption, vl_ex s hb c.2 (T.good_mono (fun p2 q2 => q2) (fun _ _ _ q => q) (good_bind.mp q))⟩
      · exact q.elim
    · cases c
  | lrange x =>
    simp only [ckE1] at c
    split at c
    · simp only [Bool.and_eq_true, decide_eq_true_eq] at c
      obtain ⟨rfl, c1, c2, rfl, c3, c4, c5, c6⟩ := c
      obtain ⟨g1, g2, g3, g4⟩ := glob_ok c1
      obtain ⟨h1, h2, h3, h4⟩ := glob_ok c3
      refine fx_lrange hb (F.free "list" (by simpa using c2)) g1 (F.free "range" (by simpa using c4)) h1 (star_one c6) (vl_ex s hb c5 (T.good_mono (fun p q => ?_) (fun _ _ _ q => q) (good_bind.mp g)))
      split at q
      · split at q
        · rename_i hz
          exact ⟨_, by assumption, hz.1, hz.2, q⟩
        · exact q.elim
      · exact q.elim
    · cases c
  | new x =>
    refine EX.fx (FX.new (s X sc G x a ρ h _ hb c (T.good_mono (fun p q => ?_) (fun _ _ _ q => q) (good_bind.mp g))))
    split at q
    · exact ⟨by assumption, q⟩
    · exact q.elim
  | mk j es => exact s_mk (md := md) (t := t) A hk hmk s hb c g
  | callR f sl es => exact s_callR (md := md) (t := t) A (Nat.le_of_succ_le hk) s hb c g
  | fld C x n => exact s_fld (md := md) (t := t) F s hb c g
  | fs es => exact s_fs s hb c g
  | fmt x => exact s_fmt s hb c g
  | eqI C f x y => exact FX.mono (s_eqI (md := md) A (Nat.le_of_succ_le hk) s hb c g) (fun f d h z => by obtain ⟨rfl, _, z⟩ := z; exact z)
  | isI C x => exact s_isI F s hb c g
  | draw i n => exact s_draw (md := md) (t := t) A (Nat.le_of_succ_le hk) s hb c g
  | mcB C x m f es => exact s_mcB (md := md) A (Nat.le_of_succ_le hk) s hb c g
  | mcR C x m f es => exact s_mcR (md := md) A (Nat.le_of_succ_le hk) s hb c g
  | lenI C f x => exact s_lenI (md := md) F A hk s hb c g
  | eqB C f x y => exact s_eqB (md := md) F A (Nat.le_of_succ_le hk) s hb c g
  | callL f x es => exact s_callL (md := md) A (Nat.le_of_succ_le hk) s hb c g
  | mkL j es => exact s_mkL (md := md) A hk hmk s hb c g
  | _ => cases c
theorem stepT_ok (A : Cls2 M L md k') (hk : k' + 1 ≤ k) {ck0 ckt0 ckt : CkE} {r0 : Ev} {t0 t : Et} (s0 : SE M N k ck0 r0) (s : SE M N k (ckE1 L N ck0 ckt0) (stepE md r0 t0)) (st : STe M N k ckt t) : STe M N k (ckT1 (ckE1 L N ck0 ckt0) ckt) (stepT (stepE md r0 t0) t) := by
  intro X sc G e a ρ h B hb c g
  have dflt : (stepT (stepE md r0 t0) t e ρ h = (stepE md r0 t0 e ρ h).bind fun p => match tru p.2.2 p.2.1 with | some b => T.ok (b, p.2.2) | none => .no) → ckT0 (ckE1 L N ck0 ckt0) sc e a = true → TX X M G a ρ h B := by
    intro e1 c
    rw [e1] at g
    unfold ckT0 at c
    split at c
    · rename_i l op w p
      rw [Bool.and_eq_true_iff] at c
      cases e <;> first | (cases c.2; done) | skip
      · rename_i o x y
        exact t_cmp (t := t0) (Md := md) s0 hb c.1 g
      · exact t_eqI (md := md) A (Nat.le_of_succ_le hk) s0 hb c.1 g
    · rw [Bool.and_eq_true_iff] at c
      cases e <;> first | (cases c.2; done) | skip
      exact t_chain (t := t0) (Md := md) s0 hb c.1 g
    · rw [Bool.and_eq_true_iff] at c
      refine tx_tru (test_no c.2) hb.toBw (FX.ex (s X sc G e _ ρ h _ hb c.1 (T.good_mono (fun p q => ?_) (fun _ _ _ q => q) (good_bind.mp g))))
      split at q
      · exact ⟨_, by assumption, q⟩
      · exact q.elim
  cases e with
  | not x =>
    simp only [ckT1] at c
    split at c
    · exact tx_not (st X sc G _ _ ρ h _ hb c (T.good_mono (fun p q => q) (fun _ _ _ q => q) (good_bind.mp g)))
    · cases c
  | and xs =>
    simp only [ckT1] at c
    split at c
    · exact WXX.tx (andT_wx st hb c g)
    · cases c
  | or xs =>
    simp only [ckT1] at c
    split at c
    · exact WXX.tx (orT_wx st hb c g)
    · cases c
  | _ => exact dflt rfl c
/-- a comprehension may be stored at once -/
def SE2 (M : Mx) (N : List Str) (k : Nat) (ck : CkE) (r : Ev) : Prop := ∀ (X : Cx) (sc : Scope) (G : Gx) (e : E) (a : Expr) (ρ : Env) (h : Hc) (PF : Bool → D → Hc → Prop), Bx X M N sc k G.W → isLc e = true → ck sc e a = true → (r e ρ h).good (fun p => PF p.1 p.2.1 p.2.2) (fun c pl h' => G.PX c pl ρ h') → LCX X M G a ρ h PF
theorem evE_ok (F : Fac M L) (A : Cls2 M L md k') (hk : k' + 1 ≤ k) (hgl : ∀ g, md.gl g = L.pg.gls.getD g .non) (hmk : ∀ j, md.mk_ j = L.pg.mks.getD j (0, 0, [])) : ∀ n, SE M N k (ckEE L N n).1 (evE md n).1 ∧ STe M N k (ckEE L N n).2 (evE md n).2
  | 0 => ⟨fun X sc G e a ρ h PF hb c g => (by cases c), fun X sc G e a ρ h B hb c g => (by cases c)⟩
  | n + 1 => by
    obtain ⟨h1, h2⟩ := evE_ok F A hk hgl hmk n
    have s1 := stepE_ok (N := N) F A hk hgl h1 h2 hmk
    exact ⟨s1, stepT_ok (md := md) A hk h1 s1 h2⟩
theorem evE_ok2 (F : Fac M L) (A : Cls2 M L md k') (hk : k' + 1 ≤ k) (hgl : ∀ g, md.gl g = L.pg.gls.getD g .non) (hmk : ∀ j, md.mk_ j = L.pg.mks.getD j (0, 0, [])) : ∀ n, SE2 M N k (ckEE L N n).1 (evE md n).1
  | 0 => fun X sc G e a ρ h PF hb i c g => (by cases c)
  | n + 1 => fun X sc G e a ρ h PF hb i c g => by
    obtain ⟨h1, h2⟩ := evE_ok (N := N) F A hk hgl hmk n
    cases e <;> first | (cases i; done) | skip
    · exact s_lcx (md := md) F h1 h2 hb c g
    · exact s_dc (md := md) (t := (evE md n).2) F h1 hb c g
end
end Yl

set_option maxRecDepth 100000
set_option maxHeartbeats 4000000
/-! Y20: the cell of the draws, opened and closed. -/
namespace Yl
open PySem PySem.Spec PyProof.Rows L2
/-- the draws' cell, opened -/
def zzD (qs : List Int) (i c s : Int) : D := .lst [.lst (qs.map D.int), .int i, .int c, .int s]
section
variable {M : Mx} {w : Wd} {H : Hp} {j : Nat} {a : Addr} {d0 d : D}
theorem ints_rep {F : Hp} {m : List Addr} : ∀ {qs : List Int}, RepL M F m (qs.map V.int) (qs.map D.int)
  | [] => .nil
  | q :: qs => .cons (.int q) ints_rep
theorem rep_ints {F : Hp} {m : List Addr} : ∀ {qs : List Int} {vs : List V}, RepL M F m vs (qs.map D.int) → vs = qs.map V.int
  | [], vs, r => r.nil_inv
  | s :: ss, vs, r => by
    obtain ⟨v, us, rfl, r1, r2⟩ := At.cons_inv (ys := ss.map D.int) (y := .int s) r
    rw [r1.int_inv, rep_ints r2]; rfl
/-- the cell j is told in other words -/
theorem ext_say (k : WOk M w H) (h0 : w.h[j]? = some (some d0)) (c : ∀ u, Cont M w.F w.m d0 u → Cont M w.F w.m d u) : Ext w H (w.put j (some d)) H ∧ WOk M (w.put j (some d)) H := by
  refine ⟨⟨fun _ _ h => h, fun _ _ h => h, fun b o h n => .inl h, fun b h => h, fun _ _ h => .inl h, fun i b l => .inl ⟨i, live_put l ⟨d0, h0⟩⟩⟩, ⟨k.le, by simp [k.lm], fun i d' h => ?_, fun i l b x y => k.inj i l b (live_put x ⟨d0, h0⟩) (live_put y ⟨d0, h0⟩)⟩⟩
  have h : (w.h.set j (some d))[i]? = some (some d') := h
  by_cases hj : j = i
  · subst hj
    rw [List.getElem?_set_self (List.getElem?_eq_some_iff.mp h0).1] at h
    cases h
    obtain ⟨b, u, h1, h2, h3, h4⟩ := k.al j d0 h0
    exact ⟨b, u, h1, h2, h3, c u h4⟩
  · rw [List.getElem?_set_ne hj] at h
    exact k.al i d' h
theorem zz_open (k : WOk M w H) (h0 : w.h[j]? = some (some .zz)) : ∃ qs i c s, 0 ≤ i ∧ 0 ≤ c ∧ 0 ≤ s ∧ s < 2 ^ 31 ∧ Ext w H (w.put j (some (zzD qs i c s))) H ∧ WOk M (w.put j (some (zzD qs i c s))) H := by
  obtain ⟨b, u, h1, h2, h3, h4⟩ := k.al j .zz h0
  cases u <;> first | exact h4.elim | skip
  obtain ⟨q, i, c, s, qs, e, hq, b1, b2, b3, b4⟩ := h4
  subst e
  have ir : RepL M w.F w.m (qs.map V.int) (qs.map D.int) := ints_rep
  have c3 : Cont M w.F w.m (zzD qs i c s) (.lst [.ref q, .int i, .int c, .int s]) := At.cons (.lst hq ir.1 ir.2) (.cons (.int i) (.cons (.int c) (.cons (.int s) .nil)))
  have e0 := ext_put k h0 h1 c3
  have eq : upd H b (.lst [.ref q, .int i, .int c, .int s]) = H := by
    funext x
    by_cases hx : x = b
    · subst hx; rw [upd_same, h3]
    · rw [upd_ne hx]
  rw [eq] at e0
  exact ⟨qs, i, c, s, b1, b2, b3, b4, e0⟩
theorem zz_close {qs : List Int} {i c s : Int} (k : WOk M w H) (h0 : w.h[j]? = some (some (zzD qs i c s))) (b1 : 0 ≤ i) (b2 : 0 ≤ c) (b3 : 0 ≤ s) (b4 : s < 2 ^ 31) : Ext w H (w.put j (some .zz)) H ∧ WOk M (w.put j (some .zz)) H :=
  ext_say k h0 fun u cu => by
    cases u <;> first | exact cu.elim | skip
    obtain ⟨v0, r0, rfl, p0, q0⟩ := At.cons_inv cu
    obtain ⟨v1, r1, rfl, p1, q1⟩ := q0.cons_inv
    obtain ⟨v2, r2, rfl, p2, q2⟩ := q1.cons_inv
    obtain ⟨v3, r3, rfl, p3, q3⟩ := q2.cons_inv
    obtain rfl := q3.nil_inv
    obtain ⟨q, u, rfl, fq, cq⟩ := rep_unbox rfl p0
    cases u <;> first | exact cq.elim | skip
    rename_i vs
    have := rep_ints (qs := qs) cq
    subst this
    exact ⟨q, i, c, s, qs, by rw [p1.int_inv, p2.int_inv, p3.int_inv], fq, b1, b2, b3, b4⟩
end
end Yl

set_option maxRecDepth 100000
set_option maxHeartbeats 4000000
/-! Y17: statements, defs, the program. -/
namespace Yl
open PySem PySem.Spec PyProof.Rows L2
open T (good_bind)
theorem good_sx {α : Type} {ρ : Env} {f : α → T Out} {S : Out → Prop} {PX : Nat → Pl → Hc → Prop} : ∀ {t : T α}, (sx ρ f t).good S PX → t.good (fun a => (f a).good S PX) (fun c pl h => S (.xx c pl ρ h))
  | .ok a, g => g
  | .ex c pl h, g => g
  | .no, g => g
  | .dr n g', g => fun i hi => good_sx (g i hi)
/-! ### the check of statements -/
abbrev CkS := S → Stmt → Bool
section
variable (L : Lw) (N : List Str) (sc : Scope) (ce ct : CkE)
def ckNm (i : Nat) (x : Str) : Bool := decide (N[i]? = some x) && kindS sc x
def ckHds : List Hd → List ExceptHandler → Bool
  | [], [] => true
  | .c tb i d :: hs, .ExceptHandler (some (.Name y _)) none [.Assign [.Name x _] e _] _ :: hds =>
    (L.cnm.any fun p => decide (p.2 = y) && tb.all fun q => L.exm.contains (q.1, p.1, q.2)) && (glob sc y && (ckNm N sc i x && ((match e with | .Constant c _ _ => ckConst d c | _ => false) && ckHds hs hds)))
  | _, _ => false
def ckTry (hs : List Hd) (hds : List ExceptHandler) : Bool := match hs, hds with
  | [.f tb ei i n], [.ExceptHandler (some (.Name y _)) (some en) [.Assign [.Name x _] (.Attribute (.Name en' _) f _) _] _] =>
    (L.cnm.any fun p => decide (p.2 = y) && ((tb.all fun q => L.exm.contains (q.1, p.1, q.2)) && ((tb.all fun q => !q.2 || Nat.beq q.1 p.1) && L.xf.contains (p.1, n)))) && (glob sc y && (decide (N[ei]? = some en) && (decide (sc.names.lookup en = some .local) && (decide (ei ≠ i) && (nmB en && (ckNm N sc i x && (decide (en' = en) && decide (f = ts n))))))))
  | hs, hds => !hds.isEmpty && ckHds L N sc hs hds
def ckS1 (cs : CkS) (s : S) (a : Stmt) : Bool := match s with
  | .set i e => match a with | .Assign [.Name x py] w _ => ckNm N sc i x && (ce sc e w && (noComp w || (isLc e && swOk sc x py w))) | _ => false
  | .setT tg e => match a with | .Assign [t] w _ => ckTgS N sc tg true t && (ce sc e w && (noComp w && noTup w)) | _ => false
  | .aug i .add e => match a with | .AugAssign (.Name x _) .Add w _ => ckNm N sc i x && ce sc e w | _ => false
  | .setFld C o n e => match a with | .Assign [.Attribute b f _] w _ => decide (f = ts n) && (ce sc o b && (ce sc e w && (noComp w && (L.plain.contains C && L.noat.contains (C, n)))))| _ => false
  | .setIx o i e => match a with | .Assign [.Subscript b j _] w _ => ce sc o b && (ce sc i j && (ce sc e w && noSlice j)) | _ => false
  | .ex e => match a with | .Expr w _ => ce sc e w && noComp w | _ => false
  | .ite c x y => match a with | .If w u v _ => ct sc c w && (all2 cs x u && all2 cs y v) | _ => false
  | .for_ tg tp ik its body => match a with | .For t i b [] _ => ckTgS N sc tg tp t && (ckIt L ce sc ik its t i && (noSet i && all2 cs body b)) | _ => false
  | .while_ c body => match a with | .While w b [] _ => ct sc c w && all2 cs body b | _ => false
  | .ret e => match a with | .Return (some w) _ => ce sc e w | _ => false
  | .retN => match a with | .Return none _ => true | _ => false
  | .raise C fl es => match a with
    | .Raise (some (.Call (.Name x _) as [] _)) none _ => match fl, es, as with
      | none, [], [] => L.exc0.contains C && (L.cnm.contains (C, x) && glob sc x)
      | some n, [e], [w] => L.exc1.contains (C, n) && (L.cnm.contains (C, x) && (glob sc x && (ce sc e w && noStar w)))
      | _, _, _ => false
    | _ => false
  | .try_ body hs => match a with | .Try b hds [] [] _ => all2 cs body b && ckTry L N sc hs hds | _ => false
  | .pass => match a with | .Pass _ => true | _ => false
  | .brk => match a with | .Break _ => true | _ => false
  | .fz _ s => cs s a
  | .zzc _ s => cs s a
  | .setX i y ik it elt => match a with
    | .Assign [.Name x px] (.ListComp e [⟨t, w, [], 0⟩] scope pos) _ => decide (N[i]? = some x) && (swOk sc x px (.ListComp e [⟨t, w, [], 0⟩] scope pos) && (blkC N sc scope (ownOf N [y]) && (ckTg N (relS scope sc) [y] false t && (ckIt L ce sc ik [it] t w && (noSet w && ce (relS scope sc) elt e)))))
    | _ => false
  | .any => true
  | .augIx o i e => match a with | .AugAssign (.Subscript b j _) .Add w _ => ce sc o b && (ce sc i j && (ce sc e w && noSlice j)) | _ => false
  | .par3 i j l x y z => match a with
    | .Assign [.Tuple [.Name u pu, .Name v pv, .Name w pw] _ _] (.Tuple [e, f, g] _ _) _ => (decide (N[i]? = some u) && (decide (N[j]? = some v) && decide (N[l]? = some w))) && ((decide (i ≠ j) && (decide (i ≠ l) && decide (j ≠ l))) && (par3Ok sc u v w pu pv pw [e, f, g] && all2 (ce sc) [x, y, z] [e, f, g]))
    | _ => false
  | _ => false
end
section
variable {M : Mx} {L : Lw} {N : List Str} {k k' : Nat} {ce ct : CkE} {cs : CkS} {r : Ev} {t : Et} {x : Es} {X : Cx} {sc : Scope} {G : Gx} {ρ : Env} {h : Hc} {S' : Out → Prop} {md : Md}
def SSt (M : Mx) (N : List Str) (k : Nat) (sc : Scope) (cs : CkS) (x : Es) : Prop := ∀ (X : Cx) (G : Gx) (s : S) (a : Stmt) (ρ : Env) (h : Hc) (S' : Out → Prop), Bx X M N sc k G.W → Frx X → cs s a = true → (∀ c pl ρ h, S' (.xx c pl ρ h) → G.PX c pl ρ h) → (x s ρ h).good S' (fun _ _ _ => False) → SX X M G a ρ h S'
theorem blk_bx (s : SSt M N k sc cs x) (hb : Bx X M N sc k G.W) (fx : Frx X) : ∀ {ss : List S} {as : List Stmt} {ρ : Env} {h : Hc} {S' : Out → Prop}, all2 cs ss as = true → (∀ c pl ρ h, S' (.xx c pl ρ h) → G.PX c pl ρ h) → (blk x ss ρ h).good S' (fun _ _ _ => False) → BX X M G as ρ h S'
  | [], [], ρ, h, S', c, hx, g => bx_nil g
  | [], _ :: _, _, _, _, c, _, _ => by cases c
  | _ :: _, [], _, _, _, c, _, _ => by cases c
  | [s1], [a], ρ, h, S', c, hx, g => by
    simp only [all2, Bool.and_true] at c
    exact bx_one (s X G s1 a ρ h S' hb fx c hx g)
  | [s1], a :: b :: as, _, _, _, c, _, _ => by simp [all2] at c
  | s1 :: s2 :: ss, [a], _, _, _, c, _, _ => by simp [all2] at c
  | s1 :: s2 :: ss, a :: b :: as, ρ, h, S', c, hx, g => by
    have c' := c
    rw [all2, Bool.and_eq_true_iff] at c'
    refine bx_cons (s X G s1 a ρ h _ hb fx c'.1 (fun c pl ρ h q => hx c pl ρ h q) (T.good_mono (fun o q => ?_) (fun _ _ _ q => q) (good_bind.mp g)))
    cases o with
    | nx ρ' h' => exact blk_bx s hb fx c'.2 hx q
    | rt f d h' => exact q
    | bk ρ' h' => exact q
    | ct ρ' h' => exact q
    | xx c pl ρ' h' => exact q
/-- an expression in a statement -/
theorem vlS (s : SE M N k ce r) {e : E} {a : Expr} {P : D → Hc → Prop} (hb : Bx X M N sc k G.W) (c : ce sc e a = true) (hx : ∀ c pl ρ h, S' (.xx c pl ρ h) → G.PX c pl ρ h) (g : (vl r e ρ h).good (fun p => P p.1 p.2) (fun c pl h' => S' (.xx c pl ρ h'))) : EX X M G a ρ h P := vl_ex s hb c (T.good_mono (fun _ q => q) (fun c pl h q => hx c pl ρ h q) g)
theorem fz_sx (s : SSt M N k sc cs x) (hb : Bx X M N sc k G.W) (fx : Frx X) {st : S} {a : Stmt} (c : cs st a = true) (hx : ∀ c pl ρ h, S' (.xx c pl ρ h) → G.PX c pl ρ h) : ∀ {is : List Nat} {ρ : Env} {h : Hc}, (match fzs is ρ h with | some (ρ', h') => x st ρ' h' | none => .no : T Out).good S' (fun _ _ _ => False) → SX X M G a ρ h S'
  | [], ρ, h, g => s X G st a ρ h S' hb fx c hx g
  | i :: is, ρ, h, g => by
    unfold fzs at g
    split at g
    · rename_i e
      split at e
      · split at e
        · split at e
          · refine sx_fz i (by assumption) (by assumption) (by assumption) (fz_sx s hb fx c hx (is := is) ?_)
            rw [e]
            exact g
          · cases e
        · cases e
      · refine fz_sx s hb fx c hx (is := is) ?_
        rw [e]
        exact g
    · exact g.elim
theorem allI_map : ∀ {ds : List D}, allI ds = true → ∃ qs : List Int, ds = qs.map D.int
  | [], _ => ⟨[], rfl⟩
  | d :: ds, h => by
    cases d <;> first | (cases h; done) | skip
    obtain ⟨qs, rfl⟩ := allI_map (ds := ds) h
    exact ⟨_ :: qs, rfl⟩
theorem zzc_sx (s : SSt M N k sc cs x) (hb : Bx X M N sc k G.W) (fx : Frx X) {st : S} {a : Stmt} {i : Nat} (c : cs st a = true) (hx : ∀ c pl ρ h, S' (.xx c pl ρ h) → G.PX c pl ρ h) (g : (s_zzc md r t x ρ h i st).good S' (fun _ _ _ => False)) : SX X M G a ρ h S' := by
  unfold s_zzc at g
  split at g
  · rename_i j hi
    split at g
    · rename_i qs a0 b0 c0 hj
      split at g
      · rename_i hq
        rw [Bool.and_eq_true_iff, decide_eq_true_eq] at hq
        obtain ⟨hq, z1, z2, z3, z4⟩ := hq
        obtain ⟨qs, rfl⟩ := allI_map hq
        intro w0 H0 σ w H D eh ex wk sk xc q
        obtain ⟨e1, k1⟩ := zz_close (j := j) (qs := qs) (i := a0) (c := b0) (s := c0) wk (by rw [eh]; exact hj) z1 z2 z3 z4
        exact s X G st a ρ _ S' hb fx c hx g w0 H0 σ _ H D (by show w.h.set j _ = _; rw [eh]) (ex.trans e1) k1 (sk.ext e1) xc q
      · exact g.elim
    · exact g.elim
  · exact g.elim
theorem all_tb {tb : List (Nat × Bool)} {y : Nat} (h : (tb.all fun q => L.exm.contains (q.1, y, q.2)) = true) {c : Nat} {b : Bool} (e : tbAt tb c = some b) : (c, y, b) ∈ L.exm := by
  induction tb with
  | nil => cases e
  | cons p tb ih =>
    obtain ⟨a, b'⟩ := p
    rw [List.all_cons, Bool.and_eq_true_iff] at h
    unfold tbAt at e
    split at e
    · rename_i hc
      have := Nat.eq_of_beq_eq_true hc
      subst this
      cases e
      simpa using h.1
    · exact ih h.2 e
theorem hand_p (hs : List Hd) {c : Nat} {pl : Pl} {ρ : Env} {h : Hc} {PX : Nat → Pl → Env → Hc → Prop} (hx : ∀ c pl ρ h, S' (.xx c pl ρ h) → PX c pl ρ h) (g : (hand hs c pl ρ h).good S' (fun _ _ _ => False)) : HandP S' PX hs c pl ρ h := by
  induction hs with
  | nil => exact hx _ _ _ _ g
  | cons d hs ih =>
    cases d with
    | c tb i d =>
      have g : (match tbAt tb c with | some true => T.ok (Out.nx (ρ.set i (some d)) h) | some false => hand hs c pl ρ h | none => .no : T Out).good S' (fun _ _ _ => False) := g
      split at g
      · exact ⟨true, by assumption, fun _ => g, fun z => (by cases z)⟩
      · exact ⟨false, by assumption, fun z => (by cases z), fun _ => ih g⟩
      · exact g.elim
    | f tb e i n =>
      unfold hand at g
      split at g
      · split at g
        · split at g
          · split at g
            · exact ⟨true, by assumption, fun _ => ⟨_, _, rfl, by assumption, by assumption, g⟩, fun z => (by cases z)⟩
            · exact g.elim
          · exact g.elim
        · exact g.elim
      · exact ⟨false, by assumption, fun z => (by cases z), fun _ => ih g⟩
      · exact g.elim
theorem hds_ok (F : Fac M L) (fx : Frx X) : ∀ {hs : List Hd} {hds : List ExceptHandler}, ckHds L N sc hs hds = true → HdOk X M N sc hs hds
  | hs, hds, c => by
    unfold ckHds at c
    split at c
    · exact .nil
    · rename_i tb i d hs y np x p1 e p2 pos' hds
      simp only [Bool.and_eq_true] at c
      obtain ⟨c1, c2, c3, c4, c5⟩ := c
      obtain ⟨p, hp, d1⟩ := List.any_eq_true.mp c1
      rw [Bool.and_eq_true_iff, decide_eq_true_eq] at d1
      obtain ⟨rfl, d2⟩ := d1
      obtain ⟨g1, g2, g3, g4⟩ := glob_ok c2
      unfold ckNm at c3
      rw [Bool.and_eq_true_iff, decide_eq_true_eq] at c3
      refine .c (F.cnm p hp) g1 g2 (fun c b e => F.exm _ (all_tb d2 e)) (fun X' G ρ hc P pd => ?_) c3.1 (kindS_ok fx.fn c3.2) ?_ (hds_ok F fx c5)
      · split at c4
        · exact cst_ok (a := .Constant _ _ _) c4 pd
        · cases c4
      · split at c4
        · rfl
        · cases c4
    · cases c
theorem try_ok (F : Fac M L) (s : SSt M N k sc cs x) (hb : Bx X M N sc k G.W) (fx : Frx X) {body : List S} {hs : List Hd} {b : List Stmt} {hds : List ExceptHandler} {pos : Pos} (c1 : all2 cs body b = true) (c2 : ckTry L N sc hs hds = true) (hx : ∀ c pl ρ h, S' (.xx c pl ρ h) → G.PX c pl ρ h)
    (g : (s_try_ md r t x ρ h body hs).good S' (fun _ _ _ => False)) : SX X M G (.Try b hds [] [] pos) ρ h S' := by
  have bd : ∀ X' W', Bx X' M N sc k W' → Frx X' → BX X' M ⟨W', fun c pl ρ' h' => HandP S' G.PX hs c pl ρ' h'⟩ b ρ h S' := by
    intro X' W' hb' fx'
    have g1 := good_bind.mp g
    have : BX X' M ⟨W', fun c pl ρ' h' => HandP S' G.PX hs c pl ρ' h'⟩ b ρ h (fun o => match o with | .xx c pl ρ h => HandP S' G.PX hs c pl ρ h | o => S' o) := by
      refine blk_bx (G := ⟨W', fun c pl ρ' h' => HandP S' G.PX hs c pl ρ' h'⟩) s hb' fx' c1 (fun c pl ρ h q => q) (T.good_mono (fun o q => ?_) (fun _ _ _ q => q) g1)
      cases o with
      | xx c pl ρ' h' => exact hand_p hs hx q
      | nx ρ' h' => exact q
      | rt f d h' => exact q
      | bk ρ' h' => exact q
      | ct ρ' h' => exact q
    intro w0 H0 σ w H D eh ex wk sk xc q
    refine this w0 H0 σ w H D eh ex wk sk xc fun o po => ?_
    cases o with
    | xx c pl ρ' h' => exact True.intro
    | nx ρ' h' => exact q _ po
    | rt f d h' => exact q _ po
    | bk ρ' h' => exact q _ po
    | ct ρ' h' => exact q _ po
  unfold ckTry at c2
  split at c2
  · rename_i tb ei i n y np en x0 p1 en' p2 f p3 p4 pos'
    simp only [Bool.and_eq_true, decide_eq_true_eq] at c2
    obtain ⟨d1, d2, d3, d4, d5, d6, d7, rfl, rfl⟩ := c2
    obtain ⟨p, hp, e1⟩ := List.any_eq_true.mp d1
    simp only [Bool.and_eq_true, decide_eq_true_eq] at e1
    obtain ⟨rfl, e2, e3, e4⟩ := e1
    obtain ⟨g1, g2, g3, g4⟩ := glob_ok d2
    obtain ⟨n1, n2, n3⟩ := nmB_ok d6
    unfold ckNm at d7
    rw [Bool.and_eq_true_iff, decide_eq_true_eq] at d7
    have xf := F.xf (p.1, n) (by simpa using e4)
    refine sx_try_as hb fx (F.cnm p hp) g1 g2 (fun c b e => F.exm _ (all_tb e2 e)) (fun c e0 => ?_) xf.1 xf.2 d3 d4 d5 n1 n2 d7.1 (kindS_ok fx.fn d7.2) bd
    have : ∀ {tb : List (Nat × Bool)}, (tb.all fun q => !q.2 || Nat.beq q.1 p.1) = true → tbAt tb c = some true → c = p.1 := by
      intro tb
      induction tb with
      | nil => intro _ e; cases e
      | cons q tb ih =>
        obtain ⟨a, b'⟩ := q
        intro h e
        rw [List.all_cons, Bool.and_eq_true_iff] at h
        unfold tbAt at e
        split at e
        · rename_i hc
          have := Nat.eq_of_beq_eq_true hc
          subst this
          cases e
          exact Nat.eq_of_beq_eq_true (by simpa using h.1)
        · exact ih h.2 e
    exact this e3 e0
  · rw [Bool.and_eq_true_iff] at c2
    cases hds with
    | nil => cases c2.1
    | cons h0 hds => exact sx_try hb fx (hds_ok F fx c2.2) bd
theorem augAt_inv2 {h : Hc} {j : Nat} {i : Int} {n : Nat} {u : Int} {xs : List D} (e : augAt h j i = some (n, u, xs)) : ∃ ys : List D, 0 ≤ i ∧ i < 1000000000 ∧ h[j]? = some (some (.lst ys)) ∧ ys[i.toNat]? = some (.int u) ∧ n = i.toNat ∧ xs = ys := by
  unfold augAt at e
  split at e
  · rename_i ys hj
    split at e
    · rename_i hi
      split at e
      · rename_i u' hu
        cases e
        exact ⟨_, hi.1, hi.2, hj, hu, rfl, rfl⟩
      · cases e
    · cases e
  · cases e
theorem augAt_inv {h : Hc} {j : Nat} {i : Int} {n : Nat} {u : Int} {xs : List D} (e : augAt h j i = some (n, u, xs)) : ∃ ys : List D, 0 ≤ i ∧ i < 1000000000 ∧ h[j]? = some (some (.lst ys)) ∧ ys[i.toNat]? = some (.int u) ∧ n = i.toNat := by
  obtain ⟨ys, a, b, c, d, e, _⟩ := augAt_inv2 e
  exact ⟨ys, a, b, c, d, e⟩
theorem stepS_ok (F : Fac M L) (hk2 : 2 ≤ k) (s : SE M N k ce r) (s2 : SE2 M N k ce r) (st : STe M N k ct t) (ss : SSt M N k sc cs x) : SSt M N k sc (ckS1 L N sc ce ct cs) (stepS md r t x) := by
  intro X G s1 a ρ h S' hb fx c hx g
  cases s1 with
  | set i e =>
    simp only [ckS1] at c
    split at c
    · simp only [Bool.and_eq_true, ckNm, decide_eq_true_eq] at c
      obtain ⟨⟨c1, c2⟩, c3, c4⟩ := c
      rw [Bool.or_eq_true] at c4
      rcases c4 with c4 | c4
      · exact sx_set i hb.toBw (vlS s hb c3 hx (good_sx g)) c1 (kindS_ok fx.fn c2) (swap_no c4)
      · rw [Bool.and_eq_true_iff] at c4
        obtain ⟨hl, hw⟩ := swOk_ok hb.toBw.hsc c4.2
        exact LCX.set i hb.toBw (s2 X sc G e _ ρ h _ hb c4.1 c3 (T.good_mono (fun p q => q) (fun c pl h q => hx c pl ρ h q) (good_bind.mp (good_sx g)))) c1 hl hw
    · cases c
  | setT tg e =>
    simp only [ckS1] at c
    split at c
    · simp only [Bool.and_eq_true] at c
      obtain ⟨c1, c2, c3, c4⟩ := c
      rename_i t0 w0 p0
      refine sx_setT (T := tg) (swap_no c3) (stores_noT c4) ?_ (vlS s hb c2 hx (T.good_mono (fun p q => ?_) (fun _ _ _ q => q) (good_sx g)))
      · unfold ckTgS ckTgK at c1
        split at c1 <;> first | rfl | cases c1
      · split at q
        · exact tg_gxS fx.fn hb c1 (by assumption) q
        · exact q.elim
    · cases c
  | aug i o e =>
    cases o <;> first | (cases c; done) | skip
    simp only [ckS1] at c
    split at c
    · simp only [Bool.and_eq_true, ckNm, decide_eq_true_eq] at c
      obtain ⟨⟨c1, c2⟩, c3⟩ := c
      have g : (s_aug md r t x ρ h i .add e).good S' (fun _ _ _ => False) := g
      unfold s_aug at g
      split at g
      · rename_i j hj
        refine sx_augI i hb.toBw hj (vlS s hb c3 hx (T.good_mono (fun p q => ?_) (fun _ _ _ q => q) (good_sx g))) c1 (kindS_ok fx.fn c2)
        split at q
        · exact ⟨_, by assumption, q⟩
        · exact q.elim
      · exact g.elim
    · cases c
  | setFld C o n e =>
    simp only [ckS1] at c
    split at c
    · simp only [Bool.and_eq_true, decide_eq_true_eq] at c
      obtain ⟨rfl, c2, c3, c4, c5, c6⟩ := c
      refine sx_setFld hb.toBw (swap_no c4) (vlS s hb c3 hx (T.good_mono (fun p q => vlS s hb c2 hx (T.good_mono (fun p2 q2 => ?_) (fun _ _ _ q => q) (good_sx q))) (fun _ _ _ q => q) (good_sx g)))
      split at q2
      · split at q2
        · split at q2
          · rename_i hl
            rw [Bool.and_eq_true_iff] at hl
            have := Nat.eq_of_beq_eq_true hl.1
            subst this
            exact ⟨_, _, _, by assumption, by assumption, F.plain _ (by simpa using c5), F.noat (_, n) (by simpa using c6), Nat.blt_eq.mp hl.2, q2⟩
          · exact q2.elim
        · exact q2.elim
      · exact q2.elim
    · cases c
  | setIx o i e =>
    simp only [ckS1] at c
    split at c
    · simp only [Bool.and_eq_true] at c
      obtain ⟨c1, c2, c3, c5⟩ := c
      refine sx_putIx hb sole_sub stores_no (assign_no c5) (vlS s hb c3 hx (T.good_mono (fun p q => vlS s hb c1 hx (T.good_mono (fun p2 q2 => vlS s hb c2 hx (T.good_mono (fun p3 q3 => ?_) (fun _ _ _ q => q) (good_sx q2))) (fun _ _ _ q => q) (good_sx q))) (fun _ _ _ q => q) (good_sx g)))
      split at q3
      · split at q3
        · split at q3
          · exact ⟨_, _, _, by assumption, by assumption, by assumption, q3⟩
          · exact q3.elim
        · exact q3.elim
      · exact q3.elim
    · cases c
  | ex e =>
    simp only [ckS1] at c
    split at c
    · simp only [Bool.and_eq_true] at c
      exact sx_expr (vlS s hb c.1 hx (good_sx g)) (swap_no c.2)
    · cases c
  | ite c1 u v =>
    simp only [ckS1] at c
    split at c
    · simp only [Bool.and_eq_true] at c
      refine sx_if (st X sc G _ _ ρ h _ hb c.1 (T.good_mono (fun p q => ⟨fun e => ?_, fun e => ?_⟩) (fun c pl h q => hx c pl ρ h q) (good_sx g)))
      · rw [if_pos e] at q
        exact blk_bx ss hb fx c.2.1 hx q
      · rw [if_neg (by rw [e]; exact Bool.false_ne_true)] at q
        exact blk_bx ss hb fx c.2.2 hx q
    · cases c
  | for_ tg tp ik its body =>
    simp only [ckS1] at c
    split at c
    · simp only [Bool.and_eq_true] at c
      obtain ⟨c1, c2, c3, c4⟩ := c
      refine sx_for (T := tg) (fun ds i ρ h => (forGo (blk x body) tg tp (ds.drop i) ρ h).good S' (fun _ _ _ => False)) hb (it_ix F s hb c2 (T.good_mono (fun p q => ?_) (fun c pl h q => hx c pl ρ h q) (good_sx g))) (fold_no c3)
      split at q
      · rename_i ds hds
        refine ⟨ds, hds, by rw [List.drop_zero]; exact q, fun i d ρ' h' hd hi => ?_, fun ρ' h' hi => ?_⟩
        · have hdrop : ds.drop i = d :: ds.drop (i + 1) := by
            obtain ⟨hlt, e⟩ := List.getElem?_eq_some_iff.mp hd
            rw [← e, List.drop_eq_getElem_cons hlt]
          rw [hdrop] at hi
          have h1 := good_bind.mp hi
          cases ha : asg tg tp d ρ' with
          | none => rw [ha] at h1; exact h1.elim
          | some ρ2 =>
            rw [ha] at h1
            refine tg_gxS fx.fn hb c1 ha (blk_bx ss hb fx c4 (fun c pl ρ h q => hx c pl ρ h q) (T.good_mono (fun o q => ?_) (fun _ _ _ q => q) (good_bind.mp h1)))
            cases o with
            | nx ρ3 h3 => exact q
            | ct ρ3 h3 => exact q
            | bk ρ3 h3 => exact q
            | rt f d h3 => exact q
            | xx c pl ρ3 h3 => exact q
        · have : ds.drop ds.length = [] := List.drop_length
          rw [this] at hi
          exact hi
      · exact q.elim
    · cases c
  | while_ c1 body =>
    simp only [ckS1] at c
    split at c
    · simp only [Bool.and_eq_true] at c
      refine sx_while (fun m ρ h => (whileGo (t c1) (blk x body) m ρ h).good S' (fun _ _ _ => False)) hb md.fuel g fun m ρ' h' hi => ?_
      cases m with
      | zero => exact hi.elim
      | succ m =>
        refine st X sc G _ _ ρ' h' _ hb c.1 (T.good_mono (fun p q => ⟨fun e => ?_, fun e => ?_⟩) (fun c pl h q => hx c pl ρ' h q) (good_sx hi))
        · rw [if_pos e] at q
          refine blk_bx ss hb fx c.2 (fun c pl ρ h q => hx c pl ρ h q) (T.good_mono (fun o q => ?_) (fun _ _ _ q => q) (good_bind.mp q))
          cases o with
          | nx ρ3 h3 => exact ⟨m, Nat.lt_succ_self m, q⟩
          | ct ρ3 h3 => exact ⟨m, Nat.lt_succ_self m, q⟩
          | bk ρ3 h3 => exact q
          | rt f d h3 => exact q
          | xx c pl ρ3 h3 => exact q
        · rw [if_neg (by rw [e]; exact Bool.false_ne_true)] at q
          exact q
    · cases c
  | ret e =>
    simp only [ckS1] at c
    split at c
    · exact sx_ret (s X sc G _ _ ρ h _ hb c (T.good_mono (fun p q => q) (fun c pl h q => hx c pl ρ h q) (good_sx g)))
    · cases c
  | retN =>
    simp only [ckS1] at c
    split at c
    · exact sx_retN g
    · cases c
  | raise C fl es =>
    simp only [ckS1] at c
    split at c
    · split at c
      · simp only [Bool.and_eq_true] at c
        obtain ⟨c1, c2, c3⟩ := c
        obtain ⟨g1, g2, g3, g4⟩ := glob_ok c3
        exact sx_raise0 hb (F.exc0 C (by simpa using c1) _ (by simpa using c2)) g1 g2 (hx _ _ _ _ g)
      · simp only [Bool.and_eq_true] at c
        obtain ⟨c1, c2, c3, c4, c5⟩ := c
        obtain ⟨g1, g2, g3, g4⟩ := glob_ok c3
        exact sx_raise1 hb (F.exc1 (C, _) (by simpa using c1) _ (by simpa using c2)) hk2 g1 g2 (star_cons [] c5) (vlS s hb c4 hx (T.good_mono (fun p q => hx _ _ _ _ q) (fun _ _ _ q => q) (good_sx g)))
      · cases c
    · cases c
  | try_ body hs =>
    simp only [ckS1] at c
    split at c
    · rw [Bool.and_eq_true_iff] at c
      exact try_ok (md := md) (r := r) (t := t) F ss hb fx c.1 c.2 hx g
    · cases c
  | pass =>
    simp only [ckS1] at c
    split at c
    · exact sx_pass g
    · cases c
  | brk =>
    simp only [ckS1] at c
    split at c
    · exact sx_break g
    · cases c
  | fz is s1 => exact fz_sx ss hb fx c hx g
  | zzc i s1 => exact zzc_sx (md := md) (r := r) (t := t) ss hb fx c hx g
  | setX i y ik it elt =>
    simp only [ckS1] at c
    split at c
    · rename_i x px e t0 w scope pos spos _
      simp only [Bool.and_eq_true, decide_eq_true_eq] at c
      obtain ⟨c1, c2, c3, c4, c5, c6, c7⟩ := c
      obtain ⟨hl, hw⟩ := swOk_ok (l := spos.line) hb.toBw.hsc c2
      have g1 : ((vls r [it] ρ h).bind _).good _ _ := good_sx g
      have ow : (ownOf N [y]).map (·.2) = [y] := rfl
      refine sx_setLcE (i := i) (T := [y]) (ownOf N [y]) (fun ds j acc h' => (lcGo r t [y] false [] elt ρ (ds.drop j) acc.reverse h').good (fun q => S' (.nx (ρ.set i (some (.lst q.1))) q.2)) (fun c pl h => S' (.xx c pl ρ h))) hb fx (blkOk_by c3) (fun j hj => by rw [ow]; exact hj) (fold_no c6) c1 hl hw
        (it_ix F s hb c5 (T.good_mono (fun p q => ?_) (fun c pl h q => hx c pl ρ h q) (good_bind.mp g1)))
      split at q
      · rename_i ds hds
        split at q
        · rename_i hlim
          refine ⟨ds, hds, by rw [← lim_eq]; exact hlim, ?_, fun j d acc h' hd hi => ?_, fun acc h' hi => ?_⟩
          · rw [List.drop_zero]; exact q
          · have hdrop : ds.drop j = d :: ds.drop (j + 1) := drop_at hd
            rw [hdrop] at hi
            have h1 := good_bind.mp hi
            have ha : asg [y] false d (unset ρ [y]) = some ((unset ρ [y]).set y (some d)) := rfl
            rw [ha] at h1
            have h2 := good_bind.mp h1
            intro X' bk bx
            rw [ow]
            refine tg_gx bx c4 ha fun σ X3 bk3 bx3 => ?_
            have h3 : ((vl r elt ((unset ρ [y]).set y (some d)) h').bind fun p => lcGo r t [y] false [] elt ρ (ds.drop (j + 1)) (p.1 :: acc.reverse) p.2).good (fun q => S' (.nx (ρ.set i (some (.lst q.1))) q.2)) (fun c pl h => S' (.xx c pl ρ h)) := h2
            refine vl_ex (G := GxB G σ ρ) s bx3 c7 (T.good_mono (fun p q => ?_) (fun c pl h q => hx c pl ρ h q) (good_bind.mp h3))
            rw [List.reverse_append]
            exact q
          · have : ds.drop ds.length = [] := List.drop_length
            rw [this] at hi
            have hi : S' (.nx (ρ.set i (some (.lst acc.reverse.reverse))) h') := hi
            rw [List.reverse_reverse] at hi
            exact hi
        · exact q.elim
      · exact q.elim
    · cases c
  | par3 i j l x y z =>
    simp only [ckS1] at c
    split at c
    · rename_i u pu v pv w pw _ _ e f g0 _ _ _
      simp only [Bool.and_eq_true, decide_eq_true_eq] at c
      obtain ⟨⟨c1, c2, c3⟩, ⟨c4, c5, c6⟩, c7, c8⟩ := c
      refine sx_par3 hb c1 c2 c3 c4 c5 c6 c7 (vls_ax s hb c8 (par3Ok_star c7) (T.good_mono (fun p q => ?_) (fun c pl h q => hx c pl ρ h q) (good_sx g)))
      split at q
      · exact ⟨_, _, _, by assumption, q⟩
      · exact q.elim
    · cases c
  | any => exact g.elim
  | augIx o i e =>
    simp only [ckS1] at c
    split at c
    · simp only [Bool.and_eq_true] at c
      obtain ⟨c1, c2, c3, c5⟩ := c
      refine sx_augIx hb (aug_no c5) (vlS s hb c1 hx (T.good_mono (fun p q => vlS s hb c2 hx (T.good_mono (fun p2 q2 => ?_) (fun _ _ _ q => q) (good_sx q))) (fun _ _ _ q => q) (good_sx g)))
      split at q2
      · rename_i j n hj hn
        split at q2
        · rename_i nn u xs ha
          obtain ⟨xs, h0, h1, hj2, hu, rfl⟩ := augAt_inv ha
          refine ⟨j, n, _, u, xs, hj, hn, h0, h1, hj2, hu, rfl, vlS s hb c3 hx (T.good_mono (fun p3 q3 => ?_) (fun _ _ _ q => q) (good_sx q2))⟩
          split at q3
          · rename_i z nn2 u2 ys hz ha2
            obtain ⟨ys2, _, _, hj3, hu3, _, rfl⟩ := augAt_inv2 ha2
            exact ⟨z, _, _, hz, hj3, hu3, q3⟩
          · exact q3.elim
        · exact q2.elim
      · exact q2.elim
    · cases c
end
end Yl

set_option maxRecDepth 100000
set_option maxHeartbeats 4000000
/-! Y18: the whole program. -/
namespace Yl
open PySem PySem.Spec PyProof.Rows L2
open T (good_bind)
def ckSS (L : Lw) (N : List Str) (sc : Scope) (m : Nat) : Nat → CkS
  | 0 => fun _ _ => false
  | n + 1 => ckS1 L N sc (ckEE L N m).1 (ckEE L N m).2 (ckSS L N sc m n)
section
variable {M : Mx} {L : Lw} {N : List Str} {k k' : Nat} {md : Md} {sc : Scope}
theorem evS_ok (F : Fac M L) (A : Cls2 M L md k') (hk : k' + 1 ≤ k) (hk2 : 2 ≤ k) (hgl : ∀ g, md.gl g = L.pg.gls.getD g .non) (hmk : ∀ j, md.mk_ j = L.pg.mks.getD j (0, 0, [])) (m : Nat) : ∀ n, SSt M N k sc (ckSS L N sc m n) (evS md m n)
  | 0 => fun X G s a ρ h S' hb fx c hx g => (by cases c)
  | n + 1 => stepS_ok F hk2 (evE_ok F A hk hgl hmk m).1 (evE_ok2 F A hk hgl hmk m) (evE_ok F A hk hgl hmk m).2 (evS_ok F A hk hk2 hgl hmk m n)
end
/-- a def of the module -/
structure FnS (M : Mx) (L : Lw) (m n : Nat) (f : Nat) (x : Str) : Prop where
  ex : ∃ (fa : Addr) (fd : FuncData) (qual : Str) (params : Arguments) (body : List Stmt) (scope : Scope) (kws : List (Str × V)) (N ps : List Str) (F : Fn), FunD M.K x qual params body scope [] kws fa fd ∧ FnScope N ps scope ∧ M.mg x = some (.ref fa) ∧ Binds M.K fd ps [] ∧ L.pg.fns[f]? = some (some F) ∧ F.ns = N.length ∧ F.ps = ps.length ∧ all2 (ckSS L N scope m n) F.body body = true
/-- a class's __init__ -/
structure MkS (M : Mx) (L : Lw) (m n : Nat) (C f : Nat) (dfl : List D) : Prop where
  ex : ∃ (fa : Addr) (fd : FuncData) (nm qual : Str) (params : Arguments) (body : List Stmt) (scope : Scope) (dv0 : List V) (kws : List (Str × V)) (N ps : List Str) (F : Fn) (dvs : List V) (dus : List Value), FunD M.K nm qual params body scope dv0 kws fa fd ∧ FnScope N ps scope ∧ Mk M.K (M.ca C) fa ∧ Binds M.K fd ps dus ∧ Vals dvs dus ∧ (∀ F m, RepL M F m dvs dfl) ∧ L.pg.fns[f]? = some (some F) ∧ F.ns = N.length ∧ F.ps = ps.length ∧ all2 (ckSS L N scope m n) F.body body = true
/-- a method of a class -/
structure MeS (M : Mx) (L : Lw) (m n : Nat) (C : Nat) (x : Str) (f : Nat) : Prop where
  ex : ∃ (fa : Addr) (fd : FuncData) (nm qual : Str) (params : Arguments) (body : List Stmt) (scope : Scope) (dv0 : List V) (kws : List (Str × V)) (N ps : List Str) (F : Fn), FunD M.K nm qual params body scope dv0 kws fa fd ∧ FnScope N ps scope ∧ Meth M.K (M.ca C) x fa ∧ Binds M.K fd ps [] ∧ Cls M.K (M.ca C) ∧ L.pg.fns[f]? = some (some F) ∧ F.ns = N.length ∧ F.ps = ps.length ∧ all2 (ckSS L N scope m n) F.body body = true
structure Prg (M : Mx) (L : Lw) (m n : Nat) : Prop where
  fac : Fac M L
  draw : L.dr = true → ∃ ps, FnC M "_law_draw" ps 3 conDraw
  fn : ∀ f x, L.fnm[f]? = some (some x) → FnS M L m n f x
  make : ∀ (j C f : Nat) (dfl : List D), L.pg.mks[j]? = some (C, f, dfl) → ∀ x, (C, x) ∈ L.cnm → MkS M L m n C f dfl
  meth : ∀ C x f, (C, x, f) ∈ L.meth → MeS M L m n C x f
def mdAt (L : Lw) (m n fuel j : Nat) : Md := ⟨fun j => L.pg.mks.getD j (0, 0, []), run L.pg m n fuel j, fun g => L.pg.gls.getD g .non, fuel⟩
def conOf (md : Md) (f : Nat) : Con := fun ds h P PX => (md.run f ds h).good (fun p => P p.1 p.2.1 p.2.2) PX
theorem fnOk_none {P : Program} {w : World} {K : PySem.W.Frag} {mg : Str → Option Value} {base : Heap} {CX : CXT} {k : Nat} {f : Addr} {fd : FuncData} {ps : List Str} {sp : Sp} (h : ∀ vs H Q E, ¬ sp vs H Q E) : FnOk P w K mg base CX k f fd ps sp :=
  ⟨fun vs H Q E hs => absurd hs (h vs H Q E), fun A outer s H args us vs Q E hr he hb hv hs => absurd hs (h vs H Q E)⟩
theorem body_ok {M : Mx} {L : Lw} {m n fuel j : Nat} {N ps : List Str} {scope : Scope} {body : List Stmt} {F : Fn} {f : Nat} (P : Prg M L m n) (A : Cls2 M L (mdAt L m n fuel j) (2 * j + 3)) (hf : L.pg.fns[f]? = some (some F)) (hns : F.ns = N.length) (hps : F.ps = ps.length) (hc : all2 (ckSS L N scope m n) F.body body = true)
    {x qual : Str} {params : Arguments} {dv0 : List V} {kws : List (Str × V)} {fa : Addr} {fd : FuncData} (FD : FunD M.K x qual params body scope dv0 kws fa fd) (FS : FnScope N ps scope) : FnOk M.P M.w M.K M.mg M.base (L2.CX M.P M.w) (2 * (j + 1) + 3) fa fd ps (spC M (conOf (mdAt L m n fuel (j + 1)) f)) := by
  have run_eq : ∀ ds h, (mdAt L m n fuel (j + 1)).run f ds h = if Nat.beq ds.length F.ps then (blk (evS (mdAt L m n fuel j) m n) F.body (ds.map some ++ List.replicate (F.ns - F.ps) none) h).calm.bind ends else .no := by
    intro ds h
    show run1 (mdAt L m n fuel j) m n (L.pg.fns.getD f none) ds h = _
    rw [List.getD_eq_getElem?_getD, hf]; rfl
  refine def_ok FD FS (fun ds h P PX c => ?_) (fun X W hb st fr fn ds h Pq PX c => ?_)
  · unfold conOf at c
    rw [run_eq] at c
    split at c
    · rename_i hl
      rw [Nat.eq_of_beq_eq_true hl, hps]
    · exact c.elim
  · unfold conOf at c
    rw [run_eq] at c
    split at c
    · rename_i hl
      have hl := Nat.eq_of_beq_eq_true hl
      have e : begin N ds = ds.map some ++ List.replicate (F.ns - F.ps) none := by unfold begin; rw [hns, hl]
      rw [e]
      have key := blk_bx (G := ⟨W, fun c pl _ h => PX c pl h⟩) (S' := fun o => match o with | .nx _ h => Pq false .non h | .rt f d h => Pq f d h | .xx c pl _ h => PX c pl h | _ => False) (evS_ok P.fac A (Nat.le_refl _) (by omega) (fun _ => rfl) (fun _ => rfl) m n) (k := 2 * j + 4) hb ⟨st, fr, fn⟩ hc (fun c pl ρ h q => q) (T.good_mono (fun o q => by
        cases o with
        | nx ρ h => exact q
        | rt f d h => exact q
        | bk ρ h => exact q
        | ct ρ h => exact q
        | xx c pl ρ h => exact q) (fun _ _ _ q => q) (calm_good (good_bind.mp c)))
      refine BX.mono key fun o q => ?_
      cases o with
      | nx ρ h => exact q
      | rt f d h => exact q
      | bk ρ h => exact q
      | ct ρ h => exact q
      | xx c pl ρ h => exact True.intro
    · exact c.elim
theorem draw_up {M : Mx} {k k' : Nat} (h : ∃ ps, FnC M "_law_draw" ps k conDraw) (hk : k ≤ k') : ∃ ps, FnC M "_law_draw" ps k' conDraw := by
  obtain ⟨ps, f, fd, h1, h2⟩ := h
  exact ⟨ps, f, fd, h1.mono hk, h2⟩
/-- the program keeps what it computes -/
theorem prg_ok {M : Mx} {L : Lw} {m n fuel : Nat} (P : Prg M L m n) : ∀ j, Cls2 M L (mdAt L m n fuel j) (2 * j + 3)
  | 0 => ⟨fun f x h => by
      obtain ⟨fa, fd, qual, params, body, scope, kws, N, ps, F, h1, h2, h3, h4, h5, h6, h7, h8⟩ := (P.fn f x h).ex
      exact ⟨ps, fa, fd, fnOk_none fun vs H Q E hs => (by obtain ⟨w, ds, Pq, PX, _, _, c, _⟩ := hs; exact c), h3, h1.kp, h4⟩,
    fun d => draw_up (P.draw d) (by omega), fun C x f hx => by
      obtain ⟨fa, fd, nm, qual, params, body, scope, dv0, kws, N, ps, F, h1, h2, h3, h4, h5, h6, h7, h8, h9⟩ := (P.meth C x f hx).ex
      exact ⟨ps, ⟨fa, fd, fnOk_none fun vs H Q E hs => (by obtain ⟨w, ds, Pq, PX, _, _, c, _⟩ := hs; exact c), h3, h4⟩, h5⟩, fun j C f dfl h x hx => by
      obtain ⟨fa, fd, nm, qual, params, body, scope, dv0, kws, N, ps, F, dvs, dus, h1, h2, h3, h4, h5, h6, h7, h8⟩ := (P.make j C f dfl h x hx).ex
      exact ⟨ps, P.fac.cnm _ hx, fa, fd, dvs, dus, h3, fnOk_none fun vs H Q E hs => (by obtain ⟨w, ds, Pq, PX, _, _, c, _⟩ := hs; exact c), h4, h5, h6⟩⟩
  | j + 1 => by
    have A := prg_ok (fuel := fuel) P j
    refine ⟨fun f x h => ?_, fun d => draw_up (P.draw d) (by omega), fun C x f hx => ?_, fun i C f dfl h x hx => ?_⟩
    · obtain ⟨fa, fd, qual, params, body, scope, kws, N, ps, F, h1, h2, h3, h4, h5, h6, h7, h8⟩ := (P.fn f x h).ex
      exact ⟨ps, fa, fd, body_ok P A h5 h6 h7 h8 h1 h2, h3, h1.kp, h4⟩
    · obtain ⟨fa, fd, nm, qual, params, body, scope, dv0, kws, N, ps, F, h1, h2, h3, h4, h5, h6, h7, h8, h9⟩ := (P.meth C x f hx).ex
      exact ⟨ps, ⟨fa, fd, body_ok P A h6 h7 h8 h9 h1 h2, h3, h4⟩, h5⟩
    · obtain ⟨fa, fd, nm, qual, params, body, scope, dv0, kws, N, ps, F, dvs, dus, h1, h2, h3, h4, h5, h6, h7, h8, h9, h10⟩ := (P.make i C f dfl h x hx).ex
      exact ⟨ps, P.fac.cnm _ hx, fa, fd, dvs, dus, h3, body_ok P A h7 h8 h9 h10 h1 h2, h4, h5, h6⟩
end Yl

set_option maxRecDepth 100000
set_option maxHeartbeats 4000000
/-! Yd: what _law_draw computes on the opened cell. -/
namespace Yl
def drawB : List S := [(.ite (.op2 .eq (.op2 .ix (.var 0) (.cst (.int 2))) (.cst (.int 0))) [(.ite (.op2 .lt (.op2 .ix (.var 0) (.cst (.int 1))) (.bi .len [(.op2 .ix (.var 0) (.cst (.int 0)))])) [(.set 3 (.op2 .ix (.op2 .ix (.var 0) (.cst (.int 0))) (.op2 .ix (.var 0) (.cst (.int 1))))),
   (.setIx (.var 0) (.cst (.int 1)) (.op2 .add (.op2 .ix (.var 0) (.cst (.int 1))) (.cst (.int 1)))),
   (.ite (.op2 .ge (.var 3) (.op2 .pow (.cst (.int 10)) (.cst (.int 18)))) [(.setIx (.var 0) (.cst (.int 2)) (.var 3))] [(.setIx (.var 0) (.cst (.int 3)) (.op2 .mod (.bi .int [(.op2 .add (.op2 .add (.op2 .mul (.op2 .ix (.var 0) (.cst (.int 3))) (.cst (.int 48271))) (.op2 .mul (.var 3) (.cst (.int 69621)))) (.cst (.int 11)))]) (.cst (.int 2147483647))))])] [(.setIx (.var 0) (.cst (.int 3)) (.op2 .mod (.bi .int [(.op2 .add (.op2 .mul (.op2 .ix (.var 0) (.cst (.int 3))) (.cst (.int 48271))) (.cst (.int 7)))]) (.cst (.int 2147483647))))])] []),
   (.ite (.op2 .gt (.op2 .ix (.var 0) (.cst (.int 2))) (.cst (.int 0))) [(.set 2 (.op2 .mod (.bi .int [(.op2 .ix (.var 0) (.cst (.int 2)))]) (.var 1))),
   (.setIx (.var 0) (.cst (.int 2)) (.op2 .fdiv (.op2 .ix (.var 0) (.cst (.int 2))) (.var 1))),
   (.ret (.var 2))] []),
   (.ret (.op2 .mod (.op2 .mod (.bi .int [(.op2 .mul (.op2 .ix (.var 0) (.cst (.int 3))) (.cst (.int 16807)))]) (.cst (.int 2147483629))) (.var 1)))]
/-- the value of an expression -/
def vr (md : Md) (n : Nat) (e : E) (ρ : Env) (h : Hc) (d : D) : Prop := (evE md n).1 e ρ h = .ok (false, d, h)
def tr (md : Md) (n : Nat) (e : E) (ρ : Env) (h : Hc) (b : Bool) : Prop := (evE md n).2 e ρ h = .ok (b, h)
def sr (md : Md) (m n : Nat) (s : S) (ρ : Env) (h : Hc) (o : Out) : Prop := evS md m n s ρ h = .ok o
def br (md : Md) (m n : Nat) (s : List S) (ρ : Env) (h : Hc) (o : Out) : Prop := blk (evS md m n) s ρ h = .ok o
section
variable {md : Md} {m n : Nat} {ρ : Env} {h : Hc}
theorem vr.vl {e : E} {d : D} (k : vr md n e ρ h d) : vl (evE md n).1 e ρ h = .ok (d, h) := by
  unfold Yl.vl; rw [k]; rfl
theorem vr_var {i : Nat} {d : D} (k : ρ[i]? = some (some d)) : vr md (n + 1) (.var i) ρ h d := by
  show e_var md (evE md n).1 (evE md n).2 ρ h i = _
  unfold e_var; rw [k]
theorem vr_cst {d : D} : vr md (n + 1) (.cst d) ρ h d := rfl
theorem vr_op2 {o : O2} {a b : E} {x y z : D} (ka : vr md n a ρ h x) (kb : vr md n b ρ h y) (ko : op2 h o x y = some (false, z)) : vr md (n + 1) (.op2 o a b) ρ h z := by
  show e_op2 md (evE md n).1 (evE md n).2 ρ h o a b = _
  unfold e_op2; rw [ka.vl]; show T.bind (Yl.vl (evE md n).1 b ρ h) _ = _; rw [kb.vl]; show ot h _ = _; rw [ko]; rfl
theorem vr_bi {b : Bi} {a : E} {x z : D} (ka : vr md n a ρ h x) (ko : biN h b [x] = some (false, z)) : vr md (n + 1) (.bi b [a]) ρ h z := by
  show e_bi md (evE md n).1 (evE md n).2 ρ h b [a] = _
  unfold e_bi vls; rw [ka.vl]; show ot h _ = _; rw [ko]; rfl
theorem tr_op2 {o : O2} {a b : E} {k : Bool} (kv : vr md (n + 1) (.op2 o a b) ρ h (.bl k)) : tr md (n + 1) (.op2 o a b) ρ h k := by
  show T.bind ((evE md (n + 1)).1 (.op2 o a b) ρ h) _ = _
  rw [kv]; rfl
theorem sr_set {i : Nat} {e : E} {d : D} (k : vr md m e ρ h d) : sr md m (n + 1) (.set i e) ρ h (.nx (ρ.set i (some d)) h) := by
  show s_set md (evE md m).1 (evE md m).2 (evS md m n) ρ h i e = _
  unfold s_set; rw [k.vl]; rfl
theorem sr_ret {e : E} {d : D} (k : vr md m e ρ h d) : sr md m (n + 1) (.ret e) ρ h (.rt false d h) := by
  show s_ret md (evE md m).1 (evE md m).2 (evS md m n) ρ h e = _
  unfold s_ret; rw [k]; rfl
theorem sr_ite {c : E} {a b : List S} {t : Bool} {o : Out} (k : tr md m c ρ h t) (ks : br md m n (if t then a else b) ρ h o) : sr md m (n + 1) (.ite c a b) ρ h o := by
  show s_ite md (evE md m).1 (evE md m).2 (evS md m n) ρ h c a b = _
  unfold s_ite; rw [k]; cases t <;> exact ks
theorem sr_setIx {a k v : E} {j : Nat} {c z y d : D} (kv : vr md m v ρ h y) (ka : vr md m a ρ h (.ref j)) (kk : vr md m k ρ h z) (hj : h[j]? = some (some c)) (hp : putIx c z y = some d) :
    sr md m (n + 1) (.setIx a k v) ρ h (.nx ρ (h.set j (some d))) := by
  show s_setIx md (evE md m).1 (evE md m).2 (evS md m n) ρ h a k v = _
  unfold s_setIx; rw [kv.vl]; show sx ρ _ (Yl.vl (evE md m).1 a ρ h) = _; rw [ka.vl]; show sx ρ _ (Yl.vl (evE md m).1 k ρ h) = _; rw [kk.vl]
  show (match h[j]? with | some (some c) => (match putIx c z y with | some d => T.ok (Out.nx ρ (h.set j (some d))) | none => .no) | _ => .no) = _
  rw [hj]; show (match putIx c z y with | some d => T.ok (Out.nx ρ (h.set j (some d))) | none => .no) = _; rw [hp]
theorem br_nil : br md m n [] ρ h (.nx ρ h) := rfl
theorem br_one {s : S} {o : Out} (k : sr md m n s ρ h o) : br md m n [s] ρ h o := k
theorem br_cons {s s2 : S} {ss : List S} {ρ' : Env} {h' : Hc} {o : Out} (k : sr md m n s ρ h (.nx ρ' h')) (ks : br md m n (s2 :: ss) ρ' h' o) : br md m n (s :: s2 :: ss) ρ h o := by
  show T.bind (evS md m n s ρ h) _ = _
  rw [k]; exact ks
theorem br_stop {s s2 : S} {ss : List S} {f : Bool} {d : D} {h' : Hc} (k : sr md m n s ρ h (.rt f d h')) : br md m n (s :: s2 :: ss) ρ h (.rt f d h') := by
  show T.bind (evS md m n s ρ h) _ = _
  rw [k]; rfl
end
def zz' (qs : List Int) (i c s : Int) : D := .lst [.lst (qs.map D.int), .int i, .int c, .int s]
section
variable {md : Md} {n : Nat} {ρ : Env} {qs : List Int} {i c s : Int} (h0 : ρ[0]? = some (some (.ref 0)))
theorem z_ix {k : Nat} {d : D} (h0 : ρ[0]? = some (some (.ref 0))) (e : [D.lst (qs.map D.int), .int i, .int c, .int s][k]? = some d) (hk : k < 4) : vr md (n + 2) (.op2 .ix (.var 0) (.cst (.int (.ofNat k)))) ρ [some (zz' qs i c s)] d := by
  refine vr_op2 (vr_var h0) vr_cst ?_
  match k, hk, e with
  | 0, _, rfl => rfl
  | 1, _, rfl => rfl
  | 2, _, rfl => rfl
  | 3, _, rfl => rfl
end

section
variable {md : Md} {n : Nat} {ρ : Env} {qs : List Int} {i c s : Int}
theorem z1 (h0 : ρ[0]? = some (some (.ref 0))) : vr md (n + 2) (.op2 .ix (.var 0) (.cst (.int 1))) ρ [some (zz' qs i c s)] (.int i) := z_ix (k := 1) h0 rfl (by decide)
theorem z2 (h0 : ρ[0]? = some (some (.ref 0))) : vr md (n + 2) (.op2 .ix (.var 0) (.cst (.int 2))) ρ [some (zz' qs i c s)] (.int c) := z_ix (k := 2) h0 rfl (by decide)
theorem z3 (h0 : ρ[0]? = some (some (.ref 0))) : vr md (n + 2) (.op2 .ix (.var 0) (.cst (.int 3))) ρ [some (zz' qs i c s)] (.int s) := z_ix (k := 3) h0 rfl (by decide)
theorem z0 (h0 : ρ[0]? = some (some (.ref 0))) : vr md (n + 2) (.op2 .ix (.var 0) (.cst (.int 0))) ρ [some (zz' qs i c s)] (.lst (qs.map D.int)) := z_ix (k := 0) h0 rfl (by decide)
end
theorem draw_run (md : Md) (qs : List Int) (i c s n : Int) (hi : 0 ≤ i) (hc : 0 ≤ c) (hs : 0 ≤ s) (hs2 : s < 2 ^ 31) (hn : 0 < n) (hn2 : n < 1000000000) :
    ∃ k i' c' s', 0 ≤ k ∧ k < n ∧ 0 ≤ i' ∧ 0 ≤ c' ∧ 0 ≤ s' ∧ s' < 2 ^ 31 ∧ br md 12 6 drawB [some (.ref 0), some (.int n), none, none] [some (zz' qs i c s)] (.rt false (.int k) [some (zz' qs i' c' s')]) := by
  have end_ : ∀ (i c s : Int) (x : Option D), 0 ≤ i → 0 ≤ c → 0 ≤ s → s < 2 ^ 31 → ∃ k i' c' s', 0 ≤ k ∧ k < n ∧ 0 ≤ i' ∧ 0 ≤ c' ∧ 0 ≤ s' ∧ s' < 2 ^ 31 ∧ br md 12 6 drawB.tail [some (.ref 0), some (.int n), none, x] [some (zz' qs i c s)] (.rt false (.int k) [some (zz' qs i' c' s')]) := by
    intro i c s x hi hc hs hs2
    by_cases h : 0 < c
    · refine ⟨c % n, i, c / n, s, Int.emod_nonneg _ (by omega), Int.emod_lt_of_pos _ hn, hi, Int.ediv_nonneg hc (by omega), hs, hs2, ?_⟩
      refine br_stop (sr_ite (t := true) (tr_op2 (vr_op2 (z2 rfl) vr_cst (by simp [op2, o_gt, h]))) ?_)
      refine br_cons (sr_set (vr_op2 (vr_bi (z2 rfl) (z := .int c) rfl) (vr_var rfl) (z := .int (c % n)) (by simp [op2, o_mod, hn]))) ?_
      refine br_cons (sr_setIx (vr_op2 (z2 rfl) (vr_var rfl) (z := .int (c / n)) ?_) (vr_var rfl) vr_cst rfl (d := zz' qs i (c / n) s) rfl) (br_one (sr_ret (vr_var rfl)))
      simp [op2, o_fdiv, hn]; omega
    · refine ⟨s * 16807 % 2147483629 % n, i, c, s, Int.emod_nonneg _ (by omega), Int.emod_lt_of_pos _ hn, hi, hc, hs, hs2, ?_⟩
      refine br_cons (sr_ite (t := false) (tr_op2 (vr_op2 (z2 rfl) vr_cst (by simp [op2, o_gt]; omega))) br_nil) ?_
      exact br_one (sr_ret (vr_op2 (vr_op2 (vr_bi (vr_op2 (z3 rfl) vr_cst (z := .int (s * 16807)) rfl) rfl) vr_cst (z := .int (s * 16807 % 2147483629)) rfl) (vr_var rfl) (by simp [op2, o_mod, hn])))
  by_cases h0 : c = 0
  · subst h0
    have t0 : tr md 12 (.op2 .eq (.op2 .ix (.var 0) (.cst (.int 2))) (.cst (.int 0))) [some (.ref 0), some (.int n), none, none] [some (zz' qs i 0 s)] true := tr_op2 (vr_op2 (z2 rfl) vr_cst rfl)
    by_cases h1 : i < qs.length
    · have hq : ∃ q, (qs.map D.int)[i.toNat]? = some (.int q) := by
        have : i.toNat < qs.length := by omega
        exact ⟨qs[i.toNat], by simp [this]⟩
      obtain ⟨q, hq⟩ := hq
      have t1 : tr md 12 (.op2 .lt (.op2 .ix (.var 0) (.cst (.int 1))) (.bi .len [(.op2 .ix (.var 0) (.cst (.int 0)))])) [some (.ref 0), some (.int n), none, none] [some (zz' qs i 0 s)] true :=
        tr_op2 (vr_op2 (z1 rfl) (vr_bi (z0 rfl) (z := .int qs.length) (by simp [biN, bi1, b_len, deref])) (by simp [op2, o_lt, h1]))
      have s1 : sr md 12 4 (.set 3 (.op2 .ix (.op2 .ix (.var 0) (.cst (.int 0))) (.op2 .ix (.var 0) (.cst (.int 1))))) [some (.ref 0), some (.int n), none, none] [some (zz' qs i 0 s)] (.nx [some (.ref 0), some (.int n), none, some (.int q)] [some (zz' qs i 0 s)]) :=
        sr_set (vr_op2 (z0 rfl) (z1 rfl) (by
          have hl : i.toNat < qs.length := by omega
          simp only [op2, o_ix, deref, List.length_map, ixN, if_pos hi, if_pos hl, Option.bind, hq]; rfl))
      have s2 : sr md 12 4 (.setIx (.var 0) (.cst (.int 1)) (.op2 .add (.op2 .ix (.var 0) (.cst (.int 1))) (.cst (.int 1)))) [some (.ref 0), some (.int n), none, some (.int q)] [some (zz' qs i 0 s)] (.nx [some (.ref 0), some (.int n), none, some (.int q)] [some (zz' qs (i + 1) 0 s)]) :=
        sr_setIx (j := 0) (c := zz' qs i 0 s) (y := .int (i + 1)) (d := zz' qs (i + 1) 0 s) (vr_op2 (z1 rfl) vr_cst rfl) (vr_var rfl) vr_cst rfl rfl
      by_cases h2 : q ≥ 1000000000000000000
      · obtain ⟨k, i', c', s', a1, a2, a3, a4, a5, a6, a7⟩ := end_ (i + 1) q s (some (.int q)) (by omega) (by omega) hs hs2
        refine ⟨k, i', c', s', a1, a2, a3, a4, a5, a6, br_cons (sr_ite t0 (br_one (sr_ite t1 (br_cons s1 (br_cons s2 (br_one (sr_ite (t := true) (tr_op2 (vr_op2 (vr_var rfl) (vr_op2 vr_cst vr_cst rfl) ?_)) (br_one (sr_setIx (vr_var rfl) (vr_var rfl) vr_cst rfl rfl))))))))) a7⟩
        simp [op2, o_ge]; omega
      · have e1 : 0 ≤ (s * 48271 + q * 69621 + 11) % 2147483647 := Int.emod_nonneg _ (by omega)
        have e2 : (s * 48271 + q * 69621 + 11) % 2147483647 < 2147483647 := Int.emod_lt_of_pos _ (by omega)
        obtain ⟨k, i', c', s', a1, a2, a3, a4, a5, a6, a7⟩ := end_ (i + 1) 0 ((s * 48271 + q * 69621 + 11) % 2147483647) (some (.int q)) (by omega) (by omega) e1 (by omega)
        refine ⟨k, i', c', s', a1, a2, a3, a4, a5, a6, br_cons (sr_ite t0 (br_one (sr_ite t1 (br_cons s1 (br_cons s2 (br_one (sr_ite (t := false) (tr_op2 (vr_op2 (vr_var rfl) (vr_op2 vr_cst vr_cst rfl) ?_)) (br_one (sr_setIx (vr_op2 (vr_bi (vr_op2 (vr_op2 (vr_op2 (z3 rfl) vr_cst rfl) (vr_op2 (vr_var rfl) vr_cst rfl) rfl) vr_cst rfl) rfl) vr_cst rfl) (vr_var rfl) vr_cst rfl rfl))))))))) a7⟩
        simp [op2, o_ge]; omega
    · have t1 : tr md 12 (.op2 .lt (.op2 .ix (.var 0) (.cst (.int 1))) (.bi .len [(.op2 .ix (.var 0) (.cst (.int 0)))])) [some (.ref 0), some (.int n), none, none] [some (zz' qs i 0 s)] false :=
        tr_op2 (vr_op2 (z1 rfl) (vr_bi (z0 rfl) (z := .int qs.length) (by simp [biN, bi1, b_len, deref])) (by simp [op2, o_lt]; omega))
      have e1 : 0 ≤ (s * 48271 + 7) % 2147483647 := Int.emod_nonneg _ (by omega)
      have e2 : (s * 48271 + 7) % 2147483647 < 2147483647 := Int.emod_lt_of_pos _ (by omega)
      obtain ⟨k, i', c', s', a1, a2, a3, a4, a5, a6, a7⟩ := end_ i 0 ((s * 48271 + 7) % 2147483647) none hi (by omega) e1 (by omega)
      exact ⟨k, i', c', s', a1, a2, a3, a4, a5, a6, br_cons (sr_ite t0 (br_one (sr_ite t1 (br_one (sr_setIx (vr_op2 (vr_bi (vr_op2 (vr_op2 (z3 rfl) vr_cst rfl) vr_cst rfl) rfl) vr_cst rfl) (vr_var rfl) vr_cst rfl rfl))))) a7⟩
  · have t0 : tr md 12 (.op2 .eq (.op2 .ix (.var 0) (.cst (.int 2))) (.cst (.int 0))) [some (.ref 0), some (.int n), none, none] [some (zz' qs i c s)] false := tr_op2 (vr_op2 (z2 rfl) vr_cst (by simp [op2, o_eq, deref, depOk, eqv, h0]))
    obtain ⟨k, i', c', s', a1, a2, a3, a4, a5, a6, a7⟩ := end_ i c s none hi hc hs hs2
    exact ⟨k, i', c', s', a1, a2, a3, a4, a5, a6, br_cons (sr_ite t0 br_nil) a7⟩
end Yl

set_option maxRecDepth 100000
set_option maxHeartbeats 4000000
/-! Y21: _law_draw keeps its contract. -/
namespace Yl
open PySem PySem.Spec PyProof.Rows L2
open T (good_bind)
def L0 : Lw := ⟨⟨[], [], []⟩, [], [], ["int", "len"], [], [], [], [], [], [], [], false, []⟩
def md0 : Md := ⟨fun _ => (0, 0, []), fun _ _ _ => .no, fun _ => .non, 0⟩
section
variable {M : Mx} {N ps : List Str} {scope : Scope} {body : List Stmt} {x qual : Str} {params : Arguments} {kws : List (Str × V)} {fa : Addr} {fd : FuncData}
theorem fac0 (h1 : M.mg "int" = none) (h2 : M.mg "len" = none) : Fac M L0 :=
  ⟨fun g x h => by simp [L0] at h, fun x h => by
    simp only [L0, List.mem_cons, List.not_mem_nil, or_false] at h
    rcases h with rfl | rfl
    · exact h1
    · exact h2, fun C h => by simp [L0] at h, fun p h => by simp [L0] at h, fun p h => by simp [L0] at h, fun p h => by simp [L0] at h, fun p h => by simp [L0] at h, fun p h => by simp [L0] at h, fun p h => by simp [L0] at h, fun C h => by simp [L0] at h⟩
theorem cls0 : Cls2 M L0 md0 0 := ⟨fun f x h => by simp [L0] at h, fun h => by simp [L0] at h, fun C m f h => by simp [L0] at h, fun j C f dfl h => by simp [L0] at h⟩
theorem draw_ok (FD : FunD M.K x qual params body scope [] kws fa fd) (FS : FnScope N ps scope) (hps : ps.length = 2) (hN : N.length = 4) (h1 : M.mg "int" = none) (h2 : M.mg "len" = none) (hc : all2 (ckSS L0 N scope 12 6) drawB body = true) :
    FnOk M.P M.w M.K M.mg M.base (L2.CX M.P M.w) 3 fa fd ps (spC M conDraw) := by
  refine def_ok FD FS (fun ds h P PX c => ?_) (fun X W hb st fr fn ds h Pq PX c => ?_)
  · obtain ⟨n, rfl, _⟩ := c
    rw [hps]; rfl
  · obtain ⟨n, rfl, rfl, hn, hn2, q⟩ := c
    have e : begin N [.ref 0, .int n] = [some (.ref 0), some (.int n), none, none] := by unfold begin; rw [hN]; rfl
    rw [e]
    intro w0 H0 σ w H Dn eh ex wk sk xc qq
    obtain ⟨qs, i, c, s, b1, b2, b3, b4, e1, k1⟩ := zz_open (j := 0) wk (by rw [eh]; rfl)
    obtain ⟨k', i', c', s', z1, z2, z3, z4, z5, z6, z7⟩ := draw_run md0 qs i c s n b1 b2 b3 b4 (by omega) (by omega)
    have key := blk_bx (G := ⟨W, fun c pl _ h => False⟩) (S' := fun o => o = .rt false (.int k') [some (zz' qs i' c' s')]) (evS_ok (fac0 h1 h2) (cls0 (M := M)) (Nat.zero_lt_succ 1) (Nat.le_refl 2) (fun _ => rfl) (fun _ => rfl) 12 6) hb ⟨st, fr, fn⟩ hc (fun c pl ρ h q => by cases q) (by
      show T.good (blk (evS md0 12 6) drawB [some (.ref 0), some (.int n), none, none] [some (zz' qs i c s)]) _ _
      rw [show blk (evS md0 12 6) drawB [some (.ref 0), some (.int n), none, none] [some (zz' qs i c s)] = _ from z7]
      rfl)
    refine key w0 H0 σ (w.put 0 (some (zzD qs i c s))) H Dn ?_ (ex.trans e1) k1 (sk.ext e1) (fun c pl d σ w H ρ px => px.elim) (fun o ho => ?_)
    · show w.h.set 0 _ = _
      rw [eh]; rfl
    · subst ho
      intro v w1 H1 eh1 ex1 wk1 r
      obtain ⟨e2, k2⟩ := zz_close (j := 0) wk1 (by rw [eh1]; rfl) z3 z4 z5 z6
      have hk : ∃ kn : Nat, k' = kn ∧ kn < n := ⟨k'.toNat, by omega, by omega⟩
      obtain ⟨kn, rfl, hk⟩ := hk
      refine qq (.rt false (.int kn) [some .zz]) (q kn hk) v (w1.put 0 (some .zz)) H1 ?_ (ex1.trans e2) k2 ?_
      · show w1.h.set 0 _ = _
        rw [eh1]; rfl
      · exact r
end
end Yl

set_option maxRecDepth 100000
set_option maxHeartbeats 4000000
/-! Y22: from what the head tells to what the check wants. -/
namespace Yl
open PySem PySem.Spec PyProof.Rows L2
/-! ### which facts are told -/
def faEq : He.Fa → He.Fa → Bool
  | .glo a, .glo b => decide (a = b)
  | .free a, .free b => decide (a = b)
  | .cls a, .cls b => decide (a = b)
  | .noat a x, .noat b y => decide (a = b) && decide (x = y)
  | .exc a, .exc b => decide (a = b)
  | .exm a x u, .exm b y v => decide (a = b) && (decide (x = y) && (u == v))
  | .keep a, .keep b => decide (a = b)
  | .str a x, .str b y => decide (a = b) && decide (x = y)
  | .meth a x, .meth b y => decide (a = b) && decide (x = y)
  | .mkr a, .mkr b => decide (a = b)
  | _, _ => false
theorem faEq_ok {a b : He.Fa} (h : faEq a b = true) : a = b := by
  cases a <;> cases b <;> first | (cases h; done) | skip
  all_goals simp only [faEq, Bool.and_eq_true, decide_eq_true_eq, beq_iff_eq] at h
  all_goals first | (obtain ⟨rfl, rfl, rfl⟩ := h; rfl) | (obtain ⟨rfl, rfl⟩ := h; rfl) | (subst h; rfl)
def faHas (fa : List He.Fa) (f : He.Fa) : Bool := fa.any fun g => faEq f g
section
variable {fa : List He.Fa} {fn : List He.DefD} {K : PySem.W.Frag} {f : He.Fa}
theorem faHas_ok (c : He.SaysD fa fn K) (h : faHas fa f = true) : f.ok K = true := by
  obtain ⟨g, hg, e⟩ := List.any_eq_true.mp h
  rw [faEq_ok e]
  exact c.facts hg
end
/-! ### a table of the top with texts as keys -/
theorem dicW_lk {K : PySem.W.Frag} {a : Addr} {l : List (Option (Str × Int))} (h : He.dicW K a = some l) : ∃ es n c sl, K.lookup a = some ⟨.type c, none, .dict es n, sl⟩ ∧ es.toList.map He.keyOf = l := by
  unfold He.dicW at h
  split at h
  · rename_i q
    split at h
    · exact ⟨_, _, _, _, q, Option.some.inj h⟩
    · cases h
  · cases h
theorem find_none {ks : List Str} {P : Params} {name : Str} : ∀ {l : List DictEntry}, l.map He.keyOf = He.keysIn P ks → name ∉ ks → l.find? (·.key.isStr name) = none ∧ l.any (·.refKey) = false := by
  induction ks with
  | nil =>
    intro l h _
    have : l = [] := by simpa [He.keysIn] using h
    subst this
    exact ⟨rfl, rfl⟩
  | cons k ks ih =>
    intro l h hn
    cases l with
    | nil => cases h
    | cons e l =>
      have h1 : He.keyOf e :: l.map He.keyOf = some (k, PyData.keyHash P k) :: He.keysIn P ks := h
      injection h1 with h2 h3
      obtain ⟨i1, i2⟩ := ih h3 fun z => hn (List.mem_cons_of_mem _ z)
      unfold He.keyOf at h2
      split at h2
      · rename_i x t q
        have h4 := (Prod.mk.inj (Option.some.inj h2)).1
        subst h4
        refine ⟨?_, ?_⟩
        · rw [List.find?_cons, i1]
          have : e.key.isStr name = false := by
            rw [q]
            unfold Value.isStr
            have : x ≠ name := fun z => hn (by rw [z]; exact List.mem_cons_self)
            simpa using this
          rw [this]
        · rw [List.any_cons, i2]
          have : e.refKey = false := by
            unfold DictEntry.refKey
            rw [q]
          rw [this]; rfl
      · cases h2
/-- what stands in slot by slot: names of the module and their data -/
def glAll (M : Mx) : List (Option Str) → List D → Prop
  | [], _ => True
  | none :: r, ds => glAll M r ds.tail
  | some x :: r, ds => (∃ v u, M.mg x = some u ∧ RelV v u ∧ ∀ F m, Rep M F m v (ds.headD .non)) ∧ glAll M r ds.tail
theorem glAll_get {M : Mx} : ∀ {gn : List (Option Str)} {ds : List D}, glAll M gn ds → ∀ g x, gn[g]? = some (some x) → ∃ v u, M.mg x = some u ∧ RelV v u ∧ ∀ F m, Rep M F m v (ds.getD g .non)
  | [], ds, h, g, x, e => by simp at e
  | o :: r, ds, h, 0, x, e => by
    simp at e
    subst e
    have := h.1
    cases ds <;> exact this
  | o :: r, ds, h, g + 1, x, e => by
    have h2 : glAll M r ds.tail := by cases o with | none => exact h | some y => exact h.2
    have e2 : r[g]? = some (some x) := by simpa using e
    have := glAll_get h2 g x e2
    cases ds <;> exact this
/-! ### an error class with its own __init__ -/
theorem oexB_ok {K : PySem.W.Frag} {C : Addr} (h : oexB K C = true) : OexC K C := by
  unfold oexB at h
  simp only [Bool.and_eq_true, decide_eq_true_eq] at h
  obtain ⟨h0, h1, h2, h3, h4⟩ := h
  refine ⟨?_, h1, h2, h3, h4⟩
  split at h0
  · rename_i c dd nm bs C' bm N q hd sn sub ab col del sl lk
    simp only [Bool.and_eq_true, decide_eq_true_eq, Bool.not_eq_true'] at h0
    obtain ⟨rfl, rfl, rfl, rfl, h5, h6⟩ := h0
    split at h6
    · rename_i k0 k1 k2 k3 n k5 hs
      have := of_decide_eq_true h6
      subst this
      have hsl : sl = #[k0, k1, k2, k3, some (.builtin "ValueError.__new__"), k5] := by
        obtain ⟨l⟩ := sl
        simp only at hs
        rw [hs]
      subst hsl
      exact ⟨nm, q, N, bs, bm, sn, sub, ab, col, dd, k0, k1, k2, k3, k5, lk, h5⟩
    · cases h6
  · cases h0
section
variable {P : Program} {w : World} {K : PySem.W.Frag} {mg : Str → Option Value} {base : Heap} {f C : Addr} {fd : FuncData} {x qual g : Str} {params : Arguments} {scope : Scope} {kws : List (Str × V)} {N ps : List Str} {a b : Str} {q1 q2 q3 q4 : Pos}
/-- __init__ of it: self.g = b -/
theorem ox_init (F : FunD K x qual params [.Assign [.Attribute (.Name a q1) g q2] (.Name b q3) q4] scope [] kws f fd) (S : FnScope [a, b] [a, b] scope) (T : OexC K C) (no : PySem.W.findIn K (.ref C) g = some none)
    (a1 : (a == ("__debug__" : Str)) = false) (a2 : (a == ("__classdict__" : Str)) = false) (b1 : (b == ("__debug__" : Str)) = false) (b2 : (b == ("__classdict__" : Str)) = false) (va : scope.names.lookup a = some .local) (vb : scope.names.lookup b = some .local) :
    FnOk P w K mg base (L2.CX P w) 1 f fd [a, b] (spOx C g) := by
  refine F.ok S (fun vs H Q E h => ?_) (fun cdv A outer s H vs Q E hr h => ?_)
  · obtain ⟨x, v, rfl, _⟩ := h
    rfl
  · obtain ⟨x, v, rfl, hx, h⟩ := h
    refine ⟨_, pss_one (ps_ost (pe_var (i := 0) rfl (.inl va) a1 a2) (pe_var (i := 1) rfl (.inl vb) b1 b2) rfl), ?_⟩
    exact ⟨v, rfl, .ref x, rfl, x, C, rfl, T, no, .inl ⟨hx, fun dx hd ne => h dx hd ne⟩⟩
end
end Yl

set_option maxRecDepth 100000
set_option maxHeartbeats 4000000
/-! Y23: the check's facts all together; the law's first statement; the law. -/
namespace Yl
open PySem PySem.Spec PyProof.Rows L2
open T (good_bind)
/-! ### tables with texts as keys -/
theorem kdB_ok {K : PySem.W.Frag} {a : Addr} : ∀ {kvs : List (Tx × Int)}, kdB K a kvs = true → ∀ k i, (k, i) ∈ kvs → ∃ u, PySem.W.nsIn K a (ts k) = some (some u) ∧ RelV (.int i) u
  | [], _, k, i, h => by cases h
  | (k0, i0) :: r, h, k, i, hm => by
    unfold kdB at h
    rw [Bool.and_eq_true_iff] at h
    rcases List.mem_cons.mp hm with e | hm
    · cases e
      have h1 := h.1
      split at h1
      · rename_i u e
        exact ⟨u, e, He.relB_ok h1⟩
      · cases h1
    · exact kdB_ok h.2 k i hm
theorem lookup_mem2 {k : Tx} : ∀ {kvs : List (Tx × Int)}, (match kvs.lookup k with | some i => (k, i) ∈ kvs | none => k ∉ kvs.map (·.1))
  | [] => by simp
  | (a, b) :: r => by
    rw [List.lookup_cons]
    cases q : k == a with
    | true =>
      have := eq_of_beq q
      subst this
      exact List.mem_cons_self
    | false =>
      have ih := lookup_mem2 (k := k) (kvs := r)
      have ne : k ≠ a := fun z => by subst z; simp at q
      cases e : r.lookup k with
      | some i => rw [e] at ih; exact List.mem_cons_of_mem _ ih
      | none =>
        rw [e] at ih
        simp only [List.map_cons, List.mem_cons, not_or]
        exact ⟨ne, ih⟩
theorem rep_kdct {M : Mx} {a : Addr} {kvs : List (Tx × Int)} (hd : He.dicW M.K a = some (He.keysIn M.w.params (kvs.map fun p => ts p.1))) (hv : kdB M.K a kvs = true) (F : Hp) (m : List Addr) : Rep M F m (.ref a) (.kdct kvs) := by
  refine .kdct (He.dicW_ok hd) fun z => ?_
  have key := lookup_mem2 (k := z) (kvs := kvs)
  cases e : kvs.lookup z with
  | some i =>
    rw [e] at key
    obtain ⟨u, h1, h2⟩ := kdB_ok hv z i key
    exact ⟨_, h1, u, rfl, h2⟩
  | none =>
    rw [e] at key
    refine ⟨none, ?_, rfl⟩
    obtain ⟨es, n, c, sl, lk, hm⟩ := dicW_lk hd
    have hn : ts z ∉ kvs.map fun p => ts p.1 := fun q => by
      obtain ⟨p, hp, ep⟩ := List.mem_map.mp q
      exact key (List.mem_map.mpr ⟨p, hp, ts_inj ep⟩)
    obtain ⟨f1, f2⟩ := find_none hm hn
    unfold PySem.W.nsIn
    rw [lk]
    show (match es.toList.find? (·.key.isStr (ts z)) with | some e => some (some e.val) | none => if es.toList.any (·.refKey) then none else some none) = _
    rw [f1, f2]; rfl
/-! ### the facts -/
def facB (fa : List He.Fa) (cn : Nat → Str) (L : Lw) : Bool :=
  L.free.all (fun x => faHas fa (.free x)) && (L.plain.all (fun C => faHas fa (.cls (cn C))) && (L.noat.all (fun p => faHas fa (.noat (cn p.1) (ts p.2))) && (L.cnm.all (fun p => decide (cn p.1 = p.2) && faHas fa (.glo p.2)) && (L.exc0.all (fun C => faHas fa (.exc (cn C))) && L.exm.all (fun p => faHas fa (.exm (cn p.1) (cn p.2.1) p.2.2))))))
section
variable {fa : List He.Fa} {fn : List He.DefD} {K : PySem.W.Frag} {h : Heap} {mg : Str → Option Value} {P : Program} {w : World} {base : Heap} {L : Lw} {cn : Nat → Str}
abbrev mxOf (P : Program) (w : World) (K : PySem.W.Frag) (mg : Str → Option Value) (base : Heap) (cn : Nat → Str) : Mx := ⟨P, w, K, mg, base, fun c => He.ga K (cn c)⟩
theorem fac_of (KX : K.In h) (G : h.Ns mainGlobals mg) (c : He.SaysD fa fn K) (hB : facB fa cn L = true) (hgl : glAll (mxOf P w K mg base cn) L.gnm L.pg.gls)
    (h3 : ∀ C, C ∈ L.plain → ownB K (He.ga K (cn C)) = true) (h1 : ∀ p, p ∈ L.exc1 → ∀ x, (p.1, x) ∈ L.cnm → ExcI (mxOf P w K mg base cn) p.1 x (ts p.2) 1) (h2 : ∀ p, p ∈ L.xf → XfC K (He.ga K (cn p.1)) ∧ PySem.W.findIn K (.ref (He.ga K (cn p.1))) (ts p.2) = some none) : Fac (mxOf P w K mg base cn) L := by
  simp only [facB, Bool.and_eq_true, List.all_eq_true, decide_eq_true_eq] at hB
  obtain ⟨b1, b2, b3, b4, b5, b6⟩ := hB
  have cnm : ∀ p, p ∈ L.cnm → mg p.2 = some (.ref (He.ga K (cn p.1))) := fun p hp => by
    obtain ⟨e1, e2⟩ := b4 p hp
    rw [e1]
    exact He.glo_ok KX G (faHas_ok c e2)
  refine ⟨glAll_get hgl, fun x hx => He.free_ok KX G (faHas_ok c (b1 x hx)), fun C hC => He.cls_ok (faHas_ok c (b2 C hC)), fun p hp => He.noat_ok (faHas_ok c (b3 p hp)), cnm, fun C hC x hx => ?_, h1, fun p hp => He.exm_ok (faHas_ok c (b6 p hp)), h2, fun C hC => ownB_ok (M := mxOf P w K mg base cn) (He.cls_ok (faHas_ok c (b2 C hC))) (h3 C hC)⟩
  obtain ⟨e1, e2, e3, e4⟩ := He.exc_ok (faHas_ok c (b5 C hC))
  exact ⟨cnm _ hx, e1, e2, e3, e4⟩
end
/-! ### a def of the module, from the head's facts -/
/-! ### the law's first statement -/
def spBegin (K : PySem.W.Frag) : Sp := fun vs H Q _ => ∃ (a : Addr) (ns : List Int), vs = [.ref a] ∧ SqL K H a (ns.map V.int) ∧ ∀ q p, H q = none → H p = none → p ≠ q → Q (.ref p) (upd (upd H q (.lst (ns.map V.int))) p (.lst [.ref q, .int 0, .int 0, .int 7]))
section
variable {P : Program} {w : World} {K : PySem.W.Frag} {mg : Str → Option Value} {base : Heap} {f : Addr} {fd : FuncData} {x qual : Str} {params : Arguments} {scope : Scope} {kws : List (Str × V)} {s : Str} {q1 q2 q3 q4 q5 q6 q7 q8 : Pos} {i1 i2 i3 : Nat}
theorem begin_ok0 (F : FunD K x qual params [.Return (some (.List [.Call (.Name "list" q1) [.Name s q2] [] q3, .Constant (.int 0) i1 q4, .Constant (.int 0) i2 q5, .Constant (.int 7) i3 q6] q7)) q8] scope [] kws f fd) (S : FnScope [s] [s] scope) (hl : mg "list" = none) (gl : scope.names.lookup ("list" : Str) = some .globalImplicit)
    (vs : scope.names.lookup s = some .local) (a1 : (s == ("__debug__" : Str)) = false) (a2 : (s == ("__classdict__" : Str)) = false) : FnOk P w K mg base (L2.CX P w) 1 f fd [s] (spBegin K) := by
  refine F.ok S (fun vs H Q E h => ?_) (fun cdv A outer s0 H vs' Q E hr h => ?_)
  · obtain ⟨a, ns, rfl, _⟩ := h
    rfl
  · obtain ⟨a, ns, rfl, hs, h⟩ := h
    refine ⟨_, pss_one (ps_ret (pe_lst (pa_cons (pe_callTy call_list_of gl hl (by decide +kernel) (pa_cons (pe_var (i := 0) rfl (.inl vs) a1 a2) pa_nil)) (pa_cons pe_int (pa_cons pe_int (pa_cons pe_int pa_nil)))))), ?_⟩
    refine ⟨_, rfl, a, ns.map V.int, rfl, .inl hs, fun q hq => ?_⟩
    refine ⟨show 4 ≤ sizeLine by (rw [sizeLine_eq]; decide), fun p hp => ?_⟩
    have hne : p ≠ q := fun z => by rw [z, upd_same] at hp; cases hp
    exact h q p hq (by rw [upd_ne hne] at hp; exact hp) hne
end
/-! ### the law -/
def lawEnv (ns dr : Nat) : Env := (List.replicate ns none).set dr (some (.ref 0))
def isRtT : Out → Bool
  | .rt false (.bl true) _ => true
  | _ => false
def lawRun (pg : Pg) (m n fuel k f dr : Nat) : T Out := match pg.fns.getD f none with
  | some F => (blk (evS ⟨fun j => pg.mks.getD j (0, 0, []), run pg m n fuel k, fun g => pg.gls.getD g .non, fuel⟩ m n) F.body (lawEnv F.ns dr) [some .zz]).calm
  | none => .no
/-- the law's run ends in True, whatever is drawn -/
structure RunOk (pg : Pg) (m n fuel k f dr : Nat) : Prop where
  g : (lawRun pg m n fuel k f dr).good (fun o => isRtT o = true) (fun _ _ _ => False)
def spLaw (K : PySem.W.Frag) : Sp := fun vs H Q _ => ∃ (a : Addr) (ns : List Int), vs = [.ref a] ∧ SqL K H a (ns.map V.int) ∧ ∀ H', Q (.bl true) H'
section
variable {M : Mx} {L : Lw} {m n fuel j : Nat} {N : List Str} {scope : Scope} {rest : List Stmt} {x qual : Str} {params : Arguments} {kws : List (Str × V)} {fa fb : Addr} {fd fdb : FuncData} {s d g sb : Str} {p1 p2 p3 p4 p5 : Pos} {F : Fn} {f dr : Nat}
theorem law_ok0 (A : Cls2 M L (mdAt L m n fuel j) (2 * j + 3)) (P : Fac M L) (FD : FunD M.K x qual params (.Assign [.Name d p1] (.Call (.Name g p2) [.Name s p3] [] p4) p5 :: rest) scope [] kws fa fd) (FS : FnScope N [s] scope)
    (GB : FnOk M.P M.w M.K M.mg M.base (L2.CX M.P M.w) 1 fb fdb [sb] (spBegin M.K)) (gB : M.mg g = some (.ref fb)) (kB : PySem.W.keepIn M.K (.ref fb) = true) (bB : Binds M.K fdb [sb] [])
    (hf : L.pg.fns[f]? = some (some F)) (hns : F.ns = N.length) (hd : N[dr]? = some d) (hs0 : N[0]? = some s) (hdr : dr ≠ 0)
    (gl : scope.names.lookup g = some .globalImplicit) (g1 : (g == ("__debug__" : Str)) = false) (vs : scope.names.lookup s = some .local) (s1 : (s == ("__debug__" : Str)) = false) (s2 : (s == ("__classdict__" : Str)) = false)
    (vd : kindS scope d = true) (hc : all2 (ckSS L N scope m n) F.body rest = true) (run : RunOk L.pg m n fuel j f dr) :
    FnOk M.P M.w M.K M.mg M.base (L2.CX M.P M.w) (2 * (j + 1) + 3) fa fd [s] (spLaw M.K) := by
  refine FD.ok FS (fun vs H Q E h => ?_) (fun cdv A' outer s0 H vs' Q E hr h => ?_)
  · obtain ⟨a, ns, rfl, _⟩ := h
    rfl
  · obtain ⟨a, ns, rfl, hs, hQ⟩ := h
    have hb0 := bx_of (M := M) (E := E) (s := s0) (H := H) (outer := outer) (cdv := cdv) (k := 2 * j + 4) FS hr
    have fx0 : Frx (cxOf (L2.CX M.P M.w) M.P M.w M.K M.mg M.base N qual scope fa cdv A' outer s0 H E) := ⟨rfl, rfl, fun _ => rfl⟩
    have lf := loc_hf hb0.toBw (kindS_ok fx0.fn vd)
    have hlen : 0 < N.length := (List.getElem?_eq_some_iff.mp hs0).1
    refine ⟨_, pss_cons (ps_set (i := dr) FS.nd hd lf.1 (pe_callS GB (hr.mono (by omega)) gl gB kB bB (fun σ => passAt hb0.tk σ) (pa_cons (pe_var (i := 0) hs0 (.inl vs) s1 s2) pa_nil) g1) rfl lf.2) pb_rd, ?_⟩
    refine ⟨_, rfl, a, ns, rfl, hs, fun q p hq hp hne => ?_⟩
    show rdB _ rest _ ((start N [V.ref a]).set dr (some (.ref p))) _
    let H1 : Hp := upd (upd H q (.lst (ns.map V.int))) p (.lst [.ref q, .int 0, .int 0, .int 7])
    let w1 : Wd := ⟨fun b => if b = q then some (.lst (ns.map V.int)) else none, [p], [some .zz]⟩
    have hq1 : H1 q = some (.lst (ns.map V.int)) := by show upd _ p _ q = _; rw [upd_ne (Ne.symm hne), upd_same]
    have k1 : WOk M w1 H1 := by
      refine ⟨fun b o e => ?_, rfl, fun i d' e => ?_, fun i l b x y => ?_⟩
      · have e : (if b = q then some (HO.lst (ns.map V.int)) else none) = some o := e
        split at e
        · rename_i hb
          cases e
          rw [hb]
          exact .of hq1
        · cases e
      · cases i with
        | zero =>
          have e : some (some D.zz) = some (some d') := e
          cases e
          exact ⟨p, .lst [.ref q, .int 0, .int 0, .int 7], rfl, if_neg hne, upd_same, q, 0, 0, 7, ns, rfl, if_pos rfl, by decide, by decide, by decide, by decide⟩
        | succ i =>
          have e : ([] : Hc)[i]? = some (some d') := e
          simp at e
      · have z : ∀ {i : Nat} {b : Addr}, Live w1 i b → i = 0 := fun {i b} l => by
          cases i with
          | zero => rfl
          | succ i =>
            obtain ⟨⟨d', h⟩, _⟩ := l
            have h : ([] : Hc)[i]? = some (some d') := h
            simp at h
        rw [z x, z y]
    have s1' : SOk M w1 ((start N [V.ref a]).set dr (some (.ref p))) (lawEnv F.ns dr) := by
      refine ⟨by simp [lawEnv, hns, L2.start]; omega, fun i d' e => ?_⟩
      unfold lawEnv at e
      by_cases hi : dr = i
      · subst hi
        have hl : dr < N.length := (List.getElem?_eq_some_iff.mp hd).1
        rw [List.getElem?_set_self (by simpa [hns] using hl)] at e
        cases e
        exact ⟨.ref p, List.getElem?_set_self (by simp [L2.start]; omega), .ref rfl⟩
      · rw [List.getElem?_set_ne hi, List.getElem?_replicate] at e
        split at e <;> cases e
    have run2 := run.g
    unfold lawRun at run2
    rw [List.getD_eq_getElem?_getD, hf] at run2
    have key := blk_bx (G := ⟨_, fun _ _ _ _ => False⟩) (S' := fun o => isRtT o = true) (evS_ok P A (Nat.le_refl _) (by omega) (fun _ => rfl) (fun _ => rfl) m n) (k := 2 * j + 4) hb0 fx0 hc (fun c pl ρ h q => by cases q) (calm_good run2)
    refine key w1 H1 _ w1 H1 _ rfl Ext.refl k1 s1' (fun c pl d σ w H ρ px => px.elim) (fun o ho => ?_)
    cases o with
    | rt fl d2 h2 =>
      cases fl <;> cases d2 <;> first | (cases ho; done) | skip
      rename_i b
      cases b <;> first | (cases ho; done) | skip
      intro v w2 H2 _ _ _ r
      have r : Rep M w2.F w2.m v (.bl true) := r
      rw [r.bl_inv]
      exact hQ H2
    | _ => cases ho
end
end Yl
namespace Yl
open PySem PySem.Spec PyProof.Rows L2
/-! ### lists of what is shown def by def -/
def fnAll (M : Mx) (L : Lw) (m n : Nat) : Nat → List (Option Str) → Prop
  | _, [] => True
  | i, none :: r => fnAll M L m n (i + 1) r
  | i, some x :: r => FnS M L m n i x ∧ fnAll M L m n (i + 1) r
theorem fnAll_get {M : Mx} {L : Lw} {m n : Nat} : ∀ {l : List (Option Str)} {i : Nat}, fnAll M L m n i l → ∀ f x, l[f]? = some (some x) → FnS M L m n (i + f) x
  | [], i, h, f, x, e => by simp at e
  | o :: r, i, h, 0, x, e => by
    simp at e
    subst e
    exact h.1
  | o :: r, i, h, f + 1, x, e => by
    have h2 : fnAll M L m n (i + 1) r := by cases o with | none => exact h | some y => exact h.2
    have := fnAll_get h2 f x (by simpa using e)
    rw [Nat.add_assoc, Nat.add_comm 1 f] at this
    exact this
def mkAll (M : Mx) (L : Lw) (m n : Nat) : List (Nat × Nat × List D) → Prop
  | [] => True
  | p :: r => ((L.cnm.any fun q => Nat.beq q.1 p.1) = true → MkS M L m n p.1 p.2.1 p.2.2) ∧ mkAll M L m n r
theorem mkAll_get {M : Mx} {L : Lw} {m n : Nat} : ∀ {l : List (Nat × Nat × List D)}, mkAll M L m n l → ∀ (j C f : Nat) (dfl : List D), l[j]? = some (C, f, dfl) → ∀ x, (C, x) ∈ L.cnm → MkS M L m n C f dfl
  | [], h, j, C, f, dfl, e, x, hx => by simp at e
  | p :: r, h, 0, C, f, dfl, e, x, hx => by
    simp at e
    subst e
    exact h.1 (List.any_eq_true.mpr ⟨_, hx, Nat.beq_refl C⟩)
  | p :: r, h, j + 1, C, f, dfl, e, x, hx => mkAll_get h.2 j C f dfl (by simpa using e) x hx
theorem rep_lit {M : Mx} {F : Hp} {m : List Addr} {z : Str} {x : Tx} (h : z.cps.toList = x) : Rep M F m (.str z) (.str x) := by
  subst h
  have := Rep.str (M := M) (F := F) (m := m) z.cps.toList
  rw [ts_of] at this
  exact this
/-- a def, from the head's facts -/
theorem fnS_of {fa : List He.Fa} {fn : List He.DefD} {K : PySem.W.Frag} {h : Heap} {mg : Str → Option Value} {P : Program} {w : World} {base : Heap} {cn : Nat → Str} {L : Lw} {m n f : Nat} {N ps : List Str} {F : Fn} {x : Str} (KX : K.In h) (G : h.Ns mainGlobals mg) (c : He.SaysD fa fn K) {d : He.DefD} (i : Nat)
    (hd : fn[i]? = some d) (ha : d.at_ = (x, none)) (hx : d.name = x) (h0 : d.dfl = []) (hg : faHas fa (.glo x) = true) (S : FnScope N ps d.scope)
    (hb : ∀ (kV doc pm : Value) (an : Option Addr) (cdv ct : Value) (us : List Value), us.length = ps.length → bindArgs (PySem.W.fnOf d.name d.qual d.params d.body d.scope .none kV doc pm an cdv ct) ⟨us, []⟩ = pure (ps.zip us))
    (hf : L.pg.fns[f]? = some (some F)) (h1 : F.ns = N.length) (h2 : F.ps = ps.length) (hc : all2 (ckSS L N d.scope m n) F.body d.body = true) : FnS (mxOf P w K mg base cn) L m n f x := by
  obtain ⟨fd, FD⟩ := c.def_ i hd
  have e : d.dvs K = [] := by unfold He.DefD.dvs; rw [h0]; rfl
  rw [e] at FD
  have g := He.glo_ok KX G (faHas_ok c hg)
  have ea : He.fAd K d.at_ = He.ga K x := by rw [ha]; rfl
  rw [ea] at FD
  refine ⟨He.ga K x, fd, d.qual, d.params, d.body, d.scope, d.kws K, N, ps, F, ?_, S, g, FD.bindsN hb, hf, h1, h2, hc⟩
  rw [← hx]
  rw [← hx] at FD
  exact FD
end Yl
namespace Yl
open PySem PySem.Spec PyProof.Rows L2
theorem cx_no {P : Program} {w : World} {st : List PySem.Env} {H : Hp} {s s' : Shared} {e : Value} (h : L2.CX P w st H s (fun _ _ _ => False) e s') : False := by
  obtain ⟨_, _, _, _, _, _, _, _, _, _, _, _, z⟩ := h
  exact z
theorem fd_eq {K : PySem.W.Frag} {x qual : Str} {params : Arguments} {body : List Stmt} {scope : Scope} {dvs dvs' : List V} {kws kws' : List (Str × V)} {f : Addr} {fd fd' : FuncData} (a : FunD K x qual params body scope dvs kws f fd) (b : FunD K x qual params body scope dvs' kws' f fd') : fd = fd' := by
  obtain ⟨oc, od, dV, kV, doc, pm, an, cdv, ct, osl, rfl, lk, _⟩ := a.ex
  obtain ⟨oc2, od2, dV2, kV2, doc2, pm2, an2, cdv2, ct2, osl2, rfl, lk2, _⟩ := b.ex
  rw [lk] at lk2
  injection lk2 with e
  injection e with _ _ e _
  injection e with e
end Yl

set_option maxRecDepth 100000
/-! Ysp: a run, draw by draw. -/
namespace Yl.T
def drN {α : Type} : T α → Option Nat
  | dr n _ => some n
  | _ => none
def at_ {α : Type} : T α → Nat → T α
  | dr _ f, i => f i
  | t, _ => t
theorem goodB_at {α : Type} {P : α → Bool} {t : T α} {n : Nat} (h : t.drN = some n) (k : ∀ i, i < n → (t.at_ i).goodB P = true) : t.goodB P = true := by
  cases t with
  | dr m f =>
    cases h
    exact List.all_eq_true.mpr fun i hi => k i (List.mem_range.mp hi)
  | _ => cases h
end Yl.T

namespace Yl
/-- is_word: 0 thing 1 letter -/
def F_is_word : Fn := ⟨1, 2,
  [(.ret (.and [(.bi .isi [(.var 0), (.ty 3)]), (.bi .all [(.lc [1] false .str [(.var 0)] [] (.op2 .isin (.var 1) (.gl 0)))])]))]⟩
/-- are_letters: 0 thing 1 one 2 other -/
def F_are_letters : Fn := ⟨1, 3,
  [(.ite (.or [(.not (.call 0 [(.var 0)])), (.not (.var 0))]) [(.ret (.cst (.bl false)))] []),
   (.ret (.bi .all [(.lc [1, 2] true .zip [(.var 0), (.slice (.var 0) (some (.cst (.int 1))) none)] [] (.op2 .lt (.var 1) (.var 2)))]))]⟩
/-- are_barred: 0 thing 1 word -/
def F_are_barred : Fn := ⟨1, 2,
  [(.ite (.or [(.not (.bi .isi [(.var 0), (.ty 4)])), (.not (.chain .le .le (.cst (.int 1)) (.bi .len [(.var 0)]) (.cst (.int 6))))]) [(.ret (.cst (.bl false)))] []),
   (.ite (.not (.bi .all [(.lc [1] false .tup [(.var 0)] [] (.and [(.call 0 [(.var 1)]), (.chain .le .le (.cst (.int 1)) (.bi .len [(.var 1)]) (.cst (.int 4)))]))])) [(.ret (.cst (.bl false)))] []),
   (.ret (.op2 .eq (.bi .len [(.dc false 1 .tup (.var 0) (.var 1) (.cst (.bl true)))]) (.bi .len [(.var 0)])))]⟩
/-- are_passes: 0 thing -/
def F_are_passes : Fn := ⟨1, 1,
  [(.ret (.and [(.bi .isi [(.var 0), (.ty 2)]), (.not (.bi .isi [(.var 0), (.ty 1)])), (.chain .le .le (.cst (.int 0)) (.var 0) (.cst (.int 2)))]))]⟩
/-- Lot.__init__: 0 self 1 barred 2 first 3 second 4 rule 5 passes -/
def F_Lot_init : Fn := ⟨6, 6,
  [(.ite (.or [(.not (.call 2 [(.var 1)])), (.not (.call 1 [(.var 2)])), (.not (.call 1 [(.var 3)]))]) [(.raise 1 none [])] []),
   (.ite (.or [(.not (.bi .isi [(.var 4), (.ty 3)])), (.op2 .nin (.var 4) (.gl 1)), (.not (.call 3 [(.var 5)]))]) [(.raise 1 none [])] []),
   (.setFld 10 (.var 0) [98, 97, 114, 114, 101, 100] (.var 1)),
   (.setFld 10 (.var 0) [102, 105, 114, 115, 116] (.var 2)),
   (.setFld 10 (.var 0) [115, 101, 99, 111, 110, 100] (.var 3)),
   (.setFld 10 (.var 0) [114, 117, 108, 101] (.var 4)),
   (.setFld 10 (.var 0) [112, 97, 115, 115, 101, 115] (.var 5))]⟩
/-- Lot.__eq__: 0 self 1 other -/
def F_Lot_eq : Fn := ⟨2, 2,
  [(.ite (.or [(.not (.isI 10 (.var 1))), (.op2 .ne (.bi .sorted [(.fld 10 (.var 0) [98, 97, 114, 114, 101, 100])]) (.bi .sorted [(.fld 10 (.var 1) [98, 97, 114, 114, 101, 100])]))]) [(.ret (.cst (.bl false)))] []),
   (.ret (.op2 .eq (.call 6 [(.var 0)]) (.call 6 [(.var 1)])))]⟩
/-- others_of: 0 lot -/
def F_others_of : Fn := ⟨1, 1,
  [(.ret (.tup [(.fld 10 (.var 0) [102, 105, 114, 115, 116]), (.fld 10 (.var 0) [115, 101, 99, 111, 110, 100]), (.fld 10 (.var 0) [114, 117, 108, 101]), (.fld 10 (.var 0) [112, 97, 115, 115, 101, 115])]))]⟩
/-- is_ending: 0 lot 1 word 2 barred -/
def F_is_ending : Fn := ⟨2, 3,
  [(.ret (.bi .any [(.lc [2] false .tup [(.fld 10 (.var 0) [98, 97, 114, 114, 101, 100])] [] (.me .ends (.var 1) [(.var 2)]))]))]⟩
/-- cut_tail: 0 lot 1 word 2 at 3 barred -/
def F_cut_tail : Fn := ⟨2, 4,
  [(.for_ [2] false .rng [(.op2 .add (.bi .len [(.var 1)]) (.cst (.int 1)))] [(.ite (.bi .any [(.lc [3] false .tup [(.fld 10 (.var 0) [98, 97, 114, 114, 101, 100])] [] (.and [(.me .starts (.var 3) [(.slice (.var 1) (some (.var 2)) none)]), (.op2 .ne (.var 3) (.slice (.var 1) (some (.var 2)) none))]))]) [(.ret (.slice (.var 1) (some (.var 2)) none))] [])]),
   (.ret (.cst (.str [])))]⟩
/-- step: 0 lot 1 here 2 letter -/
def F_step : Fn := ⟨3, 3,
  [(.ret (.ite (.call 7 [(.var 0), (.op2 .add (.var 1) (.var 2))]) (.cst .non) (.call 8 [(.var 0), (.op2 .add (.var 1) (.var 2))])))]⟩
/-- tail_or_none: 0 lot 1 word 2 here 3 letter -/
def F_tail_or_none : Fn := ⟨2, 4,
  [(.set 2 (.cst (.str []))),
   (.for_ [3] false .str [(.var 1)] [(.set 2 (.call 9 [(.var 0), (.var 2), (.var 3)])),
   (.ite (.op2 .isN (.var 2) (.cst .non)) [(.ret (.cst .non))] [])]),
   (.ret (.var 2))]⟩
/-- tail: 0 lot 1 word 2 found -/
def F_tail : Fn := ⟨2, 3,
  [(.ite (.not (.call 0 [(.var 1)])) [(.raise 2 none [])] []),
   (.set 2 (.call 10 [(.var 0), (.var 1)])),
   (.ite (.op2 .isN (.var 2) (.cst .non)) [(.raise 3 none [])] []),
   (.ret (.var 2))]⟩
/-- all_tails: 0 lot 1 found 2 waiting 3 at 4 here 5 letter 6 after -/
def F_all_tails : Fn := ⟨1, 7,
  [(.set 1 (.new (.dct [(.cst (.str []))] [(.cst (.str []))]))),
   (.set 2 (.new (.lst [(.cst (.str []))]))),
   (.set 3 (.cst (.int 0))),
   (.while_ (.op2 .lt (.var 3) (.bi .len [(.var 2)])) [(.set 4 (.op2 .ix (.var 2) (.var 3))),
   (.aug 3 .add (.cst (.int 1))),
   (.for_ [5] false .str [(.gl 0)] [(.set 6 (.call 9 [(.var 0), (.var 4), (.var 5)])),
   (.ite (.and [(.op2 .notN (.var 6) (.cst .non)), (.op2 .nin (.var 6) (.var 1))]) [(.setIx (.var 1) (.var 6) (.op2 .add (.op2 .ix (.var 1) (.var 4)) (.var 5))),
   (.ex (.me .app (.var 2) [(.var 6)]))] [])])]),
   (.ret (.take 1))]⟩
/-- stand_of: 0 lot 1 word 2 player -/
def F_stand_of : Fn := ⟨3, 3,
  [(.ret (.tup [(.call 11 [(.var 0), (.var 1)]), (.var 2), (.fld 10 (.var 0) [112, 97, 115, 115, 101, 115]), (.fld 10 (.var 0) [112, 97, 115, 115, 101, 115])]))]⟩
/-- stands: 0 lot 1 counts 2 found 3 here 4 player 5 own 6 other -/
def F_stands : Fn := ⟨1, 7,
  [(.set 1 (.lrange (.op2 .add (.fld 10 (.var 0) [112, 97, 115, 115, 101, 115]) (.cst (.int 1))))),
   (.set 2 (.lst [])),
   (.for_ [3] false .dct [(.call 13 [(.var 0)])] [(.set 2 (.op2 .add (.var 2) (.lc3 4 5 6 (.tup [(.cst (.int 0)), (.cst (.int 1))]) (.var 1) (.var 1) (.tup [(.var 3), (.var 4), (.var 5), (.var 6)]))))]),
   (.ret (.bi .sorted [(.var 2)]))]⟩
/-- _law_begin: 0 _law_script -/
def F_law_begin : Fn := ⟨1, 1,
  [(.ret (.lst [(.bi .list [(.var 0)]), (.cst (.int 0)), (.cst (.int 0)), (.cst (.int 7))]))]⟩
/-- letters_of: 0 lot 1 player -/
def F_letters_of : Fn := ⟨2, 2,
  [(.ret (.ite (.var 1) (.fld 10 (.var 0) [115, 101, 99, 111, 110, 100]) (.fld 10 (.var 0) [102, 105, 114, 115, 116])))]⟩
/-- turns: 0 lot 1 stand 2 found 3 letter 4 here 5 player 6 own 7 other 8 after -/
def F_turns : Fn := ⟨2, 9,
  [(.setT [4, 5, 6, 7] (.var 1)),
   (.set 2 (.new (.lst []))),
   (.for_ [3] false .str [(.call 33 [(.var 0), (.var 5)])] [(.set 8 (.call 9 [(.var 0), (.var 4), (.var 3)])),
   (.ex (.me .app (.var 2) [(.tup [(.var 3), (.ite (.op2 .isN (.var 8) (.cst .non)) (.cst .non) (.tup [(.var 8), (.op2 .sub (.cst (.int 1)) (.var 5)), (.var 7), (.var 6)]))])]))]),
   (.ite (.op2 .gt (.var 6) (.cst (.int 0))) [(.ex (.me .app (.var 2) [(.tup [(.gl 2), (.tup [(.var 4), (.op2 .sub (.cst (.int 1)) (.var 5)), (.var 7), (.op2 .sub (.var 6) (.cst (.int 1)))])])]))] []),
   (.ret (.take 2))]⟩
/-- seen_from: 0 lot 1 after 2 known 3 word 4 number -/
def F_seen_from : Fn := ⟨3, 5,
  [(.ite (.op2 .isN (.var 1) (.cst .non)) [(.ret (.ite (.op2 .eq (.fld 10 (.var 0) [114, 117, 108, 101]) (.cst (.str [119, 105, 110, 115]))) (.tup [(.cst (.str [119, 111, 110])), (.cst (.int 1))]) (.tup [(.cst (.str [108, 111, 115, 116])), (.cst (.int 1))])))] []),
   (.ite (.op2 .nin (.var 1) (.var 2)) [(.ret (.cst .non))] []),
   (.setT [3, 4] (.op2 .ix (.var 2) (.var 1))),
   (.ite (.op2 .eq (.var 3) (.cst (.str [111, 112, 101, 110]))) [(.ret (.tup [(.cst (.str [111, 112, 101, 110])), (.cst .non)]))] []),
   (.ret (.tup [(.ite (.op2 .eq (.var 3) (.cst (.str [119, 111, 110]))) (.cst (.str [108, 111, 115, 116])) (.cst (.str [119, 111, 110]))), (.op2 .add (.var 4) (.cst (.int 1)))]))]⟩
/-- value_by: 0 some 1 won 2 value -/
def F_value_by : Fn := ⟨1, 3,
  [(.set 1 (.lc [2] false .lst [(.var 0)] [(.and [(.op2 .notN (.var 2) (.cst .non)), (.op2 .eq (.op2 .ix (.var 2) (.cst (.int 0))) (.cst (.str [119, 111, 110])))])] (.op2 .ix (.var 2) (.cst (.int 1))))),
   (.ite (.var 1) [(.ret (.tup [(.cst (.str [119, 111, 110])), (.bi .min [(.var 1)])]))] []),
   (.ite (.op2 .isin (.cst .non) (.var 0)) [(.ret (.cst .non))] []),
   (.ite (.bi .any [(.lc [2] false .lst [(.var 0)] [] (.op2 .eq (.op2 .ix (.var 2) (.cst (.int 0))) (.cst (.str [111, 112, 101, 110]))))]) [(.ret (.tup [(.cst (.str [111, 112, 101, 110])), (.cst .non)]))] []),
   (.ret (.tup [(.cst (.str [108, 111, 115, 116])), (.bi .max [(.lc [2] false .lst [(.var 0)] [] (.op2 .ix (.var 2) (.cst (.int 1))))])]))]⟩
/-- decided: 0 lot 1 all_stands 2 rows 3 known 4 going 5 found 6 stand 7 value 8 turn 9 after -/
def F_decided : Fn := ⟨2, 10,
  [(.set 2 (.dc true 6 .lst (.var 1) (.var 6) (.lc [8, 9] true .lst [(.call 34 [(.var 0), (.var 6)])] [] (.var 9)))),
   (.set 3 (.new (.dct0 true))),
   (.set 4 (.cst (.bl true))),
   (.while_ (.var 4) [(.set 5 (.new (.dct0 true))),
   (.for_ [6] false .lst [(.var 1)] [(.ite (.op2 .nin (.var 6) (.var 3)) [(.set 7 (.call 36 [(.lc [9] false .lst [(.op2 .ix (.var 2) (.var 6))] [] (.callR 35 [false, false, true] [(.var 0), (.var 9), (.var 3)]))])),
   (.ite (.op2 .notN (.var 7) (.cst .non)) [(.setIx (.var 5) (.var 6) (.var 7))] [])] [])]),
   (.fz [5] (.for_ [6] false .dct [(.var 5)] [(.setIx (.var 3) (.var 6) (.op2 .ix (.var 5) (.var 6)))])),
   (.set 4 (.op2 .gt (.bi .len [(.var 5)]) (.cst (.int 0))))]),
   (.ret (.take 3))]⟩
/-- all_values: 0 lot 1 all_stands 2 known 3 stand -/
def F_all_values : Fn := ⟨1, 4,
  [(.set 1 (.call 16 [(.var 0)])),
   (.set 2 (.call 37 [(.var 0), (.var 1)])),
   (.ret (.dc true 3 .lst (.var 1) (.var 3) (.me .get (.var 2) [(.var 3), (.tup [(.cst (.str [111, 112, 101, 110])), (.cst .non)])])))]⟩
/-- check_stand: 0 lot 1 stand 2 one -/
def F_check_stand : Fn := ⟨2, 3,
  [(.ite (.or [(.not (.bi .isi [(.var 1), (.ty 4)])), (.op2 .ne (.bi .len [(.var 1)]) (.cst (.int 4))), (.not (.bi .isi [(.op2 .ix (.var 1) (.cst (.int 0))), (.ty 3)]))]) [(.raise 4 none [])] []),
   (.ite (.not (.bi .all [(.lc [2] false .tup [(.slice (.var 1) (some (.cst (.int 1))) none)] [] (.and [(.bi .isi [(.var 2), (.ty 2)]), (.not (.bi .isi [(.var 2), (.ty 1)]))]))])) [(.raise 4 none [])] []),
   (.ite (.op2 .nin (.var 1) (.call 16 [(.var 0)])) [(.raise 4 none [])] [])]⟩
/-- value: 0 lot 1 stand -/
def F_value : Fn := ⟨2, 2,
  [(.ex (.call 39 [(.var 0), (.var 1)])),
   (.ret (.op2 .ix (.call 38 [(.var 0)]) (.var 1)))]⟩
/-- good_turns: 0 lot 1 known 2 stand 3 turn 4 after -/
def F_good_turns : Fn := ⟨3, 5,
  [(.ret (.lc [3, 4] true .lst [(.call 34 [(.var 0), (.var 2)])] [(.op2 .eq (.call 35 [(.var 0), (.var 4), (.var 1)]) (.op2 .ix (.var 1) (.var 2)))] (.var 3)))]⟩
/-- good: 0 lot 1 stand -/
def F_good : Fn := ⟨2, 2,
  [(.ex (.call 39 [(.var 0), (.var 1)])),
   (.ret (.call 41 [(.var 0), (.call 38 [(.var 0)]), (.var 1)]))]⟩
/-- _wall: 0 k -/
def F_wall : Fn := ⟨1, 1,
  [(.while_ (.cst (.bl true)) [.pass])]⟩
/-- line: 0 lot 1 stand 2 most 3 known 4 found 5 turn -/
def F_line : Fn := ⟨3, 6,
  [(.ex (.call 39 [(.var 0), (.var 1)])),
   (.set 3 (.call 38 [(.var 0)])),
   (.set 4 (.new (.lst []))),
   (.while_ (.and [(.op2 .notN (.var 1) (.cst .non)), (.op2 .lt (.bi .len [(.var 4)]) (.var 2))]) [(.set 5 (.op2 .ix (.call 41 [(.var 0), (.var 3), (.var 1)]) (.cst (.int 0)))),
   (.ex (.me .app (.var 4) [(.var 5)])),
   (.set 1 (.op2 .ix (.bi .dict [(.call 34 [(.var 0), (.var 1)])]) (.var 5)))]),
   (.ret (.take 4))]⟩
/-- Led.__init__: 0 self 1 lot 2 word 3 player -/
def F_Led_init : Fn := ⟨4, 4,
  [(.setFld 12 (.var 0) [108, 111, 116] (.var 1)),
   (.setFld 12 (.var 0) [98, 101, 103, 105, 110] (.var 2)),
   (.setFld 12 (.var 0) [115, 116, 97, 114, 116, 101, 114] (.var 3)),
   (.setFld 12 (.var 0) [102, 105, 114, 115, 116, 95, 115, 116, 97, 110, 100] (.call 15 [(.var 1), (.var 2), (.var 3)])),
   (.setFld 12 (.var 0) [107, 110, 111, 119, 110] (.call 38 [(.var 1)])),
   (.setFld 12 (.var 0) [100, 111, 110, 101] (.new (.lst [])))]⟩
/-- Led.stand: 0 self 1 found 2 turn -/
def F_Led_stand : Fn := ⟨1, 3,
  [(.set 1 (.fld 12 (.var 0) [102, 105, 114, 115, 116, 95, 115, 116, 97, 110, 100])),
   (.for_ [2] false .lst [(.fld 12 (.var 0) [100, 111, 110, 101])] [(.set 1 (.op2 .ix (.bi .dict [(.call 34 [(.fld 12 (.var 0) [108, 111, 116]), (.var 1)])]) (.var 2)))]),
   (.ret (.var 1))]⟩
/-- Led.turn: 0 self 1 what 2 here -/
def F_Led_turn : Fn := ⟨2, 3,
  [(.set 2 (.mcB 12 (.var 0) [115, 116, 97, 110, 100] 55 [])),
   (.ite (.op2 .isN (.var 2) (.cst .non)) [(.raise 7 none [])] []),
   (.ite (.or [(.not (.bi .isi [(.var 1), (.ty 3)])), (.op2 .nin (.var 1) (.bi .dict [(.call 34 [(.fld 12 (.var 0) [108, 111, 116]), (.var 2)])]))]) [(.raise 6 none [])] []),
   (.ex (.me .app (.fld 12 (.var 0) [100, 111, 110, 101]) [(.var 1)]))]⟩
/-- Led.word: 0 self 1 turn -/
def F_Led_word : Fn := ⟨1, 2,
  [(.ret (.op2 .add (.fld 12 (.var 0) [98, 101, 103, 105, 110]) (.me .join (.cst (.str [])) [(.lc [1] false .lst [(.fld 12 (.var 0) [100, 111, 110, 101])] [(.op2 .ne (.var 1) (.gl 2))] (.var 1))])))]⟩
/-- Led.player: 0 self -/
def F_Led_player : Fn := ⟨1, 1,
  [(.ret (.op2 .mod (.op2 .add (.fld 12 (.var 0) [115, 116, 97, 114, 116, 101, 114]) (.bi .len [(.fld 12 (.var 0) [100, 111, 110, 101])])) (.cst (.int 2))))]⟩
/-- Led.left: 0 self 1 used 2 at 3 turn -/
def F_Led_left : Fn := ⟨1, 4,
  [(.set 1 (.new (.lst [(.cst (.int 0)), (.cst (.int 0))]))),
   (.for_ [2, 3] true .enum [(.fld 12 (.var 0) [100, 111, 110, 101])] [(.ite (.op2 .eq (.var 3) (.gl 2)) [(.augIx (.var 1) (.op2 .mod (.op2 .add (.fld 12 (.var 0) [115, 116, 97, 114, 116, 101, 114]) (.var 2)) (.cst (.int 2))) (.cst (.int 1)))] [])]),
   (.ret (.tup [(.op2 .sub (.fld 10 (.fld 12 (.var 0) [108, 111, 116]) [112, 97, 115, 115, 101, 115]) (.op2 .ix (.var 1) (.cst (.int 0)))), (.op2 .sub (.fld 10 (.fld 12 (.var 0) [108, 111, 116]) [112, 97, 115, 115, 101, 115]) (.op2 .ix (.var 1) (.cst (.int 1))))]))]⟩
/-- Led.best: 0 self 1 here -/
def F_Led_best : Fn := ⟨1, 2,
  [(.set 1 (.mcB 12 (.var 0) [115, 116, 97, 110, 100] 55 [])),
   (.ite (.op2 .isN (.var 1) (.cst .non)) [(.raise 7 none [])] []),
   (.ret (.op2 .ix (.call 41 [(.fld 12 (.var 0) [108, 111, 116]), (.fld 12 (.var 0) [107, 110, 111, 119, 110]), (.var 1)]) (.cst (.int 0))))]⟩
/-- Led.__len__: 0 self -/
def F_Led_len : Fn := ⟨1, 1,
  [(.ret (.bi .len [(.fld 12 (.var 0) [100, 111, 110, 101])]))]⟩
/-- Led.__eq__: 0 self 1 other -/
def F_Led_eq : Fn := ⟨2, 2,
  [(.ite (.or [(.not (.isI 12 (.var 1))), (.not (.eqI 10 5 (.fld 12 (.var 0) [108, 111, 116]) (.fld 12 (.var 1) [108, 111, 116])))]) [(.ret (.cst (.bl false)))] []),
   (.ret (.op2 .eq (.tup [(.fld 12 (.var 0) [98, 101, 103, 105, 110]), (.fld 12 (.var 0) [115, 116, 97, 114, 116, 101, 114]), (.fld 12 (.var 0) [100, 111, 110, 101])]) (.tup [(.fld 12 (.var 1) [98, 101, 103, 105, 110]), (.fld 12 (.var 1) [115, 116, 97, 114, 116, 101, 114]), (.fld 12 (.var 1) [100, 111, 110, 101])])))]⟩
/-- with_barred: 0 lot 1 barred -/
def F_with_barred : Fn := ⟨2, 2,
  [(.ret (.mk 0 [(.var 1), (.fld 10 (.var 0) [102, 105, 114, 115, 116]), (.fld 10 (.var 0) [115, 101, 99, 111, 110, 100]), (.fld 10 (.var 0) [114, 117, 108, 101]), (.fld 10 (.var 0) [112, 97, 115, 115, 101, 115])]))]⟩
/-- first_word: 0 lot 1 values 2 here 3 player -/
def F_first_word : Fn := ⟨4, 4,
  [(.ret (.op2 .ix (.op2 .ix (.var 1) (.tup [(.var 2), (.var 3), (.fld 10 (.var 0) [112, 97, 115, 115, 101, 115]), (.fld 10 (.var 0) [112, 97, 115, 115, 101, 115])])) (.cst (.int 0))))]⟩
/-- Both.__init__: 0 self 1 one 2 other -/
def F_Both_init : Fn := ⟨3, 3,
  [(.ite (.op2 .ne (.call 6 [(.var 1)]) (.call 6 [(.var 2)])) [(.raise 1 none [])] []),
   (.setFld 11 (.var 0) [111, 110, 101] (.var 1)),
   (.setFld 11 (.var 0) [111, 116, 104, 101, 114] (.var 2)),
   (.setFld 11 (.var 0) [102, 105, 114, 115, 116] (.call 38 [(.var 1)])),
   (.setFld 11 (.var 0) [115, 101, 99, 111, 110, 100] (.call 38 [(.var 2)]))]⟩
/-- Both.parted_player: 0 self 1 here 2 there 3 player 4 one -/
def F_Both_parted_player : Fn := ⟨3, 5,
  [(.for_ [3] false .tup [(.tup [(.cst (.int 0)), (.cst (.int 1))])] [(.set 4 (.call 72 [(.fld 11 (.var 0) [111, 110, 101]), (.fld 11 (.var 0) [102, 105, 114, 115, 116]), (.var 1), (.var 3)])),
   (.ite (.op2 .ne (.var 4) (.call 72 [(.fld 11 (.var 0) [111, 116, 104, 101, 114]), (.fld 11 (.var 0) [115, 101, 99, 111, 110, 100]), (.var 2), (.var 3)])) [(.ret (.var 3))] [])]),
   (.ret (.cst .non))]⟩
/-- parted_here: 0 both 1 pair -/
def F_parted_here : Fn := ⟨2, 2,
  [(.ite (.op2 .isin (.cst .non) (.var 1)) [(.ret (.cst (.int 0)))] []),
   (.ret (.mcB 11 (.var 0) [112, 97, 114, 116, 101, 100, 95, 112, 108, 97, 121, 101, 114] 74 [(.op2 .ix (.var 1) (.cst (.int 0))), (.op2 .ix (.var 1) (.cst (.int 1)))]))]⟩
/-- parting: 0 one 1 other 2 both 3 waiting 4 words 5 at 6 pair 7 player 8 letter 9 after -/
def F_parting : Fn := ⟨2, 10,
  [(.set 2 (.mk 2 [(.var 0), (.var 1)])),
   .any,
   .any,
   .any,
   .any,
   .any]⟩
/-- alike: 0 one 1 other -/
def F_alike : Fn := ⟨2, 2,
  [(.ret (.op2 .isN (.call 76 [(.var 0), (.var 1)]) (.cst .non)))]⟩
/-- without: 0 barred 1 at -/
def F_without : Fn := ⟨2, 2,
  [(.ret (.op2 .add (.slice (.var 0) none (some (.var 1))) (.slice (.var 0) (some (.op2 .add (.var 1) (.cst (.int 1)))) none)))]⟩
/-- small_words: 0 one 1 other -/
def F_small_words : Fn := ⟨0, 2,
  [(.ret (.op2 .add (.bi .list [(.gl 0)]) (.lc2 0 1 (.gl 0) (.gl 0) (.op2 .add (.var 0) (.var 1)))))]⟩
/-- all_changes: 0 lot 1 found 2 word 3 at -/
def F_all_changes : Fn := ⟨1, 4,
  [(.set 1 (.new (.lst []))),
   (.ite (.op2 .lt (.bi .len [(.fld 10 (.var 0) [98, 97, 114, 114, 101, 100])]) (.cst (.int 6))) [(.for_ [2] false .lst [(.bi .sorted [(.call0 89)])] [(.ite (.op2 .nin (.var 2) (.fld 10 (.var 0) [98, 97, 114, 114, 101, 100])) [(.ex (.me .app (.var 1) [(.tup [(.tup [(.cst (.str [105, 110])), (.var 2)]), (.call 71 [(.var 0), (.op2 .add (.fld 10 (.var 0) [98, 97, 114, 114, 101, 100]) (.tup [(.var 2)]))])])]))] [])])] []),
   (.ite (.op2 .gt (.bi .len [(.fld 10 (.var 0) [98, 97, 114, 114, 101, 100])]) (.cst (.int 1))) [(.for_ [3] false .rng [(.bi .len [(.fld 10 (.var 0) [98, 97, 114, 114, 101, 100])])] [(.ex (.me .app (.var 1) [(.tup [(.tup [(.cst (.str [111, 117, 116])), (.var 3)]), (.call 71 [(.var 0), (.call 78 [(.fld 10 (.var 0) [98, 97, 114, 114, 101, 100]), (.var 3)])])])]))])] []),
   (.ret (.take 1))]⟩
/-- first_of_word: 0 lot 1 word 2 player 3 here -/
def F_first_of_word : Fn := ⟨3, 4,
  [(.set 3 (.call 10 [(.var 0), (.var 1)])),
   (.ret (.ite (.op2 .isN (.var 3) (.cst .non)) (.cst .non) (.call 72 [(.var 0), (.call 38 [(.var 0)]), (.var 3), (.var 2)])))]⟩
/-- changes: 0 lot 1 word 2 player 3 now 4 found 5 way 6 other 7 then -/
def F_changes : Fn := ⟨3, 8,
  [(.ex (.call 11 [(.var 0), (.var 1)])),
   (.set 3 (.call 91 [(.var 0), (.var 1), (.var 2)])),
   (.set 4 (.new (.lst []))),
   (.for_ [5, 6] true .lst [(.call 90 [(.var 0)])] [(.set 7 (.call 91 [(.var 6), (.var 1), (.var 2)])),
   (.ite (.and [(.op2 .notN (.var 7) (.cst .non)), (.op2 .ne (.var 7) (.var 3))]) [(.ex (.me .app (.var 4) [(.tup [(.var 5), (.var 6)])]))] [])]),
   (.ret (.take 4))]⟩
/-- check_lot: 0 lot -/
def F_check_lot : Fn := ⟨1, 1,
  [(.ite (.or [(.op2 .gt (.fld 10 (.var 0) [112, 97, 115, 115, 101, 115]) (.cst (.int 0))), (.op2 .ne (.fld 10 (.var 0) [114, 117, 108, 101]) (.cst (.str [108, 111, 115, 101, 115]))), (.op2 .ne (.fld 10 (.var 0) [102, 105, 114, 115, 116]) (.fld 10 (.var 0) [115, 101, 99, 111, 110, 100]))]) [(.raise 5 none [])] [])]⟩
/-- nexts: 0 lot 1 here 2 some 3 letter 4 after -/
def F_nexts : Fn := ⟨2, 5,
  [(.set 2 (.lc [3] false .str [(.fld 10 (.var 0) [102, 105, 114, 115, 116])] [] (.call 9 [(.var 0), (.var 1), (.var 3)]))),
   (.ret (.lc [4] false .lst [(.var 2)] [(.op2 .notN (.var 4) (.cst .non))] (.var 4)))]⟩
/-- least_missing: 0 numbers 1 found -/
def F_least_missing : Fn := ⟨1, 2,
  [(.set 1 (.cst (.int 0))),
   (.while_ (.op2 .isin (.var 1) (.var 0)) [(.aug 1 .add (.cst (.int 1)))]),
   (.ret (.var 1))]⟩
/-- worth_at: 0 lot 1 here 2 above 3 known 4 some 5 after -/
def F_worth_at : Fn := ⟨4, 6,
  [(.ite (.op2 .isin (.var 1) (.var 2)) [(.raise 5 none [])] []),
   (.ite (.op2 .nin (.var 1) (.var 3)) [(.setX 4 5 .lst (.call 101 [(.var 0), (.var 1)]) (.callR 103 [false, false, false, true] [(.var 0), (.var 5), (.op2 .add (.var 2) (.tup [(.var 1)])), (.var 3)])),
   (.setIx (.var 3) (.var 1) (.call 102 [(.var 4)]))] []),
   (.ret (.op2 .ix (.var 3) (.var 1)))]⟩
/-- worth: 0 lot 1 word 2 here -/
def F_worth : Fn := ⟨2, 3,
  [(.set 2 (.call 11 [(.var 0), (.var 1)])),
   (.ex (.call 100 [(.var 0)])),
   (.ret (.callR 103 [false, false, false, true] [(.var 0), (.var 2), (.tup []), (.new (.dct0 false))]))]⟩
/-- added: 0 one 1 other 2 found 3 place -/
def F_added : Fn := ⟨2, 4,
  [(.set 2 (.cst (.int 0))),
   (.set 3 (.cst (.int 1))),
   (.while_ (.or [(.var 0), (.var 1)]) [(.ite (.op2 .ne (.op2 .mod (.var 0) (.cst (.int 2))) (.op2 .mod (.var 1) (.cst (.int 2)))) [(.aug 2 .add (.var 3))] []),
   (.par3 0 1 3 (.op2 .fdiv (.var 0) (.cst (.int 2))) (.op2 .fdiv (.var 1) (.cst (.int 2))) (.op2 .mul (.var 3) (.cst (.int 2))))]),
   (.ret (.var 2))]⟩
/-- wins: 0 lot 1 words 2 total 3 word -/
def F_wins : Fn := ⟨2, 4,
  [(.ex (.call 100 [(.var 0)])),
   (.set 2 (.cst (.int 0))),
   (.for_ [3] false .lst [(.var 1)] [(.set 2 (.call 105 [(.var 2), (.call 104 [(.var 0), (.var 3)])]))]),
   (.ret (.op2 .gt (.var 2) (.cst (.int 0))))]⟩
/-- Led.undo: 0 self -/
def F_Led_undo_k08 : Fn := ⟨1, 1,
  [(.ite (.not (.fld 12 (.var 0) [100, 111, 110, 101])) [(.raise 8 none [])] []),
   (.ex (.me .pop (.fld 12 (.var 0) [100, 111, 110, 101]) []))]⟩
/-- BadLine.__init__: 0 self 1 line -/
def F_BadLine_init : Fn := ⟨2, 2,
  [(.setFld 9 (.var 0) [108, 105, 110, 101] (.var 1))]⟩
/-- barred_in: 0 line 1 words -/
def F_barred_in : Fn := ⟨1, 2,
  [(.set 1 (.me .split (.var 0) [(.cst (.str [32]))])),
   (.ret (.ite (.and [(.op2 .eq (.op2 .ix (.var 1) (.cst (.int 0))) (.cst (.str [98, 97, 114, 114, 101, 100]))), (.call 2 [(.bi .tuple [(.slice (.var 1) (some (.cst (.int 1))) none)])])]) (.bi .tuple [(.slice (.var 1) (some (.cst (.int 1))) none)]) (.cst .non)))]⟩
/-- letters_in: 0 line 1 words -/
def F_letters_in : Fn := ⟨1, 2,
  [(.set 1 (.me .split (.var 0) [(.cst (.str [32]))])),
   (.ite (.or [(.op2 .ne (.bi .len [(.var 1)]) (.cst (.int 3))), (.op2 .ne (.op2 .ix (.var 1) (.cst (.int 0))) (.cst (.str [108, 101, 116, 116, 101, 114, 115]))), (.not (.call 1 [(.op2 .ix (.var 1) (.cst (.int 1)))])), (.not (.call 1 [(.op2 .ix (.var 1) (.cst (.int 2)))]))]) [(.ret (.cst .non))] []),
   (.ret (.tup [(.op2 .ix (.var 1) (.cst (.int 1))), (.op2 .ix (.var 1) (.cst (.int 2)))]))]⟩
/-- rule_in: 0 line 1 words -/
def F_rule_in : Fn := ⟨1, 2,
  [(.set 1 (.me .split (.var 0) [(.cst (.str [32]))])),
   (.ite (.or [(.op2 .ne (.bi .len [(.var 1)]) (.cst (.int 2))), (.op2 .nin (.op2 .ix (.var 1) (.cst (.int 0))) (.gl 1)), (.op2 .nin (.op2 .ix (.var 1) (.cst (.int 1))) (.gl 3))]) [(.ret (.cst .non))] []),
   (.ret (.tup [(.op2 .ix (.var 1) (.cst (.int 0))), (.op2 .ix (.gl 3) (.op2 .ix (.var 1) (.cst (.int 1))))]))]⟩
/-- part_in: 0 at 1 line -/
def F_part_in : Fn := ⟨2, 2,
  [(.ite (.op2 .eq (.var 0) (.cst (.int 0))) [(.ret (.call 121 [(.var 1)]))] []),
   (.ret (.ite (.op2 .eq (.var 0) (.cst (.int 1))) (.call 122 [(.var 1)]) (.call 123 [(.var 1)])))]⟩
/-- read: 0 text 1 lines 2 parts 3 at 4 part -/
def F_read : Fn := ⟨1, 5,
  [(.set 1 (.me .split (.var 0) [(.cst (.str [10]))])),
   (.set 2 (.new (.lst []))),
   (.for_ [3] false .rng [(.cst (.int 3))] [(.set 4 (.ite (.op2 .lt (.var 3) (.bi .len [(.var 1)])) (.call 124 [(.var 3), (.op2 .ix (.var 1) (.var 3))]) (.cst .non))),
   (.ite (.op2 .isN (.var 4) (.cst .non)) [(.raise 9 (some [108, 105, 110, 101]) [(.op2 .add (.var 3) (.cst (.int 1)))])] []),
   (.ex (.me .app (.var 2) [(.var 4)]))]),
   (.ite (.op2 .gt (.bi .len [(.var 1)]) (.cst (.int 3))) [(.raise 9 (some [108, 105, 110, 101]) [(.cst (.int 4))])] []),
   (.ret (.mk 0 [(.op2 .ix (.var 2) (.cst (.int 0))), (.op2 .ix (.op2 .ix (.var 2) (.cst (.int 1))) (.cst (.int 0))), (.op2 .ix (.op2 .ix (.var 2) (.cst (.int 1))) (.cst (.int 1))), (.op2 .ix (.op2 .ix (.var 2) (.cst (.int 2))) (.cst (.int 0))), (.op2 .ix (.op2 .ix (.var 2) (.cst (.int 2))) (.cst (.int 1)))]))]⟩
/-- Led.winner: 0 self -/
def F_Led_winner_k11 : Fn := ⟨1, 1,
  [(.ex (.call 52 [(.cst (.int 0))]))]⟩
/-- _law_word_call: 0 _law_lot 1 _law_thing 2 _law_word -/
def F_law_word_call : Fn := ⟨3, 3,
  [(.ite (.op2 .eq (.var 1) (.cst (.int 0))) [(.ex (.call 11 [(.var 0), (.var 2)]))] [(.ite (.op2 .eq (.var 1) (.cst (.int 1))) [(.ex (.call 15 [(.var 0), (.var 2), (.cst (.int 0))]))] [(.ite (.op2 .eq (.var 1) (.cst (.int 2))) [(.ex (.call 92 [(.var 0), (.var 2), (.cst (.int 0))]))] [(.ite (.op2 .eq (.var 1) (.cst (.int 3))) [(.ex (.call 104 [(.var 0), (.var 2)]))] [(.ite (.op2 .eq (.var 1) (.cst (.int 4))) [(.ex (.call 106 [(.var 0), (.lst [(.cst (.str [])), (.var 2)])]))] [(.ex (.mkL 1 [(.var 0), (.var 2), (.cst (.int 1))]))])])])])])]⟩
/-- _law_call: 0 _law_what 1 _law_thing 2 _law_lot 3 _law_led -/
def F_law_call : Fn := ⟨2, 4,
  [(.set 2 (.mk 3 [(.tup [(.cst (.str [97, 98]))]), (.cst (.str [97, 98])), (.cst (.str [97, 98]))])),
   (.ite (.op2 .eq (.var 0) (.cst (.int 0))) [(.ite (.op2 .lt (.var 1) (.cst (.int 2))) [(.ex (.call 77 [(.var 2), (.mk 3 [(.tup [(.cst (.str [97, 98]))]), (.cst (.str [97, 98])), (.cst (.str [97, 98, 99]))])]))] [(.ite (.op2 .lt (.var 1) (.cst (.int 4))) [(.ex (.call 76 [(.var 2), (.mk 4 [(.tup [(.cst (.str [97, 98]))]), (.cst (.str [97, 98])), (.cst (.str [97, 98])), (.cst (.str [119, 105, 110, 115]))])]))] [(.ex (.mk 0 [(.tup [(.cst (.str [97, 98]))]), (.cst (.str [97, 98])), (.cst (.str [97, 98])), (.cst (.str [108, 111, 115, 101, 115])), (.cst (.int 3))]))])])] [(.ite (.op2 .eq (.var 0) (.cst (.int 1))) [(.ex (.call 130 [(.mk 3 [(.tup [(.cst (.str [97, 97])), (.cst (.str [98]))]), (.cst (.str [97, 98])), (.cst (.str [97, 98]))]), (.var 1), (.cst (.str [97, 98, 101]))]))] [(.ite (.op2 .eq (.var 0) (.cst (.int 2))) [(.ex (.call 130 [(.mk 3 [(.tup [(.cst (.str [97, 97])), (.cst (.str [98]))]), (.cst (.str [97, 98])), (.cst (.str [97, 98]))]), (.var 1), (.cst (.str [97, 97, 98]))]))] [(.ite (.op2 .eq (.var 0) (.cst (.int 3))) [(.ite (.op2 .eq (.op2 .mod (.var 1) (.cst (.int 3))) (.cst (.int 0))) [(.ex (.call 40 [(.var 2), (.tup [(.cst (.str [98])), (.cst (.int 0)), (.cst (.int 0)), (.cst (.int 0))])]))] [(.ite (.op2 .eq (.op2 .mod (.var 1) (.cst (.int 3))) (.cst (.int 1))) [(.ex (.call 42 [(.var 2), (.cst .non)]))] [(.ex (.call 53 [(.var 2), (.tup [(.cst (.str [])), (.cst (.int 0)), (.cst (.int 1)), (.cst (.int 0))]), (.cst (.int 3))]))])])] [(.ite (.op2 .eq (.var 0) (.cst (.int 4))) [(.ex (.call 104 [(.mk 0 [(.tup [(.cst (.str [97, 98]))]), (.cst (.str [97, 98])), (.cst (.str [97, 98])), (.cst (.str [108, 111, 115, 101, 115])), (.op2 .mod (.var 1) (.cst (.int 2)))]), (.cst (.str []))]))] [(.ite (.op2 .eq (.var 0) (.cst (.int 5))) [(.ex (.mcR 12 (.mkL 1 [(.var 2), (.cst (.str [])), (.cst (.int 0))]) [116, 117, 114, 110] 56 [(.op2 .ix (.lst [(.cst (.str [99])), (.cst (.str [112, 97, 115, 115])), (.cst .non), (.cst (.str [97, 98])), (.cst (.int 1)), (.cst (.str []))]) (.var 1))]))] [(.ite (.op2 .eq (.var 0) (.cst (.int 6))) [(.set 3 (.mkL 1 [(.var 2), (.cst (.str [97])), (.cst (.int 0))])),
   (.ex (.mcR 12 (.var 3) [116, 117, 114, 110] 56 [(.cst (.str [98]))])),
   (.ite (.op2 .eq (.op2 .mod (.var 1) (.cst (.int 2))) (.cst (.int 0))) [(.ex (.mcR 12 (.var 3) [116, 117, 114, 110] 56 [(.cst (.str [97]))]))] [(.ex (.mcB 12 (.var 3) [98, 101, 115, 116] 61 []))])] [(.ite (.op2 .eq (.var 0) (.cst (.int 7))) [(.ex (.mcR 12 (.mkL 1 [(.var 2), (.cst (.str [])), (.cst (.int 0))]) [117, 110, 100, 111] 113 []))] [(.ex (.call 125 [(.cst (.str [98, 97, 114, 114, 101, 100, 32, 97, 98]))]))])])])])])])])])]⟩
/-- _law_kind: 0 _law_what 1 _law_thing 2 _law_told -/
def F_law_kind : Fn := ⟨2, 3,
  [(.set 2 (.cst .non)),
   (.try_ [(.ex (.call 131 [(.var 0), (.var 1)]))] [(.c [(1, true), (2, false), (3, false), (4, false), (5, false), (6, false), (7, false), (8, false), (9, false)] 2 (.int 0)), (.c [(2, true), (3, false), (4, false), (5, false), (6, false), (7, false), (8, false), (9, false)] 2 (.int 1)), (.c [(3, true), (4, false), (5, false), (6, false), (7, false), (8, false), (9, false)] 2 (.int 2)), (.c [(4, true), (5, false), (6, false), (7, false), (8, false), (9, false)] 2 (.int 3)), (.c [(5, true), (6, false), (7, false), (8, false), (9, false)] 2 (.int 4)), (.c [(6, true), (7, false), (8, false), (9, false)] 2 (.int 5)), (.c [(7, true), (8, false), (9, false)] 2 (.int 6)), (.c [(8, true), (9, false)] 2 (.int 7)), (.c [(9, true)] 2 (.int 8))]),
   (.ret (.var 2))]⟩
/-- _law_under: 0 _law_what 1 _law_thing 2 _law_told -/
def F_law_under : Fn := ⟨2, 3,
  [(.set 2 (.cst (.bl false))),
   (.try_ [(.ex (.call 131 [(.var 0), (.var 1)]))] [(.c [(1, true), (2, true), (3, true), (4, true), (5, true), (6, true), (7, true), (8, true), (9, true)] 2 (.bl true))]),
   (.ret (.var 2))]⟩
/-- law: 0 _law_script 1 _law_draws 2 _law_what 3 _law_thing -/
def F_law_k11 : Fn := ⟨1, 4,
  [(.set 2 (.draw 1 (.cst (.int 9)))),
   (.set 3 (.draw 1 (.cst (.int 6)))),
   (.ret (.and [(.op2 .eq (.call 132 [(.var 2), (.var 3)]) (.var 2)), (.call 133 [(.var 2), (.var 3)])]))]⟩
def pg : Pg := ⟨[some F_is_word, some F_are_letters, some F_are_barred, some F_are_passes, some F_Lot_init, some F_Lot_eq, some F_others_of, some F_is_ending, some F_cut_tail, some F_step, some F_tail_or_none, some F_tail, none, some F_all_tails, none, some F_stand_of, some F_stands, some F_law_begin, none, none, none, none, none, none, none, none, none, none, none, none, none, none, none, some F_letters_of, some F_turns, some F_seen_from, some F_value_by, some F_decided, some F_all_values, some F_check_stand, some F_value, some F_good_turns, some F_good, none, none, none, none, none, none, none, none, none, some F_wall, some F_line, some F_Led_init, some F_Led_stand, some F_Led_turn, some F_Led_word, some F_Led_player, some F_Led_left, none, some F_Led_best, none, some F_Led_len, some F_Led_eq, none, none, none, none, none, none, some F_with_barred, some F_first_word, some F_Both_init, some F_Both_parted_player, some F_parted_here, some F_parting, some F_alike, some F_without, none, none, none, none, none, none, none, none, none, none, some F_small_words, some F_all_changes, some F_first_of_word, some F_changes, none, none, none, none, none, none, none, some F_check_lot, some F_nexts, some F_least_missing, some F_worth_at, some F_worth, some F_added, some F_wins, none, none, none, none, none, none, some F_Led_undo_k08, none, none, none, none, none, some F_BadLine_init, none, some F_barred_in, some F_letters_in, some F_rule_in, some F_part_in, some F_read, none, none, none, some F_Led_winner_k11, some F_law_word_call, some F_law_call, some F_law_kind, some F_law_under, some F_law_k11, none, none, none, none, none], [(.str [97, 98, 99, 100]), (.ktup [(.str [108, 111, 115, 101, 115]), (.str [119, 105, 110, 115])]), (.str [112, 97, 115, 115]), (.kdct [([48], 0), ([49], 1), ([50], 2)]), (.cl 0), (.cl 1), (.cl 2), (.cl 3), (.cl 4), (.cl 5), (.cl 6), (.cl 7), (.cl 8), (.cl 9), (.cl 10), (.cl 11), (.cl 12)], [(10, 4, []), (12, 54, []), (11, 73, []), (10, 4, [(.str [108, 111, 115, 101, 115]), (.int 0)]), (10, 4, [(.int 0)])]⟩
end Yl
set_option maxHeartbeats 0
namespace Wt
open PySem PySem.Spec PyProof.Rows L2 Yl
def cn : Nat → Str
  | 0 => "TurnError"
  | 1 => "BadLot"
  | 2 => "BadWord"
  | 3 => "DoneWord"
  | 4 => "BadStand"
  | 5 => "NoWorth"
  | 6 => "BadTurn"
  | 7 => "GameOver"
  | 8 => "NothingDone"
  | 9 => "BadLine"
  | 10 => "Lot"
  | 11 => "Both"
  | 12 => "Led"
  | _ => ""
def L : Lw := ⟨pg, [some (Str.ofString "is_word"), some (Str.ofString "are_letters"), some (Str.ofString "are_barred"), some (Str.ofString "are_passes"), none, none, some (Str.ofString "others_of"), some (Str.ofString "is_ending"), some (Str.ofString "cut_tail"), some (Str.ofString "step"), some (Str.ofString "tail_or_none"), some (Str.ofString "tail"), none, some (Str.ofString "all_tails"), none, some (Str.ofString "stand_of"), some (Str.ofString "stands"), none, none, none, none, none, none, none, none, none, none, none, none, none, none, none, none, some (Str.ofString "letters_of"), some (Str.ofString "turns"), some (Str.ofString "seen_from"), some (Str.ofString "value_by"), some (Str.ofString "decided"), some (Str.ofString "all_values"), some (Str.ofString "check_stand"), some (Str.ofString "value"), some (Str.ofString "good_turns"), some (Str.ofString "good"), none, none, none, none, none, none, none, none, none, none, some (Str.ofString "line"), none, none, none, none, none, none, none, none, none, none, none, none, none, none, none, none, none, some (Str.ofString "with_barred"), some (Str.ofString "first_word"), none, none, none, some (Str.ofString "parting"), some (Str.ofString "alike"), some (Str.ofString "without"), none, none, none, none, none, none, none, none, none, none, some (Str.ofString "small_words"), some (Str.ofString "all_changes"), some (Str.ofString "first_of_word"), some (Str.ofString "changes"), none, none, none, none, none, none, none, some (Str.ofString "check_lot"), some (Str.ofString "nexts"), some (Str.ofString "least_missing"), some (Str.ofString "worth_at"), some (Str.ofString "worth"), some (Str.ofString "added"), some (Str.ofString "wins"), none, none, none, none, none, none, none, none, none, none, none, none, none, none, some (Str.ofString "barred_in"), some (Str.ofString "letters_in"), some (Str.ofString "rule_in"), some (Str.ofString "part_in"), some (Str.ofString "read"), none, none, none, none, some (Str.ofString "_law_word_call"), some (Str.ofString "_law_call"), some (Str.ofString "_law_kind"), some (Str.ofString "_law_under"), none, none, none, none, none, none], [some (Str.ofString "LETTERS"), some (Str.ofString "RULES"), some (Str.ofString "PASS"), some (Str.ofString "COUNTS"), some (Str.ofString "TurnError"), some (Str.ofString "BadLot"), some (Str.ofString "BadWord"), some (Str.ofString "DoneWord"), some (Str.ofString "BadStand"), some (Str.ofString "NoWorth"), some (Str.ofString "BadTurn"), some (Str.ofString "GameOver"), some (Str.ofString "NothingDone"), some (Str.ofString "BadLine"), some (Str.ofString "Lot"), some (Str.ofString "Both"), some (Str.ofString "Led")], ["all", "any", "bool", "dict", "enumerate", "int", "isinstance", "len", "list", "max", "min", "range", "sorted", "str", "tuple", "zip"], [10, 11, 12], [(10, [98, 97, 114, 114, 101, 100]), (10, [102, 105, 114, 115, 116]), (10, [115, 101, 99, 111, 110, 100]), (10, [114, 117, 108, 101]), (10, [112, 97, 115, 115, 101, 115]), (11, [111, 110, 101]), (11, [111, 116, 104, 101, 114]), (11, [102, 105, 114, 115, 116]), (11, [115, 101, 99, 111, 110, 100]), (12, [108, 111, 116]), (12, [98, 101, 103, 105, 110]), (12, [115, 116, 97, 114, 116, 101, 114]), (12, [102, 105, 114, 115, 116, 95, 115, 116, 97, 110, 100]), (12, [107, 110, 111, 119, 110]), (12, [100, 111, 110, 101])], [(0, "TurnError"), (1, "BadLot"), (2, "BadWord"), (3, "DoneWord"), (4, "BadStand"), (5, "NoWorth"), (6, "BadTurn"), (7, "GameOver"), (8, "NothingDone"), (9, "BadLine"), (10, "Lot"), (11, "Both"), (12, "Led")], [0, 1, 2, 3, 4, 5, 6, 7, 8], [(9, [108, 105, 110, 101])], [(1, 1, true), (1, 0, true), (2, 1, false), (2, 2, true), (2, 0, true), (3, 1, false), (3, 2, false), (3, 3, true), (3, 0, true), (4, 1, false), (4, 2, false), (4, 3, false), (4, 4, true), (4, 0, true), (5, 1, false), (5, 2, false), (5, 3, false), (5, 4, false), (5, 5, true), (5, 0, true), (6, 1, false), (6, 2, false), (6, 3, false), (6, 4, false), (6, 5, false), (6, 6, true), (6, 0, true), (7, 1, false), (7, 2, false), (7, 3, false), (7, 4, false), (7, 5, false), (7, 6, false), (7, 7, true), (7, 0, true), (8, 1, false), (8, 2, false), (8, 3, false), (8, 4, false), (8, 5, false), (8, 6, false), (8, 7, false), (8, 8, true), (8, 0, true), (9, 1, false), (9, 2, false), (9, 3, false), (9, 4, false), (9, 5, false), (9, 6, false), (9, 7, false), (9, 8, false), (9, 9, true), (9, 0, true)], [], true, [(12, Str.ofString "stand", 55), (12, Str.ofString "turn", 56), (12, Str.ofString "best", 61), (12, Str.ofString "undo", 113)]⟩
section
variable {P : Program} {w : World} {K : PySem.W.Frag} {h : Heap} {mg : Str → Option Value} {base : Heap}
abbrev mx (P : Program) (w : World) (K : PySem.W.Frag) (mg : Str → Option Value) (base : Heap) : Mx := mxOf P w K mg base cn
theorem more_all (c : He.SaysX fa fn ts [] moreB w h K) : (He.tupB K "RULES" [.str "loses", .str "wins"]) = true ∧ (Yl.kdB K (He.ga K "COUNTS") [([48], 0), ([49], 1), ([50], 2)]) = true ∧ (Yl.ownB K (He.ga K "Lot")) = true ∧ (Yl.ownB K (He.ga K "Both")) = true ∧ (Yl.ownB K (He.ga K "Led")) = true ∧ ((Yl.oexB K (He.ga K "BadLine") && (L2.xfB K (He.ga K "BadLine") && (decide (PySem.W.findIn K (.ref (He.ga K "BadLine")) (Yl.ts [108, 105, 110, 101]) = some none) && (decide (PySem.W.findIn K (.ref (He.ga K "BadLine")) "__init__" = some (some (.ref (He.fAd K ("BadLine", some "__init__"))))) && decide (PySem.W.typeIn K (.ref (He.fAd K ("BadLine", some "__init__"))) = some (.type "function"))))))) = true := by
  have e := c.more
  unfold moreB at e
  simp only [Bool.and_eq_true] at e ⊢
  exact e
theorem ts_fact (c : He.SaysX fa fn ts [] moreB w h K) : He.dicW K (He.ga K "COUNTS") = some (He.keysIn w.params ([([48], 0), ([49], 1), ([50], 2)].map fun p : Tx × Int => Yl.ts p.1)) := by
  have e : ts.map (fun t => He.dicW K (t.1 K)) = ts.map fun t => some (He.keysIn w.params t.2) := congrArg (fun z : He.AlT => z.2) c.t
  injection e
theorem gl_ok (KX : K.In h) (G : h.Ns mainGlobals mg) (c : He.SaysX fa fn ts [] moreB w h K) : glAll (mx P w K mg base) L.gnm L.pg.gls := And.intro (by obtain ⟨t, e⟩ := He.str_ok KX G (faHas_ok c.t.d (f := .str "LETTERS" "abcd") (by decide +kernel)); exact ⟨.str "abcd", _, e, (show L2.RelV (.str "abcd") (.str "abcd" t) from ⟨t, rfl⟩), fun _ _ => rep_lit (by kernel_rfl)⟩) ( And.intro ⟨.ref (He.ga K "RULES"), _, He.glo_ok KX G (faHas_ok c.t.d (f := .glo "RULES") (by decide +kernel)), rfl, fun F m => (fun r => .ktup (He.tupB_ok ((more_all c).1) _) r.1 r.2) (At.cons (R := Rep (mx P w K mg base) F m) (rep_lit (by kernel_rfl)) (At.cons (R := Rep (mx P w K mg base) F m) (rep_lit (by kernel_rfl)) (At.nil)))⟩ ( And.intro (by obtain ⟨t, e⟩ := He.str_ok KX G (faHas_ok c.t.d (f := .str "PASS" "pass") (by decide +kernel)); exact ⟨.str "pass", _, e, (show L2.RelV (.str "pass") (.str "pass" t) from ⟨t, rfl⟩), fun _ _ => rep_lit (by kernel_rfl)⟩) ( And.intro ⟨.ref (He.ga K "COUNTS"), _, He.glo_ok KX G (faHas_ok c.t.d (f := .glo "COUNTS") (by decide +kernel)), rfl, rep_kdct (M := mx P w K mg base) (ts_fact c) ((more_all c).2.1)⟩ ( And.intro ⟨.ref (He.ga K "TurnError"), _, He.glo_ok KX G (faHas_ok c.t.d (f := .glo "TurnError") (by decide +kernel)), rfl, fun _ _ => .cl 0⟩ ( And.intro ⟨.ref (He.ga K "BadLot"), _, He.glo_ok KX G (faHas_ok c.t.d (f := .glo "BadLot") (by decide +kernel)), rfl, fun _ _ => .cl 1⟩ ( And.intro ⟨.ref (He.ga K "BadWord"), _, He.glo_ok KX G (faHas_ok c.t.d (f := .glo "BadWord") (by decide +kernel)), rfl, fun _ _ => .cl 2⟩ ( And.intro ⟨.ref (He.ga K "DoneWord"), _, He.glo_ok KX G (faHas_ok c.t.d (f := .glo "DoneWord") (by decide +kernel)), rfl, fun _ _ => .cl 3⟩ ( And.intro ⟨.ref (He.ga K "BadStand"), _, He.glo_ok KX G (faHas_ok c.t.d (f := .glo "BadStand") (by decide +kernel)), rfl, fun _ _ => .cl 4⟩ ( And.intro ⟨.ref (He.ga K "NoWorth"), _, He.glo_ok KX G (faHas_ok c.t.d (f := .glo "NoWorth") (by decide +kernel)), rfl, fun _ _ => .cl 5⟩ ( And.intro ⟨.ref (He.ga K "BadTurn"), _, He.glo_ok KX G (faHas_ok c.t.d (f := .glo "BadTurn") (by decide +kernel)), rfl, fun _ _ => .cl 6⟩ ( And.intro ⟨.ref (He.ga K "GameOver"), _, He.glo_ok KX G (faHas_ok c.t.d (f := .glo "GameOver") (by decide +kernel)), rfl, fun _ _ => .cl 7⟩ ( And.intro ⟨.ref (He.ga K "NothingDone"), _, He.glo_ok KX G (faHas_ok c.t.d (f := .glo "NothingDone") (by decide +kernel)), rfl, fun _ _ => .cl 8⟩ ( And.intro ⟨.ref (He.ga K "BadLine"), _, He.glo_ok KX G (faHas_ok c.t.d (f := .glo "BadLine") (by decide +kernel)), rfl, fun _ _ => .cl 9⟩ ( And.intro ⟨.ref (He.ga K "Lot"), _, He.glo_ok KX G (faHas_ok c.t.d (f := .glo "Lot") (by decide +kernel)), rfl, fun _ _ => .cl 10⟩ ( And.intro ⟨.ref (He.ga K "Both"), _, He.glo_ok KX G (faHas_ok c.t.d (f := .glo "Both") (by decide +kernel)), rfl, fun _ _ => .cl 11⟩ ( And.intro ⟨.ref (He.ga K "Led"), _, He.glo_ok KX G (faHas_ok c.t.d (f := .glo "Led") (by decide +kernel)), rfl, fun _ _ => .cl 12⟩ (True.intro)))))))))))))))))
theorem e1_ok (KX : K.In h) (G : h.Ns mainGlobals mg) (c : He.SaysX fa fn ts [] moreB w h K) : ∀ p, p ∈ L.exc1 → ∀ x, (p.1, x) ∈ L.cnm → ExcI (mx P w K mg base) p.1 x (Yl.ts p.2) 1 := by
  intro p hp x hx
  have e : p = (9, [108, 105, 110, 101]) := List.mem_singleton.mp hp
  subst e
  have ex : x = "BadLine" := by
    simp only [L, List.mem_cons, Prod.mk.injEq, List.not_mem_nil, or_false] at hx
    rcases hx with ⟨h, e⟩ | ⟨h, e⟩ | ⟨h, e⟩ | ⟨h, e⟩ | ⟨h, e⟩ | ⟨h, e⟩ | ⟨h, e⟩ | ⟨h, e⟩ | ⟨h, e⟩ | ⟨h, e⟩ | ⟨h, e⟩ | ⟨h, e⟩ | ⟨h, e⟩ <;> first | exact e | (cases h; done)
  subst ex
  have q := (more_all c).2.2.2.2.2
  simp only [Bool.and_eq_true] at q
  obtain ⟨m1, m2, m3, m4, m5⟩ := q
  obtain ⟨fd, F⟩ := c.t.d.def_ 52 (d := d_BadLine_init) rfl
  exact ⟨He.glo_ok KX G (faHas_ok c.t.d (f := .glo "BadLine") (by decide +kernel)), oexB_ok m1, _, fd, ["self", "line"], of_decide_eq_true m4, of_decide_eq_true m5, ox_init F ⟨rfl, rfl, rfl, by decide +kernel, rfl, by decide +kernel, by decide +kernel⟩ (oexB_ok m1) (of_decide_eq_true m3) (by decide +kernel) (by decide +kernel) (by decide +kernel) (by decide +kernel) (by decide +kernel) (by decide +kernel), F.bindsN fun _ _ _ _ _ _ us hl => match us, hl with | [_, _], _ => rfl⟩
theorem xf_ok (c : He.SaysX fa fn ts [] moreB w h K) : ∀ p, p ∈ L.xf → XfC K (He.ga K (cn p.1)) ∧ PySem.W.findIn K (.ref (He.ga K (cn p.1))) (Yl.ts p.2) = some none := by
  intro p hp
  have q := (more_all c).2.2.2.2.2
  simp only [Bool.and_eq_true] at q
  obtain ⟨m1, m2, m3, m4, m5⟩ := q
  cases hp
theorem ow_ok (c : He.SaysX fa fn ts [] moreB w h K) : ∀ C, C ∈ L.plain → ownB K (He.ga K (cn C)) = true := by
  intro C hC
  simp only [L, List.mem_cons, List.not_mem_nil, or_false] at hC
  rcases hC with rfl | rfl | rfl
  · exact (more_all c).2.2.1
  · exact (more_all c).2.2.2.1
  · exact (more_all c).2.2.2.2.1
theorem fac_ok (KX : K.In h) (G : h.Ns mainGlobals mg) (c : He.SaysX fa fn ts [] moreB w h K) : Fac (mx P w K mg base) L := fac_of KX G c.t.d (by decide +kernel) (gl_ok KX G c) (ow_ok c) (e1_ok KX G c) (xf_ok c)
theorem fs_0 (KX : K.In h) (G : h.Ns mainGlobals mg) (c : He.SaysX fa fn ts [] moreB w h K) : FnS (mx P w K mg base) L 60 40 0 "is_word" :=
  fnS_of (F := F_is_word) (N := ["thing", "letter"]) (ps := ["thing"]) KX G c.t.d (d := d_is_word) 0 rfl rfl rfl rfl (by decide +kernel) ⟨rfl, rfl, rfl, by decide +kernel, rfl, by decide +kernel, by decide +kernel⟩ (fun _ _ _ _ _ _ us hl => match us, hl with | [_], _ => rfl) rfl rfl rfl (by decide +kernel)
theorem fs_1 (KX : K.In h) (G : h.Ns mainGlobals mg) (c : He.SaysX fa fn ts [] moreB w h K) : FnS (mx P w K mg base) L 60 40 1 "are_letters" :=
  fnS_of (F := F_are_letters) (N := ["thing", "one", "other"]) (ps := ["thing"]) KX G c.t.d (d := d_are_letters) 1 rfl rfl rfl rfl (by decide +kernel) ⟨rfl, rfl, rfl, by decide +kernel, rfl, by decide +kernel, by decide +kernel⟩ (fun _ _ _ _ _ _ us hl => match us, hl with | [_], _ => rfl) rfl rfl rfl (by decide +kernel)
theorem fs_2 (KX : K.In h) (G : h.Ns mainGlobals mg) (c : He.SaysX fa fn ts [] moreB w h K) : FnS (mx P w K mg base) L 60 40 2 "are_barred" :=
  fnS_of (F := F_are_barred) (N := ["thing", "word"]) (ps := ["thing"]) KX G c.t.d (d := d_are_barred) 2 rfl rfl rfl rfl (by decide +kernel) ⟨rfl, rfl, rfl, by decide +kernel, rfl, by decide +kernel, by decide +kernel⟩ (fun _ _ _ _ _ _ us hl => match us, hl with | [_], _ => rfl) rfl rfl rfl (by decide +kernel)
theorem fs_3 (KX : K.In h) (G : h.Ns mainGlobals mg) (c : He.SaysX fa fn ts [] moreB w h K) : FnS (mx P w K mg base) L 60 40 3 "are_passes" :=
  fnS_of (F := F_are_passes) (N := ["thing"]) (ps := ["thing"]) KX G c.t.d (d := d_are_passes) 3 rfl rfl rfl rfl (by decide +kernel) ⟨rfl, rfl, rfl, by decide +kernel, rfl, by decide +kernel, by decide +kernel⟩ (fun _ _ _ _ _ _ us hl => match us, hl with | [_], _ => rfl) rfl rfl rfl (by decide +kernel)
theorem fs_6 (KX : K.In h) (G : h.Ns mainGlobals mg) (c : He.SaysX fa fn ts [] moreB w h K) : FnS (mx P w K mg base) L 60 40 6 "others_of" :=
  fnS_of (F := F_others_of) (N := ["lot"]) (ps := ["lot"]) KX G c.t.d (d := d_others_of) 4 rfl rfl rfl rfl (by decide +kernel) ⟨rfl, rfl, rfl, by decide +kernel, rfl, by decide +kernel, by decide +kernel⟩ (fun _ _ _ _ _ _ us hl => match us, hl with | [_], _ => rfl) rfl rfl rfl (by decide +kernel)
theorem fs_7 (KX : K.In h) (G : h.Ns mainGlobals mg) (c : He.SaysX fa fn ts [] moreB w h K) : FnS (mx P w K mg base) L 60 40 7 "is_ending" :=
  fnS_of (F := F_is_ending) (N := ["lot", "word", "barred"]) (ps := ["lot", "word"]) KX G c.t.d (d := d_is_ending) 7 rfl rfl rfl rfl (by decide +kernel) ⟨rfl, rfl, rfl, by decide +kernel, rfl, by decide +kernel, by decide +kernel⟩ (fun _ _ _ _ _ _ us hl => match us, hl with | [_, _], _ => rfl) rfl rfl rfl (by decide +kernel)
theorem fs_8 (KX : K.In h) (G : h.Ns mainGlobals mg) (c : He.SaysX fa fn ts [] moreB w h K) : FnS (mx P w K mg base) L 60 40 8 "cut_tail" :=
  fnS_of (F := F_cut_tail) (N := ["lot", "word", "at", "barred"]) (ps := ["lot", "word"]) KX G c.t.d (d := d_cut_tail) 8 rfl rfl rfl rfl (by decide +kernel) ⟨rfl, rfl, rfl, by decide +kernel, rfl, by decide +kernel, by decide +kernel⟩ (fun _ _ _ _ _ _ us hl => match us, hl with | [_, _], _ => rfl) rfl rfl rfl (by decide +kernel)
theorem fs_9 (KX : K.In h) (G : h.Ns mainGlobals mg) (c : He.SaysX fa fn ts [] moreB w h K) : FnS (mx P w K mg base) L 60 40 9 "step" :=
  fnS_of (F := F_step) (N := ["lot", "here", "letter"]) (ps := ["lot", "here", "letter"]) KX G c.t.d (d := d_step) 9 rfl rfl rfl rfl (by decide +kernel) ⟨rfl, rfl, rfl, by decide +kernel, rfl, by decide +kernel, by decide +kernel⟩ (fun _ _ _ _ _ _ us hl => match us, hl with | [_, _, _], _ => rfl) rfl rfl rfl (by decide +kernel)
theorem fs_10 (KX : K.In h) (G : h.Ns mainGlobals mg) (c : He.SaysX fa fn ts [] moreB w h K) : FnS (mx P w K mg base) L 60 40 10 "tail_or_none" :=
  fnS_of (F := F_tail_or_none) (N := ["lot", "word", "here", "letter"]) (ps := ["lot", "word"]) KX G c.t.d (d := d_tail_or_none) 10 rfl rfl rfl rfl (by decide +kernel) ⟨rfl, rfl, rfl, by decide +kernel, rfl, by decide +kernel, by decide +kernel⟩ (fun _ _ _ _ _ _ us hl => match us, hl with | [_, _], _ => rfl) rfl rfl rfl (by decide +kernel)
theorem fs_11 (KX : K.In h) (G : h.Ns mainGlobals mg) (c : He.SaysX fa fn ts [] moreB w h K) : FnS (mx P w K mg base) L 60 40 11 "tail" :=
  fnS_of (F := F_tail) (N := ["lot", "word", "found"]) (ps := ["lot", "word"]) KX G c.t.d (d := d_tail) 11 rfl rfl rfl rfl (by decide +kernel) ⟨rfl, rfl, rfl, by decide +kernel, rfl, by decide +kernel, by decide +kernel⟩ (fun _ _ _ _ _ _ us hl => match us, hl with | [_, _], _ => rfl) rfl rfl rfl (by decide +kernel)
theorem fs_13 (KX : K.In h) (G : h.Ns mainGlobals mg) (c : He.SaysX fa fn ts [] moreB w h K) : FnS (mx P w K mg base) L 60 40 13 "all_tails" :=
  fnS_of (F := F_all_tails) (N := ["lot", "found", "waiting", "at", "here", "letter", "after"]) (ps := ["lot"]) KX G c.t.d (d := d_all_tails) 12 rfl rfl rfl rfl (by decide +kernel) ⟨rfl, rfl, rfl, by decide +kernel, rfl, by decide +kernel, by decide +kernel⟩ (fun _ _ _ _ _ _ us hl => match us, hl with | [_], _ => rfl) rfl rfl rfl (by decide +kernel)
theorem fs_15 (KX : K.In h) (G : h.Ns mainGlobals mg) (c : He.SaysX fa fn ts [] moreB w h K) : FnS (mx P w K mg base) L 60 40 15 "stand_of" :=
  fnS_of (F := F_stand_of) (N := ["lot", "word", "player"]) (ps := ["lot", "word", "player"]) KX G c.t.d (d := d_stand_of) 13 rfl rfl rfl rfl (by decide +kernel) ⟨rfl, rfl, rfl, by decide +kernel, rfl, by decide +kernel, by decide +kernel⟩ (fun _ _ _ _ _ _ us hl => match us, hl with | [_, _, _], _ => rfl) rfl rfl rfl (by decide +kernel)
theorem fs_16 (KX : K.In h) (G : h.Ns mainGlobals mg) (c : He.SaysX fa fn ts [] moreB w h K) : FnS (mx P w K mg base) L 60 40 16 "stands" :=
  fnS_of (F := F_stands) (N := ["lot", "counts", "found", "here", "player", "own", "other"]) (ps := ["lot"]) KX G c.t.d (d := d_stands) 14 rfl rfl rfl rfl (by decide +kernel) ⟨rfl, rfl, rfl, by decide +kernel, rfl, by decide +kernel, by decide +kernel⟩ (fun _ _ _ _ _ _ us hl => match us, hl with | [_], _ => rfl) rfl rfl rfl (by decide +kernel)
theorem fs_33 (KX : K.In h) (G : h.Ns mainGlobals mg) (c : He.SaysX fa fn ts [] moreB w h K) : FnS (mx P w K mg base) L 60 40 33 "letters_of" :=
  fnS_of (F := F_letters_of) (N := ["lot", "player"]) (ps := ["lot", "player"]) KX G c.t.d (d := d_letters_of) 5 rfl rfl rfl rfl (by decide +kernel) ⟨rfl, rfl, rfl, by decide +kernel, rfl, by decide +kernel, by decide +kernel⟩ (fun _ _ _ _ _ _ us hl => match us, hl with | [_, _], _ => rfl) rfl rfl rfl (by decide +kernel)
theorem fs_34 (KX : K.In h) (G : h.Ns mainGlobals mg) (c : He.SaysX fa fn ts [] moreB w h K) : FnS (mx P w K mg base) L 60 40 34 "turns" :=
  fnS_of (F := F_turns) (N := ["lot", "stand", "found", "letter", "here", "player", "own", "other", "after"]) (ps := ["lot", "stand"]) KX G c.t.d (d := d_turns) 15 rfl rfl rfl rfl (by decide +kernel) ⟨rfl, rfl, rfl, by decide +kernel, rfl, by decide +kernel, by decide +kernel⟩ (fun _ _ _ _ _ _ us hl => match us, hl with | [_, _], _ => rfl) rfl rfl rfl (by decide +kernel)
theorem fs_35 (KX : K.In h) (G : h.Ns mainGlobals mg) (c : He.SaysX fa fn ts [] moreB w h K) : FnS (mx P w K mg base) L 60 40 35 "seen_from" :=
  fnS_of (F := F_seen_from) (N := ["lot", "after", "known", "word", "number"]) (ps := ["lot", "after", "known"]) KX G c.t.d (d := d_seen_from) 16 rfl rfl rfl rfl (by decide +kernel) ⟨rfl, rfl, rfl, by decide +kernel, rfl, by decide +kernel, by decide +kernel⟩ (fun _ _ _ _ _ _ us hl => match us, hl with | [_, _, _], _ => rfl) rfl rfl rfl (by decide +kernel)
theorem fs_36 (KX : K.In h) (G : h.Ns mainGlobals mg) (c : He.SaysX fa fn ts [] moreB w h K) : FnS (mx P w K mg base) L 60 40 36 "value_by" :=
  fnS_of (F := F_value_by) (N := ["some", "won", "value"]) (ps := ["some"]) KX G c.t.d (d := d_value_by) 17 rfl rfl rfl rfl (by decide +kernel) ⟨rfl, rfl, rfl, by decide +kernel, rfl, by decide +kernel, by decide +kernel⟩ (fun _ _ _ _ _ _ us hl => match us, hl with | [_], _ => rfl) rfl rfl rfl (by decide +kernel)
theorem fs_37 (KX : K.In h) (G : h.Ns mainGlobals mg) (c : He.SaysX fa fn ts [] moreB w h K) : FnS (mx P w K mg base) L 60 40 37 "decided" :=
  fnS_of (F := F_decided) (N := ["lot", "all_stands", "rows", "known", "going", "found", "stand", "value", "turn", "after"]) (ps := ["lot", "all_stands"]) KX G c.t.d (d := d_decided) 18 rfl rfl rfl rfl (by decide +kernel) ⟨rfl, rfl, rfl, by decide +kernel, rfl, by decide +kernel, by decide +kernel⟩ (fun _ _ _ _ _ _ us hl => match us, hl with | [_, _], _ => rfl) rfl rfl rfl (by decide +kernel)
theorem fs_38 (KX : K.In h) (G : h.Ns mainGlobals mg) (c : He.SaysX fa fn ts [] moreB w h K) : FnS (mx P w K mg base) L 60 40 38 "all_values" :=
  fnS_of (F := F_all_values) (N := ["lot", "all_stands", "known", "stand"]) (ps := ["lot"]) KX G c.t.d (d := d_all_values) 19 rfl rfl rfl rfl (by decide +kernel) ⟨rfl, rfl, rfl, by decide +kernel, rfl, by decide +kernel, by decide +kernel⟩ (fun _ _ _ _ _ _ us hl => match us, hl with | [_], _ => rfl) rfl rfl rfl (by decide +kernel)
theorem fs_39 (KX : K.In h) (G : h.Ns mainGlobals mg) (c : He.SaysX fa fn ts [] moreB w h K) : FnS (mx P w K mg base) L 60 40 39 "check_stand" :=
  fnS_of (F := F_check_stand) (N := ["lot", "stand", "one"]) (ps := ["lot", "stand"]) KX G c.t.d (d := d_check_stand) 20 rfl rfl rfl rfl (by decide +kernel) ⟨rfl, rfl, rfl, by decide +kernel, rfl, by decide +kernel, by decide +kernel⟩ (fun _ _ _ _ _ _ us hl => match us, hl with | [_, _], _ => rfl) rfl rfl rfl (by decide +kernel)
theorem fs_40 (KX : K.In h) (G : h.Ns mainGlobals mg) (c : He.SaysX fa fn ts [] moreB w h K) : FnS (mx P w K mg base) L 60 40 40 "value" :=
  fnS_of (F := F_value) (N := ["lot", "stand"]) (ps := ["lot", "stand"]) KX G c.t.d (d := d_value) 21 rfl rfl rfl rfl (by decide +kernel) ⟨rfl, rfl, rfl, by decide +kernel, rfl, by decide +kernel, by decide +kernel⟩ (fun _ _ _ _ _ _ us hl => match us, hl with | [_, _], _ => rfl) rfl rfl rfl (by decide +kernel)
theorem fs_41 (KX : K.In h) (G : h.Ns mainGlobals mg) (c : He.SaysX fa fn ts [] moreB w h K) : FnS (mx P w K mg base) L 60 40 41 "good_turns" :=
  fnS_of (F := F_good_turns) (N := ["lot", "known", "stand", "turn", "after"]) (ps := ["lot", "known", "stand"]) KX G c.t.d (d := d_good_turns) 22 rfl rfl rfl rfl (by decide +kernel) ⟨rfl, rfl, rfl, by decide +kernel, rfl, by decide +kernel, by decide +kernel⟩ (fun _ _ _ _ _ _ us hl => match us, hl with | [_, _, _], _ => rfl) rfl rfl rfl (by decide +kernel)
theorem fs_42 (KX : K.In h) (G : h.Ns mainGlobals mg) (c : He.SaysX fa fn ts [] moreB w h K) : FnS (mx P w K mg base) L 60 40 42 "good" :=
  fnS_of (F := F_good) (N := ["lot", "stand"]) (ps := ["lot", "stand"]) KX G c.t.d (d := d_good) 23 rfl rfl rfl rfl (by decide +kernel) ⟨rfl, rfl, rfl, by decide +kernel, rfl, by decide +kernel, by decide +kernel⟩ (fun _ _ _ _ _ _ us hl => match us, hl with | [_, _], _ => rfl) rfl rfl rfl (by decide +kernel)
theorem fs_53 (KX : K.In h) (G : h.Ns mainGlobals mg) (c : He.SaysX fa fn ts [] moreB w h K) : FnS (mx P w K mg base) L 60 40 53 "line" :=
  fnS_of (F := F_line) (N := ["lot", "stand", "most", "known", "found", "turn"]) (ps := ["lot", "stand", "most"]) KX G c.t.d (d := d_line) 24 rfl rfl rfl rfl (by decide +kernel) ⟨rfl, rfl, rfl, by decide +kernel, rfl, by decide +kernel, by decide +kernel⟩ (fun _ _ _ _ _ _ us hl => match us, hl with | [_, _, _], _ => rfl) rfl rfl rfl (by decide +kernel)
theorem fs_71 (KX : K.In h) (G : h.Ns mainGlobals mg) (c : He.SaysX fa fn ts [] moreB w h K) : FnS (mx P w K mg base) L 60 40 71 "with_barred" :=
  fnS_of (F := F_with_barred) (N := ["lot", "barred"]) (ps := ["lot", "barred"]) KX G c.t.d (d := d_with_barred) 6 rfl rfl rfl rfl (by decide +kernel) ⟨rfl, rfl, rfl, by decide +kernel, rfl, by decide +kernel, by decide +kernel⟩ (fun _ _ _ _ _ _ us hl => match us, hl with | [_, _], _ => rfl) rfl rfl rfl (by decide +kernel)
theorem fs_72 (KX : K.In h) (G : h.Ns mainGlobals mg) (c : He.SaysX fa fn ts [] moreB w h K) : FnS (mx P w K mg base) L 60 40 72 "first_word" :=
  fnS_of (F := F_first_word) (N := ["lot", "values", "here", "player"]) (ps := ["lot", "values", "here", "player"]) KX G c.t.d (d := d_first_word) 25 rfl rfl rfl rfl (by decide +kernel) ⟨rfl, rfl, rfl, by decide +kernel, rfl, by decide +kernel, by decide +kernel⟩ (fun _ _ _ _ _ _ us hl => match us, hl with | [_, _, _, _], _ => rfl) rfl rfl rfl (by decide +kernel)
theorem fs_76 (KX : K.In h) (G : h.Ns mainGlobals mg) (c : He.SaysX fa fn ts [] moreB w h K) : FnS (mx P w K mg base) L 60 40 76 "parting" :=
  fnS_of (F := F_parting) (N := ["one", "other", "both", "waiting", "words", "at", "pair", "player", "letter", "after"]) (ps := ["one", "other"]) KX G c.t.d (d := d_parting) 26 rfl rfl rfl rfl (by decide +kernel) ⟨rfl, rfl, rfl, by decide +kernel, rfl, by decide +kernel, by decide +kernel⟩ (fun _ _ _ _ _ _ us hl => match us, hl with | [_, _], _ => rfl) rfl rfl rfl (by decide +kernel)
theorem fs_77 (KX : K.In h) (G : h.Ns mainGlobals mg) (c : He.SaysX fa fn ts [] moreB w h K) : FnS (mx P w K mg base) L 60 40 77 "alike" :=
  fnS_of (F := F_alike) (N := ["one", "other"]) (ps := ["one", "other"]) KX G c.t.d (d := d_alike) 27 rfl rfl rfl rfl (by decide +kernel) ⟨rfl, rfl, rfl, by decide +kernel, rfl, by decide +kernel, by decide +kernel⟩ (fun _ _ _ _ _ _ us hl => match us, hl with | [_, _], _ => rfl) rfl rfl rfl (by decide +kernel)
theorem fs_78 (KX : K.In h) (G : h.Ns mainGlobals mg) (c : He.SaysX fa fn ts [] moreB w h K) : FnS (mx P w K mg base) L 60 40 78 "without" :=
  fnS_of (F := F_without) (N := ["barred", "at"]) (ps := ["barred", "at"]) KX G c.t.d (d := d_without) 28 rfl rfl rfl rfl (by decide +kernel) ⟨rfl, rfl, rfl, by decide +kernel, rfl, by decide +kernel, by decide +kernel⟩ (fun _ _ _ _ _ _ us hl => match us, hl with | [_, _], _ => rfl) rfl rfl rfl (by decide +kernel)
theorem fs_89 (KX : K.In h) (G : h.Ns mainGlobals mg) (c : He.SaysX fa fn ts [] moreB w h K) : FnS (mx P w K mg base) L 60 40 89 "small_words" :=
  fnS_of (F := F_small_words) (N := ["one", "other"]) (ps := []) KX G c.t.d (d := d_small_words) 29 rfl rfl rfl rfl (by decide +kernel) ⟨rfl, rfl, rfl, by decide +kernel, rfl, by decide +kernel, by decide +kernel⟩ (fun _ _ _ _ _ _ us hl => match us, hl with | [], _ => rfl) rfl rfl rfl (by decide +kernel)
theorem fs_90 (KX : K.In h) (G : h.Ns mainGlobals mg) (c : He.SaysX fa fn ts [] moreB w h K) : FnS (mx P w K mg base) L 60 40 90 "all_changes" :=
  fnS_of (F := F_all_changes) (N := ["lot", "found", "word", "at"]) (ps := ["lot"]) KX G c.t.d (d := d_all_changes) 30 rfl rfl rfl rfl (by decide +kernel) ⟨rfl, rfl, rfl, by decide +kernel, rfl, by decide +kernel, by decide +kernel⟩ (fun _ _ _ _ _ _ us hl => match us, hl with | [_], _ => rfl) rfl rfl rfl (by decide +kernel)
theorem fs_91 (KX : K.In h) (G : h.Ns mainGlobals mg) (c : He.SaysX fa fn ts [] moreB w h K) : FnS (mx P w K mg base) L 60 40 91 "first_of_word" :=
  fnS_of (F := F_first_of_word) (N := ["lot", "word", "player", "here"]) (ps := ["lot", "word", "player"]) KX G c.t.d (d := d_first_of_word) 31 rfl rfl rfl rfl (by decide +kernel) ⟨rfl, rfl, rfl, by decide +kernel, rfl, by decide +kernel, by decide +kernel⟩ (fun _ _ _ _ _ _ us hl => match us, hl with | [_, _, _], _ => rfl) rfl rfl rfl (by decide +kernel)
theorem fs_92 (KX : K.In h) (G : h.Ns mainGlobals mg) (c : He.SaysX fa fn ts [] moreB w h K) : FnS (mx P w K mg base) L 60 40 92 "changes" :=
  fnS_of (F := F_changes) (N := ["lot", "word", "player", "now", "found", "way", "other", "then"]) (ps := ["lot", "word", "player"]) KX G c.t.d (d := d_changes) 32 rfl rfl rfl rfl (by decide +kernel) ⟨rfl, rfl, rfl, by decide +kernel, rfl, by decide +kernel, by decide +kernel⟩ (fun _ _ _ _ _ _ us hl => match us, hl with | [_, _, _], _ => rfl) rfl rfl rfl (by decide +kernel)
theorem fs_100 (KX : K.In h) (G : h.Ns mainGlobals mg) (c : He.SaysX fa fn ts [] moreB w h K) : FnS (mx P w K mg base) L 60 40 100 "check_lot" :=
  fnS_of (F := F_check_lot) (N := ["lot"]) (ps := ["lot"]) KX G c.t.d (d := d_check_lot) 38 rfl rfl rfl rfl (by decide +kernel) ⟨rfl, rfl, rfl, by decide +kernel, rfl, by decide +kernel, by decide +kernel⟩ (fun _ _ _ _ _ _ us hl => match us, hl with | [_], _ => rfl) rfl rfl rfl (by decide +kernel)
theorem fs_101 (KX : K.In h) (G : h.Ns mainGlobals mg) (c : He.SaysX fa fn ts [] moreB w h K) : FnS (mx P w K mg base) L 60 40 101 "nexts" :=
  fnS_of (F := F_nexts) (N := ["lot", "here", "some", "letter", "after"]) (ps := ["lot", "here"]) KX G c.t.d (d := d_nexts) 39 rfl rfl rfl rfl (by decide +kernel) ⟨rfl, rfl, rfl, by decide +kernel, rfl, by decide +kernel, by decide +kernel⟩ (fun _ _ _ _ _ _ us hl => match us, hl with | [_, _], _ => rfl) rfl rfl rfl (by decide +kernel)
theorem fs_102 (KX : K.In h) (G : h.Ns mainGlobals mg) (c : He.SaysX fa fn ts [] moreB w h K) : FnS (mx P w K mg base) L 60 40 102 "least_missing" :=
  fnS_of (F := F_least_missing) (N := ["numbers", "found"]) (ps := ["numbers"]) KX G c.t.d (d := d_least_missing) 40 rfl rfl rfl rfl (by decide +kernel) ⟨rfl, rfl, rfl, by decide +kernel, rfl, by decide +kernel, by decide +kernel⟩ (fun _ _ _ _ _ _ us hl => match us, hl with | [_], _ => rfl) rfl rfl rfl (by decide +kernel)
theorem fs_103 (KX : K.In h) (G : h.Ns mainGlobals mg) (c : He.SaysX fa fn ts [] moreB w h K) : FnS (mx P w K mg base) L 60 40 103 "worth_at" :=
  fnS_of (F := F_worth_at) (N := ["lot", "here", "above", "known", "some", "after"]) (ps := ["lot", "here", "above", "known"]) KX G c.t.d (d := d_worth_at) 41 rfl rfl rfl rfl (by decide +kernel) ⟨rfl, rfl, rfl, by decide +kernel, rfl, by decide +kernel, by decide +kernel⟩ (fun _ _ _ _ _ _ us hl => match us, hl with | [_, _, _, _], _ => rfl) rfl rfl rfl (by decide +kernel)
theorem fs_104 (KX : K.In h) (G : h.Ns mainGlobals mg) (c : He.SaysX fa fn ts [] moreB w h K) : FnS (mx P w K mg base) L 60 40 104 "worth" :=
  fnS_of (F := F_worth) (N := ["lot", "word", "here"]) (ps := ["lot", "word"]) KX G c.t.d (d := d_worth) 42 rfl rfl rfl rfl (by decide +kernel) ⟨rfl, rfl, rfl, by decide +kernel, rfl, by decide +kernel, by decide +kernel⟩ (fun _ _ _ _ _ _ us hl => match us, hl with | [_, _], _ => rfl) rfl rfl rfl (by decide +kernel)
theorem fs_105 (KX : K.In h) (G : h.Ns mainGlobals mg) (c : He.SaysX fa fn ts [] moreB w h K) : FnS (mx P w K mg base) L 60 40 105 "added" :=
  fnS_of (F := F_added) (N := ["one", "other", "found", "place"]) (ps := ["one", "other"]) KX G c.t.d (d := d_added) 43 rfl rfl rfl rfl (by decide +kernel) ⟨rfl, rfl, rfl, by decide +kernel, rfl, by decide +kernel, by decide +kernel⟩ (fun _ _ _ _ _ _ us hl => match us, hl with | [_, _], _ => rfl) rfl rfl rfl (by decide +kernel)
theorem fs_106 (KX : K.In h) (G : h.Ns mainGlobals mg) (c : He.SaysX fa fn ts [] moreB w h K) : FnS (mx P w K mg base) L 60 40 106 "wins" :=
  fnS_of (F := F_wins) (N := ["lot", "words", "total", "word"]) (ps := ["lot", "words"]) KX G c.t.d (d := d_wins) 44 rfl rfl rfl rfl (by decide +kernel) ⟨rfl, rfl, rfl, by decide +kernel, rfl, by decide +kernel, by decide +kernel⟩ (fun _ _ _ _ _ _ us hl => match us, hl with | [_, _], _ => rfl) rfl rfl rfl (by decide +kernel)
theorem fs_121 (KX : K.In h) (G : h.Ns mainGlobals mg) (c : He.SaysX fa fn ts [] moreB w h K) : FnS (mx P w K mg base) L 60 40 121 "barred_in" :=
  fnS_of (F := F_barred_in) (N := ["line", "words"]) (ps := ["line"]) KX G c.t.d (d := d_barred_in) 33 rfl rfl rfl rfl (by decide +kernel) ⟨rfl, rfl, rfl, by decide +kernel, rfl, by decide +kernel, by decide +kernel⟩ (fun _ _ _ _ _ _ us hl => match us, hl with | [_], _ => rfl) rfl rfl rfl (by decide +kernel)
theorem fs_122 (KX : K.In h) (G : h.Ns mainGlobals mg) (c : He.SaysX fa fn ts [] moreB w h K) : FnS (mx P w K mg base) L 60 40 122 "letters_in" :=
  fnS_of (F := F_letters_in) (N := ["line", "words"]) (ps := ["line"]) KX G c.t.d (d := d_letters_in) 34 rfl rfl rfl rfl (by decide +kernel) ⟨rfl, rfl, rfl, by decide +kernel, rfl, by decide +kernel, by decide +kernel⟩ (fun _ _ _ _ _ _ us hl => match us, hl with | [_], _ => rfl) rfl rfl rfl (by decide +kernel)
theorem fs_123 (KX : K.In h) (G : h.Ns mainGlobals mg) (c : He.SaysX fa fn ts [] moreB w h K) : FnS (mx P w K mg base) L 60 40 123 "rule_in" :=
  fnS_of (F := F_rule_in) (N := ["line", "words"]) (ps := ["line"]) KX G c.t.d (d := d_rule_in) 35 rfl rfl rfl rfl (by decide +kernel) ⟨rfl, rfl, rfl, by decide +kernel, rfl, by decide +kernel, by decide +kernel⟩ (fun _ _ _ _ _ _ us hl => match us, hl with | [_], _ => rfl) rfl rfl rfl (by decide +kernel)
theorem fs_124 (KX : K.In h) (G : h.Ns mainGlobals mg) (c : He.SaysX fa fn ts [] moreB w h K) : FnS (mx P w K mg base) L 60 40 124 "part_in" :=
  fnS_of (F := F_part_in) (N := ["at", "line"]) (ps := ["at", "line"]) KX G c.t.d (d := d_part_in) 36 rfl rfl rfl rfl (by decide +kernel) ⟨rfl, rfl, rfl, by decide +kernel, rfl, by decide +kernel, by decide +kernel⟩ (fun _ _ _ _ _ _ us hl => match us, hl with | [_, _], _ => rfl) rfl rfl rfl (by decide +kernel)
theorem fs_125 (KX : K.In h) (G : h.Ns mainGlobals mg) (c : He.SaysX fa fn ts [] moreB w h K) : FnS (mx P w K mg base) L 60 40 125 "read" :=
  fnS_of (F := F_read) (N := ["text", "lines", "parts", "at", "part"]) (ps := ["text"]) KX G c.t.d (d := d_read) 37 rfl rfl rfl rfl (by decide +kernel) ⟨rfl, rfl, rfl, by decide +kernel, rfl, by decide +kernel, by decide +kernel⟩ (fun _ _ _ _ _ _ us hl => match us, hl with | [_], _ => rfl) rfl rfl rfl (by decide +kernel)
theorem fs_130 (KX : K.In h) (G : h.Ns mainGlobals mg) (c : He.SaysX fa fn ts [] moreB w h K) : FnS (mx P w K mg base) L 60 40 130 "_law_word_call" :=
  fnS_of (F := F_law_word_call) (N := ["_law_lot", "_law_thing", "_law_word"]) (ps := ["_law_lot", "_law_thing", "_law_word"]) KX G c.t.d (d := d_law_word_call) 47 rfl rfl rfl rfl (by decide +kernel) ⟨rfl, rfl, rfl, by decide +kernel, rfl, by decide +kernel, by decide +kernel⟩ (fun _ _ _ _ _ _ us hl => match us, hl with | [_, _, _], _ => rfl) rfl rfl rfl (by decide +kernel)
theorem fs_131 (KX : K.In h) (G : h.Ns mainGlobals mg) (c : He.SaysX fa fn ts [] moreB w h K) : FnS (mx P w K mg base) L 60 40 131 "_law_call" :=
  fnS_of (F := F_law_call) (N := ["_law_what", "_law_thing", "_law_lot", "_law_led"]) (ps := ["_law_what", "_law_thing"]) KX G c.t.d (d := d_law_call) 48 rfl rfl rfl rfl (by decide +kernel) ⟨rfl, rfl, rfl, by decide +kernel, rfl, by decide +kernel, by decide +kernel⟩ (fun _ _ _ _ _ _ us hl => match us, hl with | [_, _], _ => rfl) rfl rfl rfl (by decide +kernel)
theorem fs_132 (KX : K.In h) (G : h.Ns mainGlobals mg) (c : He.SaysX fa fn ts [] moreB w h K) : FnS (mx P w K mg base) L 60 40 132 "_law_kind" :=
  fnS_of (F := F_law_kind) (N := ["_law_what", "_law_thing", "_law_told"]) (ps := ["_law_what", "_law_thing"]) KX G c.t.d (d := d_law_kind) 49 rfl rfl rfl rfl (by decide +kernel) ⟨rfl, rfl, rfl, by decide +kernel, rfl, by decide +kernel, by decide +kernel⟩ (fun _ _ _ _ _ _ us hl => match us, hl with | [_, _], _ => rfl) rfl rfl rfl (by decide +kernel)
theorem fs_133 (KX : K.In h) (G : h.Ns mainGlobals mg) (c : He.SaysX fa fn ts [] moreB w h K) : FnS (mx P w K mg base) L 60 40 133 "_law_under" :=
  fnS_of (F := F_law_under) (N := ["_law_what", "_law_thing", "_law_told"]) (ps := ["_law_what", "_law_thing"]) KX G c.t.d (d := d_law_under) 50 rfl rfl rfl rfl (by decide +kernel) ⟨rfl, rfl, rfl, by decide +kernel, rfl, by decide +kernel, by decide +kernel⟩ (fun _ _ _ _ _ _ us hl => match us, hl with | [_, _], _ => rfl) rfl rfl rfl (by decide +kernel)
theorem law_no_fn : True := True.intro
theorem mk_0 (KX : K.In h) (G : h.Ns mainGlobals mg) (c : He.SaysX fa fn ts [] moreB w h K) : MkS (mx P w K mg base) L 60 40 10 4 [] := by
  obtain ⟨fd, F⟩ := c.t.d.def_ 53 (d := d_Lot_init) rfl
  obtain ⟨ds, v1, b1⟩ := FunD.binds1 (ps := ["self", "barred", "first", "second", "rule", "passes"]) F 6 2 (by simp [He.DefD.dvs, d_Lot_init]) rfl (fun _ _ _ _ _ _ _ us its h1 h2 => match us, its, h1, h2 with | [_, _, _, _, _, _], [_, _], _, _ => ⟨_, rfl, rfl⟩)
  exact ⟨_, fd, _, _, _, _, _, _, _, ["self", "barred", "first", "second", "rule", "passes"], ["self", "barred", "first", "second", "rule", "passes"], F_Lot_init, _, ds, F, ⟨rfl, rfl, rfl, by decide +kernel, rfl, by decide +kernel, by decide +kernel⟩, He.mkr_ok (faHas_ok c.t.d (f := .mkr "Lot") (by decide +kernel)), b1, v1, fun F m => At.nil, rfl, rfl, rfl, by decide +kernel⟩
theorem mk_1 (KX : K.In h) (G : h.Ns mainGlobals mg) (c : He.SaysX fa fn ts [] moreB w h K) : MkS (mx P w K mg base) L 60 40 12 54 [] := by
  obtain ⟨fd, F⟩ := c.t.d.def_ 55 (d := d_Led_init) rfl
  exact ⟨_, fd, _, _, _, _, _, _, _, ["self", "lot", "word", "player"], ["self", "lot", "word", "player"], F_Led_init, _, [], F, ⟨rfl, rfl, rfl, by decide +kernel, rfl, by decide +kernel, by decide +kernel⟩, He.mkr_ok (faHas_ok c.t.d (f := .mkr "Led") (by decide +kernel)), F.bindsN fun _ _ _ _ _ _ us hl => match us, hl with | [_, _, _, _], _ => rfl, .nil, fun F m => At.nil, rfl, rfl, rfl, by decide +kernel⟩
theorem mk_2 (KX : K.In h) (G : h.Ns mainGlobals mg) (c : He.SaysX fa fn ts [] moreB w h K) : MkS (mx P w K mg base) L 60 40 11 73 [] := by
  obtain ⟨fd, F⟩ := c.t.d.def_ 54 (d := d_Both_init) rfl
  exact ⟨_, fd, _, _, _, _, _, _, _, ["self", "one", "other"], ["self", "one", "other"], F_Both_init, _, [], F, ⟨rfl, rfl, rfl, by decide +kernel, rfl, by decide +kernel, by decide +kernel⟩, He.mkr_ok (faHas_ok c.t.d (f := .mkr "Both") (by decide +kernel)), F.bindsN fun _ _ _ _ _ _ us hl => match us, hl with | [_, _, _], _ => rfl, .nil, fun F m => At.nil, rfl, rfl, rfl, by decide +kernel⟩
theorem mk_3 (KX : K.In h) (G : h.Ns mainGlobals mg) (c : He.SaysX fa fn ts [] moreB w h K) : MkS (mx P w K mg base) L 60 40 10 4 [(.str [108, 111, 115, 101, 115]), (.int 0)] := by
  obtain ⟨fd, F⟩ := c.t.d.def_ 53 (d := d_Lot_init) rfl
  obtain ⟨ds, v1, b1⟩ := FunD.binds1 (ps := ["self", "barred", "first", "second", "rule", "passes"]) F 4 0 (by simp [He.DefD.dvs, d_Lot_init]) rfl (fun _ _ _ _ _ _ _ us its h1 h2 => match us, its, h1, h2 with | [_, _, _, _], [_, _], _, _ => ⟨_, rfl, rfl⟩)
  exact ⟨_, fd, _, _, _, _, _, _, _, ["self", "barred", "first", "second", "rule", "passes"], ["self", "barred", "first", "second", "rule", "passes"], F_Lot_init, _, ds, F, ⟨rfl, rfl, rfl, by decide +kernel, rfl, by decide +kernel, by decide +kernel⟩, He.mkr_ok (faHas_ok c.t.d (f := .mkr "Lot") (by decide +kernel)), b1, v1, fun F m => (At.cons (R := Rep (mx P w K mg base) F m) (rep_lit (by kernel_rfl)) (At.cons (R := Rep (mx P w K mg base) F m) (.int 0) At.nil)), rfl, rfl, rfl, by decide +kernel⟩
theorem mk_4 (KX : K.In h) (G : h.Ns mainGlobals mg) (c : He.SaysX fa fn ts [] moreB w h K) : MkS (mx P w K mg base) L 60 40 10 4 [(.int 0)] := by
  obtain ⟨fd, F⟩ := c.t.d.def_ 53 (d := d_Lot_init) rfl
  obtain ⟨ds, v1, b1⟩ := FunD.binds1 (ps := ["self", "barred", "first", "second", "rule", "passes"]) F 5 1 (by simp [He.DefD.dvs, d_Lot_init]) rfl (fun _ _ _ _ _ _ _ us its h1 h2 => match us, its, h1, h2 with | [_, _, _, _, _], [_, _], _, _ => ⟨_, rfl, rfl⟩)
  exact ⟨_, fd, _, _, _, _, _, _, _, ["self", "barred", "first", "second", "rule", "passes"], ["self", "barred", "first", "second", "rule", "passes"], F_Lot_init, _, ds, F, ⟨rfl, rfl, rfl, by decide +kernel, rfl, by decide +kernel, by decide +kernel⟩, He.mkr_ok (faHas_ok c.t.d (f := .mkr "Lot") (by decide +kernel)), b1, v1, fun F m => (At.cons (R := Rep (mx P w K mg base) F m) (.int 0) At.nil), rfl, rfl, rfl, by decide +kernel⟩
theorem me_55 (KX : K.In h) (G : h.Ns mainGlobals mg) (c : He.SaysX fa fn ts [] moreB w h K) : MeS (mx P w K mg base) L 60 40 12 "stand" 55 := by
  obtain ⟨fd, F⟩ := c.t.d.def_ 56 (d := d_Led_stand) rfl
  exact ⟨_, fd, _, _, _, _, _, _, _, ["self", "found", "turn"], ["self"], F_Led_stand, F, ⟨rfl, rfl, rfl, by decide +kernel, rfl, by decide +kernel, by decide +kernel⟩, He.meth_ok (faHas_ok c.t.d (f := .meth "Led" "stand") (by decide +kernel)), F.bindsN (fun _ _ _ _ _ _ us hl => match us, hl with | [_], _ => rfl), He.cls_ok (faHas_ok c.t.d (f := .cls "Led") (by decide +kernel)), rfl, rfl, rfl, by decide +kernel⟩
theorem me_56 (KX : K.In h) (G : h.Ns mainGlobals mg) (c : He.SaysX fa fn ts [] moreB w h K) : MeS (mx P w K mg base) L 60 40 12 "turn" 56 := by
  obtain ⟨fd, F⟩ := c.t.d.def_ 57 (d := d_Led_turn) rfl
  exact ⟨_, fd, _, _, _, _, _, _, _, ["self", "what", "here"], ["self", "what"], F_Led_turn, F, ⟨rfl, rfl, rfl, by decide +kernel, rfl, by decide +kernel, by decide +kernel⟩, He.meth_ok (faHas_ok c.t.d (f := .meth "Led" "turn") (by decide +kernel)), F.bindsN (fun _ _ _ _ _ _ us hl => match us, hl with | [_, _], _ => rfl), He.cls_ok (faHas_ok c.t.d (f := .cls "Led") (by decide +kernel)), rfl, rfl, rfl, by decide +kernel⟩
theorem me_61 (KX : K.In h) (G : h.Ns mainGlobals mg) (c : He.SaysX fa fn ts [] moreB w h K) : MeS (mx P w K mg base) L 60 40 12 "best" 61 := by
  obtain ⟨fd, F⟩ := c.t.d.def_ 58 (d := d_Led_best) rfl
  exact ⟨_, fd, _, _, _, _, _, _, _, ["self", "here"], ["self"], F_Led_best, F, ⟨rfl, rfl, rfl, by decide +kernel, rfl, by decide +kernel, by decide +kernel⟩, He.meth_ok (faHas_ok c.t.d (f := .meth "Led" "best") (by decide +kernel)), F.bindsN (fun _ _ _ _ _ _ us hl => match us, hl with | [_], _ => rfl), He.cls_ok (faHas_ok c.t.d (f := .cls "Led") (by decide +kernel)), rfl, rfl, rfl, by decide +kernel⟩
theorem me_113 (KX : K.In h) (G : h.Ns mainGlobals mg) (c : He.SaysX fa fn ts [] moreB w h K) : MeS (mx P w K mg base) L 60 40 12 "undo" 113 := by
  obtain ⟨fd, F⟩ := c.t.d.def_ 59 (d := d_Led_undo) rfl
  exact ⟨_, fd, _, _, _, _, _, _, _, ["self"], ["self"], F_Led_undo_k08, F, ⟨rfl, rfl, rfl, by decide +kernel, rfl, by decide +kernel, by decide +kernel⟩, He.meth_ok (faHas_ok c.t.d (f := .meth "Led" "undo") (by decide +kernel)), F.bindsN (fun _ _ _ _ _ _ us hl => match us, hl with | [_], _ => rfl), He.cls_ok (faHas_ok c.t.d (f := .cls "Led") (by decide +kernel)), rfl, rfl, rfl, by decide +kernel⟩
theorem mes_ok (KX : K.In h) (G : h.Ns mainGlobals mg) (c : He.SaysX fa fn ts [] moreB w h K) : ∀ C x f, (C, x, f) ∈ L.meth → MeS (mx P w K mg base) L 60 40 C x f := by
  intro C x f hx
  simp only [L, List.mem_cons, List.not_mem_nil, or_false, Prod.mk.injEq] at hx
  rcases hx with ⟨rfl, rfl, rfl⟩ | ⟨rfl, rfl, rfl⟩ | ⟨rfl, rfl, rfl⟩ | ⟨rfl, rfl, rfl⟩
  · exact me_55 KX G c
  · exact me_56 KX G c
  · exact me_61 KX G c
  · exact me_113 KX G c
theorem dr_ok (KX : K.In h) (G : h.Ns mainGlobals mg) (c : He.SaysX fa fn ts [] moreB w h K) : ∃ ps, FnC (mx P w K mg base) "_law_draw" ps 3 conDraw := by
  obtain ⟨fd, F⟩ := c.t.d.def_ 46 (d := d_law_draw) rfl
  exact ⟨["_law_draws", "_law_size"], _, fd, draw_ok (M := mx P w K mg base) (N := ["_law_draws", "_law_size", "_law_found", "_law_cell"]) F ⟨rfl, rfl, rfl, by decide +kernel, rfl, by decide +kernel, by decide +kernel⟩ rfl rfl (He.free_ok KX G (faHas_ok c.t.d (by decide +kernel))) (He.free_ok KX G (faHas_ok c.t.d (by decide +kernel))) (by decide +kernel), He.glo_ok KX G (faHas_ok c.t.d (f := .glo "_law_draw") (by decide +kernel)), F.kp, F.bindsN fun _ _ _ _ _ _ us hl => match us, hl with | [_, _], _ => rfl⟩
theorem prg (KX : K.In h) (G : h.Ns mainGlobals mg) (c : He.SaysX fa fn ts [] moreB w h K) : Prg (mx P w K mg base) L 60 40 :=
  ⟨fac_ok KX G c, fun _ => dr_ok KX G c, fun f x e => by
    have := fnAll_get (i := 0) (l := L.fnm) (M := mx P w K mg base) (L := L) (m := 60) (n := 40) (And.intro (fs_0 KX G c) (And.intro (fs_1 KX G c) (And.intro (fs_2 KX G c) (And.intro (fs_3 KX G c) (And.intro (fs_6 KX G c) (And.intro (fs_7 KX G c) (And.intro (fs_8 KX G c) (And.intro (fs_9 KX G c) (And.intro (fs_10 KX G c) (And.intro (fs_11 KX G c) (And.intro (fs_13 KX G c) (And.intro (fs_15 KX G c) (And.intro (fs_16 KX G c) (And.intro (fs_33 KX G c) (And.intro (fs_34 KX G c) (And.intro (fs_35 KX G c) (And.intro (fs_36 KX G c) (And.intro (fs_37 KX G c) (And.intro (fs_38 KX G c) (And.intro (fs_39 KX G c) (And.intro (fs_40 KX G c) (And.intro (fs_41 KX G c) (And.intro (fs_42 KX G c) (And.intro (fs_53 KX G c) (And.intro (fs_71 KX G c) (And.intro (fs_72 KX G c) (And.intro (fs_76 KX G c) (And.intro (fs_77 KX G c) (And.intro (fs_78 KX G c) (And.intro (fs_89 KX G c) (And.intro (fs_90 KX G c) (And.intro (fs_91 KX G c) (And.intro (fs_92 KX G c) (And.intro (fs_100 KX G c) (And.intro (fs_101 KX G c) (And.intro (fs_102 KX G c) (And.intro (fs_103 KX G c) (And.intro (fs_104 KX G c) (And.intro (fs_105 KX G c) (And.intro (fs_106 KX G c) (And.intro (fs_121 KX G c) (And.intro (fs_122 KX G c) (And.intro (fs_123 KX G c) (And.intro (fs_124 KX G c) (And.intro (fs_125 KX G c) (And.intro (fs_130 KX G c) (And.intro (fs_131 KX G c) (And.intro (fs_132 KX G c) (And.intro (fs_133 KX G c) True.intro))))))))))))))))))))))))))))))))))))))))))))))))) f x e
    rwa [Nat.zero_add] at this, mkAll_get (l := L.pg.mks) (M := mx P w K mg base) (L := L) (m := 60) (n := 40) (And.intro (fun _ => mk_0 KX G c) (And.intro (fun _ => mk_1 KX G c) (And.intro (fun _ => mk_2 KX G c) (And.intro (fun _ => mk_3 KX G c) (And.intro (fun _ => mk_4 KX G c) True.intro))))), mes_ok KX G c⟩
theorem runOk_of {pg : Pg} {m n fuel k f dr : Nat} (h : (lawRun pg m n fuel k f dr).goodB isRtT = true) : RunOk pg m n fuel k f dr := ⟨T.good_of h⟩
theorem run_n : (lawRun pg 60 40 5000 40 134 1).drN = some 9 := by decide +kernel
theorem run_n0 : ((lawRun pg 60 40 5000 40 134 1).at_ 0).drN = some 6 := by decide +kernel
theorem run_0_0 : (((lawRun pg 60 40 5000 40 134 1).at_ 0).at_ 0).goodB isRtT = true := by decide +kernel
theorem run_0_1 : (((lawRun pg 60 40 5000 40 134 1).at_ 0).at_ 1).goodB isRtT = true := by decide +kernel
theorem run_0_2 : (((lawRun pg 60 40 5000 40 134 1).at_ 0).at_ 2).goodB isRtT = true := by decide +kernel
theorem run_0_3 : (((lawRun pg 60 40 5000 40 134 1).at_ 0).at_ 3).goodB isRtT = true := by decide +kernel
theorem run_0_4 : (((lawRun pg 60 40 5000 40 134 1).at_ 0).at_ 4).goodB isRtT = true := by decide +kernel
theorem run_0_5 : (((lawRun pg 60 40 5000 40 134 1).at_ 0).at_ 5).goodB isRtT = true := by decide +kernel
theorem run_0 : ((lawRun pg 60 40 5000 40 134 1).at_ 0).goodB isRtT = true := T.goodB_at run_n0 fun i h => match i, h with
  | 0, _ => run_0_0
  | 1, _ => run_0_1
  | 2, _ => run_0_2
  | 3, _ => run_0_3
  | 4, _ => run_0_4
  | 5, _ => run_0_5
  | k + 6, h => absurd h (by omega)
theorem run_n1 : ((lawRun pg 60 40 5000 40 134 1).at_ 1).drN = some 6 := by decide +kernel
theorem run_1_0 : (((lawRun pg 60 40 5000 40 134 1).at_ 1).at_ 0).goodB isRtT = true := by decide +kernel
theorem run_1_1 : (((lawRun pg 60 40 5000 40 134 1).at_ 1).at_ 1).goodB isRtT = true := by decide +kernel
theorem run_1_2 : (((lawRun pg 60 40 5000 40 134 1).at_ 1).at_ 2).goodB isRtT = true := by decide +kernel
theorem run_1_3 : (((lawRun pg 60 40 5000 40 134 1).at_ 1).at_ 3).goodB isRtT = true := by decide +kernel
theorem run_1_4 : (((lawRun pg 60 40 5000 40 134 1).at_ 1).at_ 4).goodB isRtT = true := by decide +kernel
theorem run_1_5 : (((lawRun pg 60 40 5000 40 134 1).at_ 1).at_ 5).goodB isRtT = true := by decide +kernel
theorem run_1 : ((lawRun pg 60 40 5000 40 134 1).at_ 1).goodB isRtT = true := T.goodB_at run_n1 fun i h => match i, h with
  | 0, _ => run_1_0
  | 1, _ => run_1_1
  | 2, _ => run_1_2
  | 3, _ => run_1_3
  | 4, _ => run_1_4
  | 5, _ => run_1_5
  | k + 6, h => absurd h (by omega)
theorem run_n2 : ((lawRun pg 60 40 5000 40 134 1).at_ 2).drN = some 6 := by decide +kernel
theorem run_2_0 : (((lawRun pg 60 40 5000 40 134 1).at_ 2).at_ 0).goodB isRtT = true := by decide +kernel
theorem run_2_1 : (((lawRun pg 60 40 5000 40 134 1).at_ 2).at_ 1).goodB isRtT = true := by decide +kernel
theorem run_2_2 : (((lawRun pg 60 40 5000 40 134 1).at_ 2).at_ 2).goodB isRtT = true := by decide +kernel
theorem run_2_3 : (((lawRun pg 60 40 5000 40 134 1).at_ 2).at_ 3).goodB isRtT = true := by decide +kernel
theorem run_2_4 : (((lawRun pg 60 40 5000 40 134 1).at_ 2).at_ 4).goodB isRtT = true := by decide +kernel
theorem run_2_5 : (((lawRun pg 60 40 5000 40 134 1).at_ 2).at_ 5).goodB isRtT = true := by decide +kernel
theorem run_2 : ((lawRun pg 60 40 5000 40 134 1).at_ 2).goodB isRtT = true := T.goodB_at run_n2 fun i h => match i, h with
  | 0, _ => run_2_0
  | 1, _ => run_2_1
  | 2, _ => run_2_2
  | 3, _ => run_2_3
  | 4, _ => run_2_4
  | 5, _ => run_2_5
  | k + 6, h => absurd h (by omega)
theorem run_n3 : ((lawRun pg 60 40 5000 40 134 1).at_ 3).drN = some 6 := by decide +kernel
theorem run_3_0 : (((lawRun pg 60 40 5000 40 134 1).at_ 3).at_ 0).goodB isRtT = true := by decide +kernel
theorem run_3_1 : (((lawRun pg 60 40 5000 40 134 1).at_ 3).at_ 1).goodB isRtT = true := by decide +kernel
theorem run_3_2 : (((lawRun pg 60 40 5000 40 134 1).at_ 3).at_ 2).goodB isRtT = true := by decide +kernel
theorem run_3_3 : (((lawRun pg 60 40 5000 40 134 1).at_ 3).at_ 3).goodB isRtT = true := by decide +kernel
theorem run_3_4 : (((lawRun pg 60 40 5000 40 134 1).at_ 3).at_ 4).goodB isRtT = true := by decide +kernel
theorem run_3_5 : (((lawRun pg 60 40 5000 40 134 1).at_ 3).at_ 5).goodB isRtT = true := by decide +kernel
theorem run_3 : ((lawRun pg 60 40 5000 40 134 1).at_ 3).goodB isRtT = true := T.goodB_at run_n3 fun i h => match i, h with
  | 0, _ => run_3_0
  | 1, _ => run_3_1
  | 2, _ => run_3_2
  | 3, _ => run_3_3
  | 4, _ => run_3_4
  | 5, _ => run_3_5
  | k + 6, h => absurd h (by omega)
theorem run_n4 : ((lawRun pg 60 40 5000 40 134 1).at_ 4).drN = some 6 := by decide +kernel
theorem run_4_0 : (((lawRun pg 60 40 5000 40 134 1).at_ 4).at_ 0).goodB isRtT = true := by decide +kernel
theorem run_4_1 : (((lawRun pg 60 40 5000 40 134 1).at_ 4).at_ 1).goodB isRtT = true := by decide +kernel
theorem run_4_2 : (((lawRun pg 60 40 5000 40 134 1).at_ 4).at_ 2).goodB isRtT = true := by decide +kernel
theorem run_4_3 : (((lawRun pg 60 40 5000 40 134 1).at_ 4).at_ 3).goodB isRtT = true := by decide +kernel
theorem run_4_4 : (((lawRun pg 60 40 5000 40 134 1).at_ 4).at_ 4).goodB isRtT = true := by decide +kernel
theorem run_4_5 : (((lawRun pg 60 40 5000 40 134 1).at_ 4).at_ 5).goodB isRtT = true := by decide +kernel
theorem run_4 : ((lawRun pg 60 40 5000 40 134 1).at_ 4).goodB isRtT = true := T.goodB_at run_n4 fun i h => match i, h with
  | 0, _ => run_4_0
  | 1, _ => run_4_1
  | 2, _ => run_4_2
  | 3, _ => run_4_3
  | 4, _ => run_4_4
  | 5, _ => run_4_5
  | k + 6, h => absurd h (by omega)
theorem run_n5 : ((lawRun pg 60 40 5000 40 134 1).at_ 5).drN = some 6 := by decide +kernel
theorem run_5_0 : (((lawRun pg 60 40 5000 40 134 1).at_ 5).at_ 0).goodB isRtT = true := by decide +kernel
theorem run_5_1 : (((lawRun pg 60 40 5000 40 134 1).at_ 5).at_ 1).goodB isRtT = true := by decide +kernel
theorem run_5_2 : (((lawRun pg 60 40 5000 40 134 1).at_ 5).at_ 2).goodB isRtT = true := by decide +kernel
theorem run_5_3 : (((lawRun pg 60 40 5000 40 134 1).at_ 5).at_ 3).goodB isRtT = true := by decide +kernel
theorem run_5_4 : (((lawRun pg 60 40 5000 40 134 1).at_ 5).at_ 4).goodB isRtT = true := by decide +kernel
theorem run_5_5 : (((lawRun pg 60 40 5000 40 134 1).at_ 5).at_ 5).goodB isRtT = true := by decide +kernel
theorem run_5 : ((lawRun pg 60 40 5000 40 134 1).at_ 5).goodB isRtT = true := T.goodB_at run_n5 fun i h => match i, h with
  | 0, _ => run_5_0
  | 1, _ => run_5_1
  | 2, _ => run_5_2
  | 3, _ => run_5_3
  | 4, _ => run_5_4
  | 5, _ => run_5_5
  | k + 6, h => absurd h (by omega)
theorem run_n6 : ((lawRun pg 60 40 5000 40 134 1).at_ 6).drN = some 6 := by decide +kernel
theorem run_6_0 : (((lawRun pg 60 40 5000 40 134 1).at_ 6).at_ 0).goodB isRtT = true := by decide +kernel
theorem run_6_1 : (((lawRun pg 60 40 5000 40 134 1).at_ 6).at_ 1).goodB isRtT = true := by decide +kernel
theorem run_6_2 : (((lawRun pg 60 40 5000 40 134 1).at_ 6).at_ 2).goodB isRtT = true := by decide +kernel
theorem run_6_3 : (((lawRun pg 60 40 5000 40 134 1).at_ 6).at_ 3).goodB isRtT = true := by decide +kernel
theorem run_6_4 : (((lawRun pg 60 40 5000 40 134 1).at_ 6).at_ 4).goodB isRtT = true := by decide +kernel
theorem run_6_5 : (((lawRun pg 60 40 5000 40 134 1).at_ 6).at_ 5).goodB isRtT = true := by decide +kernel
theorem run_6 : ((lawRun pg 60 40 5000 40 134 1).at_ 6).goodB isRtT = true := T.goodB_at run_n6 fun i h => match i, h with
  | 0, _ => run_6_0
  | 1, _ => run_6_1
  | 2, _ => run_6_2
  | 3, _ => run_6_3
  | 4, _ => run_6_4
  | 5, _ => run_6_5
  | k + 6, h => absurd h (by omega)
theorem run_n7 : ((lawRun pg 60 40 5000 40 134 1).at_ 7).drN = some 6 := by decide +kernel
theorem run_7_0 : (((lawRun pg 60 40 5000 40 134 1).at_ 7).at_ 0).goodB isRtT = true := by decide +kernel
theorem run_7_1 : (((lawRun pg 60 40 5000 40 134 1).at_ 7).at_ 1).goodB isRtT = true := by decide +kernel
theorem run_7_2 : (((lawRun pg 60 40 5000 40 134 1).at_ 7).at_ 2).goodB isRtT = true := by decide +kernel
theorem run_7_3 : (((lawRun pg 60 40 5000 40 134 1).at_ 7).at_ 3).goodB isRtT = true := by decide +kernel
theorem run_7_4 : (((lawRun pg 60 40 5000 40 134 1).at_ 7).at_ 4).goodB isRtT = true := by decide +kernel
theorem run_7_5 : (((lawRun pg 60 40 5000 40 134 1).at_ 7).at_ 5).goodB isRtT = true := by decide +kernel
theorem run_7 : ((lawRun pg 60 40 5000 40 134 1).at_ 7).goodB isRtT = true := T.goodB_at run_n7 fun i h => match i, h with
  | 0, _ => run_7_0
  | 1, _ => run_7_1
  | 2, _ => run_7_2
  | 3, _ => run_7_3
  | 4, _ => run_7_4
  | 5, _ => run_7_5
  | k + 6, h => absurd h (by omega)
theorem run_n8 : ((lawRun pg 60 40 5000 40 134 1).at_ 8).drN = some 6 := by decide +kernel
theorem run_8_0 : (((lawRun pg 60 40 5000 40 134 1).at_ 8).at_ 0).goodB isRtT = true := by decide +kernel
theorem run_8_1 : (((lawRun pg 60 40 5000 40 134 1).at_ 8).at_ 1).goodB isRtT = true := by decide +kernel
theorem run_8_2 : (((lawRun pg 60 40 5000 40 134 1).at_ 8).at_ 2).goodB isRtT = true := by decide +kernel
theorem run_8_3 : (((lawRun pg 60 40 5000 40 134 1).at_ 8).at_ 3).goodB isRtT = true := by decide +kernel
theorem run_8_4 : (((lawRun pg 60 40 5000 40 134 1).at_ 8).at_ 4).goodB isRtT = true := by decide +kernel
theorem run_8_5 : (((lawRun pg 60 40 5000 40 134 1).at_ 8).at_ 5).goodB isRtT = true := by decide +kernel
theorem run_8 : ((lawRun pg 60 40 5000 40 134 1).at_ 8).goodB isRtT = true := T.goodB_at run_n8 fun i h => match i, h with
  | 0, _ => run_8_0
  | 1, _ => run_8_1
  | 2, _ => run_8_2
  | 3, _ => run_8_3
  | 4, _ => run_8_4
  | 5, _ => run_8_5
  | k + 6, h => absurd h (by omega)
theorem run_okB : (lawRun pg 60 40 5000 40 134 1).goodB isRtT = true := T.goodB_at run_n fun i h => match i, h with
  | 0, _ => run_0
  | 1, _ => run_1
  | 2, _ => run_2
  | 3, _ => run_3
  | 4, _ => run_4
  | 5, _ => run_5
  | 6, _ => run_6
  | 7, _ => run_7
  | 8, _ => run_8
  | k + 9, h => absurd h (by omega)
theorem run_ok : RunOk pg 60 40 5000 40 134 1 := runOk_of run_okB
theorem law_ok (KX : K.In h) (G : h.Ns mainGlobals mg) (c : He.SaysX fa fn ts [] moreB w h K) : ∃ fd : FuncData, FunD K "law" "law" (defArgs s_law) (defBody s_law) (defScope s_law) [] [] (He.ga K "law") fd ∧ FnOk P w K mg base (L2.CX P w) 85 (He.ga K "law") fd ["_law_script"] (spLaw K) := by
  obtain ⟨fd, F⟩ := c.t.d.def_ 51 (d := d_law) rfl
  obtain ⟨fdb, FB⟩ := c.t.d.def_ 45 (d := d_law_begin) rfl
  have PR := prg (P := P) (w := w) (mg := mg) (base := base) KX G c
  refine ⟨fd, F, law_ok0 (M := mx P w K mg base) (L := L) (N := ["_law_script", "_law_draws", "_law_what", "_law_thing"]) (F := F_law_k11) (f := 134) (dr := 1) (fuel := 5000) (prg_ok PR 40) PR.fac F ⟨rfl, rfl, rfl, by decide +kernel, rfl, by decide +kernel, by decide +kernel⟩ (begin_ok0 FB ⟨rfl, rfl, rfl, by decide +kernel, rfl, by decide +kernel, by decide +kernel⟩ (He.free_ok KX G (faHas_ok c.t.d (by decide +kernel))) (by decide +kernel) (by decide +kernel) (by decide +kernel) (by decide +kernel)) (He.glo_ok KX G (faHas_ok c.t.d (f := .glo "_law_begin") (by decide +kernel))) FB.kp (FB.bindsN fun _ _ _ _ _ _ us hl => match us, hl with | [_], _ => rfl) rfl rfl rfl rfl (by decide) (by decide +kernel) (by decide +kernel) (by decide +kernel) (by decide +kernel) (by decide +kernel) (by decide +kernel) (by decide +kernel) run_ok⟩
end
end Wt
open PySem PySem.W PySem.Calls PyProof.Rows
set_option maxRecDepth 100000 in
theorem PySem.Challenge.cw_wordturns_k11_errors_are_apart_holds : PySem.Challenge.rw_wordturns_k11_errors_are_apart.Holds := by
  w_on; o_law
  refine HandSHeadRun.head_any (r := OpenLaw.row PySem.Challenge.rw_wordturns_k11_errors_are_apart) (q := view (OpenLaw.row PySem.Challenge.rw_wordturns_k11_errors_are_apart).prog [79]) (H := Wt.hk) (ob := Wt.ob) (M := 8000) (loose := Wt.loose) (d := HandSHeadRun.topDef (OpenLaw.row PySem.Challenge.rw_wordturns_k11_errors_are_apart).prog 79) (kwd := []) Wt.ob_eq
    (by kernel_rfl) (fun s => by kernel_rfl) Wt.run (by kernel_rfl) (by kernel_rfl) (by kernel_rfl) (by rfl) (by first | assumption | decide +kernel) (by decide +kernel) ⟨rfl, rfl, rfl, rfl, rfl, by decide +kernel⟩ ?hw ?hc
  case hw => w_witness2
  case hc =>
    refine LamX.walk_ofTsE (l := PySem.Challenge.rw_wordturns_k11_errors_are_apart) (n := 63) (k := 85) (x := "_law_script") (CX := fun w => L2.CX (PySem.Challenge.rw_wordturns_k11_errors_are_apart).prog w) rfl (by decide) (by kernel_rfl) ⟨rfl, by decide, by decide⟩ ?F (fun w H s e s' z => Yl.cx_no z)
    intro w mg fa h Y G hmg0
    obtain ⟨K, KX, c⟩ := Y
    have hmg : mg ("law" : PySem.Str) = some (.ref fa) := by
      have e : (HandSHeadRun.topDef (OpenLaw.row PySem.Challenge.rw_wordturns_k11_errors_are_apart).prog 79).name = ("law" : PySem.Str) := by kernel_rfl
      rw [← e]
      exact hmg0
    have e2 := hmg.symm.trans (He.glo_ok KX G (Yl.faHas_ok c.t.d (f := .glo "law") (by decide +kernel)))
    cases e2
    obtain ⟨fd, FD, _⟩ := Wt.law_ok (P := (PySem.Challenge.rw_wordturns_k11_errors_are_apart).prog) (w := w) (base := h) KX G c
    have hb := L2.FunD.bindsA (ps := ["_law_script"]) FD fun _ _ _ _ _ _ us hl => match us, hl with | [_], _ => rfl
    refine ⟨K, KX, fd, [], Yl.spLaw K, (fun p hp => nomatch hp), (fun p hp => nomatch hp), (fun p hp => nomatch hp), fun s u => hb s [u] rfl, fun H a ns hl _ _ hS => ⟨a, ns, rfl, hS, fun _ => rfl⟩, fun base' _ _ _ => ?_⟩
    obtain ⟨fd2, FD2, F2⟩ := Wt.law_ok (P := (PySem.Challenge.rw_wordturns_k11_errors_are_apart).prog) (w := w) (base := base') KX G c
    have e3 : fd2 = fd := Yl.fd_eq FD2 FD
    subst e3
    exact F2
